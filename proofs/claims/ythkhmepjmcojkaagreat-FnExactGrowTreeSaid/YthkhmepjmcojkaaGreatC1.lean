/- What each function answers by the evaluator, and the law; for each answer its own conditions stand ahead of it. -/
import Derived.Test.YthkhmepjmcojkaaGreatC0
import Derived.Test.YthkhmepjmcojkaaGreatEvB2
import Derived.IntWalk
set_option linter.all false
namespace Go.Pe
open Go
theorem R_impl_AllRows (n : Nat) (h1 : 1 ≤ n) (h2 : n ≤ 40) : RUN T k_impl_AllRows [iv n] = some ([.own 1 (ints (upl n))], []) := by
  have e := R_impl_within' n 1 40
  rw [within_iff.mpr (by omega)] at e
  have hr0 : roomFor 8 0 = true := by decide
  have hr1 : roomFor 8 1 = true := by decide
  refine RUN_W T_impl_AllRows rfl ?_
  simp [-getElem?_pos, k_impl_AllRows_ic, k_impl_AllRows_rv, -R_impl_within, e, hr0]
  refine W_loop (fun k st => ∃ (i o e : Nat), i + k = n ∧ st.V 3 = .ref o none e 0 i ∧ st.V 10 = iv n ∧ st.V 11 = iv i ∧ o < st.nx ∧ st.S o = some (.row 1 (ints (upl i)))) ?_ n _ ⟨0, 0, 0, by omega, by simp⟩
  rintro k st ⟨i, o, ep, hi, v3, v10, v11, hox, hSo⟩
  obtain ⟨x1, x2, x3, x4⟩ := fr hox
  by_cases hlt : i < n
  · have hws := wS hlt (by omega : n ≤ 9223372036854775807)
    have hr8 := room8 (n := i + 1) (by omega)
    have hsn : ints (upl i) ++ [[iv (i : Int)]] = ints (upl (i + 1)) := by rw [ints_snoc, upl_s]
    simp [-getElem?_pos, k_impl_AllRows_b0, v3, v10, v11, hSo, hlt, hws, hr1, hr8, hsn, x1, x2, x3, x4]
    exact Rnd_n (k - 1) (by omega) ⟨i + 1, st.nx + 1, st.ep, by omega, by simp, by simp [v10], by simp, by simp, by simp⟩
  · have hin : i = n := by omega
    subst hin
    simp [-getElem?_pos, k_impl_AllRows_b0, v3, v10, v11, hSo, hlt]

theorem R_spec_AllRows (n : Nat) (h2 : n ≤ 40) : RUN T k_spec_AllRows [iv n] = some ([.own 1 (ints (upl n))], []) := by
  have hr0 : roomFor 8 0 = true := by decide
  have hr1 : roomFor 8 1 = true := by decide
  refine RUN_W T_spec_AllRows rfl ?_
  simp [-getElem?_pos, k_spec_AllRows_ic, k_spec_AllRows_rv, hr0]
  refine W_loop (fun k st => ∃ (i o e : Nat), i + k = n ∧ st.V 0 = iv n ∧ st.V 3 = .ref o none e 0 i ∧ st.V 4 = iv i ∧ o < st.nx ∧ st.S o = some (.row 1 (ints (upl i)))) ?_ n _ ⟨0, 0, 0, by omega, by simp⟩
  rintro k st ⟨i, o, ep, hi, v0, v3, v4, hox, hSo⟩
  obtain ⟨x1, x2, x3, x4⟩ := fr hox
  have h3 : (n : Int) ≤ 40 := by omega
  by_cases hlt : i < n
  · have hws := wS hlt (by omega : n ≤ 9223372036854775807)
    have hr8 := room8 (n := i + 1) (by omega)
    have hsn : ints (upl i) ++ [[iv (i : Int)]] = ints (upl (i + 1)) := by rw [ints_snoc, upl_s]
    simp [-getElem?_pos, k_spec_AllRows_b0, v0, v3, v4, hSo, hlt, h3, hws, hr1, hr8, hsn, x1, x2, x3, x4]
    exact Rnd_n (k - 1) (by omega) ⟨i + 1, st.nx + 1, st.ep, by omega, by simp [v0], by simp, by simp, by simp, by simp⟩
  · have hin : i = n := by omega
    subst hin
    simp [-getElem?_pos, k_spec_AllRows_b0, v0, v3, v4, hSo, hlt]

def sumQ (g rows : List Int) (i : Nat) : Int := ((rows.take i).map fun r => (atI g r).getD 0).sum

theorem sumQ_s {g rows : List Int} {i : Nat} {r x : Int} (hr : rows[i]? = some r) (hx : atI g r = some x) : sumQ g rows (i + 1) = sumQ g rows i + x := by
  unfold sumQ
  rw [List.take_succ, hr]
  simp [hx]

theorem sumQ_b {g rows : List Int} (hg : ∀ x ∈ g, -2199023255552 ≤ x ∧ x ≤ 2199023255552) : ∀ i : Nat, i ≤ rows.length → -2199023255552 * (i : Int) ≤ sumQ g rows i ∧ sumQ g rows i ≤ 2199023255552 * (i : Int)
  | 0, _ => by simp [sumQ]
  | i + 1, h => by
    have ih := sumQ_b (rows := rows) hg i (by omega)
    obtain ⟨r, hr⟩ : ∃ r, rows[i]? = some r := ⟨_, List.getElem?_eq_getElem (by omega)⟩
    have e : sumQ g rows (i + 1) = sumQ g rows i + (atI g r).getD 0 := by
      unfold sumQ
      rw [List.take_succ, hr]
      simp
    rw [e]
    cases hx : atI g r with
    | none => simp only [Option.getD_none]; omega
    | some x =>
      obtain ⟨_, _, h3, _⟩ := atI_some hx
      have := hg x (List.mem_of_getElem? h3)
      simp only [Option.getD_some]; omega

theorem sumQ_all (g rows : List Int) : sumS g rows = ⟨rows.length, sumQ g rows rows.length⟩ := by simp [sumS, sumQ]

theorem sumS_in {g rows : List Int} (hg : ∀ x ∈ g, -2199023255552 ≤ x ∧ x ≤ 2199023255552) (hl : rows.length ≤ 1048576) : slI (sumS g rows) := by
  rw [sumQ_all]
  have := sumQ_b (rows := rows) hg rows.length (by omega)
  exact ⟨by unfold inI; simp only; omega, by unfold inI; simp only; omega⟩

theorem R_impl_slotOf (g rows : List Int) (hg : ∀ x ∈ g, -2199023255552 ≤ x ∧ x ≤ 2199023255552) (hr : ∀ r ∈ rows, 0 ≤ r ∧ r < g.length) (hl : rows.length ≤ 1048576) : RUN T k_impl_slotOf [.sl 1 (ints g), .sl 1 (ints rows)] = some ([.agg (slc (sumS g rows))], []) := by
  rw [sumQ_all]
  refine RUN_W T_impl_slotOf rfl ?_
  simp [-getElem?_pos, k_impl_slotOf_ic, k_impl_slotOf_rv]
  refine W_loop (fun k st => ∃ i : Nat, i + k = rows.length ∧ st.V 0 = .sl 1 (ints g) ∧ st.V 4 = .ptr 0 none 0 0 0 ∧ st.V 5 = .ptr 1 none 0 0 0 ∧ st.V 11 = .sl 1 (ints rows) ∧ st.V 12 = iv rows.length ∧ st.V 13 = iv i ∧ 1 < st.nx ∧ st.S 1 = some (.box [iv rows.length, iv (sumQ g rows i)]) ∧ st.S 0 = some (.box [iv 0, iv 0])) ?_ rows.length _ ⟨0, by omega, by simp, by simp, by simp, by simp, by simp, by simp, by simp, by simp [sumQ], by simp⟩
  rintro k st ⟨i, hi, v0, v4, v5, v11, v12, v13, h1x, hS1, hS0⟩
  obtain ⟨z1, z2, z3, z4⟩ := fr h1x
  by_cases hlt : i < rows.length
  · obtain ⟨r, hrr⟩ : ∃ r, rows[i]? = some r := ⟨_, List.getElem?_eq_getElem hlt⟩
    obtain ⟨r0, r1⟩ := hr r (List.mem_of_getElem? hrr)
    obtain ⟨rn, rfl⟩ : ∃ n : Nat, r = n := ⟨r.toNat, by omega⟩
    obtain ⟨x, hx⟩ : ∃ x, g[rn]? = some x := ⟨_, List.getElem?_eq_getElem (by omega)⟩
    have hrn : rn < g.length := by omega
    have hr' := ints_get hrr
    have hx' := ints_get hx
    have hws := wS hlt (by omega : rows.length ≤ 9223372036854775807)
    have hs := sumQ_s (g := g) hrr (x := x) (by unfold atI; rw [if_pos r0]; simpa using hx)
    have b1 := sumQ_b (rows := rows) hg (i + 1) (by omega)
    rw [hs] at b1
    have hw := w64 (x := sumQ g rows i + x) (by omega) (by omega)
    simp [-getElem?_pos, k_impl_slotOf_b0, v0, v4, v5, v11, v12, v13, hS1, hS0, hlt, hr', hx', hrn, hw, hws, z1, z2, z3, z4]
    exact Rnd_n (k - 1) (by omega) ⟨i + 1, by omega, by simp [v0], by simp [v4], by simp [v5], by simp [v11], by simp [v12], by simp, by simp [h1x], by simp [hs], by simp [hS0]⟩
  · have hin : i = rows.length := by omega
    subst hin
    simp [-getElem?_pos, k_impl_slotOf_b0, v4, v5, v12, v13, hS1, hS0, slc]

theorem R_spec_l19Sum (g rows : List Int) (hg : ∀ x ∈ g, -2199023255552 ≤ x ∧ x ≤ 2199023255552) (hr : ∀ r ∈ rows, 0 ≤ r ∧ r < g.length) (hl : rows.length ≤ 1048576) : RUN T k_spec_l19Sum [.sl 1 (ints g), .sl 1 (ints rows)] = some ([.agg (slc (sumS g rows))], []) := by
  rw [sumQ_all]
  refine RUN_W T_spec_l19Sum rfl ?_
  simp [-getElem?_pos, k_spec_l19Sum_ic, k_spec_l19Sum_rv]
  refine W_loop (fun k st => ∃ i : Nat, i + k = rows.length ∧ st.V 0 = .sl 1 (ints g) ∧ st.V 1 = .sl 1 (ints rows) ∧ st.V 4 = .ptr 0 none 0 0 0 ∧ st.V 5 = .ptr 1 none 0 0 0 ∧ st.V 6 = iv i ∧ 1 < st.nx ∧ st.S 1 = some (.box [iv i, iv (sumQ g rows i)]) ∧ st.S 0 = some (.box [iv 0, iv 0])) ?_ rows.length _ ⟨0, by omega, by simp, by simp, by simp, by simp, by simp, by simp, by simp [sumQ], by simp⟩
  rintro k st ⟨i, hi, v0, v1, v4, v5, v6, h1x, hS1, hS0⟩
  obtain ⟨z1, z2, z3, z4⟩ := fr h1x
  by_cases hlt : i < rows.length
  · obtain ⟨r, hrr⟩ : ∃ r, rows[i]? = some r := ⟨_, List.getElem?_eq_getElem hlt⟩
    obtain ⟨r0, r1⟩ := hr r (List.mem_of_getElem? hrr)
    obtain ⟨rn, rfl⟩ : ∃ n : Nat, r = n := ⟨r.toNat, by omega⟩
    obtain ⟨x, hx⟩ : ∃ x, g[rn]? = some x := ⟨_, List.getElem?_eq_getElem (by omega)⟩
    have hrn : rn < g.length := by omega
    have hr' := ints_get hrr
    have hx' := ints_get hx
    have hws := wS hlt (by omega : rows.length ≤ 9223372036854775807)
    have hs := sumQ_s (g := g) hrr (x := x) (by unfold atI; rw [if_pos r0]; simpa using hx)
    have b1 := sumQ_b (rows := rows) hg (i + 1) (by omega)
    rw [hs] at b1
    have hw := w64 (x := sumQ g rows i + x) (by omega) (by omega)
    simp [-getElem?_pos, k_spec_l19Sum_b0, v0, v1, v4, v5, v6, hS1, hS0, hlt, hr', hx', hrn, hw, hws, z1, z2, z3, z4]
    exact Rnd_n (k - 1) (by omega) ⟨i + 1, by omega, by simp [v0], by simp [v1], by simp [v4], by simp [v5], by simp, by simp [h1x], by simp [hs], by simp [hS0]⟩
  · have hin : i = rows.length := by omega
    subst hin
    simp [-getElem?_pos, k_spec_l19Sum_b0, v1, v4, v5, v6, hS1, hS0, slc]

set_option maxHeartbeats 1000000 in
theorem R_impl_SplitRows (bins rows : List Int) (b : Int) (hb : bins.length ≤ 1048576) (hl : rows.length ≤ 1048576) : RUN T k_impl_SplitRows [.sl 1 (ints bins), .sl 1 (ints rows), iv b] = some ([.own 1 (ints (splL bins rows b)), .own 1 (ints (splR bins rows b))], []) := by
  have hr0 : roomFor 8 0 = true := by decide
  have hr1 : roomFor 8 1 = true := by decide
  have w1 := w64 (x := (bins.length : Int) - 1) (by omega) (by omega)
  refine RUN_W T_impl_SplitRows rfl ?_
  simp [-getElem?_pos, k_impl_SplitRows_ic, k_impl_SplitRows_rv, hr0]
  refine W_loop (fun k st => ∃ (i o e p e2 : Nat) (m l : List Int), i + k = rows.length ∧ m.length ≤ i ∧ l.length ≤ i ∧ m ++ (rows.drop i).filter (splB bins b) = splL bins rows b ∧ l ++ (rows.drop i).filter (splC bins b) = splR bins rows b ∧ st.V 0 = .sl 1 (ints bins) ∧ st.V 2 = iv b ∧ st.V 8 = .ref o none e 0 m.length ∧ st.V 9 = .ref p none e2 0 l.length ∧ st.V 14 = .sl 1 (ints rows) ∧ st.V 15 = iv rows.length ∧ st.V 16 = iv i ∧ ¬ o = p ∧ o < st.nx ∧ p < st.nx ∧ st.S o = some (.row 1 (ints m)) ∧ st.S p = some (.row 1 (ints l))) ?_ rows.length _ ⟨0, 0, 0, 1, 0, [], [], by omega, by simp, by simp, by simp [splL], by simp [splR], by simp⟩
  rintro k st ⟨i, o, e, p, e2, m, l, hi, hml, hll, hm, hl2, v0, v2, v8, v9, v14, v15, v16, hop, hox, hpx, hSo, hSp⟩
  obtain ⟨x1, x2, x3, x4⟩ := fr hox
  obtain ⟨z1, z2, z3, z4⟩ := fr hpx
  have hpo : ¬ p = o := fun e => hop e.symm
  by_cases hlt : i < rows.length
  · obtain ⟨r, hrr⟩ : ∃ r, rows[i]? = some r := ⟨_, List.getElem?_eq_getElem hlt⟩
    have hr' := ints_get hrr
    have hws := wS hlt (by omega : rows.length ≤ 9223372036854775807)
    have e1 := R_impl_within' r 0 ((bins.length : Int) - 1)
    rw [drop_cons hrr, List.filter_cons] at hm hl2
    have hB : splB bins b r = match atI bins r with
      | some x => decide (x ≤ b)
      | none => false := rfl
    have hC : splC bins b r = match atI bins r with
      | some x => !decide (x ≤ b)
      | none => false := rfl
    have r1 := room8 (n := m.length + 1) (by omega)
    have r2 := room8 (n := l.length + 1) (by omega)
    have s1 := ints_snoc m r
    have s2 := ints_snoc l r
    cases hx : atI bins r with
    | none =>
      have hn := atI_none hx
      rw [show within r 0 ((bins.length : Int) - 1) = false from by
        cases hw : within r 0 ((bins.length : Int) - 1) with
        | false => rfl
        | true => have := within_iff.mp hw; omega] at e1
      rw [hx] at hB hC
      rw [hB] at hm
      rw [hC] at hl2
      simp [-getElem?_pos, k_impl_SplitRows_b0, -R_impl_within, v0, v2, v8, v9, v14, v15, v16, hSo, hSp, hlt, hr', hws, w1, e1]
      exact Rnd_n (k - 1) (by omega) ⟨i + 1, o, e, p, e2, m, l, by omega, by omega, by omega, by simpa using hm, by simpa using hl2, by simp [v0], by simp [v2], by simp [v8], by simp [v9], by simp [v14], by simp [v15], by simp, hop, by simp [hox], by simp [hpx], by simp [hSo], by simp [hSp]⟩
    | some x =>
      obtain ⟨rn, rfl, hbr, hbl⟩ := atI_some hx
      rw [show within rn 0 ((bins.length : Int) - 1) = true from within_iff.mpr (by omega)] at e1
      rw [hx] at hB hC
      rw [hB] at hm
      rw [hC] at hl2
      have hb' := ints_get hbr
      by_cases hc : x ≤ b
      · have d1 : decide (x ≤ b) = true := decide_eq_true hc
        simp only [d1, if_true, Bool.not_true, Bool.false_eq_true, if_false] at hm hl2
        simp [-getElem?_pos, k_impl_SplitRows_b0, -R_impl_within, v0, v2, v8, v9, v14, v15, v16, hSo, hSp, hlt, hr', hws, w1, e1, hb', hbl, hc, hr1, r1, s1, hop, hpo, x1, x2, x3, x4, z1, z2, z3, z4]
        exact Rnd_n (k - 1) (by omega) ⟨i + 1, st.nx + 1, st.ep, p, e2, m ++ [(rn : Int)], l, by omega, by simp; omega, by omega, by simpa using hm, hl2, by simp [v0], by simp [v2], by simp, by simp [v9], by simp [v14], by simp [v15], by simp, by omega, by simp, by simp; omega, by simp, by simp [hop, hpo, x1, x2, x3, x4, z1, z2, z3, z4, hSp]⟩
      · have d1 : decide (x ≤ b) = false := decide_eq_false hc
        simp only [d1, if_true, Bool.not_false, Bool.false_eq_true, if_false] at hm hl2
        simp [-getElem?_pos, k_impl_SplitRows_b0, -R_impl_within, v0, v2, v8, v9, v14, v15, v16, hSo, hSp, hlt, hr', hws, w1, e1, hb', hbl, hc, hr1, r2, s2, hop, hpo, x1, x2, x3, x4, z1, z2, z3, z4]
        exact Rnd_n (k - 1) (by omega) ⟨i + 1, o, e, st.nx + 1, st.ep, m, l ++ [(rn : Int)], by omega, by omega, by simp; omega, hm, by simpa using hl2, by simp [v0], by simp [v2], by simp [v8], by simp, by simp [v14], by simp [v15], by simp, by omega, by simp; omega, by simp, by simp [hop, hpo, x1, x2, x3, x4, z1, z2, z3, z4, hSo], by simp⟩
  · rw [List.drop_eq_nil_of_le (by omega)] at hm hl2
    simp only [List.filter_nil, List.append_nil] at hm hl2
    subst hm hl2
    simp [-getElem?_pos, k_impl_SplitRows_b0, v8, v9, v14, v15, v16, hSo, hSp, hlt, hop, hpo]

set_option maxHeartbeats 1000000 in
theorem R_spec_SplitRows (bins rows : List Int) (b : Int) (hb : bins.length ≤ 1048576) (hl : rows.length ≤ 1048576) : RUN T k_spec_SplitRows [.sl 1 (ints bins), .sl 1 (ints rows), iv b] = some ([.own 1 (ints (splL bins rows b)), .own 1 (ints (splR bins rows b))], []) := by
  have hr0 : roomFor 8 0 = true := by decide
  have hr1 : roomFor 8 1 = true := by decide
  have w1 := w64 (x := (bins.length : Int) - 1) (by omega) (by omega)
  refine RUN_W T_spec_SplitRows rfl ?_
  simp [-getElem?_pos, k_spec_SplitRows_ic, k_spec_SplitRows_rv, hr0]
  refine W_loop (fun k st => ∃ (i o e p e2 : Nat) (m l : List Int), i + k = rows.length ∧ m.length ≤ i ∧ l.length ≤ i ∧ m ++ (rows.drop i).filter (splB bins b) = splL bins rows b ∧ l ++ (rows.drop i).filter (splC bins b) = splR bins rows b ∧ st.V 0 = .sl 1 (ints bins) ∧ st.V 1 = .sl 1 (ints rows) ∧ st.V 2 = iv b ∧ st.V 8 = .ref o none e 0 m.length ∧ st.V 9 = .ref p none e2 0 l.length ∧ st.V 10 = iv i ∧ ¬ o = p ∧ o < st.nx ∧ p < st.nx ∧ st.S o = some (.row 1 (ints m)) ∧ st.S p = some (.row 1 (ints l))) ?_ rows.length _ ⟨0, 0, 0, 1, 0, [], [], by omega, by simp, by simp, by simp [splL], by simp [splR], by simp⟩
  rintro k st ⟨i, o, e, p, e2, m, l, hi, hml, hll, hm, hl2, v0, v1, v2, v8, v9, v10, hop, hox, hpx, hSo, hSp⟩
  obtain ⟨x1, x2, x3, x4⟩ := fr hox
  obtain ⟨z1, z2, z3, z4⟩ := fr hpx
  have hpo : ¬ p = o := fun e => hop e.symm
  by_cases hlt : i < rows.length
  · obtain ⟨r, hrr⟩ : ∃ r, rows[i]? = some r := ⟨_, List.getElem?_eq_getElem hlt⟩
    have hr' := ints_get hrr
    have hws := wS hlt (by omega : rows.length ≤ 9223372036854775807)
    have e1 := R_spec_l1In' r 0 ((bins.length : Int) - 1)
    rw [drop_cons hrr, List.filter_cons] at hm hl2
    have hB : splB bins b r = match atI bins r with
      | some x => decide (x ≤ b)
      | none => false := rfl
    have hC : splC bins b r = match atI bins r with
      | some x => !decide (x ≤ b)
      | none => false := rfl
    have r1 := room8 (n := m.length + 1) (by omega)
    have r2 := room8 (n := l.length + 1) (by omega)
    have s1 := ints_snoc m r
    have s2 := ints_snoc l r
    cases hx : atI bins r with
    | none =>
      have hn := atI_none hx
      rw [show within r 0 ((bins.length : Int) - 1) = false from by
        cases hw : within r 0 ((bins.length : Int) - 1) with
        | false => rfl
        | true => have := within_iff.mp hw; omega] at e1
      rw [hx] at hB hC
      rw [hB] at hm
      rw [hC] at hl2
      simp [-getElem?_pos, k_spec_SplitRows_b0, -R_spec_l1In, v0, v1, v2, v8, v9, v10, hSo, hSp, hlt, hr', hws, w1, e1]
      exact Rnd_n (k - 1) (by omega) ⟨i + 1, o, e, p, e2, m, l, by omega, by omega, by omega, by simpa using hm, by simpa using hl2, by simp [v0], by simp [v1], by simp [v2], by simp [v8], by simp [v9], by simp, hop, by simp [hox], by simp [hpx], by simp [hSo], by simp [hSp]⟩
    | some x =>
      obtain ⟨rn, rfl, hbr, hbl⟩ := atI_some hx
      rw [show within rn 0 ((bins.length : Int) - 1) = true from within_iff.mpr (by omega)] at e1
      rw [hx] at hB hC
      rw [hB] at hm
      rw [hC] at hl2
      have hb' := ints_get hbr
      by_cases hc : x ≤ b
      · have d1 : decide (x ≤ b) = true := decide_eq_true hc
        simp only [d1, if_true, Bool.not_true, Bool.false_eq_true, if_false] at hm hl2
        simp [-getElem?_pos, k_spec_SplitRows_b0, -R_spec_l1In, v0, v1, v2, v8, v9, v10, hSo, hSp, hlt, hr', hws, w1, e1, hb', hbl, hc, hr1, r1, s1, hop, hpo, x1, x2, x3, x4, z1, z2, z3, z4]
        exact Rnd_n (k - 1) (by omega) ⟨i + 1, st.nx + 1, st.ep, p, e2, m ++ [(rn : Int)], l, by omega, by simp; omega, by omega, by simpa using hm, hl2, by simp [v0], by simp [v1], by simp [v2], by simp, by simp [v9], by simp, by omega, by simp, by simp; omega, by simp, by simp [hop, hpo, x1, x2, x3, x4, z1, z2, z3, z4, hSp]⟩
      · have d1 : decide (x ≤ b) = false := decide_eq_false hc
        simp only [d1, if_true, Bool.not_false, Bool.false_eq_true, if_false] at hm hl2
        simp [-getElem?_pos, k_spec_SplitRows_b0, -R_spec_l1In, v0, v1, v2, v8, v9, v10, hSo, hSp, hlt, hr', hws, w1, e1, hb', hbl, hc, hr1, r2, s2, hop, hpo, x1, x2, x3, x4, z1, z2, z3, z4]
        exact Rnd_n (k - 1) (by omega) ⟨i + 1, o, e, st.nx + 1, st.ep, m, l ++ [(rn : Int)], by omega, by omega, by simp; omega, hm, by simpa using hl2, by simp [v0], by simp [v1], by simp [v2], by simp [v8], by simp, by simp, by omega, by simp; omega, by simp, by simp [hop, hpo, x1, x2, x3, x4, z1, z2, z3, z4, hSo], by simp⟩
  · rw [List.drop_eq_nil_of_le (by omega)] at hm hl2
    simp only [List.filter_nil, List.append_nil] at hm hl2
    subst hm hl2
    simp [-getElem?_pos, k_spec_SplitRows_b0, v1, v8, v9, v10, hSo, hSp, hlt, hop, hpo]

def pnd (x : Pnd) : List PV := [.own 1 (ints x.r), iv x.b.lo, iv x.b.hi, iv x.l]

def pnds (l : List Pnd) : List (List PV) := l.map pnd

@[simp] theorem pnds_len (l : List Pnd) : (pnds l).length = l.length := by simp [pnds]

theorem pnds_get {l : List Pnd} {i : Nat} {x : Pnd} (h : l[i]? = some x) : (pnds l)[i]? = some [.own 1 (ints x.r), iv x.b.lo, iv x.b.hi, iv x.l] := by simp [pnds, h, pnd]

theorem pnds_sub {l : List Pnd} {i : Nat} {x : Pnd} (h : l[i]? = some x) : subRow (pnds l) i 0 = some (1, ints x.r) := by simp [subRow, pnds_get h]

theorem pnds_two (l : List Pnd) (x y : Pnd) : pnds l ++ [[.own 1 (ints x.r), iv x.b.lo, iv x.b.hi, iv x.l], [.own 1 (ints y.r), iv y.b.lo, iv y.b.hi, iv y.l]] = pnds (l ++ [x, y]) := by simp [pnds, pnd]

theorem atI_nat {α : Type} {l : List α} {i : Nat} {x : α} (h : l[i]? = some x) : atI l (i : Int) = some x := by
  unfold atI
  rw [if_pos (by omega)]
  simpa using h

theorem histR_full {b g rows : List Int} {k : Int} (h : (histR b g rows k).2 = true) : ((histR b g rows k).1.length : Int) = k := by
  unfold histR at h ⊢
  split
  · rename_i hk
    rw [if_pos hk] at h
    have hk' := within_iff.mp hk
    cases e : histG b g rows (List.replicate k.toNat ⟨0, 0⟩) with
    | none => rw [e] at h; cases h
    | some h' => have := histG_len _ _ _ e; simp at this; simp only; omega
  · rename_i hk
    rw [if_neg hk] at h; cases h

theorem nodeL_get {g rows : List Int} : ∀ (c v : List (List Int)) (H : List (List Sl)) (f : Nat) (h : List Sl), nodeL g rows c v = some H → H[f]? = some h → ∃ x y, c[f]? = some x ∧ v[f]? = some y ∧ h.length = x.length + 1
  | [], v, H, f, h, e, hf => by simp [nodeL] at e; subst e; simp at hf
  | x :: c, [], H, f, h, e, hf => by simp [nodeL] at e; subst e; simp at hf
  | x :: c, y :: v, H, f, h, e, hf => by
    simp only [nodeL] at e
    split at e
    · rename_i hp
      simp only [Option.map_eq_some_iff] at e
      obtain ⟨H', h1, rfl⟩ := e
      cases f with
      | zero =>
        simp at hf
        subst hf
        have := histR_full hp
        exact ⟨x, y, rfl, rfl, by omega⟩
      | succ f =>
        simp at hf
        obtain ⟨x', y', h2, h3, h4⟩ := nodeL_get c v H' f h h1 hf
        exact ⟨x', y', by simpa using h2, by simpa using h3, h4⟩
    · cases e

theorem nodeR_get {c v : List (List Int)} {g rows : List Int} {f : Nat} {h : List Sl} (hb : (nodeR c v g rows).2 = true) (hf : (nodeR c v g rows).1[f]? = some h) : ∃ x y, c[f]? = some x ∧ v[f]? = some y ∧ h.length = x.length + 1 := by
  unfold nodeR at hb hf
  split at hb
  · rename_i hg
    rw [if_pos hg] at hf
    cases e : nodeL g rows c v with
    | none => rw [e] at hb; cases hb
    | some H => rw [e] at hf; exact nodeL_get c v H f h e hf
  · cases hb

/-- What the best split of rows is like. -/
theorem part_facts {c v : List (List Int)} {g : List Int} {cfg : Cfg} {rows : List Int} {b : Bd} (h : (partR c v g cfg rows b).2 = true) : ∃ (f k : Nat) (x y : List Int) (z : Int), (partR c v g cfg rows b).1.f = f ∧ (partR c v g cfg rows b).1.b = k ∧ c[f]? = some x ∧ v[f]? = some y ∧ x[k]? = some z ∧ cndI (partR c v g cfg rows b).1 := by
  obtain ⟨h1, h2⟩ := partR_some h
  have hI := candOk_in (by have := nodeR_len c v g rows; omega) (fun l hl => Nat.le_trans ((nodeR_facts c v g rows).2 l hl) (by omega)) h1
  obtain ⟨f, k, l, e1, e2, e3, e4, _, _⟩ := h1
  obtain ⟨x, y, hx, hy, hl⟩ := nodeR_get h2 e3
  exact ⟨f, k, x, y, x[k]'(by omega), e1, e2, hx, hy, List.getElem?_eq_getElem (by omega), hI⟩

theorem bro_in {x lo hi : Int} (h : lo ≤ hi) : lo ≤ broV x lo hi ∧ broV x lo hi ≤ hi := by
  unfold broV
  split
  · omega
  · split <;> omega

theorem bndB_in {b : Bd} (h : bndB b = true) : b.lo ≤ b.hi ∧ -1099511627776 ≤ b.lo ∧ b.hi ≤ 1099511627776 := by
  unfold bndB at h
  simp only [Bool.and_eq_true, decide_eq_true_eq] at h
  have h1 := h.1.2
  have h2 := h.2
  unfold leafV at h1 h2
  have := within_iff.mp h1
  have := within_iff.mp h2
  omega

theorem leafO_in (s : Sl) (l : Int) (b : Bd) : -1099511627776 ≤ (leafO s l b).1 ∧ (leafO s l b).1 ≤ 1099511627776 := by
  unfold leafO
  split
  · rename_i h
    simp only [Bool.and_eq_true] at h
    obtain ⟨h1, h2, h3⟩ := bndB_in h.2
    have := bro_in (x := (fdv s.g (s.n + l)).1) h1
    simp only; omega
  · simp

theorem sideV_in (c : Cfg) (b : Bd) (x : Cnd) : inI (sideV c b x).1 ∧ inI (sideV c b x).2.1 := by
  have h1 := leafO_in x.a c.la b
  have h2 := leafO_in x.z c.la b
  unfold sideV inI
  split
  · simp only; omega
  · simp

/-- What the tree's row of nodes is held by. -/
def NC (S : Nat → Option Ob) (nx oq : Nat) (m : List Nd) (x : PV) : Prop := (x = .e0 ∧ m = []) ∨ ∃ o e, x = .ref o none e 0 m.length ∧ 5 < o ∧ o < nx ∧ ¬ o = oq ∧ S o = some (.row 5 (m.map nd))

theorem growG_none {c v : List (List Int)} {g : List Int} {cfg : Cfg} {n : Nat} {q : List Pnd} {i : Nat} {out : List Nd} (h : q[i]? = none) : growG c v g cfg n q i out = out := by
  cases n with
  | zero => rfl
  | succ n => rw [growG, h]

theorem growG_leaf {c v : List (List Int)} {g : List Int} {cfg : Cfg} {n : Nat} {q : List Pnd} {i : Nat} {out : List Nd} {x : Pnd} (h : q[i]? = some x) (hg : goes c v g cfg x = false) : growG c v g cfg (n + 1) q i out = growG c v g cfg n q (i + 1) (out ++ [leafG g cfg x]) := by
  rw [growG, h]; simp [hg]

theorem growG_cut {c v : List (List Int)} {g : List Int} {cfg : Cfg} {n : Nat} {q : List Pnd} {i : Nat} {out : List Nd} {x : Pnd} (h : q[i]? = some x) (hg : goes c v g cfg x = true) : growG c v g cfg (n + 1) q i out = growG c v g cfg n (q ++ [kidL c v cfg x (partR c v g cfg x.r x.b).1, kidR c v cfg x (partR c v g cfg x.r x.b).1]) (i + 1) (out ++ [cutN c (partR c v g cfg x.r x.b).1 q.length]) := by
  rw [growG, h]; simp [hg]

/-- What holds all along the way. -/
structure GI (c v : List (List Int)) (g : List Int) (cfg : Cfg) (n : Nat) (q : List Pnd) (i : Nat) (out : List Nd) : Prop where
  n1 : i + n = 32
  le : i ≤ q.length
  ql : q.length ≤ 2 * i + 1
  ol : out.length = i
  po : potS cfg.de (q.drop i) ≤ n
  ok : ∀ x ∈ q, pndOk g.length cfg.de x
  go : growG c v g cfg n q i out = growG c v g cfg 32 [rootP g] 0 []

theorem GI.leaf {c v : List (List Int)} {g : List Int} {cfg : Cfg} {n : Nat} {q : List Pnd} {i : Nat} {out : List Nd} {x : Pnd} (h : GI c v g cfg n q i out) (hx : q[i]? = some x) (hg : goes c v g cfg x = false) : 1 ≤ n ∧ GI c v g cfg (n - 1) q (i + 1) (out ++ [leafG g cfg x]) := by
  have hp := h.po
  rw [drop_cons hx, potS_c] at hp
  have := pot_pos (h.ok x (List.mem_of_getElem? hx)).2.2.2
  have hlt := (List.getElem?_eq_some_iff.mp hx).1
  obtain ⟨m, rfl⟩ : ∃ m, n = m + 1 := ⟨n - 1, by omega⟩
  have := h.n1
  have := h.ql
  exact ⟨by omega, by simp; omega, by omega, by omega, by simp [h.ol], by simp; omega, h.ok, by rw [← h.go, growG_leaf hx hg]; rfl⟩

theorem GI.cut {c v : List (List Int)} {g : List Int} {cfg : Cfg} {n : Nat} {q : List Pnd} {i : Nat} {out : List Nd} {x : Pnd} (h : GI c v g cfg n q i out) (hx : q[i]? = some x) (hg : goes c v g cfg x = true) : 1 ≤ n ∧ GI c v g cfg (n - 1) (q ++ [kidL c v cfg x (partR c v g cfg x.r x.b).1, kidR c v cfg x (partR c v g cfg x.r x.b).1]) (i + 1) (out ++ [cutN c (partR c v g cfg x.r x.b).1 q.length]) := by
  have hp := h.po
  have hlt := (List.getElem?_eq_some_iff.mp hx).1
  have hxo := h.ok x (List.mem_of_getElem? hx)
  rw [drop_cons hx, potS_c] at hp
  have hlv : x.l < cfg.de := by
    unfold goes at hg
    simp only [Bool.and_eq_true, decide_eq_true_eq] at hg
    exact hg.1
  have hk := pot_kid (y := kidL c v cfg x (partR c v g cfg x.r x.b).1) (z := kidR c v cfg x (partR c v g cfg x.r x.b).1) hlv rfl rfl
  obtain ⟨m, rfl⟩ : ∃ m, n = m + 1 := ⟨n - 1, by omega⟩
  have := h.n1
  have := h.ql
  obtain ⟨ko1, ko2⟩ := kid_ok (c := c) (v := v) (k := (partR c v g cfg x.r x.b).1) hxo hlv
  refine ⟨by omega, by simp; omega, by simp; omega, by simp; omega, by simp [h.ol], ?_, fun y hy => ?_, by rw [← h.go, growG_cut hx hg]; rfl⟩
  · rw [List.drop_append_of_le_length (by omega), potS_a, potS_c, potS_c]
    have : potS cfg.de ([] : List Pnd) = 0 := rfl
    simp only [Nat.add_sub_cancel]
    omega
  · rcases List.mem_append.mp hy with e | e
    · exact h.ok y e
    · simp only [List.mem_cons, List.not_mem_nil, or_false] at e
      rcases e with e | e
      · subst e; exact ko1
      · subst e; exact ko2

theorem GI.start {c v : List (List Int)} {g : List Int} {cfg : Cfg} (h : taskB c v g cfg = true) : GI c v g cfg 32 [rootP g] 0 [] := by
  obtain ⟨h1, h2, h3, h4⟩ := taskB_facts h
  obtain ⟨d1, d2⟩ := (cfgOk_de h2).1
  refine ⟨rfl, by simp, by simp, rfl, ?_, fun x hx => ?_, rfl⟩
  · simp only [List.drop_zero, potS, List.map_cons, List.map_nil, List.sum_cons, List.sum_nil, pot, rootP]
    have : (cfg.de + 1 - 0).toNat ≤ 5 := by omega
    have := Nat.pow_le_pow_right (n := 2) (by omega) this
    omega
  · simp only [List.mem_singleton] at hx
    subst hx
    refine ⟨fun r hr => ?_, by simp [rootP], by simp [rootP], d1⟩
    simp only [rootP, List.mem_map, List.mem_range] at hr
    obtain ⟨j, hj, rfl⟩ := hr
    omega

set_option maxHeartbeats 8000000 in
set_option maxRecDepth 8000 in
theorem R_impl_GrowTree (q : Bool) (c v : List (List Int)) (g : List Int) (cfg : Cfg) (hc : ∀ l ∈ c, l.length ≤ 1048576) (hv : ∀ l ∈ v, l.length ≤ 1048576) (hg : g.length ≤ 1048576) (hs : cfg.sg.length ≤ 1048576) (hgi : ∀ x ∈ g, inI x) : RUN T k_impl_GrowTree [.agg [.sl 1 (rws q c), .sl 1 (rws q v)], .sl 1 (ints g), cfS cfg] = some ([.agg [.own 5 ((growR c v g cfg).1.map nd)], bv (growR c v g cfg).2], []) := by
  have e1 := R_impl_TaskOk q c v g cfg (fun l hl => Nat.le_trans (hc l hl) (by omega)) (fun l hl => Nat.le_trans (hv l hl) (by omega)) (by omega) (by omega)
  simp only [cfgS] at e1
  cases ht : taskB c v g cfg with
  | false =>
    rw [ht] at e1
    have hR : growR c v g cfg = ([], false) := by unfold growR; rw [ht]; rfl
    rw [hR]
    refine RUN_W T_impl_GrowTree rfl ?_
    simp [-getElem?_pos, k_impl_GrowTree_ic, k_impl_GrowTree_rv, e1]
  | true =>
    rw [ht] at e1
    have hR : growR c v g cfg = (growG c v g cfg 32 [rootP g] 0 [], true) := by unfold growR; rw [if_pos ht]
    rw [hR]
    obtain ⟨R, hR'⟩ : ∃ R, R = growG c v g cfg 32 [rootP g] 0 [] := ⟨_, rfl⟩
    rw [← hR']
    obtain ⟨t1, t2, t3, t4⟩ := taskB_facts ht
    obtain ⟨t5, t6⟩ := gridB_rows t1
    have e2 := R_impl_RowsIn q c v
    have e3 := R_impl_AllRows (rowsIn v) t5 t6
    have e4 := R_impl_Free
    have hr48 : roomFor 48 1 = true := by decide
    have hG := GI.start ht
    have hroot : pnds [rootP g] = [[.own 1 (ints (upl (rowsIn v))), iv freeB.lo, iv freeB.hi, iv 0]] := by simp [pnds, pnd, rootP, t3, upl]
    simp only [bnd] at e4
    refine RUN_W T_impl_GrowTree rfl ?_
    simp [-getElem?_pos, k_impl_GrowTree_ic, k_impl_GrowTree_rv, e1, e2, e3, e4, hr48]
    refine W_loop (fun n st => ∃ (i o e : Nat) (Q : List Pnd) (out : List Nd) (x : PV), GI c v g cfg n Q i out ∧ st.V 1 = .sl 1 (ints g) ∧ st.V 3 = .ptr 0 none 0 0 0 ∧ st.V 5 = .ptr 1 none 0 0 0 ∧ st.V 6 = .ptr 2 none 0 0 0 ∧ st.V 8 = .ref o none e 0 Q.length ∧ st.V 9 = .ptr 5 none 0 0 0 ∧ st.V 10 = iv i ∧ 3 < o ∧ ¬ o = 5 ∧ o < st.nx ∧ 5 < st.nx ∧ st.S 0 = some (.box [.sl 1 (rws q c), .sl 1 (rws q v)]) ∧ st.S 1 = some (.box [iv cfg.ro, iv cfg.de, iv cfg.bi, iv cfg.la, iv cfg.rw, iv cfg.nu, iv cfg.dn, .sl 1 (ints cfg.sg)]) ∧ st.S 2 = some (.box [.e0]) ∧ st.S 5 = some (.box [x]) ∧ st.S o = some (.row 4 (pnds Q)) ∧ NC st.S st.nx o out x) ?_ 32 _ ⟨0, 4, 0, [rootP g], [], .e0, hG, ?_⟩
    · rintro n st ⟨i, o, ep, Q, out, x, hG, v1, v3, v5, v6, v8, v9, v10, ho3, ho5, hox, h5x, hS0, hS1, hS2, hS5, hSo, hN⟩
      obtain ⟨Fa01, Fa02, Fa03, Fa04⟩ := fr (show 0 < st.nx by omega)
      obtain ⟨Fb01, Fb02, Fb03, Fb04⟩ := fr (show 1 < st.nx by omega)
      obtain ⟨Fc01, Fc02, Fc03, Fc04⟩ := fr (show 2 < st.nx by omega)
      obtain ⟨Fd01, Fd02, Fd03, Fd04⟩ := fr (show 5 < st.nx by omega)
      obtain ⟨Fo01, Fo02, Fo03, Fo04⟩ := fr (show o < st.nx by omega)
      have N0a : (o = 0) = False := eq_false (by omega)
      have N0b : (0 = o) = False := eq_false (by omega)
      have N1a : (o = 1) = False := eq_false (by omega)
      have N1b : (1 = o) = False := eq_false (by omega)
      have N2a : (o = 2) = False := eq_false (by omega)
      have N2b : (2 = o) = False := eq_false (by omega)
      have N3a : (o = 5) = False := eq_false (by omega)
      have N3b : (5 = o) = False := eq_false (by omega)
      have y0 : (st.nx = 0) = False := eq_false (by omega)
      have y1 : (st.nx = 1) = False := eq_false (by omega)
      have y2 : (st.nx = 2) = False := eq_false (by omega)
      have y3 : (st.nx = 3) = False := eq_false (by omega)
      have y4 : (st.nx = 4) = False := eq_false (by omega)
      have y5 : (st.nx = 5) = False := eq_false (by omega)
      have na : ∀ a b : Nat, st.nx + a + b = st.nx + (a + b) := fun a b => Nat.add_assoc _ _ _
      by_cases hlt : i < Q.length
      · obtain ⟨p, hp⟩ : ∃ p, Q[i]? = some p := ⟨_, List.getElem?_eq_getElem hlt⟩
        have hp' := pnds_get hp
        have hps := pnds_sub hp
        have hpo := hG.ok p (List.mem_of_getElem? hp)
        obtain ⟨p1, p2, p3, p4⟩ := hpo
        have hn1 := hG.n1
        have hql := hG.ql
        have hws := wS hlt (by omega : Q.length ≤ 9223372036854775807)
        have f1 := R_impl_PartOf q c v g cfg p.r p.b hc hv hg (by omega) hs hgi
        have f2 := R_impl_slotOf g p.r t4 p1 (by omega)
        have f3 := R_impl_LeafOf (sumS g p.r) cfg.la p.b (sumS_in t4 (by omega))
        have hr40 : roomFor 40 1 = true := by decide
        have hr41 : roomFor 40 (out.length + 1) = true := by have := hG.ol; simp [roomFor]; omega
        have hsn := nds_snoc out (leafG g cfg p)
        simp only [leafG] at hsn
        simp only [bnd] at f1 f3
        obtain ⟨K, hK⟩ : ∃ K, K = partR c v g cfg p.r p.b := ⟨_, rfl⟩
        obtain ⟨G, hGg⟩ : ∃ G, G = goes c v g cfg p := ⟨_, rfl⟩
        have hG2 : G = (decide (p.l < cfg.de) && K.2) := by rw [hGg, hK]; rfl
        cases G with
        | false =>
          obtain ⟨m1, hG'⟩ := hG.leaf hp hGg.symm
          rw [← hK] at f1
          simp only [slc] at f2 f3
          by_cases hlv : p.l < cfg.de
          · have hK2 : K.2 = false := by simpa [hlv] using hG2.symm
            obtain ⟨K, Kb⟩ := K
            simp only at hK2 f1
            subst hK2
            simp only [cnd] at f1
            rcases hN with ⟨rfl, rfl⟩ | ⟨w, ew, rfl, hw5, hwx, hwo, hSw⟩
            · simp [-getElem?_pos, k_impl_GrowTree_b0, v1, v3, v5, v6, v8, v9, v10, hS0, hS1, hS2, hS5, hSo, hlt, hp', hps, hlv, f1, f2, f3, hws, hr40, Fa01, Fa02, Fa03, Fa04, Fb01, Fb02, Fb03, Fb04, Fc01, Fc02, Fc03, Fc04, Fd01, Fd02, Fd03, Fd04, Fo01, Fo02, Fo03, Fo04, N0a, N0b, N1a, N1b, N2a, N2b, N3a, N3b, y0, y1, y2, y3, y4, y5, na]
              refine Rnd_n (n - 1) (by omega) ⟨i + 1, o, ep, Q, [leafG g cfg p], .ref (st.nx + 3) none st.ep 0 1, hG', by simp [v1], by simp [v3], by simp [v5], by simp [v6], by simp [v8], by simp [v9], by simp, ho3, ho5, (by simp <;> omega), by simp <;> omega, by simp [Fa01, Fa02, Fa03, Fa04, Fb01, Fb02, Fb03, Fb04, Fc01, Fc02, Fc03, Fc04, Fd01, Fd02, Fd03, Fd04, Fo01, Fo02, Fo03, Fo04, N0a, N0b, N1a, N1b, N2a, N2b, N3a, N3b, y0, y1, y2, y3, y4, y5, na, hS0], by simp [Fa01, Fa02, Fa03, Fa04, Fb01, Fb02, Fb03, Fb04, Fc01, Fc02, Fc03, Fc04, Fd01, Fd02, Fd03, Fd04, Fo01, Fo02, Fo03, Fo04, N0a, N0b, N1a, N1b, N2a, N2b, N3a, N3b, y0, y1, y2, y3, y4, y5, na, hS1], by simp [Fa01, Fa02, Fa03, Fa04, Fb01, Fb02, Fb03, Fb04, Fc01, Fc02, Fc03, Fc04, Fd01, Fd02, Fd03, Fd04, Fo01, Fo02, Fo03, Fo04, N0a, N0b, N1a, N1b, N2a, N2b, N3a, N3b, y0, y1, y2, y3, y4, y5, na, hS2], by simp [Fa01, Fa02, Fa03, Fa04, Fb01, Fb02, Fb03, Fb04, Fc01, Fc02, Fc03, Fc04, Fd01, Fd02, Fd03, Fd04, Fo01, Fo02, Fo03, Fo04, N0a, N0b, N1a, N1b, N2a, N2b, N3a, N3b, y0, y1, y2, y3, y4, y5, na], by simp [Fa01, Fa02, Fa03, Fa04, Fb01, Fb02, Fb03, Fb04, Fc01, Fc02, Fc03, Fc04, Fd01, Fd02, Fd03, Fd04, Fo01, Fo02, Fo03, Fo04, N0a, N0b, N1a, N1b, N2a, N2b, N3a, N3b, y0, y1, y2, y3, y4, y5, na, hSo], .inr ⟨st.nx + 3, st.ep, by simp, by omega, by simp <;> omega, by omega, by simp [nd, leafG, y0, y1, y2, y3, y4, y5]⟩⟩
            · obtain ⟨Fw01, Fw02, Fw03, Fw04⟩ := fr (show w < st.nx by omega)
              have M0a : (w = 0) = False := eq_false (by omega)
              have M0b : (0 = w) = False := eq_false (by omega)
              have M1a : (w = 1) = False := eq_false (by omega)
              have M1b : (1 = w) = False := eq_false (by omega)
              have M2a : (w = 2) = False := eq_false (by omega)
              have M2b : (2 = w) = False := eq_false (by omega)
              have M3a : (w = 5) = False := eq_false (by omega)
              have M3b : (5 = w) = False := eq_false (by omega)
              have M4a : (w = o) = False := eq_false (by omega)
              have M4b : (o = w) = False := eq_false (by omega)
              simp [-getElem?_pos, k_impl_GrowTree_b0, v1, v3, v5, v6, v8, v9, v10, hS0, hS1, hS2, hS5, hSo, hSw, hlt, hp', hps, hlv, f1, f2, f3, hws, hr40, hr41, hsn, Fa01, Fa02, Fa03, Fa04, Fb01, Fb02, Fb03, Fb04, Fc01, Fc02, Fc03, Fc04, Fd01, Fd02, Fd03, Fd04, Fo01, Fo02, Fo03, Fo04, N0a, N0b, N1a, N1b, N2a, N2b, N3a, N3b, y0, y1, y2, y3, y4, y5, na, Fw01, Fw02, Fw03, Fw04, M0a, M0b, M1a, M1b, M2a, M2b, M3a, M3b, M4a, M4b]
              refine Rnd_n (n - 1) (by omega) ⟨i + 1, o, ep, Q, out ++ [leafG g cfg p], .ref (st.nx + 3) none st.ep 0 (out.length + 1), hG', by simp [v1], by simp [v3], by simp [v5], by simp [v6], by simp [v8], by simp [v9], by simp, ho3, ho5, (by simp <;> omega), by simp <;> omega, by simp [Fa01, Fa02, Fa03, Fa04, Fb01, Fb02, Fb03, Fb04, Fc01, Fc02, Fc03, Fc04, Fd01, Fd02, Fd03, Fd04, Fo01, Fo02, Fo03, Fo04, N0a, N0b, N1a, N1b, N2a, N2b, N3a, N3b, y0, y1, y2, y3, y4, y5, na, Fw01, Fw02, Fw03, Fw04, M0a, M0b, M1a, M1b, M2a, M2b, M3a, M3b, M4a, M4b, hS0], by simp [Fa01, Fa02, Fa03, Fa04, Fb01, Fb02, Fb03, Fb04, Fc01, Fc02, Fc03, Fc04, Fd01, Fd02, Fd03, Fd04, Fo01, Fo02, Fo03, Fo04, N0a, N0b, N1a, N1b, N2a, N2b, N3a, N3b, y0, y1, y2, y3, y4, y5, na, Fw01, Fw02, Fw03, Fw04, M0a, M0b, M1a, M1b, M2a, M2b, M3a, M3b, M4a, M4b, hS1], by simp [Fa01, Fa02, Fa03, Fa04, Fb01, Fb02, Fb03, Fb04, Fc01, Fc02, Fc03, Fc04, Fd01, Fd02, Fd03, Fd04, Fo01, Fo02, Fo03, Fo04, N0a, N0b, N1a, N1b, N2a, N2b, N3a, N3b, y0, y1, y2, y3, y4, y5, na, Fw01, Fw02, Fw03, Fw04, M0a, M0b, M1a, M1b, M2a, M2b, M3a, M3b, M4a, M4b, hS2], by simp [Fa01, Fa02, Fa03, Fa04, Fb01, Fb02, Fb03, Fb04, Fc01, Fc02, Fc03, Fc04, Fd01, Fd02, Fd03, Fd04, Fo01, Fo02, Fo03, Fo04, N0a, N0b, N1a, N1b, N2a, N2b, N3a, N3b, y0, y1, y2, y3, y4, y5, na, Fw01, Fw02, Fw03, Fw04, M0a, M0b, M1a, M1b, M2a, M2b, M3a, M3b, M4a, M4b], by simp [Fa01, Fa02, Fa03, Fa04, Fb01, Fb02, Fb03, Fb04, Fc01, Fc02, Fc03, Fc04, Fd01, Fd02, Fd03, Fd04, Fo01, Fo02, Fo03, Fo04, N0a, N0b, N1a, N1b, N2a, N2b, N3a, N3b, y0, y1, y2, y3, y4, y5, na, Fw01, Fw02, Fw03, Fw04, M0a, M0b, M1a, M1b, M2a, M2b, M3a, M3b, M4a, M4b, hSo], .inr ⟨st.nx + 3, st.ep, by simp, by omega, by simp <;> omega, by omega, by simp [nd, leafG, y0, y1, y2, y3, y4, y5]⟩⟩
          · rcases hN with ⟨rfl, rfl⟩ | ⟨w, ew, rfl, hw5, hwx, hwo, hSw⟩
            · simp [-getElem?_pos, k_impl_GrowTree_b0, v1, v3, v5, v6, v8, v9, v10, hS0, hS1, hS2, hS5, hSo, hlt, hp', hps, hlv, f2, f3, hws, hr40, Fa01, Fa02, Fa03, Fa04, Fb01, Fb02, Fb03, Fb04, Fc01, Fc02, Fc03, Fc04, Fd01, Fd02, Fd03, Fd04, Fo01, Fo02, Fo03, Fo04, N0a, N0b, N1a, N1b, N2a, N2b, N3a, N3b, y0, y1, y2, y3, y4, y5, na]
              refine Rnd_n (n - 1) (by omega) ⟨i + 1, o, ep, Q, [leafG g cfg p], .ref (st.nx + 3) none st.ep 0 1, hG', by simp [v1], by simp [v3], by simp [v5], by simp [v6], by simp [v8], by simp [v9], by simp, ho3, ho5, (by simp <;> omega), by simp <;> omega, by simp [Fa01, Fa02, Fa03, Fa04, Fb01, Fb02, Fb03, Fb04, Fc01, Fc02, Fc03, Fc04, Fd01, Fd02, Fd03, Fd04, Fo01, Fo02, Fo03, Fo04, N0a, N0b, N1a, N1b, N2a, N2b, N3a, N3b, y0, y1, y2, y3, y4, y5, na, hS0], by simp [Fa01, Fa02, Fa03, Fa04, Fb01, Fb02, Fb03, Fb04, Fc01, Fc02, Fc03, Fc04, Fd01, Fd02, Fd03, Fd04, Fo01, Fo02, Fo03, Fo04, N0a, N0b, N1a, N1b, N2a, N2b, N3a, N3b, y0, y1, y2, y3, y4, y5, na, hS1], by simp [Fa01, Fa02, Fa03, Fa04, Fb01, Fb02, Fb03, Fb04, Fc01, Fc02, Fc03, Fc04, Fd01, Fd02, Fd03, Fd04, Fo01, Fo02, Fo03, Fo04, N0a, N0b, N1a, N1b, N2a, N2b, N3a, N3b, y0, y1, y2, y3, y4, y5, na, hS2], by simp [Fa01, Fa02, Fa03, Fa04, Fb01, Fb02, Fb03, Fb04, Fc01, Fc02, Fc03, Fc04, Fd01, Fd02, Fd03, Fd04, Fo01, Fo02, Fo03, Fo04, N0a, N0b, N1a, N1b, N2a, N2b, N3a, N3b, y0, y1, y2, y3, y4, y5, na], by simp [Fa01, Fa02, Fa03, Fa04, Fb01, Fb02, Fb03, Fb04, Fc01, Fc02, Fc03, Fc04, Fd01, Fd02, Fd03, Fd04, Fo01, Fo02, Fo03, Fo04, N0a, N0b, N1a, N1b, N2a, N2b, N3a, N3b, y0, y1, y2, y3, y4, y5, na, hSo], .inr ⟨st.nx + 3, st.ep, by simp, by omega, by simp <;> omega, by omega, by simp [nd, leafG, y0, y1, y2, y3, y4, y5]⟩⟩
            · obtain ⟨Fw01, Fw02, Fw03, Fw04⟩ := fr (show w < st.nx by omega)
              have M0a : (w = 0) = False := eq_false (by omega)
              have M0b : (0 = w) = False := eq_false (by omega)
              have M1a : (w = 1) = False := eq_false (by omega)
              have M1b : (1 = w) = False := eq_false (by omega)
              have M2a : (w = 2) = False := eq_false (by omega)
              have M2b : (2 = w) = False := eq_false (by omega)
              have M3a : (w = 5) = False := eq_false (by omega)
              have M3b : (5 = w) = False := eq_false (by omega)
              have M4a : (w = o) = False := eq_false (by omega)
              have M4b : (o = w) = False := eq_false (by omega)
              simp [-getElem?_pos, k_impl_GrowTree_b0, v1, v3, v5, v6, v8, v9, v10, hS0, hS1, hS2, hS5, hSo, hSw, hlt, hp', hps, hlv, f2, f3, hws, hr40, hr41, hsn, Fa01, Fa02, Fa03, Fa04, Fb01, Fb02, Fb03, Fb04, Fc01, Fc02, Fc03, Fc04, Fd01, Fd02, Fd03, Fd04, Fo01, Fo02, Fo03, Fo04, N0a, N0b, N1a, N1b, N2a, N2b, N3a, N3b, y0, y1, y2, y3, y4, y5, na, Fw01, Fw02, Fw03, Fw04, M0a, M0b, M1a, M1b, M2a, M2b, M3a, M3b, M4a, M4b]
              refine Rnd_n (n - 1) (by omega) ⟨i + 1, o, ep, Q, out ++ [leafG g cfg p], .ref (st.nx + 3) none st.ep 0 (out.length + 1), hG', by simp [v1], by simp [v3], by simp [v5], by simp [v6], by simp [v8], by simp [v9], by simp, ho3, ho5, (by simp <;> omega), by simp <;> omega, by simp [Fa01, Fa02, Fa03, Fa04, Fb01, Fb02, Fb03, Fb04, Fc01, Fc02, Fc03, Fc04, Fd01, Fd02, Fd03, Fd04, Fo01, Fo02, Fo03, Fo04, N0a, N0b, N1a, N1b, N2a, N2b, N3a, N3b, y0, y1, y2, y3, y4, y5, na, Fw01, Fw02, Fw03, Fw04, M0a, M0b, M1a, M1b, M2a, M2b, M3a, M3b, M4a, M4b, hS0], by simp [Fa01, Fa02, Fa03, Fa04, Fb01, Fb02, Fb03, Fb04, Fc01, Fc02, Fc03, Fc04, Fd01, Fd02, Fd03, Fd04, Fo01, Fo02, Fo03, Fo04, N0a, N0b, N1a, N1b, N2a, N2b, N3a, N3b, y0, y1, y2, y3, y4, y5, na, Fw01, Fw02, Fw03, Fw04, M0a, M0b, M1a, M1b, M2a, M2b, M3a, M3b, M4a, M4b, hS1], by simp [Fa01, Fa02, Fa03, Fa04, Fb01, Fb02, Fb03, Fb04, Fc01, Fc02, Fc03, Fc04, Fd01, Fd02, Fd03, Fd04, Fo01, Fo02, Fo03, Fo04, N0a, N0b, N1a, N1b, N2a, N2b, N3a, N3b, y0, y1, y2, y3, y4, y5, na, Fw01, Fw02, Fw03, Fw04, M0a, M0b, M1a, M1b, M2a, M2b, M3a, M3b, M4a, M4b, hS2], by simp [Fa01, Fa02, Fa03, Fa04, Fb01, Fb02, Fb03, Fb04, Fc01, Fc02, Fc03, Fc04, Fd01, Fd02, Fd03, Fd04, Fo01, Fo02, Fo03, Fo04, N0a, N0b, N1a, N1b, N2a, N2b, N3a, N3b, y0, y1, y2, y3, y4, y5, na, Fw01, Fw02, Fw03, Fw04, M0a, M0b, M1a, M1b, M2a, M2b, M3a, M3b, M4a, M4b], by simp [Fa01, Fa02, Fa03, Fa04, Fb01, Fb02, Fb03, Fb04, Fc01, Fc02, Fc03, Fc04, Fd01, Fd02, Fd03, Fd04, Fo01, Fo02, Fo03, Fo04, N0a, N0b, N1a, N1b, N2a, N2b, N3a, N3b, y0, y1, y2, y3, y4, y5, na, Fw01, Fw02, Fw03, Fw04, M0a, M0b, M1a, M1b, M2a, M2b, M3a, M3b, M4a, M4b, hSo], .inr ⟨st.nx + 3, st.ep, by simp, by omega, by simp <;> omega, by omega, by simp [nd, leafG, y0, y1, y2, y3, y4, y5]⟩⟩
        | true =>
          obtain ⟨m1, hG'⟩ := hG.cut hp hGg.symm
          have t7 := cfgOk_de t2
          have hlv : p.l < cfg.de := by
            have h9 := hG2.symm
            simp only [Bool.and_eq_true, decide_eq_true_eq] at h9
            exact h9.1
          have hK2 : K.2 = true := by
            have h9 := hG2.symm
            simp only [Bool.and_eq_true, decide_eq_true_eq] at h9
            exact h9.2
          obtain ⟨kf, kb, X, Y, z, k1, k2, hX, hY, hz, kI⟩ := part_facts (c := c) (v := v) (g := g) (cfg := cfg) (rows := p.r) (b := p.b) (by rw [← hK]; exact hK2)
          rw [← hK] at f1 hG' k1 k2 kI
          obtain ⟨⟨kf', kb', ka, kz⟩, Kb⟩ := K
          simp only at hK2 k1 k2 kI f1 hG'
          subst hK2 k1 k2
          have hfc := (List.getElem?_eq_some_iff.mp hX).1
          have hfv := (List.getElem?_eq_some_iff.mp hY).1
          have hbx := (List.getElem?_eq_some_iff.mp hz).1
          have hX' := rws_get (q := q) hX
          have hY' := rws_get (q := q) hY
          have hz' := ints_get hz
          have f4 := R_impl_SideValues cfg p.b ⟨kf, kb, ka, kz⟩ kI
          have f5 := R_impl_SignFor cfg kf (by omega)
          have f6 := R_impl_SidesOf (signV cfg kf) p.b (sideV cfg p.b ⟨kf, kb, ka, kz⟩).1 (sideV cfg p.b ⟨kf, kb, ka, kz⟩).2.1 (sideV_in _ _ _).1 (sideV_in _ _ _).2
          have f7 := R_impl_SplitRows Y p.r kb (hv Y (List.mem_of_getElem? hY)) (by omega)
          have hkl : kidL c v cfg p ⟨kf, kb, ka, kz⟩ = ⟨splL Y p.r kb, (sidB (signV cfg kf) p.b (sideV cfg p.b ⟨kf, kb, ka, kz⟩).1 (sideV cfg p.b ⟨kf, kb, ka, kz⟩).2.1).1, p.l + 1⟩ := by
            unfold kidL
            simp only [atI_nat hY, Option.getD_some]
          have hkr : kidR c v cfg p ⟨kf, kb, ka, kz⟩ = ⟨splR Y p.r kb, (sidB (signV cfg kf) p.b (sideV cfg p.b ⟨kf, kb, ka, kz⟩).1 (sideV cfg p.b ⟨kf, kb, ka, kz⟩).2.1).2, p.l + 1⟩ := by
            unfold kidR
            simp only [atI_nat hY, Option.getD_some]
          have hcn : cutN c ⟨kf, kb, ka, kz⟩ Q.length = ⟨kf, z, Q.length, Q.length + 1, 0⟩ := by
            unfold cutN
            simp only [atI_nat hX, Option.getD_some, atI_nat hz]
          rw [hkl, hkr, hcn] at hG'
          clear hkl hkr hcn
          generalize sideV cfg p.b ⟨kf, kb, ka, kz⟩ = sv at *
          obtain ⟨sl, sr, sb⟩ := sv
          simp only at f4 f6 hG'
          generalize signV cfg kf = sg at *
          generalize sidB sg p.b sl sr = bb at *
          obtain ⟨⟨ll, lh⟩, ⟨rl, rh⟩⟩ := bb
          generalize splL Y p.r kb = L1 at *
          generalize splR Y p.r kb = R1 at *
          simp only [bnd, cnd] at f1 f4 f6 hG'
          have hQ := pnds_two Q ⟨L1, ⟨ll, lh⟩, p.l + 1⟩ ⟨R1, ⟨rl, rh⟩, p.l + 1⟩
          have hsn2 := nds_snoc out ⟨kf, z, Q.length, Q.length + 1, 0⟩
          simp only at hQ hsn2
          have wl := w64 (x := p.l + 1) (by omega) (by omega)
          have wq := w64 (x := (Q.length : Int) + 1) (by omega) (by omega)
          have hr482 : roomFor 48 2 = true := by decide
          have hr483 : roomFor 48 (Q.length + 2) = true := by simp [roomFor]; omega
          rcases hN with ⟨rfl, rfl⟩ | ⟨w, ew, rfl, hw5, hwx, hwo, hSw⟩
          · simp [-getElem?_pos, k_impl_GrowTree_b0, v1, v3, v5, v6, v8, v9, v10, hS0, hS1, hS2, hS5, hSo, hlt, hp', hps, hlv, f1, f4, f5, f6, f7, hX', hY', hz', hfc, hfv, hbx, wl, wq, hr482, hr483, hQ, hws, hr40, Fa01, Fa02, Fa03, Fa04, Fb01, Fb02, Fb03, Fb04, Fc01, Fc02, Fc03, Fc04, Fd01, Fd02, Fd03, Fd04, Fo01, Fo02, Fo03, Fo04, N0a, N0b, N1a, N1b, N2a, N2b, N3a, N3b, y0, y1, y2, y3, y4, y5, na]
            refine Rnd_n (n - 1) (by omega) ⟨i + 1, st.nx + 9, st.ep, (Q ++ [⟨L1, ⟨ll, lh⟩, p.l + 1⟩, ⟨R1, ⟨rl, rh⟩, p.l + 1⟩]), [⟨kf, z, Q.length, Q.length + 1, 0⟩], .ref (st.nx + 7) none st.ep 0 1, hG', by simp [v1], by simp [v3], by simp [v5], by simp [v6], by simp, by simp [v9], by simp, by omega, by omega, by simp, by simp <;> omega, by simp [Fa01, Fa02, Fa03, Fa04, Fb01, Fb02, Fb03, Fb04, Fc01, Fc02, Fc03, Fc04, Fd01, Fd02, Fd03, Fd04, Fo01, Fo02, Fo03, Fo04, N0a, N0b, N1a, N1b, N2a, N2b, N3a, N3b, y0, y1, y2, y3, y4, y5, na, hS0], by simp [Fa01, Fa02, Fa03, Fa04, Fb01, Fb02, Fb03, Fb04, Fc01, Fc02, Fc03, Fc04, Fd01, Fd02, Fd03, Fd04, Fo01, Fo02, Fo03, Fo04, N0a, N0b, N1a, N1b, N2a, N2b, N3a, N3b, y0, y1, y2, y3, y4, y5, na, hS1], by simp [Fa01, Fa02, Fa03, Fa04, Fb01, Fb02, Fb03, Fb04, Fc01, Fc02, Fc03, Fc04, Fd01, Fd02, Fd03, Fd04, Fo01, Fo02, Fo03, Fo04, N0a, N0b, N1a, N1b, N2a, N2b, N3a, N3b, y0, y1, y2, y3, y4, y5, na, hS2], by simp [Fa01, Fa02, Fa03, Fa04, Fb01, Fb02, Fb03, Fb04, Fc01, Fc02, Fc03, Fc04, Fd01, Fd02, Fd03, Fd04, Fo01, Fo02, Fo03, Fo04, N0a, N0b, N1a, N1b, N2a, N2b, N3a, N3b, y0, y1, y2, y3, y4, y5, na], by simp [Fa01, Fa02, Fa03, Fa04, Fb01, Fb02, Fb03, Fb04, Fc01, Fc02, Fc03, Fc04, Fd01, Fd02, Fd03, Fd04, Fo01, Fo02, Fo03, Fo04, N0a, N0b, N1a, N1b, N2a, N2b, N3a, N3b, y0, y1, y2, y3, y4, y5, na], .inr ⟨st.nx + 7, st.ep, by simp, by omega, by simp, by simp, by simp [nd, Fo03, Fo04, Fo01, Fo02, y0, y1, y2, y3, y4, y5]⟩⟩
          · obtain ⟨Fw01, Fw02, Fw03, Fw04⟩ := fr (show w < st.nx by omega)
            have M0a : (w = 0) = False := eq_false (by omega)
            have M0b : (0 = w) = False := eq_false (by omega)
            have M1a : (w = 1) = False := eq_false (by omega)
            have M1b : (1 = w) = False := eq_false (by omega)
            have M2a : (w = 2) = False := eq_false (by omega)
            have M2b : (2 = w) = False := eq_false (by omega)
            have M3a : (w = 5) = False := eq_false (by omega)
            have M3b : (5 = w) = False := eq_false (by omega)
            have M4a : (w = o) = False := eq_false (by omega)
            have M4b : (o = w) = False := eq_false (by omega)
            simp [-getElem?_pos, k_impl_GrowTree_b0, v1, v3, v5, v6, v8, v9, v10, hS0, hS1, hS2, hS5, hSo, hSw, hlt, hp', hps, hlv, f1, f4, f5, f6, f7, hX', hY', hz', hfc, hfv, hbx, wl, wq, hr482, hr483, hQ, hws, hr40, hr41, hsn2, Fa01, Fa02, Fa03, Fa04, Fb01, Fb02, Fb03, Fb04, Fc01, Fc02, Fc03, Fc04, Fd01, Fd02, Fd03, Fd04, Fo01, Fo02, Fo03, Fo04, N0a, N0b, N1a, N1b, N2a, N2b, N3a, N3b, y0, y1, y2, y3, y4, y5, na, Fw01, Fw02, Fw03, Fw04, M0a, M0b, M1a, M1b, M2a, M2b, M3a, M3b, M4a, M4b]
            refine Rnd_n (n - 1) (by omega) ⟨i + 1, st.nx + 9, st.ep, (Q ++ [⟨L1, ⟨ll, lh⟩, p.l + 1⟩, ⟨R1, ⟨rl, rh⟩, p.l + 1⟩]), (out ++ [⟨kf, z, Q.length, Q.length + 1, 0⟩]), .ref (st.nx + 7) none st.ep 0 (out.length + 1), hG', by simp [v1], by simp [v3], by simp [v5], by simp [v6], by simp, by simp [v9], by simp, by omega, by omega, by simp, by simp <;> omega, by simp [Fa01, Fa02, Fa03, Fa04, Fb01, Fb02, Fb03, Fb04, Fc01, Fc02, Fc03, Fc04, Fd01, Fd02, Fd03, Fd04, Fo01, Fo02, Fo03, Fo04, N0a, N0b, N1a, N1b, N2a, N2b, N3a, N3b, y0, y1, y2, y3, y4, y5, na, Fw01, Fw02, Fw03, Fw04, M0a, M0b, M1a, M1b, M2a, M2b, M3a, M3b, M4a, M4b, hS0], by simp [Fa01, Fa02, Fa03, Fa04, Fb01, Fb02, Fb03, Fb04, Fc01, Fc02, Fc03, Fc04, Fd01, Fd02, Fd03, Fd04, Fo01, Fo02, Fo03, Fo04, N0a, N0b, N1a, N1b, N2a, N2b, N3a, N3b, y0, y1, y2, y3, y4, y5, na, Fw01, Fw02, Fw03, Fw04, M0a, M0b, M1a, M1b, M2a, M2b, M3a, M3b, M4a, M4b, hS1], by simp [Fa01, Fa02, Fa03, Fa04, Fb01, Fb02, Fb03, Fb04, Fc01, Fc02, Fc03, Fc04, Fd01, Fd02, Fd03, Fd04, Fo01, Fo02, Fo03, Fo04, N0a, N0b, N1a, N1b, N2a, N2b, N3a, N3b, y0, y1, y2, y3, y4, y5, na, Fw01, Fw02, Fw03, Fw04, M0a, M0b, M1a, M1b, M2a, M2b, M3a, M3b, M4a, M4b, hS2], by simp [Fa01, Fa02, Fa03, Fa04, Fb01, Fb02, Fb03, Fb04, Fc01, Fc02, Fc03, Fc04, Fd01, Fd02, Fd03, Fd04, Fo01, Fo02, Fo03, Fo04, N0a, N0b, N1a, N1b, N2a, N2b, N3a, N3b, y0, y1, y2, y3, y4, y5, na, Fw01, Fw02, Fw03, Fw04, M0a, M0b, M1a, M1b, M2a, M2b, M3a, M3b, M4a, M4b], by simp [Fa01, Fa02, Fa03, Fa04, Fb01, Fb02, Fb03, Fb04, Fc01, Fc02, Fc03, Fc04, Fd01, Fd02, Fd03, Fd04, Fo01, Fo02, Fo03, Fo04, N0a, N0b, N1a, N1b, N2a, N2b, N3a, N3b, y0, y1, y2, y3, y4, y5, na, Fw01, Fw02, Fw03, Fw04, M0a, M0b, M1a, M1b, M2a, M2b, M3a, M3b, M4a, M4b], .inr ⟨st.nx + 7, st.ep, by simp, by omega, by simp, by simp, by simp [nd, Fo03, Fo04, Fo01, Fo02, y0, y1, y2, y3, y4, y5]⟩⟩
      · have hiq : i = Q.length := by have := hG.le; omega
        have hgo := hG.go
        rw [growG_none (List.getElem?_eq_none (by omega)), ← hR'] at hgo
        subst hgo
        have hol := hG.ol
        rcases hN with ⟨rfl, rfl⟩ | ⟨w, ew, rfl, hw5, hwx, hwo, hSw⟩
        · simp [-getElem?_pos, k_impl_GrowTree_b0, v1, v3, v5, v6, v8, v9, v10, hS0, hS1, hS2, hS5, hSo, hlt, Fa01, Fa02, Fa03, Fa04, Fb01, Fb02, Fb03, Fb04, Fc01, Fc02, Fc03, Fc04, Fd01, Fd02, Fd03, Fd04, Fo01, Fo02, Fo03, Fo04, N0a, N0b, N1a, N1b, N2a, N2b, N3a, N3b, y0, y1, y2, y3, y4, y5, na]
        · obtain ⟨Fw01, Fw02, Fw03, Fw04⟩ := fr (show w < st.nx by omega)
          have M0a : (w = 0) = False := eq_false (by omega)
          have M0b : (0 = w) = False := eq_false (by omega)
          have M1a : (w = 1) = False := eq_false (by omega)
          have M1b : (1 = w) = False := eq_false (by omega)
          have M2a : (w = 2) = False := eq_false (by omega)
          have M2b : (2 = w) = False := eq_false (by omega)
          have M3a : (w = 5) = False := eq_false (by omega)
          have M3b : (5 = w) = False := eq_false (by omega)
          have M4a : (w = o) = False := eq_false (by omega)
          have M4b : (o = w) = False := eq_false (by omega)
          simp [-getElem?_pos, k_impl_GrowTree_b0, v1, v3, v5, v6, v8, v9, v10, hS0, hS1, hS2, hS5, hSo, hSw, hlt, Fa01, Fa02, Fa03, Fa04, Fb01, Fb02, Fb03, Fb04, Fc01, Fc02, Fc03, Fc04, Fd01, Fd02, Fd03, Fd04, Fo01, Fo02, Fo03, Fo04, N0a, N0b, N1a, N1b, N2a, N2b, N3a, N3b, y0, y1, y2, y3, y4, y5, na, Fw01, Fw02, Fw03, Fw04, M0a, M0b, M1a, M1b, M2a, M2b, M3a, M3b, M4a, M4b]
    · refine ⟨by simp, by simp, by simp, by simp, by simp, by simp, by simp, by simp, by simp, by simp, by simp, by simp, by simp, by simp, by simp, by simp [hroot], .inl ⟨rfl, rfl⟩⟩

set_option maxHeartbeats 8000000 in
set_option maxRecDepth 8000 in
theorem R_spec_GrowTree (q : Bool) (c v : List (List Int)) (g : List Int) (cfg : Cfg) (hc : ∀ l ∈ c, l.length ≤ 1048576) (hv : ∀ l ∈ v, l.length ≤ 1048576) (hg : g.length ≤ 1048576) (hs : cfg.sg.length ≤ 1048576) (hgi : ∀ x ∈ g, inI x) : RUN T k_spec_GrowTree [.agg [.sl 1 (rws q c), .sl 1 (rws q v)], .sl 1 (ints g), cfS cfg] = some ([.agg [.own 5 ((growR c v g cfg).1.map nd)], bv (growR c v g cfg).2], []) := by
  have e1 := R_spec_TaskOk q c v g cfg (fun l hl => Nat.le_trans (hc l hl) (by omega)) (fun l hl => Nat.le_trans (hv l hl) (by omega)) (by omega) (by omega)
  simp only [cfgS] at e1
  cases ht : taskB c v g cfg with
  | false =>
    rw [ht] at e1
    have hR : growR c v g cfg = ([], false) := by unfold growR; rw [ht]; rfl
    rw [hR]
    refine RUN_W T_spec_GrowTree rfl ?_
    simp [-getElem?_pos, k_spec_GrowTree_ic, k_spec_GrowTree_rv, e1]
  | true =>
    rw [ht] at e1
    have hR : growR c v g cfg = (growG c v g cfg 32 [rootP g] 0 [], true) := by unfold growR; rw [if_pos ht]
    rw [hR]
    obtain ⟨R, hR'⟩ : ∃ R, R = growG c v g cfg 32 [rootP g] 0 [] := ⟨_, rfl⟩
    rw [← hR']
    obtain ⟨t1, t2, t3, t4⟩ := taskB_facts ht
    obtain ⟨t5, t6⟩ := gridB_rows t1
    have e3 := R_spec_AllRows g.length (by omega)
    have e4 := R_spec_Free
    have hr48 : roomFor 48 1 = true := by decide
    have hG := GI.start ht
    have hroot : pnds [rootP g] = [[.own 1 (ints (upl g.length)), iv freeB.lo, iv freeB.hi, iv 0]] := by simp [pnds, pnd, rootP, upl]
    simp only [bnd] at e4
    refine RUN_W T_spec_GrowTree rfl ?_
    simp [-getElem?_pos, k_spec_GrowTree_ic, k_spec_GrowTree_rv, e1, e3, e4, hr48]
    refine W_loop (fun n st => ∃ (i o e : Nat) (Q : List Pnd) (out : List Nd) (x : PV), GI c v g cfg n Q i out ∧ st.V 1 = .sl 1 (ints g) ∧ st.V 3 = .ptr 0 none 0 0 0 ∧ st.V 5 = .ptr 1 none 0 0 0 ∧ st.V 6 = .ptr 2 none 0 0 0 ∧ st.V 8 = .ptr 3 none 0 0 0 ∧ st.V 9 = .ref o none e 0 Q.length ∧ st.V 10 = iv i ∧ 4 < o ∧ o < st.nx ∧ 3 < st.nx ∧ st.S 0 = some (.box [.sl 1 (rws q c), .sl 1 (rws q v)]) ∧ st.S 1 = some (.box [iv cfg.ro, iv cfg.de, iv cfg.bi, iv cfg.la, iv cfg.rw, iv cfg.nu, iv cfg.dn, .sl 1 (ints cfg.sg)]) ∧ st.S 2 = some (.box [.e0]) ∧ st.S 3 = some (.box [x]) ∧ st.S o = some (.row 4 (pnds Q)) ∧ NC st.S st.nx o out x) ?_ 32 _ ⟨0, 5, 0, [rootP g], [], .e0, hG, ?_⟩
    · rintro n st ⟨i, o, ep, Q, out, x, hG, v1, v3, v5, v6, v8, v9, v10, ho3, hox, h3x, hS0, hS1, hS2, hS3, hSo, hN⟩
      obtain ⟨Fa01, Fa02, Fa03, Fa04⟩ := fr (show 0 < st.nx by omega)
      obtain ⟨Fb01, Fb02, Fb03, Fb04⟩ := fr (show 1 < st.nx by omega)
      obtain ⟨Fc01, Fc02, Fc03, Fc04⟩ := fr (show 2 < st.nx by omega)
      obtain ⟨Fd01, Fd02, Fd03, Fd04⟩ := fr (show 3 < st.nx by omega)
      obtain ⟨Fo01, Fo02, Fo03, Fo04⟩ := fr (show o < st.nx by omega)
      have N0a : (o = 0) = False := eq_false (by omega)
      have N0b : (0 = o) = False := eq_false (by omega)
      have N1a : (o = 1) = False := eq_false (by omega)
      have N1b : (1 = o) = False := eq_false (by omega)
      have N2a : (o = 2) = False := eq_false (by omega)
      have N2b : (2 = o) = False := eq_false (by omega)
      have N3a : (o = 3) = False := eq_false (by omega)
      have N3b : (3 = o) = False := eq_false (by omega)
      have y0 : (st.nx = 0) = False := eq_false (by omega)
      have y1 : (st.nx = 1) = False := eq_false (by omega)
      have y2 : (st.nx = 2) = False := eq_false (by omega)
      have y3 : (st.nx = 3) = False := eq_false (by omega)
      have y4 : (st.nx = 4) = False := eq_false (by omega)
      have y5 : (st.nx = 5) = False := eq_false (by omega)
      have na : ∀ a b : Nat, st.nx + a + b = st.nx + (a + b) := fun a b => Nat.add_assoc _ _ _
      by_cases hlt : i < Q.length
      · obtain ⟨p, hp⟩ : ∃ p, Q[i]? = some p := ⟨_, List.getElem?_eq_getElem hlt⟩
        have hp' := pnds_get hp
        have hps := pnds_sub hp
        have hpo := hG.ok p (List.mem_of_getElem? hp)
        obtain ⟨p1, p2, p3, p4⟩ := hpo
        have hn1 := hG.n1
        have hql := hG.ql
        have hws := wS hlt (by omega : Q.length ≤ 9223372036854775807)
        have f1 := R_spec_PartOf q c v g cfg p.r p.b hc hv hg (by omega) hs hgi
        have f2 := R_spec_l19Sum g p.r t4 p1 (by omega)
        have f3 := R_spec_LeafOf (sumS g p.r) cfg.la p.b (sumS_in t4 (by omega))
        have hr40 : roomFor 40 1 = true := by decide
        have hr41 : roomFor 40 (out.length + 1) = true := by have := hG.ol; simp [roomFor]; omega
        have hsn := nds_snoc out (leafG g cfg p)
        simp only [leafG] at hsn
        simp only [bnd] at f1 f3
        obtain ⟨K, hK⟩ : ∃ K, K = partR c v g cfg p.r p.b := ⟨_, rfl⟩
        obtain ⟨G, hGg⟩ : ∃ G, G = goes c v g cfg p := ⟨_, rfl⟩
        have hG2 : G = (decide (p.l < cfg.de) && K.2) := by rw [hGg, hK]; rfl
        cases G with
        | false =>
          obtain ⟨m1, hG'⟩ := hG.leaf hp hGg.symm
          rw [← hK] at f1
          simp only [slc] at f2 f3
          by_cases hlv : p.l < cfg.de
          · have hK2 : K.2 = false := by simpa [hlv] using hG2.symm
            obtain ⟨K, Kb⟩ := K
            simp only at hK2 f1
            subst hK2
            simp only [cnd] at f1
            have hge : ¬ cfg.de ≤ p.l := by omega
            rcases hN with ⟨rfl, rfl⟩ | ⟨w, ew, rfl, hw5, hwx, hwo, hSw⟩
            · simp [-getElem?_pos, k_spec_GrowTree_b0, v1, v3, v5, v6, v8, v9, v10, hS0, hS1, hS2, hS3, hSo, hlt, hp', hps, hge, f1, f2, f3, hws, hr40, Fa01, Fa02, Fa03, Fa04, Fb01, Fb02, Fb03, Fb04, Fc01, Fc02, Fc03, Fc04, Fd01, Fd02, Fd03, Fd04, Fo01, Fo02, Fo03, Fo04, N0a, N0b, N1a, N1b, N2a, N2b, N3a, N3b, y0, y1, y2, y3, y4, y5, na]
              refine Rnd_n (n - 1) (by omega) ⟨i + 1, o, ep, Q, [leafG g cfg p], .ref (st.nx + 3) none st.ep 0 1, hG', by simp [v1], by simp [v3], by simp [v5], by simp [v6], by simp [v8], by simp [v9], by simp, ho3, (by simp <;> omega), by simp <;> omega, by simp [Fa01, Fa02, Fa03, Fa04, Fb01, Fb02, Fb03, Fb04, Fc01, Fc02, Fc03, Fc04, Fd01, Fd02, Fd03, Fd04, Fo01, Fo02, Fo03, Fo04, N0a, N0b, N1a, N1b, N2a, N2b, N3a, N3b, y0, y1, y2, y3, y4, y5, na, hS0], by simp [Fa01, Fa02, Fa03, Fa04, Fb01, Fb02, Fb03, Fb04, Fc01, Fc02, Fc03, Fc04, Fd01, Fd02, Fd03, Fd04, Fo01, Fo02, Fo03, Fo04, N0a, N0b, N1a, N1b, N2a, N2b, N3a, N3b, y0, y1, y2, y3, y4, y5, na, hS1], by simp [Fa01, Fa02, Fa03, Fa04, Fb01, Fb02, Fb03, Fb04, Fc01, Fc02, Fc03, Fc04, Fd01, Fd02, Fd03, Fd04, Fo01, Fo02, Fo03, Fo04, N0a, N0b, N1a, N1b, N2a, N2b, N3a, N3b, y0, y1, y2, y3, y4, y5, na, hS2], by simp [Fa01, Fa02, Fa03, Fa04, Fb01, Fb02, Fb03, Fb04, Fc01, Fc02, Fc03, Fc04, Fd01, Fd02, Fd03, Fd04, Fo01, Fo02, Fo03, Fo04, N0a, N0b, N1a, N1b, N2a, N2b, N3a, N3b, y0, y1, y2, y3, y4, y5, na], by simp [Fa01, Fa02, Fa03, Fa04, Fb01, Fb02, Fb03, Fb04, Fc01, Fc02, Fc03, Fc04, Fd01, Fd02, Fd03, Fd04, Fo01, Fo02, Fo03, Fo04, N0a, N0b, N1a, N1b, N2a, N2b, N3a, N3b, y0, y1, y2, y3, y4, y5, na, hSo], .inr ⟨st.nx + 3, st.ep, by simp, by omega, by simp <;> omega, by omega, by simp [nd, leafG, y0, y1, y2, y3, y4, y5]⟩⟩
            · obtain ⟨Fw01, Fw02, Fw03, Fw04⟩ := fr (show w < st.nx by omega)
              have M0a : (w = 0) = False := eq_false (by omega)
              have M0b : (0 = w) = False := eq_false (by omega)
              have M1a : (w = 1) = False := eq_false (by omega)
              have M1b : (1 = w) = False := eq_false (by omega)
              have M2a : (w = 2) = False := eq_false (by omega)
              have M2b : (2 = w) = False := eq_false (by omega)
              have M3a : (w = 3) = False := eq_false (by omega)
              have M3b : (3 = w) = False := eq_false (by omega)
              have M4a : (w = o) = False := eq_false (by omega)
              have M4b : (o = w) = False := eq_false (by omega)
              simp [-getElem?_pos, k_spec_GrowTree_b0, v1, v3, v5, v6, v8, v9, v10, hS0, hS1, hS2, hS3, hSo, hSw, hlt, hp', hps, hge, f1, f2, f3, hws, hr40, hr41, hsn, Fa01, Fa02, Fa03, Fa04, Fb01, Fb02, Fb03, Fb04, Fc01, Fc02, Fc03, Fc04, Fd01, Fd02, Fd03, Fd04, Fo01, Fo02, Fo03, Fo04, N0a, N0b, N1a, N1b, N2a, N2b, N3a, N3b, y0, y1, y2, y3, y4, y5, na, Fw01, Fw02, Fw03, Fw04, M0a, M0b, M1a, M1b, M2a, M2b, M3a, M3b, M4a, M4b]
              refine Rnd_n (n - 1) (by omega) ⟨i + 1, o, ep, Q, out ++ [leafG g cfg p], .ref (st.nx + 3) none st.ep 0 (out.length + 1), hG', by simp [v1], by simp [v3], by simp [v5], by simp [v6], by simp [v8], by simp [v9], by simp, ho3, (by simp <;> omega), by simp <;> omega, by simp [Fa01, Fa02, Fa03, Fa04, Fb01, Fb02, Fb03, Fb04, Fc01, Fc02, Fc03, Fc04, Fd01, Fd02, Fd03, Fd04, Fo01, Fo02, Fo03, Fo04, N0a, N0b, N1a, N1b, N2a, N2b, N3a, N3b, y0, y1, y2, y3, y4, y5, na, Fw01, Fw02, Fw03, Fw04, M0a, M0b, M1a, M1b, M2a, M2b, M3a, M3b, M4a, M4b, hS0], by simp [Fa01, Fa02, Fa03, Fa04, Fb01, Fb02, Fb03, Fb04, Fc01, Fc02, Fc03, Fc04, Fd01, Fd02, Fd03, Fd04, Fo01, Fo02, Fo03, Fo04, N0a, N0b, N1a, N1b, N2a, N2b, N3a, N3b, y0, y1, y2, y3, y4, y5, na, Fw01, Fw02, Fw03, Fw04, M0a, M0b, M1a, M1b, M2a, M2b, M3a, M3b, M4a, M4b, hS1], by simp [Fa01, Fa02, Fa03, Fa04, Fb01, Fb02, Fb03, Fb04, Fc01, Fc02, Fc03, Fc04, Fd01, Fd02, Fd03, Fd04, Fo01, Fo02, Fo03, Fo04, N0a, N0b, N1a, N1b, N2a, N2b, N3a, N3b, y0, y1, y2, y3, y4, y5, na, Fw01, Fw02, Fw03, Fw04, M0a, M0b, M1a, M1b, M2a, M2b, M3a, M3b, M4a, M4b, hS2], by simp [Fa01, Fa02, Fa03, Fa04, Fb01, Fb02, Fb03, Fb04, Fc01, Fc02, Fc03, Fc04, Fd01, Fd02, Fd03, Fd04, Fo01, Fo02, Fo03, Fo04, N0a, N0b, N1a, N1b, N2a, N2b, N3a, N3b, y0, y1, y2, y3, y4, y5, na, Fw01, Fw02, Fw03, Fw04, M0a, M0b, M1a, M1b, M2a, M2b, M3a, M3b, M4a, M4b], by simp [Fa01, Fa02, Fa03, Fa04, Fb01, Fb02, Fb03, Fb04, Fc01, Fc02, Fc03, Fc04, Fd01, Fd02, Fd03, Fd04, Fo01, Fo02, Fo03, Fo04, N0a, N0b, N1a, N1b, N2a, N2b, N3a, N3b, y0, y1, y2, y3, y4, y5, na, Fw01, Fw02, Fw03, Fw04, M0a, M0b, M1a, M1b, M2a, M2b, M3a, M3b, M4a, M4b, hSo], .inr ⟨st.nx + 3, st.ep, by simp, by omega, by simp <;> omega, by omega, by simp [nd, leafG, y0, y1, y2, y3, y4, y5]⟩⟩
          · obtain ⟨K, Kb⟩ := K
            simp only [cnd] at f1
            have hge : cfg.de ≤ p.l := by omega
            rcases hN with ⟨rfl, rfl⟩ | ⟨w, ew, rfl, hw5, hwx, hwo, hSw⟩
            · simp [-getElem?_pos, k_spec_GrowTree_b0, v1, v3, v5, v6, v8, v9, v10, hS0, hS1, hS2, hS3, hSo, hlt, hp', hps, hge, f1, f2, f3, hws, hr40, Fa01, Fa02, Fa03, Fa04, Fb01, Fb02, Fb03, Fb04, Fc01, Fc02, Fc03, Fc04, Fd01, Fd02, Fd03, Fd04, Fo01, Fo02, Fo03, Fo04, N0a, N0b, N1a, N1b, N2a, N2b, N3a, N3b, y0, y1, y2, y3, y4, y5, na]
              refine Rnd_n (n - 1) (by omega) ⟨i + 1, o, ep, Q, [leafG g cfg p], .ref (st.nx + 3) none st.ep 0 1, hG', by simp [v1], by simp [v3], by simp [v5], by simp [v6], by simp [v8], by simp [v9], by simp, ho3, (by simp <;> omega), by simp <;> omega, by simp [Fa01, Fa02, Fa03, Fa04, Fb01, Fb02, Fb03, Fb04, Fc01, Fc02, Fc03, Fc04, Fd01, Fd02, Fd03, Fd04, Fo01, Fo02, Fo03, Fo04, N0a, N0b, N1a, N1b, N2a, N2b, N3a, N3b, y0, y1, y2, y3, y4, y5, na, hS0], by simp [Fa01, Fa02, Fa03, Fa04, Fb01, Fb02, Fb03, Fb04, Fc01, Fc02, Fc03, Fc04, Fd01, Fd02, Fd03, Fd04, Fo01, Fo02, Fo03, Fo04, N0a, N0b, N1a, N1b, N2a, N2b, N3a, N3b, y0, y1, y2, y3, y4, y5, na, hS1], by simp [Fa01, Fa02, Fa03, Fa04, Fb01, Fb02, Fb03, Fb04, Fc01, Fc02, Fc03, Fc04, Fd01, Fd02, Fd03, Fd04, Fo01, Fo02, Fo03, Fo04, N0a, N0b, N1a, N1b, N2a, N2b, N3a, N3b, y0, y1, y2, y3, y4, y5, na, hS2], by simp [Fa01, Fa02, Fa03, Fa04, Fb01, Fb02, Fb03, Fb04, Fc01, Fc02, Fc03, Fc04, Fd01, Fd02, Fd03, Fd04, Fo01, Fo02, Fo03, Fo04, N0a, N0b, N1a, N1b, N2a, N2b, N3a, N3b, y0, y1, y2, y3, y4, y5, na], by simp [Fa01, Fa02, Fa03, Fa04, Fb01, Fb02, Fb03, Fb04, Fc01, Fc02, Fc03, Fc04, Fd01, Fd02, Fd03, Fd04, Fo01, Fo02, Fo03, Fo04, N0a, N0b, N1a, N1b, N2a, N2b, N3a, N3b, y0, y1, y2, y3, y4, y5, na, hSo], .inr ⟨st.nx + 3, st.ep, by simp, by omega, by simp <;> omega, by omega, by simp [nd, leafG, y0, y1, y2, y3, y4, y5]⟩⟩
            · obtain ⟨Fw01, Fw02, Fw03, Fw04⟩ := fr (show w < st.nx by omega)
              have M0a : (w = 0) = False := eq_false (by omega)
              have M0b : (0 = w) = False := eq_false (by omega)
              have M1a : (w = 1) = False := eq_false (by omega)
              have M1b : (1 = w) = False := eq_false (by omega)
              have M2a : (w = 2) = False := eq_false (by omega)
              have M2b : (2 = w) = False := eq_false (by omega)
              have M3a : (w = 3) = False := eq_false (by omega)
              have M3b : (3 = w) = False := eq_false (by omega)
              have M4a : (w = o) = False := eq_false (by omega)
              have M4b : (o = w) = False := eq_false (by omega)
              simp [-getElem?_pos, k_spec_GrowTree_b0, v1, v3, v5, v6, v8, v9, v10, hS0, hS1, hS2, hS3, hSo, hSw, hlt, hp', hps, hge, f1, f2, f3, hws, hr40, hr41, hsn, Fa01, Fa02, Fa03, Fa04, Fb01, Fb02, Fb03, Fb04, Fc01, Fc02, Fc03, Fc04, Fd01, Fd02, Fd03, Fd04, Fo01, Fo02, Fo03, Fo04, N0a, N0b, N1a, N1b, N2a, N2b, N3a, N3b, y0, y1, y2, y3, y4, y5, na, Fw01, Fw02, Fw03, Fw04, M0a, M0b, M1a, M1b, M2a, M2b, M3a, M3b, M4a, M4b]
              refine Rnd_n (n - 1) (by omega) ⟨i + 1, o, ep, Q, out ++ [leafG g cfg p], .ref (st.nx + 3) none st.ep 0 (out.length + 1), hG', by simp [v1], by simp [v3], by simp [v5], by simp [v6], by simp [v8], by simp [v9], by simp, ho3, (by simp <;> omega), by simp <;> omega, by simp [Fa01, Fa02, Fa03, Fa04, Fb01, Fb02, Fb03, Fb04, Fc01, Fc02, Fc03, Fc04, Fd01, Fd02, Fd03, Fd04, Fo01, Fo02, Fo03, Fo04, N0a, N0b, N1a, N1b, N2a, N2b, N3a, N3b, y0, y1, y2, y3, y4, y5, na, Fw01, Fw02, Fw03, Fw04, M0a, M0b, M1a, M1b, M2a, M2b, M3a, M3b, M4a, M4b, hS0], by simp [Fa01, Fa02, Fa03, Fa04, Fb01, Fb02, Fb03, Fb04, Fc01, Fc02, Fc03, Fc04, Fd01, Fd02, Fd03, Fd04, Fo01, Fo02, Fo03, Fo04, N0a, N0b, N1a, N1b, N2a, N2b, N3a, N3b, y0, y1, y2, y3, y4, y5, na, Fw01, Fw02, Fw03, Fw04, M0a, M0b, M1a, M1b, M2a, M2b, M3a, M3b, M4a, M4b, hS1], by simp [Fa01, Fa02, Fa03, Fa04, Fb01, Fb02, Fb03, Fb04, Fc01, Fc02, Fc03, Fc04, Fd01, Fd02, Fd03, Fd04, Fo01, Fo02, Fo03, Fo04, N0a, N0b, N1a, N1b, N2a, N2b, N3a, N3b, y0, y1, y2, y3, y4, y5, na, Fw01, Fw02, Fw03, Fw04, M0a, M0b, M1a, M1b, M2a, M2b, M3a, M3b, M4a, M4b, hS2], by simp [Fa01, Fa02, Fa03, Fa04, Fb01, Fb02, Fb03, Fb04, Fc01, Fc02, Fc03, Fc04, Fd01, Fd02, Fd03, Fd04, Fo01, Fo02, Fo03, Fo04, N0a, N0b, N1a, N1b, N2a, N2b, N3a, N3b, y0, y1, y2, y3, y4, y5, na, Fw01, Fw02, Fw03, Fw04, M0a, M0b, M1a, M1b, M2a, M2b, M3a, M3b, M4a, M4b], by simp [Fa01, Fa02, Fa03, Fa04, Fb01, Fb02, Fb03, Fb04, Fc01, Fc02, Fc03, Fc04, Fd01, Fd02, Fd03, Fd04, Fo01, Fo02, Fo03, Fo04, N0a, N0b, N1a, N1b, N2a, N2b, N3a, N3b, y0, y1, y2, y3, y4, y5, na, Fw01, Fw02, Fw03, Fw04, M0a, M0b, M1a, M1b, M2a, M2b, M3a, M3b, M4a, M4b, hSo], .inr ⟨st.nx + 3, st.ep, by simp, by omega, by simp <;> omega, by omega, by simp [nd, leafG, y0, y1, y2, y3, y4, y5]⟩⟩
        | true =>
          obtain ⟨m1, hG'⟩ := hG.cut hp hGg.symm
          have t7 := cfgOk_de t2
          have hlv : p.l < cfg.de := by
            have h9 := hG2.symm
            simp only [Bool.and_eq_true, decide_eq_true_eq] at h9
            exact h9.1
          have hK2 : K.2 = true := by
            have h9 := hG2.symm
            simp only [Bool.and_eq_true, decide_eq_true_eq] at h9
            exact h9.2
          obtain ⟨kf, kb, X, Y, z, k1, k2, hX, hY, hz, kI⟩ := part_facts (c := c) (v := v) (g := g) (cfg := cfg) (rows := p.r) (b := p.b) (by rw [← hK]; exact hK2)
          rw [← hK] at f1 hG' k1 k2 kI
          obtain ⟨⟨kf', kb', ka, kz⟩, Kb⟩ := K
          simp only at hK2 k1 k2 kI f1 hG'
          subst hK2 k1 k2
          have hfc := (List.getElem?_eq_some_iff.mp hX).1
          have hfv := (List.getElem?_eq_some_iff.mp hY).1
          have hbx := (List.getElem?_eq_some_iff.mp hz).1
          have hX' := rws_get (q := q) hX
          have hY' := rws_get (q := q) hY
          have hz' := ints_get hz
          have f4 := R_spec_SideValues cfg p.b ⟨kf, kb, ka, kz⟩ kI
          have f5 := R_spec_SignFor cfg kf (by omega)
          have f6 := R_spec_SidesOf (signV cfg kf) p.b (sideV cfg p.b ⟨kf, kb, ka, kz⟩).1 (sideV cfg p.b ⟨kf, kb, ka, kz⟩).2.1 (sideV_in _ _ _).1 (sideV_in _ _ _).2
          have f7 := R_spec_SplitRows Y p.r kb (hv Y (List.mem_of_getElem? hY)) (by omega)
          have hkl : kidL c v cfg p ⟨kf, kb, ka, kz⟩ = ⟨splL Y p.r kb, (sidB (signV cfg kf) p.b (sideV cfg p.b ⟨kf, kb, ka, kz⟩).1 (sideV cfg p.b ⟨kf, kb, ka, kz⟩).2.1).1, p.l + 1⟩ := by
            unfold kidL
            simp only [atI_nat hY, Option.getD_some]
          have hkr : kidR c v cfg p ⟨kf, kb, ka, kz⟩ = ⟨splR Y p.r kb, (sidB (signV cfg kf) p.b (sideV cfg p.b ⟨kf, kb, ka, kz⟩).1 (sideV cfg p.b ⟨kf, kb, ka, kz⟩).2.1).2, p.l + 1⟩ := by
            unfold kidR
            simp only [atI_nat hY, Option.getD_some]
          have hcn : cutN c ⟨kf, kb, ka, kz⟩ Q.length = ⟨kf, z, Q.length, Q.length + 1, 0⟩ := by
            unfold cutN
            simp only [atI_nat hX, Option.getD_some, atI_nat hz]
          rw [hkl, hkr, hcn] at hG'
          clear hkl hkr hcn
          generalize sideV cfg p.b ⟨kf, kb, ka, kz⟩ = sv at *
          obtain ⟨sl, sr, sb⟩ := sv
          simp only at f4 f6 hG'
          generalize signV cfg kf = sg at *
          generalize sidB sg p.b sl sr = bb at *
          obtain ⟨⟨ll, lh⟩, ⟨rl, rh⟩⟩ := bb
          generalize splL Y p.r kb = L1 at *
          generalize splR Y p.r kb = R1 at *
          simp only [bnd, cnd] at f1 f4 f6 hG'
          have hQ := pnds_two Q ⟨L1, ⟨ll, lh⟩, p.l + 1⟩ ⟨R1, ⟨rl, rh⟩, p.l + 1⟩
          have hsn2 := nds_snoc out ⟨kf, z, Q.length, Q.length + 1, 0⟩
          simp only at hQ hsn2
          have wl := w64 (x := p.l + 1) (by omega) (by omega)
          have wq := w64 (x := (Q.length : Int) + 1) (by omega) (by omega)
          have hge : ¬ cfg.de ≤ p.l := by omega
          have hr482 : roomFor 48 2 = true := by decide
          have hr483 : roomFor 48 (Q.length + 2) = true := by simp [roomFor]; omega
          rcases hN with ⟨rfl, rfl⟩ | ⟨w, ew, rfl, hw5, hwx, hwo, hSw⟩
          · simp [-getElem?_pos, k_spec_GrowTree_b0, v1, v3, v5, v6, v8, v9, v10, hS0, hS1, hS2, hS3, hSo, hlt, hp', hps, hge, f1, f4, f5, f6, f7, hX', hY', hz', hfc, hfv, hbx, wl, wq, hr482, hr483, hQ, hws, hr40, Fa01, Fa02, Fa03, Fa04, Fb01, Fb02, Fb03, Fb04, Fc01, Fc02, Fc03, Fc04, Fd01, Fd02, Fd03, Fd04, Fo01, Fo02, Fo03, Fo04, N0a, N0b, N1a, N1b, N2a, N2b, N3a, N3b, y0, y1, y2, y3, y4, y5, na]
            refine Rnd_n (n - 1) (by omega) ⟨i + 1, st.nx + 9, st.ep, (Q ++ [⟨L1, ⟨ll, lh⟩, p.l + 1⟩, ⟨R1, ⟨rl, rh⟩, p.l + 1⟩]), [⟨kf, z, Q.length, Q.length + 1, 0⟩], .ref (st.nx + 7) none st.ep 0 1, hG', by simp [v1], by simp [v3], by simp [v5], by simp [v6], by simp [v8], by simp, by simp, by omega, by simp, by simp <;> omega, by simp [Fa01, Fa02, Fa03, Fa04, Fb01, Fb02, Fb03, Fb04, Fc01, Fc02, Fc03, Fc04, Fd01, Fd02, Fd03, Fd04, Fo01, Fo02, Fo03, Fo04, N0a, N0b, N1a, N1b, N2a, N2b, N3a, N3b, y0, y1, y2, y3, y4, y5, na, hS0], by simp [Fa01, Fa02, Fa03, Fa04, Fb01, Fb02, Fb03, Fb04, Fc01, Fc02, Fc03, Fc04, Fd01, Fd02, Fd03, Fd04, Fo01, Fo02, Fo03, Fo04, N0a, N0b, N1a, N1b, N2a, N2b, N3a, N3b, y0, y1, y2, y3, y4, y5, na, hS1], by simp [Fa01, Fa02, Fa03, Fa04, Fb01, Fb02, Fb03, Fb04, Fc01, Fc02, Fc03, Fc04, Fd01, Fd02, Fd03, Fd04, Fo01, Fo02, Fo03, Fo04, N0a, N0b, N1a, N1b, N2a, N2b, N3a, N3b, y0, y1, y2, y3, y4, y5, na, hS2], by simp [Fa01, Fa02, Fa03, Fa04, Fb01, Fb02, Fb03, Fb04, Fc01, Fc02, Fc03, Fc04, Fd01, Fd02, Fd03, Fd04, Fo01, Fo02, Fo03, Fo04, N0a, N0b, N1a, N1b, N2a, N2b, N3a, N3b, y0, y1, y2, y3, y4, y5, na], by simp [Fa01, Fa02, Fa03, Fa04, Fb01, Fb02, Fb03, Fb04, Fc01, Fc02, Fc03, Fc04, Fd01, Fd02, Fd03, Fd04, Fo01, Fo02, Fo03, Fo04, N0a, N0b, N1a, N1b, N2a, N2b, N3a, N3b, y0, y1, y2, y3, y4, y5, na], .inr ⟨st.nx + 7, st.ep, by simp, by omega, by simp, by simp, by simp [nd, Fo03, Fo04, Fo01, Fo02, y0, y1, y2, y3, y4, y5]⟩⟩
          · obtain ⟨Fw01, Fw02, Fw03, Fw04⟩ := fr (show w < st.nx by omega)
            have M0a : (w = 0) = False := eq_false (by omega)
            have M0b : (0 = w) = False := eq_false (by omega)
            have M1a : (w = 1) = False := eq_false (by omega)
            have M1b : (1 = w) = False := eq_false (by omega)
            have M2a : (w = 2) = False := eq_false (by omega)
            have M2b : (2 = w) = False := eq_false (by omega)
            have M3a : (w = 3) = False := eq_false (by omega)
            have M3b : (3 = w) = False := eq_false (by omega)
            have M4a : (w = o) = False := eq_false (by omega)
            have M4b : (o = w) = False := eq_false (by omega)
            simp [-getElem?_pos, k_spec_GrowTree_b0, v1, v3, v5, v6, v8, v9, v10, hS0, hS1, hS2, hS3, hSo, hSw, hlt, hp', hps, hge, f1, f4, f5, f6, f7, hX', hY', hz', hfc, hfv, hbx, wl, wq, hr482, hr483, hQ, hws, hr40, hr41, hsn2, Fa01, Fa02, Fa03, Fa04, Fb01, Fb02, Fb03, Fb04, Fc01, Fc02, Fc03, Fc04, Fd01, Fd02, Fd03, Fd04, Fo01, Fo02, Fo03, Fo04, N0a, N0b, N1a, N1b, N2a, N2b, N3a, N3b, y0, y1, y2, y3, y4, y5, na, Fw01, Fw02, Fw03, Fw04, M0a, M0b, M1a, M1b, M2a, M2b, M3a, M3b, M4a, M4b]
            refine Rnd_n (n - 1) (by omega) ⟨i + 1, st.nx + 9, st.ep, (Q ++ [⟨L1, ⟨ll, lh⟩, p.l + 1⟩, ⟨R1, ⟨rl, rh⟩, p.l + 1⟩]), (out ++ [⟨kf, z, Q.length, Q.length + 1, 0⟩]), .ref (st.nx + 7) none st.ep 0 (out.length + 1), hG', by simp [v1], by simp [v3], by simp [v5], by simp [v6], by simp [v8], by simp, by simp, by omega, by simp, by simp <;> omega, by simp [Fa01, Fa02, Fa03, Fa04, Fb01, Fb02, Fb03, Fb04, Fc01, Fc02, Fc03, Fc04, Fd01, Fd02, Fd03, Fd04, Fo01, Fo02, Fo03, Fo04, N0a, N0b, N1a, N1b, N2a, N2b, N3a, N3b, y0, y1, y2, y3, y4, y5, na, Fw01, Fw02, Fw03, Fw04, M0a, M0b, M1a, M1b, M2a, M2b, M3a, M3b, M4a, M4b, hS0], by simp [Fa01, Fa02, Fa03, Fa04, Fb01, Fb02, Fb03, Fb04, Fc01, Fc02, Fc03, Fc04, Fd01, Fd02, Fd03, Fd04, Fo01, Fo02, Fo03, Fo04, N0a, N0b, N1a, N1b, N2a, N2b, N3a, N3b, y0, y1, y2, y3, y4, y5, na, Fw01, Fw02, Fw03, Fw04, M0a, M0b, M1a, M1b, M2a, M2b, M3a, M3b, M4a, M4b, hS1], by simp [Fa01, Fa02, Fa03, Fa04, Fb01, Fb02, Fb03, Fb04, Fc01, Fc02, Fc03, Fc04, Fd01, Fd02, Fd03, Fd04, Fo01, Fo02, Fo03, Fo04, N0a, N0b, N1a, N1b, N2a, N2b, N3a, N3b, y0, y1, y2, y3, y4, y5, na, Fw01, Fw02, Fw03, Fw04, M0a, M0b, M1a, M1b, M2a, M2b, M3a, M3b, M4a, M4b, hS2], by simp [Fa01, Fa02, Fa03, Fa04, Fb01, Fb02, Fb03, Fb04, Fc01, Fc02, Fc03, Fc04, Fd01, Fd02, Fd03, Fd04, Fo01, Fo02, Fo03, Fo04, N0a, N0b, N1a, N1b, N2a, N2b, N3a, N3b, y0, y1, y2, y3, y4, y5, na, Fw01, Fw02, Fw03, Fw04, M0a, M0b, M1a, M1b, M2a, M2b, M3a, M3b, M4a, M4b], by simp [Fa01, Fa02, Fa03, Fa04, Fb01, Fb02, Fb03, Fb04, Fc01, Fc02, Fc03, Fc04, Fd01, Fd02, Fd03, Fd04, Fo01, Fo02, Fo03, Fo04, N0a, N0b, N1a, N1b, N2a, N2b, N3a, N3b, y0, y1, y2, y3, y4, y5, na, Fw01, Fw02, Fw03, Fw04, M0a, M0b, M1a, M1b, M2a, M2b, M3a, M3b, M4a, M4b], .inr ⟨st.nx + 7, st.ep, by simp, by omega, by simp, by simp, by simp [nd, Fo03, Fo04, Fo01, Fo02, y0, y1, y2, y3, y4, y5]⟩⟩
      · have hiq : i = Q.length := by have := hG.le; omega
        have hgo := hG.go
        rw [growG_none (List.getElem?_eq_none (by omega)), ← hR'] at hgo
        subst hgo
        have hol := hG.ol
        rcases hN with ⟨rfl, rfl⟩ | ⟨w, ew, rfl, hw5, hwx, hwo, hSw⟩
        · simp [-getElem?_pos, k_spec_GrowTree_b0, v1, v3, v5, v6, v8, v9, v10, hS0, hS1, hS2, hS3, hSo, hlt, Fa01, Fa02, Fa03, Fa04, Fb01, Fb02, Fb03, Fb04, Fc01, Fc02, Fc03, Fc04, Fd01, Fd02, Fd03, Fd04, Fo01, Fo02, Fo03, Fo04, N0a, N0b, N1a, N1b, N2a, N2b, N3a, N3b, y0, y1, y2, y3, y4, y5, na]
        · obtain ⟨Fw01, Fw02, Fw03, Fw04⟩ := fr (show w < st.nx by omega)
          have M0a : (w = 0) = False := eq_false (by omega)
          have M0b : (0 = w) = False := eq_false (by omega)
          have M1a : (w = 1) = False := eq_false (by omega)
          have M1b : (1 = w) = False := eq_false (by omega)
          have M2a : (w = 2) = False := eq_false (by omega)
          have M2b : (2 = w) = False := eq_false (by omega)
          have M3a : (w = 3) = False := eq_false (by omega)
          have M3b : (3 = w) = False := eq_false (by omega)
          have M4a : (w = o) = False := eq_false (by omega)
          have M4b : (o = w) = False := eq_false (by omega)
          simp [-getElem?_pos, k_spec_GrowTree_b0, v1, v3, v5, v6, v8, v9, v10, hS0, hS1, hS2, hS3, hSo, hSw, hlt, Fa01, Fa02, Fa03, Fa04, Fb01, Fb02, Fb03, Fb04, Fc01, Fc02, Fc03, Fc04, Fd01, Fd02, Fd03, Fd04, Fo01, Fo02, Fo03, Fo04, N0a, N0b, N1a, N1b, N2a, N2b, N3a, N3b, y0, y1, y2, y3, y4, y5, na, Fw01, Fw02, Fw03, Fw04, M0a, M0b, M1a, M1b, M2a, M2b, M3a, M3b, M4a, M4b]
    · refine ⟨by simp, by simp, by simp, by simp, by simp, by simp, by simp, by simp, by simp, by simp, by simp, by simp, by simp, by simp, by simp [hroot], .inl ⟨rfl, rfl⟩⟩

theorem R_laws_markConfig (c : Cfg) (k : Int) (h0 : 0 ≤ k) (hk : k + c.sg.length ≤ 9223372036854775806) : RUN T k_laws_markConfig [cfgO c, iv k] = some ([iv (k + c.sg.length)], [.own 1 (ints (upto k c.sg.length))]) := by
  have e := R_laws_markIntS c.sg k h0 hk
  have hu : (upto k c.sg.length).length = c.sg.length := by simp [upto]
  generalize upto k c.sg.length = u at *
  refine RUN_W T_laws_markConfig rfl ?_
  simp [-getElem?_pos, k_laws_markConfig_ic, k_laws_markConfig_rv, cfgO, e, hu]

theorem R_laws_heldNodeS (k : Int) (n : Nat) (h0 : 0 ≤ k) (hk : k + 5 * n ≤ 9223372036854775806) : RUN T k_laws_heldNodeS [.sl 5 ((mkNd k n).map nd), iv k] = some ([iv (k + 5 * n)], []) := by
  refine RUN_W T_laws_heldNodeS rfl ?_
  have hl : (mkNd k n).length = n := by simp [mkNd]
  simp [k_laws_heldNodeS_ic, k_laws_heldNodeS_rv]
  refine W_loop (fun q st => ∃ i : Nat, i + q = n ∧ st.V 0 = .sl 5 ((mkNd k n).map nd) ∧ st.V 1 = iv (k + 5 * i) ∧ st.V 5 = iv i) ?_ n _ ⟨0, by simp⟩
  rintro q st ⟨i, hi, v0, v1, v5⟩
  by_cases h : i < n
  · have hw := wS h (by omega : n ≤ 9223372036854775807)
    have w1 : IntKind.i64.wrap (k + 5 * (i : Int) + 1) = k + 5 * (i : Int) + 1 := w64 (by omega) (by omega)
    have w2 : IntKind.i64.wrap (k + 5 * (i : Int) + 1 + 1) = k + 5 * (i : Int) + 2 := by rw [w64 (by omega) (by omega)]; omega
    have w3 : IntKind.i64.wrap (k + 5 * (i : Int) + 2 + 1) = k + 5 * (i : Int) + 3 := by rw [w64 (by omega) (by omega)]; omega
    have w4 : IntKind.i64.wrap (k + 5 * (i : Int) + 3 + 1) = k + 5 * (i : Int) + 4 := by rw [w64 (by omega) (by omega)]; omega
    have w5 : IntKind.i64.wrap (k + 5 * (i : Int) + 4 + 1) = k + 5 * ((i : Int) + 1) := by rw [w64 (by omega) (by omega)]; omega
    have hx' : ((mkNd k n).map nd)[i]? = some [iv (k + 5 * (i : Int)), iv (k + 5 * (i : Int) + 1), iv (k + 5 * (i : Int) + 2), iv (k + 5 * (i : Int) + 3), iv (k + 5 * (i : Int) + 4)] := by simp [mkNd, h, nd]
    have hL : ((mkNd k n).map nd).length = n := by simp [mkNd]
    generalize (mkNd k n).map nd = L at *
    simp [-getElem?_pos, k_laws_heldNodeS_b0, v0, v1, v5, h, hL, hx', hw, w1, w2, w3, w4, w5]
    exact Rnd_n (q - 1) (by omega) ⟨i + 1, by omega, by simp [v0], by simp, by simp⟩
  · simp [-getElem?_pos, k_laws_heldNodeS_b0, v0, v1, v5, h, hl]
    omega

theorem R_laws_heldTree (k : Int) (n : Nat) (h0 : 0 ≤ k) (hk : k + 5 * n ≤ 9223372036854775806) : RUN T k_laws_heldTree [.agg [.sl 5 ((mkNd k n).map nd)], iv k] = some ([iv (k + 5 * n)], []) := by
  have e := R_laws_heldNodeS k n h0 hk
  have hn : ¬ k + 5 * (n : Int) < 0 := by omega
  generalize (mkNd k n).map nd = L at *
  refine RUN_W T_laws_heldTree rfl ?_
  simp [-getElem?_pos, k_laws_heldTree_ic, k_laws_heldTree_rv, e, hn]

theorem growG_len {c v : List (List Int)} {g : List Int} {cfg : Cfg} : ∀ (n : Nat) (q : List Pnd) (i : Nat) (out : List Nd), (growG c v g cfg n q i out).length ≤ out.length + n
  | 0, q, i, out => by simp [growG]
  | n + 1, q, i, out => by
    rw [growG]
    split
    · omega
    · split
      · refine Nat.le_trans (growG_len n _ _ _) ?_
        simp; omega
      · refine Nat.le_trans (growG_len n _ _ _) ?_
        simp; omega

theorem growR_len (c v : List (List Int)) (g : List Int) (cfg : Cfg) : (growR c v g cfg).1.length ≤ 32 := by
  unfold growR
  split
  · have := growG_len (c := c) (v := v) (g := g) (cfg := cfg) 32 [rootP g] 0 []
    simpa using this
  · simp

set_option maxHeartbeats 4000000 in
set_option maxRecDepth 8000 in
theorem law_FnExactGrowTree (c v : List (List Int)) (g : List Int) (cfg : Cfg) (hcl : c.length ≤ 9223372036854775807) (hvl : v.length ≤ 9223372036854775807) (hc : ∀ l ∈ c, l.length ≤ 9223372036854775807) (hv : ∀ l ∈ v, l.length ≤ 9223372036854775807) (hg : g.length ≤ 9223372036854775807) (hgi : ∀ x ∈ g, inI x) (hcf : cfg.sg.length ≤ 9223372036854775807) : RUN T k_laws_FnExactGrowTree [.agg [.sl 1 (rws false c), .sl 1 (rws false v)], .sl 1 (ints g), cfS cfg] = some ([bv true], []) := by
  have s1 := R_laws_szGrid false c v 1048576 (by omega) (by omega) hcl hvl hc hv
  have s2 := fun h0 h1 => R_laws_szConfig cfg (1048576 - tot c - tot v) h0 h1 hcf
  have htc : tot c = c.length + lens c := rfl
  have htv : tot v = v.length + lens v := rfl
  have t2 := fun h => R_laws_toIntS g h
  have t4 := fun h => R_laws_toConfig cfg h
  have hrl := growR_len c v g cfg
  have q1 := R_laws_eqTree (growR c v g cfg).1 (by omega)
  have q2 := R_laws_eqGrid true true c v hcl hvl hc hv
  have q3 := R_laws_eqIntS g hg
  have q5 := R_laws_eqConfig cfg hcf
  have a1 := fun h1 h2 h3 h5 => R_spec_GrowTree true c v g cfg h1 h2 h3 h5 hgi
  have a2 := fun h1 h2 h3 h5 => R_impl_GrowTree true c v g cfg h1 h2 h3 h5 hgi
  have t1 := fun h1 h2 h3 h4 => R_laws_toGrid false c v h1 h2 h3 h4
  have m4 := R_laws_markTree (growR c v g cfg).1 1 (by omega) (by omega)
  have m5 := R_laws_heldTree 1 (growR c v g cfg).1.length (by omega) (by omega)
  have n2 : ¬ (1 + 5 * ((growR c v g cfg).1.length : Int) < 0) := by omega
  have hml : (mkNd 1 (growR c v g cfg).1.length).length = (growR c v g cfg).1.length := by simp [mkNd]
  have m3 := fun h0 h1 => R_laws_markConfig cfg (1 + lens c + lens v + g.length) h0 h1
  simp only [cfgS, cfgO] at *
  by_cases d1 : (1048576 : Int) < g.length
  · refine RUN_W T_laws_FnExactGrowTree rfl ?_
    simp [k_laws_FnExactGrowTree_ic, k_laws_FnExactGrowTree_rv, d1]
  by_cases d3 : (1048576 : Int) - tot c - tot v < 0
  · rw [if_pos d3] at s1
    refine RUN_W T_laws_FnExactGrowTree rfl ?_
    simp [k_laws_FnExactGrowTree_ic, k_laws_FnExactGrowTree_rv, d1, s1]
  rw [if_neg d3] at s1
  have s2 := s2 (by omega) (by omega)
  by_cases d4 : (1048576 : Int) - tot c - tot v - cfg.sg.length < 0
  · rw [if_pos d4] at s2
    refine RUN_W T_laws_FnExactGrowTree rfl ?_
    simp [k_laws_FnExactGrowTree_ic, k_laws_FnExactGrowTree_rv, d1, s1, s2, d3]
  rw [if_neg d4] at s2
  have hc1 : ∀ l ∈ c, l.length ≤ 1048576 := fun l hl => by have := lens_mem hl; omega
  have hv1 : ∀ l ∈ v, l.length ≤ 1048576 := fun l hl => by have := lens_mem hl; omega
  have t1 := t1 (by omega) (by omega) hc1 hv1
  have t2 := t2 (by omega)
  have t4 := t4 (by omega)
  have a1 := a1 hc1 hv1 (by omega) (by omega)
  have a2 := a2 hc1 hv1 (by omega) (by omega)
  obtain ⟨c', v', hc', hv', m1⟩ := R_laws_markGrid c v 1 (by omega) (by omega) hcl hvl
  have m2 := R_laws_markIntS g (1 + lens c + lens v) (by omega) (by omega)
  have m3 := m3 (by omega) (by omega)
  have n1 : ¬ (1 + (lens c : Int) + lens v + g.length + cfg.sg.length < 0) := by omega
  generalize growR c v g cfg = pr at *
  obtain ⟨pl, pb⟩ := pr
  simp only at a1 a2 q1 m4 m5 n2 hml
  generalize mkNd 1 pl.length = pl' at *
  generalize hG : upto (1 + (lens c : Int) + lens v) g.length = g' at *
  have hGl : g'.length = g.length := by rw [← hG]; simp [upto]
  generalize hRr : upto (1 + (lens c : Int) + lens v + g.length) cfg.sg.length = s' at *
  have hRl : s'.length = cfg.sg.length := by rw [← hRr]; simp [upto]
  clear hG hRr
  refine RUN_W T_laws_FnExactGrowTree rfl ?_
  cases pb <;> simp [k_laws_FnExactGrowTree_ic, k_laws_FnExactGrowTree_rv, s1, s2, t1, t2, t4, a1, a2, q1, q2, q3, q5, m1, m2, m3, m4, m5, d1, d3, d4, n1, n2, hc', hv', hGl, hRl, hml]

end Go.Pe
