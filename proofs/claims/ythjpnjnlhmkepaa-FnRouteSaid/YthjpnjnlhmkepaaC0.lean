/- What each function answers by the evaluator, and the law; for each answer its own conditions stand ahead of it. -/
import Derived.Test.YthjpnjnlhmkepaaK0
import Derived.Test.YthjpnjnlhmkepaaEvB2
import Derived.IntWalk
set_option linter.all false
namespace Go.Pe
open Go
theorem w64 {x : Int} (h1 : -9223372036854775808 ≤ x) (h2 : x ≤ 9223372036854775807) : IntKind.i64.wrap x = x := IntWalk.i64_in x ⟨h1, h2⟩

@[simp] theorem w64s {x : Int} (h1 : -9223372036854775808 ≤ x) (h2 : x ≤ 9223372036854775807) : IntKind.i64.wrap x = x := w64 h1 h2

structure Nd where
  f : Int
  c : Int
  l : Int
  r : Int
  v : Int
deriving DecidableEq

def nd (n : Nd) : List PV := [iv n.f, iv n.c, iv n.l, iv n.r, iv n.v]

@[simp] theorem R_impl_isLeaf (a b c d e : Int) : RUN T k_impl_isLeaf [.agg [iv a, iv b, iv c, iv d, iv e]] = some ([bv (decide (a = -1))], []) := by
  refine RUN_W T_impl_isLeaf rfl ?_
  simp [k_impl_isLeaf_ic, k_impl_isLeaf_rv]

@[simp] theorem R_impl_within (a b c : Int) : RUN T k_impl_within [iv a, iv b, iv c] = some ([bv (decide (b ≤ a) && decide (a ≤ c))], []) := by
  refine RUN_W T_impl_within rfl ?_
  simp [k_impl_within_ic, k_impl_within_rv]
  refine Br_i (fun h => ?_) (fun h => ?_) <;> simp [h]

@[simp] theorem R_spec_l17Inner (a b c d e : Int) : RUN T k_spec_l17Inner [.agg [iv a, iv b, iv c, iv d, iv e]] = some ([bv (!decide (a = -1))], []) := by
  refine RUN_W T_spec_l17Inner rfl ?_
  simp [k_spec_l17Inner_ic, k_spec_l17Inner_rv]

@[simp] theorem R_spec_l1In (a b c : Int) : RUN T k_spec_l1In [iv a, iv b, iv c] = some ([bv (decide (b ≤ a) && decide (a ≤ c))], []) := by
  refine RUN_W T_spec_l1In rfl ?_
  simp [k_spec_l1In_ic, k_spec_l1In_rv]
  refine Br_i (fun h => ?_) (fun h => ?_) <;> simp [h]

/-- The first place where something holds, -1 if there is none. -/
def fidx {α : Type} (p : α → Bool) (l : List α) : Int := match l.findIdx? p with
  | some i => (i : Int)
  | none => -1

theorem fidx_none {α : Type} {p : α → Bool} {l : List α} (h : ∀ (j : Nat) (x : α), j < l.length → l[j]? = some x → p x = false) : fidx p l = -1 := by
  unfold fidx
  have : l.findIdx? p = none := by
    rw [List.findIdx?_eq_none_iff]
    intro x hx
    obtain ⟨j, hj⟩ := List.getElem?_of_mem hx
    exact h j x (List.getElem?_eq_some_iff.mp hj).1 hj
  rw [this]

theorem fidx_some {α : Type} {p : α → Bool} {l : List α} {i : Nat} {x : α} (hi : l[i]? = some x) (hp : p x = true) (h : ∀ (j : Nat) (x : α), j < i → l[j]? = some x → p x = false) : fidx p l = i := by
  unfold fidx
  have : l.findIdx? p = some i := by
    rw [List.findIdx?_eq_some_iff_getElem]
    obtain ⟨h1, h2⟩ := List.getElem?_eq_some_iff.mp hi
    refine ⟨h1, by rw [h2]; exact hp, fun j hj => ?_⟩
    have := h j l[j] hj (List.getElem?_eq_getElem (by omega))
    simp [this]
  rw [this]

theorem no_snoc {α : Type} {p : α → Bool} {l : List α} {i : Nat} {x : α} (h : ∀ (j : Nat) (x : α), j < i → l[j]? = some x → p x = false) (hi : l[i]? = some x) (hp : p x = false) : ∀ (j : Nat) (x : α), j < i + 1 → l[j]? = some x → p x = false := by
  intro j y hj hy
  by_cases e : j = i
  · subst e; rw [hi] at hy; cases hy; exact hp
  · exact h j y (by omega) hy

/-- A node that has a node below it. -/
def above (k : Int) (n : Nd) : Bool := !decide (n.f = -1) && (decide (n.l = k) || decide (n.r = k))

def par (t : List Nd) (k : Int) : Int := fidx (above k) t

theorem wS {i n : Nat} (h : i < n) (hn : n ≤ 9223372036854775807) : IntKind.i64.wrap ((i : Int) + 1) = (i : Int) + 1 := w64 (by omega) (by omega)

theorem R_spec_l17Up (t : List Nd) (k : Int) (hl : t.length ≤ 9223372036854775807) : RUN T k_spec_l17Up [.agg [.sl 5 (t.map nd)], iv k] = some ([iv (par t k)], []) := by
  refine RUN_W T_spec_l17Up rfl ?_
  simp [k_spec_l17Up_ic, k_spec_l17Up_rv]
  refine W_loop (fun n st => ∃ i : Nat, i + n = t.length ∧ st.V 1 = iv k ∧ st.V 2 = .ptr 0 none 0 0 0 ∧ st.V 5 = iv i ∧ st.S 0 = some (.box [.sl 5 (t.map nd)]) ∧ ∀ (j : Nat) (x : Nd), j < i → t[j]? = some x → above k x = false) ?_ t.length _ ⟨0, by simp⟩
  rintro n st ⟨i, hi, h1, h2, h5, hS, hj⟩
  simp [k_spec_l17Up_b0, h1, h2, h5, hS]
  refine Br_i (fun h => ?_) (fun h => ?_)
  · simp at h
    obtain ⟨x, hx⟩ : ∃ x, t[i]? = some x := ⟨_, List.getElem?_eq_getElem h⟩
    have hw := wS h hl
    simp [h1, h2, h5, hS, hx, nd, hw]
    refine Br_i (fun b0 => ?_) (fun b0 => ?_) <;> (try simp at b0) <;> simp [-getElem?_pos, b0, h1, h2, h5, hS, hx, nd, hw]
    all_goals try (refine Br_i (fun b1 => ?_) (fun b1 => ?_) <;> (try simp at b1) <;> simp [-getElem?_pos, b0, b1, h1, h2, h5, hS, hx, nd, hw])
    all_goals try (refine Br_i (fun b2 => ?_) (fun b2 => ?_) <;> (try simp at b2) <;> simp [-getElem?_pos, b0, b1, b2, h1, h2, h5, hS, hx, nd, hw])
    all_goals first
      | exact (fidx_some hx (by simp [above, *]) hj).symm
      | exact Rnd_n (n - 1) (by omega) ⟨i + 1, by omega, by simp [h1], by simp [h2], by simp, by simp [hS], no_snoc hj hx (by simp [above, *])⟩
  · simp at h
    simp [h]
    exact (fidx_none fun j x hl hx => hj j x (by omega) hx).symm

theorem R_impl_parent_1 (a b c d e x : Int) : RUN T k_impl_parent_1 [.agg [iv a, iv b, iv c, iv d, iv e], .fptr [iv x] 0] = some ([bv (above x ⟨a, b, c, d, e⟩)], []) := by
  refine RUN_W T_impl_parent_1 rfl ?_
  simp [k_impl_parent_1_ic, k_impl_parent_1_rv]
  refine Br_i (fun b0 => ?_) (fun b0 => ?_) <;> (try simp at b0) <;> simp [-getElem?_pos, b0, ]
  all_goals try (refine Br_i (fun b1 => ?_) (fun b1 => ?_) <;> (try simp at b1) <;> simp [-getElem?_pos, b0, b1, ])
  all_goals try (refine Br_i (fun b2 => ?_) (fun b2 => ?_) <;> (try simp at b2) <;> simp [-getElem?_pos, b0, b1, b2, ])
  all_goals simp [above, *]

theorem R_slices_IndexFunc_Node {f : Nat} {c : PV} {p : Nd → Bool} (t : List Nd) (hl : t.length ≤ 9223372036854775807) (hm : modesOf T f = []) (hp : ∀ n : Nd, RUN T f [.agg (nd n), .fptr [c] 0] = some ([bv (p n)], [])) :
    RUN T k_slices_IndexFunc___impl_Node_impl_Node_ [.sl 5 (t.map nd), .fn f [.fptr [c] 0]] = some ([iv (fidx p t)], []) := by
  refine RUN_W T_slices_IndexFunc___impl_Node_impl_Node_ rfl ?_
  simp [k_slices_IndexFunc___impl_Node_impl_Node__ic, k_slices_IndexFunc___impl_Node_impl_Node__rv]
  refine W_loop (fun n st => ∃ i : Nat, i + n = t.length ∧ st.V 0 = .sl 5 (t.map nd) ∧ st.V 1 = .fn f [.fptr [c] 0] ∧ st.V 8 = iv i ∧ st.V 7 = iv t.length ∧ ∀ (j : Nat) (x : Nd), j < i → t[j]? = some x → p x = false) ?_ t.length _ ⟨0, by simp⟩
  rintro n st ⟨i, hi, h0, h1, h8, h7, hj⟩
  simp [k_slices_IndexFunc___impl_Node_impl_Node__b0, h0, h1, h8, h7]
  refine Br_i (fun h => ?_) (fun h => ?_)
  · simp at h
    obtain ⟨x, hx⟩ : ∃ x, t[i]? = some x := ⟨_, List.getElem?_eq_getElem h⟩
    have hw := wS h hl
    have hpx := hp x
    simp only [nd] at hpx
    simp [h0, h1, h8, h7, hx, nd, hw, hm, hpx]
    refine Br_i (fun b0 => ?_) (fun b0 => ?_) <;> (try simp at b0) <;> simp [-getElem?_pos, b0, h0, h1, h8, h7, hx, hw]
    all_goals first
      | exact (fidx_some hx b0 hj).symm
      | exact Rnd_n (n - 1) (by omega) ⟨i + 1, by omega, by simp [h0], by simp [h1], by simp, by simp [h7], no_snoc hj hx b0⟩
  · simp at h
    simp [h]
    exact (fidx_none fun j x hl hx => hj j x (by omega) hx).symm

theorem R_impl_parent (t : List Nd) (k : Int) (hl : t.length ≤ 9223372036854775807) : RUN T k_impl_parent [.agg [.sl 5 (t.map nd)], iv k] = some ([iv (par t k)], []) := by
  refine RUN_W T_impl_parent rfl ?_
  have h := R_slices_IndexFunc_Node (f := k_impl_parent_1) (c := iv k) (p := above k) t hl (by simp) (fun n => R_impl_parent_1 n.f n.c n.l n.r n.v k)
  simp [k_impl_parent_ic, k_impl_parent_rv, h, par]

/-- How many nodes are above a node, if that many at most. -/
def lev (t : List Nd) : Nat → Int → Int
  | 0, _ => -1
  | n + 1, k => if par t k < 0 then 31 - n else lev t n (par t k)

theorem R_spec_LevelOf (t : List Nd) (k : Int) (hl : t.length ≤ 9223372036854775807) : RUN T k_spec_LevelOf [.agg [.sl 5 (t.map nd)], iv k] = some ([iv (if 0 ≤ k ∧ k ≤ t.length - 1 then lev t 32 k else -1)], []) := by
  refine RUN_W T_spec_LevelOf rfl ?_
  have hw : IntKind.i64.wrap ((t.length : Int) - 1) = (t.length : Int) - 1 := w64 (by omega) (by omega)
  simp [k_spec_LevelOf_ic, k_spec_LevelOf_rv, hw]
  refine Br_i (fun h => ?_) (fun h => ?_)
  · simp at h
    simp [h]
    intro h1 h2
    omega
  · have h' : (0 ≤ k ∧ k ≤ t.length - 1) := by simpa using h
    rw [if_pos h']
    clear h
    obtain ⟨r, hr⟩ : ∃ r, r = lev t 32 k := ⟨_, rfl⟩
    rw [← hr]
    simp
    refine W_loop (fun n st => ∃ i : Nat, i + n = 32 ∧ ∃ k' : Int, lev t n k' = r ∧ st.V 1 = iv k' ∧ st.V 2 = .ptr 0 none 0 0 0 ∧ st.V 5 = iv i ∧ st.S 0 = some (.box [.sl 5 (t.map nd)])) ?_ 32 _ ⟨0, by simp [hr]⟩
    rintro n st ⟨i, hi, k', hk, h1, h2, h5, hS⟩
    simp [k_spec_LevelOf_b0, h1, h2, h5, hS]
    refine Br_i (fun h => ?_) (fun h => ?_)
    · simp at h
      have hw : IntKind.i64.wrap ((i : Int) + 1) = (i : Int) + 1 := w64 (by omega) (by omega)
      obtain ⟨m, rfl⟩ : ∃ m, n = m + 1 := ⟨n - 1, by omega⟩
      simp only [lev] at hk
      simp [-getElem?_pos, h1, h2, h5, hS, hw, R_spec_l17Up t k' hl]
      refine Br_i (fun b0 => ?_) (fun b0 => ?_) <;> (try simp at b0) <;> simp [-getElem?_pos, b0, h1, h2, h5, hS, hw]
      · rw [if_pos b0] at hk; omega
      · rw [if_neg (by omega)] at hk
        exact Rnd_n m (by omega) ⟨i + 1, by omega, _, hk, by simp, by simp [h2], by simp, by simp [hS]⟩
    · simp at h
      obtain rfl : n = 0 := by omega
      simp only [lev] at hk
      simp [← hk]

def ints (l : List Int) : List (List PV) := l.map fun n => [iv n]

@[simp] theorem ints_len (l : List Int) : (ints l).length = l.length := by simp [ints]

theorem ints_get {l : List Int} {i : Nat} {x : Int} (h : l[i]? = some x) : (ints l)[i]? = some [iv x] := by simp [ints, h]

@[simp] theorem ints_nil : ints [] = [] := rfl

theorem ints_set (l : List Int) (i : Nat) (x : Int) : (ints l).set i [iv x] = ints (l.set i x) := by simp [ints, List.map_set]

theorem ints_snoc (l : List Int) (x : Int) : ints l ++ [[iv x]] = ints (l ++ [x]) := by simp [ints]

theorem ints_allV (l : List Int) : allV (ints l) = true := by simp [allV, ints]

theorem R_slices_Reverse_int (l : List Int) (hl : l.length ≤ 9223372036854775807) : RUN T k_slices_Reverse___int_int_ [.own 1 (ints l)] = some ([], [.own 1 (ints l.reverse)]) := by
  refine RUN_W T_slices_Reverse___int_int_ rfl ?_
  have hw : IntKind.i64.wrap ((l.length : Int) - 1) = (l.length : Int) - 1 := w64 (by omega) (by omega)
  simp [k_slices_Reverse___int_int__ic, k_slices_Reverse___int_int__rv, hw]
  refine W_loop (fun n st => ∃ i : Nat, i + n = l.length ∧ ∃ m : List Int, m.length = l.length ∧ (∀ p, m[p]? = if p < i ∨ l.length - i ≤ p then l.reverse[p]? else l[p]?) ∧ 2 * i ≤ l.length + 1 ∧ st.V 0 = .ref 0 none 0 0 l.length ∧ st.V 2 = iv i ∧ st.V 3 = iv ((l.length : Int) - 1 - i) ∧ st.ep = 0 ∧ st.S 0 = some (.row 1 (ints m))) ?_ l.length _ ⟨0, by simp, l, rfl, fun p => ?_, by omega, by simp⟩
  · rintro n st ⟨i, hi, m, hm, hp, hb, h0, h2, h3, hep, hS⟩
    simp [k_slices_Reverse___int_int__b0, h0, h2, h3, hS]
    refine Br_i (fun h => ?_) (fun h => ?_)
    · simp at h
      obtain ⟨j, hj⟩ : ∃ j : Nat, j = l.length - 1 - i := ⟨_, rfl⟩
      have e3 : (l.length : Int) - 1 - i = j := by omega
      rw [e3] at h3
      obtain ⟨x, hx⟩ : ∃ x, m[i]? = some x := ⟨_, List.getElem?_eq_getElem (by omega)⟩
      obtain ⟨y, hy⟩ : ∃ y, m[j]? = some y := ⟨_, List.getElem?_eq_getElem (by omega)⟩
      have hw1 := wS (i := i) (n := l.length) (by omega) hl
      have hw2 : IntKind.i64.wrap ((j : Int) - 1) = (j : Int) - 1 := w64 (by omega) (by omega)
      have hij : i < l.length := by omega
      have hjl : j < l.length := by omega
      have g1 := ints_get hx
      have g2 := ints_get hy
      have g3 : (ints (m.set i y))[j]? = some [iv y] := ints_get (by rw [List.getElem?_set_ne (by omega)]; exact hy)
      simp [-getElem?_pos, h0, h2, h3, hS, hep, hw1, hw2, hm, g1, g2, g3, hij, hjl, ints_set]
      refine Rnd_n (n - 1) (by omega) ⟨i + 1, by omega, (m.set i y).set j x, by simp [hm], fun p => ?_, by omega, by simp [h0], by simp, by simp; omega, by simp, by simp⟩
      have hxl : l[i]? = some x := by have := hp i; rw [if_neg (by omega), hx] at this; exact this.symm
      have hyl : l[j]? = some y := by have := hp j; rw [if_neg (by omega), hy] at this; exact this.symm
      rw [List.getElem?_set, List.getElem?_set]
      by_cases e1 : j = p
      · subst e1
        rw [if_pos rfl, if_pos (by simp [hm]; omega), if_pos (by omega), List.getElem?_reverse (by omega), show l.length - 1 - j = i by omega, hxl]
      · rw [if_neg e1]
        by_cases e2 : i = p
        · subst e2
          rw [if_pos rfl, if_pos (by omega), if_pos (by omega), List.getElem?_reverse (by omega), ← hj, hyl]
        · rw [if_neg e2, hp p]
          by_cases c : p < i ∨ l.length - i ≤ p
          · rw [if_pos c, if_pos (by omega)]
          · rw [if_neg c, if_neg (by omega)]
    · simp at h
      have hmr : m = l.reverse := by
        apply List.ext_getElem?
        intro p
        rw [hp p]
        split
        · rfl
        · rename_i c
          obtain rfl : p = i := by omega
          rw [List.getElem?_reverse (by omega), show l.length - 1 - p = p by omega]
      subst hmr
      simp [hS]
  · simp
    intro h
    rw [List.getElem?_eq_none h, List.getElem?_eq_none (by simpa using h)]

/-- The nodes above a node, from it on, if they are fewer than a number. -/
def anc (t : List Nd) : Nat → Int → Option (List Int)
  | 0, _ => none
  | n + 1, k => if par t k < 0 then some [] else (anc t n (par t k)).map (par t k :: ·)

theorem anc_s (t : List Nd) (n : Nat) (k : Int) : anc t (n + 1) k = if par t k < 0 then some [] else (anc t n (par t k)).map (par t k :: ·) := rfl

def way (t : List Nd) (k : Int) : List Int := if 0 ≤ k ∧ k ≤ t.length - 1 then match anc t 32 k with
    | some l => (k :: l).reverse
    | none => []
  else []

theorem room8 {n : Nat} (h : n ≤ 17592186044416) : roomFor 8 n = true := by simp [roomFor]; omega

theorem R_impl_wayTo (t : List Nd) (k : Int) (hl : t.length ≤ 9223372036854775807) : RUN T k_impl_wayTo [.agg [.sl 5 (t.map nd)], iv k] = some ([.own 1 (ints (way t k))], []) := by
  refine RUN_W T_impl_wayTo rfl ?_
  have hw : IntKind.i64.wrap ((t.length : Int) - 1) = (t.length : Int) - 1 := w64 (by omega) (by omega)
  have hp := fun k => R_impl_parent t k hl
  simp [k_impl_wayTo_ic, k_impl_wayTo_rv, hw]
  refine Br_i (fun h => ?_) (fun h => ?_)
  · simp at h
    simp [h]
    unfold way
    rw [if_neg (by omega)]; simp
  · have h' : (0 ≤ k ∧ k ≤ t.length - 1) := by simpa using h
    clear h
    unfold way
    rw [if_pos h']
    obtain ⟨r, hr⟩ : ∃ r, r = anc t 32 k := ⟨_, rfl⟩
    rw [← hr]
    simp [hp]
    refine W_loop (fun n st => ∃ i : Nat, i + n = 32 ∧ 1 ≤ n ∧ ∃ (m : List Int) (o e : Nat) (c : Int), m.length = i + 1 ∧ (anc t n c).map (m ++ ·) = r.map (k :: ·) ∧ st.V 2 = .ptr 0 none 0 0 0 ∧ st.V 5 = .ref o none e 0 m.length ∧ st.V 6 = iv (par t c) ∧ 0 < o ∧ o < st.nx ∧ st.S o = some (.row 1 (ints m)) ∧ st.S 0 = some (.box [.sl 5 (t.map nd)])) ?_ 32 _ ⟨0, by simp, by omega, [k], 1, 0, k, by simp [hr, ints]⟩
    rintro n st ⟨i, hi, h1n, m, o, e, c, hm, hc, h2, h5, h6, ho, hox, hSo, hS⟩
    simp [k_impl_wayTo_b0, h2, h5, h6, hS]
    refine Br_i (fun h => ?_) (fun h => ?_)
    · simp at h
      obtain ⟨q, rfl⟩ : ∃ q, n = q + 1 := ⟨n - 1, by omega⟩
      rw [anc_s, if_neg (by omega)] at hc
      simp [h2, h5, h6, hS, hSo]
      refine Br_i (fun h3 => ?_) (fun h3 => ?_)
      · simp at h3
        obtain rfl : q = 0 := by omega
        simp [anc] at hc
        cases r with
        | none => simp
        | some l => simp at hc
      · simp at h3
        have n1 : ¬ o = st.nx := by omega
        have n2 : ¬ 0 = o := by omega
        have n3 : ¬ 0 = st.nx := by omega
        have hr8 := room8 (n := m.length + 1) (by omega)
        simp [h2, h5, h6, hS, hSo, n1, n2, n3, hr8, hp, ints_snoc]
        refine Rnd_n q (by omega) ⟨i + 1, by omega, by omega, m ++ [par t c], st.nx + 1, st.ep, par t c, by simp [hm], ?_, by simp [h2], by simp, by simp, by omega, by simp, by simp, ?_⟩
        · rw [← hc]; cases anc t q (par t c) <;> simp
        · simp [n2, n3, hS]
    · simp at h
      obtain ⟨q, rfl⟩ : ∃ q, n = q + 1 := ⟨n - 1, by omega⟩
      rw [anc_s, if_pos h] at hc
      simp at hc
      obtain ⟨l, rfl, hl2⟩ : ∃ l, r = some l ∧ m = k :: l := by
        cases r with
        | none => simp at hc
        | some l => simp at hc; exact ⟨l, rfl, hc⟩
      subst hl2
      have hR := R_slices_Reverse_int (k :: l) (by omega)
      simp [h5, hSo, hR]

theorem anc_lev (t : List Nd) : ∀ (n : Nat) (k : Int), n ≤ 32 → (match anc t n k with | some l => (32 - n : Int) + l.length | none => -1) = lev t n k
  | 0, k, _ => by simp [anc, lev]
  | n + 1, k, h => by
    have ih := anc_lev t n (par t k) (by omega)
    rw [anc_s]
    simp only [lev]
    by_cases c : par t k < 0
    · rw [if_pos c, if_pos c]; simp; omega
    · rw [if_neg c, if_neg c, ← ih]
      cases anc t n (par t k) with
      | none => simp
      | some l =>
        show (32 - ((n + 1 : Nat) : Int)) + ((par t k :: l).length : Nat) = (32 - (n : Int)) + (l.length : Nat)
        simp only [List.length_cons]; omega

theorem anc_le (t : List Nd) : ∀ (n : Nat) (k : Int) (l : List Int), anc t n k = some l → l.length < n
  | 0, k, l, h => by simp [anc] at h
  | n + 1, k, l, h => by
    rw [anc_s] at h
    split at h
    · cases h; simp
    · simp at h
      obtain ⟨m, hm, rfl⟩ := h
      have := anc_le t n _ m hm
      simp; omega

theorem way_le (t : List Nd) (k : Int) : (way t k).length ≤ 32 := by
  unfold way
  split
  · cases h : anc t 32 k with
    | none => simp
    | some l => have := anc_le t 32 k l h; simp; omega
  · simp

/-- The numbers from one on, so many. -/
def upto (k : Int) (n : Nat) : List Int := (List.range n).map fun (i : Nat) => k + (i : Int)

@[simp] theorem upto_len (k : Int) (n : Nat) : (upto k n).length = n := by simp [upto]

/-- The places of leaves, counted from a number on. -/
def lvs : List Nd → Int → List Int
  | [], _ => []
  | x :: xs, i => if x.f = -1 then i :: lvs xs (i + 1) else lvs xs (i + 1)

theorem lvs_len : ∀ (t : List Nd) (i : Int), (lvs t i).length ≤ t.length
  | [], _ => by simp [lvs]
  | x :: xs, i => by
    have := lvs_len xs (i + 1)
    simp only [lvs]
    split <;> simp <;> omega

theorem drop_cons {α : Type} {l : List α} {i : Nat} {x : α} (h : l[i]? = some x) : l.drop i = x :: l.drop (i + 1) := by
  obtain ⟨h1, h2⟩ := List.getElem?_eq_some_iff.mp h
  rw [List.drop_eq_getElem_cons h1, h2]

theorem R_spec_LeavesOf (t : List Nd) (hl : t.length ≤ 1048576) : RUN T k_spec_LeavesOf [.agg [.sl 5 (t.map nd)]] = some ([.own 1 (ints (lvs t 0))], []) := by
  refine RUN_W T_spec_LeavesOf rfl ?_
  simp [k_spec_LeavesOf_ic, k_spec_LeavesOf_rv]
  refine W_loop (fun n st => ∃ i : Nat, i + n = t.length ∧ ∃ (m : List Int) (o e : Nat), m ++ lvs (t.drop i) i = lvs t 0 ∧ st.V 1 = .ptr 0 none 0 0 0 ∧ st.V 3 = .ref o none e 0 m.length ∧ st.V 4 = iv i ∧ 0 < o ∧ o < st.nx ∧ st.S o = some (.row 1 (ints m)) ∧ st.S 0 = some (.box [.sl 5 (t.map nd)])) ?_ t.length _ ⟨0, by simp, [], 1, 0, by simp⟩
  rintro n st ⟨i, hi, m, o, e, hm, h1, h3, h4, ho, hox, hSo, hS⟩
  simp [k_spec_LeavesOf_b0, h1, h3, h4, hS]
  refine Br_i (fun h => ?_) (fun h => ?_)
  · simp at h
    obtain ⟨x, hx⟩ : ∃ x, t[i]? = some x := ⟨_, List.getElem?_eq_getElem h⟩
    have hw := wS h (by omega : t.length ≤ 9223372036854775807)
    have hr : roomFor 8 (m.length + 1) = true := room8 (by
      have h5 := congrArg List.length hm
      have h6 := lvs_len t 0
      simp at h5; omega)
    have n1 : ¬ o = st.nx := by omega
    have n2 : ¬ 0 = o := by omega
    have n3 : ¬ 0 = st.nx := by omega
    simp [-getElem?_pos, h1, h3, h4, hS, hSo, n1, n2, n3, hx, nd, hw, hr, ints_snoc]
    refine Br_i (fun b0 => ?_) (fun b0 => ?_) <;> (try simp at b0) <;> simp [-getElem?_pos, b0, h1, h3, h4, hS, hSo, n1, n2, n3, hx, hw, hr, ints_snoc]
    · refine Rnd_n (n - 1) (by omega) ⟨i + 1, by omega, m ++ [(i : Int)], st.nx + 1, st.ep, ?_, by simp [h1], by simp, by simp, by omega, by simp, by simp, by simp [n2, n3, hS]⟩
      rw [← hm, drop_cons hx, lvs, if_pos b0]; simp
    · refine Rnd_n (n - 1) (by omega) ⟨i + 1, by omega, m, o, e, ?_, by simp [h1], by simp [h3], by simp, by omega, by simp [hox], by simp [hSo], by simp [hS]⟩
      rw [← hm, drop_cons hx, lvs, if_neg b0]; simp
  · simp at h
    have e : m = lvs t 0 := by rw [← hm, List.drop_eq_nil_of_le h]; simp [lvs]
    simp [h3, hSo, e]

@[simp] theorem R_spec_l1Max (a b : Int) : RUN T k_spec_l1Max [iv a, iv b] = some ([iv (max a b)], []) := by
  refine RUN_W T_spec_l1Max rfl ?_
  simp [k_spec_l1Max_ic, k_spec_l1Max_rv]
  refine Br_i (fun b0 => ?_) (fun b0 => ?_) <;> (try simp at b0) <;> simp [-getElem?_pos, b0, ]
  all_goals omega

@[simp] theorem R_spec_l1Min (a b : Int) : RUN T k_spec_l1Min [iv a, iv b] = some ([iv (min a b)], []) := by
  refine RUN_W T_spec_l1Min rfl ?_
  simp [k_spec_l1Min_ic, k_spec_l1Min_rv]
  refine Br_i (fun b0 => ?_) (fun b0 => ?_) <;> (try simp at b0) <;> simp [-getElem?_pos, b0, ]
  all_goals omega

def levOf (t : List Nd) (k : Int) : Int := if 0 ≤ k ∧ k ≤ t.length - 1 then lev t 32 k else -1

theorem R_spec_LevelOf' (t : List Nd) (k : Int) (hl : t.length ≤ 9223372036854775807) : RUN T k_spec_LevelOf [.agg [.sl 5 (t.map nd)], iv k] = some ([iv (levOf t k)], []) := R_spec_LevelOf t k hl

/-- The greatest level of the first nodes. -/
def dpt (t : List Nd) : Nat → Int
  | 0 => -1
  | i + 1 => max (dpt t i) (levOf t i)

theorem R_spec_DepthOf (t : List Nd) (hl : t.length ≤ 9223372036854775807) : RUN T k_spec_DepthOf [.agg [.sl 5 (t.map nd)]] = some ([iv (dpt t t.length)], []) := by
  refine RUN_W T_spec_DepthOf rfl ?_
  simp [k_spec_DepthOf_ic, k_spec_DepthOf_rv]
  refine W_loop (fun n st => ∃ i : Nat, i + n = t.length ∧ st.V 1 = .ptr 0 none 0 0 0 ∧ st.V 3 = iv (dpt t i) ∧ st.V 4 = iv i ∧ st.S 0 = some (.box [.sl 5 (t.map nd)])) ?_ t.length _ ⟨0, by simp [dpt]⟩
  rintro n st ⟨i, hi, h1, h3, h4, hS⟩
  simp [k_spec_DepthOf_b0, h1, h3, h4, hS]
  refine Br_i (fun h => ?_) (fun h => ?_)
  · simp at h
    have hw := wS h hl
    simp [h1, h3, h4, hS, hw, R_spec_LevelOf' t i hl]
    exact Rnd_n (n - 1) (by omega) ⟨i + 1, by omega, by simp [h1], by simp [dpt], by simp, by simp [hS]⟩
  · simp at h
    obtain rfl : i = t.length := by omega
    simp [h3]

/-- The nodes that a row goes through. -/
def rt (t : List Nd) (row : List Int) : Nat → Int → Option (List Int)
  | 0, _ => none
  | n + 1, a => match (if 0 ≤ a then t[a.toNat]? else none) with
    | none => none
    | some x => if x.f = -1 then some [a] else match (if 0 ≤ x.f then row[x.f.toNat]? else none) with
      | none => none
      | some y => (rt t row n (if y ≤ x.c then x.l else x.r)).map (a :: ·)

theorem rt_out {t : List Nd} {row : List Int} {n : Nat} {a : Int} (h : a < 0 ∨ (t.length : Int) - 1 < a) : rt t row n a = none := by
  cases n with
  | zero => rfl
  | succ n =>
    rw [rt]
    have : (if 0 ≤ a then t[a.toNat]? else none) = none := by
      split
      · exact List.getElem?_eq_none (by omega)
      · rfl
    rw [this]

theorem rt_leaf {t : List Nd} {row : List Int} {n a : Nat} {x : Nd} (hx : t[a]? = some x) (h : x.f = -1) : rt t row (n + 1) a = some [(a : Int)] := by
  rw [rt]; simp [hx, h]

theorem rt_no {t : List Nd} {row : List Int} {n a : Nat} {x : Nd} (hx : t[a]? = some x) (h : x.f ≠ -1) (h2 : x.f < 0 ∨ (row.length : Int) - 1 < x.f) : rt t row (n + 1) a = none := by
  rw [rt]
  have : (if 0 ≤ x.f then row[x.f.toNat]? else none) = none := by
    split
    · exact List.getElem?_eq_none (by omega)
    · rfl
  simp [hx, h, this]

theorem rt_on {t : List Nd} {row : List Int} {n a f : Nat} {x : Nd} {y : Int} (hx : t[a]? = some x) (h : x.f = f) (hy : row[f]? = some y) : rt t row (n + 1) a = (rt t row n (if y ≤ x.c then x.l else x.r)).map ((a : Int) :: ·) := by
  rw [rt]
  have : x.f ≠ -1 := by omega
  simp [hx, this, h, hy]

def way2 (t : List Nd) (row : List Int) : List Int := (rt t row (t.length + 1) 0).getD []

theorem R_spec_l18Way (t : List Nd) (row : List Int) (hl : t.length ≤ 1048576) (hr : row.length ≤ 1048576) : RUN T k_spec_l18Way [.agg [.sl 5 (t.map nd)], .sl 1 (ints row)] = some ([.own 1 (ints (way2 t row))], []) := by
  refine RUN_W T_spec_l18Way rfl ?_
  simp [k_spec_l18Way_ic, k_spec_l18Way_rv]
  obtain ⟨r, hrr⟩ : ∃ r, r = rt t row (t.length + 1) 0 := ⟨_, rfl⟩
  unfold way2
  rw [← hrr]
  refine W_loop (fun n st => ∃ i : Nat, i + n = t.length + 1 ∧ ∃ (a : Int) (m : List Int) (o e : Nat), m.length = i ∧ (rt t row n a).map (m ++ ·) = r ∧ st.V 1 = .sl 1 (ints row) ∧ st.V 2 = .ptr 0 none 0 0 0 ∧ st.V 5 = .ref o none e 0 m.length ∧ st.V 6 = iv a ∧ st.V 7 = iv i ∧ 0 < o ∧ o < st.nx ∧ st.S o = some (.row 1 (ints m)) ∧ st.S 0 = some (.box [.sl 5 (t.map nd)])) ?_ (t.length + 1) _ ⟨0, by simp, 0, [], 1, 0, by simp [hrr]⟩
  rintro n st ⟨i, hi, a, m, o, e, hmi, hm, h1, h2, h5, h6, h7, ho, hox, hSo, hS⟩
  simp [k_spec_l18Way_b0, h1, h2, h5, h6, h7, hS]
  refine Br_i (fun h => ?_) (fun h => ?_)
  · simp at h
    obtain ⟨q, rfl⟩ : ∃ q, n = q + 1 := ⟨n - 1, by omega⟩
    have hw := w64 (x := (t.length : Int) - 1) (by omega) (by omega)
    have hwi := w64 (x := (i : Int) + 1) (by omega) (by omega)
    have hwr := w64 (x := (row.length : Int) - 1) (by omega) (by omega)
    simp [h1, h2, h5, h6, h7, hS, hw]
    refine Br_i (fun h3 => ?_) (fun h3 => ?_)
    · simp at h3
      rw [rt_out h3] at hm
      simp at hm
      simp [← hm]
    · have h3' : 0 ≤ a ∧ a ≤ (t.length : Int) - 1 := by simpa using h3
      obtain ⟨a, rfl⟩ : ∃ a' : Nat, a = a' := ⟨a.toNat, by omega⟩
      obtain ⟨x, hx⟩ : ∃ x, t[a]? = some x := ⟨_, List.getElem?_eq_getElem (by omega)⟩
      have z1 := fr hox
      have z2 := fr ho
      have z3 := fr (by omega : 0 < st.nx)
      have hr8 := room8 (n := m.length + 1) (by omega)
      simp [-getElem?_pos, h1, h2, h5, h6, h7, hS, hSo, z1, z2, z3, hx, nd, hr8, ints_snoc, hwr]
      refine Br_i (fun h4 => ?_) (fun h4 => ?_)
      · simp at h4
        rw [rt_leaf hx h4] at hm
        simp at hm
        simp [← hm]
      · simp at h4
        simp [-getElem?_pos, h1, h2, h5, h6, h7, hS, hSo, z1, z2, z3, hx, hr8, ints_snoc, hwr]
        refine Br_i (fun h8 => ?_) (fun h8 => ?_)
        · simp at h8
          rw [rt_no hx h4 h8] at hm
          simp at hm
          simp [← hm]
        · have h8' : 0 ≤ x.f ∧ x.f ≤ (row.length : Int) - 1 := by simpa using h8
          obtain ⟨f, hf⟩ : ∃ f : Nat, x.f = f := ⟨x.f.toNat, by omega⟩
          obtain ⟨y, hy⟩ : ∃ y, row[f]? = some y := ⟨_, List.getElem?_eq_getElem (by omega)⟩
          have hfl : f < row.length := by omega
          rw [rt_on hx hf hy] at hm
          have hy' := ints_get hy
          simp [-getElem?_pos, h1, h2, h5, h6, h7, hS, hSo, z1, z2, z3, hr8, ints_snoc, hwr, hf, hy', hfl, hwi]
          refine Br_i (fun b0 => ?_) (fun b0 => ?_) <;> (try simp at b0) <;> simp [-getElem?_pos, b0, h1, h2, h5, h6, h7, hS, hSo, z1, z2, z3, hf, hwi]
          all_goals
            refine Rnd_n q (by omega) ⟨i + 1, by omega, _, m ++ [(a : Int)], st.nx + 2, st.ep, by simp [hmi], ?_, by simp [h1], by simp [h2], by simp, by simp; rfl, by simp, by omega, by simp, by simp, by simp [z2, z3, hS]⟩
            rw [← hm]
            first | rw [if_pos b0] | rw [if_neg (by omega)]
            simp [Function.comp_def]
  · simp at h
    obtain rfl : n = 0 := by omega
    simp [rt] at hm
    simp [← hm]

theorem R_impl_route (t : List Nd) (row : List Int) (hl : t.length ≤ 1048576) (hr : row.length ≤ 1048576) : RUN T k_impl_route [.agg [.sl 5 (t.map nd)], .sl 1 (ints row)] = some ([.own 1 (ints (way2 t row))], []) := by
  refine RUN_W T_impl_route rfl ?_
  have hw1 := w64 (x := (t.length : Int) + 1) (by omega) (by omega)
  simp [k_impl_route_ic, k_impl_route_rv, hw1]
  obtain ⟨r, hrr⟩ : ∃ r, r = rt t row (t.length + 1) 0 := ⟨_, rfl⟩
  unfold way2
  rw [← hrr]
  refine W_loop (fun n st => ∃ i : Nat, i + n = t.length + 1 ∧ ∃ (a : Int) (m : List Int) (o e : Nat), m.length = i ∧ (rt t row n a).map (m ++ ·) = r ∧ st.V 1 = .sl 1 (ints row) ∧ st.V 2 = .ptr 0 none 0 0 0 ∧ st.V 5 = .ref o none e 0 m.length ∧ st.V 6 = iv a ∧ st.V 13 = iv i ∧ st.V 12 = iv ((t.length : Int) + 1) ∧ 0 < o ∧ o < st.nx ∧ st.S o = some (.row 1 (ints m)) ∧ st.S 0 = some (.box [.sl 5 (t.map nd)])) ?_ (t.length + 1) _ ⟨0, by simp, 0, [], 1, 0, by simp [hrr]⟩
  rintro n st ⟨i, hi, a, m, o, e, hmi, hm, h1, h2, h5, h6, h13, h12, ho, hox, hSo, hS⟩
  simp [k_impl_route_b0, h13, h12]
  refine Br_i (fun h => ?_) (fun h => ?_)
  · simp at h
    obtain ⟨q, rfl⟩ : ∃ q, n = q + 1 := ⟨n - 1, by omega⟩
    have hw := w64 (x := (t.length : Int) - 1) (by omega) (by omega)
    have hwi := w64 (x := (i : Int) + 1) (by omega) (by omega)
    have hwr := w64 (x := (row.length : Int) - 1) (by omega) (by omega)
    simp [h1, h2, h5, h6, hS, hw]
    refine Br_i (fun h3 => ?_) (fun h3 => ?_)
    · simp at h3
      rw [rt_out h3] at hm
      simp at hm
      simp [← hm]
    · have h3' : 0 ≤ a ∧ a ≤ (t.length : Int) - 1 := by simpa using h3
      obtain ⟨a, rfl⟩ : ∃ a' : Nat, a = a' := ⟨a.toNat, by omega⟩
      obtain ⟨x, hx⟩ : ∃ x, t[a]? = some x := ⟨_, List.getElem?_eq_getElem (by omega)⟩
      have z1 := fr hox
      have z2 := fr ho
      have z3 := fr (by omega : 0 < st.nx)
      have hr8 := room8 (n := m.length + 1) (by omega)
      simp [-getElem?_pos, h1, h2, h5, h6, hS, hSo, z1, z2, z3, hx, nd, hr8, ints_snoc, hwr]
      refine Br_i (fun h4 => ?_) (fun h4 => ?_)
      · simp at h4
        rw [rt_leaf hx h4] at hm
        simp at hm
        simp [← hm]
      · simp at h4
        simp [-getElem?_pos, h1, h2, h5, h6, hS, hSo, z1, z2, z3, hx, hr8, ints_snoc, hwr]
        refine Br_i (fun h8 => ?_) (fun h8 => ?_)
        · simp at h8
          rw [rt_no hx h4 h8] at hm
          simp at hm
          simp [← hm]
        · have h8' : 0 ≤ x.f ∧ x.f ≤ (row.length : Int) - 1 := by simpa using h8
          obtain ⟨f, hf⟩ : ∃ f : Nat, x.f = f := ⟨x.f.toNat, by omega⟩
          obtain ⟨y, hy⟩ : ∃ y, row[f]? = some y := ⟨_, List.getElem?_eq_getElem (by omega)⟩
          have hfl : f < row.length := by omega
          rw [rt_on hx hf hy] at hm
          have hy' := ints_get hy
          simp [-getElem?_pos, h1, h2, h5, h6, h13, h12, hS, hSo, z1, z2, z3, hr8, ints_snoc, hwr, hf, hy', hfl, hwi]
          refine Br_i (fun b0 => ?_) (fun b0 => ?_) <;> (try simp at b0) <;> simp [-getElem?_pos, b0, h1, h2, h5, h6, h13, h12, hS, hSo, z1, z2, z3, hf, hwi]
          all_goals
            refine Rnd_n q (by omega) ⟨i + 1, by omega, _, m ++ [(a : Int)], st.nx + 2, st.ep, by simp [hmi], ?_, by simp [h1], by simp [h2], by simp, by simp; rfl, by simp, by simp [h12], by omega, by simp, by simp, by simp [z2, z3, hS]⟩
            rw [← hm]
            first | rw [if_pos b0] | rw [if_neg (by omega)]
            simp [Function.comp_def]
  · simp at h
    obtain rfl : n = 0 := by omega
    simp [rt] at hm
    simp [← hm]

theorem rt_len (t : List Nd) (row : List Int) : ∀ (n : Nat) (a : Int) (l : List Int), rt t row n a = some l → l.length ≤ n ∧ l ≠ [] ∧ ∀ k ∈ l, 0 ≤ k ∧ k < t.length
  | 0, _, _, h => by cases h
  | n + 1, a, l, h => by
    rw [rt] at h
    have ha : ∀ x, (if 0 ≤ a then t[a.toNat]? else none) = some x → 0 ≤ a ∧ a < t.length := by
      intro x hx
      split at hx
      · have := (List.getElem?_eq_some_iff.mp hx).1; omega
      · cases hx
    split at h
    · cases h
    · rename_i x hx
      have hax := ha x hx
      split at h
      · cases h; simpa using hax
      · split at h
        · cases h
        · simp only [Option.map_eq_some_iff] at h
          obtain ⟨m, hm, rfl⟩ := h
          have := rt_len t row n _ m hm
          refine ⟨by simp; omega, by simp, fun k hk => ?_⟩
          rcases List.mem_cons.mp hk with e | e
          · subst e; exact hax
          · exact this.2.2 k e

theorem way2_len (t : List Nd) (row : List Int) : (way2 t row).length ≤ t.length + 1 ∧ ∀ k ∈ way2 t row, 0 ≤ k ∧ k < t.length := by
  unfold way2
  cases h : rt t row (t.length + 1) 0 with
  | none => simp
  | some l => have := rt_len t row _ _ l h; exact ⟨this.1, this.2.2⟩

def rto (t : List Nd) (row : List Int) : Int := ((way2 t row).getLast?).getD (-1)

theorem rto_range {t : List Nd} {row : List Int} : rto t row = -1 ∨ ∃ i : Nat, rto t row = i ∧ i < t.length := by
  unfold rto
  cases h : (way2 t row).getLast? with
  | none => exact .inl rfl
  | some k =>
    have := (way2_len t row).2 k (List.mem_of_getLast? h)
    exact .inr ⟨k.toNat, by simp; omega, by omega⟩

theorem R_spec_RouteTo (t : List Nd) (row : List Int) (hl : t.length ≤ 1048576) (hr : row.length ≤ 1048576) : RUN T k_spec_RouteTo [.agg [.sl 5 (t.map nd)], .sl 1 (ints row)] = some ([iv (rto t row)], []) := by
  refine RUN_W T_spec_RouteTo rfl ?_
  have hw := (way2_len t row).1
  simp [k_spec_RouteTo_ic, k_spec_RouteTo_rv, R_spec_l18Way t row hl hr]
  refine Br_i (fun h => ?_) (fun h => ?_)
  · simp at h
    simp [rto, h]
  · simp at h
    obtain ⟨l, x, hlx⟩ : ∃ l x, way2 t row = l ++ [x] := ⟨_, _, (List.dropLast_concat_getLast h).symm⟩
    have e1 : rto t row = x := by simp [rto, hlx]
    rw [e1]
    rw [hlx] at hw ⊢
    simp at hw
    have hwr : IntKind.i64.wrap (l.length : Int) = (l.length : Int) := w64 (by omega) (by omega)
    have hg := ints_get (l := l ++ [x]) (i := l.length) (x := x) (by simp)
    simp [-getElem?_pos, hwr, hg]

theorem R_impl_RouteTo (t : List Nd) (row : List Int) (hl : t.length ≤ 1048576) (hr : row.length ≤ 1048576) : RUN T k_impl_RouteTo [.agg [.sl 5 (t.map nd)], .sl 1 (ints row)] = some ([iv (rto t row)], []) := by
  refine RUN_W T_impl_RouteTo rfl ?_
  have hw := (way2_len t row).1
  simp [k_impl_RouteTo_ic, k_impl_RouteTo_rv, R_impl_route t row hl hr]
  refine Br_i (fun h => ?_) (fun h => ?_)
  · simp at h
    simp [rto, h]
  · simp at h
    obtain ⟨l, x, hlx⟩ : ∃ l x, way2 t row = l ++ [x] := ⟨_, _, (List.dropLast_concat_getLast h).symm⟩
    have e1 : rto t row = x := by simp [rto, hlx]
    rw [e1]
    rw [hlx] at hw ⊢
    simp at hw
    have hwr : IntKind.i64.wrap (l.length : Int) = (l.length : Int) := w64 (by omega) (by omega)
    have hg := ints_get (l := l ++ [x]) (i := l.length) (x := x) (by simp)
    simp [-getElem?_pos, hwr, hg]

def evt (t : List Nd) (row : List Int) : Int := if rto t row < 0 then 0 else ((t[(rto t row).toNat]?).map (·.v)).getD 0

theorem R_impl_EvalTree (t : List Nd) (row : List Int) (hl : t.length ≤ 1048576) (hr : row.length ≤ 1048576) : RUN T k_impl_EvalTree [.agg [.sl 5 (t.map nd)], .sl 1 (ints row)] = some ([iv (evt t row)], []) := by
  refine RUN_W T_impl_EvalTree rfl ?_
  simp [k_impl_EvalTree_ic, k_impl_EvalTree_rv, R_impl_RouteTo t row hl hr]
  unfold evt
  rcases rto_range (t := t) (row := row) with h | ⟨i, h, hi⟩
  · simp [h]
  · obtain ⟨x, hx⟩ : ∃ x, t[i]? = some x := ⟨_, List.getElem?_eq_getElem hi⟩
    rw [h]
    have h0 : ¬ ((i : Int) < 0) := by omega
    simp [-getElem?_pos, h0, hx, nd]

def inI (n : Int) : Prop := -9223372036854775808 ≤ n ∧ n ≤ 9223372036854775807

/-- A node, those above it behind it. -/
def Chn (t : List Nd) : List Int → Int → Prop
  | [], c => c < 0
  | x :: xs, c => x = c ∧ 0 ≤ c ∧ Chn t xs (par t c)

theorem anc_chn (t : List Nd) : ∀ (n : Nat) (k : Int) (l : List Int), 0 ≤ k → anc t n k = some l → Chn t (k :: l) k
  | 0, k, l, _, h => by cases h
  | n + 1, k, l, h0, h => by
    rw [anc_s] at h
    split at h
    · rename_i hc
      cases h
      exact ⟨rfl, h0, hc⟩
    · simp at h
      obtain ⟨m, hm, rfl⟩ := h
      exact ⟨rfl, h0, anc_chn t n _ m (by omega) hm⟩

theorem par_range (t : List Nd) (k : Int) : par t k = -1 ∨ 0 ≤ par t k ∧ par t k < t.length := by
  unfold par fidx
  split
  · rename_i i hi
    have := (List.findIdx?_eq_some_iff_getElem.mp hi).1
    right; omega
  · exact .inl rfl

theorem chn_range (t : List Nd) : ∀ (l : List Int) (c : Int), Chn t l c → (0 ≤ c → c < t.length) → ∀ x ∈ l, 0 ≤ x ∧ x < t.length
  | [], _, _, _ => by simp
  | y :: ys, c, h, hc => by
    obtain ⟨rfl, h0, h2⟩ := h
    intro x hx
    rcases List.mem_cons.mp hx with e | e
    · subst e; exact ⟨h0, hc h0⟩
    · exact chn_range t ys _ h2 (fun h => by rcases par_range t y with h3 | h3 <;> omega) x e

theorem way_range (t : List Nd) (k : Int) : ∀ x ∈ way t k, 0 ≤ x ∧ x < t.length := by
  unfold way
  split
  · rename_i hk
    cases h : anc t 32 k with
    | none => simp
    | some l =>
      intro x hx
      exact chn_range t _ _ (anc_chn t 32 k l hk.1 h) (by omega) x (by simpa using List.mem_reverse.mp hx)
  · simp

theorem lev_anc (t : List Nd) (k : Int) : lev t 32 k = match anc t 32 k with | some l => (l.length : Int) | none => -1 := by
  have := anc_lev t 32 k (Nat.le_refl _)
  rw [← this]
  cases anc t 32 k <;> simp

theorem R_spec_WayTo (t : List Nd) (k : Int) (hl : t.length ≤ 9223372036854775807) : RUN T k_spec_WayTo [.agg [.sl 5 (t.map nd)], iv k] = some ([.own 1 (ints (way t k))], []) := by
  refine RUN_W T_spec_WayTo rfl ?_
  simp [k_spec_WayTo_ic, k_spec_WayTo_rv, R_spec_LevelOf' t k hl]
  refine Br_i (fun h => ?_) (fun h => ?_)
  · simp at h
    have e : way t k = [] := by
      unfold way
      unfold levOf at h
      split
      · rename_i c
        rw [if_pos c, lev_anc] at h
        cases ha : anc t 32 k with
        | none => rfl
        | some l => rw [ha] at h; simp at h; omega
      · rfl
    simp [e]
  · simp at h
    have hk : 0 ≤ k ∧ k ≤ (t.length : Int) - 1 := by
      refine Decidable.byContradiction fun c => ?_
      unfold levOf at h
      rw [if_neg c] at h; omega
    obtain ⟨l, ha⟩ : ∃ l, anc t 32 k = some l := by
      unfold levOf at h
      rw [if_pos hk, lev_anc] at h
      cases ha : anc t 32 k with
      | none => rw [ha] at h; simp at h
      | some l => exact ⟨l, rfl⟩
    have hle := anc_le t 32 k l ha
    have e : way t k = (k :: l).reverse := by unfold way; rw [if_pos hk, ha]
    rw [e]
    obtain ⟨w, hw⟩ : ∃ w, w = k :: l := ⟨_, rfl⟩
    have hwl : w.length ≤ 32 := by rw [hw]; simp; omega
    rw [← hw]
    simp
    refine W_loop (fun n st => ∃ (c : Int) (r m : List Int) (o e : Nat), r.length = n ∧ Chn t r c ∧ r.reverse ++ m = w.reverse ∧ st.V 1 = iv c ∧ st.V 2 = .ptr 0 none 0 0 0 ∧ st.V 5 = .ref o none e 0 m.length ∧ 0 < o ∧ o < st.nx ∧ st.S o = some (.row 1 (ints m)) ∧ st.S 0 = some (.box [.sl 5 (t.map nd)])) ?_ w.length _ ⟨k, w, [], 1, 0, rfl, by rw [hw]; exact anc_chn t 32 k l hk.1 ha, by simp, by simp⟩
    rintro n st ⟨c, r, m, o, e, hn, hc, hm, h1, h2, h5, ho, hox, hSo, hS⟩
    simp [k_spec_WayTo_b0, h1]
    refine Br_i (fun h => ?_) (fun h => ?_)
    · simp at h
      cases r with
      | nil => have : c < 0 := hc; omega
      | cons x xs =>
        obtain ⟨rfl, _, hc'⟩ := hc
        have hml : xs.length + 1 + m.length = w.length := by have := congrArg List.length hm; simp at this; omega
        have z1 := fr hox
        have z2 := fr ho
        have z3 := fr (by omega : 0 < st.nx)
        have hr8 := room8 (n := m.length + 1) (by omega)
        have hr8' : roomFor 8 (1 + m.length) = true := room8 (by omega)
        have hcons : [iv x] :: ints m = ints (x :: m) := rfl
        simp [h1, h2, h5, hS, hSo, z1, z2, z3, hr8, hr8', ints_allV, hcons, R_spec_l17Up t x hl]
        simp at hn
        refine Rnd_n xs.length (by omega) ⟨par t x, xs, x :: m, st.nx + 1, st.ep, rfl, hc', ?_, by simp, by simp [h2], by simp, by omega, by simp, by simp, by simp [z2, z3, hS]⟩
        rw [← hm]; simp
    · simp at h
      cases r with
      | nil =>
        simp at hm
        simp [h5, hSo, hm]
      | cons x xs => obtain ⟨_, h0, _⟩ := hc; omega

/-- The range of a feature's values along a way. -/
def box (t : List Nd) (f : Int) : List Int → Int → Int → Int × Int
  | a :: b :: r, lo, hi => match t[a.toNat]? with
    | none => (lo, hi)
    | some x => if x.f = f then (if x.l = b then box t f (b :: r) lo (min hi x.c) else if x.c = 9223372036854775807 then box t f (b :: r) lo hi else box t f (b :: r) (max lo (x.c + 1)) hi) else box t f (b :: r) lo hi
  | _, lo, hi => (lo, hi)

theorem box_c {t : List Nd} {f : Int} {w : List Int} {i a : Nat} {b : Int} {x : Nd} (h1 : w[i]? = some (a : Int)) (h2 : w[i + 1]? = some b) (hx : t[a]? = some x) (lo hi : Int) :
    box t f (w.drop i) lo hi = if x.f = f then (if x.l = b then box t f (w.drop (i + 1)) lo (min hi x.c) else if x.c = 9223372036854775807 then box t f (w.drop (i + 1)) lo hi else box t f (w.drop (i + 1)) (max lo (x.c + 1)) hi) else box t f (w.drop (i + 1)) lo hi := by
  rw [drop_cons h1, drop_cons h2, box]
  simp [hx]

theorem box_end {t : List Nd} {f : Int} {w : List Int} {i : Nat} (h : w.length ≤ i + 1) (lo hi : Int) : box t f (w.drop i) lo hi = (lo, hi) := by
  by_cases c : i < w.length
  · rw [List.drop_eq_getElem_cons c, List.drop_eq_nil_of_le h, box]
    simp
  · rw [List.drop_eq_nil_of_le (by omega), box]
    simp

def boxOf (t : List Nd) (k f : Int) : Int × Int := box t f (way t k) (-9223372036854775808) 9223372036854775807

def wfN (n : Nd) : Prop := inI n.f ∧ inI n.c ∧ inI n.l ∧ inI n.r ∧ inI n.v

theorem R_spec_BoxOf (t : List Nd) (k f : Int) (hl : t.length ≤ 9223372036854775807) (hwf : ∀ n ∈ t, wfN n) : RUN T k_spec_BoxOf [.agg [.sl 5 (t.map nd)], iv k, iv f] = some ([iv (boxOf t k f).1, iv (boxOf t k f).2], []) := by
  refine RUN_W T_spec_BoxOf rfl ?_
  simp [k_spec_BoxOf_ic, k_spec_BoxOf_rv, R_spec_WayTo t k hl]
  have hwl := way_le t k
  have hwr := way_range t k
  unfold boxOf
  obtain ⟨w, hw⟩ : ∃ w, w = way t k := ⟨_, rfl⟩
  rw [← hw] at hwl hwr ⊢
  refine W_loop (fun n st => ∃ (i : Nat), i + n = w.length ∧ ∃ (lo hi : Int) (o e : Nat), box t f (w.drop i) lo hi = box t f w (-9223372036854775808) 9223372036854775807 ∧ st.V 2 = iv f ∧ st.V 3 = .ptr 0 none 0 0 0 ∧ st.V 8 = iv lo ∧ st.V 9 = iv hi ∧ st.V 10 = .ref o none e 0 w.length ∧ st.V 11 = iv i ∧ 0 < o ∧ o < st.nx ∧ st.S o = some (.row 1 (ints w)) ∧ st.S 0 = some (.box [.sl 5 (t.map nd)])) ?_ w.length _ ⟨0, by simp, -9223372036854775808, 9223372036854775807, 1, 0, by simp⟩
  rintro n st ⟨i, hi, lo, hh, o, e, hb, h2, h3, h8, h9, h10, h11, ho, hox, hSo, hS⟩
  have hw1 := w64 (x := (i : Int) + 1) (by omega) (by omega)
  simp [k_spec_BoxOf_b0, h10, h11, hSo, hw1]
  refine Br_i (fun h => ?_) (fun h => ?_)
  · simp at h
    have hlt : i + 1 < w.length := by omega
    obtain ⟨a, ha⟩ : ∃ a, w[i]? = some a := ⟨_, List.getElem?_eq_getElem (by omega)⟩
    obtain ⟨b, hb2⟩ : ∃ b, w[i + 1]? = some b := ⟨_, List.getElem?_eq_getElem hlt⟩
    have har := hwr a (List.mem_of_getElem? ha)
    obtain ⟨a, rfl⟩ : ∃ a' : Nat, a = a' := ⟨a.toNat, by omega⟩
    obtain ⟨x, hx⟩ : ∃ x, t[a]? = some x := ⟨_, List.getElem?_eq_getElem (by omega)⟩
    have hwx := hwf x (List.mem_of_getElem? hx)
    obtain ⟨_, ⟨hc1, hc2⟩, _⟩ := hwx
    rw [box_c ha hb2 hx] at hb
    have ha' := ints_get ha
    have hb' := ints_get hb2
    have z1 := fr hox
    have z2 := fr ho
    have z3 := fr (by omega : 0 < st.nx)
    have hil : i < w.length := by omega
    have hw2 := w64 (x := x.c + 1)
    simp [-getElem?_pos, h2, h3, h8, h9, h10, h11, hSo, hS, z1, z2, z3, ha', hx, nd, hil]
    have fin : ∀ (lo' hi' : Int) (V : Nat → PV) (S : Nat → Option Ob) (q : Nat), box t f (w.drop (i + 1)) lo' hi' = box t f w (-9223372036854775808) 9223372036854775807 → V 2 = iv f → V 3 = .ptr 0 none 0 0 0 → V 8 = iv lo' → V 9 = iv hi' → V 10 = .ref o none e 0 w.length → V 11 = iv ((i : Int) + 1) → o < q → S o = some (.row 1 (ints w)) → S 0 = some (.box [.sl 5 (t.map nd)]) → ∃ k, k < n ∧ ∃ (i : Nat), i + k = w.length ∧ ∃ (lo hi : Int) (o e : Nat), box t f (w.drop i) lo hi = box t f w (-9223372036854775808) 9223372036854775807 ∧ V 2 = iv f ∧ V 3 = .ptr 0 none 0 0 0 ∧ V 8 = iv lo ∧ V 9 = iv hi ∧ V 10 = .ref o none e 0 w.length ∧ V 11 = iv i ∧ 0 < o ∧ o < q ∧ S o = some (.row 1 (ints w)) ∧ S 0 = some (.box [.sl 5 (t.map nd)]) := by
      intro lo' hi' V S q a1 a2 a3 a4 a5 a6 a7 a8 a9 a10
      exact ⟨n - 1, by omega, i + 1, by omega, lo', hi', o, e, a1, a2, a3, a4, a5, a6, by simpa using a7, ho, a8, a9, a10⟩
    refine Br_i (fun b0 => ?_) (fun b0 => ?_)
    · simp at b0
      rw [if_neg b0] at hb
      simp [-getElem?_pos, h2, h3, h8, h9, h10, h11, hSo, hS, z1, z2, z3, hw1]
      exact fin lo hh _ _ _ hb (by simp [h2]) (by simp [h3]) (by simp [h8]) (by simp [h9]) (by simp [h10]) (by simp) (by simp; omega) (by simp [z1, hSo]) (by simp [z3, hS])
    · simp at b0
      rw [if_pos b0] at hb
      simp [-getElem?_pos, h2, h3, h8, h9, h10, h11, hSo, hS, z1, z2, z3, hw1, hb', hlt]
      refine Br_i (fun b1 => ?_) (fun b1 => ?_)
      · simp at b1
        rw [if_pos b1] at hb
        simp [-getElem?_pos, h2, h3, h8, h9, h10, h11, hSo, hS, z1, z2, z3, hw1]
        exact fin lo _ _ _ _ hb (by simp [h2]) (by simp [h3]) (by simp [h8]) (by simp) (by simp [h10]) (by simp) (by simp; omega) (by simp [z1, hSo]) (by simp [z3, hS])
      · simp at b1
        rw [if_neg b1] at hb
        simp [-getElem?_pos, h2, h3, h8, h9, h10, h11, hSo, hS, z1, z2, z3, hw1]
        refine Br_i (fun b2 => ?_) (fun b2 => ?_)
        · simp at b2
          rw [if_neg (by omega)] at hb
          have hw3 := hw2 (by omega) (by omega)
          simp [-getElem?_pos, h2, h3, h8, h9, h10, h11, hSo, hS, z1, z2, z3, hw1, hw3]
          exact fin _ hh _ _ _ hb (by simp [h2]) (by simp [h3]) (by simp) (by simp [h9]) (by simp [h10]) (by simp) (by simp; omega) (by simp [z1, hSo]) (by simp [z3, hS])
        · simp at b2
          rw [if_pos (by omega)] at hb
          simp [-getElem?_pos, h2, h3, h8, h9, h10, h11, hSo, hS, z1, z2, z3, hw1]
          exact fin lo hh _ _ _ hb (by simp [h2]) (by simp [h3]) (by simp [h8]) (by simp [h9]) (by simp [h10]) (by simp) (by simp; omega) (by simp [z1, hSo]) (by simp [z3, hS])
  · simp at h
    rw [box_end (by omega)] at hb
    simp [h8, h9, ← hb]

theorem R_impl_BoxOf (t : List Nd) (k f : Int) (hl : t.length ≤ 9223372036854775807) (hwf : ∀ n ∈ t, wfN n) : RUN T k_impl_BoxOf [.agg [.sl 5 (t.map nd)], iv k, iv f] = some ([iv (boxOf t k f).1, iv (boxOf t k f).2], []) := by
  refine RUN_W T_impl_BoxOf rfl ?_
  simp [k_impl_BoxOf_ic, k_impl_BoxOf_rv, R_impl_wayTo t k hl]
  have hwl := way_le t k
  have hwr := way_range t k
  unfold boxOf
  obtain ⟨w, hw⟩ : ∃ w, w = way t k := ⟨_, rfl⟩
  rw [← hw] at hwl hwr ⊢
  refine W_loop (fun n st => ∃ (i : Nat), i + n = w.length ∧ ∃ (lo hi : Int) (o e : Nat), box t f (w.drop i) lo hi = box t f w (-9223372036854775808) 9223372036854775807 ∧ st.V 2 = iv f ∧ st.V 3 = .ptr 0 none 0 0 0 ∧ st.V 8 = iv lo ∧ st.V 9 = iv hi ∧ st.V 10 = .ref o none e 0 w.length ∧ st.V 11 = iv i ∧ 0 < o ∧ o < st.nx ∧ st.S o = some (.row 1 (ints w)) ∧ st.S 0 = some (.box [.sl 5 (t.map nd)])) ?_ w.length _ ⟨0, by simp, -9223372036854775808, 9223372036854775807, 1, 0, by simp⟩
  rintro n st ⟨i, hi, lo, hh, o, e, hb, h2, h3, h8, h9, h10, h11, ho, hox, hSo, hS⟩
  have hw1 := w64 (x := (i : Int) + 1) (by omega) (by omega)
  simp [k_impl_BoxOf_b0, h10, h11, hSo, hw1]
  refine Br_i (fun h => ?_) (fun h => ?_)
  · simp at h
    have hlt : i + 1 < w.length := by omega
    obtain ⟨a, ha⟩ : ∃ a, w[i]? = some a := ⟨_, List.getElem?_eq_getElem (by omega)⟩
    obtain ⟨b, hb2⟩ : ∃ b, w[i + 1]? = some b := ⟨_, List.getElem?_eq_getElem hlt⟩
    have har := hwr a (List.mem_of_getElem? ha)
    obtain ⟨a, rfl⟩ : ∃ a' : Nat, a = a' := ⟨a.toNat, by omega⟩
    obtain ⟨x, hx⟩ : ∃ x, t[a]? = some x := ⟨_, List.getElem?_eq_getElem (by omega)⟩
    have hwx := hwf x (List.mem_of_getElem? hx)
    obtain ⟨_, ⟨hc1, hc2⟩, _⟩ := hwx
    rw [box_c ha hb2 hx] at hb
    have ha' := ints_get ha
    have hb' := ints_get hb2
    have z1 := fr hox
    have z2 := fr ho
    have z3 := fr (by omega : 0 < st.nx)
    have hil : i < w.length := by omega
    have hw2 := w64 (x := x.c + 1)
    simp [-getElem?_pos, h2, h3, h8, h9, h10, h11, hSo, hS, z1, z2, z3, ha', hx, nd, hil]
    have fin : ∀ (lo' hi' : Int) (V : Nat → PV) (S : Nat → Option Ob) (q : Nat), box t f (w.drop (i + 1)) lo' hi' = box t f w (-9223372036854775808) 9223372036854775807 → V 2 = iv f → V 3 = .ptr 0 none 0 0 0 → V 8 = iv lo' → V 9 = iv hi' → V 10 = .ref o none e 0 w.length → V 11 = iv ((i : Int) + 1) → o < q → S o = some (.row 1 (ints w)) → S 0 = some (.box [.sl 5 (t.map nd)]) → ∃ k, k < n ∧ ∃ (i : Nat), i + k = w.length ∧ ∃ (lo hi : Int) (o e : Nat), box t f (w.drop i) lo hi = box t f w (-9223372036854775808) 9223372036854775807 ∧ V 2 = iv f ∧ V 3 = .ptr 0 none 0 0 0 ∧ V 8 = iv lo ∧ V 9 = iv hi ∧ V 10 = .ref o none e 0 w.length ∧ V 11 = iv i ∧ 0 < o ∧ o < q ∧ S o = some (.row 1 (ints w)) ∧ S 0 = some (.box [.sl 5 (t.map nd)]) := by
      intro lo' hi' V S q a1 a2 a3 a4 a5 a6 a7 a8 a9 a10
      exact ⟨n - 1, by omega, i + 1, by omega, lo', hi', o, e, a1, a2, a3, a4, a5, a6, by simpa using a7, ho, a8, a9, a10⟩
    refine Br_i (fun b0 => ?_) (fun b0 => ?_)
    · simp at b0
      rw [if_neg b0] at hb
      simp [-getElem?_pos, h2, h3, h8, h9, h10, h11, hSo, hS, z1, z2, z3, hw1]
      exact fin lo hh _ _ _ hb (by simp [h2]) (by simp [h3]) (by simp [h8]) (by simp [h9]) (by simp [h10]) (by simp) (by simp; omega) (by simp [z1, hSo]) (by simp [z3, hS])
    · simp at b0
      rw [if_pos b0] at hb
      simp [-getElem?_pos, h2, h3, h8, h9, h10, h11, hSo, hS, z1, z2, z3, hw1, hb', hlt]
      refine Br_i (fun b1 => ?_) (fun b1 => ?_)
      · simp at b1
        rw [if_pos b1] at hb
        simp [-getElem?_pos, h2, h3, h8, h9, h10, h11, hSo, hS, z1, z2, z3, hw1]
        exact fin lo _ _ _ _ hb (by simp [h2]) (by simp [h3]) (by simp [h8]) (by simp) (by simp [h10]) (by simp) (by simp; omega) (by simp [z1, hSo]) (by simp [z3, hS])
      · simp at b1
        rw [if_neg b1] at hb
        simp [-getElem?_pos, h2, h3, h8, h9, h10, h11, hSo, hS, z1, z2, z3, hw1]
        refine Br_i (fun b2 => ?_) (fun b2 => ?_)
        · simp at b2
          rw [if_neg (by omega)] at hb
          have hw3 := hw2 (by omega) (by omega)
          simp [-getElem?_pos, h2, h3, h8, h9, h10, h11, hSo, hS, z1, z2, z3, hw1, hw3]
          exact fin _ hh _ _ _ hb (by simp [h2]) (by simp [h3]) (by simp) (by simp [h9]) (by simp [h10]) (by simp) (by simp; omega) (by simp [z1, hSo]) (by simp [z3, hS])
        · simp at b2
          rw [if_pos (by omega)] at hb
          simp [-getElem?_pos, h2, h3, h8, h9, h10, h11, hSo, hS, z1, z2, z3, hw1]
          exact fin lo hh _ _ _ hb (by simp [h2]) (by simp [h3]) (by simp [h8]) (by simp [h9]) (by simp [h10]) (by simp) (by simp; omega) (by simp [z1, hSo]) (by simp [z3, hS])
  · simp at h
    rw [box_end (by omega)] at hb
    simp [h8, h9, ← hb]

def within (n a b : Int) : Bool := decide (a ≤ n) && decide (n ≤ b)

theorem R_spec_l1In' (a b c : Int) : RUN T k_spec_l1In [iv a, iv b, iv c] = some ([bv (within a b c)], []) := R_spec_l1In a b c

theorem within_iff {n a b : Int} : within n a b = true ↔ a ≤ n ∧ n ≤ b := by simp [within]

def leafV (v : Int) : Bool := within v (-1099511627776) 1099511627776

@[simp] theorem R_spec_l14Leaf (v : Int) : RUN T k_spec_l14Leaf [iv v] = some ([bv (leafV v)], []) := by
  refine RUN_W T_spec_l14Leaf rfl ?_
  simp [k_spec_l14Leaf_ic, k_spec_l14Leaf_rv, leafV, within]

theorem eqP_5 (a b c d e a' b' c' d' e' : Int) : eqP [.i .i64, .i .i64, .i .i64, .i .i64, .i .i64] (.agg [iv a, iv b, iv c, iv d, iv e]) (.agg [iv a', iv b', iv c', iv d', iv e']) = some (decide (a = a' ∧ b = b' ∧ c = c' ∧ d = d' ∧ e = e')) := by
  simp only [eqP, eqCells, eqV_i, Option.bind_some]
  by_cases h1 : a = a' <;> by_cases h2 : b = b' <;> by_cases h3 : c = c' <;> by_cases h4 : d = d' <;> by_cases h5 : e = e' <;> simp [h1, h2, h3, h4, h5]

def decV (n : Int) : Bool := within n (-2147483647) 2147483647

@[simp] theorem R_spec_l6Value (v : Int) : RUN T k_spec_l6Value [iv v] = some ([bv (decV v)], []) := by
  refine RUN_W T_spec_l6Value rfl ?_
  simp [k_spec_l6Value_ic, k_spec_l6Value_rv, decV, within]

/-- The nodes are listed level by level: the number of the next child, at the end. -/
def shp (F : Int) : List Nd → Int → Int → Option Int
  | [], _, n => some n
  | x :: xs, i, n =>
    if x.f = -1 then (if (x.c = 0 ∧ x.l = 0 ∧ x.r = 0) ∧ leafV x.v = true then shp F xs (i + 1) n else none)
    else if within x.f 0 (F - 1) = true ∧ decV x.c = true ∧ x.v = 0 ∧ x.l = n ∧ x.r = n + 1 ∧ i < n then shp F xs (i + 1) (n + 2) else none

def shapeB (t : List Nd) (F : Int) : Bool := match shp F t 0 1 with
  | some n => decide (n = t.length)
  | none => false

set_option maxHeartbeats 1000000 in
theorem R_spec_l17Shape (t : List Nd) (F : Int) (hl : t.length ≤ 1048576) (hF : 0 ≤ F ∧ F ≤ 4) : RUN T k_spec_l17Shape [.agg [.sl 5 (t.map nd)], iv F] = some ([bv (shapeB t F)], []) := by
  refine RUN_W T_spec_l17Shape rfl ?_
  simp [k_spec_l17Shape_ic, k_spec_l17Shape_rv]
  have hwF := w64 (x := F - 1) (by omega) (by omega)
  refine W_loop (fun n st => ∃ i : Nat, i + n = t.length ∧ ∃ k : Nat, k ≤ i ∧ shp F (t.drop i) i (1 + 2 * k) = shp F t 0 1 ∧ st.V 1 = iv F ∧ st.V 2 = .ptr 0 none 0 0 0 ∧ st.V 5 = iv (1 + 2 * k) ∧ st.V 6 = iv i ∧ 0 < st.nx ∧ st.S 0 = some (.box [.sl 5 (t.map nd)])) ?_ t.length _ ⟨0, by simp, 0, by simp⟩
  rintro n st ⟨i, hi, k, hk, hr, h1, h2, h5, h6, hnx, hS⟩
  simp [k_spec_l17Shape_b0, h2, h6, hS]
  have z := fr hnx
  refine Br_i (fun h => ?_) (fun h => ?_)
  · simp at h
    obtain ⟨x, hx⟩ : ∃ x, t[i]? = some x := ⟨_, List.getElem?_eq_getElem h⟩
    have hw := wS h (by omega : t.length ≤ 9223372036854775807)
    have hw1 := w64 (x := 1 + 2 * (k : Int) + 1) (by omega) (by omega)
    have hw2 := w64 (x := 1 + 2 * (k : Int) + 2) (by omega) (by omega)
    rw [drop_cons hx, shp] at hr
    simp [-getElem?_pos, h1, h2, h5, h6, hS, hx, nd, z]
    refine Br_i (fun h3 => ?_) (fun h3 => ?_)
    · simp at h3
      rw [if_pos h3] at hr
      by_cases hc : x.c = 0 ∧ x.l = 0 ∧ x.r = 0
      · have hc' := eq_true hc
        simp [-getElem?_pos, h1, h2, h5, h6, hS, z, h3, eqP_5, hc']
        cases hv : leafV x.v with
        | false =>
          rw [if_neg (by simp [hv])] at hr
          simp [shapeB, ← hr]
        | true =>
          rw [if_pos ⟨hc, hv⟩] at hr
          simp [-getElem?_pos, h1, h2, h5, h6, hS, z, hw]
          exact Rnd_n (n - 1) (by omega) ⟨i + 1, by omega, k, by omega, by simpa using hr, by simp [h1], by simp [h2], by simp [h5], by simp, by simp, by simp [z, hS]⟩
      · have hc' := eq_false hc
        rw [if_neg (fun h => hc h.1)] at hr
        simp [-getElem?_pos, h1, h2, h5, h6, hS, z, h3, eqP_5, hc']
        simp [shapeB, ← hr]
    · simp at h3
      rw [if_neg h3] at hr
      simp [-getElem?_pos, h1, h2, h5, h6, hS, z, h3, hwF, R_spec_l1In', -R_spec_l1In]
      by_cases hc : within x.f 0 (F - 1) = true ∧ decV x.c = true ∧ x.v = 0 ∧ x.l = 1 + 2 * (k : Int) ∧ x.r = 1 + 2 * (k : Int) + 1 ∧ (i : Int) < 1 + 2 * (k : Int)
      · rw [if_pos hc] at hr
        obtain ⟨c1, c2, c3, c4, c5, c6⟩ := hc
        have c7 : ¬ (1 + 2 * (k : Int) ≤ i) := by omega
        simp [-getElem?_pos, h1, h2, h5, h6, hS, z, h3, hwF, c1, c2, c3, c4, c5, c7, hw, hw1, hw2]
        exact Rnd_n (n - 1) (by omega) ⟨i + 1, by omega, k + 1, by omega, by rw [← hr]; congr 1, by simp [h1], by simp [h2], by simp; omega, by simp, by simp, by simp [z, hS]⟩
      · rw [if_neg hc] at hr
        have e0 : shapeB t F = false := by simp [shapeB, ← hr]
        rw [e0]
        refine Br_i (fun b0 => ?_) (fun b0 => ?_) <;> (try simp at b0) <;> simp [-getElem?_pos, b0, h1, h2, h5, h6, hS, z, h3, hwF, hw1]
        all_goals try (refine Br_i (fun b1 => ?_) (fun b1 => ?_) <;> (try simp at b1) <;> simp [-getElem?_pos, b0, b1, h1, h2, h5, h6, hS, z, h3, hwF, hw1])
        all_goals try (refine Br_i (fun b2 => ?_) (fun b2 => ?_) <;> (try simp at b2) <;> simp [-getElem?_pos, b0, b1, b2, h1, h2, h5, h6, hS, z, h3, hwF, hw1])
        all_goals try (refine Br_i (fun b3 => ?_) (fun b3 => ?_) <;> (try simp at b3) <;> simp [-getElem?_pos, b0, b1, b2, b3, h1, h2, h5, h6, hS, z, h3, hwF, hw1])
        all_goals try (refine Br_i (fun b4 => ?_) (fun b4 => ?_) <;> (try simp at b4) <;> simp [-getElem?_pos, b0, b1, b2, b3, b4, h1, h2, h5, h6, hS, z, h3, hwF, hw1])
        all_goals try (refine Br_i (fun b5 => ?_) (fun b5 => ?_) <;> (try simp at b5) <;> simp [-getElem?_pos, b0, b1, b2, b3, b4, b5, h1, h2, h5, h6, hS, z, h3, hwF, hw1])
        exact (hc ⟨b0, b1, b2, b3, b4, by omega⟩).elim
  · simp at h
    rw [List.drop_eq_nil_of_le h, shp] at hr
    unfold shapeB
    rw [← hr]
    simp [h5, hS, h2]

structure InnerOk (F : Int) (x : Nd) (i n m : Int) : Prop where
  lo : n ≤ x.l
  lt : i < x.l
  r : x.r = x.l + 1
  hi : x.r < m
  f : 0 ≤ x.f ∧ x.f ≤ F - 1
  c : decV x.c = true
  v : x.v = 0

theorem shp_facts (F : Int) : ∀ (l : List Nd) (i n m : Int), shp F l i n = some m → n ≤ m ∧
    (∀ (j : Nat) (x : Nd), l[j]? = some x → x.f = -1 → x.c = 0 ∧ x.l = 0 ∧ x.r = 0 ∧ leafV x.v = true) ∧
    (∀ (j : Nat) (x : Nd), l[j]? = some x → x.f ≠ -1 → InnerOk F x (i + j) n m) ∧
    (∀ (j j' : Nat) (x y : Nd), j < j' → l[j]? = some x → l[j']? = some y → x.f ≠ -1 → y.f ≠ -1 → x.r < y.l) ∧
    (∀ k : Int, n ≤ k → k < m → ∃ (j : Nat) (x : Nd), l[j]? = some x ∧ x.f ≠ -1 ∧ (x.l = k ∨ x.r = k))
  | [], i, n, m, h => by
    simp only [shp, Option.some.injEq] at h
    subst h
    exact ⟨Int.le_refl _, by simp, by simp, by simp, fun k h1 h2 => by omega⟩
  | x :: xs, i, n, m, h => by
    rw [shp] at h
    split at h
    · rename_i hf
      split at h
      · rename_i hc
        obtain ⟨h1, h2, h3, h4, h5⟩ := shp_facts F xs (i + 1) n m h
        refine ⟨h1, fun j y hj hy => ?_, fun j y hj hy => ?_, fun j j' y z hjj hj hj' hy hz => ?_, fun k hk1 hk2 => ?_⟩
        · cases j with
          | zero => simp at hj; subst hj; exact ⟨hc.1.1, hc.1.2.1, hc.1.2.2, hc.2⟩
          | succ j => exact h2 j y (by simpa using hj) hy
        · cases j with
          | zero => simp at hj; subst hj; exact (hy hf).elim
          | succ j =>
            have := h3 j y (by simpa using hj) hy
            exact ⟨this.lo, by have := this.lt; push_cast; omega, this.r, this.hi, this.f, this.c, this.v⟩
        · cases j' with
          | zero => omega
          | succ j' =>
            cases j with
            | zero => simp at hj; subst hj; exact (hy hf).elim
            | succ j => exact h4 j j' y z (by omega) (by simpa using hj) (by simpa using hj') hy hz
        · obtain ⟨j, y, hj, hy⟩ := h5 k hk1 hk2
          exact ⟨j + 1, y, by simpa using hj, hy⟩
      · cases h
    · rename_i hf
      split at h
      · rename_i hc
        obtain ⟨c1, c2, c3, c4, c5, c6⟩ := hc
        have c1' := within_iff.mp c1
        obtain ⟨h1, h2, h3, h4, h5⟩ := shp_facts F xs (i + 1) (n + 2) m h
        refine ⟨by omega, fun j y hj hy => ?_, fun j y hj hy => ?_, fun j j' y z hjj hj hj' hy hz => ?_, fun k hk1 hk2 => ?_⟩
        · cases j with
          | zero => simp at hj; subst hj; exact (hf hy).elim
          | succ j => exact h2 j y (by simpa using hj) hy
        · cases j with
          | zero => simp at hj; subst hj; exact ⟨by omega, by simp; omega, by omega, by omega, c1', c2, c3⟩
          | succ j =>
            have := h3 j y (by simpa using hj) hy
            exact ⟨by have := this.lo; omega, by have := this.lt; push_cast; omega, this.r, this.hi, this.f, this.c, this.v⟩
        · cases j' with
          | zero => omega
          | succ j' =>
            cases j with
            | zero =>
              simp at hj; subst hj
              have := (h3 j' z (by simpa using hj') hz).lo
              omega
            | succ j => exact h4 j j' y z (by omega) (by simpa using hj) (by simpa using hj') hy hz
        · by_cases hkn : k < n + 2
          · exact ⟨0, x, rfl, hf, by omega⟩
          · obtain ⟨j, y, hj, hy⟩ := h5 k (by omega) hk2
            exact ⟨j + 1, y, by simpa using hj, hy⟩
      · cases h

/-- What a tree is whose shape is right. -/
structure Shaped (t : List Nd) (F : Int) : Prop where
  leaf : ∀ (j : Nat) (x : Nd), t[j]? = some x → x.f = -1 → x.c = 0 ∧ x.l = 0 ∧ x.r = 0 ∧ leafV x.v = true
  inner : ∀ (j : Nat) (x : Nd), t[j]? = some x → x.f ≠ -1 → InnerOk F x j 1 t.length
  ord : ∀ (j j' : Nat) (x y : Nd), j < j' → t[j]? = some x → t[j']? = some y → x.f ≠ -1 → y.f ≠ -1 → x.r < y.l
  cover : ∀ k : Int, 1 ≤ k → k < t.length → ∃ (j : Nat) (x : Nd), t[j]? = some x ∧ x.f ≠ -1 ∧ (x.l = k ∨ x.r = k)
  pos : 1 ≤ t.length

theorem shaped_of {t : List Nd} {F : Int} (h : shapeB t F = true) : Shaped t F := by
  unfold shapeB at h
  split at h
  · rename_i n hn
    simp at h
    subst h
    obtain ⟨h1, h2, h3, h4, h5⟩ := shp_facts F t 0 1 _ hn
    exact ⟨h2, fun j x hj hx => by simpa using h3 j x hj hx, h4, h5, by omega⟩
  · cases h

theorem above_iff {k : Int} {x : Nd} : above k x = true ↔ x.f ≠ -1 ∧ (x.l = k ∨ x.r = k) := by simp [above]

theorem Shaped.par_of {t : List Nd} {F : Int} (h : Shaped t F) {i : Nat} {x : Nd} (hx : t[i]? = some x) (hf : x.f ≠ -1) {k : Int} (hk : x.l = k ∨ x.r = k) : par t k = i := by
  unfold par
  refine fidx_some hx (above_iff.mpr ⟨hf, hk⟩) fun j y hj hy => ?_
  cases ha : above k y with
  | false => rfl
  | true =>
    obtain ⟨hyf, hyk⟩ := above_iff.mp ha
    have h1 := h.ord j i y x hj hy hx hyf hf
    have h2 := (h.inner j y hy hyf).r
    have h3 := (h.inner i x hx hf).r
    omega

theorem Shaped.par_lt {t : List Nd} {F : Int} (h : Shaped t F) (k : Int) : par t k < 0 ∨ ∃ (i : Nat) (x : Nd), par t k = i ∧ t[i]? = some x ∧ x.f ≠ -1 ∧ (x.l = k ∨ x.r = k) ∧ (i : Int) < k ∧ k < t.length := by
  rcases par_range t k with h1 | h1
  · left; omega
  · obtain ⟨i, hi⟩ : ∃ i : Nat, par t k = i := ⟨(par t k).toNat, by omega⟩
    right
    have hil : i < t.length := by omega
    have hx := List.getElem?_eq_getElem hil
    refine ⟨i, t[i], hi, hx, ?_⟩
    have ha : above k t[i] = true := by
      unfold par fidx at hi
      split at hi
      · rename_i j hj
        obtain ⟨h2, h3, _⟩ := List.findIdx?_eq_some_iff_getElem.mp hj
        have : j = i := by omega
        subst this; exact h3
      · omega
    obtain ⟨hf, hk⟩ := above_iff.mp ha
    have := h.inner i _ hx hf
    have h2 := this.lt
    have h3 := this.r
    have h4 := this.hi
    exact ⟨hf, hk, by omega, by omega⟩

theorem Shaped.anc {t : List Nd} {F : Int} (h : Shaped t F) : ∀ (n : Nat) (k : Int), k < n → 0 < n → ∃ l, anc t n k = some l
  | 0, _, _, h0 => by omega
  | n + 1, k, hk, _ => by
    rw [anc_s]
    split
    · exact ⟨[], rfl⟩
    · rename_i hp
      rcases h.par_lt k with h1 | ⟨i, x, h1, _, _, _, h2, _⟩
      · omega
      · obtain ⟨l, hl⟩ := h.anc n (par t k) (by omega) (by omega)
        exact ⟨_, by rw [hl]; rfl⟩

/-- Two beside each other in a list. -/
def adj (p : Int → Int → Bool) : List Int → Bool
  | a :: b :: r => p a b || adj p (b :: r)
  | _ => false

theorem adj_snoc (p : Int → Int → Bool) : ∀ (l : List Int) (a b : Int), adj p (l ++ [a, b]) = (adj p (l ++ [a]) || p a b)
  | [], a, b => by simp [adj]
  | [x], a, b => by simp [adj]
  | x :: y :: r, a, b => by
    have := adj_snoc p (y :: r) a b
    simp only [List.cons_append, adj] at this ⊢
    rw [this, Bool.or_assoc]

theorem adj_reverse (p : Int → Int → Bool) : ∀ l : List Int, adj p l.reverse = adj (fun a b => p b a) l
  | [] => rfl
  | [x] => rfl
  | x :: y :: r => by
    have := adj_reverse p (y :: r)
    rw [adj, ← this]
    simp only [List.reverse_cons, List.append_assoc, List.cons_append, List.nil_append]
    rw [adj_snoc, Bool.or_comm]

/-- A cut that does not part what comes to a node. -/
def badP (t : List Nd) (n : Nd) (a b : Int) : Bool := match t[a.toNat]? with
  | none => false
  | some x => decide (x.f = n.f) && ((decide (x.r = b) && decide (n.c ≤ x.c)) || (decide (x.l = b) && decide (x.c ≤ n.c)))

def wayOkB (t : List Nd) (i : Nat) : Bool := match t[i]? with
  | none => true
  | some x => decide (x.f = -1) || !adj (badP t x) (way t i)

def waysB (t : List Nd) : Bool := (List.range t.length).all (wayOkB t)

def treeB (t : List Nd) (F : Int) : Bool := within F 0 4 && within t.length 1 31 && shapeB t F && decide (dpt t t.length ≤ 4) && waysB t

theorem Shaped.way {t : List Nd} {F : Int} (h : Shaped t F) (hl : t.length ≤ 31) {i : Nat} (hi : i < t.length) : ∃ l, Pe.way t i = ((i : Int) :: l).reverse ∧ Chn t l (par t i) ∧ l.length ≤ 31 := by
  obtain ⟨l, ha⟩ := h.anc 32 i (by omega) (by omega)
  have hc := anc_chn t 32 i l (by omega) ha
  have hle := anc_le t 32 i l ha
  refine ⟨l, ?_, hc.2.2, by omega⟩
  unfold Pe.way
  rw [if_pos (by omega), ha]

theorem badP_eq {t : List Nd} {a : Nat} {z : Nd} (h : t[a]? = some z) (n : Nd) (b : Int) : badP t n a b = (decide (z.f = n.f) && ((decide (z.r = b) && decide (n.c ≤ z.c)) || (decide (z.l = b) && decide (z.c ≤ n.c)))) := by
  simp [badP, h]

theorem wayOkB_eq {t : List Nd} {i : Nat} {x : Nd} (h : t[i]? = some x) : wayOkB t i = (decide (x.f = -1) || !adj (badP t x) (way t i)) := by simp [wayOkB, h]

theorem waysB_iff {t : List Nd} : waysB t = true ↔ ∀ j : Nat, j < t.length → wayOkB t j = true := by
  simp [waysB]

theorem waysB_no {t : List Nd} {i : Nat} (hi : i < t.length) (h : wayOkB t i = false) : waysB t = false := by
  cases e : waysB t with
  | false => rfl
  | true => rw [waysB_iff.mp e i hi] at h; cases h

set_option maxHeartbeats 1000000 in
theorem R_spec_l17Ways (t : List Nd) (F : Int) (hl : t.length ≤ 31) (hs : Shaped t F) : RUN T k_spec_l17Ways [.agg [.sl 5 (t.map nd)]] = some ([bv (waysB t)], []) := by
  refine RUN_W T_spec_l17Ways rfl ?_
  simp [k_spec_l17Ways_ic, k_spec_l17Ways_rv]
  refine W_loop (fun n st => ∃ i : Nat, i + n = t.length ∧ (∀ j : Nat, j < i → wayOkB t j = true) ∧ st.V 1 = .ptr 0 none 0 0 0 ∧ st.V 3 = iv i ∧ 0 < st.nx ∧ st.S 0 = some (.box [.sl 5 (t.map nd)])) ?_ t.length _ ⟨0, by simp⟩
  rintro n st ⟨i, hi, hk, h1, h3, hnx, hS⟩
  simp [k_spec_l17Ways_b1, h1, h3, hS]
  have z := fr hnx
  refine Br_i (fun h => ?_) (fun h => ?_)
  · simp at h
    obtain ⟨x, hx⟩ : ∃ x, t[i]? = some x := ⟨_, List.getElem?_eq_getElem h⟩
    have hw := wS h (by omega : t.length ≤ 9223372036854775807)
    have hup := fun k => R_spec_l17Up t k (by omega)
    obtain ⟨l, hway, hchn, hll⟩ := hs.way hl h
    simp [-getElem?_pos, h1, h3, hS, hx, z, nd]
    refine Br_i (fun h4 => ?_) (fun h4 => ?_)
    · simp at h4
      have ok : wayOkB t i = true := by rw [wayOkB_eq hx]; simp [h4]
      simp [-getElem?_pos, h1, h3, hS, hx, z, hw]
      exact Rnd_n (n - 1) (by omega) ⟨i + 1, by omega, fun j hj => by by_cases e : j = i; · subst e; exact ok
                                                                      · exact hk j (by omega), by simp [h1], by simp, by simp [hnx], by simp [hS]⟩
    · simp at h4
      obtain ⟨A, hA⟩ : ∃ A, A = adj (badP t x) (way t i) := ⟨_, rfl⟩
      have hA' : wayOkB t i = !A := by rw [wayOkB_eq hx, hA]; simp [h4]
      rw [hway, adj_reverse] at hA
      simp [-getElem?_pos, h1, h3, hS, hx, z, hw, hup]
      refine W_loop (fun n st => ∃ (c : Int) (r : List Int), r.length = n ∧ Chn t r (par t c) ∧ adj (fun a b => badP t x b a) (c :: r) = A ∧ st.V 1 = .ptr 0 none 0 0 0 ∧ st.V 3 = iv i ∧ st.V 4 = iv c ∧ st.V 5 = iv (par t c) ∧ 0 < st.nx ∧ st.S 0 = some (.box [.sl 5 (t.map nd)])) ?_ l.length _ ⟨i, l, rfl, hchn, hA.symm, by simp [h1], by simp [h3], by simp, by simp, by simp [hnx], by simp [hS]⟩
      clear hnx hS h1 h3 z
      rintro n' st ⟨c, r, hr, hc, hcA, h1, h3, h4', h5, hnx, hS⟩
      have z := fr hnx
      simp [k_spec_l17Ways_b0, h1, h3, h5]
      refine Br_i (fun h => ?_) (fun h => ?_)
      · simp at h
        cases r with
        | nil => have : par t c < 0 := hc; omega
        | cons y ys =>
          obtain ⟨rfl, h0, hc'⟩ := hc
          have hpr := par_range t c
          obtain ⟨a, ha⟩ : ∃ a : Nat, par t c = a := ⟨(par t c).toNat, by omega⟩
          rw [ha] at h5 hc' hcA hpr
          obtain ⟨y, hy⟩ : ∃ y, t[a]? = some y := ⟨_, List.getElem?_eq_getElem (by omega)⟩
          rw [adj, badP_eq hy] at hcA
          have z2 := fr (by omega : st.nx < st.nx + 1)
          by_cases b0 : y.f = x.f
          all_goals by_cases b1 : y.r = c
          all_goals by_cases b2 : x.c ≤ y.c
          all_goals by_cases b3 : y.l = c
          all_goals by_cases b4 : y.c ≤ x.c
          all_goals simp [b0, b1, b2, b3, b4] at hcA
          all_goals simp [-getElem?_pos, h1, h3, h4', h5, hS, hx, hy, z, nd, hup, b0, b1, b2, b3, b4]
          all_goals first
            | (have no : waysB t = false := waysB_no (i := i) (by omega) (by rw [hA']; simp [hcA])
               simp [no]; done)
            | (simp at hr
               exact Rnd_n ys.length (by omega) ⟨a, ys, rfl, hc', hcA, by simp [h1], by simp [h3], by simp, by simp, by simp, by simp [z, hS]⟩)
            | skip
      · simp at h
        cases r with
        | nil =>
          have ok : wayOkB t i = true := by rw [hA', ← hcA]; rfl
          simp [-getElem?_pos, h1, h3, hS, hx, z, hw]
          exact Rnd_n (n - 1) (by omega) ⟨i + 1, by omega, fun j hj => by by_cases e : j = i; · subst e; exact ok
                                                                          · exact hk j (by omega), by simp [h1], by simp, by simp [hnx], by simp [hS]⟩
        | cons x xs => obtain ⟨_, h0, _⟩ := hc; omega
  · simp at h
    have : waysB t = true := waysB_iff.mpr fun j hj => hk j (by omega)
    simp [this]

theorem R_spec_TreeOk (t : List Nd) (F : Int) (hl : t.length ≤ 9223372036854775807) : RUN T k_spec_TreeOk [.agg [.sl 5 (t.map nd)], iv F] = some ([bv (treeB t F)], []) := by
  refine RUN_W T_spec_TreeOk rfl ?_
  unfold treeB
  by_cases h1 : within F 0 4 = true
  · by_cases h2 : within t.length 1 31 = true
    · have h1' := within_iff.mp h1
      have h2' := within_iff.mp h2
      have hS := R_spec_l17Shape t F (by omega) h1'
      have hD := R_spec_DepthOf t hl
      by_cases h3 : shapeB t F = true
      · have hW := R_spec_l17Ways t F (by omega) (shaped_of h3)
        by_cases h4 : dpt t t.length ≤ 4
        · simp [k_spec_TreeOk_ic, k_spec_TreeOk_rv, R_spec_l1In', -R_spec_l1In, h1, h2, hS, hD, hW, h3, h4]
        · simp [k_spec_TreeOk_ic, k_spec_TreeOk_rv, R_spec_l1In', -R_spec_l1In, h1, h2, hS, hD, h3, h4]
      · simp [k_spec_TreeOk_ic, k_spec_TreeOk_rv, R_spec_l1In', -R_spec_l1In, h1, h2, hS, h3]
    · simp [k_spec_TreeOk_ic, k_spec_TreeOk_rv, R_spec_l1In', -R_spec_l1In, h1, h2]
  · by_cases h2 : within t.length 1 31 = true
    · simp [k_spec_TreeOk_ic, k_spec_TreeOk_rv, R_spec_l1In', -R_spec_l1In, h1, h2]
    · simp [k_spec_TreeOk_ic, k_spec_TreeOk_rv, R_spec_l1In', -R_spec_l1In, h1, h2]

/-- A row within rows: a slice's own, or one that is read. -/
def cel (q : Bool) (l : List Int) : PV := if q then .own 1 (ints l) else .sl 1 (ints l)

@[simp] theorem fz_cel (q : Bool) (l : List Int) : fz (cel q l) = .sl 1 (ints l) := by cases q <;> simp [cel]

def rws (q : Bool) (L : List (List Int)) : List (List PV) := L.map fun l => [cel q l]

@[simp] theorem rws_len (q : Bool) (L : List (List Int)) : (rws q L).length = L.length := by simp [rws]

theorem yv_gu {s : St} {d : Option Dst} {op : IOp} {g : Opd} {v : Bool} {x : PV} : (yv s ⟨d, op, some (g, v)⟩ = some x) = (Ob' (guardP v (g.get s)) fun t => Br t (WI (fun _ => []) (fun _ _ => none) op s (fun y _ => y = x)) (PV.v Go.undef = x)) := by
  simp only [yv, evG_some, WI, Ob', Br, Option.map_eq_some_iff, Option.bind_eq_some_iff, eq_iff_iff]
  constructor
  · rintro ⟨⟨y, s'⟩, ⟨t, h1, h2⟩, h3⟩
    refine ⟨t, h1, fun ht => ?_, fun ht => ?_⟩ <;> subst ht
    · exact ⟨y, s', by simpa using h2, h3⟩
    · simp at h2; obtain ⟨rfl, rfl⟩ := h2; exact h3
  · rintro ⟨t, h1, h2, h3⟩
    cases t with
    | true => obtain ⟨y, s', h4, h5⟩ := h2 rfl; exact ⟨(y, s'), ⟨true, h1, by simpa using h4⟩, h5⟩
    | false => exact ⟨_, ⟨false, h1, rfl⟩, h3 rfl⟩

@[simp] theorem chkTodo_g {s : St} {d : Option Dst} {op : IOp} {g : Opd} {v : Bool} {x : PV} {n : Nat} {r : List (IOper × PV × Nat)} : chkTodo s ((⟨d, op, some (g, v)⟩, x, n + 1) :: r) = ((Ob' (guardP v (g.get s)) fun t => Br t (WI (fun _ => []) (fun _ _ => none) op s (fun y _ => y = x)) (PV.v Go.undef = x)) ∧ chkTodo s r) := by
  simp only [chkTodo, yv_gu]

@[simp] theorem chkPast_g {V E : Nat → PV} {d : Option Dst} {op : IOp} {g : Opd} {v : Bool} {x : PV} {n : Nat} {s : St} {ms : List St} : chkPast V E ⟨d, op, some (g, v)⟩ x (n + 1) (s :: ms) = ((Ob' (guardP v (g.get { s with V := V, E := E })) fun t => Br t (WI (fun _ => []) (fun _ _ => none) op { s with V := V, E := E } (fun y _ => y = x)) (PV.v Go.undef = x)) ∧ chkPast V E ⟨d, op, some (g, v)⟩ x n ms) := by
  simp only [chkPast, yv_gu]

theorem rows_of {α : Type} {f : α → List PV} {p : α → Prop} {tys : List TY} (h : ∀ cs, ShpL tys cs → ∃ a, f a = cs ∧ p a) : ∀ {es : List (List PV)}, (∀ cs ∈ es, ShpL tys cs) → ∃ l : List α, l.map f = es ∧ ∀ a ∈ l, p a
  | [], _ => ⟨[], rfl, by simp⟩
  | e :: es, hs => by
    obtain ⟨a, ha, hp⟩ := h e (hs e (by simp))
    obtain ⟨l, hl, hq⟩ := rows_of h (es := es) (fun cs hc => hs cs (by simp [hc]))
    refine ⟨a :: l, by simp [ha, hl], fun b hb => ?_⟩
    rcases List.mem_cons.mp hb with e | e
    · subst e; exact hp
    · exact hq b e

theorem of_all {P : Program} {l : List TypeId} (h : (l.all fun t => P.readableRec t && decide (t < P.types.size)) = true) : ∀ t ∈ l, P.readableRec t = true ∧ t < P.types.size := by
  intro t ht
  have := List.all_eq_true.mp h t ht
  simpa using this

theorem args1 {p : Bool × List TY} {pvs : List PV} (h : All2 (fun p c => ShpA p.1 p.2 c) [p] pvs) : ∃ a, pvs = [a] ∧ ShpA p.1 p.2 a := by
  cases h with
  | cons h1 t => cases t with
    | nil => exact ⟨_, rfl, h1⟩

/-- The bytes that a source draws from. -/
def byts (B : List Int) : List (List PV) := B.map fun n => [.v (.int .u8 n)]

@[simp] theorem byts_len (B : List Int) : (byts B).length = B.length := by simp [byts]

theorem byts_get {B : List Int} {i : Nat} {x : Int} (h : B[i]? = some x) : (byts B)[i]? = some [.v (.int .u8 x)] := by simp [byts, h]

/-- The end of a call of which something is told. -/
def FinG (rv : List RV) (io : Nat) (G : List PV × List PV → Prop) (_ : Dm rv) (_ : Dm G) (e : Ex) (s : St) : Prop := (e = .normal ∨ e = .ret) ∧ ∃ r, finishEv ⟨[], rv, .skip⟩ io s = some r ∧ G r

@[simp] theorem FinG_n {rv : List RV} {io : Nat} {G : List PV × List PV → Prop} {s : St} : FinG rv io G ⟨⟩ ⟨⟩ .normal s = ∃ r, finishEv ⟨[], rv, .skip⟩ io s = some r ∧ G r := by simp [FinG]

@[simp] theorem FinG_r {rv : List RV} {io : Nat} {G : List PV × List PV → Prop} {s : St} : FinG rv io G ⟨⟩ ⟨⟩ .ret s = ∃ r, finishEv ⟨[], rv, .skip⟩ io s = some r ∧ G r := by simp [FinG]

theorem RUN_G {T : Table} {f : Nat} {ms : List Bool} {rv : List RV} {ic : IC} {G : List PV × List PV → Prop} (hT : T f = some (.code ⟨ms, rv, ic⟩)) {args : List PV} {st : St} (hi : initEv args = some st) (h : W (modesOf T) (RUN T) ic st (FinG rv st.nx G ⟨⟩ ⟨⟩)) : ∃ r, RUN T f args = some r ∧ G r := by
  unfold W at h
  obtain ⟨e, s, h1, h2, r, h3, hG⟩ := h
  refine ⟨r, RUN_code hT ?_, hG⟩
  unfold callL
  rw [hi]
  simp only [Option.bind_some, h1]
  rcases h2 with rfl | rfl <;> exact h3
attribute [irreducible] FinG

theorem and255 (X : Nat) : 0 ≤ IntKind.i64.wrap ((X &&& 255 % 2 ^ IntKind.i64.bits : Nat) : Int) ∧ IntKind.i64.wrap ((X &&& 255 % 2 ^ IntKind.i64.bits : Nat) : Int) ≤ 255 := by
  have h : X &&& 255 % 2 ^ IntKind.i64.bits ≤ 255 := Nat.le_trans Nat.and_le_right (by decide)
  rw [w64 (by omega) (by omega)]
  omega

/-- What a drawing function may answer: a value with a property, and the source further on. -/
def Draw (B : List Int) (P : PV → Prop) (r : List PV × List PV) : Prop := ∃ (v : PV) (p : Nat) (s : Int), P v ∧ p ≤ B.length ∧ r = ([v], [.bx [.sl 1 (byts B), iv p, iv s]])

def PB (v : PV) : Prop := ∃ b, v = bv b

def PM (l : List Int) (v : PV) : Prop := ∃ n, v = iv n ∧ n ∈ l

def PI (v : PV) : Prop := ∃ n, v = iv n ∧ inI n

def PN (n : Int) (v : PV) : Prop := ∃ m, v = iv m ∧ 0 ≤ m ∧ (0 < n → m < n)

theorem R_spec_l1Byte (B : List Int) (p : Nat) (s : Int) (hp : p ≤ B.length) (hB : B.length ≤ 9223372036854775807) : ∃ r, RUN T k_spec_l1Byte [.bx [.sl 1 (byts B), iv p, iv s]] = some r ∧ Draw B (fun v => ∃ n, v = iv n ∧ 0 ≤ n ∧ n ≤ 255) r := by
  refine RUN_G T_spec_l1Byte rfl ?_
  by_cases h : p < B.length
  · obtain ⟨x, hx⟩ : ∃ x, B[p]? = some x := ⟨_, List.getElem?_eq_getElem h⟩
    have hx' := byts_get hx
    have hw := wS h hB
    simp [-getElem?_pos, k_spec_l1Byte_ic, k_spec_l1Byte_rv, h, hx', hw]
    exact ⟨_, p + 1, _, ⟨_, rfl, (and255 _).1, (and255 _).2⟩, h, rfl⟩
  · have h' : ¬ ((p : Int) < B.length) := by omega
    simp [-getElem?_pos, k_spec_l1Byte_ic, k_spec_l1Byte_rv, h, h']
    exact ⟨_, p, _, ⟨_, rfl, (and255 _).1, (and255 _).2⟩, hp, rfl⟩

theorem R_spec_l1Below (B : List Int) (p : Nat) (s : Int) (hp : p ≤ B.length) (hB : B.length ≤ 9223372036854775807) (n : Int) (hn : n ≤ 9223372036854775807) : ∃ r, RUN T k_spec_l1Below [.bx [.sl 1 (byts B), iv p, iv s], iv n] = some r ∧ Draw B (PN n) r := by
  refine RUN_G T_spec_l1Below rfl ?_
  obtain ⟨r1, h1, v1, p1, s1, ⟨a1, rfl, a10, a11⟩, hp1, rfl⟩ := R_spec_l1Byte B p s hp hB
  by_cases c1 : n ≤ 0
  · simp [-getElem?_pos, k_spec_l1Below_ic, k_spec_l1Below_rv, c1]
    exact ⟨_, p, s, ⟨0, rfl, by omega, by omega⟩, hp, rfl⟩
  have c0 : ¬ (n = 0) := by omega
  by_cases c2 : n ≤ 256
  · simp [-getElem?_pos, k_spec_l1Below_ic, k_spec_l1Below_rv, c0, c1, c2, h1]
    refine ⟨_, p1, s1, ⟨_, rfl, ?_, fun _ => ?_⟩, hp1, rfl⟩
    · exact Int.tmod_nonneg _ a10
    · exact Int.tmod_lt_of_pos _ (by omega)
  obtain ⟨r2, h2, v2, p2, s2, ⟨a2, rfl, a20, a21⟩, hp2, rfl⟩ := R_spec_l1Byte B p1 s1 hp1 hB
  obtain ⟨r3, h3, v3, p3, s3, ⟨a3, rfl, a30, a31⟩, hp3, rfl⟩ := R_spec_l1Byte B p2 s2 hp2 hB
  obtain ⟨r4, h4, v4, p4, s4, ⟨a4, rfl, a40, a41⟩, hp4, rfl⟩ := R_spec_l1Byte B p3 s3 hp3 hB
  have w1 := w64 (x := a1 * 16777216) (by omega) (by omega)
  have w2 := w64 (x := a2 * 65536) (by omega) (by omega)
  have w3 := w64 (x := a1 * 16777216 + a2 * 65536) (by omega) (by omega)
  have w4 := w64 (x := a3 * 256) (by omega) (by omega)
  have w5 := w64 (x := a1 * 16777216 + a2 * 65536 + a3 * 256) (by omega) (by omega)
  have w6 := w64 (x := a1 * 16777216 + a2 * 65536 + a3 * 256 + a4) (by omega) (by omega)
  simp [-getElem?_pos, k_spec_l1Below_ic, k_spec_l1Below_rv, c0, c1, c2, h1, h2, h3, h4, w1, w2, w3, w4, w5, w6]
  refine ⟨_, p4, s4, ⟨_, rfl, ?_, fun _ => ?_⟩, hp4, rfl⟩
  · exact Int.tmod_nonneg _ (by omega)
  · exact Int.tmod_lt_of_pos _ (by omega)

theorem R_spec_l1Once (B : List Int) (p : Nat) (s : Int) (hp : p ≤ B.length) (hB : B.length ≤ 9223372036854775807) (n : Int) (hn : n ≤ 9223372036854775807) : ∃ r, RUN T k_spec_l1Once [.bx [.sl 1 (byts B), iv p, iv s], iv n] = some r ∧ Draw B PB r := by
  refine RUN_G T_spec_l1Once rfl ?_
  obtain ⟨r1, h1, v1, p1, s1, ⟨a1, rfl, a10, a11⟩, hp1, rfl⟩ := R_spec_l1Below B p s hp hB n hn
  simp [-getElem?_pos, k_spec_l1Once_ic, k_spec_l1Once_rv, h1]
  exact ⟨_, p1, s1, ⟨_, rfl⟩, hp1, rfl⟩

/-- The same where a list is handed over and back. -/
def Draw2 (B : List Int) (l : List Int) (P : PV → Prop) (r : List PV × List PV) : Prop := ∃ (v : PV) (p : Nat) (s : Int), P v ∧ p ≤ B.length ∧ r = ([v], [.bx [.sl 1 (byts B), iv p, iv s], .own 1 (ints l)])

theorem R_spec_l1PickInt (B : List Int) (p : Nat) (s : Int) (hp : p ≤ B.length) (hB : B.length ≤ 9223372036854775807) (l : List Int) (hl : 0 < l.length ∧ l.length ≤ 9223372036854775807) : ∃ r, RUN T k_spec_l1PickInt [.bx [.sl 1 (byts B), iv p, iv s], .own 1 (ints l)] = some r ∧ Draw2 B l (PM l) r := by
  refine RUN_G T_spec_l1PickInt rfl ?_
  obtain ⟨r1, h1, v1, p1, s1, ⟨a1, rfl, a10, a11⟩, hp1, rfl⟩ := R_spec_l1Below B p s hp hB l.length (by omega)
  obtain ⟨i, rfl⟩ : ∃ i : Nat, a1 = i := ⟨a1.toNat, by omega⟩
  have hi : i < l.length := by have := a11 (by omega); omega
  obtain ⟨x, hx⟩ : ∃ x, l[i]? = some x := ⟨_, List.getElem?_eq_getElem hi⟩
  have hx' := ints_get hx
  simp [-getElem?_pos, k_spec_l1PickInt_ic, k_spec_l1PickInt_rv, h1, hx', hi]
  exact ⟨_, p1, s1, ⟨x, rfl, List.mem_of_getElem? hx⟩, hp1, rfl⟩

theorem inI_wrap (x : Int) : inI (IntKind.i64.wrap x) := by
  unfold inI IntKind.wrap
  simp [IntKind.bits, IntKind.signed]
  omega

theorem R_spec_l1Whole (B : List Int) (p : Nat) (s : Int) (hp : p ≤ B.length) (hB : B.length ≤ 9223372036854775807) : ∃ r, RUN T k_spec_l1Whole [.bx [.sl 1 (byts B), iv p, iv s]] = some r ∧ Draw B PI r := by
  refine RUN_G T_spec_l1Whole rfl ?_
  obtain ⟨r1, h1, v1, p1, s1, ⟨a1, rfl, a10, a11⟩, hp1, rfl⟩ := R_spec_l1Below B p s hp hB 4 (by omega)
  by_cases c0 : a1 = 0
  · obtain ⟨r2, h2, v2, p2, s2, ⟨a2, rfl, hm⟩, hp2, rfl⟩ := R_spec_l1PickInt B p1 s1 hp1 hB [0, 1, -1, 9, 10, 999, 1000, 2147483647, -2147483648, 3037000499, 3037000500, 9223372036854775807, -9223372036854775807, -9223372036854775808] (by simp)
    simp only [ints, List.map] at h2
    simp [-getElem?_pos, k_spec_l1Whole_ic, k_spec_l1Whole_rv, h1, c0, h2]
    refine ⟨_, p2, s2, ⟨a2, rfl, ?_⟩, hp2, rfl⟩
    simp at hm
    unfold inI
    omega
  by_cases c1 : a1 = 1
  · simp [-getElem?_pos, k_spec_l1Whole_ic, k_spec_l1Whole_rv, h1, c0, c1]
    refine W_loop (fun n st => ∃ (i p : Nat) (x s : Int), i + n = 8 ∧ p ≤ B.length ∧ inI x ∧ st.V 0 = .ptr 0 none 0 0 0 ∧ st.V 3 = iv x ∧ st.V 4 = iv i ∧ 0 < st.nx ∧ st.ep = 0 ∧ st.S 0 = some (.box [.sl 1 (byts B), iv p, iv s])) ?_ 8 _ ⟨0, p1, 0, s1, by omega, hp1, by unfold inI; omega, by simp⟩
    clear h1
    rintro n st ⟨i, p, x, s, hi, hp, hx, v0, v3, v4, hnx, hep, hS⟩
    simp [k_spec_l1Whole_b0, v4]
    refine Br_i (fun h => ?_) (fun h => ?_)
    · simp at h
      obtain ⟨r2, h2, v2, p2, s2, ⟨a2, rfl, a20, a21⟩, hp2, rfl⟩ := R_spec_l1Byte B p s hp hB
      have w := w64 (x := (i : Int) + 1) (by omega) (by omega)
      simp [-getElem?_pos, v0, v3, v4, hep, hS, h2, w]
      exact Rnd_n (n - 1) (by omega) ⟨i + 1, p2, _, s2, by omega, hp2, inI_wrap _, by simp [v0], by simp; rfl, by simp, by simp [hnx], by simp [hep], by simp⟩
    · simp [-getElem?_pos, v3, v0, hS]
      exact ⟨_, p, s, ⟨x, rfl, hx⟩, hp, rfl⟩
  by_cases c2 : a1 = 2
  · obtain ⟨r2, h2, v2, p2, s2, ⟨a2, rfl, a20, a21⟩, hp2, rfl⟩ := R_spec_l1Below B p1 s1 hp1 hB 1000000 (by omega)
    have a22 := a21 (by omega)
    have w := w64 (x := a2 - 500000) (by omega) (by omega)
    simp [-getElem?_pos, k_spec_l1Whole_ic, k_spec_l1Whole_rv, h1, c0, c1, c2, h2, w]
    exact ⟨_, p2, s2, ⟨_, rfl, by unfold inI; omega⟩, hp2, rfl⟩
  · obtain ⟨r2, h2, v2, p2, s2, ⟨a2, rfl, a20, a21⟩, hp2, rfl⟩ := R_spec_l1Below B p1 s1 hp1 hB 41 (by omega)
    have a22 := a21 (by omega)
    have w := w64 (x := a2 - 20) (by omega) (by omega)
    simp [-getElem?_pos, k_spec_l1Whole_ic, k_spec_l1Whole_rv, h1, c0, c1, c2, h2, w]
    exact ⟨_, p2, s2, ⟨_, rfl, by unfold inI; omega⟩, hp2, rfl⟩

theorem R_spec_l1New (B : List Int) (hB : B.length ≤ 9223372036854775807) : ∃ r, RUN T k_spec_l1New [.sl 1 (byts B)] = some r ∧ ∃ s : Int, r = ([.bx [.sl 1 (byts B), iv (0 : Nat), iv s]], []) := by
  refine RUN_G T_spec_l1New rfl ?_
  simp [-getElem?_pos, k_spec_l1New_ic, k_spec_l1New_rv]
  refine W_loop (fun n st => ∃ (i : Nat) (x : Int), i + n = B.length ∧ st.V 0 = .sl 1 (byts B) ∧ st.V 3 = iv x ∧ st.V 4 = iv i) ?_ B.length _ ⟨0, _, by omega, by simp, by simp; rfl, by simp⟩
  rintro n st ⟨i, x, hi, v0, v3, v4⟩
  by_cases h : i < B.length
  · obtain ⟨b, hx⟩ : ∃ b, B[i]? = some b := ⟨_, List.getElem?_eq_getElem h⟩
    have hx' := byts_get hx
    have hw := wS h hB
    by_cases h2 : (i : Int) < 4000
    · have h2' := eq_true h2
      simp [-getElem?_pos, k_spec_l1New_b0, v0, v3, v4, h, h2', hx', hw]
      exact Rnd_n (n - 1) (by omega) ⟨i + 1, _, by omega, by simp [v0], by simp; rfl, by simp⟩
    · have h2' := eq_false h2
      simp [-getElem?_pos, k_spec_l1New_b0, v0, v3, v4, h, h2']
  · simp [-getElem?_pos, k_spec_l1New_b0, v0, v3, v4, h]

theorem R_laws_big (es : List (List PV)) : RUN T k_laws_big [.sl 1 es] = some ([bv (decide ((1048576 : Int) < es.length))], []) := by
  refine RUN_W T_laws_big rfl ?_
  simp [-getElem?_pos, k_laws_big_ic, k_laws_big_rv]

def leafN (v : Int) : Nd := ⟨-1, 0, 0, 0, v⟩

theorem R_spec_OneLeaf (v : Int) : RUN T k_spec_OneLeaf [iv v] = some ([.agg [.own 5 ([leafN v].map nd)]], []) := by
  refine RUN_W T_spec_OneLeaf rfl ?_
  have hr : roomFor 40 1 = true := by decide
  simp [-getElem?_pos, k_spec_OneLeaf_ic, k_spec_OneLeaf_rv, hr, leafN, nd]

def strs (l : List ByteArray) : List (List PV) := l.map fun s => [.v (.string s)]

@[simp] theorem strs_len (l : List ByteArray) : (strs l).length = l.length := by simp [strs]

def celT (q : Bool) (t : List Nd) : PV := if q then .own 5 (t.map nd) else .sl 5 (t.map nd)

@[simp] theorem fz_celT (q : Bool) (t : List Nd) : fz (celT q t) = .sl 5 (t.map nd) := by cases q <;> simp [celT]

def trs (q : Bool) (M : List (List Nd)) : List (List PV) := M.map fun t => [celT q t]

@[simp] theorem trs_len (q : Bool) (M : List (List Nd)) : (trs q M).length = M.length := by simp [trs]

def rwS (q : Bool) (l : List ByteArray) : PV := if q then .own 1 (strs l) else .sl 1 (strs l)

@[simp] theorem fz_rwS (q : Bool) (l : List ByteArray) : fz (rwS q l) = .sl 1 (strs l) := by cases q <;> simp [rwS]

def rwsS (q : Bool) (L : List (List ByteArray)) : List (List PV) := L.map fun l => [rwS q l]

@[simp] theorem rwsS_len (q : Bool) (L : List (List ByteArray)) : (rwsS q L).length = L.length := by simp [rwsS]

/-- The numbers below one that are meant. -/
def picks (p : Nat → Bool) (i : Nat) : List Int := ((List.range i).filter p).map fun (j : Nat) => (j : Int)

@[simp] theorem picks_0 (p : Nat → Bool) : picks p 0 = [] := rfl

theorem drop_cons' {l : List Int} {i : Nat} {x : Int} (h : l[i]? = some x) : l.drop i = x :: l.drop (i + 1) := by
  have hlt : i < l.length := by
    rcases Nat.lt_or_ge i l.length with h' | h'
    · exact h'
    · rw [List.getElem?_eq_none (by omega)] at h; cases h
  rw [List.drop_eq_getElem_cons hlt]
  congr 1
  rw [List.getElem?_eq_getElem hlt] at h
  exact Option.some.inj h

theorem nodup_le : ∀ (M : Nat) (q : List Int), q.Nodup → (∀ y ∈ q, 0 ≤ y ∧ y < M) → q.length ≤ M
  | 0, q, _, h => by
    cases q with
    | nil => simp
    | cons x q => have := h x (by simp); omega
  | M + 1, q, hn, h => by
    by_cases hm : (M : Int) ∈ q
    · have h1 := nodup_le M (q.erase M) (hn.erase _) (fun y hy => by
        obtain ⟨h1, h2⟩ := (List.Nodup.mem_erase_iff hn).mp hy
        have := h y h2
        omega)
      rw [List.length_erase_of_mem hm] at h1
      omega
    · exact Nat.le_trans (nodup_le M q hn (fun y hy => by
        have := h y hy
        have : y ≠ M := fun e => hm (e ▸ hy)
        omega)) (by omega)

/-- Every slot has one parent at most, and the root none. -/
def Good (u : List Nd) : Prop := ∀ (j : Nat) (n : Nd), u[j]? = some n → n.f ≠ -1 → 1 ≤ n.l ∧ n.l < u.length ∧ 1 ≤ n.r ∧ n.r < u.length ∧ n.l ≠ n.r ∧ ∀ (j' : Nat) (n' : Nd), u[j']? = some n' → n'.f ≠ -1 → (n.l = n'.l ∨ n.l = n'.r ∨ n.r = n'.l ∨ n.r = n'.r) → j = j'

structure QI (u : List Nd) (q : List Int) (i : Nat) : Prop where
  nd : q.Nodup
  rg : ∀ y ∈ q, 0 ≤ y ∧ y < u.length
  up : ∀ y ∈ q, y = 0 ∨ ∃ z ∈ q.take i, ∃ n, u[z.toNat]? = some n ∧ n.f ≠ -1 ∧ (y = n.l ∨ y = n.r)

theorem QI.skip {u : List Nd} {q : List Int} {i : Nat} (h : QI u q i) : QI u q (i + 1) :=
  ⟨h.nd, h.rg, fun y hy => by
    rcases h.up y hy with h1 | ⟨z, hz, n, h2⟩
    · exact .inl h1
    · exact .inr ⟨z, (List.take_subset_take_left q (Nat.le_succ i)) hz, n, h2⟩⟩

theorem QI.step {u : List Nd} (hg : Good u) {q : List Int} {i : Nat} (h : QI u q i) {z : Int} (hz : q[i]? = some z) {n : Nd} (hn : u[z.toNat]? = some n) (hf : n.f ≠ -1) : QI u (q ++ [n.l, n.r]) (i + 1) := by
  obtain ⟨g1, g2, g3, g4, g5, g6⟩ := hg _ _ hn hf
  have hlt : i < q.length := by
    rcases Nat.lt_or_ge i q.length with h' | h'
    · exact h'
    · rw [List.getElem?_eq_none (by omega)] at hz; cases hz
  have hzr := h.rg z (List.mem_of_getElem? hz)
  have hno : z ∉ q.take i := by
    intro hm
    have hd := h.nd
    rw [← List.take_append_drop i q, drop_cons' hz, List.nodup_append] at hd
    exact hd.2.2 z hm z (by simp) rfl
  have key : ∀ y ∈ q, (y = n.l ∨ y = n.r) → False := by
    intro y hy hc
    rcases h.up y hy with h1 | ⟨z', hz', n', h2, h3, h4⟩
    · omega
    · have := g6 _ _ h2 h3 (by rcases hc with c | c <;> rcases h4 with d | d <;> omega)
      have hz'r := h.rg z' (List.mem_of_mem_take hz')
      have : z = z' := by omega
      exact hno (this ▸ hz')
  refine ⟨?_, ?_, ?_⟩
  · rw [List.nodup_append]
    refine ⟨h.nd, by simp [g5], fun a ha b hb => ?_⟩
    rintro rfl
    simp at hb
    exact key a ha hb
  · intro y hy
    rcases List.mem_append.mp hy with hy | hy
    · exact h.rg y hy
    · simp at hy; omega
  · intro y hy
    rcases List.mem_append.mp hy with hy | hy
    · rcases h.up y hy with h1 | ⟨z', hz', n', h2⟩
      · exact .inl h1
      · refine .inr ⟨z', ?_, n', h2⟩
        rw [List.take_append_of_le_length (by omega)]
        exact (List.take_subset_take_left q (Nat.le_succ i)) hz'
    · refine .inr ⟨z, ?_, n, hn, hf, by simpa using hy⟩
      rw [List.take_append_of_le_length (by omega)]
      rw [List.take_succ, hz]; simp

theorem QI.len {u : List Nd} {q : List Int} {i : Nat} (h : QI u q i) : q.length ≤ u.length := nodup_le _ q h.nd h.rg

theorem nds_snoc (l : List Nd) (x : Nd) : l.map nd ++ [[iv x.f, iv x.c, iv x.l, iv x.r, iv x.v]] = (l ++ [x]).map nd := by simp [nd]

theorem nds_get {l : List Nd} {i : Nat} {x : Nd} (h : l[i]? = some x) : (l.map nd)[i]? = some [iv x.f, iv x.c, iv x.l, iv x.r, iv x.v] := by simp [h, nd]

def GL (N : Nat) (r : List PV × List PV) : Prop := ∃ w : List Nd, w.length ≤ N ∧ r = ([.agg [.own 5 (w.map nd)]], [])

set_option maxHeartbeats 1000000 in
theorem R_spec_l17Levels (u : List Nd) (hg : Good u) (h0 : 1 ≤ u.length) (hl : u.length ≤ 1000) : ∃ r, RUN T k_spec_l17Levels [.sl 5 (u.map nd)] = some r ∧ GL u.length r := by
  refine RUN_G T_spec_l17Levels rfl ?_
  have hr8 : roomFor 8 1 = true := by decide
  simp [k_spec_l17Levels_ic, k_spec_l17Levels_rv, hr8]
  refine W_loop (fun n st => ∃ (i oq eq : Nat) (q : List Int) (w : List Nd) (x : PV) (nxt : Int), i + n = u.length ∧ w.length = i ∧ QI u q i ∧ i ≤ q.length ∧ 1 ≤ q.length ∧ st.V 0 = .sl 5 (u.map nd) ∧ st.V 2 = .ptr 0 none 0 0 0 ∧ st.V 3 = .ptr 1 none 0 0 0 ∧ st.V 4 = .ref oq none eq 0 q.length ∧ st.V 5 = iv nxt ∧ st.V 6 = iv i ∧ 1 < oq ∧ oq < st.nx ∧ st.S oq = some (.row 1 (ints q)) ∧ ((w = [] ∧ x = .e0) ∨ ∃ ow ew, ow ≠ oq ∧ 1 < ow ∧ ow < st.nx ∧ x = .ref ow none ew 0 w.length ∧ st.S ow = some (.row 5 (w.map nd))) ∧ st.S 0 = some (.box [.e0]) ∧ st.S 1 = some (.box [x])) ?_ u.length _ ⟨0, 2, 0, [0], [], .e0, 1, by simp, rfl, ⟨by simp, by simp; omega, by simp⟩, by simp, by simp, by simp, by simp, by simp, by simp, by simp, by simp, by simp, by simp, by simp [ints], .inl ⟨rfl, rfl⟩, by simp, by simp⟩
  rintro n st ⟨i, oq, eq, q, w, x, nxt, hi, hw, hq, hiq, hq1, v0, v2, v3, v4, v5, v6, ho, hox, hSo, hx, hS, hS1⟩
  have hlen := hq.len
  simp [k_spec_l17Levels_b0, v4, v6, hSo]
  obtain ⟨f1, f2, f3, f4⟩ := fr hox
  obtain ⟨g1, g2, g3, g4⟩ := fr (show 0 < oq by omega)
  obtain ⟨z1, z2, z3, z4⟩ := fr (show 0 < st.nx by omega)
  obtain ⟨y1, y2, y3, y4⟩ := fr (show 1 < oq by omega)
  obtain ⟨x1, x2, x3, x4⟩ := fr (show 1 < st.nx by omega)
  refine Br_i (fun h => ?_) (fun h => ?_)
  · simp at h
    obtain ⟨z, hz⟩ : ∃ z, q[i]? = some z := ⟨_, List.getElem?_eq_getElem h⟩
    obtain ⟨hz0, hz1⟩ := hq.rg z (List.mem_of_getElem? hz)
    obtain ⟨zn, rfl⟩ : ∃ k : Nat, z = k := ⟨z.toNat, by omega⟩
    obtain ⟨m, hm⟩ : ∃ m, u[zn]? = some m := ⟨_, List.getElem?_eq_getElem (by omega)⟩
    have hz' := ints_get hz
    have hm' := nds_get hm
    have hws := wS h (by omega : q.length ≤ 9223372036854775807)
    have hr1 := room8 (n := q.length + 2) (by omega)
    have hr2 : roomFor 40 (w.length + 1) = true := by simp [roomFor]; omega
    have hr3 : roomFor 40 1 = true := by decide
    have hQ : m.f ≠ -1 → QI u (q ++ [m.l, m.r]) (i + 1) := fun hf => hq.step hg hz (by simpa using hm) hf
    have hints : ints q ++ [[iv m.l], [iv m.r]] = ints (q ++ [m.l, m.r]) := by simp [ints]
    have hn1 := nds_snoc w m
    have hn2 := nds_snoc w ⟨m.f, m.c, nxt, IntKind.i64.wrap (nxt + 1), m.v⟩
    simp only at hn2
    rcases Classical.propComplete (m.f = -1) with hf | hf
    · rcases hx with ⟨rfl, rfl⟩ | ⟨ow, ew, how, ho1, ho2, rfl, hSw⟩
      · simp [-getElem?_pos, v0, v2, v3, v4, v5, v6, hS, hS1, hSo, hz', hm', hf, hws, h, hr3, f1, f2, f3, f4, g1, g2, g3, g4, z1, z2, z3, z4, y1, y2, y3, y4, x1, x2, x3, x4]
        refine Rnd_n (n - 1) (by omega) ⟨i + 1, oq, eq, q, [m], _, nxt, by omega, by simp at hw; simp; omega, hq.skip, by omega, by omega, by simp [v0], by simp [v2], by simp [v3], by simp [v4], by simp [v5], by simp, ho, by simp; omega, by simp [f1, f2, f3, f4, g1, g2, g3, g4, z1, z2, z3, z4, y1, y2, y3, y4, x1, x2, x3, x4, hSo], .inr ⟨st.nx + 2, st.ep, by omega, by omega, by simp, rfl, by simp [nd]⟩, by simp [f1, f2, f3, f4, g1, g2, g3, g4, z1, z2, z3, z4, y1, y2, y3, y4, x1, x2, x3, x4, hS], by simp⟩
      · obtain ⟨b1, b2, b3, b4⟩ := fr ho2
        obtain ⟨c1, c2, c3, c4⟩ := fr ho1
        obtain ⟨d1, d2, d3, d4⟩ := fr (show 0 < ow by omega)
        have k1 : (ow = oq) = False := eq_false how
        have k2 : (oq = ow) = False := eq_false (fun e => how e.symm)
        obtain ⟨_, _, k3, k4⟩ := fr (show ow < st.nx + 1 by omega)
        obtain ⟨_, _, k5, k6⟩ := fr (show ow < st.nx + 2 by omega)
        simp [-getElem?_pos, v0, v2, v3, v4, v5, v6, hS, hS1, hSo, hSw, hz', hm', hf, hws, h, hr2, hn1, f1, f2, f3, f4, g1, g2, g3, g4, z1, z2, z3, z4, y1, y2, y3, y4, x1, x2, x3, x4, b1, b2, b3, b4, c1, c2, c3, c4, d1, d2, d3, d4, k1, k2, k3, k4, k5, k6]
        refine Rnd_n (n - 1) (by omega) ⟨i + 1, oq, eq, q, w ++ [m], _, nxt, by omega, by simp; omega, hq.skip, by omega, by omega, by simp [v0], by simp [v2], by simp [v3], by simp [v4], by simp [v5], by simp, ho, by simp; omega, by simp [f1, f2, f3, f4, g1, g2, g3, g4, z1, z2, z3, z4, y1, y2, y3, y4, x1, x2, x3, x4, b1, b2, b3, b4, c1, c2, c3, c4, d1, d2, d3, d4, k1, k2, k3, k4, k5, k6, hSo], .inr ⟨st.nx + 2, st.ep, by omega, by omega, by simp, by simp; rfl, by simp⟩, by simp [f1, f2, f3, f4, g1, g2, g3, g4, z1, z2, z3, z4, y1, y2, y3, y4, x1, x2, x3, x4, b1, b2, b3, b4, c1, c2, c3, c4, d1, d2, d3, d4, k1, k2, k3, k4, k5, k6, hS], by simp⟩
    · have hQ := hQ (by rw [ne_eq, hf]; exact id)
      rcases hx with ⟨rfl, rfl⟩ | ⟨ow, ew, how, ho1, ho2, rfl, hSw⟩
      · simp [-getElem?_pos, v0, v2, v3, v4, v5, v6, hS, hS1, hSo, hz', hm', hf, hws, h, hr1, hr3, hints, f1, f2, f3, f4, g1, g2, g3, g4, z1, z2, z3, z4, y1, y2, y3, y4, x1, x2, x3, x4]
        refine Rnd_n (n - 1) (by omega) ⟨i + 1, st.nx + 2, st.ep, q ++ [m.l, m.r], [⟨m.f, m.c, nxt, IntKind.i64.wrap (nxt + 1), m.v⟩], _, _, by omega, by simp at hw; simp; omega, hQ, by simp; omega, by simp, by simp [v0], by simp [v2], by simp [v3], by simp, by simp; rfl, by simp, by omega, by simp, by simp [f1, f2, f3, f4, g1, g2, g3, g4, z1, z2, z3, z4, y1, y2, y3, y4, x1, x2, x3, x4], .inr ⟨st.nx + 2 + 2, st.ep, by omega, by omega, by simp, rfl, by simp [nd]⟩, by simp [f1, f2, f3, f4, g1, g2, g3, g4, z1, z2, z3, z4, y1, y2, y3, y4, x1, x2, x3, x4, hS], by simp⟩
      · obtain ⟨b1, b2, b3, b4⟩ := fr ho2
        obtain ⟨c1, c2, c3, c4⟩ := fr ho1
        obtain ⟨d1, d2, d3, d4⟩ := fr (show 0 < ow by omega)
        have k1 : (ow = oq) = False := eq_false how
        have k2 : (oq = ow) = False := eq_false (fun e => how e.symm)
        obtain ⟨_, _, k3, k4⟩ := fr (show ow < st.nx + 1 by omega)
        obtain ⟨_, _, k5, k6⟩ := fr (show ow < st.nx + 2 by omega)
        simp [-getElem?_pos, v0, v2, v3, v4, v5, v6, hS, hS1, hSo, hSw, hz', hm', hf, hws, h, hr1, hr2, hints, hn2, f1, f2, f3, f4, g1, g2, g3, g4, z1, z2, z3, z4, y1, y2, y3, y4, x1, x2, x3, x4, b1, b2, b3, b4, c1, c2, c3, c4, d1, d2, d3, d4, k1, k2, k3, k4, k5, k6]
        refine Rnd_n (n - 1) (by omega) ⟨i + 1, st.nx + 2, st.ep, q ++ [m.l, m.r], w ++ [⟨m.f, m.c, nxt, IntKind.i64.wrap (nxt + 1), m.v⟩], _, _, by omega, by simp; omega, hQ, by simp; omega, by simp, by simp [v0], by simp [v2], by simp [v3], by simp, by simp; rfl, by simp, by omega, by simp, by simp [f1, f2, f3, f4, g1, g2, g3, g4, z1, z2, z3, z4, y1, y2, y3, y4, x1, x2, x3, x4, b1, b2, b3, b4, c1, c2, c3, c4, d1, d2, d3, d4, k1, k2, k3, k4, k5, k6], .inr ⟨st.nx + 2 + 2, st.ep, by omega, by omega, by simp, by simp; rfl, by simp⟩, by simp [f1, f2, f3, f4, g1, g2, g3, g4, z1, z2, z3, z4, y1, y2, y3, y4, x1, x2, x3, x4, b1, b2, b3, b4, c1, c2, c3, c4, d1, d2, d3, d4, k1, k2, k3, k4, k5, k6, hS], by simp⟩
  · simp at h
    have e1 : i = q.length := by omega
    rcases hx with ⟨rfl, rfl⟩ | ⟨ow, ew, how, ho1, ho2, rfl, hSw⟩
    · simp at hw; omega
    · obtain ⟨b1, b2, b3, b4⟩ := fr ho2
      obtain ⟨c1, c2, c3, c4⟩ := fr ho1
      obtain ⟨d1, d2, d3, d4⟩ := fr (show 0 < ow by omega)
      simp [-getElem?_pos, v2, v3, hS, hS1, hSw, b1, b2, b3, b4, c1, c2, c3, c4, d1, d2, d3, d4]
      exact ⟨w, by omega, rfl⟩

/-- A tree in which the slot k has been parted. -/
def grown (t : List Nd) (k : Nat) (f c a b : Int) : List Nd := t.set k ⟨f, c, t.length, t.length + 1, 0⟩ ++ [⟨-1, 0, 0, 0, a⟩, ⟨-1, 0, 0, 0, b⟩]

theorem grown_len {t : List Nd} {k : Nat} {f c a b : Int} : (grown t k f c a b).length = t.length + 2 := by simp [grown]

theorem grown_at {t : List Nd} {F : Int} (hs : Shaped t F) {k : Nat} (hk : k < t.length) {f c a b : Int} {j : Nat} {n : Nd} (h : (grown t k f c a b)[j]? = some n) (hf : n.f ≠ -1) : (j ≠ k ∧ j < t.length ∧ t[j]? = some n ∧ InnerOk F n j 1 t.length) ∨ (j = k ∧ n.l = t.length ∧ n.r = t.length + 1) := by
  unfold grown at h
  rcases Nat.lt_or_ge j t.length with hj | hj
  · rw [List.getElem?_append_left (by simpa using hj), List.getElem?_set] at h
    by_cases e : k = j
    · subst e
      rw [if_pos rfl, if_pos hk] at h
      cases h
      exact .inr ⟨rfl, rfl, rfl⟩
    · rw [if_neg e] at h
      exact .inl ⟨fun e' => e e'.symm, hj, h, hs.inner j n h hf⟩
  · rw [List.getElem?_append_right (by simpa using hj)] at h
    simp only [List.length_set] at h
    have : j - t.length = 0 ∨ j - t.length = 1 ∨ 2 ≤ j - t.length := by omega
    rcases this with e | e | e
    · rw [e] at h; simp at h; subst h; exact (hf rfl).elim
    · rw [e] at h; simp at h; subst h; exact (hf rfl).elim
    · rw [List.getElem?_eq_none (by simpa using e)] at h; cases h

theorem grown_good {t : List Nd} {F : Int} (hs : Shaped t F) {k : Nat} (hk : k < t.length) {f c a b : Int} : Good (grown t k f c a b) := by
  intro j n h hf
  rw [grown_len]
  rcases grown_at hs hk h hf with ⟨e, hj, ht, hi⟩ | ⟨rfl, hl, hr⟩
  · have i1 := hi.lo
    have i2 := hi.r
    have i3 := hi.hi
    refine ⟨by omega, by push_cast; omega, by omega, by push_cast; omega, by omega, fun j' n' h' hf' hc => ?_⟩
    rcases grown_at hs hk h' hf' with ⟨e', hj', ht', hi'⟩ | ⟨rfl, hl', hr'⟩
    · have i1' := hi'.r
      rcases Nat.lt_trichotomy j j' with c | c | c
      · have := hs.ord j j' n n' c ht ht' hf hf'; omega
      · exact c
      · have := hs.ord j' j n' n c ht' ht hf' hf; omega
    · omega
  · refine ⟨by omega, by push_cast; omega, by omega, by push_cast; omega, by omega, fun j' n' h' hf' hc => ?_⟩
    rcases grown_at hs hk h' hf' with ⟨e', hj', ht', hi'⟩ | ⟨rfl, hl', hr'⟩
    · have i2 := hi'.r
      have i3 := hi'.hi
      omega
    · rfl

theorem nds_allV (l : List Nd) : allV (l.map nd) = true := by simp [allV, nd]

set_option maxHeartbeats 1000000 in
theorem R_spec_l17Grown (t : List Nd) (F : Int) (hs : Shaped t F) (hl : t.length ≤ 31) (k : Nat) (hk : k < t.length) (f c l r v a b : Int) : ∃ r', RUN T k_spec_l17Grown [.agg [.sl 5 (t.map nd)], iv k, .agg [iv f, iv c, iv l, iv r, iv v], iv a, iv b] = some r' ∧ GL (t.length + 2) r' := by
  refine RUN_G T_spec_l17Grown rfl ?_
  have h1 := hs.pos
  obtain ⟨rr, hr, w, hw, rfl⟩ := R_spec_l17Levels (grown t k f c a b) (grown_good hs hk) (by rw [grown_len]; omega) (by rw [grown_len]; omega)
  rw [grown_len] at hw
  have hw1 := w64 (x := (t.length : Int) + 1) (by omega) (by omega)
  have hr1 : roomFor 40 t.length = true := by simp [roomFor]; omega
  have hr2 : roomFor 40 (t.length + 2) = true := by simp [roomFor]; omega
  have hr3 : roomFor 40 2 = true := by decide
  have hr0 : roomFor 40 0 = true := by decide
  have hg : (t.map nd).set k [iv f, iv c, iv t.length, iv (t.length + 1), iv 0] ++ [[iv (-1), iv 0, iv 0, iv 0, iv a], [iv (-1), iv 0, iv 0, iv 0, iv b]] = (grown t k f c a b).map nd := by
    unfold grown
    rw [List.map_append, List.map_set]
    rfl
  obtain ⟨x, hx⟩ : ∃ x, t[k]? = some x := ⟨_, List.getElem?_eq_getElem hk⟩
  have hnd : ∀ y : Nd, (nd y).length = 5 := fun y => rfl
  have hnx : ∀ y : Nd, nd y = [iv y.f, iv y.c, iv y.l, iv y.r, iv y.v] := fun y => rfl
  have hset : ∀ y : List PV, ((t.map nd).set k y).length = t.length := by simp
  simp [-getElem?_pos, k_spec_l17Grown_ic, k_spec_l17Grown_rv, hk, hw1, hr0, hr1, hr2, hr3, hg, hr, hset, nds_allV, hx, hnd, hnx]
  exact ⟨w, hw, rfl⟩

/-- A drawn tree. -/
def PT (N : Nat) (v : PV) : Prop := ∃ t : List Nd, v = .agg [.own 5 (t.map nd)] ∧ t.length ≤ N

def PT1 (N : Nat) (v : PV) : Prop := ∃ t : List Nd, v = .agg [.own 5 (t.map nd)] ∧ 1 ≤ t.length ∧ t.length ≤ N

theorem lvs_mem : ∀ (t : List Nd) (i y : Int), y ∈ lvs t i → i ≤ y ∧ y < i + t.length
  | [], i, y, h => by simp [lvs] at h
  | x :: xs, i, y, h => by
    simp only [lvs] at h
    have ih := fun h => lvs_mem xs (i + 1) y h
    simp only [List.length_cons]
    split at h
    · rcases List.mem_cons.mp h with h | h
      · omega
      · have := ih h; omega
    · have := ih h; omega

theorem lvs_ne : ∀ (t : List Nd) (i : Int) (j : Nat) (x : Nd), t[j]? = some x → x.f = -1 → 0 < (lvs t i).length
  | [], _, _, _, h, _ => by simp at h
  | y :: ys, i, j, x, h, hf => by
    simp only [lvs]
    split
    · simp
    · rename_i hy
      cases j with
      | zero => simp at h; subst h; exact (hy hf).elim
      | succ j => exact lvs_ne ys (i + 1) j x (by simpa using h) hf

theorem Shaped.leaves {t : List Nd} {F : Int} (h : Shaped t F) : 0 < (lvs t 0).length := by
  have hp := h.pos
  have hx := List.getElem?_eq_getElem (l := t) (show t.length - 1 < t.length by omega)
  generalize t[t.length - 1]'(by omega) = x at hx
  by_cases hf : x.f = -1
  · exact lvs_ne t 0 _ x hx hf
  · have h1 := h.inner _ x hx hf
    have := h1.lt
    have := h1.r
    have := h1.hi
    omega

theorem leaf_shaped {v : Int} (F : Int) (h : leafV v = true) : Shaped [leafN v] F := by
  refine ⟨fun j x hx hf => ?_, fun j x hx hf => ?_, fun j j' x y hj hx hy hf => ?_, fun k h1 h2 => ?_, by simp⟩
  · cases j with
    | zero => simp at hx; subst hx; exact ⟨rfl, rfl, rfl, h⟩
    | succ j => simp at hx
  · cases j with
    | zero => simp at hx; subst hx; exact (hf rfl).elim
    | succ j => simp at hx
  · cases j with
    | zero => simp at hx; subst hx; exact (hf rfl).elim
    | succ j => simp at hx
  · simp at h2; omega

set_option maxHeartbeats 2000000 in
theorem R_spec_l17Right (B : List Int) (p : Nat) (s : Int) (hp : p ≤ B.length) (hB : B.length ≤ 9223372036854775807) (F : Int) (hF : F ≤ 9223372036854775807) : ∃ r, RUN T k_spec_l17Right [.bx [.sl 1 (byts B), iv p, iv s], iv F] = some r ∧ Draw B (PT1 31) r := by
  refine RUN_G T_spec_l17Right rfl ?_
  obtain ⟨r1, h1, v1, p1, s1, ⟨a1, rfl, a10, a11⟩, hp1, rfl⟩ := R_spec_l1Below B p s hp hB 21 (by omega)
  have a12 := a11 (by omega)
  have w1 := w64 (x := a1 - 10) (by omega) (by omega)
  have w2 := w64 (x := 50 * (a1 - 10)) (by omega) (by omega)
  have h2 := R_spec_OneLeaf (50 * (a1 - 10))
  obtain ⟨r3, h3, v3, p3, s3, ⟨a3, rfl, a30, a31⟩, hp3, rfl⟩ := R_spec_l1Below B p1 s1 hp1 hB 6 (by omega)
  have a32 := a31 (by omega)
  obtain ⟨kn, rfl⟩ : ∃ n : Nat, a3 = n := ⟨a3.toNat, by omega⟩
  have hsh : Shaped [leafN (50 * (a1 - 10))] F := leaf_shaped F (within_iff.mpr (by omega))
  generalize hlv : 50 * (a1 - 10) = lv at *
  simp [-getElem?_pos, k_spec_l17Right_ic, k_spec_l17Right_rv, h1, w1, w2, hlv, h2, h3]
  refine W_loop (fun n st => ∃ (i p ot et : Nat) (s : Int) (t : List Nd), i + n = kn ∧ p ≤ B.length ∧ Shaped t F ∧ t.length ≤ 31 ∧ st.V 0 = .ptr 0 none 0 0 0 ∧ st.V 1 = iv F ∧ st.V 4 = .ptr 1 none 0 0 0 ∧ st.V 5 = .ptr 3 none 0 0 0 ∧ st.V 6 = iv kn ∧ st.V 7 = iv i ∧ 1 < ot ∧ ot ≠ 3 ∧ ot < st.nx ∧ 3 < st.nx ∧ st.S 0 = some (.box [.sl 1 (byts B), iv p, iv s]) ∧ st.S 1 = some (.box [.e0]) ∧ st.S 3 = some (.box [.ref ot none et 0 t.length]) ∧ st.S ot = some (.row 5 (t.map nd))) ?_ kn _ ⟨0, p3, 2, 0, s3, [leafN lv], by simp, hp3, hsh, by simp, by simp, by simp, by simp, by simp, by simp, by simp, by simp, by simp, by simp, by simp, by simp, by simp, by simp, by simp⟩
  clear h1 h2 h3 hsh
  rintro n st ⟨i, p, ot, et, s, t, hi, hp, hsh, hl, v0, v1, v4, v5, v6, v7, ho, ho3, hox, hnx, hS, hS1, hS3, hSo⟩
  obtain ⟨f1, f2, f3, f4⟩ := fr hox
  obtain ⟨g1, g2, g3, g4⟩ := fr (show 0 < ot by omega)
  obtain ⟨z1, z2, z3, z4⟩ := fr (show 0 < st.nx by omega)
  obtain ⟨y1, y2, y3, y4⟩ := fr (show 1 < ot by omega)
  obtain ⟨x1, x2, x3, x4⟩ := fr (show 1 < st.nx by omega)
  obtain ⟨u1, u2, u3, u4⟩ := fr (show 3 < st.nx by omega)
  have k1 : (ot = 3) = False := eq_false ho3
  have k2 : (3 = ot) = False := eq_false (fun e => ho3 e.symm)
  simp [k_spec_l17Right_b0, v6, v7]
  refine Br_i (fun h => ?_) (fun h => ?_)
  · simp at h
    have hw := w64 (x := (i : Int) + 1) (by omega) (by omega)
    have e1 := R_spec_LeavesOf t (by omega)
    have hlv := hsh.leaves
    have hll := lvs_len t 0
    obtain ⟨r2, e2, v2, p2, s2, ⟨a2, rfl, a20, a21⟩, hp2, rfl⟩ := R_spec_l1Below B p s hp hB (lvs t 0).length (by omega)
    obtain ⟨j, rfl⟩ : ∃ n : Nat, a2 = n := ⟨a2.toNat, by omega⟩
    have hj : j < (lvs t 0).length := by have := a21 (by omega); omega
    obtain ⟨y, hy⟩ : ∃ y, (lvs t 0)[j]? = some y := ⟨_, List.getElem?_eq_getElem hj⟩
    have hy' := ints_get hy
    obtain ⟨b0, b1⟩ := lvs_mem t 0 y (List.mem_of_getElem? hy)
    obtain ⟨k, rfl⟩ : ∃ n : Nat, y = n := ⟨y.toNat, by omega⟩
    obtain ⟨r3, e3, v3, p3, s3, ⟨a3, rfl, a30, a31⟩, hp3, rfl⟩ := R_spec_l1Below B p2 s2 hp2 hB F hF
    obtain ⟨r4, e4, v4', p4, s4, ⟨a4, rfl, a40, a41⟩, hp4, rfl⟩ := R_spec_l1Below B p3 s3 hp3 hB 9 (by omega)
    obtain ⟨r5, e5, v5', p5, s5, ⟨a5, rfl, a50, a51⟩, hp5, rfl⟩ := R_spec_l1Below B p4 s4 hp4 hB 2001 (by omega)
    obtain ⟨r6, e6, v6', p6, s6, ⟨a6, rfl, a60, a61⟩, hp6, rfl⟩ := R_spec_l1Below B p5 s5 hp5 hB 2001 (by omega)
    have a42 := a41 (by omega)
    have a52 := a51 (by omega)
    have a62 := a61 (by omega)
    have w4 := w64 (x := a4 - 4) (by omega) (by omega)
    have w4' := w64 (x := 500 * (a4 - 4)) (by omega) (by omega)
    have w5 := w64 (x := a5 - 1000) (by omega) (by omega)
    have w6 := w64 (x := a6 - 1000) (by omega) (by omega)
    obtain ⟨r7, e7, w, hw7, rfl⟩ := R_spec_l17Grown t F hsh hl k (by omega) a3 (500 * (a4 - 4)) 0 0 0 (a5 - 1000) (a6 - 1000)
    have e8 := R_spec_TreeOk w F (by omega)
    cases hb : treeB w F with
    | true =>
      rw [hb] at e8
      simp [-getElem?_pos, v0, v1, v4, v5, v6, v7, hS, hS1, hS3, hSo, e1, e2, hy', hj, e3, e4, e5, e6, w4, w4', w5, w6, e7, e8, hw, f1, f2, f3, f4, g1, g2, g3, g4, z1, z2, z3, z4, y1, y2, y3, y4, x1, x2, x3, x4, u1, u2, u3, u4, k1, k2]
      unfold treeB at hb
      simp only [Bool.and_eq_true] at hb
      have hwl := within_iff.mp hb.1.1.1.2
      exact Rnd_n (n - 1) (by omega) ⟨i + 1, p6, st.nx + 1, st.ep, s6, w, by omega, hp6, shaped_of hb.1.1.2, by omega, by simp [v0], by simp [v1], by simp [v4], by simp [v5], by simp [v6], by simp, by omega, by omega, by simp, by simp; omega, by simp [f1, f2, f3, f4, g1, g2, g3, g4, z1, z2, z3, z4, y1, y2, y3, y4, x1, x2, x3, x4, u1, u2, u3, u4, k1, k2], by simp [f1, f2, f3, f4, g1, g2, g3, g4, z1, z2, z3, z4, y1, y2, y3, y4, x1, x2, x3, x4, u1, u2, u3, u4, k1, k2, hS1], by simp, by simp [f1, f2, f3, f4, g1, g2, g3, g4, z1, z2, z3, z4, y1, y2, y3, y4, x1, x2, x3, x4, u1, u2, u3, u4, k1, k2]⟩
    | false =>
      rw [hb] at e8
      simp [-getElem?_pos, v0, v1, v4, v5, v6, v7, hS, hS1, hS3, hSo, e1, e2, hy', hj, e3, e4, e5, e6, w4, w4', w5, w6, e7, e8, hw, f1, f2, f3, f4, g1, g2, g3, g4, z1, z2, z3, z4, y1, y2, y3, y4, x1, x2, x3, x4, u1, u2, u3, u4, k1, k2]
      exact Rnd_n (n - 1) (by omega) ⟨i + 1, p6, ot, et, s6, t, by omega, hp6, hsh, hl, by simp [v0], by simp [v1], by simp [v4], by simp [v5], by simp [v6], by simp, ho, ho3, by simp; omega, by simp; omega, by simp [f1, f2, f3, f4, g1, g2, g3, g4, z1, z2, z3, z4, y1, y2, y3, y4, x1, x2, x3, x4, u1, u2, u3, u4, k1, k2], by simp [f1, f2, f3, f4, g1, g2, g3, g4, z1, z2, z3, z4, y1, y2, y3, y4, x1, x2, x3, x4, u1, u2, u3, u4, k1, k2, hS1], by simp [f1, f2, f3, f4, g1, g2, g3, g4, z1, z2, z3, z4, y1, y2, y3, y4, x1, x2, x3, x4, u1, u2, u3, u4, k1, k2, hS3], by simp [f1, f2, f3, f4, g1, g2, g3, g4, z1, z2, z3, z4, y1, y2, y3, y4, x1, x2, x3, x4, u1, u2, u3, u4, k1, k2, hSo]⟩
  · simp at h
    have ho1 : 1 ≤ ot := by omega
    simp [-getElem?_pos, v0, v4, v5, ho1, hS, hS1, hS3, hSo, f1, f2, f3, f4, g1, g2, g3, g4, z1, z2, z3, z4, y1, y2, y3, y4, x1, x2, x3, x4, u1, u2, u3, u4, k1, k2]
    exact ⟨_, p, s, ⟨t, rfl, hsh.pos, hl⟩, hp, rfl⟩

theorem nds_set (t : List Nd) (k : Nat) (f c l r v : Int) : (t.map nd).set k [iv f, iv c, iv l, iv r, iv v] = (t.set k ⟨f, c, l, r, v⟩).map nd := by
  rw [List.map_set]; rfl

set_option maxHeartbeats 2000000 in
theorem R_spec_l17Bent (B : List Int) (p : Nat) (s : Int) (hp : p ≤ B.length) (hB : B.length ≤ 9223372036854775807) : ∃ r, RUN T k_spec_l17Bent [.bx [.sl 1 (byts B), iv p, iv s]] = some r ∧ Draw B (PT 32) r := by
  refine RUN_G T_spec_l17Bent rfl ?_
  obtain ⟨r1, h1, v1, p1, s1, ⟨a1, rfl, a10, a11⟩, hp1, rfl⟩ := R_spec_l1Below B p s hp hB 3 (by omega)
  have a12 := a11 (by omega)
  have w1 := w64 (x := 1 + a1) (by omega) (by omega)
  obtain ⟨r2, h2, v2, p2, s2, ⟨t, rfl, ht1, ht⟩, hp2, rfl⟩ := R_spec_l17Right B p1 s1 hp1 hB (1 + a1) (by omega)
  obtain ⟨r3, h3, v3, p3, s3, ⟨a3, rfl, a30, a31⟩, hp3, rfl⟩ := R_spec_l1Below B p2 s2 hp2 hB t.length (by omega)
  have a32 := a31 (by omega)
  obtain ⟨k, rfl⟩ : ∃ n : Nat, a3 = n := ⟨a3.toNat, by omega⟩
  have hk : k < t.length := by omega
  obtain ⟨r4, h4, v4, p4, s4, ⟨a4, rfl, a40, a41⟩, hp4, rfl⟩ := R_spec_l1Below B p3 s3 hp3 hB 14 (by omega)
  obtain ⟨x, hx⟩ : ∃ x, t[k]? = some x := ⟨_, List.getElem?_eq_getElem hk⟩
  have hnd : ∀ y : Nd, nd y = [iv y.f, iv y.c, iv y.l, iv y.r, iv y.v] := fun y => rfl
  have hr5 : roomFor 8 5 = true := by decide
  have hr6 : roomFor 8 6 = true := by decide
  have hr1 : roomFor 40 1 = true := by decide
  have hrt : roomFor 40 (t.length + 1) = true := by simp [roomFor]; omega
  by_cases c0 : a4 = 0
  · obtain ⟨r5, h5, v5, p5, s5, ⟨y, rfl, hy⟩, hp5, rfl⟩ := R_spec_l1PickInt B p4 s4 hp4 hB [-1, 0, 1, 4, -2, 9223372036854775807] (by simp)
    simp only [ints, List.map] at h5
    simp [-getElem?_pos, k_spec_l17Bent_ic, k_spec_l17Bent_rv, h1, w1, h2, h3, h4, c0, h5, hr5, hr6, hk, hx, hnd]
    exact ⟨_, p5, s5, ⟨t.set k ⟨y, x.c, x.l, x.r, x.v⟩, by rw [← nds_set], by simp; omega⟩, hp5, rfl⟩
  by_cases c1 : a4 = 1
  · obtain ⟨r5, h5, v5, p5, s5, ⟨y, rfl, hy⟩, hp5, rfl⟩ := R_spec_l1PickInt B p4 s4 hp4 hB [0, 1, 2147483648, -2147483648, 500] (by simp)
    simp only [ints, List.map] at h5
    simp [-getElem?_pos, k_spec_l17Bent_ic, k_spec_l17Bent_rv, h1, w1, h2, h3, h4, c0, c1, h5, hr5, hr6, hk, hx, hnd]
    exact ⟨_, p5, s5, ⟨t.set k ⟨x.f, y, x.l, x.r, x.v⟩, by rw [← nds_set], by simp; omega⟩, hp5, rfl⟩
  by_cases c2 : a4 = 2
  · obtain ⟨r5, h5, v5, p5, s5, ⟨y, rfl, hy⟩, hp5, rfl⟩ := R_spec_l1PickInt B p4 s4 hp4 hB [0, 1, 2, -1, 40, (k : Int)] (by simp)
    simp only [ints, List.map] at h5
    simp [-getElem?_pos, k_spec_l17Bent_ic, k_spec_l17Bent_rv, h1, w1, h2, h3, h4, c0, c1, c2, h5, hr5, hr6, hk, hx, hnd]
    exact ⟨_, p5, s5, ⟨t.set k ⟨x.f, x.c, y, x.r, x.v⟩, by rw [← nds_set], by simp; omega⟩, hp5, rfl⟩
  by_cases c3 : a4 = 3
  · obtain ⟨r5, h5, v5, p5, s5, ⟨y, rfl, hy⟩, hp5, rfl⟩ := R_spec_l1PickInt B p4 s4 hp4 hB [0, 1, 2, -1, 40, (k : Int)] (by simp)
    simp only [ints, List.map] at h5
    simp [-getElem?_pos, k_spec_l17Bent_ic, k_spec_l17Bent_rv, h1, w1, h2, h3, h4, c0, c1, c2, c3, h5, hr5, hr6, hk, hx, hnd]
    exact ⟨_, p5, s5, ⟨t.set k ⟨x.f, x.c, x.l, y, x.v⟩, by rw [← nds_set], by simp; omega⟩, hp5, rfl⟩
  by_cases c4 : a4 = 4
  · obtain ⟨r5, h5, v5, p5, s5, ⟨y, rfl, hy⟩, hp5, rfl⟩ := R_spec_l1PickInt B p4 s4 hp4 hB [0, 1, 1099511627776, 1099511627777, -1099511627777] (by simp)
    simp only [ints, List.map] at h5
    simp [-getElem?_pos, k_spec_l17Bent_ic, k_spec_l17Bent_rv, h1, w1, h2, h3, h4, c0, c1, c2, c3, c4, h5, hr5, hr6, hk, hx, hnd]
    exact ⟨_, p5, s5, ⟨t.set k ⟨x.f, x.c, x.l, x.r, y⟩, by rw [← nds_set], by simp; omega⟩, hp5, rfl⟩
  by_cases c5 : a4 = 5
  · have e := nds_snoc t ⟨-1, 0, 0, 0, 0⟩
    simp only at e
    simp [-getElem?_pos, k_spec_l17Bent_ic, k_spec_l17Bent_rv, h1, w1, h2, h3, h4, c0, c1, c2, c3, c4, c5, hr1, hrt]
    exact ⟨_, p4, s4, ⟨t ++ [⟨-1, 0, 0, 0, 0⟩], by rw [← e], by simp; omega⟩, hp4, rfl⟩
  by_cases c6 : a4 = 6
  · have hk' : k ≤ t.length := by omega
    have hkn : ¬ k = t.length := by omega
    simp [-getElem?_pos, hk', hkn, k_spec_l17Bent_ic, k_spec_l17Bent_rv, h1, w1, h2, h3, h4, c0, c1, c2, c3, c4, c5, c6]
    exact ⟨_, p4, s4, ⟨t.take k, by rw [List.map_take], by simp; omega⟩, hp4, rfl⟩
  · simp [-getElem?_pos, k_spec_l17Bent_ic, k_spec_l17Bent_rv, h1, w1, h2, h3, h4, c0, c1, c2, c3, c4, c5, c6]
    exact ⟨_, p4, s4, ⟨t, rfl, by omega⟩, hp4, rfl⟩

theorem anc_more (t : List Nd) : ∀ (n : Nat) (k : Int) (l : List Int), anc t n k = some l → anc t (n + 1) k = some l
  | 0, k, l, h => by simp [anc] at h
  | n + 1, k, l, h => by
    rw [anc_s] at h ⊢
    split at h
    · rename_i c; rw [if_pos c]; exact h
    · rename_i c
      rw [if_neg c]
      simp only [Option.map_eq_some_iff] at h ⊢
      obtain ⟨m, hm, rfl⟩ := h
      exact ⟨m, anc_more t n _ m hm, rfl⟩

def PRw (n : Nat) (v : PV) : Prop := ∃ l : List Int, v = .own 1 (ints l) ∧ l.length = n ∧ ∀ x ∈ l, inI x

set_option maxHeartbeats 1000000 in
theorem R_spec_l18Row (B : List Int) (p : Nat) (s : Int) (hp : p ≤ B.length) (hB : B.length ≤ 9223372036854775807) (k : Nat) (hk : k ≤ 64) : ∃ r, RUN T k_spec_l18Row [.bx [.sl 1 (byts B), iv p, iv s], iv k] = some r ∧ Draw B (PRw k) r := by
  refine RUN_G T_spec_l18Row rfl ?_
  have hr0 : roomFor 8 0 = true := by decide
  have hr1 : roomFor 8 1 = true := by decide
  simp [-getElem?_pos, k_spec_l18Row_ic, k_spec_l18Row_rv, hr0]
  refine W_loop (fun n st => ∃ (i p o e : Nat) (s : Int) (m : List Int), i + n = k ∧ m.length = i ∧ (∀ n ∈ m, inI n) ∧ p ≤ B.length ∧ st.V 0 = .ptr 0 none 0 0 0 ∧ st.V 1 = iv k ∧ st.V 5 = .ref o none e 0 m.length ∧ st.V 6 = iv i ∧ 0 < o ∧ o < st.nx ∧ st.S 0 = some (.box [.sl 1 (byts B), iv p, iv s]) ∧ st.S o = some (.row 1 (ints m))) ?_ k _ ⟨0, p, 1, 0, s, [], by omega, rfl, by simp, hp, by simp, by simp, by simp, by simp, by omega, by simp, by simp, by simp [ints]⟩
  clear hp
  rintro n st ⟨i, p, o, e, s, m, hi, hm, hmi, hp, v0, v1, v5, v6, ho, hox, hS, hSo⟩
  simp [k_spec_l18Row_b0, v1, v6]
  obtain ⟨f1, f2, f3, f4⟩ := fr hox
  obtain ⟨g1, g2, g3, g4⟩ := fr ho
  obtain ⟨z1, z2, z3, z4⟩ := fr (show 0 < st.nx by omega)
  refine Br_i (fun h => ?_) (fun h => ?_)
  · simp at h
    have hw := wS h (by omega : k ≤ 9223372036854775807)
    have hr8 := room8 (n := m.length + 1) (by omega)
    obtain ⟨r1, h1, v1', p1, s1, ⟨a1, rfl⟩, hp1, rfl⟩ := R_spec_l1Once B p s hp hB 12 (by omega)
    cases a1 with
    | true =>
      obtain ⟨r2, h2, v2, p2, s2, ⟨x, rfl, hx⟩, hp2, rfl⟩ := R_spec_l1Whole B p1 s1 hp1 hB
      simp [-getElem?_pos, v0, v1, v5, v6, hS, hSo, h, h1, h2, hr1, hr8, hw, ints_snoc, f1, f2, f3, f4, g1, g2, g3, g4, z1, z2, z3, z4]
      refine Rnd_n (n - 1) (by omega) ⟨i + 1, p2, st.nx + 1, st.ep, s2, m ++ [x], by omega, by simp [hm], ?_, hp2, by simp [v0], by simp [v1], by simp, by simp, by omega, by simp, by simp [f1, f2, f3, f4, g1, g2, g3, g4, z1, z2, z3, z4], by simp⟩
      intro y hy
      rcases List.mem_append.mp hy with hy | hy
      · exact hmi y hy
      · simp at hy; subst hy; exact hx
    | false =>
      obtain ⟨r2, h2, v2, p2, s2, ⟨x, rfl, x0, x1⟩, hp2, rfl⟩ := R_spec_l1Below B p1 s1 hp1 hB 11 (by omega)
      obtain ⟨r3, h3, v3, p3, s3, ⟨y, rfl, y0, y1⟩, hp3, rfl⟩ := R_spec_l1Below B p2 s2 hp2 hB 2 (by omega)
      have x2 := x1 (by omega)
      have y2 := y1 (by omega)
      have w1 := w64 (x := x - 5) (by omega) (by omega)
      have w2 := w64 (x := 500 * (x - 5)) (by omega) (by omega)
      have w3 := w64 (x := 500 * (x - 5) + y) (by omega) (by omega)
      simp [-getElem?_pos, v0, v1, v5, v6, hS, hSo, h, h1, h2, h3, w1, w2, w3, hr1, hr8, hw, ints_snoc, f1, f2, f3, f4, g1, g2, g3, g4, z1, z2, z3, z4]
      refine Rnd_n (n - 1) (by omega) ⟨i + 1, p3, st.nx + 1, st.ep, s3, m ++ [500 * (x - 5) + y], by omega, by simp [hm], ?_, hp3, by simp [v0], by simp [v1], by simp, by simp, by omega, by simp, by simp [f1, f2, f3, f4, g1, g2, g3, g4, z1, z2, z3, z4], by simp⟩
      intro z hz
      rcases List.mem_append.mp hz with hz | hz
      · exact hmi z hz
      · simp at hz; subst hz; unfold inI; omega
  · simp at h
    have ho1 : 1 ≤ o := by omega
    simp [-getElem?_pos, v0, v5, hS, hSo, ho1, f1, f2, f3, f4, g1, g2, g3, g4]
    exact ⟨_, p, s, ⟨m, rfl, by omega, hmi⟩, hp, rfl⟩

/-- The place at which a number goes into a list, looked for from the end. -/
def pos (x : Int) (l : List Int) : Nat → Nat
  | 0 => 0
  | k + 1 => if x < l.getD k 0 then pos x l k else k + 1

def cnt (l : List Int) (x : Int) : Nat := (l.filter fun y => decide (y = x)).length

theorem cnt_take {l : List Int} {i : Nat} {y : Int} (h : l[i]? = some y) (x : Int) : cnt (l.take (i + 1)) x = if y = x then cnt (l.take i) x + 1 else cnt (l.take i) x := by
  unfold cnt
  rw [List.take_succ, h, List.filter_append]
  by_cases c : y = x <;> simp [c]

theorem cnt_le (l : List Int) (x : Int) : cnt l x ≤ l.length := List.length_filter_le _ _

theorem cnt_pos {l : List Int} {x : Int} : 0 < cnt l x ↔ x ∈ l := by
  unfold cnt
  rw [List.length_pos_iff_exists_mem]
  simp

theorem R_laws_times (l : List Int) (x : Int) (hl : l.length ≤ 9223372036854775807) : RUN T k_laws_times [.sl 1 (ints l), iv x] = some ([iv (cnt l x)], []) := by
  refine RUN_W T_laws_times rfl ?_
  simp [k_laws_times_ic, k_laws_times_rv]
  refine W_loop (fun n st => ∃ i : Nat, i + n = l.length ∧ st.V 0 = .sl 1 (ints l) ∧ st.V 1 = iv x ∧ st.V 5 = iv (cnt (l.take i) x) ∧ st.V 6 = iv i) ?_ l.length _ ⟨0, by simp [cnt]⟩
  rintro n st ⟨i, hi, v0, v1, v5, v6⟩
  simp [k_laws_times_b0, v0, v6]
  refine Br_i (fun h => ?_) (fun h => ?_)
  · simp at h
    obtain ⟨y, hy⟩ : ∃ y, l[i]? = some y := ⟨_, List.getElem?_eq_getElem h⟩
    have hy' := ints_get hy
    have hw := wS h hl
    have hc := cnt_take hy x
    have hle := cnt_le (l.take (i + 1)) x
    simp at hle
    by_cases c : y = x
    · rw [if_pos c] at hc
      have hw2 := w64 (x := (cnt (l.take i) x : Int) + 1) (by omega) (by omega)
      simp [-getElem?_pos, v0, v1, v5, v6, h, hy', hw, hw2, c]
      exact Rnd_n (n - 1) (by omega) ⟨i + 1, by omega, by simp [v0], by simp [v1], by simp [hc], by simp⟩
    · rw [if_neg c] at hc
      simp [-getElem?_pos, v0, v1, v5, v6, h, hy', hw, c]
      exact Rnd_n (n - 1) (by omega) ⟨i + 1, by omega, by simp [v0], by simp [v1], by simp [v5, hc], by simp⟩
  · simp at h
    rw [List.take_of_length_le h] at v5
    simp [v5]

theorem R_laws_has (l : List Int) (x : Int) (hl : l.length ≤ 9223372036854775807) : RUN T k_laws_has [.sl 1 (ints l), iv x] = some ([bv (decide (x ∈ l))], []) := by
  refine RUN_W T_laws_has rfl ?_
  have h := R_laws_times l x hl
  by_cases c : x ∈ l
  · have := cnt_pos.mpr c
    simp [k_laws_has_ic, k_laws_has_rv, h, c, this]
  · have : ¬ 0 < cnt l x := fun h => c (cnt_pos.mp h)
    simp [k_laws_has_ic, k_laws_has_rv, h, c]
    omega

theorem R_spec_DrawRouteTo (B : List Int) (hB : B.length ≤ 9223372036854775807) : ∃ (t : List Nd) (row : List Int), t.length ≤ 32 ∧ row.length ≤ 4 ∧ (∀ x ∈ row, inI x) ∧ RUN T k_spec_DrawRouteTo [.sl 1 (byts B)] = some ([.agg [.own 5 (t.map nd)], .own 1 (ints row)], []) := by
  obtain ⟨r, h, s, rfl⟩ := R_spec_l1New B hB
  simp only [Int.natCast_zero] at h
  obtain ⟨r2, h2, v2, p2, s2, ⟨t, rfl, ht⟩, hp2, rfl⟩ := R_spec_l17Bent B 0 s (by omega) hB
  simp only [Int.natCast_zero] at h2
  obtain ⟨r3, h3, v3, p3, s3, ⟨b3, rfl⟩, hp3, rfl⟩ := R_spec_l1Once B p2 s2 hp2 hB 8 (by omega)
  cases b3 with
  | true =>
    obtain ⟨r4, h4, v4, p4, s4, ⟨a4, rfl, a40, a41⟩, hp4, rfl⟩ := R_spec_l1Below B p3 s3 hp3 hB 4 (by omega)
    have a42 := a41 (by omega)
    obtain ⟨k, rfl⟩ : ∃ n : Nat, a4 = n := ⟨a4.toNat, by omega⟩
    obtain ⟨r5, h5, v5, p5, s5, ⟨row, rfl, hr, hri⟩, hp5, rfl⟩ := R_spec_l18Row B p4 s4 hp4 hB k (by omega)
    refine ⟨t, row, ht, by omega, hri, RUN_W T_spec_DrawRouteTo rfl ?_⟩
    simp [-getElem?_pos, k_spec_DrawRouteTo_ic, k_spec_DrawRouteTo_rv, h, h2, h3, h4, h5]
  | false =>
    obtain ⟨r5, h5, v5, p5, s5, ⟨row, rfl, hr, hri⟩, hp5, rfl⟩ := R_spec_l18Row B p3 s3 hp3 hB 3 (by omega)
    simp only [Int.cast_ofNat_Int] at h5
    refine ⟨t, row, ht, by omega, hri, RUN_W T_spec_DrawRouteTo rfl ?_⟩
    simp [-getElem?_pos, k_spec_DrawRouteTo_ic, k_spec_DrawRouteTo_rv, h, h2, h3, h5]

theorem Shaped.wf {t : List Nd} {F : Int} (h : Shaped t F) (hF : F ≤ 100) (hl : t.length ≤ 31) : ∀ n ∈ t, wfN n := by
  intro n hn
  obtain ⟨j, hj⟩ := List.getElem?_of_mem hn
  unfold wfN inI
  by_cases hf : n.f = -1
  · obtain ⟨h1, h2, h3, h4⟩ := h.leaf j n hj hf
    have := within_iff.mp h4
    omega
  · have hi := h.inner j n hj hf
    have h1 := within_iff.mp hi.c
    have h2 := hi.f
    have h3 := hi.lo
    have h4 := hi.r
    have h5 := hi.hi
    have h6 := hi.v
    omega

/-- What holds of each two that follow each other. -/
def Prs (P : Int → Int → Prop) : List Int → Prop
  | a :: b :: r => P a b ∧ Prs P (b :: r)
  | _ => True

theorem box_in {t : List Nd} {f v : Int} (hc : ∀ (j : Nat) (x : Nd), t[j]? = some x → x.c ≠ 9223372036854775807) : ∀ (w : List Int) (lo hi : Int), (∀ y ∈ w, 0 ≤ y ∧ y < t.length) → (((box t f w lo hi).1 ≤ v ∧ v ≤ (box t f w lo hi).2) ↔ (lo ≤ v ∧ v ≤ hi) ∧ Prs (fun a b => ∀ x, t[a.toNat]? = some x → x.f = f → if x.l = b then v ≤ x.c else x.c < v) w)
  | [], lo, hi, _ => by simp [box, Prs]
  | [a], lo, hi, _ => by simp [box, Prs]
  | a :: b :: r, lo, hi, hw => by
    have ha := hw a (by simp)
    obtain ⟨x, hx⟩ : ∃ x, t[a.toNat]? = some x := ⟨_, List.getElem?_eq_getElem (by omega)⟩
    have hcx := hc _ x hx
    have ih := fun lo hi => box_in (f := f) (v := v) hc (b :: r) lo hi (fun y hy => hw y (by simp [hy]))
    rw [box, hx]
    simp only [Prs, hx, Option.some.injEq, forall_eq']
    by_cases c1 : x.f = f
    · rw [if_pos c1]
      by_cases c2 : x.l = b
      · rw [if_pos c2, ih]
        simp only [c1, c2, forall_const, if_true]
        constructor
        · rintro ⟨⟨h1, h2⟩, h3⟩; exact ⟨⟨h1, by omega⟩, by omega, h3⟩
        · rintro ⟨⟨h1, h2⟩, h3, h4⟩; exact ⟨⟨h1, by omega⟩, h4⟩
      · rw [if_neg c2, if_neg hcx, ih]
        simp only [c1, c2, forall_const, if_false]
        constructor
        · rintro ⟨⟨h1, h2⟩, h3⟩; exact ⟨⟨by omega, h2⟩, by omega, h3⟩
        · rintro ⟨⟨h1, h2⟩, h3, h4⟩; exact ⟨⟨by omega, h2⟩, h4⟩
    · rw [if_neg c1, ih]
      constructor
      · rintro ⟨h1, h3⟩; exact ⟨h1, fun e => (c1 e).elim, h3⟩
      · rintro ⟨h1, _, h4⟩; exact ⟨h1, h4⟩

theorem Prs_mono {P Q : Int → Int → Prop} (h : ∀ a b, P a b → Q a b) : ∀ w, Prs P w → Prs Q w
  | [], _ => trivial
  | [_], _ => trivial
  | a :: b :: r, hp => ⟨h a b hp.1, Prs_mono h (b :: r) hp.2⟩

theorem Prs_and {P Q R : Int → Int → Prop} (h : ∀ a b, P a b → Q a b → R a b) : ∀ w, Prs P w → Prs Q w → Prs R w
  | [], _, _ => trivial
  | [_], _, _ => trivial
  | a :: b :: r, hp, hq => ⟨h a b hp.1 hq.1, Prs_and h (b :: r) hp.2 hq.2⟩

theorem Prs_all {P : Nat → Int → Int → Prop} : ∀ w, (∀ f, Prs (P f) w) → Prs (fun a b => ∀ f, P f a b) w
  | [], _ => trivial
  | [_], _ => trivial
  | a :: b :: r, h => ⟨fun f => (h f).1, Prs_all (b :: r) fun f => (h f).2⟩

theorem Prs_snoc {P : Int → Int → Prop} (p c : Int) : ∀ m : List Int, Prs P (m ++ [p]) → P p c → Prs P (m ++ [p, c])
  | [], _, h => ⟨h, trivial⟩
  | [a], hp, h => ⟨hp.1, h, trivial⟩
  | a :: b :: r, hp, h => ⟨hp.1, Prs_snoc p c (b :: r) hp.2 h⟩

/-- The same of a way from below. -/
def RPrs (P : Int → Int → Prop) : List Int → Prop
  | c :: p :: r => P p c ∧ RPrs P (p :: r)
  | _ => True

theorem RPrs_rev {P : Int → Int → Prop} : ∀ l : List Int, RPrs P l → Prs P l.reverse
  | [], _ => trivial
  | [_], _ => trivial
  | c :: p :: r, h => by
    have ih := RPrs_rev (p :: r) h.2
    simp only [List.reverse_cons] at ih ⊢
    rw [List.append_assoc]
    exact Prs_snoc p c _ ih h.1

theorem anc_mono (t : List Nd) {n : Nat} {k : Int} {l : List Int} (h : anc t n k = some l) : ∀ d, anc t (n + d) k = some l
  | 0 => h
  | d + 1 => anc_more t _ _ _ (anc_mono t h d)

/-- The way of a slot in a tree whose shape is right. -/
theorem Shaped.way_eq {t : List Nd} {F : Int} (h : Shaped t F) (hl : t.length ≤ 31) {k : Nat} (hk : k < t.length) : ∃ l, Pe.way t k = ((k : Int) :: l).reverse ∧ Chn t l (par t k) ∧ l.length ≤ k := by
  obtain ⟨l, ha⟩ := h.anc (k + 1) k (by omega) (by omega)
  have hle := anc_le t _ _ _ ha
  have h32 := anc_mono t ha (32 - (k + 1))
  have e : k + 1 + (32 - (k + 1)) = 32 := by omega
  rw [e] at h32
  have hc := anc_chn t 32 k l (by omega) h32
  refine ⟨l, ?_, hc.2.2, by omega⟩
  unfold Pe.way
  rw [if_pos (by omega), h32]

theorem chn_last {t : List Nd} {F : Int} (hs : Shaped t F) : ∀ (xs : List Int) (c : Int), 0 ≤ c → c < t.length → Chn t xs (par t c) → ∃ m : List Int, (c :: xs).reverse = 0 :: m
  | [], c, h0, h1, h => by
    have hp : par t c < 0 := h
    have : c = 0 := by
      by_cases e : c = 0
      · exact e
      · obtain ⟨j, x, hx, hf, hc⟩ := hs.cover c (by omega) h1
        have := hs.par_of hx hf hc
        omega
    subst this
    exact ⟨[], rfl⟩
  | p :: ys, c, h0, h1, h => by
    obtain ⟨rfl, hp, hc⟩ := h
    have hr := par_range t c
    obtain ⟨m, hm⟩ := chn_last hs ys (par t c) hp (by omega) hc
    exact ⟨m ++ [c], by rw [List.reverse_cons, hm]; rfl⟩

def Cld (t : List Nd) (a b : Int) : Prop := 0 ≤ a ∧ ∃ x, t[a.toNat]? = some x ∧ x.f ≠ -1 ∧ (x.l = b ∨ x.r = b)

theorem chn_cld {t : List Nd} {F : Int} (hs : Shaped t F) : ∀ (xs : List Int) (c : Int), Chn t xs (par t c) → RPrs (Cld t) (c :: xs)
  | [], _, _ => trivial
  | p :: ys, c, h => by
    obtain ⟨rfl, hp, hc⟩ := h
    refine ⟨⟨hp, ?_⟩, chn_cld hs ys _ hc⟩
    rcases hs.par_lt c with e | ⟨i, x, e, hx, hf, hk, _⟩
    · omega
    · rw [e]; exact ⟨x, by simpa using hx, hf, hk⟩

/-- From a node on by a row. -/
def Dec (t : List Nd) (row : List Int) (a b : Int) : Prop := 0 ≤ a ∧ ∃ x v, t[a.toNat]? = some x ∧ x.f ≠ -1 ∧ 0 ≤ x.f ∧ row[x.f.toNat]? = some v ∧ b = if v ≤ x.c then x.l else x.r

def Fit (t : List Nd) (row : List Int) (a b : Int) : Prop := ∀ f : Nat, ∀ v, row[f]? = some v → ∀ x, t[a.toNat]? = some x → x.f = f → if x.l = b then v ≤ x.c else x.c < v

theorem dec_of {t : List Nd} {row : List Int} (hs : Shaped t row.length) (a b : Int) (h1 : Cld t a b) (h2 : Fit t row a b) : Dec t row a b := by
  obtain ⟨h0, x, hx, hf, hc⟩ := h1
  have hi := hs.inner _ x hx hf
  have hff := hi.f
  have hr := hi.r
  obtain ⟨v, hv⟩ : ∃ v, row[x.f.toNat]? = some v := ⟨_, List.getElem?_eq_getElem (by omega)⟩
  refine ⟨h0, x, v, hx, hf, hff.1, hv, ?_⟩
  have := h2 _ v hv x hx (by omega)
  split at this
  · rename_i e; rw [if_pos this]; exact e.symm
  · rename_i e; rw [if_neg (by omega)]
    rcases hc with hc | hc
    · exact (e hc).elim
    · exact hc.symm

theorem fit_of {t : List Nd} {F : Int} {row : List Int} (hs : Shaped t F) (a b : Int) (h : Dec t row a b) : Fit t row a b := by
  obtain ⟨h0, x, v, hx, hf, hf0, hv, hb⟩ := h
  intro f v' hv' x' hx' hf'
  rw [hx] at hx'; cases hx'
  have e : x.f.toNat = f := by omega
  rw [e] at hv
  rw [hv] at hv'; cases hv'
  have hr := (hs.inner _ x hx hf).r
  subst hb
  by_cases c : v ≤ x.c
  · rw [if_pos c, if_pos rfl]; exact c
  · rw [if_neg c, if_neg (by omega)]; omega

theorem rt_follow {t : List Nd} {row : List Int} {k : Nat} {z : Nd} (hz : t[k]? = some z) (hzf : z.f = -1) : ∀ (r : List Int) (a : Int) (n : Nat), Prs (Dec t row) (a :: r) → (a :: r).getLast? = some (k : Int) → (a :: r).length ≤ n → rt t row n a = some (a :: r)
  | [], a, n, _, hl, hn => by
    obtain ⟨q, rfl⟩ : ∃ q, n = q + 1 := ⟨n - 1, by simp at hn; omega⟩
    simp at hl
    subst hl
    exact rt_leaf hz hzf
  | b :: r, a, n, hp, hl, hn => by
    obtain ⟨q, rfl⟩ : ∃ q, n = q + 1 := ⟨n - 1, by simp at hn; omega⟩
    obtain ⟨⟨h0, x, v, hx, hf, hf0, hv, hb⟩, hp2⟩ := hp
    obtain ⟨an, rfl⟩ : ∃ i : Nat, a = i := ⟨a.toNat, by omega⟩
    simp only [Int.toNat_natCast] at hx
    have e := rt_on (n := q) (row := row) hx (f := x.f.toNat) (by omega) hv
    rw [e, ← hb, rt_follow hz hzf r b q hp2 (by simpa using hl) (by simp at hn ⊢; omega)]
    rfl

theorem rt_nx {t : List Nd} {row : List Int} : ∀ (n : Nat) (a : Int) (w : List Int), rt t row n a = some w → ∀ b ∈ w, b = a ∨ ∃ p ∈ w, Dec t row p b
  | 0, a, w, h, _, _ => by simp [rt] at h
  | n + 1, a, w, h, b, hb => by
    rw [rt] at h
    split at h
    · cases h
    rename_i xa hxa
    have ha0 : 0 ≤ a := by
      by_cases c : 0 ≤ a
      · exact c
      · rw [if_neg c] at hxa; cases hxa
    rw [if_pos ha0] at hxa
    split at h
    · cases h; left; simpa using hb
    · rename_i hf
      split at h
      · cases h
      rename_i y hy
      have hf0 : 0 ≤ xa.f := by
        by_cases c : 0 ≤ xa.f
        · exact c
        · rw [if_neg c] at hy; cases hy
      rw [if_pos hf0] at hy
      simp only [Option.map_eq_some_iff] at h
      obtain ⟨w', hw', rfl⟩ := h
      rcases List.mem_cons.mp hb with e | e
      · exact .inl e
      · rcases rt_nx n _ w' hw' b e with h | ⟨p, hp, hd⟩
        · exact .inr ⟨a, by simp, ha0, xa, y, hxa, hf, hf0, hy, h⟩
        · exact .inr ⟨p, List.mem_cons_of_mem _ hp, hd⟩

theorem chn_dec {t : List Nd} {F : Int} (hs : Shaped t F) {row : List Int} {w : List Int} (hw : ∀ b ∈ w, b = 0 ∨ ∃ p ∈ w, Dec t row p b) : ∀ (xs : List Int) (c : Int), c ∈ w → Chn t xs (par t c) → RPrs (Dec t row) (c :: xs)
  | [], _, _, _ => trivial
  | p :: ys, c, hc, h => by
    obtain ⟨rfl, hp, hch⟩ := h
    rcases hw c hc with e | ⟨q, hq, hd⟩
    · subst e
      rcases hs.par_lt 0 with e | ⟨i, x, e, hx, hf, hk, h2, _⟩
      · omega
      · omega
    · have hd' := hd
      obtain ⟨h0, x, v, hx, hf, hf0, hv, hb⟩ := hd
      have hk : x.l = c ∨ x.r = c := by
        split at hb
        · exact .inl hb.symm
        · exact .inr hb.symm
      have := hs.par_of hx hf hk
      have e : par t c = q := by omega
      rw [e] at hch ⊢
      exact ⟨hd', chn_dec hs hw ys q hq hch⟩

/-- A leaf's box holds a row when the row is routed to it. -/
theorem route_dec {t : List Nd} {row : List Int} (hs : Shaped t row.length) (hl : t.length ≤ 31) {k : Nat} {z : Nd} (hz : t[k]? = some z) (hzf : z.f = -1) : Prs (Fit t row) (way t k) ↔ rto t row = k := by
  have hk : k < t.length := by
    rcases Nat.lt_or_ge k t.length with h | h
    · exact h
    · rw [List.getElem?_eq_none (by omega)] at hz; cases hz
  obtain ⟨l, hway, hch, hlen⟩ := hs.way_eq hl hk
  obtain ⟨m, hm⟩ := chn_last hs l k (by omega) (by omega) hch
  have hcl := RPrs_rev _ (chn_cld hs l k hch)
  rw [hway]
  constructor
  · intro h
    have hd := Prs_and (dec_of hs) _ hcl h
    have hlast : ((k : Int) :: l).reverse.getLast? = some (k : Int) := by simp
    have hln : ((k : Int) :: l).reverse.length ≤ t.length + 1 := by simp; omega
    rw [hm] at hd hlast hln
    have := rt_follow hz hzf m 0 (t.length + 1) hd hlast hln
    unfold rto way2
    rw [this]
    simp only [Option.getD_some, hlast]
  · intro h
    unfold rto way2 at h
    cases hr : rt t row (t.length + 1) 0 with
    | none => rw [hr] at h; simp at h
    | some w =>
      rw [hr] at h
      simp only [Option.getD_some] at h
      have hkw : (k : Int) ∈ w := by
        cases hg : w.getLast? with
        | none => rw [hg] at h; simp at h
        | some y => rw [hg] at h; simp at h; subst h; exact List.mem_of_getLast? hg
      exact Prs_mono (fit_of hs) _ (RPrs_rev _ (chn_dec hs (rt_nx _ _ _ hr) l k hkw hch))

theorem Prs_of {P : Int → Int → Prop} (h : ∀ a b, P a b) : ∀ w, Prs P w
  | [] => trivial
  | [_] => trivial
  | a :: b :: r => ⟨h a b, Prs_of h (b :: r)⟩

def InAll (t : List Nd) (k : Int) (row : List Int) (i : Nat) : Prop := ∀ (f : Nat) (v : Int), f < i → row[f]? = some v → (boxOf t k f).1 ≤ v ∧ v ≤ (boxOf t k f).2

theorem in_iff {t : List Nd} {row : List Int} (hs : Shaped t row.length) (hl : t.length ≤ 31) (hr : ∀ x ∈ row, inI x) {k : Nat} {z : Nd} (hz : t[k]? = some z) (hzf : z.f = -1) : InAll t k row row.length ↔ rto t row = k := by
  rw [← route_dec hs hl hz hzf]
  have hc : ∀ (j : Nat) (x : Nd), t[j]? = some x → x.c ≠ 9223372036854775807 := by
    intro j x hx
    by_cases hf : x.f = -1
    · have := (hs.leaf j x hx hf).1; omega
    · have := within_iff.mp (hs.inner j x hx hf).c; omega
  have hw := way_range t k
  constructor
  · intro h
    refine Prs_all (P := fun f a b => ∀ v, row[f]? = some v → ∀ x, t[a.toNat]? = some x → x.f = f → if x.l = b then v ≤ x.c else x.c < v) _ fun f => ?_
    cases hv : row[f]? with
    | none => exact Prs_of (fun a b v hv' => by cases hv') _
    | some v =>
      have hlt : f < row.length := by
        rcases Nat.lt_or_ge f row.length with h | h
        · exact h
        · rw [List.getElem?_eq_none (by omega)] at hv; cases hv
      have := ((box_in hc (way t k) _ _ hw).mp (h f v hlt hv)).2
      exact Prs_mono (fun a b hab v' hv' => by cases hv'; exact hab) _ this
  · intro h f v hf hv
    refine (box_in hc (way t k) _ _ hw).mpr ⟨?_, ?_⟩
    · exact hr v (List.mem_of_getElem? hv)
    · exact Prs_mono (fun a b hab => hab f v hv) _ h

theorem rt_ends {t : List Nd} {row : List Int} (hs : Shaped t row.length) : ∀ (n a : Nat), t.length < a + n → a < t.length → ∃ (w : List Int) (k : Nat) (z : Nd), rt t row n a = some w ∧ w.getLast? = some (k : Int) ∧ t[k]? = some z ∧ z.f = -1
  | 0, a, h1, h2 => by omega
  | n + 1, a, h1, h2 => by
    obtain ⟨x, hx⟩ : ∃ x, t[a]? = some x := ⟨_, List.getElem?_eq_getElem h2⟩
    by_cases hf : x.f = -1
    · exact ⟨[(a : Int)], a, x, rt_leaf hx hf, rfl, hx, hf⟩
    · have hi := hs.inner a x hx hf
      have hff := hi.f
      have i1 := hi.lt
      have i2 := hi.r
      have i3 := hi.hi
      obtain ⟨v, hv⟩ : ∃ v, row[x.f.toNat]? = some v := ⟨_, List.getElem?_eq_getElem (by omega)⟩
      have e := rt_on (n := n) (row := row) hx (f := x.f.toNat) (by omega) hv
      obtain ⟨b, hb⟩ : ∃ b : Nat, (if v ≤ x.c then x.l else x.r) = b := by
        split
        · exact ⟨x.l.toNat, by omega⟩
        · exact ⟨x.r.toNat, by omega⟩
      have hbr : (a : Int) < b ∧ (b : Int) < t.length := by
        rw [← hb]; split <;> omega
      obtain ⟨w, k, z, h3, h4, h5⟩ := rt_ends hs n b (by omega) (by omega)
      rw [e, hb, h3]
      refine ⟨(a : Int) :: w, k, z, rfl, ?_, h5⟩
      cases w with
      | nil => simp at h4
      | cons c w => simpa using h4

theorem rto_leaf {t : List Nd} {row : List Int} (hs : Shaped t row.length) : ∃ (k : Nat) (z : Nd), rto t row = k ∧ t[k]? = some z ∧ z.f = -1 := by
  have hp := hs.pos
  obtain ⟨w, k, z, h1, h2, h3⟩ := rt_ends hs (t.length + 1) 0 (by omega) (by omega)
  refine ⟨k, z, ?_, h3⟩
  unfold rto way2
  rw [Int.natCast_zero] at h1
  rw [h1]
  simp [h2]

theorem lvs_iff : ∀ (t : List Nd) (i y : Int), y ∈ lvs t i ↔ ∃ (j : Nat) (z : Nd), t[j]? = some z ∧ z.f = -1 ∧ y = i + j
  | [], i, y => by simp [lvs]
  | x :: xs, i, y => by
    have ih := lvs_iff xs (i + 1) y
    have step : (∃ (j : Nat) (z : Nd), (x :: xs)[j]? = some z ∧ z.f = -1 ∧ y = i + j) ↔ (x.f = -1 ∧ y = i) ∨ ∃ (j : Nat) (z : Nd), xs[j]? = some z ∧ z.f = -1 ∧ y = i + 1 + j := by
      constructor
      · rintro ⟨j, z, h1, h2, h3⟩
        cases j with
        | zero => simp at h1; subst h1; exact .inl ⟨h2, by omega⟩
        | succ j => exact .inr ⟨j, z, by simpa using h1, h2, by omega⟩
      · rintro (⟨h1, h2⟩ | ⟨j, z, h1, h2, h3⟩)
        · exact ⟨0, x, rfl, h1, by omega⟩
        · exact ⟨j + 1, z, by simpa using h1, h2, by omega⟩
    rw [step, ← ih]
    simp only [lvs]
    split
    · rename_i hf; simp [hf]
    · rename_i hf; simp [hf]

set_option maxHeartbeats 2000000 in
theorem law_FnRoute (B : List Int) (hB : B.length ≤ 9223372036854775807) : RUN T k_laws_FnRoute [.sl 1 (byts B)] = some ([bv true], []) := by
  refine RUN_W T_laws_FnRoute rfl ?_
  have hb := R_laws_big (byts B)
  rw [byts_len] at hb
  by_cases c : (1048576 : Int) < B.length
  · simp [-getElem?_pos, k_laws_FnRoute_ic, k_laws_FnRoute_rv, hb, c]
  obtain ⟨t, row, ht, hrl, hri, hd⟩ := R_spec_DrawRouteTo B hB
  have h1 := R_impl_RouteTo t row (by omega) (by omega)
  have h2 := R_spec_RouteTo t row (by omega) (by omega)
  have h3 := R_spec_TreeOk t row.length (by omega)
  have h4 := R_impl_EvalTree t row (by omega) (by omega)
  have h5 := R_spec_LeavesOf t (by omega)
  have hll := lvs_len t 0
  have h6 := R_laws_has (lvs t 0) (rto t row) (by omega)
  cases hok : treeB t row.length with
  | false =>
    rw [hok] at h3
    rcases rto_range (t := t) (row := row) with e | ⟨i, e, hi⟩
    · have hev : evt t row = 0 := by unfold evt; rw [e]; rfl
      rw [hev] at h4
      rw [e] at h1 h2
      simp [-getElem?_pos, k_laws_FnRoute_ic, k_laws_FnRoute_rv, hb, c, hd, h1, h2, h3, h4]
    · rw [e] at h1 h2
      by_cases hm : evt t row = 0
      · rw [hm] at h4
        simp [-getElem?_pos, k_laws_FnRoute_ic, k_laws_FnRoute_rv, hb, c, hd, h1, h2, h3, h4]
      · simp [-getElem?_pos, k_laws_FnRoute_ic, k_laws_FnRoute_rv, hb, c, hd, h1, h2, h3, h4, hm]
  | true =>
    rw [hok] at h3
    unfold treeB at hok
    simp only [Bool.and_eq_true] at hok
    have hs := shaped_of hok.1.1.2
    have hl31 : t.length ≤ 31 := by have := within_iff.mp hok.1.1.1.2; omega
    have hwf := hs.wf (by omega) hl31
    have hB1 := fun k f => R_impl_BoxOf t k f (by omega) hwf
    have hB2 := fun k f => R_spec_BoxOf t k f (by omega) hwf
    obtain ⟨kr, zr, hkr, hzr, hzrf⟩ := rto_leaf hs
    have hin : rto t row ∈ lvs t 0 := (lvs_iff t 0 _).mpr ⟨kr, zr, hzr, hzrf, by omega⟩
    rw [decide_eq_true hin, hkr] at h6
    have hev : evt t row = zr.v := by
      unfold evt
      rw [hkr, if_neg (by omega)]
      simp [hzr]
    rw [hev] at h4
    rw [hkr] at h1 h2
    have hzr' := nds_get hzr
    have hkl : kr < t.length := by
      rcases Nat.lt_or_ge kr t.length with h | h
      · exact h
      · rw [List.getElem?_eq_none (by omega)] at hzr; cases hzr
    simp [-getElem?_pos, k_laws_FnRoute_ic, k_laws_FnRoute_rv, hb, c, hd, h1, h2, h3, h5]
    generalize hLv : lvs t 0 = Lv at *
    refine W_loop (fun n st => ∃ i : Nat, i + n = Lv.length ∧ st.V 3 = .ptr 2 none 0 0 0 ∧ st.V 4 = .ref 1 none 0 0 row.length ∧ st.V 5 = iv kr ∧ st.V 6 = .ref 3 none 0 0 Lv.length ∧ st.V 7 = iv i ∧ st.S 0 = some (.row 5 (t.map nd)) ∧ st.S 1 = some (.row 1 (ints row)) ∧ st.S 2 = some (.box [.ref 0 none 0 0 t.length]) ∧ st.S 3 = some (.row 1 (ints Lv))) ?_ Lv.length _ ⟨0, by simp⟩
    clear h1 h2 h3 h5 hd hb
    rintro n st ⟨i, hi, v3, v4, v5, v6, v7, hS0, hS1, hS2, hS3⟩
    by_cases h : i < Lv.length
    · obtain ⟨y, hy⟩ : ∃ y, Lv[i]? = some y := ⟨_, List.getElem?_eq_getElem h⟩
      have hy' := ints_get hy
      have hym := List.mem_of_getElem? hy
      rw [← hLv] at hym
      obtain ⟨k, z, hz, hzf, hyk⟩ := (lvs_iff t 0 y).mp hym
      rw [Int.zero_add] at hyk
      subst hyk
      have hiff := in_iff hs hl31 hri hz hzf
      rw [hkr] at hiff
      have hws := wS h (by omega : Lv.length ≤ 9223372036854775807)
      simp [-getElem?_pos, k_laws_FnRoute_b1, v3, v4, v5, v6, v7, hS0, hS1, hS2, hS3, h]
      refine W_loop (fun n' s => ∃ (f : Nat) (b : Bool), f + n' = row.length ∧ (b = true ↔ InAll t k row f) ∧ s.V 3 = .ptr 2 none 0 0 0 ∧ s.V 4 = .ref 1 none 0 0 row.length ∧ s.V 5 = iv kr ∧ s.V 6 = .ref 3 none 0 0 Lv.length ∧ s.V 7 = iv i ∧ s.V 8 = bv b ∧ s.V 9 = iv f ∧ s.S 0 = some (.row 5 (t.map nd)) ∧ s.S 1 = some (.row 1 (ints row)) ∧ s.S 2 = some (.box [.ref 0 none 0 0 t.length]) ∧ s.S 3 = some (.row 1 (ints Lv))) ?_ row.length _ ⟨0, true, by omega, ⟨fun _ f v hf => by omega, fun _ => rfl⟩, by simp [v3], by simp [v4], by simp [v5], by simp [v6], by simp [v7], by simp, by simp, by simp [hS0], by simp [hS1], by simp [hS2], by simp [hS3]⟩
      clear v3 v4 v5 v6 v7 hS0 hS1 hS2 hS3
      rintro n' s ⟨f, b, hf, hbi, v3, v4, v5, v6, v7, v8, v9, hS0, hS1, hS2, hS3⟩
      by_cases hfl : f < row.length
      · obtain ⟨v, hv⟩ : ∃ v, row[f]? = some v := ⟨_, List.getElem?_eq_getElem hfl⟩
        have hv' := ints_get hv
        have hwf2 := wS hfl (by omega : row.length ≤ 9223372036854775807)
        have hb1 := hB1 k f
        have hb2 := hB2 k f
        have hstep : ∀ b' : Bool, (b' = true ↔ b = true ∧ (boxOf t k f).1 ≤ v ∧ v ≤ (boxOf t k f).2) → (b' = true ↔ InAll t k row (f + 1)) := by
          intro b' hb'
          rw [hb', hbi]
          constructor
          · rintro ⟨h1, h2⟩ f' w' hf' hw'
            by_cases e : f' = f
            · subst e; rw [hv] at hw'; cases hw'; exact h2
            · exact h1 f' w' (by omega) hw'
          · intro h1
            exact ⟨fun f' w' hf' hw' => h1 f' w' (by omega) hw', h1 f v (by omega) hv⟩
        generalize boxOf t k f = bx at *
        obtain ⟨lo, hi'⟩ := bx
        simp only at hb1 hb2 hstep
        cases b with
        | true =>
          by_cases c1 : lo ≤ v
          · by_cases c2 : v ≤ hi'
            · simp [-getElem?_pos, k_laws_FnRoute_b0, v3, v4, v5, v6, v7, v8, v9, hS0, hS1, hS2, hS3, h, hfl, hy', hv', hb1, hb2, hwf2, c1, c2]
              exact Rnd_n (n' - 1) (by omega) ⟨f + 1, true, by omega, hstep true (by simp [c1, c2]), by simp [v3], by simp [v4], by simp [v5], by simp [v6], by simp [v7], by simp, by simp, by simp [hS0], by simp [hS1], by simp [hS2], by simp [hS3]⟩
            · simp [-getElem?_pos, k_laws_FnRoute_b0, v3, v4, v5, v6, v7, v8, v9, hS0, hS1, hS2, hS3, h, hfl, hy', hv', hb1, hb2, hwf2, c1, c2]
              exact Rnd_n (n' - 1) (by omega) ⟨f + 1, false, by omega, hstep false (by simp [c2]), by simp [v3], by simp [v4], by simp [v5], by simp [v6], by simp [v7], by simp, by simp, by simp [hS0], by simp [hS1], by simp [hS2], by simp [hS3]⟩
          · simp [-getElem?_pos, k_laws_FnRoute_b0, v3, v4, v5, v6, v7, v8, v9, hS0, hS1, hS2, hS3, h, hfl, hy', hv', hb1, hb2, hwf2, c1]
            exact Rnd_n (n' - 1) (by omega) ⟨f + 1, false, by omega, hstep false (by simp [c1]), by simp [v3], by simp [v4], by simp [v5], by simp [v6], by simp [v7], by simp, by simp, by simp [hS0], by simp [hS1], by simp [hS2], by simp [hS3]⟩
        | false =>
          simp [-getElem?_pos, k_laws_FnRoute_b0, v3, v4, v5, v6, v7, v8, v9, hS0, hS1, hS2, hS3, h, hfl, hy', hv', hb1, hb2, hwf2]
          exact Rnd_n (n' - 1) (by omega) ⟨f + 1, false, by omega, hstep false (by simp), by simp [v3], by simp [v4], by simp [v5], by simp [v6], by simp [v7], by simp [v8], by simp, by simp [hS0], by simp [hS1], by simp [hS2], by simp [hS3]⟩
      · have e1 : f = row.length := by omega
        subst e1
        have hk : b = decide ((k : Int) = kr) := by
          rw [Bool.eq_iff_iff, hbi, hiff]
          simp [eq_comm]
        by_cases ck : k = kr
        · have hbt : b = true := by rw [hk]; simp [ck]
          subst hbt
          have ck2 : (k : Int) = kr := by omega
          rw [ck2] at hy'
          clear hiff hbi hk hB1 hB2
          simp [-getElem?_pos, k_laws_FnRoute_b0, v3, v4, v5, v6, v7, v8, v9, hS0, hS1, hS2, hS3, h, hy', hws]
          exact Rnd_n (n - 1) (by omega) ⟨i + 1, by omega, by simp [v3], by simp [v4], by simp [v5], by simp [v6], by simp, by simp [hS0], by simp [hS1], by simp [hS2], by simp [hS3]⟩
        · have hbt : b = false := by rw [hk]; simp; omega
          subst hbt
          have ck' : ¬ (k : Int) = kr := by omega
          simp [-getElem?_pos, k_laws_FnRoute_b0, v3, v4, v5, v6, v7, v8, v9, hS0, hS1, hS2, hS3, h, hy', hws, ck']
          exact Rnd_n (n - 1) (by omega) ⟨i + 1, by omega, by simp [v3], by simp [v4], by simp [v5], by simp [v6], by simp, by simp [hS0], by simp [hS1], by simp [hS2], by simp [hS3]⟩
    · simp [-getElem?_pos, k_laws_FnRoute_b1, v3, v4, v5, v6, v7, hS0, hS1, hS2, hS3, h, h4, h6, hzr', hkl]

theorem shp_byteL (cs : List PV) (h : ShpL [.int .u8] cs) : ∃ n : Int, [PV.v (.int .u8 n)] = cs ∧ True := by
  simp only [ShpL, Shp] at h
  obtain ⟨_, _, rfl, ⟨a, rfl, h1⟩, rfl⟩ := h
  exact ⟨a, rfl, trivial⟩

theorem shp_bytes {c : PV} (h : ShpA false [.sl [.int .u8]] c) : ∃ B : List Int, c = .sl 1 (byts B) ∧ B.length ≤ 9223372036854775807 := by
  simp only [ShpA, Bool.false_eq_true, if_false, ShpL, Shp] at h
  obtain ⟨c', r, e, ⟨es, he, h1, h2⟩, hr⟩ := h
  simp only [List.cons.injEq] at e
  obtain ⟨l, hl, hp⟩ := rows_of (f := fun n : Int => [PV.v (.int .u8 n)]) (tys := [.int .u8]) shp_byteL h2
  subst hl
  simp [maxLen] at h1
  exact ⟨l, e.1.trans he, by omega⟩

end Go.Pe
