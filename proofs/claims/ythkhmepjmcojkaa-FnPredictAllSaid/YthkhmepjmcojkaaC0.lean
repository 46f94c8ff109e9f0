/- What each function answers by the evaluator, and the law; for each answer its own conditions stand ahead of it. -/
import Derived.Test.YthkhmepjmcojkaaK0
import Derived.Test.YthkhmepjmcojkaaEvB2
import Derived.IntWalk
set_option linter.all false
namespace Go.Pe
open Go
theorem w64 {x : Int} (h1 : -9223372036854775808 ≤ x) (h2 : x ≤ 9223372036854775807) : IntKind.i64.wrap x = x := IntWalk.i64_in x ⟨h1, h2⟩

@[simp] theorem w64s {x : Int} (h1 : -9223372036854775808 ≤ x) (h2 : x ≤ 9223372036854775807) : IntKind.i64.wrap x = x := w64 h1 h2

structure Nd where
  f : Int
  c : Int
  l : Int
  r : Int
  v : Int
deriving DecidableEq

def nd (n : Nd) : List PV := [iv n.f, iv n.c, iv n.l, iv n.r, iv n.v]

@[simp] theorem R_impl_isLeaf (a b c d e : Int) : RUN T k_impl_isLeaf [.agg [iv a, iv b, iv c, iv d, iv e]] = some ([bv (decide (a = -1))], []) := by
  refine RUN_W T_impl_isLeaf rfl ?_
  simp [k_impl_isLeaf_ic, k_impl_isLeaf_rv]

@[simp] theorem R_impl_within (a b c : Int) : RUN T k_impl_within [iv a, iv b, iv c] = some ([bv (decide (b ≤ a) && decide (a ≤ c))], []) := by
  refine RUN_W T_impl_within rfl ?_
  simp [k_impl_within_ic, k_impl_within_rv]
  refine Br_i (fun h => ?_) (fun h => ?_) <;> simp [h]

@[simp] theorem R_spec_l17Inner (a b c d e : Int) : RUN T k_spec_l17Inner [.agg [iv a, iv b, iv c, iv d, iv e]] = some ([bv (!decide (a = -1))], []) := by
  refine RUN_W T_spec_l17Inner rfl ?_
  simp [k_spec_l17Inner_ic, k_spec_l17Inner_rv]

@[simp] theorem R_spec_l1In (a b c : Int) : RUN T k_spec_l1In [iv a, iv b, iv c] = some ([bv (decide (b ≤ a) && decide (a ≤ c))], []) := by
  refine RUN_W T_spec_l1In rfl ?_
  simp [k_spec_l1In_ic, k_spec_l1In_rv]
  refine Br_i (fun h => ?_) (fun h => ?_) <;> simp [h]

/-- The first place where something holds, -1 if there is none. -/
def fidx {α : Type} (p : α → Bool) (l : List α) : Int := match l.findIdx? p with
  | some i => (i : Int)
  | none => -1

theorem fidx_none {α : Type} {p : α → Bool} {l : List α} (h : ∀ (j : Nat) (x : α), j < l.length → l[j]? = some x → p x = false) : fidx p l = -1 := by
  unfold fidx
  have : l.findIdx? p = none := by
    rw [List.findIdx?_eq_none_iff]
    intro x hx
    obtain ⟨j, hj⟩ := List.getElem?_of_mem hx
    exact h j x (List.getElem?_eq_some_iff.mp hj).1 hj
  rw [this]

theorem fidx_some {α : Type} {p : α → Bool} {l : List α} {i : Nat} {x : α} (hi : l[i]? = some x) (hp : p x = true) (h : ∀ (j : Nat) (x : α), j < i → l[j]? = some x → p x = false) : fidx p l = i := by
  unfold fidx
  have : l.findIdx? p = some i := by
    rw [List.findIdx?_eq_some_iff_getElem]
    obtain ⟨h1, h2⟩ := List.getElem?_eq_some_iff.mp hi
    refine ⟨h1, by rw [h2]; exact hp, fun j hj => ?_⟩
    have := h j l[j] hj (List.getElem?_eq_getElem (by omega))
    simp [this]
  rw [this]

theorem no_snoc {α : Type} {p : α → Bool} {l : List α} {i : Nat} {x : α} (h : ∀ (j : Nat) (x : α), j < i → l[j]? = some x → p x = false) (hi : l[i]? = some x) (hp : p x = false) : ∀ (j : Nat) (x : α), j < i + 1 → l[j]? = some x → p x = false := by
  intro j y hj hy
  by_cases e : j = i
  · subst e; rw [hi] at hy; cases hy; exact hp
  · exact h j y (by omega) hy

/-- A node that has a node below it. -/
def above (k : Int) (n : Nd) : Bool := !decide (n.f = -1) && (decide (n.l = k) || decide (n.r = k))

def par (t : List Nd) (k : Int) : Int := fidx (above k) t

theorem wS {i n : Nat} (h : i < n) (hn : n ≤ 9223372036854775807) : IntKind.i64.wrap ((i : Int) + 1) = (i : Int) + 1 := w64 (by omega) (by omega)

theorem R_spec_l17Up (t : List Nd) (k : Int) (hl : t.length ≤ 9223372036854775807) : RUN T k_spec_l17Up [.agg [.sl 5 (t.map nd)], iv k] = some ([iv (par t k)], []) := by
  refine RUN_W T_spec_l17Up rfl ?_
  simp [k_spec_l17Up_ic, k_spec_l17Up_rv]
  refine W_loop (fun n st => ∃ i : Nat, i + n = t.length ∧ st.V 1 = iv k ∧ st.V 2 = .ptr 0 none 0 0 0 ∧ st.V 5 = iv i ∧ st.S 0 = some (.box [.sl 5 (t.map nd)]) ∧ ∀ (j : Nat) (x : Nd), j < i → t[j]? = some x → above k x = false) ?_ t.length _ ⟨0, by simp⟩
  rintro n st ⟨i, hi, h1, h2, h5, hS, hj⟩
  simp [k_spec_l17Up_b0, h1, h2, h5, hS]
  refine Br_i (fun h => ?_) (fun h => ?_)
  · simp at h
    obtain ⟨x, hx⟩ : ∃ x, t[i]? = some x := ⟨_, List.getElem?_eq_getElem h⟩
    have hw := wS h hl
    simp [h1, h2, h5, hS, hx, nd, hw]
    refine Br_i (fun b0 => ?_) (fun b0 => ?_) <;> (try simp at b0) <;> simp [-getElem?_pos, b0, h1, h2, h5, hS, hx, nd, hw]
    all_goals try (refine Br_i (fun b1 => ?_) (fun b1 => ?_) <;> (try simp at b1) <;> simp [-getElem?_pos, b0, b1, h1, h2, h5, hS, hx, nd, hw])
    all_goals try (refine Br_i (fun b2 => ?_) (fun b2 => ?_) <;> (try simp at b2) <;> simp [-getElem?_pos, b0, b1, b2, h1, h2, h5, hS, hx, nd, hw])
    all_goals first
      | exact (fidx_some hx (by simp [above, *]) hj).symm
      | exact Rnd_n (n - 1) (by omega) ⟨i + 1, by omega, by simp [h1], by simp [h2], by simp, by simp [hS], no_snoc hj hx (by simp [above, *])⟩
  · simp at h
    simp [h]
    exact (fidx_none fun j x hl hx => hj j x (by omega) hx).symm

theorem R_impl_parent_1 (a b c d e x : Int) : RUN T k_impl_parent_1 [.agg [iv a, iv b, iv c, iv d, iv e], .fptr [iv x] 0] = some ([bv (above x ⟨a, b, c, d, e⟩)], []) := by
  refine RUN_W T_impl_parent_1 rfl ?_
  simp [k_impl_parent_1_ic, k_impl_parent_1_rv]
  refine Br_i (fun b0 => ?_) (fun b0 => ?_) <;> (try simp at b0) <;> simp [-getElem?_pos, b0, ]
  all_goals try (refine Br_i (fun b1 => ?_) (fun b1 => ?_) <;> (try simp at b1) <;> simp [-getElem?_pos, b0, b1, ])
  all_goals try (refine Br_i (fun b2 => ?_) (fun b2 => ?_) <;> (try simp at b2) <;> simp [-getElem?_pos, b0, b1, b2, ])
  all_goals simp [above, *]

theorem R_slices_IndexFunc_Node {f : Nat} {c : PV} {p : Nd → Bool} (t : List Nd) (hl : t.length ≤ 9223372036854775807) (hm : modesOf T f = []) (hp : ∀ n : Nd, RUN T f [.agg (nd n), .fptr [c] 0] = some ([bv (p n)], [])) :
    RUN T k_slices_IndexFunc___impl_Node_impl_Node_ [.sl 5 (t.map nd), .fn f [.fptr [c] 0]] = some ([iv (fidx p t)], []) := by
  refine RUN_W T_slices_IndexFunc___impl_Node_impl_Node_ rfl ?_
  simp [k_slices_IndexFunc___impl_Node_impl_Node__ic, k_slices_IndexFunc___impl_Node_impl_Node__rv]
  refine W_loop (fun n st => ∃ i : Nat, i + n = t.length ∧ st.V 0 = .sl 5 (t.map nd) ∧ st.V 1 = .fn f [.fptr [c] 0] ∧ st.V 8 = iv i ∧ st.V 7 = iv t.length ∧ ∀ (j : Nat) (x : Nd), j < i → t[j]? = some x → p x = false) ?_ t.length _ ⟨0, by simp⟩
  rintro n st ⟨i, hi, h0, h1, h8, h7, hj⟩
  simp [k_slices_IndexFunc___impl_Node_impl_Node__b0, h0, h1, h8, h7]
  refine Br_i (fun h => ?_) (fun h => ?_)
  · simp at h
    obtain ⟨x, hx⟩ : ∃ x, t[i]? = some x := ⟨_, List.getElem?_eq_getElem h⟩
    have hw := wS h hl
    have hpx := hp x
    simp only [nd] at hpx
    simp [h0, h1, h8, h7, hx, nd, hw, hm, hpx]
    refine Br_i (fun b0 => ?_) (fun b0 => ?_) <;> (try simp at b0) <;> simp [-getElem?_pos, b0, h0, h1, h8, h7, hx, hw]
    all_goals first
      | exact (fidx_some hx b0 hj).symm
      | exact Rnd_n (n - 1) (by omega) ⟨i + 1, by omega, by simp [h0], by simp [h1], by simp, by simp [h7], no_snoc hj hx b0⟩
  · simp at h
    simp [h]
    exact (fidx_none fun j x hl hx => hj j x (by omega) hx).symm

theorem R_impl_parent (t : List Nd) (k : Int) (hl : t.length ≤ 9223372036854775807) : RUN T k_impl_parent [.agg [.sl 5 (t.map nd)], iv k] = some ([iv (par t k)], []) := by
  refine RUN_W T_impl_parent rfl ?_
  have h := R_slices_IndexFunc_Node (f := k_impl_parent_1) (c := iv k) (p := above k) t hl (by simp) (fun n => R_impl_parent_1 n.f n.c n.l n.r n.v k)
  simp [k_impl_parent_ic, k_impl_parent_rv, h, par]

/-- How many nodes are above a node, if that many at most. -/
def lev (t : List Nd) : Nat → Int → Int
  | 0, _ => -1
  | n + 1, k => if par t k < 0 then 31 - n else lev t n (par t k)

theorem R_spec_LevelOf (t : List Nd) (k : Int) (hl : t.length ≤ 9223372036854775807) : RUN T k_spec_LevelOf [.agg [.sl 5 (t.map nd)], iv k] = some ([iv (if 0 ≤ k ∧ k ≤ t.length - 1 then lev t 32 k else -1)], []) := by
  refine RUN_W T_spec_LevelOf rfl ?_
  have hw : IntKind.i64.wrap ((t.length : Int) - 1) = (t.length : Int) - 1 := w64 (by omega) (by omega)
  simp [k_spec_LevelOf_ic, k_spec_LevelOf_rv, hw]
  refine Br_i (fun h => ?_) (fun h => ?_)
  · simp at h
    simp [h]
    intro h1 h2
    omega
  · have h' : (0 ≤ k ∧ k ≤ t.length - 1) := by simpa using h
    rw [if_pos h']
    clear h
    obtain ⟨r, hr⟩ : ∃ r, r = lev t 32 k := ⟨_, rfl⟩
    rw [← hr]
    simp
    refine W_loop (fun n st => ∃ i : Nat, i + n = 32 ∧ ∃ k' : Int, lev t n k' = r ∧ st.V 1 = iv k' ∧ st.V 2 = .ptr 0 none 0 0 0 ∧ st.V 5 = iv i ∧ st.S 0 = some (.box [.sl 5 (t.map nd)])) ?_ 32 _ ⟨0, by simp [hr]⟩
    rintro n st ⟨i, hi, k', hk, h1, h2, h5, hS⟩
    simp [k_spec_LevelOf_b0, h1, h2, h5, hS]
    refine Br_i (fun h => ?_) (fun h => ?_)
    · simp at h
      have hw : IntKind.i64.wrap ((i : Int) + 1) = (i : Int) + 1 := w64 (by omega) (by omega)
      obtain ⟨m, rfl⟩ : ∃ m, n = m + 1 := ⟨n - 1, by omega⟩
      simp only [lev] at hk
      simp [-getElem?_pos, h1, h2, h5, hS, hw, R_spec_l17Up t k' hl]
      refine Br_i (fun b0 => ?_) (fun b0 => ?_) <;> (try simp at b0) <;> simp [-getElem?_pos, b0, h1, h2, h5, hS, hw]
      · rw [if_pos b0] at hk; omega
      · rw [if_neg (by omega)] at hk
        exact Rnd_n m (by omega) ⟨i + 1, by omega, _, hk, by simp, by simp [h2], by simp, by simp [hS]⟩
    · simp at h
      obtain rfl : n = 0 := by omega
      simp only [lev] at hk
      simp [← hk]

def ints (l : List Int) : List (List PV) := l.map fun n => [iv n]

@[simp] theorem ints_len (l : List Int) : (ints l).length = l.length := by simp [ints]

theorem ints_get {l : List Int} {i : Nat} {x : Int} (h : l[i]? = some x) : (ints l)[i]? = some [iv x] := by simp [ints, h]

@[simp] theorem ints_nil : ints [] = [] := rfl

theorem ints_set (l : List Int) (i : Nat) (x : Int) : (ints l).set i [iv x] = ints (l.set i x) := by simp [ints, List.map_set]

theorem ints_snoc (l : List Int) (x : Int) : ints l ++ [[iv x]] = ints (l ++ [x]) := by simp [ints]

theorem ints_allV (l : List Int) : allV (ints l) = true := by simp [allV, ints]

theorem R_slices_Reverse_int (l : List Int) (hl : l.length ≤ 9223372036854775807) : RUN T k_slices_Reverse___int_int_ [.own 1 (ints l)] = some ([], [.own 1 (ints l.reverse)]) := by
  refine RUN_W T_slices_Reverse___int_int_ rfl ?_
  have hw : IntKind.i64.wrap ((l.length : Int) - 1) = (l.length : Int) - 1 := w64 (by omega) (by omega)
  simp [k_slices_Reverse___int_int__ic, k_slices_Reverse___int_int__rv, hw]
  refine W_loop (fun n st => ∃ i : Nat, i + n = l.length ∧ ∃ m : List Int, m.length = l.length ∧ (∀ p, m[p]? = if p < i ∨ l.length - i ≤ p then l.reverse[p]? else l[p]?) ∧ 2 * i ≤ l.length + 1 ∧ st.V 0 = .ref 0 none 0 0 l.length ∧ st.V 2 = iv i ∧ st.V 3 = iv ((l.length : Int) - 1 - i) ∧ st.ep = 0 ∧ st.S 0 = some (.row 1 (ints m))) ?_ l.length _ ⟨0, by simp, l, rfl, fun p => ?_, by omega, by simp⟩
  · rintro n st ⟨i, hi, m, hm, hp, hb, h0, h2, h3, hep, hS⟩
    simp [k_slices_Reverse___int_int__b0, h0, h2, h3, hS]
    refine Br_i (fun h => ?_) (fun h => ?_)
    · simp at h
      obtain ⟨j, hj⟩ : ∃ j : Nat, j = l.length - 1 - i := ⟨_, rfl⟩
      have e3 : (l.length : Int) - 1 - i = j := by omega
      rw [e3] at h3
      obtain ⟨x, hx⟩ : ∃ x, m[i]? = some x := ⟨_, List.getElem?_eq_getElem (by omega)⟩
      obtain ⟨y, hy⟩ : ∃ y, m[j]? = some y := ⟨_, List.getElem?_eq_getElem (by omega)⟩
      have hw1 := wS (i := i) (n := l.length) (by omega) hl
      have hw2 : IntKind.i64.wrap ((j : Int) - 1) = (j : Int) - 1 := w64 (by omega) (by omega)
      have hij : i < l.length := by omega
      have hjl : j < l.length := by omega
      have g1 := ints_get hx
      have g2 := ints_get hy
      have g3 : (ints (m.set i y))[j]? = some [iv y] := ints_get (by rw [List.getElem?_set_ne (by omega)]; exact hy)
      simp [-getElem?_pos, h0, h2, h3, hS, hep, hw1, hw2, hm, g1, g2, g3, hij, hjl, ints_set]
      refine Rnd_n (n - 1) (by omega) ⟨i + 1, by omega, (m.set i y).set j x, by simp [hm], fun p => ?_, by omega, by simp [h0], by simp, by simp; omega, by simp, by simp⟩
      have hxl : l[i]? = some x := by have := hp i; rw [if_neg (by omega), hx] at this; exact this.symm
      have hyl : l[j]? = some y := by have := hp j; rw [if_neg (by omega), hy] at this; exact this.symm
      rw [List.getElem?_set, List.getElem?_set]
      by_cases e1 : j = p
      · subst e1
        rw [if_pos rfl, if_pos (by simp [hm]; omega), if_pos (by omega), List.getElem?_reverse (by omega), show l.length - 1 - j = i by omega, hxl]
      · rw [if_neg e1]
        by_cases e2 : i = p
        · subst e2
          rw [if_pos rfl, if_pos (by omega), if_pos (by omega), List.getElem?_reverse (by omega), ← hj, hyl]
        · rw [if_neg e2, hp p]
          by_cases c : p < i ∨ l.length - i ≤ p
          · rw [if_pos c, if_pos (by omega)]
          · rw [if_neg c, if_neg (by omega)]
    · simp at h
      have hmr : m = l.reverse := by
        apply List.ext_getElem?
        intro p
        rw [hp p]
        split
        · rfl
        · rename_i c
          obtain rfl : p = i := by omega
          rw [List.getElem?_reverse (by omega), show l.length - 1 - p = p by omega]
      subst hmr
      simp [hS]
  · simp
    intro h
    rw [List.getElem?_eq_none h, List.getElem?_eq_none (by simpa using h)]

/-- The nodes above a node, from it on, if they are fewer than a number. -/
def anc (t : List Nd) : Nat → Int → Option (List Int)
  | 0, _ => none
  | n + 1, k => if par t k < 0 then some [] else (anc t n (par t k)).map (par t k :: ·)

theorem anc_s (t : List Nd) (n : Nat) (k : Int) : anc t (n + 1) k = if par t k < 0 then some [] else (anc t n (par t k)).map (par t k :: ·) := rfl

def way (t : List Nd) (k : Int) : List Int := if 0 ≤ k ∧ k ≤ t.length - 1 then match anc t 32 k with
    | some l => (k :: l).reverse
    | none => []
  else []

theorem room8 {n : Nat} (h : n ≤ 17592186044416) : roomFor 8 n = true := by simp [roomFor]; omega

theorem R_impl_wayTo (t : List Nd) (k : Int) (hl : t.length ≤ 9223372036854775807) : RUN T k_impl_wayTo [.agg [.sl 5 (t.map nd)], iv k] = some ([.own 1 (ints (way t k))], []) := by
  refine RUN_W T_impl_wayTo rfl ?_
  have hw : IntKind.i64.wrap ((t.length : Int) - 1) = (t.length : Int) - 1 := w64 (by omega) (by omega)
  have hp := fun k => R_impl_parent t k hl
  simp [k_impl_wayTo_ic, k_impl_wayTo_rv, hw]
  refine Br_i (fun h => ?_) (fun h => ?_)
  · simp at h
    simp [h]
    unfold way
    rw [if_neg (by omega)]; simp
  · have h' : (0 ≤ k ∧ k ≤ t.length - 1) := by simpa using h
    clear h
    unfold way
    rw [if_pos h']
    obtain ⟨r, hr⟩ : ∃ r, r = anc t 32 k := ⟨_, rfl⟩
    rw [← hr]
    simp [hp]
    refine W_loop (fun n st => ∃ i : Nat, i + n = 32 ∧ 1 ≤ n ∧ ∃ (m : List Int) (o e : Nat) (c : Int), m.length = i + 1 ∧ (anc t n c).map (m ++ ·) = r.map (k :: ·) ∧ st.V 2 = .ptr 0 none 0 0 0 ∧ st.V 5 = .ref o none e 0 m.length ∧ st.V 6 = iv (par t c) ∧ 0 < o ∧ o < st.nx ∧ st.S o = some (.row 1 (ints m)) ∧ st.S 0 = some (.box [.sl 5 (t.map nd)])) ?_ 32 _ ⟨0, by simp, by omega, [k], 1, 0, k, by simp [hr, ints]⟩
    rintro n st ⟨i, hi, h1n, m, o, e, c, hm, hc, h2, h5, h6, ho, hox, hSo, hS⟩
    simp [k_impl_wayTo_b0, h2, h5, h6, hS]
    refine Br_i (fun h => ?_) (fun h => ?_)
    · simp at h
      obtain ⟨q, rfl⟩ : ∃ q, n = q + 1 := ⟨n - 1, by omega⟩
      rw [anc_s, if_neg (by omega)] at hc
      simp [h2, h5, h6, hS, hSo]
      refine Br_i (fun h3 => ?_) (fun h3 => ?_)
      · simp at h3
        obtain rfl : q = 0 := by omega
        simp [anc] at hc
        cases r with
        | none => simp
        | some l => simp at hc
      · simp at h3
        have n1 : ¬ o = st.nx := by omega
        have n2 : ¬ 0 = o := by omega
        have n3 : ¬ 0 = st.nx := by omega
        have hr8 := room8 (n := m.length + 1) (by omega)
        simp [h2, h5, h6, hS, hSo, n1, n2, n3, hr8, hp, ints_snoc]
        refine Rnd_n q (by omega) ⟨i + 1, by omega, by omega, m ++ [par t c], st.nx + 1, st.ep, par t c, by simp [hm], ?_, by simp [h2], by simp, by simp, by omega, by simp, by simp, ?_⟩
        · rw [← hc]; cases anc t q (par t c) <;> simp
        · simp [n2, n3, hS]
    · simp at h
      obtain ⟨q, rfl⟩ : ∃ q, n = q + 1 := ⟨n - 1, by omega⟩
      rw [anc_s, if_pos h] at hc
      simp at hc
      obtain ⟨l, rfl, hl2⟩ : ∃ l, r = some l ∧ m = k :: l := by
        cases r with
        | none => simp at hc
        | some l => simp at hc; exact ⟨l, rfl, hc⟩
      subst hl2
      have hR := R_slices_Reverse_int (k :: l) (by omega)
      simp [h5, hSo, hR]

theorem anc_lev (t : List Nd) : ∀ (n : Nat) (k : Int), n ≤ 32 → (match anc t n k with | some l => (32 - n : Int) + l.length | none => -1) = lev t n k
  | 0, k, _ => by simp [anc, lev]
  | n + 1, k, h => by
    have ih := anc_lev t n (par t k) (by omega)
    rw [anc_s]
    simp only [lev]
    by_cases c : par t k < 0
    · rw [if_pos c, if_pos c]; simp; omega
    · rw [if_neg c, if_neg c, ← ih]
      cases anc t n (par t k) with
      | none => simp
      | some l =>
        show (32 - ((n + 1 : Nat) : Int)) + ((par t k :: l).length : Nat) = (32 - (n : Int)) + (l.length : Nat)
        simp only [List.length_cons]; omega

theorem way_len (t : List Nd) (k : Int) : ((way t k).length : Int) - 1 = if 0 ≤ k ∧ k ≤ t.length - 1 then lev t 32 k else -1 := by
  unfold way
  split
  · rw [← anc_lev t 32 k (Nat.le_refl _)]
    cases anc t 32 k <;> simp
  · simp

theorem anc_le (t : List Nd) : ∀ (n : Nat) (k : Int) (l : List Int), anc t n k = some l → l.length < n
  | 0, k, l, h => by simp [anc] at h
  | n + 1, k, l, h => by
    rw [anc_s] at h
    split at h
    · cases h; simp
    · simp at h
      obtain ⟨m, hm, rfl⟩ := h
      have := anc_le t n _ m hm
      simp; omega

theorem way_le (t : List Nd) (k : Int) : (way t k).length ≤ 32 := by
  unfold way
  split
  · cases h : anc t 32 k with
    | none => simp
    | some l => have := anc_le t 32 k l h; simp; omega
  · simp

theorem R_impl_LevelOf (t : List Nd) (k : Int) (hl : t.length ≤ 9223372036854775807) : RUN T k_impl_LevelOf [.agg [.sl 5 (t.map nd)], iv k] = some ([iv (if 0 ≤ k ∧ k ≤ t.length - 1 then lev t 32 k else -1)], []) := by
  refine RUN_W T_impl_LevelOf rfl ?_
  have hw : IntKind.i64.wrap (((way t k).length : Int) - 1) = ((way t k).length : Int) - 1 := by have := way_le t k; exact w64 (by omega) (by omega)
  rw [← way_len]
  simp [k_impl_LevelOf_ic, k_impl_LevelOf_rv, R_impl_wayTo t k hl, hw]

/-- The numbers from one on, so many. -/
def upto (k : Int) (n : Nat) : List Int := (List.range n).map fun (i : Nat) => k + (i : Int)

@[simp] theorem upto_len (k : Int) (n : Nat) : (upto k n).length = n := by simp [upto]

/-- The places of leaves, counted from a number on. -/
def lvs : List Nd → Int → List Int
  | [], _ => []
  | x :: xs, i => if x.f = -1 then i :: lvs xs (i + 1) else lvs xs (i + 1)

theorem lvs_len : ∀ (t : List Nd) (i : Int), (lvs t i).length ≤ t.length
  | [], _ => by simp [lvs]
  | x :: xs, i => by
    have := lvs_len xs (i + 1)
    simp only [lvs]
    split <;> simp <;> omega

theorem drop_cons {α : Type} {l : List α} {i : Nat} {x : α} (h : l[i]? = some x) : l.drop i = x :: l.drop (i + 1) := by
  obtain ⟨h1, h2⟩ := List.getElem?_eq_some_iff.mp h
  rw [List.drop_eq_getElem_cons h1, h2]

theorem R_spec_LeavesOf (t : List Nd) (hl : t.length ≤ 1048576) : RUN T k_spec_LeavesOf [.agg [.sl 5 (t.map nd)]] = some ([.own 1 (ints (lvs t 0))], []) := by
  refine RUN_W T_spec_LeavesOf rfl ?_
  simp [k_spec_LeavesOf_ic, k_spec_LeavesOf_rv]
  refine W_loop (fun n st => ∃ i : Nat, i + n = t.length ∧ ∃ (m : List Int) (o e : Nat), m ++ lvs (t.drop i) i = lvs t 0 ∧ st.V 1 = .ptr 0 none 0 0 0 ∧ st.V 3 = .ref o none e 0 m.length ∧ st.V 4 = iv i ∧ 0 < o ∧ o < st.nx ∧ st.S o = some (.row 1 (ints m)) ∧ st.S 0 = some (.box [.sl 5 (t.map nd)])) ?_ t.length _ ⟨0, by simp, [], 1, 0, by simp⟩
  rintro n st ⟨i, hi, m, o, e, hm, h1, h3, h4, ho, hox, hSo, hS⟩
  simp [k_spec_LeavesOf_b0, h1, h3, h4, hS]
  refine Br_i (fun h => ?_) (fun h => ?_)
  · simp at h
    obtain ⟨x, hx⟩ : ∃ x, t[i]? = some x := ⟨_, List.getElem?_eq_getElem h⟩
    have hw := wS h (by omega : t.length ≤ 9223372036854775807)
    have hr : roomFor 8 (m.length + 1) = true := room8 (by
      have h5 := congrArg List.length hm
      have h6 := lvs_len t 0
      simp at h5; omega)
    have n1 : ¬ o = st.nx := by omega
    have n2 : ¬ 0 = o := by omega
    have n3 : ¬ 0 = st.nx := by omega
    simp [-getElem?_pos, h1, h3, h4, hS, hSo, n1, n2, n3, hx, nd, hw, hr, ints_snoc]
    refine Br_i (fun b0 => ?_) (fun b0 => ?_) <;> (try simp at b0) <;> simp [-getElem?_pos, b0, h1, h3, h4, hS, hSo, n1, n2, n3, hx, hw, hr, ints_snoc]
    · refine Rnd_n (n - 1) (by omega) ⟨i + 1, by omega, m ++ [(i : Int)], st.nx + 1, st.ep, ?_, by simp [h1], by simp, by simp, by omega, by simp, by simp, by simp [n2, n3, hS]⟩
      rw [← hm, drop_cons hx, lvs, if_pos b0]; simp
    · refine Rnd_n (n - 1) (by omega) ⟨i + 1, by omega, m, o, e, ?_, by simp [h1], by simp [h3], by simp, by omega, by simp [hox], by simp [hSo], by simp [hS]⟩
      rw [← hm, drop_cons hx, lvs, if_neg b0]; simp
  · simp at h
    have e : m = lvs t 0 := by rw [← hm, List.drop_eq_nil_of_le h]; simp [lvs]
    simp [h3, hSo, e]

@[simp] theorem R_spec_l1Max (a b : Int) : RUN T k_spec_l1Max [iv a, iv b] = some ([iv (max a b)], []) := by
  refine RUN_W T_spec_l1Max rfl ?_
  simp [k_spec_l1Max_ic, k_spec_l1Max_rv]
  refine Br_i (fun b0 => ?_) (fun b0 => ?_) <;> (try simp at b0) <;> simp [-getElem?_pos, b0, ]
  all_goals omega

def levOf (t : List Nd) (k : Int) : Int := if 0 ≤ k ∧ k ≤ t.length - 1 then lev t 32 k else -1

theorem R_spec_LevelOf' (t : List Nd) (k : Int) (hl : t.length ≤ 9223372036854775807) : RUN T k_spec_LevelOf [.agg [.sl 5 (t.map nd)], iv k] = some ([iv (levOf t k)], []) := R_spec_LevelOf t k hl

theorem R_impl_LevelOf' (t : List Nd) (k : Int) (hl : t.length ≤ 9223372036854775807) : RUN T k_impl_LevelOf [.agg [.sl 5 (t.map nd)], iv k] = some ([iv (levOf t k)], []) := R_impl_LevelOf t k hl

/-- The greatest level of the first nodes. -/
def dpt (t : List Nd) : Nat → Int
  | 0 => -1
  | i + 1 => max (dpt t i) (levOf t i)

theorem R_spec_DepthOf (t : List Nd) (hl : t.length ≤ 9223372036854775807) : RUN T k_spec_DepthOf [.agg [.sl 5 (t.map nd)]] = some ([iv (dpt t t.length)], []) := by
  refine RUN_W T_spec_DepthOf rfl ?_
  simp [k_spec_DepthOf_ic, k_spec_DepthOf_rv]
  refine W_loop (fun n st => ∃ i : Nat, i + n = t.length ∧ st.V 1 = .ptr 0 none 0 0 0 ∧ st.V 3 = iv (dpt t i) ∧ st.V 4 = iv i ∧ st.S 0 = some (.box [.sl 5 (t.map nd)])) ?_ t.length _ ⟨0, by simp [dpt]⟩
  rintro n st ⟨i, hi, h1, h3, h4, hS⟩
  simp [k_spec_DepthOf_b0, h1, h3, h4, hS]
  refine Br_i (fun h => ?_) (fun h => ?_)
  · simp at h
    have hw := wS h hl
    simp [h1, h3, h4, hS, hw, R_spec_LevelOf' t i hl]
    exact Rnd_n (n - 1) (by omega) ⟨i + 1, by omega, by simp [h1], by simp [dpt], by simp, by simp [hS]⟩
  · simp at h
    obtain rfl : i = t.length := by omega
    simp [h3]

/-- The nodes that a row goes through. -/
def rt (t : List Nd) (row : List Int) : Nat → Int → Option (List Int)
  | 0, _ => none
  | n + 1, a => match (if 0 ≤ a then t[a.toNat]? else none) with
    | none => none
    | some x => if x.f = -1 then some [a] else match (if 0 ≤ x.f then row[x.f.toNat]? else none) with
      | none => none
      | some y => (rt t row n (if y ≤ x.c then x.l else x.r)).map (a :: ·)

theorem rt_out {t : List Nd} {row : List Int} {n : Nat} {a : Int} (h : a < 0 ∨ (t.length : Int) - 1 < a) : rt t row n a = none := by
  cases n with
  | zero => rfl
  | succ n =>
    rw [rt]
    have : (if 0 ≤ a then t[a.toNat]? else none) = none := by
      split
      · exact List.getElem?_eq_none (by omega)
      · rfl
    rw [this]

theorem rt_leaf {t : List Nd} {row : List Int} {n a : Nat} {x : Nd} (hx : t[a]? = some x) (h : x.f = -1) : rt t row (n + 1) a = some [(a : Int)] := by
  rw [rt]; simp [hx, h]

theorem rt_no {t : List Nd} {row : List Int} {n a : Nat} {x : Nd} (hx : t[a]? = some x) (h : x.f ≠ -1) (h2 : x.f < 0 ∨ (row.length : Int) - 1 < x.f) : rt t row (n + 1) a = none := by
  rw [rt]
  have : (if 0 ≤ x.f then row[x.f.toNat]? else none) = none := by
    split
    · exact List.getElem?_eq_none (by omega)
    · rfl
  simp [hx, h, this]

theorem rt_on {t : List Nd} {row : List Int} {n a f : Nat} {x : Nd} {y : Int} (hx : t[a]? = some x) (h : x.f = f) (hy : row[f]? = some y) : rt t row (n + 1) a = (rt t row n (if y ≤ x.c then x.l else x.r)).map ((a : Int) :: ·) := by
  rw [rt]
  have : x.f ≠ -1 := by omega
  simp [hx, this, h, hy]

def way2 (t : List Nd) (row : List Int) : List Int := (rt t row (t.length + 1) 0).getD []

theorem R_spec_l18Way (t : List Nd) (row : List Int) (hl : t.length ≤ 1048576) (hr : row.length ≤ 1048576) : RUN T k_spec_l18Way [.agg [.sl 5 (t.map nd)], .sl 1 (ints row)] = some ([.own 1 (ints (way2 t row))], []) := by
  refine RUN_W T_spec_l18Way rfl ?_
  simp [k_spec_l18Way_ic, k_spec_l18Way_rv]
  obtain ⟨r, hrr⟩ : ∃ r, r = rt t row (t.length + 1) 0 := ⟨_, rfl⟩
  unfold way2
  rw [← hrr]
  refine W_loop (fun n st => ∃ i : Nat, i + n = t.length + 1 ∧ ∃ (a : Int) (m : List Int) (o e : Nat), m.length = i ∧ (rt t row n a).map (m ++ ·) = r ∧ st.V 1 = .sl 1 (ints row) ∧ st.V 2 = .ptr 0 none 0 0 0 ∧ st.V 5 = .ref o none e 0 m.length ∧ st.V 6 = iv a ∧ st.V 7 = iv i ∧ 0 < o ∧ o < st.nx ∧ st.S o = some (.row 1 (ints m)) ∧ st.S 0 = some (.box [.sl 5 (t.map nd)])) ?_ (t.length + 1) _ ⟨0, by simp, 0, [], 1, 0, by simp [hrr]⟩
  rintro n st ⟨i, hi, a, m, o, e, hmi, hm, h1, h2, h5, h6, h7, ho, hox, hSo, hS⟩
  simp [k_spec_l18Way_b0, h1, h2, h5, h6, h7, hS]
  refine Br_i (fun h => ?_) (fun h => ?_)
  · simp at h
    obtain ⟨q, rfl⟩ : ∃ q, n = q + 1 := ⟨n - 1, by omega⟩
    have hw := w64 (x := (t.length : Int) - 1) (by omega) (by omega)
    have hwi := w64 (x := (i : Int) + 1) (by omega) (by omega)
    have hwr := w64 (x := (row.length : Int) - 1) (by omega) (by omega)
    simp [h1, h2, h5, h6, h7, hS, hw]
    refine Br_i (fun h3 => ?_) (fun h3 => ?_)
    · simp at h3
      rw [rt_out h3] at hm
      simp at hm
      simp [← hm]
    · have h3' : 0 ≤ a ∧ a ≤ (t.length : Int) - 1 := by simpa using h3
      obtain ⟨a, rfl⟩ : ∃ a' : Nat, a = a' := ⟨a.toNat, by omega⟩
      obtain ⟨x, hx⟩ : ∃ x, t[a]? = some x := ⟨_, List.getElem?_eq_getElem (by omega)⟩
      have z1 := fr hox
      have z2 := fr ho
      have z3 := fr (by omega : 0 < st.nx)
      have hr8 := room8 (n := m.length + 1) (by omega)
      simp [-getElem?_pos, h1, h2, h5, h6, h7, hS, hSo, z1, z2, z3, hx, nd, hr8, ints_snoc, hwr]
      refine Br_i (fun h4 => ?_) (fun h4 => ?_)
      · simp at h4
        rw [rt_leaf hx h4] at hm
        simp at hm
        simp [← hm]
      · simp at h4
        simp [-getElem?_pos, h1, h2, h5, h6, h7, hS, hSo, z1, z2, z3, hx, hr8, ints_snoc, hwr]
        refine Br_i (fun h8 => ?_) (fun h8 => ?_)
        · simp at h8
          rw [rt_no hx h4 h8] at hm
          simp at hm
          simp [← hm]
        · have h8' : 0 ≤ x.f ∧ x.f ≤ (row.length : Int) - 1 := by simpa using h8
          obtain ⟨f, hf⟩ : ∃ f : Nat, x.f = f := ⟨x.f.toNat, by omega⟩
          obtain ⟨y, hy⟩ : ∃ y, row[f]? = some y := ⟨_, List.getElem?_eq_getElem (by omega)⟩
          have hfl : f < row.length := by omega
          rw [rt_on hx hf hy] at hm
          have hy' := ints_get hy
          simp [-getElem?_pos, h1, h2, h5, h6, h7, hS, hSo, z1, z2, z3, hr8, ints_snoc, hwr, hf, hy', hfl, hwi]
          refine Br_i (fun b0 => ?_) (fun b0 => ?_) <;> (try simp at b0) <;> simp [-getElem?_pos, b0, h1, h2, h5, h6, h7, hS, hSo, z1, z2, z3, hf, hwi]
          all_goals
            refine Rnd_n q (by omega) ⟨i + 1, by omega, _, m ++ [(a : Int)], st.nx + 2, st.ep, by simp [hmi], ?_, by simp [h1], by simp [h2], by simp, by simp; rfl, by simp, by omega, by simp, by simp, by simp [z2, z3, hS]⟩
            rw [← hm]
            first | rw [if_pos b0] | rw [if_neg (by omega)]
            simp [Function.comp_def]
  · simp at h
    obtain rfl : n = 0 := by omega
    simp [rt] at hm
    simp [← hm]

theorem R_impl_route (t : List Nd) (row : List Int) (hl : t.length ≤ 1048576) (hr : row.length ≤ 1048576) : RUN T k_impl_route [.agg [.sl 5 (t.map nd)], .sl 1 (ints row)] = some ([.own 1 (ints (way2 t row))], []) := by
  refine RUN_W T_impl_route rfl ?_
  have hw1 := w64 (x := (t.length : Int) + 1) (by omega) (by omega)
  simp [k_impl_route_ic, k_impl_route_rv, hw1]
  obtain ⟨r, hrr⟩ : ∃ r, r = rt t row (t.length + 1) 0 := ⟨_, rfl⟩
  unfold way2
  rw [← hrr]
  refine W_loop (fun n st => ∃ i : Nat, i + n = t.length + 1 ∧ ∃ (a : Int) (m : List Int) (o e : Nat), m.length = i ∧ (rt t row n a).map (m ++ ·) = r ∧ st.V 1 = .sl 1 (ints row) ∧ st.V 2 = .ptr 0 none 0 0 0 ∧ st.V 5 = .ref o none e 0 m.length ∧ st.V 6 = iv a ∧ st.V 13 = iv i ∧ st.V 12 = iv ((t.length : Int) + 1) ∧ 0 < o ∧ o < st.nx ∧ st.S o = some (.row 1 (ints m)) ∧ st.S 0 = some (.box [.sl 5 (t.map nd)])) ?_ (t.length + 1) _ ⟨0, by simp, 0, [], 1, 0, by simp [hrr]⟩
  rintro n st ⟨i, hi, a, m, o, e, hmi, hm, h1, h2, h5, h6, h13, h12, ho, hox, hSo, hS⟩
  simp [k_impl_route_b0, h13, h12]
  refine Br_i (fun h => ?_) (fun h => ?_)
  · simp at h
    obtain ⟨q, rfl⟩ : ∃ q, n = q + 1 := ⟨n - 1, by omega⟩
    have hw := w64 (x := (t.length : Int) - 1) (by omega) (by omega)
    have hwi := w64 (x := (i : Int) + 1) (by omega) (by omega)
    have hwr := w64 (x := (row.length : Int) - 1) (by omega) (by omega)
    simp [h1, h2, h5, h6, hS, hw]
    refine Br_i (fun h3 => ?_) (fun h3 => ?_)
    · simp at h3
      rw [rt_out h3] at hm
      simp at hm
      simp [← hm]
    · have h3' : 0 ≤ a ∧ a ≤ (t.length : Int) - 1 := by simpa using h3
      obtain ⟨a, rfl⟩ : ∃ a' : Nat, a = a' := ⟨a.toNat, by omega⟩
      obtain ⟨x, hx⟩ : ∃ x, t[a]? = some x := ⟨_, List.getElem?_eq_getElem (by omega)⟩
      have z1 := fr hox
      have z2 := fr ho
      have z3 := fr (by omega : 0 < st.nx)
      have hr8 := room8 (n := m.length + 1) (by omega)
      simp [-getElem?_pos, h1, h2, h5, h6, hS, hSo, z1, z2, z3, hx, nd, hr8, ints_snoc, hwr]
      refine Br_i (fun h4 => ?_) (fun h4 => ?_)
      · simp at h4
        rw [rt_leaf hx h4] at hm
        simp at hm
        simp [← hm]
      · simp at h4
        simp [-getElem?_pos, h1, h2, h5, h6, hS, hSo, z1, z2, z3, hx, hr8, ints_snoc, hwr]
        refine Br_i (fun h8 => ?_) (fun h8 => ?_)
        · simp at h8
          rw [rt_no hx h4 h8] at hm
          simp at hm
          simp [← hm]
        · have h8' : 0 ≤ x.f ∧ x.f ≤ (row.length : Int) - 1 := by simpa using h8
          obtain ⟨f, hf⟩ : ∃ f : Nat, x.f = f := ⟨x.f.toNat, by omega⟩
          obtain ⟨y, hy⟩ : ∃ y, row[f]? = some y := ⟨_, List.getElem?_eq_getElem (by omega)⟩
          have hfl : f < row.length := by omega
          rw [rt_on hx hf hy] at hm
          have hy' := ints_get hy
          simp [-getElem?_pos, h1, h2, h5, h6, h13, h12, hS, hSo, z1, z2, z3, hr8, ints_snoc, hwr, hf, hy', hfl, hwi]
          refine Br_i (fun b0 => ?_) (fun b0 => ?_) <;> (try simp at b0) <;> simp [-getElem?_pos, b0, h1, h2, h5, h6, h13, h12, hS, hSo, z1, z2, z3, hf, hwi]
          all_goals
            refine Rnd_n q (by omega) ⟨i + 1, by omega, _, m ++ [(a : Int)], st.nx + 2, st.ep, by simp [hmi], ?_, by simp [h1], by simp [h2], by simp, by simp; rfl, by simp, by simp [h12], by omega, by simp, by simp, by simp [z2, z3, hS]⟩
            rw [← hm]
            first | rw [if_pos b0] | rw [if_neg (by omega)]
            simp [Function.comp_def]
  · simp at h
    obtain rfl : n = 0 := by omega
    simp [rt] at hm
    simp [← hm]

theorem rt_len (t : List Nd) (row : List Int) : ∀ (n : Nat) (a : Int) (l : List Int), rt t row n a = some l → l.length ≤ n ∧ l ≠ [] ∧ ∀ k ∈ l, 0 ≤ k ∧ k < t.length
  | 0, _, _, h => by cases h
  | n + 1, a, l, h => by
    rw [rt] at h
    have ha : ∀ x, (if 0 ≤ a then t[a.toNat]? else none) = some x → 0 ≤ a ∧ a < t.length := by
      intro x hx
      split at hx
      · have := (List.getElem?_eq_some_iff.mp hx).1; omega
      · cases hx
    split at h
    · cases h
    · rename_i x hx
      have hax := ha x hx
      split at h
      · cases h; simpa using hax
      · split at h
        · cases h
        · simp only [Option.map_eq_some_iff] at h
          obtain ⟨m, hm, rfl⟩ := h
          have := rt_len t row n _ m hm
          refine ⟨by simp; omega, by simp, fun k hk => ?_⟩
          rcases List.mem_cons.mp hk with e | e
          · subst e; exact hax
          · exact this.2.2 k e

theorem way2_len (t : List Nd) (row : List Int) : (way2 t row).length ≤ t.length + 1 ∧ ∀ k ∈ way2 t row, 0 ≤ k ∧ k < t.length := by
  unfold way2
  cases h : rt t row (t.length + 1) 0 with
  | none => simp
  | some l => have := rt_len t row _ _ l h; exact ⟨this.1, this.2.2⟩

def rto (t : List Nd) (row : List Int) : Int := ((way2 t row).getLast?).getD (-1)

theorem rto_range {t : List Nd} {row : List Int} : rto t row = -1 ∨ ∃ i : Nat, rto t row = i ∧ i < t.length := by
  unfold rto
  cases h : (way2 t row).getLast? with
  | none => exact .inl rfl
  | some k =>
    have := (way2_len t row).2 k (List.mem_of_getLast? h)
    exact .inr ⟨k.toNat, by simp; omega, by omega⟩

theorem R_spec_RouteTo (t : List Nd) (row : List Int) (hl : t.length ≤ 1048576) (hr : row.length ≤ 1048576) : RUN T k_spec_RouteTo [.agg [.sl 5 (t.map nd)], .sl 1 (ints row)] = some ([iv (rto t row)], []) := by
  refine RUN_W T_spec_RouteTo rfl ?_
  have hw := (way2_len t row).1
  simp [k_spec_RouteTo_ic, k_spec_RouteTo_rv, R_spec_l18Way t row hl hr]
  refine Br_i (fun h => ?_) (fun h => ?_)
  · simp at h
    simp [rto, h]
  · simp at h
    obtain ⟨l, x, hlx⟩ : ∃ l x, way2 t row = l ++ [x] := ⟨_, _, (List.dropLast_concat_getLast h).symm⟩
    have e1 : rto t row = x := by simp [rto, hlx]
    rw [e1]
    rw [hlx] at hw ⊢
    simp at hw
    have hwr : IntKind.i64.wrap (l.length : Int) = (l.length : Int) := w64 (by omega) (by omega)
    have hg := ints_get (l := l ++ [x]) (i := l.length) (x := x) (by simp)
    simp [-getElem?_pos, hwr, hg]

theorem R_impl_RouteTo (t : List Nd) (row : List Int) (hl : t.length ≤ 1048576) (hr : row.length ≤ 1048576) : RUN T k_impl_RouteTo [.agg [.sl 5 (t.map nd)], .sl 1 (ints row)] = some ([iv (rto t row)], []) := by
  refine RUN_W T_impl_RouteTo rfl ?_
  have hw := (way2_len t row).1
  simp [k_impl_RouteTo_ic, k_impl_RouteTo_rv, R_impl_route t row hl hr]
  refine Br_i (fun h => ?_) (fun h => ?_)
  · simp at h
    simp [rto, h]
  · simp at h
    obtain ⟨l, x, hlx⟩ : ∃ l x, way2 t row = l ++ [x] := ⟨_, _, (List.dropLast_concat_getLast h).symm⟩
    have e1 : rto t row = x := by simp [rto, hlx]
    rw [e1]
    rw [hlx] at hw ⊢
    simp at hw
    have hwr : IntKind.i64.wrap (l.length : Int) = (l.length : Int) := w64 (by omega) (by omega)
    have hg := ints_get (l := l ++ [x]) (i := l.length) (x := x) (by simp)
    simp [-getElem?_pos, hwr, hg]

def evt (t : List Nd) (row : List Int) : Int := if rto t row < 0 then 0 else ((t[(rto t row).toNat]?).map (·.v)).getD 0

theorem R_spec_EvalTree (t : List Nd) (row : List Int) (hl : t.length ≤ 1048576) (hr : row.length ≤ 1048576) : RUN T k_spec_EvalTree [.agg [.sl 5 (t.map nd)], .sl 1 (ints row)] = some ([iv (evt t row)], []) := by
  refine RUN_W T_spec_EvalTree rfl ?_
  simp [k_spec_EvalTree_ic, k_spec_EvalTree_rv, R_spec_RouteTo t row hl hr]
  unfold evt
  rcases rto_range (t := t) (row := row) with h | ⟨i, h, hi⟩
  · simp [h]
  · obtain ⟨x, hx⟩ : ∃ x, t[i]? = some x := ⟨_, List.getElem?_eq_getElem hi⟩
    rw [h]
    have h0 : ¬ ((i : Int) < 0) := by omega
    simp [-getElem?_pos, h0, hx, nd]

theorem R_impl_EvalTree (t : List Nd) (row : List Int) (hl : t.length ≤ 1048576) (hr : row.length ≤ 1048576) : RUN T k_impl_EvalTree [.agg [.sl 5 (t.map nd)], .sl 1 (ints row)] = some ([iv (evt t row)], []) := by
  refine RUN_W T_impl_EvalTree rfl ?_
  simp [k_impl_EvalTree_ic, k_impl_EvalTree_rv, R_impl_RouteTo t row hl hr]
  unfold evt
  rcases rto_range (t := t) (row := row) with h | ⟨i, h, hi⟩
  · simp [h]
  · obtain ⟨x, hx⟩ : ∃ x, t[i]? = some x := ⟨_, List.getElem?_eq_getElem hi⟩
    rw [h]
    have h0 : ¬ ((i : Int) < 0) := by omega
    simp [-getElem?_pos, h0, hx, nd]

def inI (n : Int) : Prop := -9223372036854775808 ≤ n ∧ n ≤ 9223372036854775807

/-- A node, those above it behind it. -/
def Chn (t : List Nd) : List Int → Int → Prop
  | [], c => c < 0
  | x :: xs, c => x = c ∧ 0 ≤ c ∧ Chn t xs (par t c)

theorem anc_chn (t : List Nd) : ∀ (n : Nat) (k : Int) (l : List Int), 0 ≤ k → anc t n k = some l → Chn t (k :: l) k
  | 0, k, l, _, h => by cases h
  | n + 1, k, l, h0, h => by
    rw [anc_s] at h
    split at h
    · rename_i hc
      cases h
      exact ⟨rfl, h0, hc⟩
    · simp at h
      obtain ⟨m, hm, rfl⟩ := h
      exact ⟨rfl, h0, anc_chn t n _ m (by omega) hm⟩

theorem par_range (t : List Nd) (k : Int) : par t k = -1 ∨ 0 ≤ par t k ∧ par t k < t.length := by
  unfold par fidx
  split
  · rename_i i hi
    have := (List.findIdx?_eq_some_iff_getElem.mp hi).1
    right; omega
  · exact .inl rfl

theorem chn_range (t : List Nd) : ∀ (l : List Int) (c : Int), Chn t l c → (0 ≤ c → c < t.length) → ∀ x ∈ l, 0 ≤ x ∧ x < t.length
  | [], _, _, _ => by simp
  | y :: ys, c, h, hc => by
    obtain ⟨rfl, h0, h2⟩ := h
    intro x hx
    rcases List.mem_cons.mp hx with e | e
    · subst e; exact ⟨h0, hc h0⟩
    · exact chn_range t ys _ h2 (fun h => by rcases par_range t y with h3 | h3 <;> omega) x e

theorem way_range (t : List Nd) (k : Int) : ∀ x ∈ way t k, 0 ≤ x ∧ x < t.length := by
  unfold way
  split
  · rename_i hk
    cases h : anc t 32 k with
    | none => simp
    | some l =>
      intro x hx
      exact chn_range t _ _ (anc_chn t 32 k l hk.1 h) (by omega) x (by simpa using List.mem_reverse.mp hx)
  · simp

theorem lev_anc (t : List Nd) (k : Int) : lev t 32 k = match anc t 32 k with | some l => (l.length : Int) | none => -1 := by
  have := anc_lev t 32 k (Nat.le_refl _)
  rw [← this]
  cases anc t 32 k <;> simp

/-- The range of a feature's values along a way. -/
def box (t : List Nd) (f : Int) : List Int → Int → Int → Int × Int
  | a :: b :: r, lo, hi => match t[a.toNat]? with
    | none => (lo, hi)
    | some x => if x.f = f then (if x.l = b then box t f (b :: r) lo (min hi x.c) else if x.c = 9223372036854775807 then box t f (b :: r) lo hi else box t f (b :: r) (max lo (x.c + 1)) hi) else box t f (b :: r) lo hi
  | _, lo, hi => (lo, hi)

theorem R_slices_IndexFunc_int {f : Nat} {p : Int → Bool} (l : List Int) (hl : l.length ≤ 9223372036854775807) (hm : modesOf T f = []) (hp : ∀ n ∈ l, RUN T f [iv n] = some ([bv (p n)], [])) :
    RUN T k_slices_IndexFunc___int_int_ [.sl 1 (ints l), .fn f []] = some ([iv (fidx p l)], []) := by
  refine RUN_W T_slices_IndexFunc___int_int_ rfl ?_
  simp [k_slices_IndexFunc___int_int__ic, k_slices_IndexFunc___int_int__rv]
  refine W_loop (fun n st => ∃ i : Nat, i + n = l.length ∧ st.V 0 = .sl 1 (ints l) ∧ st.V 1 = .fn f [] ∧ st.V 8 = iv i ∧ st.V 7 = iv l.length ∧ ∀ (j : Nat) (x : Int), j < i → l[j]? = some x → p x = false) ?_ l.length _ ⟨0, by simp⟩
  rintro n st ⟨i, hi, h0, h1, h8, h7, hj⟩
  simp [k_slices_IndexFunc___int_int__b0, h0, h1, h8, h7]
  refine Br_i (fun h => ?_) (fun h => ?_)
  · simp at h
    obtain ⟨x, hx⟩ : ∃ x, l[i]? = some x := ⟨_, List.getElem?_eq_getElem h⟩
    have hw := wS h hl
    have hx' := ints_get hx
    have hpx := hp x (List.mem_of_getElem? hx)
    simp [-getElem?_pos, h0, h1, h8, h7, hx', hw, hm, hpx, h]
    refine Br_i (fun b0 => ?_) (fun b0 => ?_) <;> (try simp at b0) <;> simp [-getElem?_pos, b0, h0, h1, h8, h7, hx', hw]
    all_goals first
      | exact (fidx_some hx b0 hj).symm
      | exact Rnd_n (n - 1) (by omega) ⟨i + 1, by omega, by simp [h0], by simp [h1], by simp, by simp [h7], no_snoc hj hx b0⟩
  · simp at h
    simp [h]
    exact (fidx_none fun j x hl hx => hj j x (by omega) hx).symm

theorem fidx_neg {α : Type} {p : α → Bool} {l : List α} : decide (0 ≤ fidx p l) = l.any p := by
  unfold fidx
  cases h : l.findIdx? p with
  | none =>
    rw [List.findIdx?_eq_none_iff] at h
    simp
    exact fun x hx => h x hx
  | some i =>
    obtain ⟨h1, h2, _⟩ := List.findIdx?_eq_some_iff_getElem.mp h
    simp
    exact ⟨_, List.getElem_mem h1, h2⟩

theorem R_slices_ContainsFunc_int {f : Nat} {p : Int → Bool} (l : List Int) (hl : l.length ≤ 9223372036854775807) (hm : modesOf T f = []) (hp : ∀ n ∈ l, RUN T f [iv n] = some ([bv (p n)], [])) :
    RUN T k_slices_ContainsFunc___int_int_ [.sl 1 (ints l), .fn f []] = some ([bv (l.any p)], []) := by
  refine RUN_W T_slices_ContainsFunc___int_int_ rfl ?_
  have e := R_slices_IndexFunc_int l hl hm hp
  simp [k_slices_ContainsFunc___int_int__ic, k_slices_ContainsFunc___int_int__rv, e, fidx_neg]

def within (n a b : Int) : Bool := decide (a ≤ n) && decide (n ≤ b)

@[simp] theorem R_impl_isSign (n : Int) : RUN T k_impl_isSign [iv n] = some ([bv (within n (-1) 1)], []) := by
  refine RUN_W T_impl_isSign rfl ?_
  simp [k_impl_isSign_ic, k_impl_isSign_rv, within]

theorem R_impl_within' (a b c : Int) : RUN T k_impl_within [iv a, iv b, iv c] = some ([bv (within a b c)], []) := R_impl_within a b c

theorem R_spec_l1In' (a b c : Int) : RUN T k_spec_l1In [iv a, iv b, iv c] = some ([bv (within a b c)], []) := R_spec_l1In a b c

theorem within_iff {n a b : Int} : within n a b = true ↔ a ≤ n ∧ n ≤ b := by simp [within]

def leafV (v : Int) : Bool := within v (-1099511627776) 1099511627776

@[simp] theorem R_spec_l14Leaf (v : Int) : RUN T k_spec_l14Leaf [iv v] = some ([bv (leafV v)], []) := by
  refine RUN_W T_spec_l14Leaf rfl ?_
  simp [k_spec_l14Leaf_ic, k_spec_l14Leaf_rv, leafV, within]

@[simp] theorem R_impl_isLeafValue (v : Int) : RUN T k_impl_isLeafValue [iv v] = some ([bv (leafV v)], []) := by
  refine RUN_W T_impl_isLeafValue rfl ?_
  simp [k_impl_isLeafValue_ic, k_impl_isLeafValue_rv, leafV, within]

theorem eqP_5 (a b c d e a' b' c' d' e' : Int) : eqP [.i .i64, .i .i64, .i .i64, .i .i64, .i .i64] (.agg [iv a, iv b, iv c, iv d, iv e]) (.agg [iv a', iv b', iv c', iv d', iv e']) = some (decide (a = a' ∧ b = b' ∧ c = c' ∧ d = d' ∧ e = e')) := by
  simp only [eqP, eqCells, eqV_i, Option.bind_some]
  by_cases h1 : a = a' <;> by_cases h2 : b = b' <;> by_cases h3 : c = c' <;> by_cases h4 : d = d' <;> by_cases h5 : e = e' <;> simp [h1, h2, h3, h4, h5]

def decV (n : Int) : Bool := within n (-2147483647) 2147483647

@[simp] theorem R_spec_l6Value (v : Int) : RUN T k_spec_l6Value [iv v] = some ([bv (decV v)], []) := by
  refine RUN_W T_spec_l6Value rfl ?_
  simp [k_spec_l6Value_ic, k_spec_l6Value_rv, decV, within]

@[simp] theorem R_impl_isDecimal (v : Int) : RUN T k_impl_isDecimal [iv v] = some ([bv (decV v)], []) := by
  refine RUN_W T_impl_isDecimal rfl ?_
  simp [k_impl_isDecimal_ic, k_impl_isDecimal_rv, decV, within]

/-- The nodes are listed level by level: the number of the next child, at the end. -/
def shp (F : Int) : List Nd → Int → Int → Option Int
  | [], _, n => some n
  | x :: xs, i, n =>
    if x.f = -1 then (if (x.c = 0 ∧ x.l = 0 ∧ x.r = 0) ∧ leafV x.v = true then shp F xs (i + 1) n else none)
    else if within x.f 0 (F - 1) = true ∧ decV x.c = true ∧ x.v = 0 ∧ x.l = n ∧ x.r = n + 1 ∧ i < n then shp F xs (i + 1) (n + 2) else none

def shapeB (t : List Nd) (F : Int) : Bool := match shp F t 0 1 with
  | some n => decide (n = t.length)
  | none => false

set_option maxHeartbeats 1000000 in
theorem R_spec_l17Shape (t : List Nd) (F : Int) (hl : t.length ≤ 1048576) (hF : 0 ≤ F ∧ F ≤ 4) : RUN T k_spec_l17Shape [.agg [.sl 5 (t.map nd)], iv F] = some ([bv (shapeB t F)], []) := by
  refine RUN_W T_spec_l17Shape rfl ?_
  simp [k_spec_l17Shape_ic, k_spec_l17Shape_rv]
  have hwF := w64 (x := F - 1) (by omega) (by omega)
  refine W_loop (fun n st => ∃ i : Nat, i + n = t.length ∧ ∃ k : Nat, k ≤ i ∧ shp F (t.drop i) i (1 + 2 * k) = shp F t 0 1 ∧ st.V 1 = iv F ∧ st.V 2 = .ptr 0 none 0 0 0 ∧ st.V 5 = iv (1 + 2 * k) ∧ st.V 6 = iv i ∧ 0 < st.nx ∧ st.S 0 = some (.box [.sl 5 (t.map nd)])) ?_ t.length _ ⟨0, by simp, 0, by simp⟩
  rintro n st ⟨i, hi, k, hk, hr, h1, h2, h5, h6, hnx, hS⟩
  simp [k_spec_l17Shape_b0, h2, h6, hS]
  have z := fr hnx
  refine Br_i (fun h => ?_) (fun h => ?_)
  · simp at h
    obtain ⟨x, hx⟩ : ∃ x, t[i]? = some x := ⟨_, List.getElem?_eq_getElem h⟩
    have hw := wS h (by omega : t.length ≤ 9223372036854775807)
    have hw1 := w64 (x := 1 + 2 * (k : Int) + 1) (by omega) (by omega)
    have hw2 := w64 (x := 1 + 2 * (k : Int) + 2) (by omega) (by omega)
    rw [drop_cons hx, shp] at hr
    simp [-getElem?_pos, h1, h2, h5, h6, hS, hx, nd, z]
    refine Br_i (fun h3 => ?_) (fun h3 => ?_)
    · simp at h3
      rw [if_pos h3] at hr
      by_cases hc : x.c = 0 ∧ x.l = 0 ∧ x.r = 0
      · have hc' := eq_true hc
        simp [-getElem?_pos, h1, h2, h5, h6, hS, z, h3, eqP_5, hc']
        cases hv : leafV x.v with
        | false =>
          rw [if_neg (by simp [hv])] at hr
          simp [shapeB, ← hr]
        | true =>
          rw [if_pos ⟨hc, hv⟩] at hr
          simp [-getElem?_pos, h1, h2, h5, h6, hS, z, hw]
          exact Rnd_n (n - 1) (by omega) ⟨i + 1, by omega, k, by omega, by simpa using hr, by simp [h1], by simp [h2], by simp [h5], by simp, by simp, by simp [z, hS]⟩
      · have hc' := eq_false hc
        rw [if_neg (fun h => hc h.1)] at hr
        simp [-getElem?_pos, h1, h2, h5, h6, hS, z, h3, eqP_5, hc']
        simp [shapeB, ← hr]
    · simp at h3
      rw [if_neg h3] at hr
      simp [-getElem?_pos, h1, h2, h5, h6, hS, z, h3, hwF, R_spec_l1In', -R_spec_l1In]
      by_cases hc : within x.f 0 (F - 1) = true ∧ decV x.c = true ∧ x.v = 0 ∧ x.l = 1 + 2 * (k : Int) ∧ x.r = 1 + 2 * (k : Int) + 1 ∧ (i : Int) < 1 + 2 * (k : Int)
      · rw [if_pos hc] at hr
        obtain ⟨c1, c2, c3, c4, c5, c6⟩ := hc
        have c7 : ¬ (1 + 2 * (k : Int) ≤ i) := by omega
        simp [-getElem?_pos, h1, h2, h5, h6, hS, z, h3, hwF, c1, c2, c3, c4, c5, c7, hw, hw1, hw2]
        exact Rnd_n (n - 1) (by omega) ⟨i + 1, by omega, k + 1, by omega, by rw [← hr]; congr 1, by simp [h1], by simp [h2], by simp; omega, by simp, by simp, by simp [z, hS]⟩
      · rw [if_neg hc] at hr
        have e0 : shapeB t F = false := by simp [shapeB, ← hr]
        rw [e0]
        refine Br_i (fun b0 => ?_) (fun b0 => ?_) <;> (try simp at b0) <;> simp [-getElem?_pos, b0, h1, h2, h5, h6, hS, z, h3, hwF, hw1]
        all_goals try (refine Br_i (fun b1 => ?_) (fun b1 => ?_) <;> (try simp at b1) <;> simp [-getElem?_pos, b0, b1, h1, h2, h5, h6, hS, z, h3, hwF, hw1])
        all_goals try (refine Br_i (fun b2 => ?_) (fun b2 => ?_) <;> (try simp at b2) <;> simp [-getElem?_pos, b0, b1, b2, h1, h2, h5, h6, hS, z, h3, hwF, hw1])
        all_goals try (refine Br_i (fun b3 => ?_) (fun b3 => ?_) <;> (try simp at b3) <;> simp [-getElem?_pos, b0, b1, b2, b3, h1, h2, h5, h6, hS, z, h3, hwF, hw1])
        all_goals try (refine Br_i (fun b4 => ?_) (fun b4 => ?_) <;> (try simp at b4) <;> simp [-getElem?_pos, b0, b1, b2, b3, b4, h1, h2, h5, h6, hS, z, h3, hwF, hw1])
        all_goals try (refine Br_i (fun b5 => ?_) (fun b5 => ?_) <;> (try simp at b5) <;> simp [-getElem?_pos, b0, b1, b2, b3, b4, b5, h1, h2, h5, h6, hS, z, h3, hwF, hw1])
        exact (hc ⟨b0, b1, b2, b3, b4, by omega⟩).elim
  · simp at h
    rw [List.drop_eq_nil_of_le h, shp] at hr
    unfold shapeB
    rw [← hr]
    simp [h5, hS, h2]

set_option maxHeartbeats 1000000 in
theorem R_impl_shapeOk (t : List Nd) (F : Int) (hl : t.length ≤ 1048576) (hF : 0 ≤ F ∧ F ≤ 4) : RUN T k_impl_shapeOk [.agg [.sl 5 (t.map nd)], iv F] = some ([bv (shapeB t F)], []) := by
  refine RUN_W T_impl_shapeOk rfl ?_
  simp [k_impl_shapeOk_ic, k_impl_shapeOk_rv]
  have hwF := w64 (x := F - 1) (by omega) (by omega)
  refine W_loop (fun n st => ∃ i : Nat, i + n = t.length ∧ ∃ k : Nat, k ≤ i ∧ shp F (t.drop i) i (1 + 2 * k) = shp F t 0 1 ∧ st.V 1 = iv F ∧ st.V 2 = .ptr 0 none 0 0 0 ∧ st.V 5 = iv (1 + 2 * k) ∧ st.V 11 = iv i ∧ st.V 10 = iv t.length ∧ st.V 9 = .sl 5 (t.map nd) ∧ 0 < st.nx ∧ st.S 0 = some (.box [.sl 5 (t.map nd)])) ?_ t.length _ ⟨0, by simp, 0, by simp⟩
  rintro n st ⟨i, hi, k, hk, hr, h1, h2, h5, h6, h10, h9, hnx, hS⟩
  simp [k_impl_shapeOk_b0, h6, h10]
  have z := fr hnx
  refine Br_i (fun h => ?_) (fun h => ?_)
  · simp at h
    obtain ⟨x, hx⟩ : ∃ x, t[i]? = some x := ⟨_, List.getElem?_eq_getElem h⟩
    have hw := wS h (by omega : t.length ≤ 9223372036854775807)
    have hw1 := w64 (x := 1 + 2 * (k : Int) + 1) (by omega) (by omega)
    have hw2 := w64 (x := 1 + 2 * (k : Int) + 2) (by omega) (by omega)
    rw [drop_cons hx, shp] at hr
    simp [-getElem?_pos, h1, h2, h5, h6, h9, h10, hS, hx, nd, z]
    refine Br_i (fun h3 => ?_) (fun h3 => ?_)
    · simp at h3
      rw [if_pos h3] at hr
      by_cases hc : x.c = 0 ∧ x.l = 0 ∧ x.r = 0
      · have hc' := eq_true hc
        simp [-getElem?_pos, h1, h2, h5, h6, h9, h10, hS, z, h3, eqP_5, hc']
        cases hv : leafV x.v with
        | false =>
          rw [if_neg (by simp [hv])] at hr
          simp [shapeB, ← hr]
        | true =>
          rw [if_pos ⟨hc, hv⟩] at hr
          simp [-getElem?_pos, h1, h2, h5, h6, h9, h10, hS, z, hw]
          exact Rnd_n (n - 1) (by omega) ⟨i + 1, by omega, k, by omega, by simpa using hr, by simp [h1], by simp [h2], by simp [h5], by simp, by simp [h10], by simp [h9], by simp, by simp [z, hS]⟩
      · have hc' := eq_false hc
        rw [if_neg (fun h => hc h.1)] at hr
        simp [-getElem?_pos, h1, h2, h5, h6, h9, h10, hS, z, h3, eqP_5, hc']
        simp [shapeB, ← hr]
    · simp at h3
      rw [if_neg h3] at hr
      simp [-getElem?_pos, h1, h2, h5, h6, h9, h10, hS, z, h3, hwF, R_impl_within', -R_impl_within]
      by_cases hc : within x.f 0 (F - 1) = true ∧ decV x.c = true ∧ x.v = 0 ∧ x.l = 1 + 2 * (k : Int) ∧ x.r = 1 + 2 * (k : Int) + 1 ∧ (i : Int) < 1 + 2 * (k : Int)
      · rw [if_pos hc] at hr
        obtain ⟨c1, c2, c3, c4, c5, c6⟩ := hc
        have c7 : ¬ (1 + 2 * (k : Int) ≤ i) := by omega
        simp [-getElem?_pos, h1, h2, h5, h6, h9, h10, hS, z, h3, hwF, c1, c2, c3, c4, c5, c7, hw, hw1, hw2]
        exact Rnd_n (n - 1) (by omega) ⟨i + 1, by omega, k + 1, by omega, by rw [← hr]; congr 1, by simp [h1], by simp [h2], by simp; omega, by simp, by simp [h10], by simp [h9], by simp, by simp [z, hS]⟩
      · rw [if_neg hc] at hr
        have e0 : shapeB t F = false := by simp [shapeB, ← hr]
        rw [e0]
        refine Br_i (fun b0 => ?_) (fun b0 => ?_) <;> (try simp at b0) <;> simp [-getElem?_pos, b0, h1, h2, h5, h6, h9, h10, hS, z, h3, hwF, hw1]
        all_goals try (refine Br_i (fun b1 => ?_) (fun b1 => ?_) <;> (try simp at b1) <;> simp [-getElem?_pos, b0, b1, h1, h2, h5, h6, h9, h10, hS, z, h3, hwF, hw1])
        all_goals try (refine Br_i (fun b2 => ?_) (fun b2 => ?_) <;> (try simp at b2) <;> simp [-getElem?_pos, b0, b1, b2, h1, h2, h5, h6, h9, h10, hS, z, h3, hwF, hw1])
        all_goals try (refine Br_i (fun b3 => ?_) (fun b3 => ?_) <;> (try simp at b3) <;> simp [-getElem?_pos, b0, b1, b2, b3, h1, h2, h5, h6, h9, h10, hS, z, h3, hwF, hw1])
        all_goals try (refine Br_i (fun b4 => ?_) (fun b4 => ?_) <;> (try simp at b4) <;> simp [-getElem?_pos, b0, b1, b2, b3, b4, h1, h2, h5, h6, h9, h10, hS, z, h3, hwF, hw1])
        all_goals try (refine Br_i (fun b5 => ?_) (fun b5 => ?_) <;> (try simp at b5) <;> simp [-getElem?_pos, b0, b1, b2, b3, b4, b5, h1, h2, h5, h6, h9, h10, hS, z, h3, hwF, hw1])
        exact (hc ⟨b0, b1, b2, b3, b4, by omega⟩).elim
  · simp at h
    rw [List.drop_eq_nil_of_le h, shp] at hr
    unfold shapeB
    rw [← hr]
    simp [h5, hS, h2]

structure InnerOk (F : Int) (x : Nd) (i n m : Int) : Prop where
  lo : n ≤ x.l
  lt : i < x.l
  r : x.r = x.l + 1
  hi : x.r < m
  f : 0 ≤ x.f ∧ x.f ≤ F - 1
  c : decV x.c = true
  v : x.v = 0

theorem shp_facts (F : Int) : ∀ (l : List Nd) (i n m : Int), shp F l i n = some m → n ≤ m ∧
    (∀ (j : Nat) (x : Nd), l[j]? = some x → x.f = -1 → x.c = 0 ∧ x.l = 0 ∧ x.r = 0 ∧ leafV x.v = true) ∧
    (∀ (j : Nat) (x : Nd), l[j]? = some x → x.f ≠ -1 → InnerOk F x (i + j) n m) ∧
    (∀ (j j' : Nat) (x y : Nd), j < j' → l[j]? = some x → l[j']? = some y → x.f ≠ -1 → y.f ≠ -1 → x.r < y.l) ∧
    (∀ k : Int, n ≤ k → k < m → ∃ (j : Nat) (x : Nd), l[j]? = some x ∧ x.f ≠ -1 ∧ (x.l = k ∨ x.r = k))
  | [], i, n, m, h => by
    simp only [shp, Option.some.injEq] at h
    subst h
    exact ⟨Int.le_refl _, by simp, by simp, by simp, fun k h1 h2 => by omega⟩
  | x :: xs, i, n, m, h => by
    rw [shp] at h
    split at h
    · rename_i hf
      split at h
      · rename_i hc
        obtain ⟨h1, h2, h3, h4, h5⟩ := shp_facts F xs (i + 1) n m h
        refine ⟨h1, fun j y hj hy => ?_, fun j y hj hy => ?_, fun j j' y z hjj hj hj' hy hz => ?_, fun k hk1 hk2 => ?_⟩
        · cases j with
          | zero => simp at hj; subst hj; exact ⟨hc.1.1, hc.1.2.1, hc.1.2.2, hc.2⟩
          | succ j => exact h2 j y (by simpa using hj) hy
        · cases j with
          | zero => simp at hj; subst hj; exact (hy hf).elim
          | succ j =>
            have := h3 j y (by simpa using hj) hy
            exact ⟨this.lo, by have := this.lt; push_cast; omega, this.r, this.hi, this.f, this.c, this.v⟩
        · cases j' with
          | zero => omega
          | succ j' =>
            cases j with
            | zero => simp at hj; subst hj; exact (hy hf).elim
            | succ j => exact h4 j j' y z (by omega) (by simpa using hj) (by simpa using hj') hy hz
        · obtain ⟨j, y, hj, hy⟩ := h5 k hk1 hk2
          exact ⟨j + 1, y, by simpa using hj, hy⟩
      · cases h
    · rename_i hf
      split at h
      · rename_i hc
        obtain ⟨c1, c2, c3, c4, c5, c6⟩ := hc
        have c1' := within_iff.mp c1
        obtain ⟨h1, h2, h3, h4, h5⟩ := shp_facts F xs (i + 1) (n + 2) m h
        refine ⟨by omega, fun j y hj hy => ?_, fun j y hj hy => ?_, fun j j' y z hjj hj hj' hy hz => ?_, fun k hk1 hk2 => ?_⟩
        · cases j with
          | zero => simp at hj; subst hj; exact (hf hy).elim
          | succ j => exact h2 j y (by simpa using hj) hy
        · cases j with
          | zero => simp at hj; subst hj; exact ⟨by omega, by simp; omega, by omega, by omega, c1', c2, c3⟩
          | succ j =>
            have := h3 j y (by simpa using hj) hy
            exact ⟨by have := this.lo; omega, by have := this.lt; push_cast; omega, this.r, this.hi, this.f, this.c, this.v⟩
        · cases j' with
          | zero => omega
          | succ j' =>
            cases j with
            | zero =>
              simp at hj; subst hj
              have := (h3 j' z (by simpa using hj') hz).lo
              omega
            | succ j => exact h4 j j' y z (by omega) (by simpa using hj) (by simpa using hj') hy hz
        · by_cases hkn : k < n + 2
          · exact ⟨0, x, rfl, hf, by omega⟩
          · obtain ⟨j, y, hj, hy⟩ := h5 k (by omega) hk2
            exact ⟨j + 1, y, by simpa using hj, hy⟩
      · cases h

/-- What a tree is whose shape is right. -/
structure Shaped (t : List Nd) (F : Int) : Prop where
  leaf : ∀ (j : Nat) (x : Nd), t[j]? = some x → x.f = -1 → x.c = 0 ∧ x.l = 0 ∧ x.r = 0 ∧ leafV x.v = true
  inner : ∀ (j : Nat) (x : Nd), t[j]? = some x → x.f ≠ -1 → InnerOk F x j 1 t.length
  ord : ∀ (j j' : Nat) (x y : Nd), j < j' → t[j]? = some x → t[j']? = some y → x.f ≠ -1 → y.f ≠ -1 → x.r < y.l
  cover : ∀ k : Int, 1 ≤ k → k < t.length → ∃ (j : Nat) (x : Nd), t[j]? = some x ∧ x.f ≠ -1 ∧ (x.l = k ∨ x.r = k)
  pos : 1 ≤ t.length

theorem shaped_of {t : List Nd} {F : Int} (h : shapeB t F = true) : Shaped t F := by
  unfold shapeB at h
  split at h
  · rename_i n hn
    simp at h
    subst h
    obtain ⟨h1, h2, h3, h4, h5⟩ := shp_facts F t 0 1 _ hn
    exact ⟨h2, fun j x hj hx => by simpa using h3 j x hj hx, h4, h5, by omega⟩
  · cases h

theorem above_iff {k : Int} {x : Nd} : above k x = true ↔ x.f ≠ -1 ∧ (x.l = k ∨ x.r = k) := by simp [above]

theorem Shaped.par_of {t : List Nd} {F : Int} (h : Shaped t F) {i : Nat} {x : Nd} (hx : t[i]? = some x) (hf : x.f ≠ -1) {k : Int} (hk : x.l = k ∨ x.r = k) : par t k = i := by
  unfold par
  refine fidx_some hx (above_iff.mpr ⟨hf, hk⟩) fun j y hj hy => ?_
  cases ha : above k y with
  | false => rfl
  | true =>
    obtain ⟨hyf, hyk⟩ := above_iff.mp ha
    have h1 := h.ord j i y x hj hy hx hyf hf
    have h2 := (h.inner j y hy hyf).r
    have h3 := (h.inner i x hx hf).r
    omega

theorem Shaped.par_lt {t : List Nd} {F : Int} (h : Shaped t F) (k : Int) : par t k < 0 ∨ ∃ (i : Nat) (x : Nd), par t k = i ∧ t[i]? = some x ∧ x.f ≠ -1 ∧ (x.l = k ∨ x.r = k) ∧ (i : Int) < k ∧ k < t.length := by
  rcases par_range t k with h1 | h1
  · left; omega
  · obtain ⟨i, hi⟩ : ∃ i : Nat, par t k = i := ⟨(par t k).toNat, by omega⟩
    right
    have hil : i < t.length := by omega
    have hx := List.getElem?_eq_getElem hil
    refine ⟨i, t[i], hi, hx, ?_⟩
    have ha : above k t[i] = true := by
      unfold par fidx at hi
      split at hi
      · rename_i j hj
        obtain ⟨h2, h3, _⟩ := List.findIdx?_eq_some_iff_getElem.mp hj
        have : j = i := by omega
        subst this; exact h3
      · omega
    obtain ⟨hf, hk⟩ := above_iff.mp ha
    have := h.inner i _ hx hf
    have h2 := this.lt
    have h3 := this.r
    have h4 := this.hi
    exact ⟨hf, hk, by omega, by omega⟩

theorem Shaped.anc {t : List Nd} {F : Int} (h : Shaped t F) : ∀ (n : Nat) (k : Int), k < n → 0 < n → ∃ l, anc t n k = some l
  | 0, _, _, h0 => by omega
  | n + 1, k, hk, _ => by
    rw [anc_s]
    split
    · exact ⟨[], rfl⟩
    · rename_i hp
      rcases h.par_lt k with h1 | ⟨i, x, h1, _, _, _, h2, _⟩
      · omega
      · obtain ⟨l, hl⟩ := h.anc n (par t k) (by omega) (by omega)
        exact ⟨_, by rw [hl]; rfl⟩

/-- Two beside each other in a list. -/
def adj (p : Int → Int → Bool) : List Int → Bool
  | a :: b :: r => p a b || adj p (b :: r)
  | _ => false

theorem adj_snoc (p : Int → Int → Bool) : ∀ (l : List Int) (a b : Int), adj p (l ++ [a, b]) = (adj p (l ++ [a]) || p a b)
  | [], a, b => by simp [adj]
  | [x], a, b => by simp [adj]
  | x :: y :: r, a, b => by
    have := adj_snoc p (y :: r) a b
    simp only [List.cons_append, adj] at this ⊢
    rw [this, Bool.or_assoc]

theorem adj_reverse (p : Int → Int → Bool) : ∀ l : List Int, adj p l.reverse = adj (fun a b => p b a) l
  | [] => rfl
  | [x] => rfl
  | x :: y :: r => by
    have := adj_reverse p (y :: r)
    rw [adj, ← this]
    simp only [List.reverse_cons, List.append_assoc, List.cons_append, List.nil_append]
    rw [adj_snoc, Bool.or_comm]

/-- A cut that does not part what comes to a node. -/
def badP (t : List Nd) (n : Nd) (a b : Int) : Bool := match t[a.toNat]? with
  | none => false
  | some x => decide (x.f = n.f) && ((decide (x.r = b) && decide (n.c ≤ x.c)) || (decide (x.l = b) && decide (x.c ≤ n.c)))

def wayOkB (t : List Nd) (i : Nat) : Bool := match t[i]? with
  | none => true
  | some x => decide (x.f = -1) || !adj (badP t x) (way t i)

def waysB (t : List Nd) : Bool := (List.range t.length).all (wayOkB t)

def treeB (t : List Nd) (F : Int) : Bool := within F 0 4 && within t.length 1 31 && shapeB t F && decide (dpt t t.length ≤ 4) && waysB t

theorem dpt_le (t : List Nd) (b : Int) (hb : -1 ≤ b) : ∀ n : Nat, dpt t n ≤ b ↔ ∀ i : Nat, i < n → levOf t i ≤ b
  | 0 => by simp [dpt]; omega
  | n + 1 => by
    have ih := dpt_le t b hb n
    simp only [dpt]
    constructor
    · intro h i hi
      by_cases e : i = n
      · subst e; omega
      · exact ih.mp (by omega) i (by omega)
    · intro h
      have h1 := ih.mpr fun i hi => h i (by omega)
      have h2 := h n (by omega)
      omega

theorem Shaped.lev_par {t : List Nd} {F : Int} (h : Shaped t F) (hl : t.length ≤ 31) {k : Nat} (hk : k < t.length) : 0 ≤ levOf t k ∧ (par t k < 0 → levOf t k = 0) ∧ (0 ≤ par t k → levOf t k = levOf t (par t k) + 1) := by
  have e : ∀ j : Nat, j < t.length → levOf t j = lev t 32 j := fun j hj => by unfold levOf; rw [if_pos (by omega)]
  obtain ⟨l, ha⟩ := h.anc 32 k (by omega) (by omega)
  have hlev : levOf t k = l.length := by rw [e k hk, lev_anc, ha]
  refine ⟨by omega, fun hp => ?_, fun hp => ?_⟩
  · rw [anc_s, if_pos hp] at ha; cases ha; simpa using hlev
  · rcases h.par_lt k with h1 | ⟨i, x, h1, _, _, _, h2, _⟩
    · omega
    · obtain ⟨m, hm⟩ := h.anc 31 i (by omega) (by omega)
      rw [anc_s, if_neg (by omega), h1, hm] at ha
      simp at ha
      subst ha
      obtain ⟨m', hm'⟩ := h.anc 32 i (by omega) (by omega)
      have hmm : ∀ (n : Nat) (k : Int) (a b : List Int), Pe.anc t n k = some a → Pe.anc t (n + 1) k = some b → a = b := by
        intro n
        induction n with
        | zero => intro k a b h1; cases h1
        | succ n ih =>
          intro k a b h1 h2
          rw [anc_s] at h1 h2
          split at h1
          · rename_i c; rw [if_pos c] at h2; cases h1; cases h2; rfl
          · rename_i c; rw [if_neg c] at h2
            simp only [Option.map_eq_some_iff] at h1 h2
            obtain ⟨a', ha', rfl⟩ := h1
            obtain ⟨b', hb', rfl⟩ := h2
            rw [ih _ _ _ ha' hb']
      have := hmm 31 i m m' hm hm'
      subst this
      rw [h1, e i (by omega), lev_anc, hm', hlev]
      simp

theorem Shaped.leaf_deep {t : List Nd} {F : Int} (h : Shaped t F) (hl : t.length ≤ 31) : ∀ (n k : Nat), k < t.length → t.length - k ≤ n → ∃ (j : Nat) (x : Nd), t[j]? = some x ∧ x.f = -1 ∧ levOf t k ≤ levOf t j
  | 0, k, hk, hn => by omega
  | n + 1, k, hk, hn => by
    have hx := List.getElem?_eq_getElem hk
    by_cases hf : (t[k]).f = -1
    · exact ⟨k, _, hx, hf, Int.le_refl _⟩
    · have hi := h.inner k _ hx hf
      have h1 := hi.lt
      have h2 := hi.r
      have h3 := hi.hi
      obtain ⟨c, hc⟩ : ∃ c : Nat, (t[k]).l = c := ⟨(t[k]).l.toNat, by omega⟩
      have hp := h.par_of hx hf (.inl hc)
      obtain ⟨_, _, h4⟩ := h.lev_par hl (k := c) (by omega)
      rw [hp] at h4
      obtain ⟨j, y, h5, h6, h7⟩ := h.leaf_deep hl n c (by omega) (by omega)
      exact ⟨j, y, h5, h6, by have := h4 (by omega); omega⟩

theorem adj_c {p : Int → Int → Bool} {w : List Int} {i : Nat} {a b : Int} (h1 : w[i]? = some a) (h2 : w[i + 1]? = some b) : adj p (w.drop i) = (p a b || adj p (w.drop (i + 1))) := by
  rw [drop_cons h1, drop_cons h2, adj]

theorem adj_end {p : Int → Int → Bool} {w : List Int} {i : Nat} (h : w.length ≤ i + 1) : adj p (w.drop i) = false := by
  by_cases c : i < w.length
  · rw [List.drop_eq_getElem_cons c, List.drop_eq_nil_of_le h, adj]
    simp
  · rw [List.drop_eq_nil_of_le (by omega), adj]
    simp

theorem Shaped.way {t : List Nd} {F : Int} (h : Shaped t F) (hl : t.length ≤ 31) {i : Nat} (hi : i < t.length) : ∃ l, Pe.way t i = ((i : Int) :: l).reverse ∧ Chn t l (par t i) ∧ l.length ≤ 31 := by
  obtain ⟨l, ha⟩ := h.anc 32 i (by omega) (by omega)
  have hc := anc_chn t 32 i l (by omega) ha
  have hle := anc_le t 32 i l ha
  refine ⟨l, ?_, hc.2.2, by omega⟩
  unfold Pe.way
  rw [if_pos (by omega), ha]

theorem badP_eq {t : List Nd} {a : Nat} {z : Nd} (h : t[a]? = some z) (n : Nd) (b : Int) : badP t n a b = (decide (z.f = n.f) && ((decide (z.r = b) && decide (n.c ≤ z.c)) || (decide (z.l = b) && decide (z.c ≤ n.c)))) := by
  simp [badP, h]

theorem badP_eq' {t : List Nd} {a : Nat} {z : Nd} (h : t[a]? = some z) (n : Nd) (b : Int) : badP t n a b = (decide (z.f = n.f) && ((decide (b = z.r) && decide (n.c ≤ z.c)) || (decide (b = z.l) && decide (z.c ≤ n.c)))) := by
  simp [badP, h, eq_comm (a := b)]

theorem wayOkB_eq {t : List Nd} {i : Nat} {x : Nd} (h : t[i]? = some x) : wayOkB t i = (decide (x.f = -1) || !adj (badP t x) (way t i)) := by simp [wayOkB, h]

theorem waysB_iff {t : List Nd} : waysB t = true ↔ ∀ j : Nat, j < t.length → wayOkB t j = true := by
  simp [waysB]

theorem waysB_no {t : List Nd} {i : Nat} (hi : i < t.length) (h : wayOkB t i = false) : waysB t = false := by
  cases e : waysB t with
  | false => rfl
  | true => rw [waysB_iff.mp e i hi] at h; cases h

set_option maxHeartbeats 1000000 in
theorem R_spec_l17Ways (t : List Nd) (F : Int) (hl : t.length ≤ 31) (hs : Shaped t F) : RUN T k_spec_l17Ways [.agg [.sl 5 (t.map nd)]] = some ([bv (waysB t)], []) := by
  refine RUN_W T_spec_l17Ways rfl ?_
  simp [k_spec_l17Ways_ic, k_spec_l17Ways_rv]
  refine W_loop (fun n st => ∃ i : Nat, i + n = t.length ∧ (∀ j : Nat, j < i → wayOkB t j = true) ∧ st.V 1 = .ptr 0 none 0 0 0 ∧ st.V 3 = iv i ∧ 0 < st.nx ∧ st.S 0 = some (.box [.sl 5 (t.map nd)])) ?_ t.length _ ⟨0, by simp⟩
  rintro n st ⟨i, hi, hk, h1, h3, hnx, hS⟩
  simp [k_spec_l17Ways_b1, h1, h3, hS]
  have z := fr hnx
  refine Br_i (fun h => ?_) (fun h => ?_)
  · simp at h
    obtain ⟨x, hx⟩ : ∃ x, t[i]? = some x := ⟨_, List.getElem?_eq_getElem h⟩
    have hw := wS h (by omega : t.length ≤ 9223372036854775807)
    have hup := fun k => R_spec_l17Up t k (by omega)
    obtain ⟨l, hway, hchn, hll⟩ := hs.way hl h
    simp [-getElem?_pos, h1, h3, hS, hx, z, nd]
    refine Br_i (fun h4 => ?_) (fun h4 => ?_)
    · simp at h4
      have ok : wayOkB t i = true := by rw [wayOkB_eq hx]; simp [h4]
      simp [-getElem?_pos, h1, h3, hS, hx, z, hw]
      exact Rnd_n (n - 1) (by omega) ⟨i + 1, by omega, fun j hj => by by_cases e : j = i; · subst e; exact ok
                                                                      · exact hk j (by omega), by simp [h1], by simp, by simp [hnx], by simp [hS]⟩
    · simp at h4
      obtain ⟨A, hA⟩ : ∃ A, A = adj (badP t x) (way t i) := ⟨_, rfl⟩
      have hA' : wayOkB t i = !A := by rw [wayOkB_eq hx, hA]; simp [h4]
      rw [hway, adj_reverse] at hA
      simp [-getElem?_pos, h1, h3, hS, hx, z, hw, hup]
      refine W_loop (fun n st => ∃ (c : Int) (r : List Int), r.length = n ∧ Chn t r (par t c) ∧ adj (fun a b => badP t x b a) (c :: r) = A ∧ st.V 1 = .ptr 0 none 0 0 0 ∧ st.V 3 = iv i ∧ st.V 4 = iv c ∧ st.V 5 = iv (par t c) ∧ 0 < st.nx ∧ st.S 0 = some (.box [.sl 5 (t.map nd)])) ?_ l.length _ ⟨i, l, rfl, hchn, hA.symm, by simp [h1], by simp [h3], by simp, by simp, by simp [hnx], by simp [hS]⟩
      clear hnx hS h1 h3 z
      rintro n' st ⟨c, r, hr, hc, hcA, h1, h3, h4', h5, hnx, hS⟩
      have z := fr hnx
      simp [k_spec_l17Ways_b0, h1, h3, h5]
      refine Br_i (fun h => ?_) (fun h => ?_)
      · simp at h
        cases r with
        | nil => have : par t c < 0 := hc; omega
        | cons y ys =>
          obtain ⟨rfl, h0, hc'⟩ := hc
          have hpr := par_range t c
          obtain ⟨a, ha⟩ : ∃ a : Nat, par t c = a := ⟨(par t c).toNat, by omega⟩
          rw [ha] at h5 hc' hcA hpr
          obtain ⟨y, hy⟩ : ∃ y, t[a]? = some y := ⟨_, List.getElem?_eq_getElem (by omega)⟩
          rw [adj, badP_eq hy] at hcA
          have z2 := fr (by omega : st.nx < st.nx + 1)
          by_cases b0 : y.f = x.f
          all_goals by_cases b1 : y.r = c
          all_goals by_cases b2 : x.c ≤ y.c
          all_goals by_cases b3 : y.l = c
          all_goals by_cases b4 : y.c ≤ x.c
          all_goals simp [b0, b1, b2, b3, b4] at hcA
          all_goals simp [-getElem?_pos, h1, h3, h4', h5, hS, hx, hy, z, nd, hup, b0, b1, b2, b3, b4]
          all_goals first
            | (have no : waysB t = false := waysB_no (i := i) (by omega) (by rw [hA']; simp [hcA])
               simp [no]; done)
            | (simp at hr
               exact Rnd_n ys.length (by omega) ⟨a, ys, rfl, hc', hcA, by simp [h1], by simp [h3], by simp, by simp, by simp, by simp [z, hS]⟩)
            | skip
      · simp at h
        cases r with
        | nil =>
          have ok : wayOkB t i = true := by rw [hA', ← hcA]; rfl
          simp [-getElem?_pos, h1, h3, hS, hx, z, hw]
          exact Rnd_n (n - 1) (by omega) ⟨i + 1, by omega, fun j hj => by by_cases e : j = i; · subst e; exact ok
                                                                          · exact hk j (by omega), by simp [h1], by simp, by simp [hnx], by simp [hS]⟩
        | cons x xs => obtain ⟨_, h0, _⟩ := hc; omega
  · simp at h
    have : waysB t = true := waysB_iff.mpr fun j hj => hk j (by omega)
    simp [this]

theorem R_spec_TreeOk (t : List Nd) (F : Int) (hl : t.length ≤ 9223372036854775807) : RUN T k_spec_TreeOk [.agg [.sl 5 (t.map nd)], iv F] = some ([bv (treeB t F)], []) := by
  refine RUN_W T_spec_TreeOk rfl ?_
  unfold treeB
  by_cases h1 : within F 0 4 = true
  · by_cases h2 : within t.length 1 31 = true
    · have h1' := within_iff.mp h1
      have h2' := within_iff.mp h2
      have hS := R_spec_l17Shape t F (by omega) h1'
      have hD := R_spec_DepthOf t hl
      by_cases h3 : shapeB t F = true
      · have hW := R_spec_l17Ways t F (by omega) (shaped_of h3)
        by_cases h4 : dpt t t.length ≤ 4
        · simp [k_spec_TreeOk_ic, k_spec_TreeOk_rv, R_spec_l1In', -R_spec_l1In, h1, h2, hS, hD, hW, h3, h4]
        · simp [k_spec_TreeOk_ic, k_spec_TreeOk_rv, R_spec_l1In', -R_spec_l1In, h1, h2, hS, hD, h3, h4]
      · simp [k_spec_TreeOk_ic, k_spec_TreeOk_rv, R_spec_l1In', -R_spec_l1In, h1, h2, hS, h3]
    · simp [k_spec_TreeOk_ic, k_spec_TreeOk_rv, R_spec_l1In', -R_spec_l1In, h1, h2]
  · by_cases h2 : within t.length 1 31 = true
    · simp [k_spec_TreeOk_ic, k_spec_TreeOk_rv, R_spec_l1In', -R_spec_l1In, h1, h2]
    · simp [k_spec_TreeOk_ic, k_spec_TreeOk_rv, R_spec_l1In', -R_spec_l1In, h1, h2]

theorem treeB_rest {t : List Nd} {F : Int} (hl : t.length ≤ 31) (h : Shaped t F) : (decide (dpt t t.length ≤ 4) && waysB t) = true ↔ ∀ (i : Nat) (x : Nd), t[i]? = some x → (x.f = -1 → levOf t i ≤ 4) ∧ (x.f ≠ -1 → adj (badP t x) (way t i) = false) := by
  simp only [Bool.and_eq_true, decide_eq_true_eq, waysB_iff, dpt_le t 4 (by omega)]
  constructor
  · rintro ⟨h1, h2⟩ i x hx
    have hi := (List.getElem?_eq_some_iff.mp hx).1
    refine ⟨fun _ => h1 i hi, fun hf => ?_⟩
    have := h2 i hi
    rw [wayOkB_eq hx] at this
    simpa [hf] using this
  · intro h3
    refine ⟨fun i hi => ?_, fun i hi => ?_⟩
    · obtain ⟨j, x, hx, hf, hle⟩ := h.leaf_deep hl t.length i hi (by omega)
      have := (h3 j x hx).1 hf
      omega
    · have hx := List.getElem?_eq_getElem hi
      rw [wayOkB_eq hx]
      by_cases hf : (t[i]).f = -1
      · simp [hf]
      · simp [hf, (h3 i _ hx).2 hf]

theorem treeB_false {t : List Nd} {F : Int} (hl : t.length ≤ 31) (h : Shaped t F) {i : Nat} {x : Nd} (hx : t[i]? = some x) (hn : (x.f = -1 ∧ 4 < levOf t i) ∨ (x.f ≠ -1 ∧ adj (badP t x) (way t i) = true)) : treeB t F = false := by
  have := mt ((treeB_rest hl h).mp) fun h3 => by
    have := h3 i x hx
    rcases hn with ⟨h1, h2⟩ | ⟨h1, h2⟩
    · have := this.1 h1; omega
    · rw [this.2 h1] at h2; cases h2
  unfold treeB
  rw [Bool.and_assoc]
  simp [Bool.not_eq_true] at this ⊢
  intro _ _ _ h4
  exact this h4

theorem treeB_true {t : List Nd} {F : Int} (h1 : within F 0 4 = true) (h2 : within t.length 1 31 = true) (h3 : shapeB t F = true) (hn : ∀ (i : Nat) (x : Nd), t[i]? = some x → (x.f = -1 → levOf t i ≤ 4) ∧ (x.f ≠ -1 → adj (badP t x) (way t i) = false)) : treeB t F = true := by
  unfold treeB
  rw [Bool.and_assoc, (treeB_rest (within_iff.mp h2 |>.2 |> fun h => by omega) (shaped_of h3)).mpr hn, h1, h2, h3]
  rfl

theorem snoc_all {α : Type} {P : Nat → α → Prop} {l : List α} {i : Nat} {x : α} (h : ∀ (j : Nat) (x : α), j < i → l[j]? = some x → P j x) (hi : l[i]? = some x) (hp : P i x) : ∀ (j : Nat) (x : α), j < i + 1 → l[j]? = some x → P j x := by
  intro j y hj hy
  by_cases e : j = i
  · subst e; rw [hi] at hy; cases hy; exact hp
  · exact h j y (by omega) hy

set_option maxHeartbeats 1000000 in
theorem R_impl_TreeOk (t : List Nd) (F : Int) (hl : t.length ≤ 9223372036854775807) : RUN T k_impl_TreeOk [.agg [.sl 5 (t.map nd)], iv F] = some ([bv (treeB t F)], []) := by
  refine RUN_W T_impl_TreeOk rfl ?_
  by_cases h1 : within F 0 4 = true
  case neg => simp [k_impl_TreeOk_ic, k_impl_TreeOk_rv, R_impl_within', -R_impl_within, h1, treeB]
  by_cases h2 : within t.length 1 31 = true
  case neg => simp [k_impl_TreeOk_ic, k_impl_TreeOk_rv, R_impl_within', -R_impl_within, h1, h2, treeB]
  have h1' := within_iff.mp h1
  have h2' := within_iff.mp h2
  have hS := R_impl_shapeOk t F (by omega) h1'
  by_cases h3 : shapeB t F = true
  case neg => simp [k_impl_TreeOk_ic, k_impl_TreeOk_rv, R_impl_within', -R_impl_within, h1, h2, hS, h3, treeB]
  have hs := shaped_of h3
  have hL := fun k => R_impl_LevelOf' t k hl
  have hW := fun k => R_impl_wayTo t k hl
  simp [k_impl_TreeOk_ic, k_impl_TreeOk_rv, R_impl_within', -R_impl_within, h1, h2, hS, h3]
  refine W_loop (fun n st => ∃ i : Nat, i + n = t.length ∧ (∀ (j : Nat) (x : Nd), j < i → t[j]? = some x → (x.f = -1 → levOf t j ≤ 4) ∧ (x.f ≠ -1 → adj (badP t x) (way t j) = false)) ∧ st.V 2 = .ptr 0 none 0 0 0 ∧ st.V 30 = iv i ∧ st.V 29 = iv t.length ∧ st.V 28 = .sl 5 (t.map nd) ∧ 0 < st.nx ∧ st.S 0 = some (.box [.sl 5 (t.map nd)])) ?_ t.length _ ⟨0, by simp⟩
  rintro n st ⟨i, hi, hk, v2, v30, v29, v28, hnx, hS⟩
  simp [k_impl_TreeOk_b1, v30, v29, v28]
  have z := fr hnx
  have z2 := fr (by omega : st.nx < st.nx + 1)
  refine Br_i (fun h => ?_) (fun h => ?_)
  · simp at h
    obtain ⟨x, hx⟩ : ∃ x, t[i]? = some x := ⟨_, List.getElem?_eq_getElem h⟩
    have hw := wS h hl
    simp [-getElem?_pos, v2, v30, v29, v28, hS, hx, z, z2, nd]
    refine Br_i (fun h4 => ?_) (fun h4 => ?_)
    · simp at h4
      simp [-getElem?_pos, v2, v30, v29, v28, hS, hx, z, z2, hL]
      refine Br_i (fun h5 => ?_) (fun h5 => ?_)
      · simp at h5
        simp [treeB_false (by omega) hs hx (.inl ⟨h4, by omega⟩)]
      · simp at h5
        simp [-getElem?_pos, v2, v30, v29, v28, hS, hx, z, z2, hw]
        exact Rnd_n (n - 1) (by omega) ⟨i + 1, by omega, snoc_all (P := fun j x => (x.f = -1 → levOf t j ≤ 4) ∧ (x.f ≠ -1 → adj (badP t x) (way t j) = false)) hk hx ⟨fun _ => by omega, fun h => (h h4).elim⟩, by simp [v2], by simp, by simp [v29], by simp [v28], by simp, by simp [z, hS]⟩
    · simp at h4
      obtain ⟨l, hway, hchn, hll⟩ := hs.way (by omega) h
      obtain ⟨w, hww⟩ : ∃ w, w = way t i := ⟨_, rfl⟩
      have hwl : 1 ≤ w.length ∧ w.length ≤ 32 := by rw [hww, hway]; simp; omega
      have hwr := way_range t i
      obtain ⟨A, hA⟩ : ∃ A, A = adj (badP t x) w := ⟨_, rfl⟩
      rw [← hww] at hwr
      have hww' := hW i
      rw [← hww] at hww'
      obtain ⟨q, hq⟩ : ∃ q, w.length = q + 1 := ⟨w.length - 1, by omega⟩
      have hw1 : IntKind.i64.wrap ((w.length : Int) - 1) = q := by rw [hq]; exact (w64 (by omega) (by omega)).trans (by omega)
      have hql : q ≤ w.length := by omega
      simp [-getElem?_pos, v2, v30, v29, v28, hS, hx, z, z2, hww', hw1, hql]
      refine W_loop (fun n st => ∃ (j : Nat) (p o e ep : Nat), j + n = q ∧ adj (badP t x) (w.drop j) = A ∧ st.V 2 = .ptr 0 none 0 0 0 ∧ st.V 30 = iv i ∧ st.V 29 = iv t.length ∧ st.V 28 = .sl 5 (t.map nd) ∧ st.V 6 = .ptr p none ep 0 0 ∧ st.V 7 = .ref o none e 0 w.length ∧ st.V 48 = .ref o none e 0 q ∧ st.V 49 = iv q ∧ st.V 50 = iv j ∧ 0 < p ∧ p < o ∧ o < st.nx ∧ st.S p = some (.box [iv x.f, iv x.c, iv x.l, iv x.r, iv x.v]) ∧ st.S o = some (.row 1 (ints w)) ∧ st.S 0 = some (.box [.sl 5 (t.map nd)])) ?_ q _ ⟨0, st.nx, st.nx + 1, st.ep, st.ep, by omega, by simp [hA], by simp [v2], by simp [v30], by simp [v29], by simp [v28], by simp, by simp, by simp, by simp, by simp, hnx, by omega, by simp, by simp [z, z2], by simp [z, z2], by simp [z, z2, hS]⟩
      clear hnx hS z z2 v2 v30 v29 v28
      rintro n' st ⟨j, p, o, e, ep, hj, hjA, v2, v30, v29, v28, v6, v7, v48, v49, v50, hp, hpo, hox, hSp, hSo, hS⟩
      have z1 := fr hox
      have z2 := fr hpo
      have z3 := fr hp
      have z4 := fr (by omega : p < st.nx)
      have z5 := fr (by omega : 0 < o)
      have z6 := fr (by omega : 0 < st.nx)
      simp [k_impl_TreeOk_b0, v49, v50]
      refine Br_i (fun h => ?_) (fun h => ?_)
      · simp at h
        have hjl : j + 1 < w.length := by omega
        obtain ⟨a, ha⟩ : ∃ a, w[j]? = some a := ⟨_, List.getElem?_eq_getElem (by omega)⟩
        obtain ⟨b, hb⟩ : ∃ b, w[j + 1]? = some b := ⟨_, List.getElem?_eq_getElem hjl⟩
        have har := hwr a (List.mem_of_getElem? ha)
        obtain ⟨a, rfl⟩ : ∃ a' : Nat, a = a' := ⟨a.toNat, by omega⟩
        obtain ⟨y, hy⟩ : ∃ y, t[a]? = some y := ⟨_, List.getElem?_eq_getElem (by omega)⟩
        rw [adj_c ha hb, badP_eq' hy] at hjA
        have ha' := ints_get ha
        have hb' := ints_get hb
        have hwj := w64 (x := (j : Int) + 1) (by omega) (by omega)
        rcases Classical.propComplete (y.f = x.f) with b0 | b0
        all_goals rcases Classical.propComplete (b = y.r) with b1 | b1
        all_goals rcases Classical.propComplete (x.c ≤ y.c) with b2 | b2
        all_goals rcases Classical.propComplete (b = y.l) with b3 | b3
        all_goals rcases Classical.propComplete (y.c ≤ x.c) with b4 | b4
        all_goals simp [b0, b1, b2, b3, b4] at hjA
        all_goals simp [-getElem?_pos, v2, v30, v29, v28, v6, v7, v48, v49, v50, hSp, hSo, hS, z1, z2, z3, z4, z5, z6, ha', hb', hwj, hy, nd, b0, b1, b2, b3, b4, h, hjl]
        all_goals first
          | (have no : treeB t F = false := treeB_false (by omega) hs hx (.inr ⟨h4, by rw [← hww, ← hA]; simp [hjA]⟩)
             simp [no]; done)
          | exact Rnd_n (n' - 1) (by omega) ⟨j + 1, p, o, e, ep, by omega, hjA, by simp [v2], by simp [v30], by simp [v29], by simp [v28], by simp [v6], by simp [v7], by simp [v48], by simp [v49], by simp, hp, hpo, by simp; omega, by simp [z4, hSp], by simp [z1, hSo], by simp [z6, hS]⟩
          | skip
      · simp at h
        rw [adj_end (by omega)] at hjA
        simp [-getElem?_pos, v2, v30, v29, v28, hw]
        exact Rnd_n (n - 1) (by omega) ⟨i + 1, by omega, snoc_all (P := fun j x => (x.f = -1 → levOf t j ≤ 4) ∧ (x.f ≠ -1 → adj (badP t x) (way t j) = false)) hk hx ⟨fun h => (h4 h).elim, fun _ => by rw [← hww, ← hA, hjA]⟩, by simp [v2], by simp, by simp [v29], by simp [v28], by simp; omega, by simp [hS]⟩
  · simp at h
    have : treeB t F = true := treeB_true h1 h2 h3 fun j x hj => hk j x (by have := (List.getElem?_eq_some_iff.mp hj).1; omega) hj
    simp [this]

/-- A row within rows: a slice's own, or one that is read. -/
def cel (q : Bool) (l : List Int) : PV := if q then .own 1 (ints l) else .sl 1 (ints l)

@[simp] theorem fz_cel (q : Bool) (l : List Int) : fz (cel q l) = .sl 1 (ints l) := by cases q <;> simp [cel]

def rws (q : Bool) (L : List (List Int)) : List (List PV) := L.map fun l => [cel q l]

@[simp] theorem rws_len (q : Bool) (L : List (List Int)) : (rws q L).length = L.length := by simp [rws]

theorem rws_get {q : Bool} {L : List (List Int)} {i : Nat} {l : List Int} (h : L[i]? = some l) : (rws q L)[i]? = some [cel q l] := by simp [rws, h]

theorem all_no {l : List Int} {p : Int → Bool} {j : Nat} {a : Int} (h1 : l[j]? = some a) (h2 : p a = false) : l.all p = false := by
  cases e : l.all p with
  | false => rfl
  | true => rw [List.all_eq_true.mp e a (List.mem_of_getElem? h1)] at h2; cases h2

theorem all_yes {l : List Int} {p : Int → Bool} (h : ∀ (j : Nat) (a : Int), j < l.length → l[j]? = some a → p a = true) : l.all p = true := by
  rw [List.all_eq_true]
  intro x hx
  obtain ⟨j, hj⟩ := List.getElem?_of_mem hx
  exact h j x (List.getElem?_eq_some_iff.mp hj).1 hj

theorem yv_gu {s : St} {d : Option Dst} {op : IOp} {g : Opd} {v : Bool} {x : PV} : (yv s ⟨d, op, some (g, v)⟩ = some x) = (Ob' (guardP v (g.get s)) fun t => Br t (WI (fun _ => []) (fun _ _ => none) op s (fun y _ => y = x)) (PV.v Go.undef = x)) := by
  simp only [yv, evG_some, WI, Ob', Br, Option.map_eq_some_iff, Option.bind_eq_some_iff, eq_iff_iff]
  constructor
  · rintro ⟨⟨y, s'⟩, ⟨t, h1, h2⟩, h3⟩
    refine ⟨t, h1, fun ht => ?_, fun ht => ?_⟩ <;> subst ht
    · exact ⟨y, s', by simpa using h2, h3⟩
    · simp at h2; obtain ⟨rfl, rfl⟩ := h2; exact h3
  · rintro ⟨t, h1, h2, h3⟩
    cases t with
    | true => obtain ⟨y, s', h4, h5⟩ := h2 rfl; exact ⟨(y, s'), ⟨true, h1, by simpa using h4⟩, h5⟩
    | false => exact ⟨_, ⟨false, h1, rfl⟩, h3 rfl⟩

@[simp] theorem chkTodo_g {s : St} {d : Option Dst} {op : IOp} {g : Opd} {v : Bool} {x : PV} {n : Nat} {r : List (IOper × PV × Nat)} : chkTodo s ((⟨d, op, some (g, v)⟩, x, n + 1) :: r) = ((Ob' (guardP v (g.get s)) fun t => Br t (WI (fun _ => []) (fun _ _ => none) op s (fun y _ => y = x)) (PV.v Go.undef = x)) ∧ chkTodo s r) := by
  simp only [chkTodo, yv_gu]

@[simp] theorem chkPast_g {V E : Nat → PV} {d : Option Dst} {op : IOp} {g : Opd} {v : Bool} {x : PV} {n : Nat} {s : St} {ms : List St} : chkPast V E ⟨d, op, some (g, v)⟩ x (n + 1) (s :: ms) = ((Ob' (guardP v (g.get { s with V := V, E := E })) fun t => Br t (WI (fun _ => []) (fun _ _ => none) op { s with V := V, E := E } (fun y _ => y = x)) (PV.v Go.undef = x)) ∧ chkPast V E ⟨d, op, some (g, v)⟩ x n ms) := by
  simp only [chkPast, yv_gu]

theorem range_all {p : Nat → Bool} {n : Nat} (h : ∀ i, i < n → p i = true) : (List.range n).all p = true := by
  rw [List.all_eq_true]
  intro x hx
  exact h x (by simpa using hx)

theorem range_no {p : Nat → Bool} {n i : Nat} (hi : i < n) (h : p i = false) : (List.range n).all p = false := by
  cases e : (List.range n).all p with
  | false => rfl
  | true => rw [List.all_eq_true.mp e i (by simpa using hi)] at h; cases h

theorem snoc_nat {P : Nat → Prop} {i : Nat} (h : ∀ j, j < i → P j) (hi : P i) : ∀ j, j < i + 1 → P j := by
  intro j hj
  by_cases e : j = i
  · subst e; exact hi
  · exact h j (by omega)

theorem rows_of {α : Type} {f : α → List PV} {p : α → Prop} {tys : List TY} (h : ∀ cs, ShpL tys cs → ∃ a, f a = cs ∧ p a) : ∀ {es : List (List PV)}, (∀ cs ∈ es, ShpL tys cs) → ∃ l : List α, l.map f = es ∧ ∀ a ∈ l, p a
  | [], _ => ⟨[], rfl, by simp⟩
  | e :: es, hs => by
    obtain ⟨a, ha, hp⟩ := h e (hs e (by simp))
    obtain ⟨l, hl, hq⟩ := rows_of h (es := es) (fun cs hc => hs cs (by simp [hc]))
    refine ⟨a :: l, by simp [ha, hl], fun b hb => ?_⟩
    rcases List.mem_cons.mp hb with e | e
    · subst e; exact hp
    · exact hq b e

theorem of_all {P : Program} {l : List TypeId} (h : (l.all fun t => P.readableRec t && decide (t < P.types.size)) = true) : ∀ t ∈ l, P.readableRec t = true ∧ t < P.types.size := by
  intro t ht
  have := List.all_eq_true.mp h t ht
  simpa using this

theorem args1 {p : Bool × List TY} {pvs : List PV} (h : All2 (fun p c => ShpA p.1 p.2 c) [p] pvs) : ∃ a, pvs = [a] ∧ ShpA p.1 p.2 a := by
  cases h with
  | cons h1 t => cases t with
    | nil => exact ⟨_, rfl, h1⟩

/-- The bytes that a source draws from. -/
def byts (B : List Int) : List (List PV) := B.map fun n => [.v (.int .u8 n)]

@[simp] theorem byts_len (B : List Int) : (byts B).length = B.length := by simp [byts]

theorem byts_get {B : List Int} {i : Nat} {x : Int} (h : B[i]? = some x) : (byts B)[i]? = some [.v (.int .u8 x)] := by simp [byts, h]

/-- The end of a call of which something is told. -/
def FinG (rv : List RV) (io : Nat) (G : List PV × List PV → Prop) (_ : Dm rv) (_ : Dm G) (e : Ex) (s : St) : Prop := (e = .normal ∨ e = .ret) ∧ ∃ r, finishEv ⟨[], rv, .skip⟩ io s = some r ∧ G r

@[simp] theorem FinG_n {rv : List RV} {io : Nat} {G : List PV × List PV → Prop} {s : St} : FinG rv io G ⟨⟩ ⟨⟩ .normal s = ∃ r, finishEv ⟨[], rv, .skip⟩ io s = some r ∧ G r := by simp [FinG]

@[simp] theorem FinG_r {rv : List RV} {io : Nat} {G : List PV × List PV → Prop} {s : St} : FinG rv io G ⟨⟩ ⟨⟩ .ret s = ∃ r, finishEv ⟨[], rv, .skip⟩ io s = some r ∧ G r := by simp [FinG]

theorem RUN_G {T : Table} {f : Nat} {ms : List Bool} {rv : List RV} {ic : IC} {G : List PV × List PV → Prop} (hT : T f = some (.code ⟨ms, rv, ic⟩)) {args : List PV} {st : St} (hi : initEv args = some st) (h : W (modesOf T) (RUN T) ic st (FinG rv st.nx G ⟨⟩ ⟨⟩)) : ∃ r, RUN T f args = some r ∧ G r := by
  unfold W at h
  obtain ⟨e, s, h1, h2, r, h3, hG⟩ := h
  refine ⟨r, RUN_code hT ?_, hG⟩
  unfold callL
  rw [hi]
  simp only [Option.bind_some, h1]
  rcases h2 with rfl | rfl <;> exact h3
attribute [irreducible] FinG

theorem and255 (X : Nat) : 0 ≤ IntKind.i64.wrap ((X &&& 255 % 2 ^ IntKind.i64.bits : Nat) : Int) ∧ IntKind.i64.wrap ((X &&& 255 % 2 ^ IntKind.i64.bits : Nat) : Int) ≤ 255 := by
  have h : X &&& 255 % 2 ^ IntKind.i64.bits ≤ 255 := Nat.le_trans Nat.and_le_right (by decide)
  rw [w64 (by omega) (by omega)]
  omega

/-- What a drawing function may answer: a value with a property, and the source further on. -/
def Draw (B : List Int) (P : PV → Prop) (r : List PV × List PV) : Prop := ∃ (v : PV) (p : Nat) (s : Int), P v ∧ p ≤ B.length ∧ r = ([v], [.bx [.sl 1 (byts B), iv p, iv s]])

def PB (v : PV) : Prop := ∃ b, v = bv b

def PM (l : List Int) (v : PV) : Prop := ∃ n, v = iv n ∧ n ∈ l

def PI (v : PV) : Prop := ∃ n, v = iv n ∧ inI n

def PN (n : Int) (v : PV) : Prop := ∃ m, v = iv m ∧ 0 ≤ m ∧ (0 < n → m < n)

theorem R_spec_l1Byte (B : List Int) (p : Nat) (s : Int) (hp : p ≤ B.length) (hB : B.length ≤ 9223372036854775807) : ∃ r, RUN T k_spec_l1Byte [.bx [.sl 1 (byts B), iv p, iv s]] = some r ∧ Draw B (fun v => ∃ n, v = iv n ∧ 0 ≤ n ∧ n ≤ 255) r := by
  refine RUN_G T_spec_l1Byte rfl ?_
  by_cases h : p < B.length
  · obtain ⟨x, hx⟩ : ∃ x, B[p]? = some x := ⟨_, List.getElem?_eq_getElem h⟩
    have hx' := byts_get hx
    have hw := wS h hB
    simp [-getElem?_pos, k_spec_l1Byte_ic, k_spec_l1Byte_rv, h, hx', hw]
    exact ⟨_, p + 1, _, ⟨_, rfl, (and255 _).1, (and255 _).2⟩, h, rfl⟩
  · have h' : ¬ ((p : Int) < B.length) := by omega
    simp [-getElem?_pos, k_spec_l1Byte_ic, k_spec_l1Byte_rv, h, h']
    exact ⟨_, p, _, ⟨_, rfl, (and255 _).1, (and255 _).2⟩, hp, rfl⟩

theorem R_spec_l1Below (B : List Int) (p : Nat) (s : Int) (hp : p ≤ B.length) (hB : B.length ≤ 9223372036854775807) (n : Int) (hn : n ≤ 9223372036854775807) : ∃ r, RUN T k_spec_l1Below [.bx [.sl 1 (byts B), iv p, iv s], iv n] = some r ∧ Draw B (PN n) r := by
  refine RUN_G T_spec_l1Below rfl ?_
  obtain ⟨r1, h1, v1, p1, s1, ⟨a1, rfl, a10, a11⟩, hp1, rfl⟩ := R_spec_l1Byte B p s hp hB
  by_cases c1 : n ≤ 0
  · simp [-getElem?_pos, k_spec_l1Below_ic, k_spec_l1Below_rv, c1]
    exact ⟨_, p, s, ⟨0, rfl, by omega, by omega⟩, hp, rfl⟩
  have c0 : ¬ (n = 0) := by omega
  by_cases c2 : n ≤ 256
  · simp [-getElem?_pos, k_spec_l1Below_ic, k_spec_l1Below_rv, c0, c1, c2, h1]
    refine ⟨_, p1, s1, ⟨_, rfl, ?_, fun _ => ?_⟩, hp1, rfl⟩
    · exact Int.tmod_nonneg _ a10
    · exact Int.tmod_lt_of_pos _ (by omega)
  obtain ⟨r2, h2, v2, p2, s2, ⟨a2, rfl, a20, a21⟩, hp2, rfl⟩ := R_spec_l1Byte B p1 s1 hp1 hB
  obtain ⟨r3, h3, v3, p3, s3, ⟨a3, rfl, a30, a31⟩, hp3, rfl⟩ := R_spec_l1Byte B p2 s2 hp2 hB
  obtain ⟨r4, h4, v4, p4, s4, ⟨a4, rfl, a40, a41⟩, hp4, rfl⟩ := R_spec_l1Byte B p3 s3 hp3 hB
  have w1 := w64 (x := a1 * 16777216) (by omega) (by omega)
  have w2 := w64 (x := a2 * 65536) (by omega) (by omega)
  have w3 := w64 (x := a1 * 16777216 + a2 * 65536) (by omega) (by omega)
  have w4 := w64 (x := a3 * 256) (by omega) (by omega)
  have w5 := w64 (x := a1 * 16777216 + a2 * 65536 + a3 * 256) (by omega) (by omega)
  have w6 := w64 (x := a1 * 16777216 + a2 * 65536 + a3 * 256 + a4) (by omega) (by omega)
  simp [-getElem?_pos, k_spec_l1Below_ic, k_spec_l1Below_rv, c0, c1, c2, h1, h2, h3, h4, w1, w2, w3, w4, w5, w6]
  refine ⟨_, p4, s4, ⟨_, rfl, ?_, fun _ => ?_⟩, hp4, rfl⟩
  · exact Int.tmod_nonneg _ (by omega)
  · exact Int.tmod_lt_of_pos _ (by omega)

theorem R_spec_l1Once (B : List Int) (p : Nat) (s : Int) (hp : p ≤ B.length) (hB : B.length ≤ 9223372036854775807) (n : Int) (hn : n ≤ 9223372036854775807) : ∃ r, RUN T k_spec_l1Once [.bx [.sl 1 (byts B), iv p, iv s], iv n] = some r ∧ Draw B PB r := by
  refine RUN_G T_spec_l1Once rfl ?_
  obtain ⟨r1, h1, v1, p1, s1, ⟨a1, rfl, a10, a11⟩, hp1, rfl⟩ := R_spec_l1Below B p s hp hB n hn
  simp [-getElem?_pos, k_spec_l1Once_ic, k_spec_l1Once_rv, h1]
  exact ⟨_, p1, s1, ⟨_, rfl⟩, hp1, rfl⟩

/-- The same where a list is handed over and back. -/
def Draw2 (B : List Int) (l : List Int) (P : PV → Prop) (r : List PV × List PV) : Prop := ∃ (v : PV) (p : Nat) (s : Int), P v ∧ p ≤ B.length ∧ r = ([v], [.bx [.sl 1 (byts B), iv p, iv s], .own 1 (ints l)])

theorem R_spec_l1PickInt (B : List Int) (p : Nat) (s : Int) (hp : p ≤ B.length) (hB : B.length ≤ 9223372036854775807) (l : List Int) (hl : 0 < l.length ∧ l.length ≤ 9223372036854775807) : ∃ r, RUN T k_spec_l1PickInt [.bx [.sl 1 (byts B), iv p, iv s], .own 1 (ints l)] = some r ∧ Draw2 B l (PM l) r := by
  refine RUN_G T_spec_l1PickInt rfl ?_
  obtain ⟨r1, h1, v1, p1, s1, ⟨a1, rfl, a10, a11⟩, hp1, rfl⟩ := R_spec_l1Below B p s hp hB l.length (by omega)
  obtain ⟨i, rfl⟩ : ∃ i : Nat, a1 = i := ⟨a1.toNat, by omega⟩
  have hi : i < l.length := by have := a11 (by omega); omega
  obtain ⟨x, hx⟩ : ∃ x, l[i]? = some x := ⟨_, List.getElem?_eq_getElem hi⟩
  have hx' := ints_get hx
  simp [-getElem?_pos, k_spec_l1PickInt_ic, k_spec_l1PickInt_rv, h1, hx', hi]
  exact ⟨_, p1, s1, ⟨x, rfl, List.mem_of_getElem? hx⟩, hp1, rfl⟩

theorem inI_wrap (x : Int) : inI (IntKind.i64.wrap x) := by
  unfold inI IntKind.wrap
  simp [IntKind.bits, IntKind.signed]
  omega

theorem R_spec_l1Whole (B : List Int) (p : Nat) (s : Int) (hp : p ≤ B.length) (hB : B.length ≤ 9223372036854775807) : ∃ r, RUN T k_spec_l1Whole [.bx [.sl 1 (byts B), iv p, iv s]] = some r ∧ Draw B PI r := by
  refine RUN_G T_spec_l1Whole rfl ?_
  obtain ⟨r1, h1, v1, p1, s1, ⟨a1, rfl, a10, a11⟩, hp1, rfl⟩ := R_spec_l1Below B p s hp hB 4 (by omega)
  by_cases c0 : a1 = 0
  · obtain ⟨r2, h2, v2, p2, s2, ⟨a2, rfl, hm⟩, hp2, rfl⟩ := R_spec_l1PickInt B p1 s1 hp1 hB [0, 1, -1, 9, 10, 999, 1000, 2147483647, -2147483648, 3037000499, 3037000500, 9223372036854775807, -9223372036854775807, -9223372036854775808] (by simp)
    simp only [ints, List.map] at h2
    simp [-getElem?_pos, k_spec_l1Whole_ic, k_spec_l1Whole_rv, h1, c0, h2]
    refine ⟨_, p2, s2, ⟨a2, rfl, ?_⟩, hp2, rfl⟩
    simp at hm
    unfold inI
    omega
  by_cases c1 : a1 = 1
  · simp [-getElem?_pos, k_spec_l1Whole_ic, k_spec_l1Whole_rv, h1, c0, c1]
    refine W_loop (fun n st => ∃ (i p : Nat) (x s : Int), i + n = 8 ∧ p ≤ B.length ∧ inI x ∧ st.V 0 = .ptr 0 none 0 0 0 ∧ st.V 3 = iv x ∧ st.V 4 = iv i ∧ 0 < st.nx ∧ st.ep = 0 ∧ st.S 0 = some (.box [.sl 1 (byts B), iv p, iv s])) ?_ 8 _ ⟨0, p1, 0, s1, by omega, hp1, by unfold inI; omega, by simp⟩
    clear h1
    rintro n st ⟨i, p, x, s, hi, hp, hx, v0, v3, v4, hnx, hep, hS⟩
    simp [k_spec_l1Whole_b0, v4]
    refine Br_i (fun h => ?_) (fun h => ?_)
    · simp at h
      obtain ⟨r2, h2, v2, p2, s2, ⟨a2, rfl, a20, a21⟩, hp2, rfl⟩ := R_spec_l1Byte B p s hp hB
      have w := w64 (x := (i : Int) + 1) (by omega) (by omega)
      simp [-getElem?_pos, v0, v3, v4, hep, hS, h2, w]
      exact Rnd_n (n - 1) (by omega) ⟨i + 1, p2, _, s2, by omega, hp2, inI_wrap _, by simp [v0], by simp; rfl, by simp, by simp [hnx], by simp [hep], by simp⟩
    · simp [-getElem?_pos, v3, v0, hS]
      exact ⟨_, p, s, ⟨x, rfl, hx⟩, hp, rfl⟩
  by_cases c2 : a1 = 2
  · obtain ⟨r2, h2, v2, p2, s2, ⟨a2, rfl, a20, a21⟩, hp2, rfl⟩ := R_spec_l1Below B p1 s1 hp1 hB 1000000 (by omega)
    have a22 := a21 (by omega)
    have w := w64 (x := a2 - 500000) (by omega) (by omega)
    simp [-getElem?_pos, k_spec_l1Whole_ic, k_spec_l1Whole_rv, h1, c0, c1, c2, h2, w]
    exact ⟨_, p2, s2, ⟨_, rfl, by unfold inI; omega⟩, hp2, rfl⟩
  · obtain ⟨r2, h2, v2, p2, s2, ⟨a2, rfl, a20, a21⟩, hp2, rfl⟩ := R_spec_l1Below B p1 s1 hp1 hB 41 (by omega)
    have a22 := a21 (by omega)
    have w := w64 (x := a2 - 20) (by omega) (by omega)
    simp [-getElem?_pos, k_spec_l1Whole_ic, k_spec_l1Whole_rv, h1, c0, c1, c2, h2, w]
    exact ⟨_, p2, s2, ⟨_, rfl, by unfold inI; omega⟩, hp2, rfl⟩

theorem R_spec_l1New (B : List Int) (hB : B.length ≤ 9223372036854775807) : ∃ r, RUN T k_spec_l1New [.sl 1 (byts B)] = some r ∧ ∃ s : Int, r = ([.bx [.sl 1 (byts B), iv (0 : Nat), iv s]], []) := by
  refine RUN_G T_spec_l1New rfl ?_
  simp [-getElem?_pos, k_spec_l1New_ic, k_spec_l1New_rv]
  refine W_loop (fun n st => ∃ (i : Nat) (x : Int), i + n = B.length ∧ st.V 0 = .sl 1 (byts B) ∧ st.V 3 = iv x ∧ st.V 4 = iv i) ?_ B.length _ ⟨0, _, by omega, by simp, by simp; rfl, by simp⟩
  rintro n st ⟨i, x, hi, v0, v3, v4⟩
  by_cases h : i < B.length
  · obtain ⟨b, hx⟩ : ∃ b, B[i]? = some b := ⟨_, List.getElem?_eq_getElem h⟩
    have hx' := byts_get hx
    have hw := wS h hB
    by_cases h2 : (i : Int) < 4000
    · have h2' := eq_true h2
      simp [-getElem?_pos, k_spec_l1New_b0, v0, v3, v4, h, h2', hx', hw]
      exact Rnd_n (n - 1) (by omega) ⟨i + 1, _, by omega, by simp [v0], by simp; rfl, by simp⟩
    · have h2' := eq_false h2
      simp [-getElem?_pos, k_spec_l1New_b0, v0, v3, v4, h, h2']
  · simp [-getElem?_pos, k_spec_l1New_b0, v0, v3, v4, h]

theorem R_laws_big (es : List (List PV)) : RUN T k_laws_big [.sl 1 es] = some ([bv (decide ((1048576 : Int) < es.length))], []) := by
  refine RUN_W T_laws_big rfl ?_
  simp [-getElem?_pos, k_laws_big_ic, k_laws_big_rv]

def leafN (v : Int) : Nd := ⟨-1, 0, 0, 0, v⟩

theorem R_spec_OneLeaf (v : Int) : RUN T k_spec_OneLeaf [iv v] = some ([.agg [.own 5 ([leafN v].map nd)]], []) := by
  refine RUN_W T_spec_OneLeaf rfl ?_
  have hr : roomFor 40 1 = true := by decide
  simp [-getElem?_pos, k_spec_OneLeaf_ic, k_spec_OneLeaf_rv, hr, leafN, nd]

/-- The cell that holds a list, in a box. -/
def LC (S : Nat → Option Ob) (nx : Nat) (lo : Nat) (m : List Int) (x : PV) : Prop := (x = .e0 ∧ m = []) ∨ ∃ o e, x = .ref o none e 0 m.length ∧ lo < o ∧ o < nx ∧ S o = some (.row 1 (ints m))

def strs (l : List ByteArray) : List (List PV) := l.map fun s => [.v (.string s)]

@[simp] theorem strs_len (l : List ByteArray) : (strs l).length = l.length := by simp [strs]

theorem strs_get {l : List ByteArray} {i : Nat} {x : ByteArray} (h : l[i]? = some x) : (strs l)[i]? = some [.v (.string x)] := by simp [strs, h]

def celT (q : Bool) (t : List Nd) : PV := if q then .own 5 (t.map nd) else .sl 5 (t.map nd)

@[simp] theorem fz_celT (q : Bool) (t : List Nd) : fz (celT q t) = .sl 5 (t.map nd) := by cases q <;> simp [celT]

def trs (q : Bool) (M : List (List Nd)) : List (List PV) := M.map fun t => [celT q t]

@[simp] theorem trs_len (q : Bool) (M : List (List Nd)) : (trs q M).length = M.length := by simp [trs]

theorem trs_get {q : Bool} {M : List (List Nd)} {i : Nat} {t : List Nd} (h : M[i]? = some t) : (trs q M)[i]? = some [celT q t] := by simp [trs, h]

structure Mo where
  ns : List ByteArray
  ix : List Int
  b : Int
  ts : List (List Nd)

abbrev moS (q : Bool) (m : Mo) : PV := .agg [.sl 1 (strs m.ns), .sl 1 (ints m.ix), iv m.b, .sl 1 (trs q m.ts)]

abbrev moO (m : Mo) : PV := .agg [.own 1 (strs m.ns), .own 1 (ints m.ix), iv m.b, .own 1 (trs true m.ts)]

/-- No list is longer than a list can be. -/
structure MoL (n : Nat) (m : Mo) : Prop where
  ns : m.ns.length ≤ n
  ss : ∀ x ∈ m.ns, x.size ≤ n
  ix : m.ix.length ≤ n
  ts : m.ts.length ≤ n
  tl : ∀ l ∈ m.ts, l.length ≤ n

theorem MoL.mono {n k : Nat} {m : Mo} (h : MoL n m) (hk : n ≤ k) : MoL k m := ⟨Nat.le_trans h.ns hk, fun x hx => Nat.le_trans (h.ss x hx) hk, Nat.le_trans h.ix hk, Nat.le_trans h.ts hk, fun x hx => Nat.le_trans (h.tl x hx) hk⟩

theorem bytes_loop (s : ByteArray) : ∀ (n i : Nat) (r : List UInt8), s.size - i ≤ n → ByteArray.toList.loop s i r = r.reverse ++ s.data.toList.drop i := by
  have hs : s.data.toList.length = s.size := by cases s; rfl
  intro n
  induction n with
  | zero =>
    intro i r h
    rw [ByteArray.toList.loop, if_neg (by omega), List.drop_eq_nil_of_le (by omega)]
    simp
  | succ n ih =>
    intro i r h
    rw [ByteArray.toList.loop]
    split
    · rename_i hi
      rw [ih _ _ (by omega)]
      have hi' : i < s.data.toList.length := by omega
      rw [List.drop_eq_getElem_cons hi']
      have : s.get! i = s.data.toList[i] := by
        cases s with
        | mk d =>
          show d[i]! = _
          rw [getElem!_pos d i (by simpa using hi')]
          simp
      simp [this]
    · rename_i hi
      rw [List.drop_eq_nil_of_le (by omega)]
      simp

theorem toList_data (s : ByteArray) : s.toList = s.data.toList := by
  unfold ByteArray.toList
  rw [bytes_loop s s.size 0 [] (by omega)]
  simp

theorem toList_inj {x y : ByteArray} (h : x.toList = y.toList) : x = y := by
  rw [toList_data, toList_data] at h
  cases x; cases y
  simp at h
  simp [h]

theorem str_ne {x y : ByteArray} (h : ¬ x = y) : (x.toList == y.toList) = false := by
  simp only [beq_eq_false_iff_ne, ne_eq]
  exact fun e => h (toList_inj e)

def rwS (q : Bool) (l : List ByteArray) : PV := if q then .own 1 (strs l) else .sl 1 (strs l)

@[simp] theorem fz_rwS (q : Bool) (l : List ByteArray) : fz (rwS q l) = .sl 1 (strs l) := by cases q <;> simp [rwS]

def rwsS (q : Bool) (L : List (List ByteArray)) : List (List PV) := L.map fun l => [rwS q l]

@[simp] theorem rwsS_len (q : Bool) (L : List (List ByteArray)) : (rwsS q L).length = L.length := by simp [rwsS]

def ltr (n : Int) : Bool := decide (97 ≤ n) && decide (n ≤ 122)

def dgt (n : Int) : Bool := decide (48 ≤ n) && decide (n ≤ 57)

def chB (s : ByteArray) (i : Nat) : Bool := match s[i]? with
  | none => true
  | some b => ltr b.toNat || (decide (i ≠ 0) && dgt b.toNat)

def nameB (s : ByteArray) : Bool := within s.size 1 12 && (List.range s.size).all (chB s)

theorem chB_eq {s : ByteArray} {i : Nat} {b : UInt8} (h : s[i]? = some b) : chB s i = (ltr b.toNat || (decide (i ≠ 0) && dgt b.toNat)) := by simp [chB, h]

theorem R_impl_NameOk (s : ByteArray) (hs : s.size ≤ 9223372036854775807) : RUN T k_impl_NameOk [.v (.string s)] = some ([bv (nameB s)], []) := by
  refine RUN_W T_impl_NameOk rfl ?_
  simp [-getElem?_pos, k_impl_NameOk_ic, k_impl_NameOk_rv]
  refine W_loop (fun n st => ∃ i : Nat, i + n = s.size ∧ (∀ j, j < i → chB s j = true) ∧ st.V 0 = .v (.string s) ∧ st.V 6 = iv s.size ∧ st.V 7 = iv i) ?_ s.size _ ⟨0, by simp⟩
  rintro n st ⟨i, hi, hj, v0, v6, v7⟩
  simp [k_impl_NameOk_b0, v6, v7]
  refine Br_i (fun h => ?_) (fun h => ?_)
  · simp at h
    obtain ⟨b, hb⟩ : ∃ b, s[i]? = some b := ⟨_, getElem?_pos s i h⟩
    have hw := wS h hs
    have hc := chB_eq hb
    obtain ⟨c, hcc⟩ : ∃ c : Int, c = b.toNat := ⟨_, rfl⟩
    rw [← hcc] at hc
    have hi0 : ((i : Int) = 0) = (i = 0) := by simp
    rcases Classical.propComplete (97 ≤ c) with a1 | a1
    all_goals rcases Classical.propComplete (c ≤ 122) with a2 | a2
    all_goals rcases Classical.propComplete (i = 0) with a3 | a3
    all_goals rcases Classical.propComplete (48 ≤ c) with a4 | a4
    all_goals rcases Classical.propComplete (c ≤ 57) with a5 | a5
    all_goals have a6 : (c < 48) = ¬ (48 ≤ c) := by simp
    all_goals have a7 : (57 < c) = ¬ (c ≤ 57) := by simp
    all_goals simp [ltr, dgt, a1, a2, a3, a4, a5] at hc
    all_goals simp [-getElem?_pos, v0, v6, v7, hb, ← hcc, a1, a2, a3, a4, a5, a6, a7, hi0, hw]
    all_goals first
      | exact Rnd_n (n - 1) (by omega) ⟨i + 1, by omega, snoc_nat hj hc, by simp [v0], by simp [v6], by simp⟩
      | (have no : nameB s = false := by
           unfold nameB
           rw [range_no h hc]; simp
         simp [no]; done)
      | skip
  · simp at h
    have := range_all (p := chB s) (n := s.size) fun j hj' => hj j (by omega)
    unfold nameB
    rw [this]
    simp [-getElem?_pos, v0, R_impl_within', -R_impl_within]

theorem R_spec_NameOk (s : ByteArray) (hs : s.size ≤ 9223372036854775807) : RUN T k_spec_NameOk [.v (.string s)] = some ([bv (nameB s)], []) := by
  refine RUN_W T_spec_NameOk rfl ?_
  rcases Bool.eq_false_or_eq_true (within s.size 1 12) with h0 | h0
  case inr =>
    have no : nameB s = false := by unfold nameB; rw [h0]; rfl
    simp [-getElem?_pos, k_spec_NameOk_ic, k_spec_NameOk_rv, R_spec_l1In', -R_spec_l1In, h0, no]
  have hr := within_iff.mp h0
  obtain ⟨b0, hb0⟩ : ∃ b, s[0]? = some b := ⟨_, getElem?_pos s 0 (by omega)⟩
  have hn0 : natIx (.v (.int .i64 0)) = some 0 := rfl
  rcases Classical.propComplete (((b0.toNat : Nat) : Int) < 97) with f | f
  case inl =>
    have hc : chB s 0 = false := by
      rw [chB_eq hb0]
      have : ¬ (97 ≤ (b0.toNat : Int)) := by have := of_eq_true f; omega
      simp [ltr, this]
    have no : nameB s = false := by unfold nameB; rw [range_no (by omega) hc]; simp
    simp [-getElem?_pos, k_spec_NameOk_ic, k_spec_NameOk_rv, R_spec_l1In', -R_spec_l1In, h0, no, hb0, f]
  simp [-getElem?_pos, k_spec_NameOk_ic, k_spec_NameOk_rv, R_spec_l1In', -R_spec_l1In, h0, hb0, f]
  refine W_loop (fun n st => ∃ i : Nat, i + n = s.size ∧ (∀ j, j < i → chB s j = true) ∧ st.V 0 = .v (.string s) ∧ st.V 3 = iv i) ?_ s.size _ ⟨0, by simp⟩
  rintro n st ⟨i, hi, hj, v0, v3⟩
  simp [k_spec_NameOk_b0, v0, v3]
  refine Br_i (fun h => ?_) (fun h => ?_)
  · simp at h
    obtain ⟨b, hb⟩ : ∃ b, s[i]? = some b := ⟨_, getElem?_pos s i h⟩
    have hw := wS h hs
    have hc := chB_eq hb
    have hcv : IntKind.i64.wrap (b.toNat : Int) = b.toNat := w64 (by omega) (by have := b.toNat_lt; omega)
    have e1 : within (b.toNat : Int) 97 122 = ltr b.toNat := rfl
    have e2 : within (b.toNat : Int) 48 57 = dgt b.toNat := rfl
    cases a1 : ltr b.toNat with
    | true =>
      have e3 := e1.trans a1
      simp [-getElem?_pos, v0, v3, hb, hcv, e3, hw, R_spec_l1In', -R_spec_l1In]
      exact Rnd_n (n - 1) (by omega) ⟨i + 1, by omega, snoc_nat hj (by rw [hc, a1]; rfl), by simp [v0], by simp⟩
    | false =>
      have e3 := e1.trans a1
      cases a2 : dgt b.toNat with
      | true =>
        have e4 := e2.trans a2
        have hi0 : i ≠ 0 := by
          rintro rfl
          rw [hb0] at hb
          cases hb
          simp [dgt] at a2
          have := of_eq_false f
          omega
        simp [-getElem?_pos, v0, v3, hb, hcv, e3, e4, hw, R_spec_l1In', -R_spec_l1In]
        exact Rnd_n (n - 1) (by omega) ⟨i + 1, by omega, snoc_nat hj (by rw [hc, a1, a2]; simp [hi0]), by simp [v0], by simp⟩
      | false =>
        have e4 := e2.trans a2
        have no : nameB s = false := by unfold nameB; rw [range_no h (by rw [hc, a1, a2]; simp : chB s i = false)]; simp
        simp [-getElem?_pos, v0, v3, hb, hcv, e3, e4, hw, no, R_spec_l1In', -R_spec_l1In]
  · simp at h
    have := range_all (p := chB s) (n := s.size) fun j hj' => hj j (by omega)
    have ok : nameB s = true := by unfold nameB; rw [this, h0]; rfl
    simp [ok]

theorem take_strs (l : List ByteArray) (i : Nat) : List.take i (strs l) = strs (l.take i) := by simp [strs]

def hasB (l : List ByteArray) (x : ByteArray) : Bool := l.any fun y => decide (y = x)

theorem R_spec_l9Has (l : List ByteArray) (x : ByteArray) (hl : l.length ≤ 9223372036854775807) : RUN T k_spec_l9Has [.sl 1 (strs l), .v (.string x)] = some ([bv (hasB l x)], []) := by
  refine RUN_W T_spec_l9Has rfl ?_
  simp [-getElem?_pos, k_spec_l9Has_ic, k_spec_l9Has_rv]
  refine W_loop (fun n st => ∃ i : Nat, i + n = l.length ∧ (∀ (j : Nat) (y : ByteArray), j < i → l[j]? = some y → ¬ y = x) ∧ st.V 0 = .sl 1 (strs l) ∧ st.V 1 = .v (.string x) ∧ st.V 5 = iv i) ?_ l.length _ ⟨0, by simp⟩
  rintro n st ⟨i, hi, hj, v0, v1, v5⟩
  simp [k_spec_l9Has_b0, v0, v5]
  refine Br_i (fun h => ?_) (fun h => ?_)
  · simp at h
    obtain ⟨y, hy⟩ : ∃ y, l[i]? = some y := ⟨_, List.getElem?_eq_getElem h⟩
    have hy' := strs_get hy
    have hw := wS h hl
    by_cases e : y = x
    · subst e
      have : hasB l y = true := by
        unfold hasB; rw [List.any_eq_true]; exact ⟨y, List.mem_of_getElem? hy, by simp⟩
      simp [-getElem?_pos, v0, v1, v5, hy', h, this]
    · simp [-getElem?_pos, v0, v1, v5, hy', h, hw, str_ne e]
      exact Rnd_n (n - 1) (by omega) ⟨i + 1, by omega, snoc_all (P := fun _ y => ¬ y = x) hj hy e, by simp [v0], by simp [v1], by simp⟩
  · simp at h
    have : hasB l x = false := by
      unfold hasB
      rw [List.any_eq_false]
      intro y hy
      obtain ⟨j, hjy⟩ := List.getElem?_of_mem hy
      simpa using hj j y (by have := (List.getElem?_eq_some_iff.mp hjy).1; omega) hjy
    simp [this]

theorem R_slices_Index_string (l : List ByteArray) (x : ByteArray) (hl : l.length ≤ 9223372036854775807) : RUN T k_slices_Index___string_string_ [.sl 1 (strs l), .v (.string x)] = some ([iv (fidx (fun y => decide (y = x)) l)], []) := by
  refine RUN_W T_slices_Index___string_string_ rfl ?_
  simp [-getElem?_pos, k_slices_Index___string_string__ic, k_slices_Index___string_string__rv]
  refine W_loop (fun n st => ∃ i : Nat, i + n = l.length ∧ (∀ (j : Nat) (y : ByteArray), j < i → l[j]? = some y → decide (y = x) = false) ∧ st.V 0 = .sl 1 (strs l) ∧ st.V 1 = .v (.string x) ∧ st.V 7 = iv l.length ∧ st.V 8 = iv i) ?_ l.length _ ⟨0, by simp⟩
  rintro n st ⟨i, hi, hj, v0, v1, v7, v8⟩
  simp [k_slices_Index___string_string__b0, v7, v8]
  refine Br_i (fun h => ?_) (fun h => ?_)
  · simp at h
    obtain ⟨y, hy⟩ : ∃ y, l[i]? = some y := ⟨_, List.getElem?_eq_getElem h⟩
    have hy' := strs_get hy
    have hw := wS h hl
    by_cases e : y = x
    · subst e
      have := fidx_some (p := fun z => decide (z = y)) hy (by simp) hj
      simp [-getElem?_pos, v0, v1, v7, v8, hy', h, this]
    · simp [-getElem?_pos, v0, v1, v7, v8, hy', h, hw, str_ne (fun e' => e e'.symm)]
      exact Rnd_n (n - 1) (by omega) ⟨i + 1, by omega, snoc_all (P := fun _ y => decide (y = x) = false) hj hy (by simpa using e), by simp [v0], by simp [v1], by simp [v7], by simp⟩
  · simp at h
    have := fidx_none (p := fun z => decide (z = x)) (l := l) fun j y h1 h2 => hj j y (by omega) h2
    simp [-getElem?_pos, this]

theorem R_slices_Contains_string (l : List ByteArray) (x : ByteArray) (hl : l.length ≤ 9223372036854775807) : RUN T k_slices_Contains___string_string_ [.sl 1 (strs l), .v (.string x)] = some ([bv (hasB l x)], []) := by
  refine RUN_W T_slices_Contains___string_string_ rfl ?_
  have h := R_slices_Index_string l x hl
  have e := fidx_neg (p := fun y => decide (y = x)) (l := l)
  have e2 : hasB l x = l.any fun y => decide (y = x) := rfl
  rw [e2, ← e]
  simp [-getElem?_pos, k_slices_Contains___string_string__ic, k_slices_Contains___string_string__rv, h]

def nmB (L : List ByteArray) (i : Nat) : Bool := match L[i]? with
  | none => true
  | some x => nameB x && !hasB (L.take i) x

def namesB (L : List ByteArray) : Bool := (List.range L.length).all (nmB L)

theorem nmB_eq {L : List ByteArray} {i : Nat} {x : ByteArray} (h : L[i]? = some x) : nmB L i = (nameB x && !hasB (L.take i) x) := by simp [nmB, h]

theorem R_impl_areNames (L : List ByteArray) (hl : L.length ≤ 9223372036854775807) (hs : ∀ x ∈ L, x.size ≤ 9223372036854775807) : RUN T k_impl_areNames [.sl 1 (strs L)] = some ([bv (namesB L)], []) := by
  refine RUN_W T_impl_areNames rfl ?_
  simp [-getElem?_pos, k_impl_areNames_ic, k_impl_areNames_rv]
  refine W_loop (fun n st => ∃ i : Nat, i + n = L.length ∧ (∀ j, j < i → nmB L j = true) ∧ st.V 0 = .sl 1 (strs L) ∧ st.V 5 = .sl 1 (strs L) ∧ st.V 6 = iv L.length ∧ st.V 7 = iv i) ?_ L.length _ ⟨0, by simp⟩
  rintro n st ⟨i, hi, hj, v0, v5, v6, v7⟩
  simp [k_impl_areNames_b0, v6, v7]
  refine Br_i (fun h => ?_) (fun h => ?_)
  · simp at h
    obtain ⟨x, hx⟩ : ∃ x, L[i]? = some x := ⟨_, List.getElem?_eq_getElem h⟩
    have hx' := strs_get hx
    have hw := wS h hl
    have hN := R_impl_NameOk x (hs x (List.mem_of_getElem? hx))
    have hC := R_slices_Contains_string (L.take i) x (by simp; omega)
    have hc := nmB_eq hx
    have hil : i ≤ L.length := by omega
    cases a1 : nameB x with
    | false =>
      rw [a1] at hN hc
      have no : namesB L = false := range_no h (by rw [hc]; rfl)
      simp [-getElem?_pos, v0, v5, v6, v7, hx', h, hw, hN, no]
    | true =>
      rw [a1] at hN hc
      cases a2 : hasB (L.take i) x with
      | true =>
        rw [a2] at hC hc
        have no : namesB L = false := range_no h (by rw [hc]; rfl)
        simp [-getElem?_pos, v0, v5, v6, v7, hx', h, hw, hN, hC, hil, take_strs, no]
      | false =>
        rw [a2] at hC hc
        simp [-getElem?_pos, v0, v5, v6, v7, hx', h, hw, hN, hC, hil, take_strs]
        exact Rnd_n (n - 1) (by omega) ⟨i + 1, by omega, snoc_nat hj (by rw [hc]; rfl), by simp [v0], by simp [v5], by simp [v6], by simp⟩
  · simp at h
    have : namesB L = true := range_all fun j hj' => hj j (by omega)
    simp [this]

@[simp] theorem R_impl_ModelOk_1 (n : Int) : RUN T k_impl_ModelOk_1 [iv n] = some ([bv (!within n (-1) 1)], []) := by
  refine RUN_W T_impl_ModelOk_1 rfl ?_
  simp [k_impl_ModelOk_1_ic, k_impl_ModelOk_1_rv]

theorem R_impl_ModelOk_2 (t : List Nd) (F : Int) (hl : t.length ≤ 9223372036854775807) : RUN T k_impl_ModelOk_2 [.agg [.sl 5 (t.map nd)], .fptr [iv F] 0] = some ([bv (!treeB t F)], []) := by
  refine RUN_W T_impl_ModelOk_2 rfl ?_
  simp [-getElem?_pos, k_impl_ModelOk_2_ic, k_impl_ModelOk_2_rv, R_impl_TreeOk t F hl]

theorem R_slices_IndexFunc_Tree_c {q : Bool} {f : Nat} {c : PV} {p : List Nd → Bool} (M : List (List Nd)) (hl : M.length ≤ 9223372036854775807) (hm : modesOf T f = []) (hp : ∀ t ∈ M, RUN T f [.agg [.sl 5 (t.map nd)], .fptr [c] 0] = some ([bv (p t)], [])) :
    RUN T k_slices_IndexFunc___impl_Tree_impl_Tree_ [.sl 1 (trs q M), .fn f [.fptr [c] 0]] = some ([iv (fidx p M)], []) := by
  refine RUN_W T_slices_IndexFunc___impl_Tree_impl_Tree_ rfl ?_
  simp [k_slices_IndexFunc___impl_Tree_impl_Tree__ic, k_slices_IndexFunc___impl_Tree_impl_Tree__rv]
  refine W_loop (fun n st => ∃ i : Nat, i + n = M.length ∧ st.V 0 = .sl 1 (trs q M) ∧ st.V 1 = .fn f [.fptr [c] 0] ∧ st.V 8 = iv i ∧ st.V 7 = iv M.length ∧ ∀ (j : Nat) (x : List Nd), j < i → M[j]? = some x → p x = false) ?_ M.length _ ⟨0, by simp⟩
  rintro n st ⟨i, hi, h0, h1, h8, h7, hj⟩
  simp [k_slices_IndexFunc___impl_Tree_impl_Tree__b0, h0, h1, h8, h7]
  refine Br_i (fun h => ?_) (fun h => ?_)
  · simp at h
    obtain ⟨x, hx⟩ : ∃ x, M[i]? = some x := ⟨_, List.getElem?_eq_getElem h⟩
    have hw := wS h hl
    have hx' := trs_get (q := q) hx
    have hpx := hp x (List.mem_of_getElem? hx)
    simp [-getElem?_pos, h0, h1, h8, h7, hx', hw, hm, hpx, h]
    refine Br_i (fun b0 => ?_) (fun b0 => ?_) <;> (try simp at b0) <;> simp [-getElem?_pos, b0, h0, h1, h8, h7, hx', hw]
    all_goals first
      | exact (fidx_some hx b0 hj).symm
      | exact Rnd_n (n - 1) (by omega) ⟨i + 1, by omega, by simp [h0], by simp [h1], by simp, by simp [h7], no_snoc hj hx b0⟩
  · simp at h
    simp [h]
    exact (fidx_none fun j x hl hx => hj j x (by omega) hx).symm

theorem R_slices_ContainsFunc_Tree_c {q : Bool} {f : Nat} {c : PV} {p : List Nd → Bool} (M : List (List Nd)) (hl : M.length ≤ 9223372036854775807) (hm : modesOf T f = []) (hp : ∀ t ∈ M, RUN T f [.agg [.sl 5 (t.map nd)], .fptr [c] 0] = some ([bv (p t)], [])) :
    RUN T k_slices_ContainsFunc___impl_Tree_impl_Tree_ [.sl 1 (trs q M), .fn f [.fptr [c] 0]] = some ([bv (M.any p)], []) := by
  refine RUN_W T_slices_ContainsFunc___impl_Tree_impl_Tree_ rfl ?_
  have e := R_slices_IndexFunc_Tree_c (q := q) M hl hm hp
  simp [k_slices_ContainsFunc___impl_Tree_impl_Tree__ic, k_slices_ContainsFunc___impl_Tree_impl_Tree__rv, e, fidx_neg]

def sgnB (n : Int) : Bool := within n (-1) 1

def modB (m : Mo) : Bool := within m.ns.length 1 4 && namesB m.ns && (decide ((m.ix.length : Int) = 0) || decide ((m.ix.length : Int) = m.ns.length)) && m.ix.all sgnB && decV m.b && decide ((m.ts.length : Int) ≤ 8) && m.ts.all fun t => treeB t m.ns.length

set_option maxHeartbeats 1000000 in
theorem R_impl_ModelOk (q : Bool) (m : Mo) (hm : MoL 9223372036854775807 m) : RUN T k_impl_ModelOk [moS q m] = some ([bv (modB m)], []) := by
  refine RUN_W T_impl_ModelOk rfl ?_
  have h1 := R_impl_areNames m.ns hm.ns hm.ss
  have h2 := R_slices_ContainsFunc_int (f := k_impl_ModelOk_1) (p := fun n => !sgnB n) m.ix hm.ix (by simp) (fun n _ => by simp [sgnB])
  have h3 := R_slices_ContainsFunc_Tree_c (q := q) (f := k_impl_ModelOk_2) (c := iv m.ns.length) (p := fun t => !treeB t m.ns.length) m.ts hm.ts (by simp) (fun t ht => R_impl_ModelOk_2 t _ (hm.tl t ht))
  have e2 : (!(m.ix.any fun n => !sgnB n)) = m.ix.all sgnB := by simp [List.any_eq_not_all_not]
  have e3 : (!(m.ts.any fun t => !treeB t m.ns.length)) = m.ts.all fun t => treeB t m.ns.length := by simp [List.any_eq_not_all_not]
  unfold modB
  rw [← e2, ← e3]
  cases a1 : within m.ns.length 1 4 with
  | false => simp [-getElem?_pos, k_impl_ModelOk_ic, k_impl_ModelOk_rv, R_impl_within', -R_impl_within, a1]
  | true =>
  cases a2 : namesB m.ns with
  | false =>
    rw [a2] at h1
    simp [-getElem?_pos, k_impl_ModelOk_ic, k_impl_ModelOk_rv, R_impl_within', -R_impl_within, a1, h1]
  | true =>
  rw [a2] at h1
  rcases Classical.propComplete (m.ix = []) with b1 | b1
  all_goals rcases Classical.propComplete ((m.ix.length : Int) = m.ns.length) with b2 | b2
  all_goals cases a3 : (m.ix.any fun n => !sgnB n)
  all_goals rw [a3] at h2
  all_goals cases a4 : decV m.b
  all_goals rcases Classical.propComplete ((m.ts.length : Int) ≤ 8) with b3 | b3
  all_goals simp [-getElem?_pos, k_impl_ModelOk_ic, k_impl_ModelOk_rv, R_impl_within', -R_impl_within, a1, h1, h2, h3, b1, b2, b3, a4]

theorem allT_no {M : List (List Nd)} {p : List Nd → Bool} {j : Nat} {a : List Nd} (h1 : M[j]? = some a) (h2 : p a = false) : M.all p = false := by
  cases e : M.all p with
  | false => rfl
  | true => rw [List.all_eq_true.mp e a (List.mem_of_getElem? h1)] at h2; cases h2

theorem allT_yes {M : List (List Nd)} {p : List Nd → Bool} (h : ∀ (j : Nat) (a : List Nd), j < M.length → M[j]? = some a → p a = true) : M.all p = true := by
  rw [List.all_eq_true]
  intro x hx
  obtain ⟨j, hj⟩ := List.getElem?_of_mem hx
  exact h j x (List.getElem?_eq_some_iff.mp hj).1 hj

theorem names_loop (q : Bool) (m : Mo) (hm : MoL 9223372036854775807 m) {Q : Ex → St → Prop} {st : St} (h1 : st.V 1 = .ptr 0 none 0 0 0) (h3 : st.V 3 = iv m.ns.length) (h4 : st.V 4 = iv (0 : Nat)) (hS : st.S 0 = some (.box [.sl 1 (strs m.ns), .sl 1 (ints m.ix), iv m.b, .sl 1 (trs q m.ts)]))
    (hr : namesB m.ns = false → ∀ s : St, s.V 2 = bv false → Q .ret s) (he : namesB m.ns = true → ∀ s : St, s.V 1 = .ptr 0 none 0 0 0 → s.V 3 = iv m.ns.length → s.S 0 = some (.box [.sl 1 (strs m.ns), .sl 1 (ints m.ix), iv m.b, .sl 1 (trs q m.ts)]) → Q (.exit 0) s) : W (modesOf T) (RUN T) (.loop k_spec_ModelOk_b0) st Q := by
  refine W_loop (fun n st => ∃ i : Nat, i + n = m.ns.length ∧ (∀ j, j < i → nmB m.ns j = true) ∧ st.V 1 = .ptr 0 none 0 0 0 ∧ st.V 3 = iv m.ns.length ∧ st.V 4 = iv i ∧ st.S 0 = some (.box [.sl 1 (strs m.ns), .sl 1 (ints m.ix), iv m.b, .sl 1 (trs q m.ts)])) ?_ m.ns.length _ ⟨0, by omega, fun _ h => by omega, h1, h3, h4, hS⟩
  clear h1 h3 h4 hS
  rintro n st ⟨i, hi, hj, v1, v3, v4, hS⟩
  simp [k_spec_ModelOk_b0, v3, v4]
  refine Br_i (fun h => ?_) (fun h => ?_)
  · simp at h
    obtain ⟨x, hx⟩ : ∃ x, m.ns[i]? = some x := ⟨_, List.getElem?_eq_getElem h⟩
    have hx' := strs_get hx
    have hw := wS h hm.ns
    have hml := hm.ns
    have hN := R_spec_NameOk x (hm.ss x (List.mem_of_getElem? hx))
    have hC := R_spec_l9Has (m.ns.take i) x (by simp; omega)
    have hc := nmB_eq hx
    have hil : i ≤ m.ns.length := by omega
    cases a1 : nameB x with
    | false =>
      rw [a1] at hN hc
      simp [-getElem?_pos, v1, v3, v4, hS, hx', h, hw, hN]
      exact hr (range_no h (by rw [hc]; rfl)) _ (by simp)
    | true =>
      rw [a1] at hN hc
      cases a2 : hasB (m.ns.take i) x with
      | true =>
        rw [a2] at hC hc
        simp [-getElem?_pos, v1, v3, v4, hS, hx', h, hw, hN, hC, hil, take_strs]
        exact hr (range_no h (by rw [hc]; rfl)) _ (by simp)
      | false =>
        rw [a2] at hC hc
        simp [-getElem?_pos, v1, v3, v4, hS, hx', h, hw, hN, hC, hil, take_strs]
        exact Rnd_n (n - 1) (by omega) ⟨i + 1, by omega, snoc_nat hj (by rw [hc]; rfl), by simp [v1], by simp [v3], by simp, by simp [hS]⟩
  · simp at h
    simp
    exact he (range_all fun j hj' => hj j (by omega)) _ (by simp [v1]) (by simp [v3]) (by simp [hS])

theorem signs_loop (q : Bool) (m : Mo) (hm : MoL 9223372036854775807 m) {Q : Ex → St → Prop} {st : St} (h1 : st.V 1 = .ptr 0 none 0 0 0) (h3 : st.V 3 = iv m.ns.length) (h5 : st.V 5 = iv (0 : Nat)) (hS : st.S 0 = some (.box [.sl 1 (strs m.ns), .sl 1 (ints m.ix), iv m.b, .sl 1 (trs q m.ts)]))
    (hr : m.ix.all sgnB = false → ∀ s : St, s.V 2 = bv false → Q .ret s) (he : m.ix.all sgnB = true → ∀ s : St, s.V 1 = .ptr 0 none 0 0 0 → s.V 3 = iv m.ns.length → s.S 0 = some (.box [.sl 1 (strs m.ns), .sl 1 (ints m.ix), iv m.b, .sl 1 (trs q m.ts)]) → Q (.exit 2) s) : W (modesOf T) (RUN T) (.loop k_spec_ModelOk_b1) st Q := by
  refine W_loop (fun n st => ∃ i : Nat, i + n = m.ix.length ∧ (∀ (j : Nat) (x : Int), j < i → m.ix[j]? = some x → sgnB x = true) ∧ st.V 1 = .ptr 0 none 0 0 0 ∧ st.V 3 = iv m.ns.length ∧ st.V 5 = iv i ∧ st.S 0 = some (.box [.sl 1 (strs m.ns), .sl 1 (ints m.ix), iv m.b, .sl 1 (trs q m.ts)])) ?_ m.ix.length _ ⟨0, by omega, fun _ _ h => by omega, h1, h3, h5, hS⟩
  clear h1 h3 h5 hS
  rintro n st ⟨i, hi, hj, v1, v3, v5, hS⟩
  simp [k_spec_ModelOk_b1, v1, v5, hS]
  refine Br_i (fun h => ?_) (fun h => ?_)
  · simp at h
    obtain ⟨x, hx⟩ : ∃ x, m.ix[i]? = some x := ⟨_, List.getElem?_eq_getElem h⟩
    have hx' := ints_get hx
    have hw := wS h hm.ix
    have e : within x (-1) 1 = sgnB x := rfl
    cases a1 : sgnB x with
    | false =>
      have e2 := e.trans a1
      simp [-getElem?_pos, v1, v3, v5, hS, hx', h, hw, e2, R_spec_l1In', -R_spec_l1In]
      exact hr (all_no hx a1) _ (by simp)
    | true =>
      have e2 := e.trans a1
      simp [-getElem?_pos, v1, v3, v5, hS, hx', h, hw, e2, R_spec_l1In', -R_spec_l1In]
      exact Rnd_n (n - 1) (by omega) ⟨i + 1, by omega, snoc_all (P := fun _ x => sgnB x = true) hj hx a1, by simp [v1], by simp [v3], by simp, by simp [hS]⟩
  · simp at h
    simp
    exact he (all_yes fun j a h1 h2 => hj j a (by omega) h2) _ (by simp [v1]) (by simp [v3]) (by simp [hS])

theorem trees_loop (q : Bool) (m : Mo) (hm : MoL 9223372036854775807 m) {Q : Ex → St → Prop} {st : St} (h1 : st.V 1 = .ptr 0 none 0 0 0) (h3 : st.V 3 = iv m.ns.length) (h6 : st.V 6 = iv (0 : Nat)) (hS : st.S 0 = some (.box [.sl 1 (strs m.ns), .sl 1 (ints m.ix), iv m.b, .sl 1 (trs q m.ts)]))
    (hr : (m.ts.all fun t => treeB t m.ns.length) = false → ∀ s : St, s.V 2 = bv false → Q .ret s) (he : (m.ts.all fun t => treeB t m.ns.length) = true → ∀ s : St, Q (.exit 4) s) : W (modesOf T) (RUN T) (.loop k_spec_ModelOk_b2) st Q := by
  refine W_loop (fun n st => ∃ i : Nat, i + n = m.ts.length ∧ (∀ (j : Nat) (x : List Nd), j < i → m.ts[j]? = some x → treeB x m.ns.length = true) ∧ st.V 1 = .ptr 0 none 0 0 0 ∧ st.V 3 = iv m.ns.length ∧ st.V 6 = iv i ∧ st.S 0 = some (.box [.sl 1 (strs m.ns), .sl 1 (ints m.ix), iv m.b, .sl 1 (trs q m.ts)])) ?_ m.ts.length _ ⟨0, by omega, fun _ _ h => by omega, h1, h3, h6, hS⟩
  clear h1 h3 h6 hS
  rintro n st ⟨i, hi, hj, v1, v3, v6, hS⟩
  simp [k_spec_ModelOk_b2, v1, v6, hS]
  refine Br_i (fun h => ?_) (fun h => ?_)
  · simp at h
    obtain ⟨x, hx⟩ : ∃ x, m.ts[i]? = some x := ⟨_, List.getElem?_eq_getElem h⟩
    have hx' := trs_get (q := q) hx
    have hw := wS h hm.ts
    have hT := R_spec_TreeOk x m.ns.length (hm.tl x (List.mem_of_getElem? hx))
    cases a1 : treeB x m.ns.length with
    | false =>
      rw [a1] at hT
      simp [-getElem?_pos, v1, v3, v6, hS, hx', h, hw, hT]
      exact hr (allT_no (p := fun t => treeB t m.ns.length) hx a1) _ (by simp)
    | true =>
      rw [a1] at hT
      simp [-getElem?_pos, v1, v3, v6, hS, hx', h, hw, hT]
      exact Rnd_n (n - 1) (by omega) ⟨i + 1, by omega, snoc_all (P := fun _ x => treeB x m.ns.length = true) hj hx a1, by simp [v1], by simp [v3], by simp, by simp [hS]⟩
  · simp at h
    simp
    exact he (allT_yes fun j a h1 h2 => hj j a (by omega) h2) _

set_option maxHeartbeats 1000000 in
theorem R_spec_ModelOk (q : Bool) (m : Mo) (hm : MoL 9223372036854775807 m) : RUN T k_spec_ModelOk [moS q m] = some ([bv (modB m)], []) := by
  refine RUN_W T_spec_ModelOk rfl ?_
  cases a1 : within m.ns.length 1 4 with
  | false =>
    have no : modB m = false := by unfold modB; rw [a1]; rfl
    simp [-getElem?_pos, k_spec_ModelOk_ic, k_spec_ModelOk_rv, R_spec_l1In', -R_spec_l1In, a1, no]
  | true =>
  have hF := within_iff.mp a1
  by_cases a5 : (decide ((m.ix.length : Int) = 0) || decide ((m.ix.length : Int) = m.ns.length)) = true
  case neg =>
    have no : modB m = false := by unfold modB; simp only [Bool.not_eq_true] at a5; rw [a5]; simp
    simp at a5
    simp [-getElem?_pos, k_spec_ModelOk_ic, k_spec_ModelOk_rv, R_spec_l1In', -R_spec_l1In, a1, no, eq_false a5.1, eq_false a5.2]
  cases a4 : decV m.b with
  | false =>
    have no : modB m = false := by unfold modB; rw [a4]; simp
    rcases Classical.propComplete (m.ix = []) with b1 | b1
    all_goals rcases Classical.propComplete ((m.ix.length : Int) = m.ns.length) with b2 | b2
    all_goals first
      | (simp [-getElem?_pos, k_spec_ModelOk_ic, k_spec_ModelOk_rv, R_spec_l1In', -R_spec_l1In, a1, no, b1, b2, a4]; done)
      | (exfalso; simp [b1, b2] at a5; done)
  | true =>
  by_cases b3 : (m.ts.length : Int) ≤ 8
  case neg =>
    have no : modB m = false := by unfold modB; rw [decide_eq_false b3]; simp
    rcases Classical.propComplete (m.ix = []) with b1 | b1
    all_goals rcases Classical.propComplete ((m.ix.length : Int) = m.ns.length) with b2 | b2
    all_goals first
      | (simp [-getElem?_pos, k_spec_ModelOk_ic, k_spec_ModelOk_rv, R_spec_l1In', -R_spec_l1In, a1, no, b1, b2, a4, eq_true (by omega : (8 : Int) < m.ts.length)]; done)
      | (exfalso; simp [b1, b2] at a5; done)
  have b3' : ((8 : Int) < m.ts.length) = False := eq_false (by omega)
  have hb : (m.ix = []) = True ∨ ((m.ix = []) = False ∧ ((m.ix.length : Int) = m.ns.length) = True) := by
    rcases Classical.propComplete (m.ix = []) with b1 | b1
    · exact .inl b1
    · refine .inr ⟨b1, ?_⟩
      simp [b1] at a5
      exact eq_true a5
  have mod : modB m = (namesB m.ns && m.ix.all sgnB && m.ts.all fun t => treeB t m.ns.length) := by
    unfold modB
    rw [a1, a4, a5, decide_eq_true b3]
    simp [Bool.and_assoc]
  rw [mod]
  rcases hb with b1 | ⟨b1, b2⟩
  all_goals first
    | simp [-getElem?_pos, k_spec_ModelOk_ic, k_spec_ModelOk_rv, R_spec_l1In', -R_spec_l1In, a1, b1, b2, a4, b3']
    | simp [-getElem?_pos, k_spec_ModelOk_ic, k_spec_ModelOk_rv, R_spec_l1In', -R_spec_l1In, a1, b1, a4, b3']
  all_goals refine names_loop q m hm (by simp) (by simp) (by simp) (by simp) (fun no s h2 => ?_) (fun ok s u1 u3 uS => ?_)
  all_goals first
    | (simp [h2, no]; done)
    | skip
  all_goals simp [-getElem?_pos, u1, u3, uS]
  all_goals refine signs_loop q m hm (by simp [u1]) (by simp [u3]) (by simp) (by simp [uS]) (fun no s h2 => ?_) (fun ok2 s w1 w3 wS => ?_)
  all_goals first
    | (simp [h2, no]; done)
    | skip
  all_goals simp [-getElem?_pos, w1, w3, wS]
  all_goals refine trees_loop q m hm (by simp [w1]) (by simp [w3]) (by simp) (by simp [wS]) (fun no s h2 => ?_) (fun ok3 s => ?_)
  all_goals first
    | (simp [h2, no]; done)
    | (simp [ok, ok2, ok3]; done)

/-- The sum of the trees' answers at a row. -/
def sumT (row : List Int) : List (List Nd) → Int → Int
  | [], a => a
  | t :: ts, a => sumT row ts (IntKind.i64.wrap (a + evt t row))

def pred (m : Mo) (row : List Int) : Int × Bool := if modB m = true ∧ (row.length : Int) = m.ns.length then (sumT row m.ts m.b, true) else (0, false)

theorem R_spec_Predict (q : Bool) (m : Mo) (row : List Int) (hm : MoL 1048576 m) (hr : row.length ≤ 1048576) : RUN T k_spec_Predict [moS q m, .sl 1 (ints row)] = some ([iv (pred m row).1, bv (pred m row).2], []) := by
  refine RUN_W T_spec_Predict rfl ?_
  have h1 := R_spec_ModelOk q m (hm.mono (by omega))
  have hml := hm.ts
  cases a1 : modB m with
  | false =>
    have no : pred m row = (0, false) := by unfold pred; rw [if_neg (by simp [a1])]
    rw [a1] at h1
    simp [-getElem?_pos, k_spec_Predict_ic, k_spec_Predict_rv, h1, no]
  | true =>
    rw [a1] at h1
    rcases Classical.propComplete ((row.length : Int) = m.ns.length) with b1 | b1
    case inr =>
      have no : pred m row = (0, false) := by unfold pred; rw [if_neg (by simp [b1])]
      simp [-getElem?_pos, k_spec_Predict_ic, k_spec_Predict_rv, h1, b1, no]
    have ok : pred m row = (sumT row m.ts m.b, true) := by unfold pred; rw [if_pos ⟨a1, of_eq_true b1⟩]
    rw [ok]
    simp [-getElem?_pos, k_spec_Predict_ic, k_spec_Predict_rv, h1, b1]
    refine W_loop (fun n st => ∃ (i : Nat) (a : Int), i + n = m.ts.length ∧ sumT row (m.ts.drop i) a = sumT row m.ts m.b ∧ st.V 1 = .sl 1 (ints row) ∧ st.V 2 = .ptr 0 none 0 0 0 ∧ st.V 6 = iv a ∧ st.V 7 = iv i ∧ st.S 0 = some (.box [.sl 1 (strs m.ns), .sl 1 (ints m.ix), iv m.b, .sl 1 (trs q m.ts)])) ?_ m.ts.length _ ⟨0, m.b, by omega, by simp, by simp⟩
    rintro n st ⟨i, a, hi, ha, v1, v2, v6, v7, hS⟩
    simp [k_spec_Predict_b0, v2, v7, hS]
    refine Br_i (fun h => ?_) (fun h => ?_)
    · simp at h
      obtain ⟨t, ht⟩ : ∃ t, m.ts[i]? = some t := ⟨_, List.getElem?_eq_getElem h⟩
      have ht' := trs_get (q := q) ht
      have hw := wS h (by omega : m.ts.length ≤ 9223372036854775807)
      have hE := R_spec_EvalTree t row (hm.tl t (List.mem_of_getElem? ht)) hr
      rw [drop_cons ht, sumT] at ha
      simp [-getElem?_pos, v1, v2, v6, v7, hS, ht', h, hw, hE]
      exact Rnd_n (n - 1) (by omega) ⟨i + 1, _, by omega, ha, by simp [v1], by simp [v2], by simp, by simp, by simp [hS]⟩
    · simp at h
      rw [List.drop_eq_nil_of_le h, sumT] at ha
      simp [-getElem?_pos, v6, ha]

theorem R_impl_Predict (q : Bool) (m : Mo) (row : List Int) (hm : MoL 1048576 m) (hr : row.length ≤ 1048576) : RUN T k_impl_Predict [moS q m, .sl 1 (ints row)] = some ([iv (pred m row).1, bv (pred m row).2], []) := by
  refine RUN_W T_impl_Predict rfl ?_
  have h1 := R_impl_ModelOk q m (hm.mono (by omega))
  have hml := hm.ts
  cases a1 : modB m with
  | false =>
    have no : pred m row = (0, false) := by unfold pred; rw [if_neg (by simp [a1])]
    rw [a1] at h1
    simp [-getElem?_pos, k_impl_Predict_ic, k_impl_Predict_rv, h1, no]
  | true =>
    rw [a1] at h1
    rcases Classical.propComplete ((row.length : Int) = m.ns.length) with b1 | b1
    case inr =>
      have no : pred m row = (0, false) := by unfold pred; rw [if_neg (by simp [b1])]
      simp [-getElem?_pos, k_impl_Predict_ic, k_impl_Predict_rv, h1, b1, no]
    have ok : pred m row = (sumT row m.ts m.b, true) := by unfold pred; rw [if_pos ⟨a1, of_eq_true b1⟩]
    rw [ok]
    simp [-getElem?_pos, k_impl_Predict_ic, k_impl_Predict_rv, h1, b1]
    refine W_loop (fun n st => ∃ (i : Nat) (a : Int), i + n = m.ts.length ∧ sumT row (m.ts.drop i) a = sumT row m.ts m.b ∧ st.V 1 = .sl 1 (ints row) ∧ st.V 6 = iv a ∧ st.V 23 = .sl 1 (trs q m.ts) ∧ st.V 24 = iv m.ts.length ∧ st.V 25 = iv i) ?_ m.ts.length _ ⟨0, m.b, by omega, by simp, by simp⟩
    rintro n st ⟨i, a, hi, ha, v1, v6, v23, v24, v25⟩
    simp [k_impl_Predict_b0, v24, v25]
    refine Br_i (fun h => ?_) (fun h => ?_)
    · simp at h
      obtain ⟨t, ht⟩ : ∃ t, m.ts[i]? = some t := ⟨_, List.getElem?_eq_getElem h⟩
      have ht' := trs_get (q := q) ht
      have hw := wS h (by omega : m.ts.length ≤ 9223372036854775807)
      have hE := R_impl_EvalTree t row (hm.tl t (List.mem_of_getElem? ht)) hr
      rw [drop_cons ht, sumT] at ha
      simp [-getElem?_pos, v1, v6, v23, v24, v25, ht', h, hw, hE]
      exact Rnd_n (n - 1) (by omega) ⟨i + 1, _, by omega, ha, by simp [v1], by simp, by simp [v23], by simp [v24], by simp⟩
    · simp at h
      rw [List.drop_eq_nil_of_le h, sumT] at ha
      simp [-getElem?_pos, v6, ha]

/-- The numbers below one that are meant. -/
def picks (p : Nat → Bool) (i : Nat) : List Int := ((List.range i).filter p).map fun (j : Nat) => (j : Int)

@[simp] theorem picks_0 (p : Nat → Bool) : picks p 0 = [] := rfl

theorem drop_cons' {l : List Int} {i : Nat} {x : Int} (h : l[i]? = some x) : l.drop i = x :: l.drop (i + 1) := by
  have hlt : i < l.length := by
    rcases Nat.lt_or_ge i l.length with h' | h'
    · exact h'
    · rw [List.getElem?_eq_none (by omega)] at h; cases h
  rw [List.drop_eq_getElem_cons hlt]
  congr 1
  rw [List.getElem?_eq_getElem hlt] at h
  exact Option.some.inj h

theorem nodup_le : ∀ (M : Nat) (q : List Int), q.Nodup → (∀ y ∈ q, 0 ≤ y ∧ y < M) → q.length ≤ M
  | 0, q, _, h => by
    cases q with
    | nil => simp
    | cons x q => have := h x (by simp); omega
  | M + 1, q, hn, h => by
    by_cases hm : (M : Int) ∈ q
    · have h1 := nodup_le M (q.erase M) (hn.erase _) (fun y hy => by
        obtain ⟨h1, h2⟩ := (List.Nodup.mem_erase_iff hn).mp hy
        have := h y h2
        omega)
      rw [List.length_erase_of_mem hm] at h1
      omega
    · exact Nat.le_trans (nodup_le M q hn (fun y hy => by
        have := h y hy
        have : y ≠ M := fun e => hm (e ▸ hy)
        omega)) (by omega)

/-- Every slot has one parent at most, and the root none. -/
def Good (u : List Nd) : Prop := ∀ (j : Nat) (n : Nd), u[j]? = some n → n.f ≠ -1 → 1 ≤ n.l ∧ n.l < u.length ∧ 1 ≤ n.r ∧ n.r < u.length ∧ n.l ≠ n.r ∧ ∀ (j' : Nat) (n' : Nd), u[j']? = some n' → n'.f ≠ -1 → (n.l = n'.l ∨ n.l = n'.r ∨ n.r = n'.l ∨ n.r = n'.r) → j = j'

structure QI (u : List Nd) (q : List Int) (i : Nat) : Prop where
  nd : q.Nodup
  rg : ∀ y ∈ q, 0 ≤ y ∧ y < u.length
  up : ∀ y ∈ q, y = 0 ∨ ∃ z ∈ q.take i, ∃ n, u[z.toNat]? = some n ∧ n.f ≠ -1 ∧ (y = n.l ∨ y = n.r)

theorem QI.skip {u : List Nd} {q : List Int} {i : Nat} (h : QI u q i) : QI u q (i + 1) :=
  ⟨h.nd, h.rg, fun y hy => by
    rcases h.up y hy with h1 | ⟨z, hz, n, h2⟩
    · exact .inl h1
    · exact .inr ⟨z, (List.take_subset_take_left q (Nat.le_succ i)) hz, n, h2⟩⟩

theorem QI.step {u : List Nd} (hg : Good u) {q : List Int} {i : Nat} (h : QI u q i) {z : Int} (hz : q[i]? = some z) {n : Nd} (hn : u[z.toNat]? = some n) (hf : n.f ≠ -1) : QI u (q ++ [n.l, n.r]) (i + 1) := by
  obtain ⟨g1, g2, g3, g4, g5, g6⟩ := hg _ _ hn hf
  have hlt : i < q.length := by
    rcases Nat.lt_or_ge i q.length with h' | h'
    · exact h'
    · rw [List.getElem?_eq_none (by omega)] at hz; cases hz
  have hzr := h.rg z (List.mem_of_getElem? hz)
  have hno : z ∉ q.take i := by
    intro hm
    have hd := h.nd
    rw [← List.take_append_drop i q, drop_cons' hz, List.nodup_append] at hd
    exact hd.2.2 z hm z (by simp) rfl
  have key : ∀ y ∈ q, (y = n.l ∨ y = n.r) → False := by
    intro y hy hc
    rcases h.up y hy with h1 | ⟨z', hz', n', h2, h3, h4⟩
    · omega
    · have := g6 _ _ h2 h3 (by rcases hc with c | c <;> rcases h4 with d | d <;> omega)
      have hz'r := h.rg z' (List.mem_of_mem_take hz')
      have : z = z' := by omega
      exact hno (this ▸ hz')
  refine ⟨?_, ?_, ?_⟩
  · rw [List.nodup_append]
    refine ⟨h.nd, by simp [g5], fun a ha b hb => ?_⟩
    rintro rfl
    simp at hb
    exact key a ha hb
  · intro y hy
    rcases List.mem_append.mp hy with hy | hy
    · exact h.rg y hy
    · simp at hy; omega
  · intro y hy
    rcases List.mem_append.mp hy with hy | hy
    · rcases h.up y hy with h1 | ⟨z', hz', n', h2⟩
      · exact .inl h1
      · refine .inr ⟨z', ?_, n', h2⟩
        rw [List.take_append_of_le_length (by omega)]
        exact (List.take_subset_take_left q (Nat.le_succ i)) hz'
    · refine .inr ⟨z, ?_, n, hn, hf, by simpa using hy⟩
      rw [List.take_append_of_le_length (by omega)]
      rw [List.take_succ, hz]; simp

theorem QI.len {u : List Nd} {q : List Int} {i : Nat} (h : QI u q i) : q.length ≤ u.length := nodup_le _ q h.nd h.rg

theorem nds_snoc (l : List Nd) (x : Nd) : l.map nd ++ [[iv x.f, iv x.c, iv x.l, iv x.r, iv x.v]] = (l ++ [x]).map nd := by simp [nd]

theorem nds_get {l : List Nd} {i : Nat} {x : Nd} (h : l[i]? = some x) : (l.map nd)[i]? = some [iv x.f, iv x.c, iv x.l, iv x.r, iv x.v] := by simp [h, nd]

def GL (N : Nat) (r : List PV × List PV) : Prop := ∃ w : List Nd, w.length ≤ N ∧ r = ([.agg [.own 5 (w.map nd)]], [])

set_option maxHeartbeats 1000000 in
theorem R_spec_l17Levels (u : List Nd) (hg : Good u) (h0 : 1 ≤ u.length) (hl : u.length ≤ 1000) : ∃ r, RUN T k_spec_l17Levels [.sl 5 (u.map nd)] = some r ∧ GL u.length r := by
  refine RUN_G T_spec_l17Levels rfl ?_
  have hr8 : roomFor 8 1 = true := by decide
  simp [k_spec_l17Levels_ic, k_spec_l17Levels_rv, hr8]
  refine W_loop (fun n st => ∃ (i oq eq : Nat) (q : List Int) (w : List Nd) (x : PV) (nxt : Int), i + n = u.length ∧ w.length = i ∧ QI u q i ∧ i ≤ q.length ∧ 1 ≤ q.length ∧ st.V 0 = .sl 5 (u.map nd) ∧ st.V 2 = .ptr 0 none 0 0 0 ∧ st.V 3 = .ptr 1 none 0 0 0 ∧ st.V 4 = .ref oq none eq 0 q.length ∧ st.V 5 = iv nxt ∧ st.V 6 = iv i ∧ 1 < oq ∧ oq < st.nx ∧ st.S oq = some (.row 1 (ints q)) ∧ ((w = [] ∧ x = .e0) ∨ ∃ ow ew, ow ≠ oq ∧ 1 < ow ∧ ow < st.nx ∧ x = .ref ow none ew 0 w.length ∧ st.S ow = some (.row 5 (w.map nd))) ∧ st.S 0 = some (.box [.e0]) ∧ st.S 1 = some (.box [x])) ?_ u.length _ ⟨0, 2, 0, [0], [], .e0, 1, by simp, rfl, ⟨by simp, by simp; omega, by simp⟩, by simp, by simp, by simp, by simp, by simp, by simp, by simp, by simp, by simp, by simp, by simp [ints], .inl ⟨rfl, rfl⟩, by simp, by simp⟩
  rintro n st ⟨i, oq, eq, q, w, x, nxt, hi, hw, hq, hiq, hq1, v0, v2, v3, v4, v5, v6, ho, hox, hSo, hx, hS, hS1⟩
  have hlen := hq.len
  simp [k_spec_l17Levels_b0, v4, v6, hSo]
  obtain ⟨f1, f2, f3, f4⟩ := fr hox
  obtain ⟨g1, g2, g3, g4⟩ := fr (show 0 < oq by omega)
  obtain ⟨z1, z2, z3, z4⟩ := fr (show 0 < st.nx by omega)
  obtain ⟨y1, y2, y3, y4⟩ := fr (show 1 < oq by omega)
  obtain ⟨x1, x2, x3, x4⟩ := fr (show 1 < st.nx by omega)
  refine Br_i (fun h => ?_) (fun h => ?_)
  · simp at h
    obtain ⟨z, hz⟩ : ∃ z, q[i]? = some z := ⟨_, List.getElem?_eq_getElem h⟩
    obtain ⟨hz0, hz1⟩ := hq.rg z (List.mem_of_getElem? hz)
    obtain ⟨zn, rfl⟩ : ∃ k : Nat, z = k := ⟨z.toNat, by omega⟩
    obtain ⟨m, hm⟩ : ∃ m, u[zn]? = some m := ⟨_, List.getElem?_eq_getElem (by omega)⟩
    have hz' := ints_get hz
    have hm' := nds_get hm
    have hws := wS h (by omega : q.length ≤ 9223372036854775807)
    have hr1 := room8 (n := q.length + 2) (by omega)
    have hr2 : roomFor 40 (w.length + 1) = true := by simp [roomFor]; omega
    have hr3 : roomFor 40 1 = true := by decide
    have hQ : m.f ≠ -1 → QI u (q ++ [m.l, m.r]) (i + 1) := fun hf => hq.step hg hz (by simpa using hm) hf
    have hints : ints q ++ [[iv m.l], [iv m.r]] = ints (q ++ [m.l, m.r]) := by simp [ints]
    have hn1 := nds_snoc w m
    have hn2 := nds_snoc w ⟨m.f, m.c, nxt, IntKind.i64.wrap (nxt + 1), m.v⟩
    simp only at hn2
    rcases Classical.propComplete (m.f = -1) with hf | hf
    · rcases hx with ⟨rfl, rfl⟩ | ⟨ow, ew, how, ho1, ho2, rfl, hSw⟩
      · simp [-getElem?_pos, v0, v2, v3, v4, v5, v6, hS, hS1, hSo, hz', hm', hf, hws, h, hr3, f1, f2, f3, f4, g1, g2, g3, g4, z1, z2, z3, z4, y1, y2, y3, y4, x1, x2, x3, x4]
        refine Rnd_n (n - 1) (by omega) ⟨i + 1, oq, eq, q, [m], _, nxt, by omega, by simp at hw; simp; omega, hq.skip, by omega, by omega, by simp [v0], by simp [v2], by simp [v3], by simp [v4], by simp [v5], by simp, ho, by simp; omega, by simp [f1, f2, f3, f4, g1, g2, g3, g4, z1, z2, z3, z4, y1, y2, y3, y4, x1, x2, x3, x4, hSo], .inr ⟨st.nx + 2, st.ep, by omega, by omega, by simp, rfl, by simp [nd]⟩, by simp [f1, f2, f3, f4, g1, g2, g3, g4, z1, z2, z3, z4, y1, y2, y3, y4, x1, x2, x3, x4, hS], by simp⟩
      · obtain ⟨b1, b2, b3, b4⟩ := fr ho2
        obtain ⟨c1, c2, c3, c4⟩ := fr ho1
        obtain ⟨d1, d2, d3, d4⟩ := fr (show 0 < ow by omega)
        have k1 : (ow = oq) = False := eq_false how
        have k2 : (oq = ow) = False := eq_false (fun e => how e.symm)
        obtain ⟨_, _, k3, k4⟩ := fr (show ow < st.nx + 1 by omega)
        obtain ⟨_, _, k5, k6⟩ := fr (show ow < st.nx + 2 by omega)
        simp [-getElem?_pos, v0, v2, v3, v4, v5, v6, hS, hS1, hSo, hSw, hz', hm', hf, hws, h, hr2, hn1, f1, f2, f3, f4, g1, g2, g3, g4, z1, z2, z3, z4, y1, y2, y3, y4, x1, x2, x3, x4, b1, b2, b3, b4, c1, c2, c3, c4, d1, d2, d3, d4, k1, k2, k3, k4, k5, k6]
        refine Rnd_n (n - 1) (by omega) ⟨i + 1, oq, eq, q, w ++ [m], _, nxt, by omega, by simp; omega, hq.skip, by omega, by omega, by simp [v0], by simp [v2], by simp [v3], by simp [v4], by simp [v5], by simp, ho, by simp; omega, by simp [f1, f2, f3, f4, g1, g2, g3, g4, z1, z2, z3, z4, y1, y2, y3, y4, x1, x2, x3, x4, b1, b2, b3, b4, c1, c2, c3, c4, d1, d2, d3, d4, k1, k2, k3, k4, k5, k6, hSo], .inr ⟨st.nx + 2, st.ep, by omega, by omega, by simp, by simp; rfl, by simp⟩, by simp [f1, f2, f3, f4, g1, g2, g3, g4, z1, z2, z3, z4, y1, y2, y3, y4, x1, x2, x3, x4, b1, b2, b3, b4, c1, c2, c3, c4, d1, d2, d3, d4, k1, k2, k3, k4, k5, k6, hS], by simp⟩
    · have hQ := hQ (by rw [ne_eq, hf]; exact id)
      rcases hx with ⟨rfl, rfl⟩ | ⟨ow, ew, how, ho1, ho2, rfl, hSw⟩
      · simp [-getElem?_pos, v0, v2, v3, v4, v5, v6, hS, hS1, hSo, hz', hm', hf, hws, h, hr1, hr3, hints, f1, f2, f3, f4, g1, g2, g3, g4, z1, z2, z3, z4, y1, y2, y3, y4, x1, x2, x3, x4]
        refine Rnd_n (n - 1) (by omega) ⟨i + 1, st.nx + 2, st.ep, q ++ [m.l, m.r], [⟨m.f, m.c, nxt, IntKind.i64.wrap (nxt + 1), m.v⟩], _, _, by omega, by simp at hw; simp; omega, hQ, by simp; omega, by simp, by simp [v0], by simp [v2], by simp [v3], by simp, by simp; rfl, by simp, by omega, by simp, by simp [f1, f2, f3, f4, g1, g2, g3, g4, z1, z2, z3, z4, y1, y2, y3, y4, x1, x2, x3, x4], .inr ⟨st.nx + 2 + 2, st.ep, by omega, by omega, by simp, rfl, by simp [nd]⟩, by simp [f1, f2, f3, f4, g1, g2, g3, g4, z1, z2, z3, z4, y1, y2, y3, y4, x1, x2, x3, x4, hS], by simp⟩
      · obtain ⟨b1, b2, b3, b4⟩ := fr ho2
        obtain ⟨c1, c2, c3, c4⟩ := fr ho1
        obtain ⟨d1, d2, d3, d4⟩ := fr (show 0 < ow by omega)
        have k1 : (ow = oq) = False := eq_false how
        have k2 : (oq = ow) = False := eq_false (fun e => how e.symm)
        obtain ⟨_, _, k3, k4⟩ := fr (show ow < st.nx + 1 by omega)
        obtain ⟨_, _, k5, k6⟩ := fr (show ow < st.nx + 2 by omega)
        simp [-getElem?_pos, v0, v2, v3, v4, v5, v6, hS, hS1, hSo, hSw, hz', hm', hf, hws, h, hr1, hr2, hints, hn2, f1, f2, f3, f4, g1, g2, g3, g4, z1, z2, z3, z4, y1, y2, y3, y4, x1, x2, x3, x4, b1, b2, b3, b4, c1, c2, c3, c4, d1, d2, d3, d4, k1, k2, k3, k4, k5, k6]
        refine Rnd_n (n - 1) (by omega) ⟨i + 1, st.nx + 2, st.ep, q ++ [m.l, m.r], w ++ [⟨m.f, m.c, nxt, IntKind.i64.wrap (nxt + 1), m.v⟩], _, _, by omega, by simp; omega, hQ, by simp; omega, by simp, by simp [v0], by simp [v2], by simp [v3], by simp, by simp; rfl, by simp, by omega, by simp, by simp [f1, f2, f3, f4, g1, g2, g3, g4, z1, z2, z3, z4, y1, y2, y3, y4, x1, x2, x3, x4, b1, b2, b3, b4, c1, c2, c3, c4, d1, d2, d3, d4, k1, k2, k3, k4, k5, k6], .inr ⟨st.nx + 2 + 2, st.ep, by omega, by omega, by simp, by simp; rfl, by simp⟩, by simp [f1, f2, f3, f4, g1, g2, g3, g4, z1, z2, z3, z4, y1, y2, y3, y4, x1, x2, x3, x4, b1, b2, b3, b4, c1, c2, c3, c4, d1, d2, d3, d4, k1, k2, k3, k4, k5, k6, hS], by simp⟩
  · simp at h
    have e1 : i = q.length := by omega
    rcases hx with ⟨rfl, rfl⟩ | ⟨ow, ew, how, ho1, ho2, rfl, hSw⟩
    · simp at hw; omega
    · obtain ⟨b1, b2, b3, b4⟩ := fr ho2
      obtain ⟨c1, c2, c3, c4⟩ := fr ho1
      obtain ⟨d1, d2, d3, d4⟩ := fr (show 0 < ow by omega)
      simp [-getElem?_pos, v2, v3, hS, hS1, hSw, b1, b2, b3, b4, c1, c2, c3, c4, d1, d2, d3, d4]
      exact ⟨w, by omega, rfl⟩

/-- A tree in which the slot k has been parted. -/
def grown (t : List Nd) (k : Nat) (f c a b : Int) : List Nd := t.set k ⟨f, c, t.length, t.length + 1, 0⟩ ++ [⟨-1, 0, 0, 0, a⟩, ⟨-1, 0, 0, 0, b⟩]

theorem grown_len {t : List Nd} {k : Nat} {f c a b : Int} : (grown t k f c a b).length = t.length + 2 := by simp [grown]

theorem grown_at {t : List Nd} {F : Int} (hs : Shaped t F) {k : Nat} (hk : k < t.length) {f c a b : Int} {j : Nat} {n : Nd} (h : (grown t k f c a b)[j]? = some n) (hf : n.f ≠ -1) : (j ≠ k ∧ j < t.length ∧ t[j]? = some n ∧ InnerOk F n j 1 t.length) ∨ (j = k ∧ n.l = t.length ∧ n.r = t.length + 1) := by
  unfold grown at h
  rcases Nat.lt_or_ge j t.length with hj | hj
  · rw [List.getElem?_append_left (by simpa using hj), List.getElem?_set] at h
    by_cases e : k = j
    · subst e
      rw [if_pos rfl, if_pos hk] at h
      cases h
      exact .inr ⟨rfl, rfl, rfl⟩
    · rw [if_neg e] at h
      exact .inl ⟨fun e' => e e'.symm, hj, h, hs.inner j n h hf⟩
  · rw [List.getElem?_append_right (by simpa using hj)] at h
    simp only [List.length_set] at h
    have : j - t.length = 0 ∨ j - t.length = 1 ∨ 2 ≤ j - t.length := by omega
    rcases this with e | e | e
    · rw [e] at h; simp at h; subst h; exact (hf rfl).elim
    · rw [e] at h; simp at h; subst h; exact (hf rfl).elim
    · rw [List.getElem?_eq_none (by simpa using e)] at h; cases h

theorem grown_good {t : List Nd} {F : Int} (hs : Shaped t F) {k : Nat} (hk : k < t.length) {f c a b : Int} : Good (grown t k f c a b) := by
  intro j n h hf
  rw [grown_len]
  rcases grown_at hs hk h hf with ⟨e, hj, ht, hi⟩ | ⟨rfl, hl, hr⟩
  · have i1 := hi.lo
    have i2 := hi.r
    have i3 := hi.hi
    refine ⟨by omega, by push_cast; omega, by omega, by push_cast; omega, by omega, fun j' n' h' hf' hc => ?_⟩
    rcases grown_at hs hk h' hf' with ⟨e', hj', ht', hi'⟩ | ⟨rfl, hl', hr'⟩
    · have i1' := hi'.r
      rcases Nat.lt_trichotomy j j' with c | c | c
      · have := hs.ord j j' n n' c ht ht' hf hf'; omega
      · exact c
      · have := hs.ord j' j n' n c ht' ht hf' hf; omega
    · omega
  · refine ⟨by omega, by push_cast; omega, by omega, by push_cast; omega, by omega, fun j' n' h' hf' hc => ?_⟩
    rcases grown_at hs hk h' hf' with ⟨e', hj', ht', hi'⟩ | ⟨rfl, hl', hr'⟩
    · have i2 := hi'.r
      have i3 := hi'.hi
      omega
    · rfl

theorem nds_allV (l : List Nd) : allV (l.map nd) = true := by simp [allV, nd]

set_option maxHeartbeats 1000000 in
theorem R_spec_l17Grown (t : List Nd) (F : Int) (hs : Shaped t F) (hl : t.length ≤ 31) (k : Nat) (hk : k < t.length) (f c l r v a b : Int) : ∃ r', RUN T k_spec_l17Grown [.agg [.sl 5 (t.map nd)], iv k, .agg [iv f, iv c, iv l, iv r, iv v], iv a, iv b] = some r' ∧ GL (t.length + 2) r' := by
  refine RUN_G T_spec_l17Grown rfl ?_
  have h1 := hs.pos
  obtain ⟨rr, hr, w, hw, rfl⟩ := R_spec_l17Levels (grown t k f c a b) (grown_good hs hk) (by rw [grown_len]; omega) (by rw [grown_len]; omega)
  rw [grown_len] at hw
  have hw1 := w64 (x := (t.length : Int) + 1) (by omega) (by omega)
  have hr1 : roomFor 40 t.length = true := by simp [roomFor]; omega
  have hr2 : roomFor 40 (t.length + 2) = true := by simp [roomFor]; omega
  have hr3 : roomFor 40 2 = true := by decide
  have hr0 : roomFor 40 0 = true := by decide
  have hg : (t.map nd).set k [iv f, iv c, iv t.length, iv (t.length + 1), iv 0] ++ [[iv (-1), iv 0, iv 0, iv 0, iv a], [iv (-1), iv 0, iv 0, iv 0, iv b]] = (grown t k f c a b).map nd := by
    unfold grown
    rw [List.map_append, List.map_set]
    rfl
  obtain ⟨x, hx⟩ : ∃ x, t[k]? = some x := ⟨_, List.getElem?_eq_getElem hk⟩
  have hnd : ∀ y : Nd, (nd y).length = 5 := fun y => rfl
  have hnx : ∀ y : Nd, nd y = [iv y.f, iv y.c, iv y.l, iv y.r, iv y.v] := fun y => rfl
  have hset : ∀ y : List PV, ((t.map nd).set k y).length = t.length := by simp
  simp [-getElem?_pos, k_spec_l17Grown_ic, k_spec_l17Grown_rv, hk, hw1, hr0, hr1, hr2, hr3, hg, hr, hset, nds_allV, hx, hnd, hnx]
  exact ⟨w, hw, rfl⟩

/-- A drawn tree. -/
def PT (N : Nat) (v : PV) : Prop := ∃ t : List Nd, v = .agg [.own 5 (t.map nd)] ∧ t.length ≤ N

def PT1 (N : Nat) (v : PV) : Prop := ∃ t : List Nd, v = .agg [.own 5 (t.map nd)] ∧ 1 ≤ t.length ∧ t.length ≤ N

theorem lvs_mem : ∀ (t : List Nd) (i y : Int), y ∈ lvs t i → i ≤ y ∧ y < i + t.length
  | [], i, y, h => by simp [lvs] at h
  | x :: xs, i, y, h => by
    simp only [lvs] at h
    have ih := fun h => lvs_mem xs (i + 1) y h
    simp only [List.length_cons]
    split at h
    · rcases List.mem_cons.mp h with h | h
      · omega
      · have := ih h; omega
    · have := ih h; omega

theorem lvs_ne : ∀ (t : List Nd) (i : Int) (j : Nat) (x : Nd), t[j]? = some x → x.f = -1 → 0 < (lvs t i).length
  | [], _, _, _, h, _ => by simp at h
  | y :: ys, i, j, x, h, hf => by
    simp only [lvs]
    split
    · simp
    · rename_i hy
      cases j with
      | zero => simp at h; subst h; exact (hy hf).elim
      | succ j => exact lvs_ne ys (i + 1) j x (by simpa using h) hf

theorem Shaped.leaves {t : List Nd} {F : Int} (h : Shaped t F) : 0 < (lvs t 0).length := by
  have hp := h.pos
  have hx := List.getElem?_eq_getElem (l := t) (show t.length - 1 < t.length by omega)
  generalize t[t.length - 1]'(by omega) = x at hx
  by_cases hf : x.f = -1
  · exact lvs_ne t 0 _ x hx hf
  · have h1 := h.inner _ x hx hf
    have := h1.lt
    have := h1.r
    have := h1.hi
    omega

theorem leaf_shaped {v : Int} (F : Int) (h : leafV v = true) : Shaped [leafN v] F := by
  refine ⟨fun j x hx hf => ?_, fun j x hx hf => ?_, fun j j' x y hj hx hy hf => ?_, fun k h1 h2 => ?_, by simp⟩
  · cases j with
    | zero => simp at hx; subst hx; exact ⟨rfl, rfl, rfl, h⟩
    | succ j => simp at hx
  · cases j with
    | zero => simp at hx; subst hx; exact (hf rfl).elim
    | succ j => simp at hx
  · cases j with
    | zero => simp at hx; subst hx; exact (hf rfl).elim
    | succ j => simp at hx
  · simp at h2; omega

set_option maxHeartbeats 2000000 in
theorem R_spec_l17Right (B : List Int) (p : Nat) (s : Int) (hp : p ≤ B.length) (hB : B.length ≤ 9223372036854775807) (F : Int) (hF : F ≤ 9223372036854775807) : ∃ r, RUN T k_spec_l17Right [.bx [.sl 1 (byts B), iv p, iv s], iv F] = some r ∧ Draw B (PT1 31) r := by
  refine RUN_G T_spec_l17Right rfl ?_
  obtain ⟨r1, h1, v1, p1, s1, ⟨a1, rfl, a10, a11⟩, hp1, rfl⟩ := R_spec_l1Below B p s hp hB 21 (by omega)
  have a12 := a11 (by omega)
  have w1 := w64 (x := a1 - 10) (by omega) (by omega)
  have w2 := w64 (x := 50 * (a1 - 10)) (by omega) (by omega)
  have h2 := R_spec_OneLeaf (50 * (a1 - 10))
  obtain ⟨r3, h3, v3, p3, s3, ⟨a3, rfl, a30, a31⟩, hp3, rfl⟩ := R_spec_l1Below B p1 s1 hp1 hB 6 (by omega)
  have a32 := a31 (by omega)
  obtain ⟨kn, rfl⟩ : ∃ n : Nat, a3 = n := ⟨a3.toNat, by omega⟩
  have hsh : Shaped [leafN (50 * (a1 - 10))] F := leaf_shaped F (within_iff.mpr (by omega))
  generalize hlv : 50 * (a1 - 10) = lv at *
  simp [-getElem?_pos, k_spec_l17Right_ic, k_spec_l17Right_rv, h1, w1, w2, hlv, h2, h3]
  refine W_loop (fun n st => ∃ (i p ot et : Nat) (s : Int) (t : List Nd), i + n = kn ∧ p ≤ B.length ∧ Shaped t F ∧ t.length ≤ 31 ∧ st.V 0 = .ptr 0 none 0 0 0 ∧ st.V 1 = iv F ∧ st.V 4 = .ptr 1 none 0 0 0 ∧ st.V 5 = .ptr 3 none 0 0 0 ∧ st.V 6 = iv kn ∧ st.V 7 = iv i ∧ 1 < ot ∧ ot ≠ 3 ∧ ot < st.nx ∧ 3 < st.nx ∧ st.S 0 = some (.box [.sl 1 (byts B), iv p, iv s]) ∧ st.S 1 = some (.box [.e0]) ∧ st.S 3 = some (.box [.ref ot none et 0 t.length]) ∧ st.S ot = some (.row 5 (t.map nd))) ?_ kn _ ⟨0, p3, 2, 0, s3, [leafN lv], by simp, hp3, hsh, by simp, by simp, by simp, by simp, by simp, by simp, by simp, by simp, by simp, by simp, by simp, by simp, by simp, by simp, by simp⟩
  clear h1 h2 h3 hsh
  rintro n st ⟨i, p, ot, et, s, t, hi, hp, hsh, hl, v0, v1, v4, v5, v6, v7, ho, ho3, hox, hnx, hS, hS1, hS3, hSo⟩
  obtain ⟨f1, f2, f3, f4⟩ := fr hox
  obtain ⟨g1, g2, g3, g4⟩ := fr (show 0 < ot by omega)
  obtain ⟨z1, z2, z3, z4⟩ := fr (show 0 < st.nx by omega)
  obtain ⟨y1, y2, y3, y4⟩ := fr (show 1 < ot by omega)
  obtain ⟨x1, x2, x3, x4⟩ := fr (show 1 < st.nx by omega)
  obtain ⟨u1, u2, u3, u4⟩ := fr (show 3 < st.nx by omega)
  have k1 : (ot = 3) = False := eq_false ho3
  have k2 : (3 = ot) = False := eq_false (fun e => ho3 e.symm)
  simp [k_spec_l17Right_b0, v6, v7]
  refine Br_i (fun h => ?_) (fun h => ?_)
  · simp at h
    have hw := w64 (x := (i : Int) + 1) (by omega) (by omega)
    have e1 := R_spec_LeavesOf t (by omega)
    have hlv := hsh.leaves
    have hll := lvs_len t 0
    obtain ⟨r2, e2, v2, p2, s2, ⟨a2, rfl, a20, a21⟩, hp2, rfl⟩ := R_spec_l1Below B p s hp hB (lvs t 0).length (by omega)
    obtain ⟨j, rfl⟩ : ∃ n : Nat, a2 = n := ⟨a2.toNat, by omega⟩
    have hj : j < (lvs t 0).length := by have := a21 (by omega); omega
    obtain ⟨y, hy⟩ : ∃ y, (lvs t 0)[j]? = some y := ⟨_, List.getElem?_eq_getElem hj⟩
    have hy' := ints_get hy
    obtain ⟨b0, b1⟩ := lvs_mem t 0 y (List.mem_of_getElem? hy)
    obtain ⟨k, rfl⟩ : ∃ n : Nat, y = n := ⟨y.toNat, by omega⟩
    obtain ⟨r3, e3, v3, p3, s3, ⟨a3, rfl, a30, a31⟩, hp3, rfl⟩ := R_spec_l1Below B p2 s2 hp2 hB F hF
    obtain ⟨r4, e4, v4', p4, s4, ⟨a4, rfl, a40, a41⟩, hp4, rfl⟩ := R_spec_l1Below B p3 s3 hp3 hB 9 (by omega)
    obtain ⟨r5, e5, v5', p5, s5, ⟨a5, rfl, a50, a51⟩, hp5, rfl⟩ := R_spec_l1Below B p4 s4 hp4 hB 2001 (by omega)
    obtain ⟨r6, e6, v6', p6, s6, ⟨a6, rfl, a60, a61⟩, hp6, rfl⟩ := R_spec_l1Below B p5 s5 hp5 hB 2001 (by omega)
    have a42 := a41 (by omega)
    have a52 := a51 (by omega)
    have a62 := a61 (by omega)
    have w4 := w64 (x := a4 - 4) (by omega) (by omega)
    have w4' := w64 (x := 500 * (a4 - 4)) (by omega) (by omega)
    have w5 := w64 (x := a5 - 1000) (by omega) (by omega)
    have w6 := w64 (x := a6 - 1000) (by omega) (by omega)
    obtain ⟨r7, e7, w, hw7, rfl⟩ := R_spec_l17Grown t F hsh hl k (by omega) a3 (500 * (a4 - 4)) 0 0 0 (a5 - 1000) (a6 - 1000)
    have e8 := R_spec_TreeOk w F (by omega)
    cases hb : treeB w F with
    | true =>
      rw [hb] at e8
      simp [-getElem?_pos, v0, v1, v4, v5, v6, v7, hS, hS1, hS3, hSo, e1, e2, hy', hj, e3, e4, e5, e6, w4, w4', w5, w6, e7, e8, hw, f1, f2, f3, f4, g1, g2, g3, g4, z1, z2, z3, z4, y1, y2, y3, y4, x1, x2, x3, x4, u1, u2, u3, u4, k1, k2]
      unfold treeB at hb
      simp only [Bool.and_eq_true] at hb
      have hwl := within_iff.mp hb.1.1.1.2
      exact Rnd_n (n - 1) (by omega) ⟨i + 1, p6, st.nx + 1, st.ep, s6, w, by omega, hp6, shaped_of hb.1.1.2, by omega, by simp [v0], by simp [v1], by simp [v4], by simp [v5], by simp [v6], by simp, by omega, by omega, by simp, by simp; omega, by simp [f1, f2, f3, f4, g1, g2, g3, g4, z1, z2, z3, z4, y1, y2, y3, y4, x1, x2, x3, x4, u1, u2, u3, u4, k1, k2], by simp [f1, f2, f3, f4, g1, g2, g3, g4, z1, z2, z3, z4, y1, y2, y3, y4, x1, x2, x3, x4, u1, u2, u3, u4, k1, k2, hS1], by simp, by simp [f1, f2, f3, f4, g1, g2, g3, g4, z1, z2, z3, z4, y1, y2, y3, y4, x1, x2, x3, x4, u1, u2, u3, u4, k1, k2]⟩
    | false =>
      rw [hb] at e8
      simp [-getElem?_pos, v0, v1, v4, v5, v6, v7, hS, hS1, hS3, hSo, e1, e2, hy', hj, e3, e4, e5, e6, w4, w4', w5, w6, e7, e8, hw, f1, f2, f3, f4, g1, g2, g3, g4, z1, z2, z3, z4, y1, y2, y3, y4, x1, x2, x3, x4, u1, u2, u3, u4, k1, k2]
      exact Rnd_n (n - 1) (by omega) ⟨i + 1, p6, ot, et, s6, t, by omega, hp6, hsh, hl, by simp [v0], by simp [v1], by simp [v4], by simp [v5], by simp [v6], by simp, ho, ho3, by simp; omega, by simp; omega, by simp [f1, f2, f3, f4, g1, g2, g3, g4, z1, z2, z3, z4, y1, y2, y3, y4, x1, x2, x3, x4, u1, u2, u3, u4, k1, k2], by simp [f1, f2, f3, f4, g1, g2, g3, g4, z1, z2, z3, z4, y1, y2, y3, y4, x1, x2, x3, x4, u1, u2, u3, u4, k1, k2, hS1], by simp [f1, f2, f3, f4, g1, g2, g3, g4, z1, z2, z3, z4, y1, y2, y3, y4, x1, x2, x3, x4, u1, u2, u3, u4, k1, k2, hS3], by simp [f1, f2, f3, f4, g1, g2, g3, g4, z1, z2, z3, z4, y1, y2, y3, y4, x1, x2, x3, x4, u1, u2, u3, u4, k1, k2, hSo]⟩
  · simp at h
    have ho1 : 1 ≤ ot := by omega
    simp [-getElem?_pos, v0, v4, v5, ho1, hS, hS1, hS3, hSo, f1, f2, f3, f4, g1, g2, g3, g4, z1, z2, z3, z4, y1, y2, y3, y4, x1, x2, x3, x4, u1, u2, u3, u4, k1, k2]
    exact ⟨_, p, s, ⟨t, rfl, hsh.pos, hl⟩, hp, rfl⟩

theorem nds_set (t : List Nd) (k : Nat) (f c l r v : Int) : (t.map nd).set k [iv f, iv c, iv l, iv r, iv v] = (t.set k ⟨f, c, l, r, v⟩).map nd := by
  rw [List.map_set]; rfl

set_option maxHeartbeats 2000000 in
theorem R_spec_l17Bent (B : List Int) (p : Nat) (s : Int) (hp : p ≤ B.length) (hB : B.length ≤ 9223372036854775807) : ∃ r, RUN T k_spec_l17Bent [.bx [.sl 1 (byts B), iv p, iv s]] = some r ∧ Draw B (PT 32) r := by
  refine RUN_G T_spec_l17Bent rfl ?_
  obtain ⟨r1, h1, v1, p1, s1, ⟨a1, rfl, a10, a11⟩, hp1, rfl⟩ := R_spec_l1Below B p s hp hB 3 (by omega)
  have a12 := a11 (by omega)
  have w1 := w64 (x := 1 + a1) (by omega) (by omega)
  obtain ⟨r2, h2, v2, p2, s2, ⟨t, rfl, ht1, ht⟩, hp2, rfl⟩ := R_spec_l17Right B p1 s1 hp1 hB (1 + a1) (by omega)
  obtain ⟨r3, h3, v3, p3, s3, ⟨a3, rfl, a30, a31⟩, hp3, rfl⟩ := R_spec_l1Below B p2 s2 hp2 hB t.length (by omega)
  have a32 := a31 (by omega)
  obtain ⟨k, rfl⟩ : ∃ n : Nat, a3 = n := ⟨a3.toNat, by omega⟩
  have hk : k < t.length := by omega
  obtain ⟨r4, h4, v4, p4, s4, ⟨a4, rfl, a40, a41⟩, hp4, rfl⟩ := R_spec_l1Below B p3 s3 hp3 hB 14 (by omega)
  obtain ⟨x, hx⟩ : ∃ x, t[k]? = some x := ⟨_, List.getElem?_eq_getElem hk⟩
  have hnd : ∀ y : Nd, nd y = [iv y.f, iv y.c, iv y.l, iv y.r, iv y.v] := fun y => rfl
  have hr5 : roomFor 8 5 = true := by decide
  have hr6 : roomFor 8 6 = true := by decide
  have hr1 : roomFor 40 1 = true := by decide
  have hrt : roomFor 40 (t.length + 1) = true := by simp [roomFor]; omega
  by_cases c0 : a4 = 0
  · obtain ⟨r5, h5, v5, p5, s5, ⟨y, rfl, hy⟩, hp5, rfl⟩ := R_spec_l1PickInt B p4 s4 hp4 hB [-1, 0, 1, 4, -2, 9223372036854775807] (by simp)
    simp only [ints, List.map] at h5
    simp [-getElem?_pos, k_spec_l17Bent_ic, k_spec_l17Bent_rv, h1, w1, h2, h3, h4, c0, h5, hr5, hr6, hk, hx, hnd]
    exact ⟨_, p5, s5, ⟨t.set k ⟨y, x.c, x.l, x.r, x.v⟩, by rw [← nds_set], by simp; omega⟩, hp5, rfl⟩
  by_cases c1 : a4 = 1
  · obtain ⟨r5, h5, v5, p5, s5, ⟨y, rfl, hy⟩, hp5, rfl⟩ := R_spec_l1PickInt B p4 s4 hp4 hB [0, 1, 2147483648, -2147483648, 500] (by simp)
    simp only [ints, List.map] at h5
    simp [-getElem?_pos, k_spec_l17Bent_ic, k_spec_l17Bent_rv, h1, w1, h2, h3, h4, c0, c1, h5, hr5, hr6, hk, hx, hnd]
    exact ⟨_, p5, s5, ⟨t.set k ⟨x.f, y, x.l, x.r, x.v⟩, by rw [← nds_set], by simp; omega⟩, hp5, rfl⟩
  by_cases c2 : a4 = 2
  · obtain ⟨r5, h5, v5, p5, s5, ⟨y, rfl, hy⟩, hp5, rfl⟩ := R_spec_l1PickInt B p4 s4 hp4 hB [0, 1, 2, -1, 40, (k : Int)] (by simp)
    simp only [ints, List.map] at h5
    simp [-getElem?_pos, k_spec_l17Bent_ic, k_spec_l17Bent_rv, h1, w1, h2, h3, h4, c0, c1, c2, h5, hr5, hr6, hk, hx, hnd]
    exact ⟨_, p5, s5, ⟨t.set k ⟨x.f, x.c, y, x.r, x.v⟩, by rw [← nds_set], by simp; omega⟩, hp5, rfl⟩
  by_cases c3 : a4 = 3
  · obtain ⟨r5, h5, v5, p5, s5, ⟨y, rfl, hy⟩, hp5, rfl⟩ := R_spec_l1PickInt B p4 s4 hp4 hB [0, 1, 2, -1, 40, (k : Int)] (by simp)
    simp only [ints, List.map] at h5
    simp [-getElem?_pos, k_spec_l17Bent_ic, k_spec_l17Bent_rv, h1, w1, h2, h3, h4, c0, c1, c2, c3, h5, hr5, hr6, hk, hx, hnd]
    exact ⟨_, p5, s5, ⟨t.set k ⟨x.f, x.c, x.l, y, x.v⟩, by rw [← nds_set], by simp; omega⟩, hp5, rfl⟩
  by_cases c4 : a4 = 4
  · obtain ⟨r5, h5, v5, p5, s5, ⟨y, rfl, hy⟩, hp5, rfl⟩ := R_spec_l1PickInt B p4 s4 hp4 hB [0, 1, 1099511627776, 1099511627777, -1099511627777] (by simp)
    simp only [ints, List.map] at h5
    simp [-getElem?_pos, k_spec_l17Bent_ic, k_spec_l17Bent_rv, h1, w1, h2, h3, h4, c0, c1, c2, c3, c4, h5, hr5, hr6, hk, hx, hnd]
    exact ⟨_, p5, s5, ⟨t.set k ⟨x.f, x.c, x.l, x.r, y⟩, by rw [← nds_set], by simp; omega⟩, hp5, rfl⟩
  by_cases c5 : a4 = 5
  · have e := nds_snoc t ⟨-1, 0, 0, 0, 0⟩
    simp only at e
    simp [-getElem?_pos, k_spec_l17Bent_ic, k_spec_l17Bent_rv, h1, w1, h2, h3, h4, c0, c1, c2, c3, c4, c5, hr1, hrt]
    exact ⟨_, p4, s4, ⟨t ++ [⟨-1, 0, 0, 0, 0⟩], by rw [← e], by simp; omega⟩, hp4, rfl⟩
  by_cases c6 : a4 = 6
  · have hk' : k ≤ t.length := by omega
    have hkn : ¬ k = t.length := by omega
    simp [-getElem?_pos, hk', hkn, k_spec_l17Bent_ic, k_spec_l17Bent_rv, h1, w1, h2, h3, h4, c0, c1, c2, c3, c4, c5, c6]
    exact ⟨_, p4, s4, ⟨t.take k, by rw [List.map_take], by simp; omega⟩, hp4, rfl⟩
  · simp [-getElem?_pos, k_spec_l17Bent_ic, k_spec_l17Bent_rv, h1, w1, h2, h3, h4, c0, c1, c2, c3, c4, c5, c6]
    exact ⟨_, p4, s4, ⟨t, rfl, by omega⟩, hp4, rfl⟩

theorem strs_set (l : List ByteArray) (i : Nat) (s : ByteArray) : (strs l).set i [.v (.string s)] = strs (l.set i s) := by simp [strs]

/-- The answers at rows, if there is one at each. -/
def predAll (m : Mo) : List (List Int) → Option (List Int)
  | [] => some []
  | r :: L => if (pred m r).2 = true then (predAll m L).map ((pred m r).1 :: ·) else none

def predR (m : Mo) (L : List (List Int)) : List Int × Bool := match predAll m L with
  | some l => (l, true)
  | none => ([], false)

theorem predAll_len (m : Mo) : ∀ (L : List (List Int)) (l : List Int), predAll m L = some l → l.length = L.length
  | [], l, h => by simp [predAll] at h; subst h; rfl
  | r :: L, l, h => by
    simp only [predAll] at h
    split at h
    · simp only [Option.map_eq_some_iff] at h
      obtain ⟨l', h1, rfl⟩ := h
      have := predAll_len m L l' h1
      simp [this]
    · cases h

set_option maxHeartbeats 1000000 in
theorem R_spec_PredictAll (q p : Bool) (m : Mo) (L : List (List Int)) (hm : MoL 1048576 m) (hL : L.length ≤ 1048576) (hr : ∀ r ∈ L, r.length ≤ 1048576) : RUN T k_spec_PredictAll [moS q m, .sl 1 (rws p L)] = some ([.own 1 (ints (predR m L).1), bv (predR m L).2], []) := by
  refine RUN_W T_spec_PredictAll rfl ?_
  simp [-getElem?_pos, k_spec_PredictAll_ic, k_spec_PredictAll_rv]
  refine W_loop (fun n st => ∃ (i o e : Nat) (w : List Int), i + n = L.length ∧ w.length = i ∧ predAll m L = (predAll m (L.drop i)).map (w ++ ·) ∧ st.V 1 = .sl 1 (rws p L) ∧ st.V 2 = .ptr 0 none 0 0 0 ∧ st.V 6 = .ref o none e 0 w.length ∧ st.V 7 = iv i ∧ 0 < o ∧ o < st.nx ∧ st.S o = some (.row 1 (ints w)) ∧ st.S 0 = some (.box [.sl 1 (strs m.ns), .sl 1 (ints m.ix), iv m.b, .sl 1 (trs q m.ts)])) ?_ L.length _ ⟨0, 1, 0, [], by simp [ints]⟩
  rintro n st ⟨i, o, e, w, hi, hw, hp, v1, v2, v6, v7, ho, hox, hSo, hS⟩
  simp [k_spec_PredictAll_b0, v1, v7]
  obtain ⟨f1, f2, f3, f4⟩ := fr hox
  obtain ⟨g1, g2, g3, g4⟩ := fr ho
  obtain ⟨z1, z2, z3, z4⟩ := fr (show 0 < st.nx by omega)
  refine Br_i (fun h => ?_) (fun h => ?_)
  · simp at h
    obtain ⟨r, hrr⟩ : ∃ r, L[i]? = some r := ⟨_, List.getElem?_eq_getElem h⟩
    have hr' := rws_get (q := p) hrr
    have hws := wS h (by omega : L.length ≤ 9223372036854775807)
    have hP := R_spec_Predict q m r hm (hr r (List.mem_of_getElem? hrr))
    have hr8 := room8 (n := w.length + 1) (by omega)
    rw [drop_cons hrr, predAll] at hp
    generalize hpr : pred m r = pr at *
    obtain ⟨a, b⟩ := pr
    simp only at hp hP
    cases b with
    | true =>
      rw [if_pos rfl] at hp
      simp [-getElem?_pos, v1, v2, v6, v7, hS, hSo, hr', h, hP, hws, hr8, ints_snoc, f1, f2, f3, f4, g1, g2, g3, g4, z1, z2, z3, z4]
      exact Rnd_n (n - 1) (by omega) ⟨i + 1, st.nx + 1, st.ep, w ++ [a], by omega, by simp [hw], by rw [hp]; cases predAll m (L.drop (i + 1)) <;> simp, by simp [v1], by simp [v2], by simp, by simp, by omega, by simp, by simp, by simp [f1, f2, f3, f4, g1, g2, g3, g4, z1, z2, z3, z4, hS]⟩
    | false =>
      rw [if_neg (by simp)] at hp
      have hi0 : ints [] = [] := rfl
      have e1 : predR m L = ([], false) := by unfold predR; rw [hp]; rfl
      rw [e1]
      simp [-getElem?_pos, v1, v2, v6, v7, hS, hSo, hr', h, hP, hi0, f1, f2, f3, f4, g1, g2, g3, g4, z1, z2, z3, z4]
  · simp at h
    rw [List.drop_eq_nil_of_le h, predAll] at hp
    have e1 : predR m L = (w, true) := by unfold predR; rw [hp]; simp
    rw [e1]
    simp [-getElem?_pos, v6, hSo]

set_option maxHeartbeats 1000000 in
theorem R_impl_PredictAll (q p : Bool) (m : Mo) (L : List (List Int)) (hm : MoL 1048576 m) (hL : L.length ≤ 1048576) (hr : ∀ r ∈ L, r.length ≤ 1048576) : RUN T k_impl_PredictAll [moS q m, .sl 1 (rws p L)] = some ([.own 1 (ints (predR m L).1), bv (predR m L).2], []) := by
  refine RUN_W T_impl_PredictAll rfl ?_
  simp [-getElem?_pos, k_impl_PredictAll_ic, k_impl_PredictAll_rv]
  refine W_loop (fun n st => ∃ (i o e : Nat) (w : List Int), i + n = L.length ∧ w.length = i ∧ predAll m L = (predAll m (L.drop i)).map (w ++ ·) ∧ st.V 12 = .sl 1 (rws p L) ∧ st.V 13 = iv L.length ∧ st.V 2 = .ptr 0 none 0 0 0 ∧ st.V 6 = .ref o none e 0 w.length ∧ st.V 14 = iv i ∧ 0 < o ∧ o < st.nx ∧ st.S o = some (.row 1 (ints w)) ∧ st.S 0 = some (.box [.sl 1 (strs m.ns), .sl 1 (ints m.ix), iv m.b, .sl 1 (trs q m.ts)])) ?_ L.length _ ⟨0, 1, 0, [], by simp [ints]⟩
  rintro n st ⟨i, o, e, w, hi, hw, hp, v12, v13, v2, v6, v14, ho, hox, hSo, hS⟩
  simp [k_impl_PredictAll_b0, v13, v14]
  obtain ⟨f1, f2, f3, f4⟩ := fr hox
  obtain ⟨g1, g2, g3, g4⟩ := fr ho
  obtain ⟨z1, z2, z3, z4⟩ := fr (show 0 < st.nx by omega)
  refine Br_i (fun h => ?_) (fun h => ?_)
  · simp at h
    obtain ⟨r, hrr⟩ : ∃ r, L[i]? = some r := ⟨_, List.getElem?_eq_getElem h⟩
    have hr' := rws_get (q := p) hrr
    have hws := wS h (by omega : L.length ≤ 9223372036854775807)
    have hP := R_impl_Predict q m r hm (hr r (List.mem_of_getElem? hrr))
    have hr8 := room8 (n := w.length + 1) (by omega)
    rw [drop_cons hrr, predAll] at hp
    generalize hpr : pred m r = pr at *
    obtain ⟨a, b⟩ := pr
    simp only at hp hP
    cases b with
    | true =>
      rw [if_pos rfl] at hp
      simp [-getElem?_pos, v12, v13, v2, v6, v14, hS, hSo, hr', h, hP, hws, hr8, ints_snoc, f1, f2, f3, f4, g1, g2, g3, g4, z1, z2, z3, z4]
      exact Rnd_n (n - 1) (by omega) ⟨i + 1, st.nx + 1, st.ep, w ++ [a], by omega, by simp [hw], by rw [hp]; cases predAll m (L.drop (i + 1)) <;> simp, by simp [v12], by simp [v13], by simp [v2], by simp, by simp, by omega, by simp, by simp, by simp [f1, f2, f3, f4, g1, g2, g3, g4, z1, z2, z3, z4, hS]⟩
    | false =>
      rw [if_neg (by simp)] at hp
      have hi0 : ints [] = [] := rfl
      have e1 : predR m L = ([], false) := by unfold predR; rw [hp]; rfl
      rw [e1]
      simp [-getElem?_pos, v12, v13, v2, v6, v14, hS, hSo, hr', h, hP, hi0, f1, f2, f3, f4, g1, g2, g3, g4, z1, z2, z3, z4]
  · simp at h
    rw [List.drop_eq_nil_of_le h, predAll] at hp
    have e1 : predR m L = (w, true) := by unfold predR; rw [hp]; simp
    rw [e1]
    simp [-getElem?_pos, v6, hSo]

def PRw (n : Nat) (v : PV) : Prop := ∃ l : List Int, v = .own 1 (ints l) ∧ l.length = n ∧ ∀ x ∈ l, inI x

set_option maxHeartbeats 1000000 in
theorem R_spec_l18Row (B : List Int) (p : Nat) (s : Int) (hp : p ≤ B.length) (hB : B.length ≤ 9223372036854775807) (k : Nat) (hk : k ≤ 64) : ∃ r, RUN T k_spec_l18Row [.bx [.sl 1 (byts B), iv p, iv s], iv k] = some r ∧ Draw B (PRw k) r := by
  refine RUN_G T_spec_l18Row rfl ?_
  have hr0 : roomFor 8 0 = true := by decide
  have hr1 : roomFor 8 1 = true := by decide
  simp [-getElem?_pos, k_spec_l18Row_ic, k_spec_l18Row_rv, hr0]
  refine W_loop (fun n st => ∃ (i p o e : Nat) (s : Int) (m : List Int), i + n = k ∧ m.length = i ∧ (∀ n ∈ m, inI n) ∧ p ≤ B.length ∧ st.V 0 = .ptr 0 none 0 0 0 ∧ st.V 1 = iv k ∧ st.V 5 = .ref o none e 0 m.length ∧ st.V 6 = iv i ∧ 0 < o ∧ o < st.nx ∧ st.S 0 = some (.box [.sl 1 (byts B), iv p, iv s]) ∧ st.S o = some (.row 1 (ints m))) ?_ k _ ⟨0, p, 1, 0, s, [], by omega, rfl, by simp, hp, by simp, by simp, by simp, by simp, by omega, by simp, by simp, by simp [ints]⟩
  clear hp
  rintro n st ⟨i, p, o, e, s, m, hi, hm, hmi, hp, v0, v1, v5, v6, ho, hox, hS, hSo⟩
  simp [k_spec_l18Row_b0, v1, v6]
  obtain ⟨f1, f2, f3, f4⟩ := fr hox
  obtain ⟨g1, g2, g3, g4⟩ := fr ho
  obtain ⟨z1, z2, z3, z4⟩ := fr (show 0 < st.nx by omega)
  refine Br_i (fun h => ?_) (fun h => ?_)
  · simp at h
    have hw := wS h (by omega : k ≤ 9223372036854775807)
    have hr8 := room8 (n := m.length + 1) (by omega)
    obtain ⟨r1, h1, v1', p1, s1, ⟨a1, rfl⟩, hp1, rfl⟩ := R_spec_l1Once B p s hp hB 12 (by omega)
    cases a1 with
    | true =>
      obtain ⟨r2, h2, v2, p2, s2, ⟨x, rfl, hx⟩, hp2, rfl⟩ := R_spec_l1Whole B p1 s1 hp1 hB
      simp [-getElem?_pos, v0, v1, v5, v6, hS, hSo, h, h1, h2, hr1, hr8, hw, ints_snoc, f1, f2, f3, f4, g1, g2, g3, g4, z1, z2, z3, z4]
      refine Rnd_n (n - 1) (by omega) ⟨i + 1, p2, st.nx + 1, st.ep, s2, m ++ [x], by omega, by simp [hm], ?_, hp2, by simp [v0], by simp [v1], by simp, by simp, by omega, by simp, by simp [f1, f2, f3, f4, g1, g2, g3, g4, z1, z2, z3, z4], by simp⟩
      intro y hy
      rcases List.mem_append.mp hy with hy | hy
      · exact hmi y hy
      · simp at hy; subst hy; exact hx
    | false =>
      obtain ⟨r2, h2, v2, p2, s2, ⟨x, rfl, x0, x1⟩, hp2, rfl⟩ := R_spec_l1Below B p1 s1 hp1 hB 11 (by omega)
      obtain ⟨r3, h3, v3, p3, s3, ⟨y, rfl, y0, y1⟩, hp3, rfl⟩ := R_spec_l1Below B p2 s2 hp2 hB 2 (by omega)
      have x2 := x1 (by omega)
      have y2 := y1 (by omega)
      have w1 := w64 (x := x - 5) (by omega) (by omega)
      have w2 := w64 (x := 500 * (x - 5)) (by omega) (by omega)
      have w3 := w64 (x := 500 * (x - 5) + y) (by omega) (by omega)
      simp [-getElem?_pos, v0, v1, v5, v6, hS, hSo, h, h1, h2, h3, w1, w2, w3, hr1, hr8, hw, ints_snoc, f1, f2, f3, f4, g1, g2, g3, g4, z1, z2, z3, z4]
      refine Rnd_n (n - 1) (by omega) ⟨i + 1, p3, st.nx + 1, st.ep, s3, m ++ [500 * (x - 5) + y], by omega, by simp [hm], ?_, hp3, by simp [v0], by simp [v1], by simp, by simp, by omega, by simp, by simp [f1, f2, f3, f4, g1, g2, g3, g4, z1, z2, z3, z4], by simp⟩
      intro z hz
      rcases List.mem_append.mp hz with hz | hz
      · exact hmi z hz
      · simp at hz; subst hz; unfold inI; omega
  · simp at h
    have ho1 : 1 ≤ o := by omega
    simp [-getElem?_pos, v0, v5, hS, hSo, ho1, f1, f2, f3, f4, g1, g2, g3, g4]
    exact ⟨_, p, s, ⟨m, rfl, by omega, hmi⟩, hp, rfl⟩

def Draw2s (B : List Int) (l : List ByteArray) (r : List PV × List PV) : Prop := ∃ (x : ByteArray) (p : Nat) (s : Int), x ∈ l ∧ p ≤ B.length ∧ r = ([.v (.string x)], [.bx [.sl 1 (byts B), iv p, iv s], .own 1 (strs l)])

theorem R_spec_l1Pick (B : List Int) (p : Nat) (s : Int) (hp : p ≤ B.length) (hB : B.length ≤ 9223372036854775807) (l : List ByteArray) (hl : 0 < l.length ∧ l.length ≤ 9223372036854775807) : ∃ r, RUN T k_spec_l1Pick [.bx [.sl 1 (byts B), iv p, iv s], .own 1 (strs l)] = some r ∧ Draw2s B l r := by
  refine RUN_G T_spec_l1Pick rfl ?_
  obtain ⟨r1, h1, v1, p1, s1, ⟨a1, rfl, a10, a11⟩, hp1, rfl⟩ := R_spec_l1Below B p s hp hB l.length (by omega)
  obtain ⟨i, rfl⟩ : ∃ i : Nat, a1 = i := ⟨a1.toNat, by omega⟩
  have hi : i < l.length := by have := a11 (by omega); omega
  obtain ⟨x, hx⟩ : ∃ x, l[i]? = some x := ⟨_, List.getElem?_eq_getElem hi⟩
  have hx' := strs_get hx
  simp [-getElem?_pos, k_spec_l1Pick_ic, k_spec_l1Pick_rv, h1, hx', hi]
  exact ⟨x, p1, s1, List.mem_of_getElem? hx, hp1, rfl⟩

/-- A drawn model. -/
def PMo (v : PV) : Prop := ∃ m : Mo, v = moO m ∧ 1 ≤ m.ns.length ∧ m.ns.length ≤ 3 ∧ (∀ x ∈ m.ns, x.size ≤ 64) ∧ m.ix.length ≤ 64 ∧ m.ts.length ≤ 64 ∧ ∀ t ∈ m.ts, t.length ≤ 32

def TC (S : Nat → Option Ob) (nx : Nat) (lo : Nat) (M : List (List Nd)) (x : PV) : Prop := (x = .e0 ∧ M = []) ∨ ∃ o e, x = .ref o none e 0 M.length ∧ lo < o ∧ o < nx ∧ S o = some (.row 1 (trs true M))

def nm3 : List ByteArray := [bs [97], bs [98], bs [99, 50]]

theorem strs_allV (l : List ByteArray) : allV (strs l) = true := by simp [allV, strs]

set_option maxHeartbeats 1000000 in
theorem R_spec_l24Right (B : List Int) (p : Nat) (s : Int) (hp : p ≤ B.length) (hB : B.length ≤ 9223372036854775807) : ∃ r, RUN T k_spec_l24Right [.bx [.sl 1 (byts B), iv p, iv s]] = some r ∧ Draw B PMo r := by
  refine RUN_G T_spec_l24Right rfl ?_
  have hr0 : roomFor 16 0 = true := by decide
  have hr1 : roomFor 16 3 = true := by decide
  obtain ⟨r1, h1, v1, p1, s1, ⟨a1, rfl, a10, a11⟩, hp1, rfl⟩ := R_spec_l1Below B p s hp hB 3 (by omega)
  have a12 := a11 (by omega)
  obtain ⟨nf, hnf⟩ : ∃ nf : Nat, 1 + a1 = nf := ⟨(1 + a1).toNat, by omega⟩
  have w1 := w64 (x := (nf : Int)) (by omega) (by omega)
  obtain ⟨r2, h2, v2, p2, s2, ⟨a2, rfl, a20, a21⟩, hp2, rfl⟩ := R_spec_l1Below B p1 s1 hp1 hB 21 (by omega)
  have a22 := a21 (by omega)
  have w2 := w64 (x := a2 - 10) (by omega) (by omega)
  have w3 := w64 (x := 50 * (a2 - 10)) (by omega) (by omega)
  obtain ⟨r3, h3, v3, p3, s3, ⟨a3, rfl, a30, a31⟩, hp3, rfl⟩ := R_spec_l1Below B p2 s2 hp2 hB 4 (by omega)
  have a32 := a31 (by omega)
  obtain ⟨kt, rfl⟩ : ∃ n : Nat, a3 = n := ⟨a3.toNat, by omega⟩
  have hr2 : roomFor 16 nf = true := by simp [roomFor]; omega
  have hn3 : nf ≤ 3 := by omega
  obtain ⟨ns, hns⟩ : ∃ ns, ns = nm3.take nf := ⟨_, rfl⟩
  have hcut : (if nf = 3 then [[PV.v (Value.string (bs [97]))], [PV.v (Value.string (bs [98]))], [PV.v (Value.string (bs [99, 50]))]] else List.take nf [[PV.v (Value.string (bs [97]))], [PV.v (Value.string (bs [98]))], [PV.v (Value.string (bs [99, 50]))]]) = strs ns := by
    subst hns
    have h : nf = 1 ∨ nf = 2 ∨ nf = 3 := by omega
    rcases h with h | h | h <;> subst h <;> rfl
  have hnl : ns.length = nf := by subst hns; simp [nm3]; omega
  simp [-getElem?_pos, k_spec_l24Right_ic, k_spec_l24Right_rv, h1, h2, h3, hnf, w1, w2, w3, hr0, hr1, hr2, hn3, hcut, strs_allV, hnl]
  refine W_loop (fun n st => ∃ (i p : Nat) (s : Int) (M : List (List Nd)) (x : PV), i + n = kt ∧ M.length = i ∧ (∀ t ∈ M, t.length ≤ 31) ∧ p ≤ B.length ∧ st.V 0 = .ptr 0 none 0 0 0 ∧ st.V 2 = .ptr 1 none 0 0 0 ∧ st.V 3 = iv nf ∧ st.V 4 = .ptr 5 none 0 0 0 ∧ st.V 5 = iv kt ∧ st.V 6 = iv i ∧ 5 < st.nx ∧ TC st.S st.nx 5 M x ∧ st.S 0 = some (.box [.sl 1 (byts B), iv p, iv s]) ∧ st.S 1 = some (.box [.e0, .e0, iv 0, .e0]) ∧ st.S 4 = some (.row 1 (strs ns)) ∧ st.S 5 = some (.box [.ref 4 none 0 0 nf, .e0, iv (50 * (a2 - 10)), x])) ?_ kt _ ⟨0, p3, s3, [], .e0, by omega, rfl, by simp, hp3, by simp, by simp, by simp, by simp, by simp, by simp, by simp, .inl ⟨rfl, rfl⟩, by simp, by simp, by simp, by simp⟩
  generalize 50 * (a2 - 10) = bb at *
  clear h1 h2 h3 hp3 hp2 hp1 hp
  rintro n st ⟨i, p, s, M, x, hi, hM, hMl, hp, v0, v2, v3, v4, v5, v6, hnx, hx, hS, hS1, hS4, hS5⟩
  simp [k_spec_l24Right_b0, v5, v6]
  obtain ⟨f1, f2, f3, f4⟩ := fr hnx
  obtain ⟨z1, z2, z3, z4⟩ := fr (show 0 < st.nx by omega)
  obtain ⟨y1, y2, y3, y4⟩ := fr (show 1 < st.nx by omega)
  obtain ⟨x1, x2, x3, x4⟩ := fr (show 4 < st.nx by omega)
  obtain ⟨u1, u2, u3, u4⟩ := fr (show 5 < st.nx + 1 by omega)
  refine Br_i (fun h => ?_) (fun h => ?_)
  · simp at h
    have hw := wS h (by omega : kt ≤ 9223372036854775807)
    have hr1 : roomFor 24 1 = true := by decide
    have hr24 : roomFor 24 (M.length + 1) = true := by simp [roomFor]; omega
    obtain ⟨r1, h1, v1', p1, s1, ⟨t, rfl, ht1, ht⟩, hp1, rfl⟩ := R_spec_l17Right B p s hp hB nf (by omega)
    rcases hx with ⟨rfl, rfl⟩ | ⟨o, e, rfl, ho, hox, hSo⟩
    · simp [-getElem?_pos, v0, v2, v3, v4, v5, v6, hS, hS1, hS4, hS5, h, h1, hr1, hw, f1, f2, f3, f4, z1, z2, z3, z4, y1, y2, y3, y4, x1, x2, x3, x4, u1, u2, u3, u4]
      refine Rnd_n (n - 1) (by omega) ⟨i + 1, p1, s1, [t], _, by omega, by simp at hM; simp; omega, by simp; omega, hp1, by simp [v0], by simp [v2], by simp [v3], by simp [v4], by simp [v5], by simp, by simp; omega, .inr ⟨st.nx + 2, st.ep, rfl, by omega, by simp, by simp [f1, f2, f3, f4, z1, z2, z3, z4, y1, y2, y3, y4, x1, x2, x3, x4, u1, u2, u3, u4, trs, celT]⟩, by simp [f1, f2, f3, f4, z1, z2, z3, z4, y1, y2, y3, y4, x1, x2, x3, x4, u1, u2, u3, u4], by simp [f1, f2, f3, f4, z1, z2, z3, z4, y1, y2, y3, y4, x1, x2, x3, x4, u1, u2, u3, u4, hS1], by simp [f1, f2, f3, f4, z1, z2, z3, z4, y1, y2, y3, y4, x1, x2, x3, x4, u1, u2, u3, u4, hS4], by simp⟩
    · obtain ⟨b1, b2, b3, b4⟩ := fr hox
      obtain ⟨c1, c2, c3, c4⟩ := fr ho
      obtain ⟨d1, d2, d3, d4⟩ := fr (show 0 < o by omega)
      obtain ⟨e1, e2, e3, e4⟩ := fr (show 1 < o by omega)
      obtain ⟨g1, g2, g3, g4⟩ := fr (show 4 < o by omega)
      simp [-getElem?_pos, v0, v2, v3, v4, v5, v6, hS, hS1, hS4, hS5, hSo, h, h1, hr1, hr24, hw, f1, f2, f3, f4, z1, z2, z3, z4, y1, y2, y3, y4, x1, x2, x3, x4, u1, u2, u3, u4, b1, b2, b3, b4, c1, c2, c3, c4, d1, d2, d3, d4, e1, e2, e3, e4, g1, g2, g3, g4]
      refine Rnd_n (n - 1) (by omega) ⟨i + 1, p1, s1, M ++ [t], _, by omega, by simp [hM], ?_, hp1, by simp [v0], by simp [v2], by simp [v3], by simp [v4], by simp [v5], by simp, by simp; omega, .inr ⟨st.nx + 2, st.ep, by simp; rfl, by omega, by simp, by simp [f1, f2, f3, f4, z1, z2, z3, z4, y1, y2, y3, y4, x1, x2, x3, x4, u1, u2, u3, u4, b1, b2, b3, b4, c1, c2, c3, c4, d1, d2, d3, d4, e1, e2, e3, e4, g1, g2, g3, g4, trs, celT]⟩, by simp [f1, f2, f3, f4, z1, z2, z3, z4, y1, y2, y3, y4, x1, x2, x3, x4, u1, u2, u3, u4, b1, b2, b3, b4, c1, c2, c3, c4, d1, d2, d3, d4, e1, e2, e3, e4, g1, g2, g3, g4], by simp [f1, f2, f3, f4, z1, z2, z3, z4, y1, y2, y3, y4, x1, x2, x3, x4, u1, u2, u3, u4, b1, b2, b3, b4, c1, c2, c3, c4, d1, d2, d3, d4, e1, e2, e3, e4, g1, g2, g3, g4, hS1], by simp [f1, f2, f3, f4, z1, z2, z3, z4, y1, y2, y3, y4, x1, x2, x3, x4, u1, u2, u3, u4, b1, b2, b3, b4, c1, c2, c3, c4, d1, d2, d3, d4, e1, e2, e3, e4, g1, g2, g3, g4, hS4], by simp⟩
      intro y hy
      rcases List.mem_append.mp hy with hy | hy
      · exact hMl y hy
      · simp at hy; subst hy; exact ht
  · simp at h
    simp [-getElem?_pos, v0, v2, v3, v4, v5, v6, hS, hS1, hS4, hS5]
    clear h
    refine W_loop (fun n st => ∃ (i p : Nat) (s : Int) (l : List Int) (y : PV), i + n = nf ∧ l.length = i ∧ p ≤ B.length ∧ st.V 0 = .ptr 0 none 0 0 0 ∧ st.V 2 = .ptr 1 none 0 0 0 ∧ st.V 3 = iv nf ∧ st.V 4 = .ptr 5 none 0 0 0 ∧ st.V 5 = iv kt ∧ st.V 7 = iv i ∧ 5 < st.nx ∧ ((x = .e0 ∧ M = []) ∨ ∃ o e, x = .ref o none e 0 M.length ∧ 5 < o ∧ o < st.nx ∧ st.S o = some (.row 1 (trs true M)) ∧ (∀ o' e', y = .ref o' none e' 0 l.length → o ≠ o')) ∧ LC st.S st.nx 5 l y ∧ st.S 0 = some (.box [.sl 1 (byts B), iv p, iv s]) ∧ st.S 1 = some (.box [.e0, .e0, iv 0, .e0]) ∧ st.S 4 = some (.row 1 (strs ns)) ∧ st.S 5 = some (.box [.ref 4 none 0 0 nf, y, iv bb, x])) ?_ nf _ ⟨0, p, s, [], .e0, by omega, rfl, hp, by simp [v0], by simp [v2], by simp [v3], by simp [v4], by simp [v5], by simp, hnx, ?_, .inl ⟨rfl, rfl⟩, by simp [hS], by simp [hS1], by simp [hS4], by simp [hS5]⟩
    · have hM64 : M.length ≤ 64 := by omega
      clear hx hS hS1 hS4 hS5 v0 v2 v3 v4 v5 v6 hp hi f1 f2 f3 f4 z1 z2 z3 z4 y1 y2 y3 y4 x1 x2 x3 x4 u1 u2 u3 u4 hnx
      rintro n st ⟨i, p, s, l, y, hi, hl, hp, v0, v2, v3, v4, v5, v7, hnx, hx, hy, hS, hS1, hS4, hS5⟩
      obtain ⟨f1, f2, f3, f4⟩ := fr hnx
      obtain ⟨z1, z2, z3, z4⟩ := fr (show 0 < st.nx by omega)
      obtain ⟨y1, y2, y3, y4⟩ := fr (show 1 < st.nx by omega)
      obtain ⟨x1, x2, x3, x4⟩ := fr (show 4 < st.nx by omega)
      obtain ⟨u1, u2, u3, u4⟩ := fr (show 5 < st.nx + 1 by omega)
      have hns1 : 1 ≤ ns.length ∧ ns.length ≤ 3 ∧ ∀ x ∈ ns, x.size ≤ 64 := by
        refine ⟨by omega, by omega, fun x hx => ?_⟩
        subst hns
        have hm := List.mem_of_mem_take hx
        simp only [nm3, List.mem_cons, List.not_mem_nil, or_false] at hm
        rcases hm with rfl | rfl | rfl <;> decide
      have hfin : PMo (moO ⟨ns, l, bb, M⟩) := ⟨_, rfl, hns1.1, hns1.2.1, hns1.2.2, by simp; omega, hM64, fun t ht => Nat.le_trans (hMl t ht) (by omega)⟩
      have hfin0 : M = [] → PMo (.agg [.own 1 (strs ns), .own 1 (ints l), iv bb, .own 1 []]) := by rintro rfl; exact hfin
      have hfin1 : l = [] → PMo (.agg [.own 1 (strs ns), .own 1 [], iv bb, .own 1 (trs true M)]) := by rintro rfl; exact hfin
      have hfin2 : M = [] → l = [] → PMo (.agg [.own 1 (strs ns), .own 1 [], iv bb, .own 1 []]) := by rintro rfl rfl; exact hfin
      simp [k_spec_l24Right_b1, v3, v5, v7]
      rcases Classical.propComplete (i < nf ∧ (kt : Int).tmod 2 = 1) with hc | hc
      · have hc1 : i < nf := (of_eq_true hc).1
        have hc2 : (kt : Int).tmod 2 = 1 := (of_eq_true hc).2
        clear hc
        have hw := wS hc1 (by omega : nf ≤ 9223372036854775807)
        have hr1 : roomFor 8 1 = true := by decide
        have hr8 := room8 (n := l.length + 1) (by omega)
        obtain ⟨r1, h1, v1', p1, s1, ⟨a1, rfl, a10, a11⟩, hp1, rfl⟩ := R_spec_l1Below B p s hp hB 3 (by omega)
        have a12 := a11 (by omega)
        have w1 := w64 (x := a1 - 1) (by omega) (by omega)
        rcases hx with ⟨rfl, hM0⟩ | ⟨ox, ex', rfl, ho, hox, hSx, hne⟩
        · rcases hy with ⟨rfl, hl0⟩ | ⟨oy, ey', rfl, hp0, hoy, hSy⟩
          · have hone : [[iv (a1 - 1)]] = ints [a1 - 1] := rfl
            simp [-getElem?_pos, hc1, hc2, h1, w1, hw, hr1, hr8, hone, ints_allV, v0, v2, v3, v4, v5, v7, hS, hS1, hS4, hS5, hnl, f1, f2, f3, f4, z1, z2, z3, z4, y1, y2, y3, y4, x1, x2, x3, x4, u1, u2, u3, u4]
            exact Rnd_n (n - 1) (by omega) ⟨i + 1, p1, s1, [a1 - 1], .ref (st.nx + 1) none st.ep 0 ([a1 - 1]).length, by omega, by subst hl0; simp at hl; simp; omega, hp1, by simp [v0], by simp [v2], by simp [v3], by simp [v4], by simp [v5], by simp, by simp; omega, .inl ⟨rfl, hM0⟩, .inr ⟨st.nx + 1, st.ep, rfl, by omega, by simp, by simp [v0, v2, v3, v4, v5, v7, hS, hS1, hS4, hS5, hnl, f1, f2, f3, f4, z1, z2, z3, z4, y1, y2, y3, y4, x1, x2, x3, x4, u1, u2, u3, u4, ints]⟩, by simp [v0, v2, v3, v4, v5, v7, hS, hS1, hS4, hS5, hnl, f1, f2, f3, f4, z1, z2, z3, z4, y1, y2, y3, y4, x1, x2, x3, x4, u1, u2, u3, u4], by simp [v0, v2, v3, v4, v5, v7, hS, hS1, hS4, hS5, hnl, f1, f2, f3, f4, z1, z2, z3, z4, y1, y2, y3, y4, x1, x2, x3, x4, u1, u2, u3, u4, hS1], by simp [v0, v2, v3, v4, v5, v7, hS, hS1, hS4, hS5, hnl, f1, f2, f3, f4, z1, z2, z3, z4, y1, y2, y3, y4, x1, x2, x3, x4, u1, u2, u3, u4, hS4], by simp⟩
          · obtain ⟨by_1, by_2, by_3, by_4⟩ := fr hoy
            obtain ⟨cy1, cy2, cy3, cy4⟩ := fr hp0
            obtain ⟨dy1, dy2, dy3, dy4⟩ := fr (show 0 < oy by omega)
            obtain ⟨ey1, ey2, ey3, ey4⟩ := fr (show 1 < oy by omega)
            obtain ⟨gy1, gy2, gy3, gy4⟩ := fr (show 4 < oy by omega)
            simp [-getElem?_pos, hc1, hc2, h1, w1, hw, hr1, hr8, ints_snoc, v0, v2, v3, v4, v5, v7, hS, hS1, hS4, hS5, hnl, f1, f2, f3, f4, z1, z2, z3, z4, y1, y2, y3, y4, x1, x2, x3, x4, u1, u2, u3, u4, hSy, by_1, by_2, by_3, by_4, cy1, cy2, cy3, cy4, dy1, dy2, dy3, dy4, ey1, ey2, ey3, ey4, gy1, gy2, gy3, gy4]
            exact Rnd_n (n - 1) (by omega) ⟨i + 1, p1, s1, l ++ [a1 - 1], .ref (st.nx + 1) none st.ep 0 (l ++ [a1 - 1]).length, by omega, by simp [hl], hp1, by simp [v0], by simp [v2], by simp [v3], by simp [v4], by simp [v5], by simp, by simp; omega, .inl ⟨rfl, hM0⟩, .inr ⟨st.nx + 1, st.ep, rfl, by omega, by simp, by simp [v0, v2, v3, v4, v5, v7, hS, hS1, hS4, hS5, hnl, f1, f2, f3, f4, z1, z2, z3, z4, y1, y2, y3, y4, x1, x2, x3, x4, u1, u2, u3, u4, hSy, by_1, by_2, by_3, by_4, cy1, cy2, cy3, cy4, dy1, dy2, dy3, dy4, ey1, ey2, ey3, ey4, gy1, gy2, gy3, gy4, ints]⟩, by simp [v0, v2, v3, v4, v5, v7, hS, hS1, hS4, hS5, hnl, f1, f2, f3, f4, z1, z2, z3, z4, y1, y2, y3, y4, x1, x2, x3, x4, u1, u2, u3, u4, hSy, by_1, by_2, by_3, by_4, cy1, cy2, cy3, cy4, dy1, dy2, dy3, dy4, ey1, ey2, ey3, ey4, gy1, gy2, gy3, gy4], by simp [v0, v2, v3, v4, v5, v7, hS, hS1, hS4, hS5, hnl, f1, f2, f3, f4, z1, z2, z3, z4, y1, y2, y3, y4, x1, x2, x3, x4, u1, u2, u3, u4, hSy, by_1, by_2, by_3, by_4, cy1, cy2, cy3, cy4, dy1, dy2, dy3, dy4, ey1, ey2, ey3, ey4, gy1, gy2, gy3, gy4, hS1], by simp [v0, v2, v3, v4, v5, v7, hS, hS1, hS4, hS5, hnl, f1, f2, f3, f4, z1, z2, z3, z4, y1, y2, y3, y4, x1, x2, x3, x4, u1, u2, u3, u4, hSy, by_1, by_2, by_3, by_4, cy1, cy2, cy3, cy4, dy1, dy2, dy3, dy4, ey1, ey2, ey3, ey4, gy1, gy2, gy3, gy4, hS4], by simp⟩
        · rcases hy with ⟨rfl, hl0⟩ | ⟨oy, ey', rfl, hp0, hoy, hSy⟩
          · obtain ⟨bx1, bx2, bx3, bx4⟩ := fr hox
            obtain ⟨cx1, cx2, cx3, cx4⟩ := fr ho
            obtain ⟨dx1, dx2, dx3, dx4⟩ := fr (show 0 < ox by omega)
            obtain ⟨ex1, ex2, ex3, ex4⟩ := fr (show 1 < ox by omega)
            obtain ⟨gx1, gx2, gx3, gx4⟩ := fr (show 4 < ox by omega)
            obtain ⟨_, _, r3, r4⟩ := fr (show ox < st.nx + 1 by omega)
            have hone : [[iv (a1 - 1)]] = ints [a1 - 1] := rfl
            simp [-getElem?_pos, hc1, hc2, h1, w1, hw, hr1, hr8, hone, ints_allV, v0, v2, v3, v4, v5, v7, hS, hS1, hS4, hS5, hnl, f1, f2, f3, f4, z1, z2, z3, z4, y1, y2, y3, y4, x1, x2, x3, x4, u1, u2, u3, u4, hSx, bx1, bx2, bx3, bx4, cx1, cx2, cx3, cx4, dx1, dx2, dx3, dx4, ex1, ex2, ex3, ex4, gx1, gx2, gx3, gx4, r3, r4]
            exact Rnd_n (n - 1) (by omega) ⟨i + 1, p1, s1, [a1 - 1], .ref (st.nx + 1) none st.ep 0 ([a1 - 1]).length, by omega, by subst hl0; simp at hl; simp; omega, hp1, by simp [v0], by simp [v2], by simp [v3], by simp [v4], by simp [v5], by simp, by simp; omega, .inr ⟨ox, ex', rfl, ho, by simp; omega, by simp [v0, v2, v3, v4, v5, v7, hS, hS1, hS4, hS5, hnl, f1, f2, f3, f4, z1, z2, z3, z4, y1, y2, y3, y4, x1, x2, x3, x4, u1, u2, u3, u4, hSx, bx1, bx2, bx3, bx4, cx1, cx2, cx3, cx4, dx1, dx2, dx3, dx4, ex1, ex2, ex3, ex4, gx1, gx2, gx3, gx4, r3, r4, hSx], fun o' e' h => by simp at h; omega⟩, .inr ⟨st.nx + 1, st.ep, rfl, by omega, by simp, by simp [v0, v2, v3, v4, v5, v7, hS, hS1, hS4, hS5, hnl, f1, f2, f3, f4, z1, z2, z3, z4, y1, y2, y3, y4, x1, x2, x3, x4, u1, u2, u3, u4, hSx, bx1, bx2, bx3, bx4, cx1, cx2, cx3, cx4, dx1, dx2, dx3, dx4, ex1, ex2, ex3, ex4, gx1, gx2, gx3, gx4, r3, r4, ints]⟩, by simp [v0, v2, v3, v4, v5, v7, hS, hS1, hS4, hS5, hnl, f1, f2, f3, f4, z1, z2, z3, z4, y1, y2, y3, y4, x1, x2, x3, x4, u1, u2, u3, u4, hSx, bx1, bx2, bx3, bx4, cx1, cx2, cx3, cx4, dx1, dx2, dx3, dx4, ex1, ex2, ex3, ex4, gx1, gx2, gx3, gx4, r3, r4], by simp [v0, v2, v3, v4, v5, v7, hS, hS1, hS4, hS5, hnl, f1, f2, f3, f4, z1, z2, z3, z4, y1, y2, y3, y4, x1, x2, x3, x4, u1, u2, u3, u4, hSx, bx1, bx2, bx3, bx4, cx1, cx2, cx3, cx4, dx1, dx2, dx3, dx4, ex1, ex2, ex3, ex4, gx1, gx2, gx3, gx4, r3, r4, hS1], by simp [v0, v2, v3, v4, v5, v7, hS, hS1, hS4, hS5, hnl, f1, f2, f3, f4, z1, z2, z3, z4, y1, y2, y3, y4, x1, x2, x3, x4, u1, u2, u3, u4, hSx, bx1, bx2, bx3, bx4, cx1, cx2, cx3, cx4, dx1, dx2, dx3, dx4, ex1, ex2, ex3, ex4, gx1, gx2, gx3, gx4, r3, r4, hS4], by simp⟩
          · obtain ⟨bx1, bx2, bx3, bx4⟩ := fr hox
            obtain ⟨cx1, cx2, cx3, cx4⟩ := fr ho
            obtain ⟨dx1, dx2, dx3, dx4⟩ := fr (show 0 < ox by omega)
            obtain ⟨ex1, ex2, ex3, ex4⟩ := fr (show 1 < ox by omega)
            obtain ⟨gx1, gx2, gx3, gx4⟩ := fr (show 4 < ox by omega)
            obtain ⟨by_1, by_2, by_3, by_4⟩ := fr hoy
            obtain ⟨cy1, cy2, cy3, cy4⟩ := fr hp0
            obtain ⟨dy1, dy2, dy3, dy4⟩ := fr (show 0 < oy by omega)
            obtain ⟨ey1, ey2, ey3, ey4⟩ := fr (show 1 < oy by omega)
            obtain ⟨gy1, gy2, gy3, gy4⟩ := fr (show 4 < oy by omega)
            have t1 : (ox = oy) = False := eq_false (hne oy ey' rfl)
            have t2 : (oy = ox) = False := eq_false (fun h => hne oy ey' rfl h.symm)
            obtain ⟨_, _, r3, r4⟩ := fr (show ox < st.nx + 1 by omega)
            simp [-getElem?_pos, hc1, hc2, h1, w1, hw, hr1, hr8, ints_snoc, v0, v2, v3, v4, v5, v7, hS, hS1, hS4, hS5, hnl, f1, f2, f3, f4, z1, z2, z3, z4, y1, y2, y3, y4, x1, x2, x3, x4, u1, u2, u3, u4, hSx, bx1, bx2, bx3, bx4, cx1, cx2, cx3, cx4, dx1, dx2, dx3, dx4, ex1, ex2, ex3, ex4, gx1, gx2, gx3, gx4, hSy, by_1, by_2, by_3, by_4, cy1, cy2, cy3, cy4, dy1, dy2, dy3, dy4, ey1, ey2, ey3, ey4, gy1, gy2, gy3, gy4, t1, t2, r3, r4]
            exact Rnd_n (n - 1) (by omega) ⟨i + 1, p1, s1, l ++ [a1 - 1], .ref (st.nx + 1) none st.ep 0 (l ++ [a1 - 1]).length, by omega, by simp [hl], hp1, by simp [v0], by simp [v2], by simp [v3], by simp [v4], by simp [v5], by simp, by simp; omega, .inr ⟨ox, ex', rfl, ho, by simp; omega, by simp [v0, v2, v3, v4, v5, v7, hS, hS1, hS4, hS5, hnl, f1, f2, f3, f4, z1, z2, z3, z4, y1, y2, y3, y4, x1, x2, x3, x4, u1, u2, u3, u4, hSx, bx1, bx2, bx3, bx4, cx1, cx2, cx3, cx4, dx1, dx2, dx3, dx4, ex1, ex2, ex3, ex4, gx1, gx2, gx3, gx4, hSy, by_1, by_2, by_3, by_4, cy1, cy2, cy3, cy4, dy1, dy2, dy3, dy4, ey1, ey2, ey3, ey4, gy1, gy2, gy3, gy4, t1, t2, r3, r4, hSx], fun o' e' h => by simp at h; omega⟩, .inr ⟨st.nx + 1, st.ep, rfl, by omega, by simp, by simp [v0, v2, v3, v4, v5, v7, hS, hS1, hS4, hS5, hnl, f1, f2, f3, f4, z1, z2, z3, z4, y1, y2, y3, y4, x1, x2, x3, x4, u1, u2, u3, u4, hSx, bx1, bx2, bx3, bx4, cx1, cx2, cx3, cx4, dx1, dx2, dx3, dx4, ex1, ex2, ex3, ex4, gx1, gx2, gx3, gx4, hSy, by_1, by_2, by_3, by_4, cy1, cy2, cy3, cy4, dy1, dy2, dy3, dy4, ey1, ey2, ey3, ey4, gy1, gy2, gy3, gy4, t1, t2, r3, r4, ints]⟩, by simp [v0, v2, v3, v4, v5, v7, hS, hS1, hS4, hS5, hnl, f1, f2, f3, f4, z1, z2, z3, z4, y1, y2, y3, y4, x1, x2, x3, x4, u1, u2, u3, u4, hSx, bx1, bx2, bx3, bx4, cx1, cx2, cx3, cx4, dx1, dx2, dx3, dx4, ex1, ex2, ex3, ex4, gx1, gx2, gx3, gx4, hSy, by_1, by_2, by_3, by_4, cy1, cy2, cy3, cy4, dy1, dy2, dy3, dy4, ey1, ey2, ey3, ey4, gy1, gy2, gy3, gy4, t1, t2, r3, r4], by simp [v0, v2, v3, v4, v5, v7, hS, hS1, hS4, hS5, hnl, f1, f2, f3, f4, z1, z2, z3, z4, y1, y2, y3, y4, x1, x2, x3, x4, u1, u2, u3, u4, hSx, bx1, bx2, bx3, bx4, cx1, cx2, cx3, cx4, dx1, dx2, dx3, dx4, ex1, ex2, ex3, ex4, gx1, gx2, gx3, gx4, hSy, by_1, by_2, by_3, by_4, cy1, cy2, cy3, cy4, dy1, dy2, dy3, dy4, ey1, ey2, ey3, ey4, gy1, gy2, gy3, gy4, t1, t2, r3, r4, hS1], by simp [v0, v2, v3, v4, v5, v7, hS, hS1, hS4, hS5, hnl, f1, f2, f3, f4, z1, z2, z3, z4, y1, y2, y3, y4, x1, x2, x3, x4, u1, u2, u3, u4, hSx, bx1, bx2, bx3, bx4, cx1, cx2, cx3, cx4, dx1, dx2, dx3, dx4, ex1, ex2, ex3, ex4, gx1, gx2, gx3, gx4, hSy, by_1, by_2, by_3, by_4, cy1, cy2, cy3, cy4, dy1, dy2, dy3, dy4, ey1, ey2, ey3, ey4, gy1, gy2, gy3, gy4, t1, t2, r3, r4, hS4], by simp⟩
      · by_cases hc1 : i < nf
        · have hc2 : ¬ (kt : Int).tmod 2 = 1 := fun h => by
            have := of_eq_false hc
            exact this ⟨hc1, h⟩
          rcases hx with ⟨rfl, hM0⟩ | ⟨ox, ex', rfl, ho, hox, hSx, hne⟩
          · rcases hy with ⟨rfl, hl0⟩ | ⟨oy, ey', rfl, hp0, hoy, hSy⟩
            · simp [-getElem?_pos, hc1, hc2, v0, v2, v3, v4, v5, v7, hS, hS1, hS4, hS5, hnl, f1, f2, f3, f4, z1, z2, z3, z4, y1, y2, y3, y4, x1, x2, x3, x4, u1, u2, u3, u4]
              exact ⟨_, p, s, hfin2 hM0 hl0, hp, rfl⟩
            · obtain ⟨by_1, by_2, by_3, by_4⟩ := fr hoy
              obtain ⟨cy1, cy2, cy3, cy4⟩ := fr hp0
              obtain ⟨dy1, dy2, dy3, dy4⟩ := fr (show 0 < oy by omega)
              obtain ⟨ey1, ey2, ey3, ey4⟩ := fr (show 1 < oy by omega)
              obtain ⟨gy1, gy2, gy3, gy4⟩ := fr (show 4 < oy by omega)
              have hoy1 : 1 ≤ oy := by omega
              simp [-getElem?_pos, hoy1, hc1, hc2, v0, v2, v3, v4, v5, v7, hS, hS1, hS4, hS5, hnl, f1, f2, f3, f4, z1, z2, z3, z4, y1, y2, y3, y4, x1, x2, x3, x4, u1, u2, u3, u4, hSy, by_1, by_2, by_3, by_4, cy1, cy2, cy3, cy4, dy1, dy2, dy3, dy4, ey1, ey2, ey3, ey4, gy1, gy2, gy3, gy4]
              exact ⟨_, p, s, hfin0 hM0, hp, rfl⟩
          · rcases hy with ⟨rfl, hl0⟩ | ⟨oy, ey', rfl, hp0, hoy, hSy⟩
            · obtain ⟨bx1, bx2, bx3, bx4⟩ := fr hox
              obtain ⟨cx1, cx2, cx3, cx4⟩ := fr ho
              obtain ⟨dx1, dx2, dx3, dx4⟩ := fr (show 0 < ox by omega)
              obtain ⟨ex1, ex2, ex3, ex4⟩ := fr (show 1 < ox by omega)
              obtain ⟨gx1, gx2, gx3, gx4⟩ := fr (show 4 < ox by omega)
              have hox1 : 1 ≤ ox := by omega
              simp [-getElem?_pos, hox1, hc1, hc2, v0, v2, v3, v4, v5, v7, hS, hS1, hS4, hS5, hnl, f1, f2, f3, f4, z1, z2, z3, z4, y1, y2, y3, y4, x1, x2, x3, x4, u1, u2, u3, u4, hSx, bx1, bx2, bx3, bx4, cx1, cx2, cx3, cx4, dx1, dx2, dx3, dx4, ex1, ex2, ex3, ex4, gx1, gx2, gx3, gx4]
              exact ⟨_, p, s, hfin1 hl0, hp, rfl⟩
            · obtain ⟨bx1, bx2, bx3, bx4⟩ := fr hox
              obtain ⟨cx1, cx2, cx3, cx4⟩ := fr ho
              obtain ⟨dx1, dx2, dx3, dx4⟩ := fr (show 0 < ox by omega)
              obtain ⟨ex1, ex2, ex3, ex4⟩ := fr (show 1 < ox by omega)
              obtain ⟨gx1, gx2, gx3, gx4⟩ := fr (show 4 < ox by omega)
              obtain ⟨by_1, by_2, by_3, by_4⟩ := fr hoy
              obtain ⟨cy1, cy2, cy3, cy4⟩ := fr hp0
              obtain ⟨dy1, dy2, dy3, dy4⟩ := fr (show 0 < oy by omega)
              obtain ⟨ey1, ey2, ey3, ey4⟩ := fr (show 1 < oy by omega)
              obtain ⟨gy1, gy2, gy3, gy4⟩ := fr (show 4 < oy by omega)
              have t1 : (ox = oy) = False := eq_false (hne oy ey' rfl)
              have t2 : (oy = ox) = False := eq_false (fun h => hne oy ey' rfl h.symm)
              have hox1 : 1 ≤ ox := by omega
              have hoy1 : 1 ≤ oy := by omega
              simp [-getElem?_pos, hox1, hoy1, hc1, hc2, v0, v2, v3, v4, v5, v7, hS, hS1, hS4, hS5, hnl, f1, f2, f3, f4, z1, z2, z3, z4, y1, y2, y3, y4, x1, x2, x3, x4, u1, u2, u3, u4, hSx, bx1, bx2, bx3, bx4, cx1, cx2, cx3, cx4, dx1, dx2, dx3, dx4, ex1, ex2, ex3, ex4, gx1, gx2, gx3, gx4, hSy, by_1, by_2, by_3, by_4, cy1, cy2, cy3, cy4, dy1, dy2, dy3, dy4, ey1, ey2, ey3, ey4, gy1, gy2, gy3, gy4, t1, t2]
              exact ⟨_, p, s, hfin, hp, rfl⟩
        · skip
          rcases hx with ⟨rfl, hM0⟩ | ⟨ox, ex', rfl, ho, hox, hSx, hne⟩
          · rcases hy with ⟨rfl, hl0⟩ | ⟨oy, ey', rfl, hp0, hoy, hSy⟩
            · simp [-getElem?_pos, hc1, v0, v2, v3, v4, v5, v7, hS, hS1, hS4, hS5, hnl, f1, f2, f3, f4, z1, z2, z3, z4, y1, y2, y3, y4, x1, x2, x3, x4, u1, u2, u3, u4]
              exact ⟨_, p, s, hfin2 hM0 hl0, hp, rfl⟩
            · obtain ⟨by_1, by_2, by_3, by_4⟩ := fr hoy
              obtain ⟨cy1, cy2, cy3, cy4⟩ := fr hp0
              obtain ⟨dy1, dy2, dy3, dy4⟩ := fr (show 0 < oy by omega)
              obtain ⟨ey1, ey2, ey3, ey4⟩ := fr (show 1 < oy by omega)
              obtain ⟨gy1, gy2, gy3, gy4⟩ := fr (show 4 < oy by omega)
              have hoy1 : 1 ≤ oy := by omega
              simp [-getElem?_pos, hoy1, hc1, v0, v2, v3, v4, v5, v7, hS, hS1, hS4, hS5, hnl, f1, f2, f3, f4, z1, z2, z3, z4, y1, y2, y3, y4, x1, x2, x3, x4, u1, u2, u3, u4, hSy, by_1, by_2, by_3, by_4, cy1, cy2, cy3, cy4, dy1, dy2, dy3, dy4, ey1, ey2, ey3, ey4, gy1, gy2, gy3, gy4]
              exact ⟨_, p, s, hfin0 hM0, hp, rfl⟩
          · rcases hy with ⟨rfl, hl0⟩ | ⟨oy, ey', rfl, hp0, hoy, hSy⟩
            · obtain ⟨bx1, bx2, bx3, bx4⟩ := fr hox
              obtain ⟨cx1, cx2, cx3, cx4⟩ := fr ho
              obtain ⟨dx1, dx2, dx3, dx4⟩ := fr (show 0 < ox by omega)
              obtain ⟨ex1, ex2, ex3, ex4⟩ := fr (show 1 < ox by omega)
              obtain ⟨gx1, gx2, gx3, gx4⟩ := fr (show 4 < ox by omega)
              have hox1 : 1 ≤ ox := by omega
              simp [-getElem?_pos, hox1, hc1, v0, v2, v3, v4, v5, v7, hS, hS1, hS4, hS5, hnl, f1, f2, f3, f4, z1, z2, z3, z4, y1, y2, y3, y4, x1, x2, x3, x4, u1, u2, u3, u4, hSx, bx1, bx2, bx3, bx4, cx1, cx2, cx3, cx4, dx1, dx2, dx3, dx4, ex1, ex2, ex3, ex4, gx1, gx2, gx3, gx4]
              exact ⟨_, p, s, hfin1 hl0, hp, rfl⟩
            · obtain ⟨bx1, bx2, bx3, bx4⟩ := fr hox
              obtain ⟨cx1, cx2, cx3, cx4⟩ := fr ho
              obtain ⟨dx1, dx2, dx3, dx4⟩ := fr (show 0 < ox by omega)
              obtain ⟨ex1, ex2, ex3, ex4⟩ := fr (show 1 < ox by omega)
              obtain ⟨gx1, gx2, gx3, gx4⟩ := fr (show 4 < ox by omega)
              obtain ⟨by_1, by_2, by_3, by_4⟩ := fr hoy
              obtain ⟨cy1, cy2, cy3, cy4⟩ := fr hp0
              obtain ⟨dy1, dy2, dy3, dy4⟩ := fr (show 0 < oy by omega)
              obtain ⟨ey1, ey2, ey3, ey4⟩ := fr (show 1 < oy by omega)
              obtain ⟨gy1, gy2, gy3, gy4⟩ := fr (show 4 < oy by omega)
              have t1 : (ox = oy) = False := eq_false (hne oy ey' rfl)
              have t2 : (oy = ox) = False := eq_false (fun h => hne oy ey' rfl h.symm)
              have hox1 : 1 ≤ ox := by omega
              have hoy1 : 1 ≤ oy := by omega
              simp [-getElem?_pos, hox1, hoy1, hc1, v0, v2, v3, v4, v5, v7, hS, hS1, hS4, hS5, hnl, f1, f2, f3, f4, z1, z2, z3, z4, y1, y2, y3, y4, x1, x2, x3, x4, u1, u2, u3, u4, hSx, bx1, bx2, bx3, bx4, cx1, cx2, cx3, cx4, dx1, dx2, dx3, dx4, ex1, ex2, ex3, ex4, gx1, gx2, gx3, gx4, hSy, by_1, by_2, by_3, by_4, cy1, cy2, cy3, cy4, dy1, dy2, dy3, dy4, ey1, ey2, ey3, ey4, gy1, gy2, gy3, gy4, t1, t2]
              exact ⟨_, p, s, hfin, hp, rfl⟩
    · rcases hx with h | ⟨o, e, h1, h2, h3, h4⟩
      · exact .inl h
      · exact .inr ⟨o, e, h1, h2, h3, h4, by simp⟩

def PMoB (v : PV) : Prop := ∃ m : Mo, v = moO m ∧ 1 ≤ m.ns.length ∧ m.ns.length ≤ 5 ∧ (∀ x ∈ m.ns, x.size ≤ 64) ∧ m.ix.length ≤ 65 ∧ m.ts.length ≤ 65 ∧ ∀ t ∈ m.ts, t.length ≤ 32

theorem strs_snoc2 (l : List ByteArray) (a b : ByteArray) : strs l ++ [[.v (.string a)], [.v (.string b)]] = strs (l ++ [a, b]) := by simp [strs]

theorem trs_snoc (M : List (List Nd)) (t : List Nd) : trs true M ++ [[.own 5 (t.map nd)]] = trs true (M ++ [t]) := by simp [trs, celT]

theorem trs_snoc' (M : List (List Nd)) (t : Nd) : trs true M ++ [[.own 5 [nd t]]] = trs true (M ++ [[t]]) := by simp [trs, celT]

set_option maxHeartbeats 2000000 in
theorem R_spec_l24Bent (B : List Int) (p : Nat) (s : Int) (hp : p ≤ B.length) (hB : B.length ≤ 9223372036854775807) : ∃ r, RUN T k_spec_l24Bent [.bx [.sl 1 (byts B), iv p, iv s]] = some r ∧ Draw B PMoB r := by
  refine RUN_G T_spec_l24Bent rfl ?_
  obtain ⟨r1, h1, v1, p1, s1, ⟨m, rfl, hn1, hn3, hns, hix, hts, htl⟩, hp1, rfl⟩ := R_spec_l24Right B p s hp hB
  obtain ⟨r2, h2, v2, p2, s2, ⟨a2, rfl, a20, a21⟩, hp2, rfl⟩ := R_spec_l1Below B p1 s1 hp1 hB 14 (by omega)
  obtain ⟨ns, ix, b, ts⟩ := m
  simp only at hn1 hn3 hns hix hts htl
  simp only [moO] at h1
  have hr4 : roomFor 16 4 = true := by decide
  have hr2 : roomFor 16 2 = true := by decide
  have hr1 : roomFor 8 1 = true := by decide
  have hr3 : roomFor 8 3 = true := by decide
  have hrt : roomFor 24 1 = true := by decide
  have hr8 := room8 (n := ix.length + 1) (by omega)
  have hr24 : roomFor 24 (ts.length + 1) = true := by simp [roomFor]; omega
  have hr16 : roomFor 16 (ns.length + 2) = true := by simp [roomFor]; omega
  obtain ⟨x0, hx0⟩ : ∃ x, ns[0]? = some x := ⟨_, List.getElem?_eq_getElem (by omega)⟩
  have hx0' := strs_get hx0
  have hn0 : 0 < ns.length := by omega
  by_cases c0 : a2 = 0
  · obtain ⟨r3, h3, y, p3, s3, hy, hp3, rfl⟩ := R_spec_l1Pick B p2 s2 hp2 hB [bs [], bs [65], bs [98], bs [97, 98, 99, 100, 101, 102, 103, 104, 105, 106, 107, 108, 109]] (by simp)
    have hys : y.size ≤ 64 := by
      simp only [List.mem_cons, List.not_mem_nil, or_false] at hy
      rcases hy with rfl | rfl | rfl | rfl <;> decide
    simp only [strs, List.map] at h3
    have hset := strs_set ns 0 y
    simp [-getElem?_pos, k_spec_l24Bent_ic, k_spec_l24Bent_rv, h1, h2, c0, h3, hr4, hx0', hset, hn0]
    exact ⟨_, p3, s3, ⟨⟨ns.set 0 y, ix, b, ts⟩, rfl, by simp; omega, by simp; omega, fun x hx => by
      rcases List.mem_or_eq_of_mem_set hx with h | h
      · exact hns x h
      · subst h; exact hys, by simp; omega, by simp; omega, htl⟩, hp3, rfl⟩
  by_cases c1 : a2 = 1
  · simp [-getElem?_pos, k_spec_l24Bent_ic, k_spec_l24Bent_rv, h1, h2, c0, c1, hr1, hr8, ints_snoc]
    exact ⟨_, p2, s2, ⟨⟨ns, ix ++ [0], b, ts⟩, rfl, by simp; omega, by simp; omega, hns, by simp; omega, by simp; omega, htl⟩, hp2, rfl⟩
  by_cases c2 : a2 = 2
  · obtain ⟨r3, h3, v3, p3, s3, ⟨y, rfl, hy⟩, hp3, rfl⟩ := R_spec_l1PickInt B p2 s2 hp2 hB [2147483647, 2147483648, -2147483648] (by simp)
    simp only [ints, List.map] at h3
    simp [-getElem?_pos, k_spec_l24Bent_ic, k_spec_l24Bent_rv, h1, h2, c0, c1, c2, h3, hr3]
    exact ⟨_, p3, s3, ⟨⟨ns, ix, y, ts⟩, rfl, by simp; omega, by simp; omega, hns, by simp; omega, by simp; omega, htl⟩, hp3, rfl⟩
  by_cases c3 : a2 = 3
  · obtain ⟨r3, h3, v3, p3, s3, ⟨t, rfl, ht⟩, hp3, rfl⟩ := R_spec_l17Bent B p2 s2 hp2 hB
    have e := trs_snoc ts t
    simp [-getElem?_pos, k_spec_l24Bent_ic, k_spec_l24Bent_rv, h1, h2, c0, c1, c2, c3, h3, hrt, hr24, e]
    exact ⟨_, p3, s3, ⟨⟨ns, ix, b, ts ++ [t]⟩, rfl, by simp; omega, by simp; omega, hns, by simp; omega, by simp; omega, fun u hu => by
      rcases List.mem_append.mp hu with h | h
      · exact htl u h
      · simp at h; subst h; exact ht⟩, hp3, rfl⟩
  by_cases c4 : a2 = 4
  · simp [-getElem?_pos, k_spec_l24Bent_ic, k_spec_l24Bent_rv, h1, h2, c0, c1, c2, c3, c4]
    refine W_loop (fun n st => ∃ (p o e : Nat) (s : Int) (M : List (List Nd)), M.length + n = ts.length + 10 ∧ M.length ≤ 65 ∧ (∀ t ∈ M, t.length ≤ 32) ∧ p ≤ B.length ∧ st.V 0 = .ptr 0 none 0 0 0 ∧ st.V 2 = .ptr 1 none 0 0 0 ∧ st.V 3 = .ptr 5 none 0 0 0 ∧ 3 < o ∧ o ≠ 5 ∧ o < st.nx ∧ 5 < st.nx ∧ st.S 0 = some (.box [.sl 1 (byts B), iv p, iv s]) ∧ st.S 1 = some (.box [.e0, .e0, iv 0, .e0]) ∧ st.S 2 = some (.row 1 (strs ns)) ∧ st.S 3 = some (.row 1 (ints ix)) ∧ st.S o = some (.row 1 (trs true M)) ∧ st.S 5 = some (.box [.ref 2 none 0 0 ns.length, .ref 3 none 0 0 ix.length, iv b, .ref o none e 0 M.length])) ?_ 10 _ ⟨p2, 4, 0, s2, ts, by omega, by omega, htl, hp2, by simp, by simp, by simp, by omega, by omega, by simp, by simp, by simp, by simp, by simp, by simp, by simp, by simp⟩
    clear h1 h2 hp1 hp2 hp c0 c1 c2 c3 c4
    rintro n st ⟨p, o, e, s, M, hi, hM, hMl, hp, v0, v2, v3, ho, ho5, hox, hnx, hS, hS1, hS2, hS3, hSo, hS5⟩
    obtain ⟨f1, f2, f3, f4⟩ := fr (show 5 < st.nx by omega)
    obtain ⟨z1, z2, z3, z4⟩ := fr (show 0 < st.nx by omega)
    obtain ⟨y1, y2, y3, y4⟩ := fr (show 1 < st.nx by omega)
    obtain ⟨x1, x2, x3, x4⟩ := fr (show 2 < st.nx by omega)
    obtain ⟨w1, w2, w3, w4⟩ := fr (show 3 < st.nx by omega)
    obtain ⟨u1, u2, u3, u4⟩ := fr (show 5 < st.nx + 1 by omega)
    obtain ⟨b1, b2, b3, b4⟩ := fr hox
    obtain ⟨d1, d2, d3, d4⟩ := fr (show 0 < o by omega)
    obtain ⟨e1, e2, e3, e4⟩ := fr (show 1 < o by omega)
    obtain ⟨g1, g2, g3, g4⟩ := fr (show 2 < o by omega)
    obtain ⟨k1, k2, k3, k4⟩ := fr (show 3 < o by omega)
    have o1 : (o = 5) = False := eq_false ho5
    have o2 : (5 = o) = False := eq_false (fun h => ho5 h.symm)
    obtain ⟨r3, h3, v3', p3, s3, ⟨a3, rfl, a30, a31⟩, hp3, rfl⟩ := R_spec_l1Below B p s hp hB 2 (by omega)
    have a32 := a31 (by omega)
    have wa := w64 (x := 8 + a3) (by omega) (by omega)
    by_cases hc : (M.length : Int) < 8 + a3
    · have h4 := R_spec_OneLeaf 1
      have e5 := trs_snoc' M (leafN 1)
      have hrM : roomFor 24 (M.length + 1) = true := by simp [roomFor]; omega
      simp [-getElem?_pos, k_spec_l24Bent_b0, v0, v2, v3, hS, hS1, hS2, hS3, hSo, hS5, h3, h4, wa, hc, hrt, hrM, e5, f1, f2, f3, f4, z1, z2, z3, z4, y1, y2, y3, y4, x1, x2, x3, x4, u1, u2, u3, u4, w1, w2, w3, w4, b1, b2, b3, b4, d1, d2, d3, d4, e1, e2, e3, e4, g1, g2, g3, g4, k1, k2, k3, k4, o1, o2]
      refine Rnd_n (n - 1) (by omega) ⟨p3, st.nx + 2, st.ep, s3, M ++ [[leafN 1]], by simp; omega, by simp; omega, ?_, hp3, by simp [v0], by simp [v2], by simp [v3], by omega, by omega, by simp, by simp; omega, by simp [f1, f2, f3, f4, z1, z2, z3, z4, y1, y2, y3, y4, x1, x2, x3, x4, u1, u2, u3, u4, w1, w2, w3, w4, b1, b2, b3, b4, d1, d2, d3, d4, e1, e2, e3, e4, g1, g2, g3, g4, k1, k2, k3, k4, o1, o2], by simp [f1, f2, f3, f4, z1, z2, z3, z4, y1, y2, y3, y4, x1, x2, x3, x4, u1, u2, u3, u4, w1, w2, w3, w4, b1, b2, b3, b4, d1, d2, d3, d4, e1, e2, e3, e4, g1, g2, g3, g4, k1, k2, k3, k4, o1, o2, hS1], by simp [f1, f2, f3, f4, z1, z2, z3, z4, y1, y2, y3, y4, x1, x2, x3, x4, u1, u2, u3, u4, w1, w2, w3, w4, b1, b2, b3, b4, d1, d2, d3, d4, e1, e2, e3, e4, g1, g2, g3, g4, k1, k2, k3, k4, o1, o2, hS2], by simp [f1, f2, f3, f4, z1, z2, z3, z4, y1, y2, y3, y4, x1, x2, x3, x4, u1, u2, u3, u4, w1, w2, w3, w4, b1, b2, b3, b4, d1, d2, d3, d4, e1, e2, e3, e4, g1, g2, g3, g4, k1, k2, k3, k4, o1, o2, hS3], by simp [f1, f2, f3, f4, z1, z2, z3, z4, y1, y2, y3, y4, x1, x2, x3, x4, u1, u2, u3, u4, w1, w2, w3, w4, b1, b2, b3, b4, d1, d2, d3, d4, e1, e2, e3, e4, g1, g2, g3, g4, k1, k2, k3, k4, o1, o2], by simp⟩
      intro u hu
      rcases List.mem_append.mp hu with h | h
      · exact hMl u h
      · simp at h; subst h; simp
    · have ho1 : 1 ≤ o := by omega
      simp [-getElem?_pos, k_spec_l24Bent_b0, v0, v2, v3, hS, hS1, hS2, hS3, hSo, hS5, h3, wa, hc, ho1, f1, f2, f3, f4, z1, z2, z3, z4, y1, y2, y3, y4, x1, x2, x3, x4, u1, u2, u3, u4, w1, w2, w3, w4, b1, b2, b3, b4, d1, d2, d3, d4, e1, e2, e3, e4, g1, g2, g3, g4, k1, k2, k3, k4, o1, o2]
      exact ⟨_, p3, s3, ⟨⟨ns, ix, b, M⟩, rfl, by simp; omega, by simp; omega, hns, by simp; omega, hM, hMl⟩, hp3, rfl⟩
  by_cases c5 : a2 = 5
  · have e := strs_snoc2 ns (bs [100]) (bs [101])
    simp [-getElem?_pos, k_spec_l24Bent_ic, k_spec_l24Bent_rv, h1, h2, c0, c1, c2, c3, c4, c5, hr2, hr16, e]
    exact ⟨_, p2, s2, ⟨⟨ns ++ [bs [100], bs [101]], ix, b, ts⟩, rfl, by simp, by simp; omega, fun x hx => by
      rcases List.mem_append.mp hx with h | h
      · exact hns x h
      · simp only [List.mem_cons, List.not_mem_nil, or_false] at h
        rcases h with rfl | rfl <;> decide, by simp; omega, by simp; omega, htl⟩, hp2, rfl⟩
  · simp [-getElem?_pos, k_spec_l24Bent_ic, k_spec_l24Bent_rv, h1, h2, c0, c1, c2, c3, c4, c5]
    exact ⟨_, p2, s2, ⟨⟨ns, ix, b, ts⟩, rfl, by simp; omega, by simp; omega, hns, by simp; omega, by simp; omega, htl⟩, hp2, rfl⟩

theorem MoB_MoL {m : Mo} (h2 : m.ns.length ≤ 5) (h3 : ∀ x ∈ m.ns, x.size ≤ 64) (h4 : m.ix.length ≤ 65) (h5 : m.ts.length ≤ 65) (h6 : ∀ t ∈ m.ts, t.length ≤ 32) : MoL 1048576 m :=
  ⟨by omega, fun x hx => Nat.le_trans (h3 x hx) (by omega), by omega, by omega, fun t ht => Nat.le_trans (h6 t ht) (by omega)⟩

theorem rws_snoc (L : List (List Int)) (r : List Int) : rws true L ++ [[.own 1 (ints r)]] = rws true (L ++ [r]) := by simp [rws, cel]

theorem rws_set (L : List (List Int)) (i : Nat) (r : List Int) : (rws true L).set i [.own 1 (ints r)] = rws true (L.set i r) := by simp [rws, cel]

set_option maxHeartbeats 2000000 in
theorem R_spec_DrawPredictAll (B : List Int) (hB : B.length ≤ 9223372036854775807) : ∃ r, RUN T k_spec_DrawPredictAll [.sl 1 (byts B)] = some r ∧ ∃ (m : Mo) (L : List (List Int)), MoL 1048576 m ∧ L.length ≤ 64 ∧ (∀ r ∈ L, r.length ≤ 64) ∧ r = ([moO m, .own 1 (rws true L)], []) := by
  refine RUN_G T_spec_DrawPredictAll rfl ?_
  obtain ⟨r, h, s, rfl⟩ := R_spec_l1New B hB
  simp only [Int.natCast_zero] at h
  obtain ⟨r2, h2, v2, p2, s2, ⟨m, rfl, hn1, hn5, hns, hix, hts, htl⟩, hp2, rfl⟩ := R_spec_l24Bent B 0 s (by omega) hB
  simp only [Int.natCast_zero, moO] at h2
  have hm := MoB_MoL hn5 hns hix hts htl
  obtain ⟨r3, h3, v3, p3, s3, ⟨a3, rfl, a30, a31⟩, hp3, rfl⟩ := R_spec_l1Below B p2 s2 hp2 hB 5 (by omega)
  have a32 := a31 (by omega)
  obtain ⟨k, rfl⟩ : ∃ n : Nat, a3 = n := ⟨a3.toNat, by omega⟩
  have hr0 : roomFor 24 0 = true := by decide
  simp [-getElem?_pos, k_spec_DrawPredictAll_ic, k_spec_DrawPredictAll_rv, h, h2, h3, hr0]
  refine W_loop (fun n st => ∃ (i p o e : Nat) (s : Int) (L : List (List Int)), i + n = k ∧ L.length = i ∧ (∀ r ∈ L, r.length ≤ 64) ∧ p ≤ B.length ∧ st.V 0 = .sl 1 (byts B) ∧ st.V 2 = .ptr 0 none 0 0 0 ∧ st.V 4 = .ptr 1 none 0 0 0 ∧ st.V 5 = .ptr 5 none 0 0 0 ∧ st.V 6 = .ref o none e 0 L.length ∧ st.V 7 = iv k ∧ st.V 8 = iv i ∧ 5 < o ∧ o < st.nx ∧ st.S 0 = some (.box [.e0, .e0, iv 0, .e0]) ∧ st.S 1 = some (.box [.sl 1 (byts B), iv p, iv s]) ∧ st.S 2 = some (.row 1 (strs m.ns)) ∧ st.S 3 = some (.row 1 (ints m.ix)) ∧ st.S 4 = some (.row 1 (trs true m.ts)) ∧ st.S 5 = some (.box [.ref 2 none 0 0 m.ns.length, .ref 3 none 0 0 m.ix.length, iv m.b, .ref 4 none 0 0 m.ts.length]) ∧ st.S o = some (.row 1 (rws true L))) ?_ k _ ⟨0, p3, 6, 0, s3, [], by omega, rfl, by simp, hp3, by simp, by simp, by simp, by simp, by simp, by simp, by simp, by omega, by simp, by simp, by simp, by simp, by simp, by simp, by simp, by simp [rws]⟩
  clear h h2 h3 hp2 hp3
  rintro n st ⟨i, p, o, e, s, L, hi, hL, hLr, hp, v0, v2, v4, v5, v6, v7, v8, ho, hox, hS, hS1, hS2, hS3, hS4, hS5, hSo⟩
  obtain ⟨f0a, f0b, f0c, f0d⟩ := fr (show 0 < st.nx by omega)
  obtain ⟨g0a, g0b, g0c, g0d⟩ := fr (show 0 < o by omega)
  obtain ⟨f1a, f1b, f1c, f1d⟩ := fr (show 1 < st.nx by omega)
  obtain ⟨g1a, g1b, g1c, g1d⟩ := fr (show 1 < o by omega)
  obtain ⟨f2a, f2b, f2c, f2d⟩ := fr (show 2 < st.nx by omega)
  obtain ⟨g2a, g2b, g2c, g2d⟩ := fr (show 2 < o by omega)
  obtain ⟨f3a, f3b, f3c, f3d⟩ := fr (show 3 < st.nx by omega)
  obtain ⟨g3a, g3b, g3c, g3d⟩ := fr (show 3 < o by omega)
  obtain ⟨f4a, f4b, f4c, f4d⟩ := fr (show 4 < st.nx by omega)
  obtain ⟨g4a, g4b, g4c, g4d⟩ := fr (show 4 < o by omega)
  obtain ⟨f5a, f5b, f5c, f5d⟩ := fr (show 5 < st.nx by omega)
  obtain ⟨g5a, g5b, g5c, g5d⟩ := fr (show 5 < o by omega)
  obtain ⟨x1, x2, x3, x4⟩ := fr hox
  simp [k_spec_DrawPredictAll_b0, v7, v8]
  refine Br_i (fun h => ?_) (fun h => ?_)
  · simp at h
    have hw := wS h (by omega : k ≤ 9223372036854775807)
    have hr1 : roomFor 24 1 = true := by decide
    have hr24 : roomFor 24 (L.length + 1) = true := by simp [roomFor]; omega
    obtain ⟨r5, h5, v5', p5, s5, ⟨row, rfl, hr, _⟩, hp5, rfl⟩ := R_spec_l18Row B p s hp hB m.ns.length (by omega)
    have e5 := rws_snoc L row
    simp [-getElem?_pos, v0, v2, v4, v5, v6, v7, v8, hS, hS1, hS2, hS3, hS4, hS5, hSo, h, h5, hw, hr1, hr24, e5, f0a, f0b, f0c, f0d, g0a, g0b, g0c, g0d, f1a, f1b, f1c, f1d, g1a, g1b, g1c, g1d, f2a, f2b, f2c, f2d, g2a, g2b, g2c, g2d, f3a, f3b, f3c, f3d, g3a, g3b, g3c, g3d, f4a, f4b, f4c, f4d, g4a, g4b, g4c, g4d, f5a, f5b, f5c, f5d, g5a, g5b, g5c, g5d, x1, x2, x3, x4]
    refine Rnd_n (n - 1) (by omega) ⟨i + 1, p5, st.nx + 2, st.ep, s5, L ++ [row], by omega, by simp [hL], ?_, hp5, by simp [v0], by simp [v2], by simp [v4], by simp [v5], by simp, by simp [v7], by simp, by omega, by simp, by simp [f0a, f0b, f0c, f0d, g0a, g0b, g0c, g0d, f1a, f1b, f1c, f1d, g1a, g1b, g1c, g1d, f2a, f2b, f2c, f2d, g2a, g2b, g2c, g2d, f3a, f3b, f3c, f3d, g3a, g3b, g3c, g3d, f4a, f4b, f4c, f4d, g4a, g4b, g4c, g4d, f5a, f5b, f5c, f5d, g5a, g5b, g5c, g5d, x1, x2, x3, x4, hS], by simp [f0a, f0b, f0c, f0d, g0a, g0b, g0c, g0d, f1a, f1b, f1c, f1d, g1a, g1b, g1c, g1d, f2a, f2b, f2c, f2d, g2a, g2b, g2c, g2d, f3a, f3b, f3c, f3d, g3a, g3b, g3c, g3d, f4a, f4b, f4c, f4d, g4a, g4b, g4c, g4d, f5a, f5b, f5c, f5d, g5a, g5b, g5c, g5d, x1, x2, x3, x4], by simp [f0a, f0b, f0c, f0d, g0a, g0b, g0c, g0d, f1a, f1b, f1c, f1d, g1a, g1b, g1c, g1d, f2a, f2b, f2c, f2d, g2a, g2b, g2c, g2d, f3a, f3b, f3c, f3d, g3a, g3b, g3c, g3d, f4a, f4b, f4c, f4d, g4a, g4b, g4c, g4d, f5a, f5b, f5c, f5d, g5a, g5b, g5c, g5d, x1, x2, x3, x4, hS2], by simp [f0a, f0b, f0c, f0d, g0a, g0b, g0c, g0d, f1a, f1b, f1c, f1d, g1a, g1b, g1c, g1d, f2a, f2b, f2c, f2d, g2a, g2b, g2c, g2d, f3a, f3b, f3c, f3d, g3a, g3b, g3c, g3d, f4a, f4b, f4c, f4d, g4a, g4b, g4c, g4d, f5a, f5b, f5c, f5d, g5a, g5b, g5c, g5d, x1, x2, x3, x4, hS3], by simp [f0a, f0b, f0c, f0d, g0a, g0b, g0c, g0d, f1a, f1b, f1c, f1d, g1a, g1b, g1c, g1d, f2a, f2b, f2c, f2d, g2a, g2b, g2c, g2d, f3a, f3b, f3c, f3d, g3a, g3b, g3c, g3d, f4a, f4b, f4c, f4d, g4a, g4b, g4c, g4d, f5a, f5b, f5c, f5d, g5a, g5b, g5c, g5d, x1, x2, x3, x4, hS4], by simp [f0a, f0b, f0c, f0d, g0a, g0b, g0c, g0d, f1a, f1b, f1c, f1d, g1a, g1b, g1c, g1d, f2a, f2b, f2c, f2d, g2a, g2b, g2c, g2d, f3a, f3b, f3c, f3d, g3a, g3b, g3c, g3d, f4a, f4b, f4c, f4d, g4a, g4b, g4c, g4d, f5a, f5b, f5c, f5d, g5a, g5b, g5c, g5d, x1, x2, x3, x4, hS5], by simp⟩
    intro y hy
    rcases List.mem_append.mp hy with hy | hy
    · exact hLr y hy
    · simp at hy; subst hy; omega
  · simp at h
    have hik : i = k := by omega
    by_cases h0 : 0 < k
    · obtain ⟨r5, h5, v5', p5, s5, ⟨b5, rfl⟩, hp5, rfl⟩ := R_spec_l1Once B p s hp hB 8 (by omega)
      cases b5 with
      | true =>
        have hw := w64 (x := (k : Int) - 1) (by omega) (by omega)
        have hr1 : roomFor 8 0 = true := by decide
        have hkk : ((k : Int) - 1) = ((k - 1 : Nat) : Int) := by omega
        obtain ⟨y, hy⟩ : ∃ y, L[k - 1]? = some y := ⟨_, List.getElem?_eq_getElem (by omega)⟩
        have hy' := rws_get (q := true) hy
        have hlt : k - 1 < L.length := by omega
        rw [hkk] at hw
        simp [-getElem?_pos, v0, v2, v4, v5, v6, v7, v8, hS, hS1, hS2, hS3, hS4, hS5, hSo, h0, h5, hkk, hw, hr1, hy', hlt, f0a, f0b, f0c, f0d, g0a, g0b, g0c, g0d, f1a, f1b, f1c, f1d, g1a, g1b, g1c, g1d, f2a, f2b, f2c, f2d, g2a, g2b, g2c, g2d, f3a, f3b, f3c, f3d, g3a, g3b, g3c, g3d, f4a, f4b, f4c, f4d, g4a, g4b, g4c, g4d, f5a, f5b, f5c, f5d, g5a, g5b, g5c, g5d, x1, x2, x3, x4]
        refine ⟨m, hm, L.set (k - 1) [], by simp; omega, fun r hr => ?_, ⟨rfl, rfl, rfl, rfl⟩, by rw [← rws_set]; rfl⟩
        rcases List.mem_or_eq_of_mem_set hr with h | h
        · exact hLr r h
        · subst h; simp
      | false =>
        simp [-getElem?_pos, v0, v2, v4, v5, v6, v7, v8, hS, hS1, hS2, hS3, hS4, hS5, hSo, h0, h5, f0a, f0b, f0c, f0d, g0a, g0b, g0c, g0d, f1a, f1b, f1c, f1d, g1a, g1b, g1c, g1d, f2a, f2b, f2c, f2d, g2a, g2b, g2c, g2d, f3a, f3b, f3c, f3d, g3a, g3b, g3c, g3d, f4a, f4b, f4c, f4d, g4a, g4b, g4c, g4d, f5a, f5b, f5c, f5d, g5a, g5b, g5c, g5d, x1, x2, x3, x4]
        exact ⟨m, hm, L, by omega, hLr, ⟨rfl, rfl, rfl, rfl⟩, rfl⟩
    · simp [-getElem?_pos, v0, v2, v4, v5, v6, v7, v8, hS, hS1, hS2, hS3, hS4, hS5, hSo, h0, f0a, f0b, f0c, f0d, g0a, g0b, g0c, g0d, f1a, f1b, f1c, f1d, g1a, g1b, g1c, g1d, f2a, f2b, f2c, f2d, g2a, g2b, g2c, g2d, f3a, f3b, f3c, f3d, g3a, g3b, g3c, g3d, f4a, f4b, f4c, f4d, g4a, g4b, g4c, g4d, f5a, f5b, f5c, f5d, g5a, g5b, g5c, g5d, x1, x2, x3, x4]
      exact ⟨m, hm, L, by omega, hLr, ⟨rfl, rfl, rfl, rfl⟩, rfl⟩

theorem predAll_at (m : Mo) : ∀ (L : List (List Int)) (w : List Int), predAll m L = some w → ∀ (i : Nat) (r : List Int), L[i]? = some r → (pred m r).2 = true ∧ w[i]? = some (pred m r).1
  | [], w, h, i, r, hr => by simp at hr
  | x :: L, w, h, i, r, hr => by
    simp only [predAll] at h
    split at h
    · rename_i hx
      simp only [Option.map_eq_some_iff] at h
      obtain ⟨w', h1, rfl⟩ := h
      cases i with
      | zero => simp at hr; subst hr; exact ⟨hx, rfl⟩
      | succ i => exact predAll_at m L w' h1 i r (by simpa using hr)
    · cases h

set_option maxHeartbeats 1000000 in
theorem law_FnPredictAll (B : List Int) (hB : B.length ≤ 9223372036854775807) : RUN T k_laws_FnPredictAll [.sl 1 (byts B)] = some ([bv true], []) := by
  refine RUN_W T_laws_FnPredictAll rfl ?_
  have hb := R_laws_big (byts B)
  rw [byts_len] at hb
  by_cases c : (1048576 : Int) < B.length
  · simp [-getElem?_pos, k_laws_FnPredictAll_ic, k_laws_FnPredictAll_rv, hb, c]
  obtain ⟨r, hd, m, L, hm, hL, hLr, rfl⟩ := R_spec_DrawPredictAll B hB
  have hLr1 : ∀ r ∈ L, r.length ≤ 1048576 := fun r h => Nat.le_trans (hLr r h) (by omega)
  have h1 := R_impl_PredictAll true true m L hm (by omega) hLr1
  have h2 := R_spec_PredictAll true true m L hm (by omega) hLr1
  have hP := fun r (hr : r ∈ L) => R_impl_Predict true m r hm (hLr1 r hr)
  have hpa : ∀ w, predAll m L = some w → ∀ (i : Nat) (r : List Int), L[i]? = some r → (pred m r).2 = true ∧ w[i]? = some (pred m r).1 := fun w => predAll_at m L w
  have hlen := predAll_len m L
  unfold predR at h1 h2
  simp only [moS, moO] at h1 h2 hd hP
  cases hw : predAll m L with
  | none =>
    rw [hw] at h1 h2
    have hi0 : ints [] = [] := rfl
    simp only [hi0] at h1 h2
    simp [-getElem?_pos, k_laws_FnPredictAll_ic, k_laws_FnPredictAll_rv, hb, c, hd, h1, h2]
  | some w =>
    rw [hw] at h1 h2
    simp only at h1 h2
    have hlen := hlen w hw
    have hpa := hpa w hw
    simp [-getElem?_pos, k_laws_FnPredictAll_ic, k_laws_FnPredictAll_rv, hb, c, hd, h1, h2]
    refine W_loop (fun n st => ∃ i : Nat, i + n = L.length ∧ st.V 3 = .ptr 4 none 0 0 0 ∧ st.V 4 = .ref 3 none 0 0 L.length ∧ st.V 5 = .ref 5 none 0 0 w.length ∧ st.V 9 = iv i ∧ 5 < st.nx ∧ st.S 0 = some (.row 1 (strs m.ns)) ∧ st.S 1 = some (.row 1 (ints m.ix)) ∧ st.S 2 = some (.row 1 (trs true m.ts)) ∧ st.S 3 = some (.row 1 (rws true L)) ∧ st.S 4 = some (.box [.ref 0 none 0 0 m.ns.length, .ref 1 none 0 0 m.ix.length, iv m.b, .ref 2 none 0 0 m.ts.length]) ∧ st.S 5 = some (.row 1 (ints w))) ?_ L.length _ ⟨0, by simp⟩
    clear h1 h2 hd
    rintro n st ⟨i, hi, v3, v4, v5, v9, hnx, hS0, hS1, hS2, hS3, hS4, hS5⟩
    simp [k_laws_FnPredictAll_b0, v4, v9, hS3]
    refine Br_i (fun h => ?_) (fun h => ?_)
    · simp at h
      obtain ⟨r, hr⟩ : ∃ r, L[i]? = some r := ⟨_, List.getElem?_eq_getElem h⟩
      obtain ⟨p1, p2⟩ := hpa i r hr
      have hr' := rws_get (q := true) hr
      have hws := wS h (by omega : L.length ≤ 9223372036854775807)
      have h1 := hP r (List.mem_of_getElem? hr)
      have hwi := ints_get p2
      have hiw : i < w.length := by omega
      rw [p1] at h1
      generalize (pred m r).1 = a at *
      simp only [cel, if_true] at hr'
      simp [-getElem?_pos, v3, v4, v5, v9, hS0, hS1, hS2, hS3, hS4, hS5, h, hr', h1, hwi, hiw, hws, subRow]
      exact Rnd_n (n - 1) (by omega) ⟨i + 1, by omega, by simp [v3], by simp [v4], by simp [v5], by simp, by simp [hnx], by simp [hS0], by simp [hS1], by simp [hS2], by simp [hS3], by simp [hS4], by simp [hS5]⟩
    · simp at h
      simp [-getElem?_pos, v4, v5, hS3, hS5, hlen]

theorem shp_byteL (cs : List PV) (h : ShpL [.int .u8] cs) : ∃ n : Int, [PV.v (.int .u8 n)] = cs ∧ True := by
  simp only [ShpL, Shp] at h
  obtain ⟨_, _, rfl, ⟨a, rfl, h1⟩, rfl⟩ := h
  exact ⟨a, rfl, trivial⟩

theorem shp_bytes {c : PV} (h : ShpA false [.sl [.int .u8]] c) : ∃ B : List Int, c = .sl 1 (byts B) ∧ B.length ≤ 9223372036854775807 := by
  simp only [ShpA, Bool.false_eq_true, if_false, ShpL, Shp] at h
  obtain ⟨c', r, e, ⟨es, he, h1, h2⟩, hr⟩ := h
  simp only [List.cons.injEq] at e
  obtain ⟨l, hl, hp⟩ := rows_of (f := fun n : Int => [PV.v (.int .u8 n)]) (tys := [.int .u8]) shp_byteL h2
  subst hl
  simp [maxLen] at h1
  exact ⟨l, e.1.trans he, by omega⟩

end Go.Pe
