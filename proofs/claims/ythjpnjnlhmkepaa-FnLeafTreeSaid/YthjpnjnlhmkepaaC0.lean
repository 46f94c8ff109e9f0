/- What each function answers by the evaluator, and the law; for each answer its own conditions stand ahead of it. -/
import Derived.Test.YthjpnjnlhmkepaaK0
import Derived.Test.YthjpnjnlhmkepaaEvB1
import Derived.IntWalk
set_option linter.all false
namespace Go.Pe
open Go
theorem w64 {x : Int} (h1 : -9223372036854775808 ≤ x) (h2 : x ≤ 9223372036854775807) : IntKind.i64.wrap x = x := IntWalk.i64_in x ⟨h1, h2⟩

@[simp] theorem w64s {x : Int} (h1 : -9223372036854775808 ≤ x) (h2 : x ≤ 9223372036854775807) : IntKind.i64.wrap x = x := w64 h1 h2

structure Nd where
  f : Int
  c : Int
  l : Int
  r : Int
  v : Int
deriving DecidableEq

def nd (n : Nd) : List PV := [iv n.f, iv n.c, iv n.l, iv n.r, iv n.v]

@[simp] theorem R_impl_isLeaf (a b c d e : Int) : RUN T k_impl_isLeaf [.agg [iv a, iv b, iv c, iv d, iv e]] = some ([bv (decide (a = -1))], []) := by
  refine RUN_W T_impl_isLeaf rfl ?_
  simp [k_impl_isLeaf_ic, k_impl_isLeaf_rv]

@[simp] theorem R_impl_within (a b c : Int) : RUN T k_impl_within [iv a, iv b, iv c] = some ([bv (decide (b ≤ a) && decide (a ≤ c))], []) := by
  refine RUN_W T_impl_within rfl ?_
  simp [k_impl_within_ic, k_impl_within_rv]
  refine Br_i (fun h => ?_) (fun h => ?_) <;> simp [h]

/-- The first place where something holds, -1 if there is none. -/
def fidx {α : Type} (p : α → Bool) (l : List α) : Int := match l.findIdx? p with
  | some i => (i : Int)
  | none => -1

theorem fidx_none {α : Type} {p : α → Bool} {l : List α} (h : ∀ (j : Nat) (x : α), j < l.length → l[j]? = some x → p x = false) : fidx p l = -1 := by
  unfold fidx
  have : l.findIdx? p = none := by
    rw [List.findIdx?_eq_none_iff]
    intro x hx
    obtain ⟨j, hj⟩ := List.getElem?_of_mem hx
    exact h j x (List.getElem?_eq_some_iff.mp hj).1 hj
  rw [this]

theorem fidx_some {α : Type} {p : α → Bool} {l : List α} {i : Nat} {x : α} (hi : l[i]? = some x) (hp : p x = true) (h : ∀ (j : Nat) (x : α), j < i → l[j]? = some x → p x = false) : fidx p l = i := by
  unfold fidx
  have : l.findIdx? p = some i := by
    rw [List.findIdx?_eq_some_iff_getElem]
    obtain ⟨h1, h2⟩ := List.getElem?_eq_some_iff.mp hi
    refine ⟨h1, by rw [h2]; exact hp, fun j hj => ?_⟩
    have := h j l[j] hj (List.getElem?_eq_getElem (by omega))
    simp [this]
  rw [this]

theorem no_snoc {α : Type} {p : α → Bool} {l : List α} {i : Nat} {x : α} (h : ∀ (j : Nat) (x : α), j < i → l[j]? = some x → p x = false) (hi : l[i]? = some x) (hp : p x = false) : ∀ (j : Nat) (x : α), j < i + 1 → l[j]? = some x → p x = false := by
  intro j y hj hy
  by_cases e : j = i
  · subst e; rw [hi] at hy; cases hy; exact hp
  · exact h j y (by omega) hy

/-- A node that has a node below it. -/
def above (k : Int) (n : Nd) : Bool := !decide (n.f = -1) && (decide (n.l = k) || decide (n.r = k))

def par (t : List Nd) (k : Int) : Int := fidx (above k) t

theorem wS {i n : Nat} (h : i < n) (hn : n ≤ 9223372036854775807) : IntKind.i64.wrap ((i : Int) + 1) = (i : Int) + 1 := w64 (by omega) (by omega)

theorem R_impl_parent_1 (a b c d e x : Int) : RUN T k_impl_parent_1 [.agg [iv a, iv b, iv c, iv d, iv e], .fptr [iv x] 0] = some ([bv (above x ⟨a, b, c, d, e⟩)], []) := by
  refine RUN_W T_impl_parent_1 rfl ?_
  simp [k_impl_parent_1_ic, k_impl_parent_1_rv]
  refine Br_i (fun b0 => ?_) (fun b0 => ?_) <;> (try simp at b0) <;> simp [-getElem?_pos, b0, ]
  all_goals try (refine Br_i (fun b1 => ?_) (fun b1 => ?_) <;> (try simp at b1) <;> simp [-getElem?_pos, b0, b1, ])
  all_goals try (refine Br_i (fun b2 => ?_) (fun b2 => ?_) <;> (try simp at b2) <;> simp [-getElem?_pos, b0, b1, b2, ])
  all_goals simp [above, *]

theorem R_slices_IndexFunc_Node {f : Nat} {c : PV} {p : Nd → Bool} (t : List Nd) (hl : t.length ≤ 9223372036854775807) (hm : modesOf T f = []) (hp : ∀ n : Nd, RUN T f [.agg (nd n), .fptr [c] 0] = some ([bv (p n)], [])) :
    RUN T k_slices_IndexFunc___impl_Node_impl_Node_ [.sl 5 (t.map nd), .fn f [.fptr [c] 0]] = some ([iv (fidx p t)], []) := by
  refine RUN_W T_slices_IndexFunc___impl_Node_impl_Node_ rfl ?_
  simp [k_slices_IndexFunc___impl_Node_impl_Node__ic, k_slices_IndexFunc___impl_Node_impl_Node__rv]
  refine W_loop (fun n st => ∃ i : Nat, i + n = t.length ∧ st.V 0 = .sl 5 (t.map nd) ∧ st.V 1 = .fn f [.fptr [c] 0] ∧ st.V 8 = iv i ∧ st.V 7 = iv t.length ∧ ∀ (j : Nat) (x : Nd), j < i → t[j]? = some x → p x = false) ?_ t.length _ ⟨0, by simp⟩
  rintro n st ⟨i, hi, h0, h1, h8, h7, hj⟩
  simp [k_slices_IndexFunc___impl_Node_impl_Node__b0, h0, h1, h8, h7]
  refine Br_i (fun h => ?_) (fun h => ?_)
  · simp at h
    obtain ⟨x, hx⟩ : ∃ x, t[i]? = some x := ⟨_, List.getElem?_eq_getElem h⟩
    have hw := wS h hl
    have hpx := hp x
    simp only [nd] at hpx
    simp [h0, h1, h8, h7, hx, nd, hw, hm, hpx]
    refine Br_i (fun b0 => ?_) (fun b0 => ?_) <;> (try simp at b0) <;> simp [-getElem?_pos, b0, h0, h1, h8, h7, hx, hw]
    all_goals first
      | exact (fidx_some hx b0 hj).symm
      | exact Rnd_n (n - 1) (by omega) ⟨i + 1, by omega, by simp [h0], by simp [h1], by simp, by simp [h7], no_snoc hj hx b0⟩
  · simp at h
    simp [h]
    exact (fidx_none fun j x hl hx => hj j x (by omega) hx).symm

theorem R_impl_parent (t : List Nd) (k : Int) (hl : t.length ≤ 9223372036854775807) : RUN T k_impl_parent [.agg [.sl 5 (t.map nd)], iv k] = some ([iv (par t k)], []) := by
  refine RUN_W T_impl_parent rfl ?_
  have h := R_slices_IndexFunc_Node (f := k_impl_parent_1) (c := iv k) (p := above k) t hl (by simp) (fun n => R_impl_parent_1 n.f n.c n.l n.r n.v k)
  simp [k_impl_parent_ic, k_impl_parent_rv, h, par]

/-- How many nodes are above a node, if that many at most. -/
def lev (t : List Nd) : Nat → Int → Int
  | 0, _ => -1
  | n + 1, k => if par t k < 0 then 31 - n else lev t n (par t k)

def ints (l : List Int) : List (List PV) := l.map fun n => [iv n]

@[simp] theorem ints_len (l : List Int) : (ints l).length = l.length := by simp [ints]

theorem ints_get {l : List Int} {i : Nat} {x : Int} (h : l[i]? = some x) : (ints l)[i]? = some [iv x] := by simp [ints, h]

@[simp] theorem ints_nil : ints [] = [] := rfl

theorem ints_set (l : List Int) (i : Nat) (x : Int) : (ints l).set i [iv x] = ints (l.set i x) := by simp [ints, List.map_set]

theorem ints_snoc (l : List Int) (x : Int) : ints l ++ [[iv x]] = ints (l ++ [x]) := by simp [ints]

theorem R_slices_Reverse_int (l : List Int) (hl : l.length ≤ 9223372036854775807) : RUN T k_slices_Reverse___int_int_ [.own 1 (ints l)] = some ([], [.own 1 (ints l.reverse)]) := by
  refine RUN_W T_slices_Reverse___int_int_ rfl ?_
  have hw : IntKind.i64.wrap ((l.length : Int) - 1) = (l.length : Int) - 1 := w64 (by omega) (by omega)
  simp [k_slices_Reverse___int_int__ic, k_slices_Reverse___int_int__rv, hw]
  refine W_loop (fun n st => ∃ i : Nat, i + n = l.length ∧ ∃ m : List Int, m.length = l.length ∧ (∀ p, m[p]? = if p < i ∨ l.length - i ≤ p then l.reverse[p]? else l[p]?) ∧ 2 * i ≤ l.length + 1 ∧ st.V 0 = .ref 0 none 0 0 l.length ∧ st.V 2 = iv i ∧ st.V 3 = iv ((l.length : Int) - 1 - i) ∧ st.ep = 0 ∧ st.S 0 = some (.row 1 (ints m))) ?_ l.length _ ⟨0, by simp, l, rfl, fun p => ?_, by omega, by simp⟩
  · rintro n st ⟨i, hi, m, hm, hp, hb, h0, h2, h3, hep, hS⟩
    simp [k_slices_Reverse___int_int__b0, h0, h2, h3, hS]
    refine Br_i (fun h => ?_) (fun h => ?_)
    · simp at h
      obtain ⟨j, hj⟩ : ∃ j : Nat, j = l.length - 1 - i := ⟨_, rfl⟩
      have e3 : (l.length : Int) - 1 - i = j := by omega
      rw [e3] at h3
      obtain ⟨x, hx⟩ : ∃ x, m[i]? = some x := ⟨_, List.getElem?_eq_getElem (by omega)⟩
      obtain ⟨y, hy⟩ : ∃ y, m[j]? = some y := ⟨_, List.getElem?_eq_getElem (by omega)⟩
      have hw1 := wS (i := i) (n := l.length) (by omega) hl
      have hw2 : IntKind.i64.wrap ((j : Int) - 1) = (j : Int) - 1 := w64 (by omega) (by omega)
      have hij : i < l.length := by omega
      have hjl : j < l.length := by omega
      have g1 := ints_get hx
      have g2 := ints_get hy
      have g3 : (ints (m.set i y))[j]? = some [iv y] := ints_get (by rw [List.getElem?_set_ne (by omega)]; exact hy)
      simp [-getElem?_pos, h0, h2, h3, hS, hep, hw1, hw2, hm, g1, g2, g3, hij, hjl, ints_set]
      refine Rnd_n (n - 1) (by omega) ⟨i + 1, by omega, (m.set i y).set j x, by simp [hm], fun p => ?_, by omega, by simp [h0], by simp, by simp; omega, by simp, by simp⟩
      have hxl : l[i]? = some x := by have := hp i; rw [if_neg (by omega), hx] at this; exact this.symm
      have hyl : l[j]? = some y := by have := hp j; rw [if_neg (by omega), hy] at this; exact this.symm
      rw [List.getElem?_set, List.getElem?_set]
      by_cases e1 : j = p
      · subst e1
        rw [if_pos rfl, if_pos (by simp [hm]; omega), if_pos (by omega), List.getElem?_reverse (by omega), show l.length - 1 - j = i by omega, hxl]
      · rw [if_neg e1]
        by_cases e2 : i = p
        · subst e2
          rw [if_pos rfl, if_pos (by omega), if_pos (by omega), List.getElem?_reverse (by omega), ← hj, hyl]
        · rw [if_neg e2, hp p]
          by_cases c : p < i ∨ l.length - i ≤ p
          · rw [if_pos c, if_pos (by omega)]
          · rw [if_neg c, if_neg (by omega)]
    · simp at h
      have hmr : m = l.reverse := by
        apply List.ext_getElem?
        intro p
        rw [hp p]
        split
        · rfl
        · rename_i c
          obtain rfl : p = i := by omega
          rw [List.getElem?_reverse (by omega), show l.length - 1 - p = p by omega]
      subst hmr
      simp [hS]
  · simp
    intro h
    rw [List.getElem?_eq_none h, List.getElem?_eq_none (by simpa using h)]

/-- The nodes above a node, from it on, if they are fewer than a number. -/
def anc (t : List Nd) : Nat → Int → Option (List Int)
  | 0, _ => none
  | n + 1, k => if par t k < 0 then some [] else (anc t n (par t k)).map (par t k :: ·)

theorem anc_s (t : List Nd) (n : Nat) (k : Int) : anc t (n + 1) k = if par t k < 0 then some [] else (anc t n (par t k)).map (par t k :: ·) := rfl

def way (t : List Nd) (k : Int) : List Int := if 0 ≤ k ∧ k ≤ t.length - 1 then match anc t 32 k with
    | some l => (k :: l).reverse
    | none => []
  else []

theorem room8 {n : Nat} (h : n ≤ 17592186044416) : roomFor 8 n = true := by simp [roomFor]; omega

theorem R_impl_wayTo (t : List Nd) (k : Int) (hl : t.length ≤ 9223372036854775807) : RUN T k_impl_wayTo [.agg [.sl 5 (t.map nd)], iv k] = some ([.own 1 (ints (way t k))], []) := by
  refine RUN_W T_impl_wayTo rfl ?_
  have hw : IntKind.i64.wrap ((t.length : Int) - 1) = (t.length : Int) - 1 := w64 (by omega) (by omega)
  have hp := fun k => R_impl_parent t k hl
  simp [k_impl_wayTo_ic, k_impl_wayTo_rv, hw]
  refine Br_i (fun h => ?_) (fun h => ?_)
  · simp at h
    simp [h]
    unfold way
    rw [if_neg (by omega)]; simp
  · have h' : (0 ≤ k ∧ k ≤ t.length - 1) := by simpa using h
    clear h
    unfold way
    rw [if_pos h']
    obtain ⟨r, hr⟩ : ∃ r, r = anc t 32 k := ⟨_, rfl⟩
    rw [← hr]
    simp [hp]
    refine W_loop (fun n st => ∃ i : Nat, i + n = 32 ∧ 1 ≤ n ∧ ∃ (m : List Int) (o e : Nat) (c : Int), m.length = i + 1 ∧ (anc t n c).map (m ++ ·) = r.map (k :: ·) ∧ st.V 2 = .ptr 0 none 0 0 0 ∧ st.V 5 = .ref o none e 0 m.length ∧ st.V 6 = iv (par t c) ∧ 0 < o ∧ o < st.nx ∧ st.S o = some (.row 1 (ints m)) ∧ st.S 0 = some (.box [.sl 5 (t.map nd)])) ?_ 32 _ ⟨0, by simp, by omega, [k], 1, 0, k, by simp [hr, ints]⟩
    rintro n st ⟨i, hi, h1n, m, o, e, c, hm, hc, h2, h5, h6, ho, hox, hSo, hS⟩
    simp [k_impl_wayTo_b0, h2, h5, h6, hS]
    refine Br_i (fun h => ?_) (fun h => ?_)
    · simp at h
      obtain ⟨q, rfl⟩ : ∃ q, n = q + 1 := ⟨n - 1, by omega⟩
      rw [anc_s, if_neg (by omega)] at hc
      simp [h2, h5, h6, hS, hSo]
      refine Br_i (fun h3 => ?_) (fun h3 => ?_)
      · simp at h3
        obtain rfl : q = 0 := by omega
        simp [anc] at hc
        cases r with
        | none => simp
        | some l => simp at hc
      · simp at h3
        have n1 : ¬ o = st.nx := by omega
        have n2 : ¬ 0 = o := by omega
        have n3 : ¬ 0 = st.nx := by omega
        have hr8 := room8 (n := m.length + 1) (by omega)
        simp [h2, h5, h6, hS, hSo, n1, n2, n3, hr8, hp, ints_snoc]
        refine Rnd_n q (by omega) ⟨i + 1, by omega, by omega, m ++ [par t c], st.nx + 1, st.ep, par t c, by simp [hm], ?_, by simp [h2], by simp, by simp, by omega, by simp, by simp, ?_⟩
        · rw [← hc]; cases anc t q (par t c) <;> simp
        · simp [n2, n3, hS]
    · simp at h
      obtain ⟨q, rfl⟩ : ∃ q, n = q + 1 := ⟨n - 1, by omega⟩
      rw [anc_s, if_pos h] at hc
      simp at hc
      obtain ⟨l, rfl, hl2⟩ : ∃ l, r = some l ∧ m = k :: l := by
        cases r with
        | none => simp at hc
        | some l => simp at hc; exact ⟨l, rfl, hc⟩
      subst hl2
      have hR := R_slices_Reverse_int (k :: l) (by omega)
      simp [h5, hSo, hR]

theorem anc_lev (t : List Nd) : ∀ (n : Nat) (k : Int), n ≤ 32 → (match anc t n k with | some l => (32 - n : Int) + l.length | none => -1) = lev t n k
  | 0, k, _ => by simp [anc, lev]
  | n + 1, k, h => by
    have ih := anc_lev t n (par t k) (by omega)
    rw [anc_s]
    simp only [lev]
    by_cases c : par t k < 0
    · rw [if_pos c, if_pos c]; simp; omega
    · rw [if_neg c, if_neg c, ← ih]
      cases anc t n (par t k) with
      | none => simp
      | some l =>
        show (32 - ((n + 1 : Nat) : Int)) + ((par t k :: l).length : Nat) = (32 - (n : Int)) + (l.length : Nat)
        simp only [List.length_cons]; omega

theorem way_len (t : List Nd) (k : Int) : ((way t k).length : Int) - 1 = if 0 ≤ k ∧ k ≤ t.length - 1 then lev t 32 k else -1 := by
  unfold way
  split
  · rw [← anc_lev t 32 k (Nat.le_refl _)]
    cases anc t 32 k <;> simp
  · simp

theorem anc_le (t : List Nd) : ∀ (n : Nat) (k : Int) (l : List Int), anc t n k = some l → l.length < n
  | 0, k, l, h => by simp [anc] at h
  | n + 1, k, l, h => by
    rw [anc_s] at h
    split at h
    · cases h; simp
    · simp at h
      obtain ⟨m, hm, rfl⟩ := h
      have := anc_le t n _ m hm
      simp; omega

theorem way_le (t : List Nd) (k : Int) : (way t k).length ≤ 32 := by
  unfold way
  split
  · cases h : anc t 32 k with
    | none => simp
    | some l => have := anc_le t 32 k l h; simp; omega
  · simp

theorem R_impl_LevelOf (t : List Nd) (k : Int) (hl : t.length ≤ 9223372036854775807) : RUN T k_impl_LevelOf [.agg [.sl 5 (t.map nd)], iv k] = some ([iv (if 0 ≤ k ∧ k ≤ t.length - 1 then lev t 32 k else -1)], []) := by
  refine RUN_W T_impl_LevelOf rfl ?_
  have hw : IntKind.i64.wrap (((way t k).length : Int) - 1) = ((way t k).length : Int) - 1 := by have := way_le t k; exact w64 (by omega) (by omega)
  rw [← way_len]
  simp [k_impl_LevelOf_ic, k_impl_LevelOf_rv, R_impl_wayTo t k hl, hw]

/-- The numbers from one on, so many. -/
def upto (k : Int) (n : Nat) : List Int := (List.range n).map fun (i : Nat) => k + (i : Int)

@[simp] theorem upto_len (k : Int) (n : Nat) : (upto k n).length = n := by simp [upto]

/-- The places of leaves, counted from a number on. -/
def lvs : List Nd → Int → List Int
  | [], _ => []
  | x :: xs, i => if x.f = -1 then i :: lvs xs (i + 1) else lvs xs (i + 1)

theorem lvs_len : ∀ (t : List Nd) (i : Int), (lvs t i).length ≤ t.length
  | [], _ => by simp [lvs]
  | x :: xs, i => by
    have := lvs_len xs (i + 1)
    simp only [lvs]
    split <;> simp <;> omega

theorem drop_cons {α : Type} {l : List α} {i : Nat} {x : α} (h : l[i]? = some x) : l.drop i = x :: l.drop (i + 1) := by
  obtain ⟨h1, h2⟩ := List.getElem?_eq_some_iff.mp h
  rw [List.drop_eq_getElem_cons h1, h2]

theorem R_impl_LeavesOf (t : List Nd) (hl : t.length ≤ 1048576) : RUN T k_impl_LeavesOf [.agg [.sl 5 (t.map nd)]] = some ([.own 1 (ints (lvs t 0))], []) := by
  refine RUN_W T_impl_LeavesOf rfl ?_
  simp [k_impl_LeavesOf_ic, k_impl_LeavesOf_rv]
  refine W_loop (fun n st => ∃ i : Nat, i + n = t.length ∧ ∃ (m : List Int) (o e : Nat), m ++ lvs (t.drop i) i = lvs t 0 ∧ st.V 8 = .sl 5 (t.map nd) ∧ st.V 9 = iv t.length ∧ st.V 3 = .ref o none e 0 m.length ∧ st.V 10 = iv i ∧ o < st.nx ∧ st.S o = some (.row 1 (ints m))) ?_ t.length _ ⟨0, by simp, [], 1, 0, by simp⟩
  rintro n st ⟨i, hi, m, o, e, hm, h8, h9, h3, h10, hox, hSo⟩
  simp [k_impl_LeavesOf_b0, h8, h9, h10]
  refine Br_i (fun h => ?_) (fun h => ?_)
  · simp at h
    obtain ⟨x, hx⟩ : ∃ x, t[i]? = some x := ⟨_, List.getElem?_eq_getElem h⟩
    have hw := wS h (by omega : t.length ≤ 9223372036854775807)
    have hr : roomFor 8 (m.length + 1) = true := room8 (by
      have h5 := congrArg List.length hm
      have h6 := lvs_len t 0
      simp at h5; omega)
    have n1 : ¬ o = st.nx := by omega
    have n2 : ¬ o = st.nx + 1 := by omega
    simp [-getElem?_pos, h8, h9, h3, h10, hSo, n1, n2, hx, nd, hw, hr, ints_snoc]
    refine Br_i (fun b0 => ?_) (fun b0 => ?_) <;> (try simp at b0) <;> simp [-getElem?_pos, b0, h8, h9, h3, h10, hSo, n1, n2, hx, hw, hr, ints_snoc]
    · refine Rnd_n (n - 1) (by omega) ⟨i + 1, by omega, m ++ [(i : Int)], st.nx + 2, st.ep, ?_, by simp [h8], by simp [h9], by simp, by simp, by simp, by simp⟩
      rw [← hm, drop_cons hx, lvs, if_pos b0]; simp
    · refine Rnd_n (n - 1) (by omega) ⟨i + 1, by omega, m, o, e, ?_, by simp [h8], by simp [h9], by simp [h3], by simp, by simp; omega, by simp [hSo, n1]⟩
      rw [← hm, drop_cons hx, lvs, if_neg b0]; simp
  · simp at h
    have e : m = lvs t 0 := by rw [← hm, List.drop_eq_nil_of_le h]; simp [lvs]
    simp [h3, hSo, e]

def levOf (t : List Nd) (k : Int) : Int := if 0 ≤ k ∧ k ≤ t.length - 1 then lev t 32 k else -1

theorem R_impl_LevelOf' (t : List Nd) (k : Int) (hl : t.length ≤ 9223372036854775807) : RUN T k_impl_LevelOf [.agg [.sl 5 (t.map nd)], iv k] = some ([iv (levOf t k)], []) := R_impl_LevelOf t k hl

/-- The greatest level of the first nodes. -/
def dpt (t : List Nd) : Nat → Int
  | 0 => -1
  | i + 1 => max (dpt t i) (levOf t i)

theorem R_impl_DepthOf (t : List Nd) (hl : t.length ≤ 9223372036854775807) : RUN T k_impl_DepthOf [.agg [.sl 5 (t.map nd)]] = some ([iv (dpt t t.length)], []) := by
  refine RUN_W T_impl_DepthOf rfl ?_
  simp [k_impl_DepthOf_ic, k_impl_DepthOf_rv]
  refine W_loop (fun n st => ∃ i : Nat, i + n = t.length ∧ st.V 1 = .ptr 0 none 0 0 0 ∧ st.V 3 = iv (dpt t i) ∧ st.V 8 = iv i ∧ st.V 7 = iv t.length ∧ st.S 0 = some (.box [.sl 5 (t.map nd)])) ?_ t.length _ ⟨0, by simp [dpt]⟩
  rintro n st ⟨i, hi, h1, h3, h8, h7, hS⟩
  simp [k_impl_DepthOf_b0, h1, h3, h8, h7, hS]
  refine Br_i (fun h => ?_) (fun h => ?_)
  · simp at h
    have hw := wS h hl
    simp [h1, h3, h8, h7, hS, hw, R_impl_LevelOf' t i hl]
    exact Rnd_n (n - 1) (by omega) ⟨i + 1, by omega, by simp [h1], by simp [dpt], by simp, by simp [h7], by simp [hS]⟩
  · simp at h
    obtain rfl : i = t.length := by omega
    simp [h3]

/-- The nodes that a row goes through. -/
def rt (t : List Nd) (row : List Int) : Nat → Int → Option (List Int)
  | 0, _ => none
  | n + 1, a => match (if 0 ≤ a then t[a.toNat]? else none) with
    | none => none
    | some x => if x.f = -1 then some [a] else match (if 0 ≤ x.f then row[x.f.toNat]? else none) with
      | none => none
      | some y => (rt t row n (if y ≤ x.c then x.l else x.r)).map (a :: ·)

theorem rt_out {t : List Nd} {row : List Int} {n : Nat} {a : Int} (h : a < 0 ∨ (t.length : Int) - 1 < a) : rt t row n a = none := by
  cases n with
  | zero => rfl
  | succ n =>
    rw [rt]
    have : (if 0 ≤ a then t[a.toNat]? else none) = none := by
      split
      · exact List.getElem?_eq_none (by omega)
      · rfl
    rw [this]

theorem rt_leaf {t : List Nd} {row : List Int} {n a : Nat} {x : Nd} (hx : t[a]? = some x) (h : x.f = -1) : rt t row (n + 1) a = some [(a : Int)] := by
  rw [rt]; simp [hx, h]

theorem rt_no {t : List Nd} {row : List Int} {n a : Nat} {x : Nd} (hx : t[a]? = some x) (h : x.f ≠ -1) (h2 : x.f < 0 ∨ (row.length : Int) - 1 < x.f) : rt t row (n + 1) a = none := by
  rw [rt]
  have : (if 0 ≤ x.f then row[x.f.toNat]? else none) = none := by
    split
    · exact List.getElem?_eq_none (by omega)
    · rfl
  simp [hx, h, this]

theorem rt_on {t : List Nd} {row : List Int} {n a f : Nat} {x : Nd} {y : Int} (hx : t[a]? = some x) (h : x.f = f) (hy : row[f]? = some y) : rt t row (n + 1) a = (rt t row n (if y ≤ x.c then x.l else x.r)).map ((a : Int) :: ·) := by
  rw [rt]
  have : x.f ≠ -1 := by omega
  simp [hx, this, h, hy]

def way2 (t : List Nd) (row : List Int) : List Int := (rt t row (t.length + 1) 0).getD []

theorem R_impl_route (t : List Nd) (row : List Int) (hl : t.length ≤ 1048576) (hr : row.length ≤ 1048576) : RUN T k_impl_route [.agg [.sl 5 (t.map nd)], .sl 1 (ints row)] = some ([.own 1 (ints (way2 t row))], []) := by
  refine RUN_W T_impl_route rfl ?_
  have hw1 := w64 (x := (t.length : Int) + 1) (by omega) (by omega)
  simp [k_impl_route_ic, k_impl_route_rv, hw1]
  obtain ⟨r, hrr⟩ : ∃ r, r = rt t row (t.length + 1) 0 := ⟨_, rfl⟩
  unfold way2
  rw [← hrr]
  refine W_loop (fun n st => ∃ i : Nat, i + n = t.length + 1 ∧ ∃ (a : Int) (m : List Int) (o e : Nat), m.length = i ∧ (rt t row n a).map (m ++ ·) = r ∧ st.V 1 = .sl 1 (ints row) ∧ st.V 2 = .ptr 0 none 0 0 0 ∧ st.V 5 = .ref o none e 0 m.length ∧ st.V 6 = iv a ∧ st.V 13 = iv i ∧ st.V 12 = iv ((t.length : Int) + 1) ∧ 0 < o ∧ o < st.nx ∧ st.S o = some (.row 1 (ints m)) ∧ st.S 0 = some (.box [.sl 5 (t.map nd)])) ?_ (t.length + 1) _ ⟨0, by simp, 0, [], 1, 0, by simp [hrr]⟩
  rintro n st ⟨i, hi, a, m, o, e, hmi, hm, h1, h2, h5, h6, h13, h12, ho, hox, hSo, hS⟩
  simp [k_impl_route_b0, h13, h12]
  refine Br_i (fun h => ?_) (fun h => ?_)
  · simp at h
    obtain ⟨q, rfl⟩ : ∃ q, n = q + 1 := ⟨n - 1, by omega⟩
    have hw := w64 (x := (t.length : Int) - 1) (by omega) (by omega)
    have hwi := w64 (x := (i : Int) + 1) (by omega) (by omega)
    have hwr := w64 (x := (row.length : Int) - 1) (by omega) (by omega)
    simp [h1, h2, h5, h6, hS, hw]
    refine Br_i (fun h3 => ?_) (fun h3 => ?_)
    · simp at h3
      rw [rt_out h3] at hm
      simp at hm
      simp [← hm]
    · have h3' : 0 ≤ a ∧ a ≤ (t.length : Int) - 1 := by simpa using h3
      obtain ⟨a, rfl⟩ : ∃ a' : Nat, a = a' := ⟨a.toNat, by omega⟩
      obtain ⟨x, hx⟩ : ∃ x, t[a]? = some x := ⟨_, List.getElem?_eq_getElem (by omega)⟩
      have z1 := fr hox
      have z2 := fr ho
      have z3 := fr (by omega : 0 < st.nx)
      have hr8 := room8 (n := m.length + 1) (by omega)
      simp [-getElem?_pos, h1, h2, h5, h6, hS, hSo, z1, z2, z3, hx, nd, hr8, ints_snoc, hwr]
      refine Br_i (fun h4 => ?_) (fun h4 => ?_)
      · simp at h4
        rw [rt_leaf hx h4] at hm
        simp at hm
        simp [← hm]
      · simp at h4
        simp [-getElem?_pos, h1, h2, h5, h6, hS, hSo, z1, z2, z3, hx, hr8, ints_snoc, hwr]
        refine Br_i (fun h8 => ?_) (fun h8 => ?_)
        · simp at h8
          rw [rt_no hx h4 h8] at hm
          simp at hm
          simp [← hm]
        · have h8' : 0 ≤ x.f ∧ x.f ≤ (row.length : Int) - 1 := by simpa using h8
          obtain ⟨f, hf⟩ : ∃ f : Nat, x.f = f := ⟨x.f.toNat, by omega⟩
          obtain ⟨y, hy⟩ : ∃ y, row[f]? = some y := ⟨_, List.getElem?_eq_getElem (by omega)⟩
          have hfl : f < row.length := by omega
          rw [rt_on hx hf hy] at hm
          have hy' := ints_get hy
          simp [-getElem?_pos, h1, h2, h5, h6, h13, h12, hS, hSo, z1, z2, z3, hr8, ints_snoc, hwr, hf, hy', hfl, hwi]
          refine Br_i (fun b0 => ?_) (fun b0 => ?_) <;> (try simp at b0) <;> simp [-getElem?_pos, b0, h1, h2, h5, h6, h13, h12, hS, hSo, z1, z2, z3, hf, hwi]
          all_goals
            refine Rnd_n q (by omega) ⟨i + 1, by omega, _, m ++ [(a : Int)], st.nx + 2, st.ep, by simp [hmi], ?_, by simp [h1], by simp [h2], by simp, by simp; rfl, by simp, by simp [h12], by omega, by simp, by simp, by simp [z2, z3, hS]⟩
            rw [← hm]
            first | rw [if_pos b0] | rw [if_neg (by omega)]
            simp [Function.comp_def]
  · simp at h
    obtain rfl : n = 0 := by omega
    simp [rt] at hm
    simp [← hm]

theorem rt_len (t : List Nd) (row : List Int) : ∀ (n : Nat) (a : Int) (l : List Int), rt t row n a = some l → l.length ≤ n ∧ l ≠ [] ∧ ∀ k ∈ l, 0 ≤ k ∧ k < t.length
  | 0, _, _, h => by cases h
  | n + 1, a, l, h => by
    rw [rt] at h
    have ha : ∀ x, (if 0 ≤ a then t[a.toNat]? else none) = some x → 0 ≤ a ∧ a < t.length := by
      intro x hx
      split at hx
      · have := (List.getElem?_eq_some_iff.mp hx).1; omega
      · cases hx
    split at h
    · cases h
    · rename_i x hx
      have hax := ha x hx
      split at h
      · cases h; simpa using hax
      · split at h
        · cases h
        · simp only [Option.map_eq_some_iff] at h
          obtain ⟨m, hm, rfl⟩ := h
          have := rt_len t row n _ m hm
          refine ⟨by simp; omega, by simp, fun k hk => ?_⟩
          rcases List.mem_cons.mp hk with e | e
          · subst e; exact hax
          · exact this.2.2 k e

theorem way2_len (t : List Nd) (row : List Int) : (way2 t row).length ≤ t.length + 1 ∧ ∀ k ∈ way2 t row, 0 ≤ k ∧ k < t.length := by
  unfold way2
  cases h : rt t row (t.length + 1) 0 with
  | none => simp
  | some l => have := rt_len t row _ _ l h; exact ⟨this.1, this.2.2⟩

def rto (t : List Nd) (row : List Int) : Int := ((way2 t row).getLast?).getD (-1)

theorem rto_range {t : List Nd} {row : List Int} : rto t row = -1 ∨ ∃ i : Nat, rto t row = i ∧ i < t.length := by
  unfold rto
  cases h : (way2 t row).getLast? with
  | none => exact .inl rfl
  | some k =>
    have := (way2_len t row).2 k (List.mem_of_getLast? h)
    exact .inr ⟨k.toNat, by simp; omega, by omega⟩

theorem R_impl_RouteTo (t : List Nd) (row : List Int) (hl : t.length ≤ 1048576) (hr : row.length ≤ 1048576) : RUN T k_impl_RouteTo [.agg [.sl 5 (t.map nd)], .sl 1 (ints row)] = some ([iv (rto t row)], []) := by
  refine RUN_W T_impl_RouteTo rfl ?_
  have hw := (way2_len t row).1
  simp [k_impl_RouteTo_ic, k_impl_RouteTo_rv, R_impl_route t row hl hr]
  refine Br_i (fun h => ?_) (fun h => ?_)
  · simp at h
    simp [rto, h]
  · simp at h
    obtain ⟨l, x, hlx⟩ : ∃ l x, way2 t row = l ++ [x] := ⟨_, _, (List.dropLast_concat_getLast h).symm⟩
    have e1 : rto t row = x := by simp [rto, hlx]
    rw [e1]
    rw [hlx] at hw ⊢
    simp at hw
    have hwr : IntKind.i64.wrap (l.length : Int) = (l.length : Int) := w64 (by omega) (by omega)
    have hg := ints_get (l := l ++ [x]) (i := l.length) (x := x) (by simp)
    simp [-getElem?_pos, hwr, hg]

def evt (t : List Nd) (row : List Int) : Int := if rto t row < 0 then 0 else ((t[(rto t row).toNat]?).map (·.v)).getD 0

theorem R_impl_EvalTree (t : List Nd) (row : List Int) (hl : t.length ≤ 1048576) (hr : row.length ≤ 1048576) : RUN T k_impl_EvalTree [.agg [.sl 5 (t.map nd)], .sl 1 (ints row)] = some ([iv (evt t row)], []) := by
  refine RUN_W T_impl_EvalTree rfl ?_
  simp [k_impl_EvalTree_ic, k_impl_EvalTree_rv, R_impl_RouteTo t row hl hr]
  unfold evt
  rcases rto_range (t := t) (row := row) with h | ⟨i, h, hi⟩
  · simp [h]
  · obtain ⟨x, hx⟩ : ∃ x, t[i]? = some x := ⟨_, List.getElem?_eq_getElem hi⟩
    rw [h]
    have h0 : ¬ ((i : Int) < 0) := by omega
    simp [-getElem?_pos, h0, hx, nd]

def inI (n : Int) : Prop := -9223372036854775808 ≤ n ∧ n ≤ 9223372036854775807

/-- A node, those above it behind it. -/
def Chn (t : List Nd) : List Int → Int → Prop
  | [], c => c < 0
  | x :: xs, c => x = c ∧ 0 ≤ c ∧ Chn t xs (par t c)

theorem anc_chn (t : List Nd) : ∀ (n : Nat) (k : Int) (l : List Int), 0 ≤ k → anc t n k = some l → Chn t (k :: l) k
  | 0, k, l, _, h => by cases h
  | n + 1, k, l, h0, h => by
    rw [anc_s] at h
    split at h
    · rename_i hc
      cases h
      exact ⟨rfl, h0, hc⟩
    · simp at h
      obtain ⟨m, hm, rfl⟩ := h
      exact ⟨rfl, h0, anc_chn t n _ m (by omega) hm⟩

theorem par_range (t : List Nd) (k : Int) : par t k = -1 ∨ 0 ≤ par t k ∧ par t k < t.length := by
  unfold par fidx
  split
  · rename_i i hi
    have := (List.findIdx?_eq_some_iff_getElem.mp hi).1
    right; omega
  · exact .inl rfl

theorem chn_range (t : List Nd) : ∀ (l : List Int) (c : Int), Chn t l c → (0 ≤ c → c < t.length) → ∀ x ∈ l, 0 ≤ x ∧ x < t.length
  | [], _, _, _ => by simp
  | y :: ys, c, h, hc => by
    obtain ⟨rfl, h0, h2⟩ := h
    intro x hx
    rcases List.mem_cons.mp hx with e | e
    · subst e; exact ⟨h0, hc h0⟩
    · exact chn_range t ys _ h2 (fun h => by rcases par_range t y with h3 | h3 <;> omega) x e

theorem way_range (t : List Nd) (k : Int) : ∀ x ∈ way t k, 0 ≤ x ∧ x < t.length := by
  unfold way
  split
  · rename_i hk
    cases h : anc t 32 k with
    | none => simp
    | some l =>
      intro x hx
      exact chn_range t _ _ (anc_chn t 32 k l hk.1 h) (by omega) x (by simpa using List.mem_reverse.mp hx)
  · simp

theorem lev_anc (t : List Nd) (k : Int) : lev t 32 k = match anc t 32 k with | some l => (l.length : Int) | none => -1 := by
  have := anc_lev t 32 k (Nat.le_refl _)
  rw [← this]
  cases anc t 32 k <;> simp

/-- The range of a feature's values along a way. -/
def box (t : List Nd) (f : Int) : List Int → Int → Int → Int × Int
  | a :: b :: r, lo, hi => match t[a.toNat]? with
    | none => (lo, hi)
    | some x => if x.f = f then (if x.l = b then box t f (b :: r) lo (min hi x.c) else if x.c = 9223372036854775807 then box t f (b :: r) lo hi else box t f (b :: r) (max lo (x.c + 1)) hi) else box t f (b :: r) lo hi
  | _, lo, hi => (lo, hi)

def within (n a b : Int) : Bool := decide (a ≤ n) && decide (n ≤ b)

theorem R_impl_within' (a b c : Int) : RUN T k_impl_within [iv a, iv b, iv c] = some ([bv (within a b c)], []) := R_impl_within a b c

theorem within_iff {n a b : Int} : within n a b = true ↔ a ≤ n ∧ n ≤ b := by simp [within]

def leafV (v : Int) : Bool := within v (-1099511627776) 1099511627776

@[simp] theorem R_impl_isLeafValue (v : Int) : RUN T k_impl_isLeafValue [iv v] = some ([bv (leafV v)], []) := by
  refine RUN_W T_impl_isLeafValue rfl ?_
  simp [k_impl_isLeafValue_ic, k_impl_isLeafValue_rv, leafV, within]

theorem eqP_5 (a b c d e a' b' c' d' e' : Int) : eqP [.i .i64, .i .i64, .i .i64, .i .i64, .i .i64] (.agg [iv a, iv b, iv c, iv d, iv e]) (.agg [iv a', iv b', iv c', iv d', iv e']) = some (decide (a = a' ∧ b = b' ∧ c = c' ∧ d = d' ∧ e = e')) := by
  simp only [eqP, eqCells, eqV_i, Option.bind_some]
  by_cases h1 : a = a' <;> by_cases h2 : b = b' <;> by_cases h3 : c = c' <;> by_cases h4 : d = d' <;> by_cases h5 : e = e' <;> simp [h1, h2, h3, h4, h5]

def decV (n : Int) : Bool := within n (-2147483647) 2147483647

@[simp] theorem R_impl_isDecimal (v : Int) : RUN T k_impl_isDecimal [iv v] = some ([bv (decV v)], []) := by
  refine RUN_W T_impl_isDecimal rfl ?_
  simp [k_impl_isDecimal_ic, k_impl_isDecimal_rv, decV, within]

/-- The nodes are listed level by level: the number of the next child, at the end. -/
def shp (F : Int) : List Nd → Int → Int → Option Int
  | [], _, n => some n
  | x :: xs, i, n =>
    if x.f = -1 then (if (x.c = 0 ∧ x.l = 0 ∧ x.r = 0) ∧ leafV x.v = true then shp F xs (i + 1) n else none)
    else if within x.f 0 (F - 1) = true ∧ decV x.c = true ∧ x.v = 0 ∧ x.l = n ∧ x.r = n + 1 ∧ i < n then shp F xs (i + 1) (n + 2) else none

def shapeB (t : List Nd) (F : Int) : Bool := match shp F t 0 1 with
  | some n => decide (n = t.length)
  | none => false

set_option maxHeartbeats 1000000 in
theorem R_impl_shapeOk (t : List Nd) (F : Int) (hl : t.length ≤ 1048576) (hF : 0 ≤ F ∧ F ≤ 4) : RUN T k_impl_shapeOk [.agg [.sl 5 (t.map nd)], iv F] = some ([bv (shapeB t F)], []) := by
  refine RUN_W T_impl_shapeOk rfl ?_
  simp [k_impl_shapeOk_ic, k_impl_shapeOk_rv]
  have hwF := w64 (x := F - 1) (by omega) (by omega)
  refine W_loop (fun n st => ∃ i : Nat, i + n = t.length ∧ ∃ k : Nat, k ≤ i ∧ shp F (t.drop i) i (1 + 2 * k) = shp F t 0 1 ∧ st.V 1 = iv F ∧ st.V 2 = .ptr 0 none 0 0 0 ∧ st.V 5 = iv (1 + 2 * k) ∧ st.V 11 = iv i ∧ st.V 10 = iv t.length ∧ st.V 9 = .sl 5 (t.map nd) ∧ 0 < st.nx ∧ st.S 0 = some (.box [.sl 5 (t.map nd)])) ?_ t.length _ ⟨0, by simp, 0, by simp⟩
  rintro n st ⟨i, hi, k, hk, hr, h1, h2, h5, h6, h10, h9, hnx, hS⟩
  simp [k_impl_shapeOk_b0, h6, h10]
  have z := fr hnx
  refine Br_i (fun h => ?_) (fun h => ?_)
  · simp at h
    obtain ⟨x, hx⟩ : ∃ x, t[i]? = some x := ⟨_, List.getElem?_eq_getElem h⟩
    have hw := wS h (by omega : t.length ≤ 9223372036854775807)
    have hw1 := w64 (x := 1 + 2 * (k : Int) + 1) (by omega) (by omega)
    have hw2 := w64 (x := 1 + 2 * (k : Int) + 2) (by omega) (by omega)
    rw [drop_cons hx, shp] at hr
    simp [-getElem?_pos, h1, h2, h5, h6, h9, h10, hS, hx, nd, z]
    refine Br_i (fun h3 => ?_) (fun h3 => ?_)
    · simp at h3
      rw [if_pos h3] at hr
      by_cases hc : x.c = 0 ∧ x.l = 0 ∧ x.r = 0
      · have hc' := eq_true hc
        simp [-getElem?_pos, h1, h2, h5, h6, h9, h10, hS, z, h3, eqP_5, hc']
        cases hv : leafV x.v with
        | false =>
          rw [if_neg (by simp [hv])] at hr
          simp [shapeB, ← hr]
        | true =>
          rw [if_pos ⟨hc, hv⟩] at hr
          simp [-getElem?_pos, h1, h2, h5, h6, h9, h10, hS, z, hw]
          exact Rnd_n (n - 1) (by omega) ⟨i + 1, by omega, k, by omega, by simpa using hr, by simp [h1], by simp [h2], by simp [h5], by simp, by simp [h10], by simp [h9], by simp, by simp [z, hS]⟩
      · have hc' := eq_false hc
        rw [if_neg (fun h => hc h.1)] at hr
        simp [-getElem?_pos, h1, h2, h5, h6, h9, h10, hS, z, h3, eqP_5, hc']
        simp [shapeB, ← hr]
    · simp at h3
      rw [if_neg h3] at hr
      simp [-getElem?_pos, h1, h2, h5, h6, h9, h10, hS, z, h3, hwF, R_impl_within', -R_impl_within]
      by_cases hc : within x.f 0 (F - 1) = true ∧ decV x.c = true ∧ x.v = 0 ∧ x.l = 1 + 2 * (k : Int) ∧ x.r = 1 + 2 * (k : Int) + 1 ∧ (i : Int) < 1 + 2 * (k : Int)
      · rw [if_pos hc] at hr
        obtain ⟨c1, c2, c3, c4, c5, c6⟩ := hc
        have c7 : ¬ (1 + 2 * (k : Int) ≤ i) := by omega
        simp [-getElem?_pos, h1, h2, h5, h6, h9, h10, hS, z, h3, hwF, c1, c2, c3, c4, c5, c7, hw, hw1, hw2]
        exact Rnd_n (n - 1) (by omega) ⟨i + 1, by omega, k + 1, by omega, by rw [← hr]; congr 1, by simp [h1], by simp [h2], by simp; omega, by simp, by simp [h10], by simp [h9], by simp, by simp [z, hS]⟩
      · rw [if_neg hc] at hr
        have e0 : shapeB t F = false := by simp [shapeB, ← hr]
        rw [e0]
        refine Br_i (fun b0 => ?_) (fun b0 => ?_) <;> (try simp at b0) <;> simp [-getElem?_pos, b0, h1, h2, h5, h6, h9, h10, hS, z, h3, hwF, hw1]
        all_goals try (refine Br_i (fun b1 => ?_) (fun b1 => ?_) <;> (try simp at b1) <;> simp [-getElem?_pos, b0, b1, h1, h2, h5, h6, h9, h10, hS, z, h3, hwF, hw1])
        all_goals try (refine Br_i (fun b2 => ?_) (fun b2 => ?_) <;> (try simp at b2) <;> simp [-getElem?_pos, b0, b1, b2, h1, h2, h5, h6, h9, h10, hS, z, h3, hwF, hw1])
        all_goals try (refine Br_i (fun b3 => ?_) (fun b3 => ?_) <;> (try simp at b3) <;> simp [-getElem?_pos, b0, b1, b2, b3, h1, h2, h5, h6, h9, h10, hS, z, h3, hwF, hw1])
        all_goals try (refine Br_i (fun b4 => ?_) (fun b4 => ?_) <;> (try simp at b4) <;> simp [-getElem?_pos, b0, b1, b2, b3, b4, h1, h2, h5, h6, h9, h10, hS, z, h3, hwF, hw1])
        all_goals try (refine Br_i (fun b5 => ?_) (fun b5 => ?_) <;> (try simp at b5) <;> simp [-getElem?_pos, b0, b1, b2, b3, b4, b5, h1, h2, h5, h6, h9, h10, hS, z, h3, hwF, hw1])
        exact (hc ⟨b0, b1, b2, b3, b4, by omega⟩).elim
  · simp at h
    rw [List.drop_eq_nil_of_le h, shp] at hr
    unfold shapeB
    rw [← hr]
    simp [h5, hS, h2]

structure InnerOk (F : Int) (x : Nd) (i n m : Int) : Prop where
  lo : n ≤ x.l
  lt : i < x.l
  r : x.r = x.l + 1
  hi : x.r < m
  f : 0 ≤ x.f ∧ x.f ≤ F - 1
  c : decV x.c = true
  v : x.v = 0

theorem shp_facts (F : Int) : ∀ (l : List Nd) (i n m : Int), shp F l i n = some m → n ≤ m ∧
    (∀ (j : Nat) (x : Nd), l[j]? = some x → x.f = -1 → x.c = 0 ∧ x.l = 0 ∧ x.r = 0 ∧ leafV x.v = true) ∧
    (∀ (j : Nat) (x : Nd), l[j]? = some x → x.f ≠ -1 → InnerOk F x (i + j) n m) ∧
    (∀ (j j' : Nat) (x y : Nd), j < j' → l[j]? = some x → l[j']? = some y → x.f ≠ -1 → y.f ≠ -1 → x.r < y.l) ∧
    (∀ k : Int, n ≤ k → k < m → ∃ (j : Nat) (x : Nd), l[j]? = some x ∧ x.f ≠ -1 ∧ (x.l = k ∨ x.r = k))
  | [], i, n, m, h => by
    simp only [shp, Option.some.injEq] at h
    subst h
    exact ⟨Int.le_refl _, by simp, by simp, by simp, fun k h1 h2 => by omega⟩
  | x :: xs, i, n, m, h => by
    rw [shp] at h
    split at h
    · rename_i hf
      split at h
      · rename_i hc
        obtain ⟨h1, h2, h3, h4, h5⟩ := shp_facts F xs (i + 1) n m h
        refine ⟨h1, fun j y hj hy => ?_, fun j y hj hy => ?_, fun j j' y z hjj hj hj' hy hz => ?_, fun k hk1 hk2 => ?_⟩
        · cases j with
          | zero => simp at hj; subst hj; exact ⟨hc.1.1, hc.1.2.1, hc.1.2.2, hc.2⟩
          | succ j => exact h2 j y (by simpa using hj) hy
        · cases j with
          | zero => simp at hj; subst hj; exact (hy hf).elim
          | succ j =>
            have := h3 j y (by simpa using hj) hy
            exact ⟨this.lo, by have := this.lt; push_cast; omega, this.r, this.hi, this.f, this.c, this.v⟩
        · cases j' with
          | zero => omega
          | succ j' =>
            cases j with
            | zero => simp at hj; subst hj; exact (hy hf).elim
            | succ j => exact h4 j j' y z (by omega) (by simpa using hj) (by simpa using hj') hy hz
        · obtain ⟨j, y, hj, hy⟩ := h5 k hk1 hk2
          exact ⟨j + 1, y, by simpa using hj, hy⟩
      · cases h
    · rename_i hf
      split at h
      · rename_i hc
        obtain ⟨c1, c2, c3, c4, c5, c6⟩ := hc
        have c1' := within_iff.mp c1
        obtain ⟨h1, h2, h3, h4, h5⟩ := shp_facts F xs (i + 1) (n + 2) m h
        refine ⟨by omega, fun j y hj hy => ?_, fun j y hj hy => ?_, fun j j' y z hjj hj hj' hy hz => ?_, fun k hk1 hk2 => ?_⟩
        · cases j with
          | zero => simp at hj; subst hj; exact (hf hy).elim
          | succ j => exact h2 j y (by simpa using hj) hy
        · cases j with
          | zero => simp at hj; subst hj; exact ⟨by omega, by simp; omega, by omega, by omega, c1', c2, c3⟩
          | succ j =>
            have := h3 j y (by simpa using hj) hy
            exact ⟨by have := this.lo; omega, by have := this.lt; push_cast; omega, this.r, this.hi, this.f, this.c, this.v⟩
        · cases j' with
          | zero => omega
          | succ j' =>
            cases j with
            | zero =>
              simp at hj; subst hj
              have := (h3 j' z (by simpa using hj') hz).lo
              omega
            | succ j => exact h4 j j' y z (by omega) (by simpa using hj) (by simpa using hj') hy hz
        · by_cases hkn : k < n + 2
          · exact ⟨0, x, rfl, hf, by omega⟩
          · obtain ⟨j, y, hj, hy⟩ := h5 k (by omega) hk2
            exact ⟨j + 1, y, by simpa using hj, hy⟩
      · cases h

/-- What a tree is whose shape is right. -/
structure Shaped (t : List Nd) (F : Int) : Prop where
  leaf : ∀ (j : Nat) (x : Nd), t[j]? = some x → x.f = -1 → x.c = 0 ∧ x.l = 0 ∧ x.r = 0 ∧ leafV x.v = true
  inner : ∀ (j : Nat) (x : Nd), t[j]? = some x → x.f ≠ -1 → InnerOk F x j 1 t.length
  ord : ∀ (j j' : Nat) (x y : Nd), j < j' → t[j]? = some x → t[j']? = some y → x.f ≠ -1 → y.f ≠ -1 → x.r < y.l
  cover : ∀ k : Int, 1 ≤ k → k < t.length → ∃ (j : Nat) (x : Nd), t[j]? = some x ∧ x.f ≠ -1 ∧ (x.l = k ∨ x.r = k)
  pos : 1 ≤ t.length

theorem shaped_of {t : List Nd} {F : Int} (h : shapeB t F = true) : Shaped t F := by
  unfold shapeB at h
  split at h
  · rename_i n hn
    simp at h
    subst h
    obtain ⟨h1, h2, h3, h4, h5⟩ := shp_facts F t 0 1 _ hn
    exact ⟨h2, fun j x hj hx => by simpa using h3 j x hj hx, h4, h5, by omega⟩
  · cases h

theorem above_iff {k : Int} {x : Nd} : above k x = true ↔ x.f ≠ -1 ∧ (x.l = k ∨ x.r = k) := by simp [above]

theorem Shaped.par_of {t : List Nd} {F : Int} (h : Shaped t F) {i : Nat} {x : Nd} (hx : t[i]? = some x) (hf : x.f ≠ -1) {k : Int} (hk : x.l = k ∨ x.r = k) : par t k = i := by
  unfold par
  refine fidx_some hx (above_iff.mpr ⟨hf, hk⟩) fun j y hj hy => ?_
  cases ha : above k y with
  | false => rfl
  | true =>
    obtain ⟨hyf, hyk⟩ := above_iff.mp ha
    have h1 := h.ord j i y x hj hy hx hyf hf
    have h2 := (h.inner j y hy hyf).r
    have h3 := (h.inner i x hx hf).r
    omega

theorem Shaped.par_lt {t : List Nd} {F : Int} (h : Shaped t F) (k : Int) : par t k < 0 ∨ ∃ (i : Nat) (x : Nd), par t k = i ∧ t[i]? = some x ∧ x.f ≠ -1 ∧ (x.l = k ∨ x.r = k) ∧ (i : Int) < k ∧ k < t.length := by
  rcases par_range t k with h1 | h1
  · left; omega
  · obtain ⟨i, hi⟩ : ∃ i : Nat, par t k = i := ⟨(par t k).toNat, by omega⟩
    right
    have hil : i < t.length := by omega
    have hx := List.getElem?_eq_getElem hil
    refine ⟨i, t[i], hi, hx, ?_⟩
    have ha : above k t[i] = true := by
      unfold par fidx at hi
      split at hi
      · rename_i j hj
        obtain ⟨h2, h3, _⟩ := List.findIdx?_eq_some_iff_getElem.mp hj
        have : j = i := by omega
        subst this; exact h3
      · omega
    obtain ⟨hf, hk⟩ := above_iff.mp ha
    have := h.inner i _ hx hf
    have h2 := this.lt
    have h3 := this.r
    have h4 := this.hi
    exact ⟨hf, hk, by omega, by omega⟩

theorem Shaped.anc {t : List Nd} {F : Int} (h : Shaped t F) : ∀ (n : Nat) (k : Int), k < n → 0 < n → ∃ l, anc t n k = some l
  | 0, _, _, h0 => by omega
  | n + 1, k, hk, _ => by
    rw [anc_s]
    split
    · exact ⟨[], rfl⟩
    · rename_i hp
      rcases h.par_lt k with h1 | ⟨i, x, h1, _, _, _, h2, _⟩
      · omega
      · obtain ⟨l, hl⟩ := h.anc n (par t k) (by omega) (by omega)
        exact ⟨_, by rw [hl]; rfl⟩

/-- Two beside each other in a list. -/
def adj (p : Int → Int → Bool) : List Int → Bool
  | a :: b :: r => p a b || adj p (b :: r)
  | _ => false

/-- A cut that does not part what comes to a node. -/
def badP (t : List Nd) (n : Nd) (a b : Int) : Bool := match t[a.toNat]? with
  | none => false
  | some x => decide (x.f = n.f) && ((decide (x.r = b) && decide (n.c ≤ x.c)) || (decide (x.l = b) && decide (x.c ≤ n.c)))

def wayOkB (t : List Nd) (i : Nat) : Bool := match t[i]? with
  | none => true
  | some x => decide (x.f = -1) || !adj (badP t x) (way t i)

def waysB (t : List Nd) : Bool := (List.range t.length).all (wayOkB t)

def treeB (t : List Nd) (F : Int) : Bool := within F 0 4 && within t.length 1 31 && shapeB t F && decide (dpt t t.length ≤ 4) && waysB t

theorem dpt_le (t : List Nd) (b : Int) (hb : -1 ≤ b) : ∀ n : Nat, dpt t n ≤ b ↔ ∀ i : Nat, i < n → levOf t i ≤ b
  | 0 => by simp [dpt]; omega
  | n + 1 => by
    have ih := dpt_le t b hb n
    simp only [dpt]
    constructor
    · intro h i hi
      by_cases e : i = n
      · subst e; omega
      · exact ih.mp (by omega) i (by omega)
    · intro h
      have h1 := ih.mpr fun i hi => h i (by omega)
      have h2 := h n (by omega)
      omega

theorem Shaped.lev_par {t : List Nd} {F : Int} (h : Shaped t F) (hl : t.length ≤ 31) {k : Nat} (hk : k < t.length) : 0 ≤ levOf t k ∧ (par t k < 0 → levOf t k = 0) ∧ (0 ≤ par t k → levOf t k = levOf t (par t k) + 1) := by
  have e : ∀ j : Nat, j < t.length → levOf t j = lev t 32 j := fun j hj => by unfold levOf; rw [if_pos (by omega)]
  obtain ⟨l, ha⟩ := h.anc 32 k (by omega) (by omega)
  have hlev : levOf t k = l.length := by rw [e k hk, lev_anc, ha]
  refine ⟨by omega, fun hp => ?_, fun hp => ?_⟩
  · rw [anc_s, if_pos hp] at ha; cases ha; simpa using hlev
  · rcases h.par_lt k with h1 | ⟨i, x, h1, _, _, _, h2, _⟩
    · omega
    · obtain ⟨m, hm⟩ := h.anc 31 i (by omega) (by omega)
      rw [anc_s, if_neg (by omega), h1, hm] at ha
      simp at ha
      subst ha
      obtain ⟨m', hm'⟩ := h.anc 32 i (by omega) (by omega)
      have hmm : ∀ (n : Nat) (k : Int) (a b : List Int), Pe.anc t n k = some a → Pe.anc t (n + 1) k = some b → a = b := by
        intro n
        induction n with
        | zero => intro k a b h1; cases h1
        | succ n ih =>
          intro k a b h1 h2
          rw [anc_s] at h1 h2
          split at h1
          · rename_i c; rw [if_pos c] at h2; cases h1; cases h2; rfl
          · rename_i c; rw [if_neg c] at h2
            simp only [Option.map_eq_some_iff] at h1 h2
            obtain ⟨a', ha', rfl⟩ := h1
            obtain ⟨b', hb', rfl⟩ := h2
            rw [ih _ _ _ ha' hb']
      have := hmm 31 i m m' hm hm'
      subst this
      rw [h1, e i (by omega), lev_anc, hm', hlev]
      simp

theorem Shaped.leaf_deep {t : List Nd} {F : Int} (h : Shaped t F) (hl : t.length ≤ 31) : ∀ (n k : Nat), k < t.length → t.length - k ≤ n → ∃ (j : Nat) (x : Nd), t[j]? = some x ∧ x.f = -1 ∧ levOf t k ≤ levOf t j
  | 0, k, hk, hn => by omega
  | n + 1, k, hk, hn => by
    have hx := List.getElem?_eq_getElem hk
    by_cases hf : (t[k]).f = -1
    · exact ⟨k, _, hx, hf, Int.le_refl _⟩
    · have hi := h.inner k _ hx hf
      have h1 := hi.lt
      have h2 := hi.r
      have h3 := hi.hi
      obtain ⟨c, hc⟩ : ∃ c : Nat, (t[k]).l = c := ⟨(t[k]).l.toNat, by omega⟩
      have hp := h.par_of hx hf (.inl hc)
      obtain ⟨_, _, h4⟩ := h.lev_par hl (k := c) (by omega)
      rw [hp] at h4
      obtain ⟨j, y, h5, h6, h7⟩ := h.leaf_deep hl n c (by omega) (by omega)
      exact ⟨j, y, h5, h6, by have := h4 (by omega); omega⟩

theorem adj_c {p : Int → Int → Bool} {w : List Int} {i : Nat} {a b : Int} (h1 : w[i]? = some a) (h2 : w[i + 1]? = some b) : adj p (w.drop i) = (p a b || adj p (w.drop (i + 1))) := by
  rw [drop_cons h1, drop_cons h2, adj]

theorem adj_end {p : Int → Int → Bool} {w : List Int} {i : Nat} (h : w.length ≤ i + 1) : adj p (w.drop i) = false := by
  by_cases c : i < w.length
  · rw [List.drop_eq_getElem_cons c, List.drop_eq_nil_of_le h, adj]
    simp
  · rw [List.drop_eq_nil_of_le (by omega), adj]
    simp

theorem Shaped.way {t : List Nd} {F : Int} (h : Shaped t F) (hl : t.length ≤ 31) {i : Nat} (hi : i < t.length) : ∃ l, Pe.way t i = ((i : Int) :: l).reverse ∧ Chn t l (par t i) ∧ l.length ≤ 31 := by
  obtain ⟨l, ha⟩ := h.anc 32 i (by omega) (by omega)
  have hc := anc_chn t 32 i l (by omega) ha
  have hle := anc_le t 32 i l ha
  refine ⟨l, ?_, hc.2.2, by omega⟩
  unfold Pe.way
  rw [if_pos (by omega), ha]

theorem badP_eq' {t : List Nd} {a : Nat} {z : Nd} (h : t[a]? = some z) (n : Nd) (b : Int) : badP t n a b = (decide (z.f = n.f) && ((decide (b = z.r) && decide (n.c ≤ z.c)) || (decide (b = z.l) && decide (z.c ≤ n.c)))) := by
  simp [badP, h, eq_comm (a := b)]

theorem wayOkB_eq {t : List Nd} {i : Nat} {x : Nd} (h : t[i]? = some x) : wayOkB t i = (decide (x.f = -1) || !adj (badP t x) (way t i)) := by simp [wayOkB, h]

theorem waysB_iff {t : List Nd} : waysB t = true ↔ ∀ j : Nat, j < t.length → wayOkB t j = true := by
  simp [waysB]

theorem treeB_rest {t : List Nd} {F : Int} (hl : t.length ≤ 31) (h : Shaped t F) : (decide (dpt t t.length ≤ 4) && waysB t) = true ↔ ∀ (i : Nat) (x : Nd), t[i]? = some x → (x.f = -1 → levOf t i ≤ 4) ∧ (x.f ≠ -1 → adj (badP t x) (way t i) = false) := by
  simp only [Bool.and_eq_true, decide_eq_true_eq, waysB_iff, dpt_le t 4 (by omega)]
  constructor
  · rintro ⟨h1, h2⟩ i x hx
    have hi := (List.getElem?_eq_some_iff.mp hx).1
    refine ⟨fun _ => h1 i hi, fun hf => ?_⟩
    have := h2 i hi
    rw [wayOkB_eq hx] at this
    simpa [hf] using this
  · intro h3
    refine ⟨fun i hi => ?_, fun i hi => ?_⟩
    · obtain ⟨j, x, hx, hf, hle⟩ := h.leaf_deep hl t.length i hi (by omega)
      have := (h3 j x hx).1 hf
      omega
    · have hx := List.getElem?_eq_getElem hi
      rw [wayOkB_eq hx]
      by_cases hf : (t[i]).f = -1
      · simp [hf]
      · simp [hf, (h3 i _ hx).2 hf]

theorem treeB_false {t : List Nd} {F : Int} (hl : t.length ≤ 31) (h : Shaped t F) {i : Nat} {x : Nd} (hx : t[i]? = some x) (hn : (x.f = -1 ∧ 4 < levOf t i) ∨ (x.f ≠ -1 ∧ adj (badP t x) (way t i) = true)) : treeB t F = false := by
  have := mt ((treeB_rest hl h).mp) fun h3 => by
    have := h3 i x hx
    rcases hn with ⟨h1, h2⟩ | ⟨h1, h2⟩
    · have := this.1 h1; omega
    · rw [this.2 h1] at h2; cases h2
  unfold treeB
  rw [Bool.and_assoc]
  simp [Bool.not_eq_true] at this ⊢
  intro _ _ _ h4
  exact this h4

theorem treeB_true {t : List Nd} {F : Int} (h1 : within F 0 4 = true) (h2 : within t.length 1 31 = true) (h3 : shapeB t F = true) (hn : ∀ (i : Nat) (x : Nd), t[i]? = some x → (x.f = -1 → levOf t i ≤ 4) ∧ (x.f ≠ -1 → adj (badP t x) (way t i) = false)) : treeB t F = true := by
  unfold treeB
  rw [Bool.and_assoc, (treeB_rest (within_iff.mp h2 |>.2 |> fun h => by omega) (shaped_of h3)).mpr hn, h1, h2, h3]
  rfl

theorem snoc_all {α : Type} {P : Nat → α → Prop} {l : List α} {i : Nat} {x : α} (h : ∀ (j : Nat) (x : α), j < i → l[j]? = some x → P j x) (hi : l[i]? = some x) (hp : P i x) : ∀ (j : Nat) (x : α), j < i + 1 → l[j]? = some x → P j x := by
  intro j y hj hy
  by_cases e : j = i
  · subst e; rw [hi] at hy; cases hy; exact hp
  · exact h j y (by omega) hy

set_option maxHeartbeats 1000000 in
theorem R_impl_TreeOk (t : List Nd) (F : Int) (hl : t.length ≤ 9223372036854775807) : RUN T k_impl_TreeOk [.agg [.sl 5 (t.map nd)], iv F] = some ([bv (treeB t F)], []) := by
  refine RUN_W T_impl_TreeOk rfl ?_
  by_cases h1 : within F 0 4 = true
  case neg => simp [k_impl_TreeOk_ic, k_impl_TreeOk_rv, R_impl_within', -R_impl_within, h1, treeB]
  by_cases h2 : within t.length 1 31 = true
  case neg => simp [k_impl_TreeOk_ic, k_impl_TreeOk_rv, R_impl_within', -R_impl_within, h1, h2, treeB]
  have h1' := within_iff.mp h1
  have h2' := within_iff.mp h2
  have hS := R_impl_shapeOk t F (by omega) h1'
  by_cases h3 : shapeB t F = true
  case neg => simp [k_impl_TreeOk_ic, k_impl_TreeOk_rv, R_impl_within', -R_impl_within, h1, h2, hS, h3, treeB]
  have hs := shaped_of h3
  have hL := fun k => R_impl_LevelOf' t k hl
  have hW := fun k => R_impl_wayTo t k hl
  simp [k_impl_TreeOk_ic, k_impl_TreeOk_rv, R_impl_within', -R_impl_within, h1, h2, hS, h3]
  refine W_loop (fun n st => ∃ i : Nat, i + n = t.length ∧ (∀ (j : Nat) (x : Nd), j < i → t[j]? = some x → (x.f = -1 → levOf t j ≤ 4) ∧ (x.f ≠ -1 → adj (badP t x) (way t j) = false)) ∧ st.V 2 = .ptr 0 none 0 0 0 ∧ st.V 30 = iv i ∧ st.V 29 = iv t.length ∧ st.V 28 = .sl 5 (t.map nd) ∧ 0 < st.nx ∧ st.S 0 = some (.box [.sl 5 (t.map nd)])) ?_ t.length _ ⟨0, by simp⟩
  rintro n st ⟨i, hi, hk, v2, v30, v29, v28, hnx, hS⟩
  simp [k_impl_TreeOk_b1, v30, v29, v28]
  have z := fr hnx
  have z2 := fr (by omega : st.nx < st.nx + 1)
  refine Br_i (fun h => ?_) (fun h => ?_)
  · simp at h
    obtain ⟨x, hx⟩ : ∃ x, t[i]? = some x := ⟨_, List.getElem?_eq_getElem h⟩
    have hw := wS h hl
    simp [-getElem?_pos, v2, v30, v29, v28, hS, hx, z, z2, nd]
    refine Br_i (fun h4 => ?_) (fun h4 => ?_)
    · simp at h4
      simp [-getElem?_pos, v2, v30, v29, v28, hS, hx, z, z2, hL]
      refine Br_i (fun h5 => ?_) (fun h5 => ?_)
      · simp at h5
        simp [treeB_false (by omega) hs hx (.inl ⟨h4, by omega⟩)]
      · simp at h5
        simp [-getElem?_pos, v2, v30, v29, v28, hS, hx, z, z2, hw]
        exact Rnd_n (n - 1) (by omega) ⟨i + 1, by omega, snoc_all (P := fun j x => (x.f = -1 → levOf t j ≤ 4) ∧ (x.f ≠ -1 → adj (badP t x) (way t j) = false)) hk hx ⟨fun _ => by omega, fun h => (h h4).elim⟩, by simp [v2], by simp, by simp [v29], by simp [v28], by simp, by simp [z, hS]⟩
    · simp at h4
      obtain ⟨l, hway, hchn, hll⟩ := hs.way (by omega) h
      obtain ⟨w, hww⟩ : ∃ w, w = way t i := ⟨_, rfl⟩
      have hwl : 1 ≤ w.length ∧ w.length ≤ 32 := by rw [hww, hway]; simp; omega
      have hwr := way_range t i
      obtain ⟨A, hA⟩ : ∃ A, A = adj (badP t x) w := ⟨_, rfl⟩
      rw [← hww] at hwr
      have hww' := hW i
      rw [← hww] at hww'
      obtain ⟨q, hq⟩ : ∃ q, w.length = q + 1 := ⟨w.length - 1, by omega⟩
      have hw1 : IntKind.i64.wrap ((w.length : Int) - 1) = q := by rw [hq]; exact (w64 (by omega) (by omega)).trans (by omega)
      have hql : q ≤ w.length := by omega
      simp [-getElem?_pos, v2, v30, v29, v28, hS, hx, z, z2, hww', hw1, hql]
      refine W_loop (fun n st => ∃ (j : Nat) (p o e ep : Nat), j + n = q ∧ adj (badP t x) (w.drop j) = A ∧ st.V 2 = .ptr 0 none 0 0 0 ∧ st.V 30 = iv i ∧ st.V 29 = iv t.length ∧ st.V 28 = .sl 5 (t.map nd) ∧ st.V 6 = .ptr p none ep 0 0 ∧ st.V 7 = .ref o none e 0 w.length ∧ st.V 48 = .ref o none e 0 q ∧ st.V 49 = iv q ∧ st.V 50 = iv j ∧ 0 < p ∧ p < o ∧ o < st.nx ∧ st.S p = some (.box [iv x.f, iv x.c, iv x.l, iv x.r, iv x.v]) ∧ st.S o = some (.row 1 (ints w)) ∧ st.S 0 = some (.box [.sl 5 (t.map nd)])) ?_ q _ ⟨0, st.nx, st.nx + 1, st.ep, st.ep, by omega, by simp [hA], by simp [v2], by simp [v30], by simp [v29], by simp [v28], by simp, by simp, by simp, by simp, by simp, hnx, by omega, by simp, by simp [z, z2], by simp [z, z2], by simp [z, z2, hS]⟩
      clear hnx hS z z2 v2 v30 v29 v28
      rintro n' st ⟨j, p, o, e, ep, hj, hjA, v2, v30, v29, v28, v6, v7, v48, v49, v50, hp, hpo, hox, hSp, hSo, hS⟩
      have z1 := fr hox
      have z2 := fr hpo
      have z3 := fr hp
      have z4 := fr (by omega : p < st.nx)
      have z5 := fr (by omega : 0 < o)
      have z6 := fr (by omega : 0 < st.nx)
      simp [k_impl_TreeOk_b0, v49, v50]
      refine Br_i (fun h => ?_) (fun h => ?_)
      · simp at h
        have hjl : j + 1 < w.length := by omega
        obtain ⟨a, ha⟩ : ∃ a, w[j]? = some a := ⟨_, List.getElem?_eq_getElem (by omega)⟩
        obtain ⟨b, hb⟩ : ∃ b, w[j + 1]? = some b := ⟨_, List.getElem?_eq_getElem hjl⟩
        have har := hwr a (List.mem_of_getElem? ha)
        obtain ⟨a, rfl⟩ : ∃ a' : Nat, a = a' := ⟨a.toNat, by omega⟩
        obtain ⟨y, hy⟩ : ∃ y, t[a]? = some y := ⟨_, List.getElem?_eq_getElem (by omega)⟩
        rw [adj_c ha hb, badP_eq' hy] at hjA
        have ha' := ints_get ha
        have hb' := ints_get hb
        have hwj := w64 (x := (j : Int) + 1) (by omega) (by omega)
        rcases Classical.propComplete (y.f = x.f) with b0 | b0
        all_goals rcases Classical.propComplete (b = y.r) with b1 | b1
        all_goals rcases Classical.propComplete (x.c ≤ y.c) with b2 | b2
        all_goals rcases Classical.propComplete (b = y.l) with b3 | b3
        all_goals rcases Classical.propComplete (y.c ≤ x.c) with b4 | b4
        all_goals simp [b0, b1, b2, b3, b4] at hjA
        all_goals simp [-getElem?_pos, v2, v30, v29, v28, v6, v7, v48, v49, v50, hSp, hSo, hS, z1, z2, z3, z4, z5, z6, ha', hb', hwj, hy, nd, b0, b1, b2, b3, b4, h, hjl]
        all_goals first
          | (have no : treeB t F = false := treeB_false (by omega) hs hx (.inr ⟨h4, by rw [← hww, ← hA]; simp [hjA]⟩)
             simp [no]; done)
          | exact Rnd_n (n' - 1) (by omega) ⟨j + 1, p, o, e, ep, by omega, hjA, by simp [v2], by simp [v30], by simp [v29], by simp [v28], by simp [v6], by simp [v7], by simp [v48], by simp [v49], by simp, hp, hpo, by simp; omega, by simp [z4, hSp], by simp [z1, hSo], by simp [z6, hS]⟩
          | skip
      · simp at h
        rw [adj_end (by omega)] at hjA
        simp [-getElem?_pos, v2, v30, v29, v28, hw]
        exact Rnd_n (n - 1) (by omega) ⟨i + 1, by omega, snoc_all (P := fun j x => (x.f = -1 → levOf t j ≤ 4) ∧ (x.f ≠ -1 → adj (badP t x) (way t j) = false)) hk hx ⟨fun h => (h4 h).elim, fun _ => by rw [← hww, ← hA, hjA]⟩, by simp [v2], by simp, by simp [v29], by simp [v28], by simp; omega, by simp [hS]⟩
  · simp at h
    have : treeB t F = true := treeB_true h1 h2 h3 fun j x hj => hk j x (by have := (List.getElem?_eq_some_iff.mp hj).1; omega) hj
    simp [this]

/-- A row within rows: a slice's own, or one that is read. -/
def cel (q : Bool) (l : List Int) : PV := if q then .own 1 (ints l) else .sl 1 (ints l)

@[simp] theorem fz_cel (q : Bool) (l : List Int) : fz (cel q l) = .sl 1 (ints l) := by cases q <;> simp [cel]

def rws (q : Bool) (L : List (List Int)) : List (List PV) := L.map fun l => [cel q l]

@[simp] theorem rws_len (q : Bool) (L : List (List Int)) : (rws q L).length = L.length := by simp [rws]

theorem yv_gu {s : St} {d : Option Dst} {op : IOp} {g : Opd} {v : Bool} {x : PV} : (yv s ⟨d, op, some (g, v)⟩ = some x) = (Ob' (guardP v (g.get s)) fun t => Br t (WI (fun _ => []) (fun _ _ => none) op s (fun y _ => y = x)) (PV.v Go.undef = x)) := by
  simp only [yv, evG_some, WI, Ob', Br, Option.map_eq_some_iff, Option.bind_eq_some_iff, eq_iff_iff]
  constructor
  · rintro ⟨⟨y, s'⟩, ⟨t, h1, h2⟩, h3⟩
    refine ⟨t, h1, fun ht => ?_, fun ht => ?_⟩ <;> subst ht
    · exact ⟨y, s', by simpa using h2, h3⟩
    · simp at h2; obtain ⟨rfl, rfl⟩ := h2; exact h3
  · rintro ⟨t, h1, h2, h3⟩
    cases t with
    | true => obtain ⟨y, s', h4, h5⟩ := h2 rfl; exact ⟨(y, s'), ⟨true, h1, by simpa using h4⟩, h5⟩
    | false => exact ⟨_, ⟨false, h1, rfl⟩, h3 rfl⟩

@[simp] theorem chkTodo_g {s : St} {d : Option Dst} {op : IOp} {g : Opd} {v : Bool} {x : PV} {n : Nat} {r : List (IOper × PV × Nat)} : chkTodo s ((⟨d, op, some (g, v)⟩, x, n + 1) :: r) = ((Ob' (guardP v (g.get s)) fun t => Br t (WI (fun _ => []) (fun _ _ => none) op s (fun y _ => y = x)) (PV.v Go.undef = x)) ∧ chkTodo s r) := by
  simp only [chkTodo, yv_gu]

@[simp] theorem chkPast_g {V E : Nat → PV} {d : Option Dst} {op : IOp} {g : Opd} {v : Bool} {x : PV} {n : Nat} {s : St} {ms : List St} : chkPast V E ⟨d, op, some (g, v)⟩ x (n + 1) (s :: ms) = ((Ob' (guardP v (g.get { s with V := V, E := E })) fun t => Br t (WI (fun _ => []) (fun _ _ => none) op { s with V := V, E := E } (fun y _ => y = x)) (PV.v Go.undef = x)) ∧ chkPast V E ⟨d, op, some (g, v)⟩ x n ms) := by
  simp only [chkPast, yv_gu]

theorem snoc_nat {P : Nat → Prop} {i : Nat} (h : ∀ j, j < i → P j) (hi : P i) : ∀ j, j < i + 1 → P j := by
  intro j hj
  by_cases e : j = i
  · subst e; exact hi
  · exact h j (by omega)

theorem rows_of {α : Type} {f : α → List PV} {p : α → Prop} {tys : List TY} (h : ∀ cs, ShpL tys cs → ∃ a, f a = cs ∧ p a) : ∀ {es : List (List PV)}, (∀ cs ∈ es, ShpL tys cs) → ∃ l : List α, l.map f = es ∧ ∀ a ∈ l, p a
  | [], _ => ⟨[], rfl, by simp⟩
  | e :: es, hs => by
    obtain ⟨a, ha, hp⟩ := h e (hs e (by simp))
    obtain ⟨l, hl, hq⟩ := rows_of h (es := es) (fun cs hc => hs cs (by simp [hc]))
    refine ⟨a :: l, by simp [ha, hl], fun b hb => ?_⟩
    rcases List.mem_cons.mp hb with e | e
    · subst e; exact hp
    · exact hq b e

theorem of_all {P : Program} {l : List TypeId} (h : (l.all fun t => P.readableRec t && decide (t < P.types.size)) = true) : ∀ t ∈ l, P.readableRec t = true ∧ t < P.types.size := by
  intro t ht
  have := List.all_eq_true.mp h t ht
  simpa using this

theorem args1 {p : Bool × List TY} {pvs : List PV} (h : All2 (fun p c => ShpA p.1 p.2 c) [p] pvs) : ∃ a, pvs = [a] ∧ ShpA p.1 p.2 a := by
  cases h with
  | cons h1 t => cases t with
    | nil => exact ⟨_, rfl, h1⟩

/-- The bytes that a source draws from. -/
def byts (B : List Int) : List (List PV) := B.map fun n => [.v (.int .u8 n)]

@[simp] theorem byts_len (B : List Int) : (byts B).length = B.length := by simp [byts]

theorem byts_get {B : List Int} {i : Nat} {x : Int} (h : B[i]? = some x) : (byts B)[i]? = some [.v (.int .u8 x)] := by simp [byts, h]

/-- The end of a call of which something is told. -/
def FinG (rv : List RV) (io : Nat) (G : List PV × List PV → Prop) (_ : Dm rv) (_ : Dm G) (e : Ex) (s : St) : Prop := (e = .normal ∨ e = .ret) ∧ ∃ r, finishEv ⟨[], rv, .skip⟩ io s = some r ∧ G r

@[simp] theorem FinG_n {rv : List RV} {io : Nat} {G : List PV × List PV → Prop} {s : St} : FinG rv io G ⟨⟩ ⟨⟩ .normal s = ∃ r, finishEv ⟨[], rv, .skip⟩ io s = some r ∧ G r := by simp [FinG]

@[simp] theorem FinG_r {rv : List RV} {io : Nat} {G : List PV × List PV → Prop} {s : St} : FinG rv io G ⟨⟩ ⟨⟩ .ret s = ∃ r, finishEv ⟨[], rv, .skip⟩ io s = some r ∧ G r := by simp [FinG]

theorem RUN_G {T : Table} {f : Nat} {ms : List Bool} {rv : List RV} {ic : IC} {G : List PV × List PV → Prop} (hT : T f = some (.code ⟨ms, rv, ic⟩)) {args : List PV} {st : St} (hi : initEv args = some st) (h : W (modesOf T) (RUN T) ic st (FinG rv st.nx G ⟨⟩ ⟨⟩)) : ∃ r, RUN T f args = some r ∧ G r := by
  unfold W at h
  obtain ⟨e, s, h1, h2, r, h3, hG⟩ := h
  refine ⟨r, RUN_code hT ?_, hG⟩
  unfold callL
  rw [hi]
  simp only [Option.bind_some, h1]
  rcases h2 with rfl | rfl <;> exact h3
attribute [irreducible] FinG

theorem and255 (X : Nat) : 0 ≤ IntKind.i64.wrap ((X &&& 255 % 2 ^ IntKind.i64.bits : Nat) : Int) ∧ IntKind.i64.wrap ((X &&& 255 % 2 ^ IntKind.i64.bits : Nat) : Int) ≤ 255 := by
  have h : X &&& 255 % 2 ^ IntKind.i64.bits ≤ 255 := Nat.le_trans Nat.and_le_right (by decide)
  rw [w64 (by omega) (by omega)]
  omega

/-- What a drawing function may answer: a value with a property, and the source further on. -/
def Draw (B : List Int) (P : PV → Prop) (r : List PV × List PV) : Prop := ∃ (v : PV) (p : Nat) (s : Int), P v ∧ p ≤ B.length ∧ r = ([v], [.bx [.sl 1 (byts B), iv p, iv s]])

def PM (l : List Int) (v : PV) : Prop := ∃ n, v = iv n ∧ n ∈ l

def PI (v : PV) : Prop := ∃ n, v = iv n ∧ inI n

def PN (n : Int) (v : PV) : Prop := ∃ m, v = iv m ∧ 0 ≤ m ∧ (0 < n → m < n)

theorem R_spec_l1Byte (B : List Int) (p : Nat) (s : Int) (hp : p ≤ B.length) (hB : B.length ≤ 9223372036854775807) : ∃ r, RUN T k_spec_l1Byte [.bx [.sl 1 (byts B), iv p, iv s]] = some r ∧ Draw B (fun v => ∃ n, v = iv n ∧ 0 ≤ n ∧ n ≤ 255) r := by
  refine RUN_G T_spec_l1Byte rfl ?_
  by_cases h : p < B.length
  · obtain ⟨x, hx⟩ : ∃ x, B[p]? = some x := ⟨_, List.getElem?_eq_getElem h⟩
    have hx' := byts_get hx
    have hw := wS h hB
    simp [-getElem?_pos, k_spec_l1Byte_ic, k_spec_l1Byte_rv, h, hx', hw]
    exact ⟨_, p + 1, _, ⟨_, rfl, (and255 _).1, (and255 _).2⟩, h, rfl⟩
  · have h' : ¬ ((p : Int) < B.length) := by omega
    simp [-getElem?_pos, k_spec_l1Byte_ic, k_spec_l1Byte_rv, h, h']
    exact ⟨_, p, _, ⟨_, rfl, (and255 _).1, (and255 _).2⟩, hp, rfl⟩

theorem R_spec_l1Below (B : List Int) (p : Nat) (s : Int) (hp : p ≤ B.length) (hB : B.length ≤ 9223372036854775807) (n : Int) (hn : n ≤ 9223372036854775807) : ∃ r, RUN T k_spec_l1Below [.bx [.sl 1 (byts B), iv p, iv s], iv n] = some r ∧ Draw B (PN n) r := by
  refine RUN_G T_spec_l1Below rfl ?_
  obtain ⟨r1, h1, v1, p1, s1, ⟨a1, rfl, a10, a11⟩, hp1, rfl⟩ := R_spec_l1Byte B p s hp hB
  by_cases c1 : n ≤ 0
  · simp [-getElem?_pos, k_spec_l1Below_ic, k_spec_l1Below_rv, c1]
    exact ⟨_, p, s, ⟨0, rfl, by omega, by omega⟩, hp, rfl⟩
  have c0 : ¬ (n = 0) := by omega
  by_cases c2 : n ≤ 256
  · simp [-getElem?_pos, k_spec_l1Below_ic, k_spec_l1Below_rv, c0, c1, c2, h1]
    refine ⟨_, p1, s1, ⟨_, rfl, ?_, fun _ => ?_⟩, hp1, rfl⟩
    · exact Int.tmod_nonneg _ a10
    · exact Int.tmod_lt_of_pos _ (by omega)
  obtain ⟨r2, h2, v2, p2, s2, ⟨a2, rfl, a20, a21⟩, hp2, rfl⟩ := R_spec_l1Byte B p1 s1 hp1 hB
  obtain ⟨r3, h3, v3, p3, s3, ⟨a3, rfl, a30, a31⟩, hp3, rfl⟩ := R_spec_l1Byte B p2 s2 hp2 hB
  obtain ⟨r4, h4, v4, p4, s4, ⟨a4, rfl, a40, a41⟩, hp4, rfl⟩ := R_spec_l1Byte B p3 s3 hp3 hB
  have w1 := w64 (x := a1 * 16777216) (by omega) (by omega)
  have w2 := w64 (x := a2 * 65536) (by omega) (by omega)
  have w3 := w64 (x := a1 * 16777216 + a2 * 65536) (by omega) (by omega)
  have w4 := w64 (x := a3 * 256) (by omega) (by omega)
  have w5 := w64 (x := a1 * 16777216 + a2 * 65536 + a3 * 256) (by omega) (by omega)
  have w6 := w64 (x := a1 * 16777216 + a2 * 65536 + a3 * 256 + a4) (by omega) (by omega)
  simp [-getElem?_pos, k_spec_l1Below_ic, k_spec_l1Below_rv, c0, c1, c2, h1, h2, h3, h4, w1, w2, w3, w4, w5, w6]
  refine ⟨_, p4, s4, ⟨_, rfl, ?_, fun _ => ?_⟩, hp4, rfl⟩
  · exact Int.tmod_nonneg _ (by omega)
  · exact Int.tmod_lt_of_pos _ (by omega)

/-- The same where a list is handed over and back. -/
def Draw2 (B : List Int) (l : List Int) (P : PV → Prop) (r : List PV × List PV) : Prop := ∃ (v : PV) (p : Nat) (s : Int), P v ∧ p ≤ B.length ∧ r = ([v], [.bx [.sl 1 (byts B), iv p, iv s], .own 1 (ints l)])

theorem R_spec_l1PickInt (B : List Int) (p : Nat) (s : Int) (hp : p ≤ B.length) (hB : B.length ≤ 9223372036854775807) (l : List Int) (hl : 0 < l.length ∧ l.length ≤ 9223372036854775807) : ∃ r, RUN T k_spec_l1PickInt [.bx [.sl 1 (byts B), iv p, iv s], .own 1 (ints l)] = some r ∧ Draw2 B l (PM l) r := by
  refine RUN_G T_spec_l1PickInt rfl ?_
  obtain ⟨r1, h1, v1, p1, s1, ⟨a1, rfl, a10, a11⟩, hp1, rfl⟩ := R_spec_l1Below B p s hp hB l.length (by omega)
  obtain ⟨i, rfl⟩ : ∃ i : Nat, a1 = i := ⟨a1.toNat, by omega⟩
  have hi : i < l.length := by have := a11 (by omega); omega
  obtain ⟨x, hx⟩ : ∃ x, l[i]? = some x := ⟨_, List.getElem?_eq_getElem hi⟩
  have hx' := ints_get hx
  simp [-getElem?_pos, k_spec_l1PickInt_ic, k_spec_l1PickInt_rv, h1, hx', hi]
  exact ⟨_, p1, s1, ⟨x, rfl, List.mem_of_getElem? hx⟩, hp1, rfl⟩

theorem inI_wrap (x : Int) : inI (IntKind.i64.wrap x) := by
  unfold inI IntKind.wrap
  simp [IntKind.bits, IntKind.signed]
  omega

theorem R_spec_l1Whole (B : List Int) (p : Nat) (s : Int) (hp : p ≤ B.length) (hB : B.length ≤ 9223372036854775807) : ∃ r, RUN T k_spec_l1Whole [.bx [.sl 1 (byts B), iv p, iv s]] = some r ∧ Draw B PI r := by
  refine RUN_G T_spec_l1Whole rfl ?_
  obtain ⟨r1, h1, v1, p1, s1, ⟨a1, rfl, a10, a11⟩, hp1, rfl⟩ := R_spec_l1Below B p s hp hB 4 (by omega)
  by_cases c0 : a1 = 0
  · obtain ⟨r2, h2, v2, p2, s2, ⟨a2, rfl, hm⟩, hp2, rfl⟩ := R_spec_l1PickInt B p1 s1 hp1 hB [0, 1, -1, 9, 10, 999, 1000, 2147483647, -2147483648, 3037000499, 3037000500, 9223372036854775807, -9223372036854775807, -9223372036854775808] (by simp)
    simp only [ints, List.map] at h2
    simp [-getElem?_pos, k_spec_l1Whole_ic, k_spec_l1Whole_rv, h1, c0, h2]
    refine ⟨_, p2, s2, ⟨a2, rfl, ?_⟩, hp2, rfl⟩
    simp at hm
    unfold inI
    omega
  by_cases c1 : a1 = 1
  · simp [-getElem?_pos, k_spec_l1Whole_ic, k_spec_l1Whole_rv, h1, c0, c1]
    refine W_loop (fun n st => ∃ (i p : Nat) (x s : Int), i + n = 8 ∧ p ≤ B.length ∧ inI x ∧ st.V 0 = .ptr 0 none 0 0 0 ∧ st.V 3 = iv x ∧ st.V 4 = iv i ∧ 0 < st.nx ∧ st.ep = 0 ∧ st.S 0 = some (.box [.sl 1 (byts B), iv p, iv s])) ?_ 8 _ ⟨0, p1, 0, s1, by omega, hp1, by unfold inI; omega, by simp⟩
    clear h1
    rintro n st ⟨i, p, x, s, hi, hp, hx, v0, v3, v4, hnx, hep, hS⟩
    simp [k_spec_l1Whole_b0, v4]
    refine Br_i (fun h => ?_) (fun h => ?_)
    · simp at h
      obtain ⟨r2, h2, v2, p2, s2, ⟨a2, rfl, a20, a21⟩, hp2, rfl⟩ := R_spec_l1Byte B p s hp hB
      have w := w64 (x := (i : Int) + 1) (by omega) (by omega)
      simp [-getElem?_pos, v0, v3, v4, hep, hS, h2, w]
      exact Rnd_n (n - 1) (by omega) ⟨i + 1, p2, _, s2, by omega, hp2, inI_wrap _, by simp [v0], by simp; rfl, by simp, by simp [hnx], by simp [hep], by simp⟩
    · simp [-getElem?_pos, v3, v0, hS]
      exact ⟨_, p, s, ⟨x, rfl, hx⟩, hp, rfl⟩
  by_cases c2 : a1 = 2
  · obtain ⟨r2, h2, v2, p2, s2, ⟨a2, rfl, a20, a21⟩, hp2, rfl⟩ := R_spec_l1Below B p1 s1 hp1 hB 1000000 (by omega)
    have a22 := a21 (by omega)
    have w := w64 (x := a2 - 500000) (by omega) (by omega)
    simp [-getElem?_pos, k_spec_l1Whole_ic, k_spec_l1Whole_rv, h1, c0, c1, c2, h2, w]
    exact ⟨_, p2, s2, ⟨_, rfl, by unfold inI; omega⟩, hp2, rfl⟩
  · obtain ⟨r2, h2, v2, p2, s2, ⟨a2, rfl, a20, a21⟩, hp2, rfl⟩ := R_spec_l1Below B p1 s1 hp1 hB 41 (by omega)
    have a22 := a21 (by omega)
    have w := w64 (x := a2 - 20) (by omega) (by omega)
    simp [-getElem?_pos, k_spec_l1Whole_ic, k_spec_l1Whole_rv, h1, c0, c1, c2, h2, w]
    exact ⟨_, p2, s2, ⟨_, rfl, by unfold inI; omega⟩, hp2, rfl⟩

theorem R_spec_l1New (B : List Int) (hB : B.length ≤ 9223372036854775807) : ∃ r, RUN T k_spec_l1New [.sl 1 (byts B)] = some r ∧ ∃ s : Int, r = ([.bx [.sl 1 (byts B), iv (0 : Nat), iv s]], []) := by
  refine RUN_G T_spec_l1New rfl ?_
  simp [-getElem?_pos, k_spec_l1New_ic, k_spec_l1New_rv]
  refine W_loop (fun n st => ∃ (i : Nat) (x : Int), i + n = B.length ∧ st.V 0 = .sl 1 (byts B) ∧ st.V 3 = iv x ∧ st.V 4 = iv i) ?_ B.length _ ⟨0, _, by omega, by simp, by simp; rfl, by simp⟩
  rintro n st ⟨i, x, hi, v0, v3, v4⟩
  by_cases h : i < B.length
  · obtain ⟨b, hx⟩ : ∃ b, B[i]? = some b := ⟨_, List.getElem?_eq_getElem h⟩
    have hx' := byts_get hx
    have hw := wS h hB
    by_cases h2 : (i : Int) < 4000
    · have h2' := eq_true h2
      simp [-getElem?_pos, k_spec_l1New_b0, v0, v3, v4, h, h2', hx', hw]
      exact Rnd_n (n - 1) (by omega) ⟨i + 1, _, by omega, by simp [v0], by simp; rfl, by simp⟩
    · have h2' := eq_false h2
      simp [-getElem?_pos, k_spec_l1New_b0, v0, v3, v4, h, h2']
  · simp [-getElem?_pos, k_spec_l1New_b0, v0, v3, v4, h]

theorem R_laws_big (es : List (List PV)) : RUN T k_laws_big [.sl 1 es] = some ([bv (decide ((1048576 : Int) < es.length))], []) := by
  refine RUN_W T_laws_big rfl ?_
  simp [-getElem?_pos, k_laws_big_ic, k_laws_big_rv]

theorem R_spec_DrawOneLeaf (B : List Int) (hB : B.length ≤ 9223372036854775807) : ∃ v : Int, inI v ∧ RUN T k_spec_DrawOneLeaf [.sl 1 (byts B)] = some ([iv v], []) := by
  obtain ⟨r1, h1, s, rfl⟩ := R_spec_l1New B hB
  obtain ⟨r2, h2, v2, p2, s2, ⟨v, rfl, hv⟩, hp2, rfl⟩ := R_spec_l1Whole B 0 s (by omega) hB
  refine ⟨v, hv, RUN_W T_spec_DrawOneLeaf rfl ?_⟩
  simp at h1 h2
  simp [-getElem?_pos, k_spec_DrawOneLeaf_ic, k_spec_DrawOneLeaf_rv, h1, h2]

def leafN (v : Int) : Nd := ⟨-1, 0, 0, 0, v⟩

theorem R_impl_OneLeaf (v : Int) : RUN T k_impl_OneLeaf [iv v] = some ([.agg [.own 5 ([leafN v].map nd)]], []) := by
  refine RUN_W T_impl_OneLeaf rfl ?_
  have hr : roomFor 40 1 = true := by decide
  simp [-getElem?_pos, k_impl_OneLeaf_ic, k_impl_OneLeaf_rv, hr, leafN, nd]

theorem R_spec_OneLeaf (v : Int) : RUN T k_spec_OneLeaf [iv v] = some ([.agg [.own 5 ([leafN v].map nd)]], []) := by
  refine RUN_W T_spec_OneLeaf rfl ?_
  have hr : roomFor 40 1 = true := by decide
  simp [-getElem?_pos, k_spec_OneLeaf_ic, k_spec_OneLeaf_rv, hr, leafN, nd]

theorem nd_eq {x y : Nd} : x = y ↔ x.f = y.f ∧ x.c = y.c ∧ x.l = y.l ∧ x.r = y.r ∧ x.v = y.v := by
  cases x; cases y; simp

open Classical in
theorem R_spec_SameTree (t u : List Nd) (ht : t.length ≤ 9223372036854775807) (hu : u.length ≤ 9223372036854775807) : RUN T k_spec_SameTree [.agg [.sl 5 (t.map nd)], .agg [.sl 5 (u.map nd)]] = some ([bv (decide (t = u))], []) := by
  refine RUN_W T_spec_SameTree rfl ?_
  rcases Classical.propComplete ((t.length : Int) = u.length) with hl | hl
  case inr =>
    have : decide (t = u) = false := by simp; rintro rfl; simp at hl
    simp [-getElem?_pos, k_spec_SameTree_ic, k_spec_SameTree_rv, hl, this]
  simp [-getElem?_pos, k_spec_SameTree_ic, k_spec_SameTree_rv, hl]
  have hlen : t.length = u.length := by simp at hl; omega
  refine W_loop (fun n st => ∃ i : Nat, i + n = t.length ∧ (∀ j, j < i → t[j]? = u[j]?) ∧ st.V 2 = .ptr 0 none 0 0 0 ∧ st.V 3 = .ptr 1 none 0 0 0 ∧ st.V 5 = iv i ∧ st.S 0 = some (.box [.sl 5 (t.map nd)]) ∧ st.S 1 = some (.box [.sl 5 (u.map nd)])) ?_ t.length _ ⟨0, by simp⟩
  rintro n st ⟨i, hi, hj, v2, v3, v5, hS, hS1⟩
  simp [k_spec_SameTree_b0, v2, v3, v5, hS]
  refine Br_i (fun h => ?_) (fun h => ?_)
  · simp at h
    obtain ⟨x, hx⟩ : ∃ x, t[i]? = some x := ⟨_, List.getElem?_eq_getElem h⟩
    obtain ⟨y, hy⟩ : ∃ y, u[i]? = some y := ⟨_, List.getElem?_eq_getElem (by omega)⟩
    have hw := wS h ht
    have hiu : i < u.length := by omega
    rcases Classical.propComplete (x.f = y.f ∧ x.c = y.c ∧ x.l = y.l ∧ x.r = y.r ∧ x.v = y.v) with e | e
    · simp [-getElem?_pos, v2, v3, v5, hS, hS1, hx, hy, nd, h, hiu, hw, eqP_5, e]
      refine Rnd_n (n - 1) (by omega) ⟨i + 1, by omega, snoc_nat hj ?_, by simp [v2], by simp [v3], by simp, by simp [hS], by simp [hS1]⟩
      rw [hx, hy, nd_eq.mpr (of_eq_true e)]
    · have : decide (t = u) = false := by
        simp
        rintro rfl
        rw [hx] at hy
        cases hy
        simp at e
      simp [-getElem?_pos, v2, v3, v5, hS, hS1, hx, hy, nd, h, hiu, hw, eqP_5, e, this]
  · simp at h
    have : t = u := by
      apply List.ext_getElem?
      intro j
      by_cases c : j < i
      · exact hj j c
      · rw [List.getElem?_eq_none (by omega), List.getElem?_eq_none (by omega)]
    simp [this]

@[simp] theorem R_laws_fits (v : Int) : RUN T k_laws_fits [iv v] = some ([bv (leafV v)], []) := by
  refine RUN_W T_laws_fits rfl ?_
  rcases Classical.propComplete (-1099511627776 ≤ v) with h | h
  all_goals simp [-getElem?_pos, k_laws_fits_ic, k_laws_fits_rv, leafV, within, h]

theorem leaf_lev (v : Int) : levOf [leafN v] 0 = 0 := by
  simp [levOf, lev, par, fidx, above, leafN]

theorem leaf_tree (v : Int) : treeB [leafN v] 1 = leafV v := by
  have h : dpt [leafN v] 1 = 0 := by simp [dpt, leaf_lev]; rfl
  unfold treeB
  simp [within, shapeB, shp, h, waysB, wayOkB]
  simp [leafN]
  cases leafV v <;> simp

theorem law_FnLeafTree (B : List Int) (hB : B.length ≤ 9223372036854775807) : RUN T k_laws_FnLeafTree [.sl 1 (byts B)] = some ([bv true], []) := by
  refine RUN_W T_laws_FnLeafTree rfl ?_
  have hb := R_laws_big (byts B)
  rw [byts_len] at hb
  by_cases c : (1048576 : Int) < B.length
  · simp [-getElem?_pos, k_laws_FnLeafTree_ic, k_laws_FnLeafTree_rv, hb, c]
  obtain ⟨v, hv, hd⟩ := R_spec_DrawOneLeaf B hB
  have h1 := R_impl_OneLeaf v
  have h2 := R_spec_OneLeaf v
  have h3 := R_spec_SameTree [leafN v] [leafN v] (by simp) (by simp)
  have h4 := R_impl_TreeOk [leafN v] 1 (by simp)
  have h5 := R_impl_EvalTree [leafN v] [] (by simp) (by simp)
  have h6 := R_impl_DepthOf [leafN v] (by simp)
  have h7 := R_impl_LeavesOf [leafN v] (by simp)
  have e5 : evt [leafN v] [] = v := by simp [evt, rto, way2, rt, leafN]
  have e6 : dpt [leafN v] 1 = 0 := by simp [dpt, leaf_lev]; rfl
  have e7 : lvs [leafN v] 0 = [0] := by simp [lvs, leafN]
  rw [leaf_tree] at h4
  rw [e5] at h5
  simp only [List.length_cons, List.length_nil, Nat.zero_add, e6] at h6
  rw [e7] at h7
  simp only [decide_true] at h3
  simp only [List.map, nd, ints] at h1 h2 h3 h4 h5 h6 h7
  simp [-getElem?_pos, k_laws_FnLeafTree_ic, k_laws_FnLeafTree_rv, hb, c, hd, h1, h2, h3, h4, h5, h6, h7]

theorem shp_byteL (cs : List PV) (h : ShpL [.int .u8] cs) : ∃ n : Int, [PV.v (.int .u8 n)] = cs ∧ True := by
  simp only [ShpL, Shp] at h
  obtain ⟨_, _, rfl, ⟨a, rfl, h1⟩, rfl⟩ := h
  exact ⟨a, rfl, trivial⟩

theorem shp_bytes {c : PV} (h : ShpA false [.sl [.int .u8]] c) : ∃ B : List Int, c = .sl 1 (byts B) ∧ B.length ≤ 9223372036854775807 := by
  simp only [ShpA, Bool.false_eq_true, if_false, ShpL, Shp] at h
  obtain ⟨c', r, e, ⟨es, he, h1, h2⟩, hr⟩ := h
  simp only [List.cons.injEq] at e
  obtain ⟨l, hl, hp⟩ := rows_of (f := fun n : Int => [PV.v (.int .u8 n)]) (tys := [.int .u8]) shp_byteL h2
  subst hl
  simp [maxLen] at h1
  exact ⟨l, e.1.trans he, by omega⟩

end Go.Pe
