/- What each function answers by the evaluator, and the law; for each answer its own conditions stand ahead of it. -/
import Derived.Test.YthjpnjnlhmkepaaK0
import Derived.Test.YthjpnjnlhmkepaaEvB2
import Derived.IntWalk
set_option linter.all false
namespace Go.Pe
open Go
theorem w64 {x : Int} (h1 : -9223372036854775808 ≤ x) (h2 : x ≤ 9223372036854775807) : IntKind.i64.wrap x = x := IntWalk.i64_in x ⟨h1, h2⟩

@[simp] theorem w64s {x : Int} (h1 : -9223372036854775808 ≤ x) (h2 : x ≤ 9223372036854775807) : IntKind.i64.wrap x = x := w64 h1 h2

structure Nd where
  f : Int
  c : Int
  l : Int
  r : Int
  v : Int
deriving DecidableEq

def nd (n : Nd) : List PV := [iv n.f, iv n.c, iv n.l, iv n.r, iv n.v]

@[simp] theorem R_impl_isLeaf (a b c d e : Int) : RUN T k_impl_isLeaf [.agg [iv a, iv b, iv c, iv d, iv e]] = some ([bv (decide (a = -1))], []) := by
  refine RUN_W T_impl_isLeaf rfl ?_
  simp [k_impl_isLeaf_ic, k_impl_isLeaf_rv]

@[simp] theorem R_impl_within (a b c : Int) : RUN T k_impl_within [iv a, iv b, iv c] = some ([bv (decide (b ≤ a) && decide (a ≤ c))], []) := by
  refine RUN_W T_impl_within rfl ?_
  simp [k_impl_within_ic, k_impl_within_rv]
  refine Br_i (fun h => ?_) (fun h => ?_) <;> simp [h]

@[simp] theorem R_spec_l17Inner (a b c d e : Int) : RUN T k_spec_l17Inner [.agg [iv a, iv b, iv c, iv d, iv e]] = some ([bv (!decide (a = -1))], []) := by
  refine RUN_W T_spec_l17Inner rfl ?_
  simp [k_spec_l17Inner_ic, k_spec_l17Inner_rv]

@[simp] theorem R_spec_l1In (a b c : Int) : RUN T k_spec_l1In [iv a, iv b, iv c] = some ([bv (decide (b ≤ a) && decide (a ≤ c))], []) := by
  refine RUN_W T_spec_l1In rfl ?_
  simp [k_spec_l1In_ic, k_spec_l1In_rv]
  refine Br_i (fun h => ?_) (fun h => ?_) <;> simp [h]

/-- The first place where something holds, -1 if there is none. -/
def fidx {α : Type} (p : α → Bool) (l : List α) : Int := match l.findIdx? p with
  | some i => (i : Int)
  | none => -1

theorem fidx_none {α : Type} {p : α → Bool} {l : List α} (h : ∀ (j : Nat) (x : α), j < l.length → l[j]? = some x → p x = false) : fidx p l = -1 := by
  unfold fidx
  have : l.findIdx? p = none := by
    rw [List.findIdx?_eq_none_iff]
    intro x hx
    obtain ⟨j, hj⟩ := List.getElem?_of_mem hx
    exact h j x (List.getElem?_eq_some_iff.mp hj).1 hj
  rw [this]

theorem fidx_some {α : Type} {p : α → Bool} {l : List α} {i : Nat} {x : α} (hi : l[i]? = some x) (hp : p x = true) (h : ∀ (j : Nat) (x : α), j < i → l[j]? = some x → p x = false) : fidx p l = i := by
  unfold fidx
  have : l.findIdx? p = some i := by
    rw [List.findIdx?_eq_some_iff_getElem]
    obtain ⟨h1, h2⟩ := List.getElem?_eq_some_iff.mp hi
    refine ⟨h1, by rw [h2]; exact hp, fun j hj => ?_⟩
    have := h j l[j] hj (List.getElem?_eq_getElem (by omega))
    simp [this]
  rw [this]

theorem no_snoc {α : Type} {p : α → Bool} {l : List α} {i : Nat} {x : α} (h : ∀ (j : Nat) (x : α), j < i → l[j]? = some x → p x = false) (hi : l[i]? = some x) (hp : p x = false) : ∀ (j : Nat) (x : α), j < i + 1 → l[j]? = some x → p x = false := by
  intro j y hj hy
  by_cases e : j = i
  · subst e; rw [hi] at hy; cases hy; exact hp
  · exact h j y (by omega) hy

/-- A node that has a node below it. -/
def above (k : Int) (n : Nd) : Bool := !decide (n.f = -1) && (decide (n.l = k) || decide (n.r = k))

def par (t : List Nd) (k : Int) : Int := fidx (above k) t

theorem wS {i n : Nat} (h : i < n) (hn : n ≤ 9223372036854775807) : IntKind.i64.wrap ((i : Int) + 1) = (i : Int) + 1 := w64 (by omega) (by omega)

theorem R_spec_l17Up (t : List Nd) (k : Int) (hl : t.length ≤ 9223372036854775807) : RUN T k_spec_l17Up [.agg [.sl 5 (t.map nd)], iv k] = some ([iv (par t k)], []) := by
  refine RUN_W T_spec_l17Up rfl ?_
  simp [k_spec_l17Up_ic, k_spec_l17Up_rv]
  refine W_loop (fun n st => ∃ i : Nat, i + n = t.length ∧ st.V 1 = iv k ∧ st.V 2 = .ptr 0 none 0 0 0 ∧ st.V 5 = iv i ∧ st.S 0 = some (.box [.sl 5 (t.map nd)]) ∧ ∀ (j : Nat) (x : Nd), j < i → t[j]? = some x → above k x = false) ?_ t.length _ ⟨0, by simp⟩
  rintro n st ⟨i, hi, h1, h2, h5, hS, hj⟩
  simp [k_spec_l17Up_b0, h1, h2, h5, hS]
  refine Br_i (fun h => ?_) (fun h => ?_)
  · simp at h
    obtain ⟨x, hx⟩ : ∃ x, t[i]? = some x := ⟨_, List.getElem?_eq_getElem h⟩
    have hw := wS h hl
    simp [h1, h2, h5, hS, hx, nd, hw]
    refine Br_i (fun b0 => ?_) (fun b0 => ?_) <;> (try simp at b0) <;> simp [-getElem?_pos, b0, h1, h2, h5, hS, hx, nd, hw]
    all_goals try (refine Br_i (fun b1 => ?_) (fun b1 => ?_) <;> (try simp at b1) <;> simp [-getElem?_pos, b0, b1, h1, h2, h5, hS, hx, nd, hw])
    all_goals try (refine Br_i (fun b2 => ?_) (fun b2 => ?_) <;> (try simp at b2) <;> simp [-getElem?_pos, b0, b1, b2, h1, h2, h5, hS, hx, nd, hw])
    all_goals first
      | exact (fidx_some hx (by simp [above, *]) hj).symm
      | exact Rnd_n (n - 1) (by omega) ⟨i + 1, by omega, by simp [h1], by simp [h2], by simp, by simp [hS], no_snoc hj hx (by simp [above, *])⟩
  · simp at h
    simp [h]
    exact (fidx_none fun j x hl hx => hj j x (by omega) hx).symm

/-- How many nodes are above a node, if that many at most. -/
def lev (t : List Nd) : Nat → Int → Int
  | 0, _ => -1
  | n + 1, k => if par t k < 0 then 31 - n else lev t n (par t k)

theorem R_spec_LevelOf (t : List Nd) (k : Int) (hl : t.length ≤ 9223372036854775807) : RUN T k_spec_LevelOf [.agg [.sl 5 (t.map nd)], iv k] = some ([iv (if 0 ≤ k ∧ k ≤ t.length - 1 then lev t 32 k else -1)], []) := by
  refine RUN_W T_spec_LevelOf rfl ?_
  have hw : IntKind.i64.wrap ((t.length : Int) - 1) = (t.length : Int) - 1 := w64 (by omega) (by omega)
  simp [k_spec_LevelOf_ic, k_spec_LevelOf_rv, hw]
  refine Br_i (fun h => ?_) (fun h => ?_)
  · simp at h
    simp [h]
    intro h1 h2
    omega
  · have h' : (0 ≤ k ∧ k ≤ t.length - 1) := by simpa using h
    rw [if_pos h']
    clear h
    obtain ⟨r, hr⟩ : ∃ r, r = lev t 32 k := ⟨_, rfl⟩
    rw [← hr]
    simp
    refine W_loop (fun n st => ∃ i : Nat, i + n = 32 ∧ ∃ k' : Int, lev t n k' = r ∧ st.V 1 = iv k' ∧ st.V 2 = .ptr 0 none 0 0 0 ∧ st.V 5 = iv i ∧ st.S 0 = some (.box [.sl 5 (t.map nd)])) ?_ 32 _ ⟨0, by simp [hr]⟩
    rintro n st ⟨i, hi, k', hk, h1, h2, h5, hS⟩
    simp [k_spec_LevelOf_b0, h1, h2, h5, hS]
    refine Br_i (fun h => ?_) (fun h => ?_)
    · simp at h
      have hw : IntKind.i64.wrap ((i : Int) + 1) = (i : Int) + 1 := w64 (by omega) (by omega)
      obtain ⟨m, rfl⟩ : ∃ m, n = m + 1 := ⟨n - 1, by omega⟩
      simp only [lev] at hk
      simp [-getElem?_pos, h1, h2, h5, hS, hw, R_spec_l17Up t k' hl]
      refine Br_i (fun b0 => ?_) (fun b0 => ?_) <;> (try simp at b0) <;> simp [-getElem?_pos, b0, h1, h2, h5, hS, hw]
      · rw [if_pos b0] at hk; omega
      · rw [if_neg (by omega)] at hk
        exact Rnd_n m (by omega) ⟨i + 1, by omega, _, hk, by simp, by simp [h2], by simp, by simp [hS]⟩
    · simp at h
      obtain rfl : n = 0 := by omega
      simp only [lev] at hk
      simp [← hk]

def ints (l : List Int) : List (List PV) := l.map fun n => [iv n]

@[simp] theorem ints_len (l : List Int) : (ints l).length = l.length := by simp [ints]

theorem ints_get {l : List Int} {i : Nat} {x : Int} (h : l[i]? = some x) : (ints l)[i]? = some [iv x] := by simp [ints, h]

@[simp] theorem ints_nil : ints [] = [] := rfl

theorem ints_app (l m : List Int) : ints l ++ ints m = ints (l ++ m) := by simp [ints]

theorem ints_snoc (l : List Int) (x : Int) : ints l ++ [[iv x]] = ints (l ++ [x]) := by simp [ints]

theorem ints_allV (l : List Int) : allV (ints l) = true := by simp [allV, ints]

/-- The nodes above a node, from it on, if they are fewer than a number. -/
def anc (t : List Nd) : Nat → Int → Option (List Int)
  | 0, _ => none
  | n + 1, k => if par t k < 0 then some [] else (anc t n (par t k)).map (par t k :: ·)

theorem anc_s (t : List Nd) (n : Nat) (k : Int) : anc t (n + 1) k = if par t k < 0 then some [] else (anc t n (par t k)).map (par t k :: ·) := rfl

def way (t : List Nd) (k : Int) : List Int := if 0 ≤ k ∧ k ≤ t.length - 1 then match anc t 32 k with
    | some l => (k :: l).reverse
    | none => []
  else []

theorem room8 {n : Nat} (h : n ≤ 17592186044416) : roomFor 8 n = true := by simp [roomFor]; omega

theorem anc_le (t : List Nd) : ∀ (n : Nat) (k : Int) (l : List Int), anc t n k = some l → l.length < n
  | 0, k, l, h => by simp [anc] at h
  | n + 1, k, l, h => by
    rw [anc_s] at h
    split at h
    · cases h; simp
    · simp at h
      obtain ⟨m, hm, rfl⟩ := h
      have := anc_le t n _ m hm
      simp; omega

/-- The numbers from one on, so many. -/
def upto (k : Int) (n : Nat) : List Int := (List.range n).map fun (i : Nat) => k + (i : Int)

@[simp] theorem upto_len (k : Int) (n : Nat) : (upto k n).length = n := by simp [upto]

/-- The places of leaves, counted from a number on. -/
def lvs : List Nd → Int → List Int
  | [], _ => []
  | x :: xs, i => if x.f = -1 then i :: lvs xs (i + 1) else lvs xs (i + 1)

theorem lvs_len : ∀ (t : List Nd) (i : Int), (lvs t i).length ≤ t.length
  | [], _ => by simp [lvs]
  | x :: xs, i => by
    have := lvs_len xs (i + 1)
    simp only [lvs]
    split <;> simp <;> omega

theorem drop_cons {α : Type} {l : List α} {i : Nat} {x : α} (h : l[i]? = some x) : l.drop i = x :: l.drop (i + 1) := by
  obtain ⟨h1, h2⟩ := List.getElem?_eq_some_iff.mp h
  rw [List.drop_eq_getElem_cons h1, h2]

theorem R_spec_LeavesOf (t : List Nd) (hl : t.length ≤ 1048576) : RUN T k_spec_LeavesOf [.agg [.sl 5 (t.map nd)]] = some ([.own 1 (ints (lvs t 0))], []) := by
  refine RUN_W T_spec_LeavesOf rfl ?_
  simp [k_spec_LeavesOf_ic, k_spec_LeavesOf_rv]
  refine W_loop (fun n st => ∃ i : Nat, i + n = t.length ∧ ∃ (m : List Int) (o e : Nat), m ++ lvs (t.drop i) i = lvs t 0 ∧ st.V 1 = .ptr 0 none 0 0 0 ∧ st.V 3 = .ref o none e 0 m.length ∧ st.V 4 = iv i ∧ 0 < o ∧ o < st.nx ∧ st.S o = some (.row 1 (ints m)) ∧ st.S 0 = some (.box [.sl 5 (t.map nd)])) ?_ t.length _ ⟨0, by simp, [], 1, 0, by simp⟩
  rintro n st ⟨i, hi, m, o, e, hm, h1, h3, h4, ho, hox, hSo, hS⟩
  simp [k_spec_LeavesOf_b0, h1, h3, h4, hS]
  refine Br_i (fun h => ?_) (fun h => ?_)
  · simp at h
    obtain ⟨x, hx⟩ : ∃ x, t[i]? = some x := ⟨_, List.getElem?_eq_getElem h⟩
    have hw := wS h (by omega : t.length ≤ 9223372036854775807)
    have hr : roomFor 8 (m.length + 1) = true := room8 (by
      have h5 := congrArg List.length hm
      have h6 := lvs_len t 0
      simp at h5; omega)
    have n1 : ¬ o = st.nx := by omega
    have n2 : ¬ 0 = o := by omega
    have n3 : ¬ 0 = st.nx := by omega
    simp [-getElem?_pos, h1, h3, h4, hS, hSo, n1, n2, n3, hx, nd, hw, hr, ints_snoc]
    refine Br_i (fun b0 => ?_) (fun b0 => ?_) <;> (try simp at b0) <;> simp [-getElem?_pos, b0, h1, h3, h4, hS, hSo, n1, n2, n3, hx, hw, hr, ints_snoc]
    · refine Rnd_n (n - 1) (by omega) ⟨i + 1, by omega, m ++ [(i : Int)], st.nx + 1, st.ep, ?_, by simp [h1], by simp, by simp, by omega, by simp, by simp, by simp [n2, n3, hS]⟩
      rw [← hm, drop_cons hx, lvs, if_pos b0]; simp
    · refine Rnd_n (n - 1) (by omega) ⟨i + 1, by omega, m, o, e, ?_, by simp [h1], by simp [h3], by simp, by omega, by simp [hox], by simp [hSo], by simp [hS]⟩
      rw [← hm, drop_cons hx, lvs, if_neg b0]; simp
  · simp at h
    have e : m = lvs t 0 := by rw [← hm, List.drop_eq_nil_of_le h]; simp [lvs]
    simp [h3, hSo, e]

@[simp] theorem R_spec_l1Max (a b : Int) : RUN T k_spec_l1Max [iv a, iv b] = some ([iv (max a b)], []) := by
  refine RUN_W T_spec_l1Max rfl ?_
  simp [k_spec_l1Max_ic, k_spec_l1Max_rv]
  refine Br_i (fun b0 => ?_) (fun b0 => ?_) <;> (try simp at b0) <;> simp [-getElem?_pos, b0, ]
  all_goals omega

def levOf (t : List Nd) (k : Int) : Int := if 0 ≤ k ∧ k ≤ t.length - 1 then lev t 32 k else -1

theorem R_spec_LevelOf' (t : List Nd) (k : Int) (hl : t.length ≤ 9223372036854775807) : RUN T k_spec_LevelOf [.agg [.sl 5 (t.map nd)], iv k] = some ([iv (levOf t k)], []) := R_spec_LevelOf t k hl

/-- The greatest level of the first nodes. -/
def dpt (t : List Nd) : Nat → Int
  | 0 => -1
  | i + 1 => max (dpt t i) (levOf t i)

theorem R_spec_DepthOf (t : List Nd) (hl : t.length ≤ 9223372036854775807) : RUN T k_spec_DepthOf [.agg [.sl 5 (t.map nd)]] = some ([iv (dpt t t.length)], []) := by
  refine RUN_W T_spec_DepthOf rfl ?_
  simp [k_spec_DepthOf_ic, k_spec_DepthOf_rv]
  refine W_loop (fun n st => ∃ i : Nat, i + n = t.length ∧ st.V 1 = .ptr 0 none 0 0 0 ∧ st.V 3 = iv (dpt t i) ∧ st.V 4 = iv i ∧ st.S 0 = some (.box [.sl 5 (t.map nd)])) ?_ t.length _ ⟨0, by simp [dpt]⟩
  rintro n st ⟨i, hi, h1, h3, h4, hS⟩
  simp [k_spec_DepthOf_b0, h1, h3, h4, hS]
  refine Br_i (fun h => ?_) (fun h => ?_)
  · simp at h
    have hw := wS h hl
    simp [h1, h3, h4, hS, hw, R_spec_LevelOf' t i hl]
    exact Rnd_n (n - 1) (by omega) ⟨i + 1, by omega, by simp [h1], by simp [dpt], by simp, by simp [hS]⟩
  · simp at h
    obtain rfl : i = t.length := by omega
    simp [h3]

/-- The nodes that a row goes through. -/
def rt (t : List Nd) (row : List Int) : Nat → Int → Option (List Int)
  | 0, _ => none
  | n + 1, a => match (if 0 ≤ a then t[a.toNat]? else none) with
    | none => none
    | some x => if x.f = -1 then some [a] else match (if 0 ≤ x.f then row[x.f.toNat]? else none) with
      | none => none
      | some y => (rt t row n (if y ≤ x.c then x.l else x.r)).map (a :: ·)

theorem rt_out {t : List Nd} {row : List Int} {n : Nat} {a : Int} (h : a < 0 ∨ (t.length : Int) - 1 < a) : rt t row n a = none := by
  cases n with
  | zero => rfl
  | succ n =>
    rw [rt]
    have : (if 0 ≤ a then t[a.toNat]? else none) = none := by
      split
      · exact List.getElem?_eq_none (by omega)
      · rfl
    rw [this]

theorem rt_leaf {t : List Nd} {row : List Int} {n a : Nat} {x : Nd} (hx : t[a]? = some x) (h : x.f = -1) : rt t row (n + 1) a = some [(a : Int)] := by
  rw [rt]; simp [hx, h]

theorem rt_no {t : List Nd} {row : List Int} {n a : Nat} {x : Nd} (hx : t[a]? = some x) (h : x.f ≠ -1) (h2 : x.f < 0 ∨ (row.length : Int) - 1 < x.f) : rt t row (n + 1) a = none := by
  rw [rt]
  have : (if 0 ≤ x.f then row[x.f.toNat]? else none) = none := by
    split
    · exact List.getElem?_eq_none (by omega)
    · rfl
  simp [hx, h, this]

theorem rt_on {t : List Nd} {row : List Int} {n a f : Nat} {x : Nd} {y : Int} (hx : t[a]? = some x) (h : x.f = f) (hy : row[f]? = some y) : rt t row (n + 1) a = (rt t row n (if y ≤ x.c then x.l else x.r)).map ((a : Int) :: ·) := by
  rw [rt]
  have : x.f ≠ -1 := by omega
  simp [hx, this, h, hy]

def way2 (t : List Nd) (row : List Int) : List Int := (rt t row (t.length + 1) 0).getD []

theorem R_spec_l18Way (t : List Nd) (row : List Int) (hl : t.length ≤ 1048576) (hr : row.length ≤ 1048576) : RUN T k_spec_l18Way [.agg [.sl 5 (t.map nd)], .sl 1 (ints row)] = some ([.own 1 (ints (way2 t row))], []) := by
  refine RUN_W T_spec_l18Way rfl ?_
  simp [k_spec_l18Way_ic, k_spec_l18Way_rv]
  obtain ⟨r, hrr⟩ : ∃ r, r = rt t row (t.length + 1) 0 := ⟨_, rfl⟩
  unfold way2
  rw [← hrr]
  refine W_loop (fun n st => ∃ i : Nat, i + n = t.length + 1 ∧ ∃ (a : Int) (m : List Int) (o e : Nat), m.length = i ∧ (rt t row n a).map (m ++ ·) = r ∧ st.V 1 = .sl 1 (ints row) ∧ st.V 2 = .ptr 0 none 0 0 0 ∧ st.V 5 = .ref o none e 0 m.length ∧ st.V 6 = iv a ∧ st.V 7 = iv i ∧ 0 < o ∧ o < st.nx ∧ st.S o = some (.row 1 (ints m)) ∧ st.S 0 = some (.box [.sl 5 (t.map nd)])) ?_ (t.length + 1) _ ⟨0, by simp, 0, [], 1, 0, by simp [hrr]⟩
  rintro n st ⟨i, hi, a, m, o, e, hmi, hm, h1, h2, h5, h6, h7, ho, hox, hSo, hS⟩
  simp [k_spec_l18Way_b0, h1, h2, h5, h6, h7, hS]
  refine Br_i (fun h => ?_) (fun h => ?_)
  · simp at h
    obtain ⟨q, rfl⟩ : ∃ q, n = q + 1 := ⟨n - 1, by omega⟩
    have hw := w64 (x := (t.length : Int) - 1) (by omega) (by omega)
    have hwi := w64 (x := (i : Int) + 1) (by omega) (by omega)
    have hwr := w64 (x := (row.length : Int) - 1) (by omega) (by omega)
    simp [h1, h2, h5, h6, h7, hS, hw]
    refine Br_i (fun h3 => ?_) (fun h3 => ?_)
    · simp at h3
      rw [rt_out h3] at hm
      simp at hm
      simp [← hm]
    · have h3' : 0 ≤ a ∧ a ≤ (t.length : Int) - 1 := by simpa using h3
      obtain ⟨a, rfl⟩ : ∃ a' : Nat, a = a' := ⟨a.toNat, by omega⟩
      obtain ⟨x, hx⟩ : ∃ x, t[a]? = some x := ⟨_, List.getElem?_eq_getElem (by omega)⟩
      have z1 := fr hox
      have z2 := fr ho
      have z3 := fr (by omega : 0 < st.nx)
      have hr8 := room8 (n := m.length + 1) (by omega)
      simp [-getElem?_pos, h1, h2, h5, h6, h7, hS, hSo, z1, z2, z3, hx, nd, hr8, ints_snoc, hwr]
      refine Br_i (fun h4 => ?_) (fun h4 => ?_)
      · simp at h4
        rw [rt_leaf hx h4] at hm
        simp at hm
        simp [← hm]
      · simp at h4
        simp [-getElem?_pos, h1, h2, h5, h6, h7, hS, hSo, z1, z2, z3, hx, hr8, ints_snoc, hwr]
        refine Br_i (fun h8 => ?_) (fun h8 => ?_)
        · simp at h8
          rw [rt_no hx h4 h8] at hm
          simp at hm
          simp [← hm]
        · have h8' : 0 ≤ x.f ∧ x.f ≤ (row.length : Int) - 1 := by simpa using h8
          obtain ⟨f, hf⟩ : ∃ f : Nat, x.f = f := ⟨x.f.toNat, by omega⟩
          obtain ⟨y, hy⟩ : ∃ y, row[f]? = some y := ⟨_, List.getElem?_eq_getElem (by omega)⟩
          have hfl : f < row.length := by omega
          rw [rt_on hx hf hy] at hm
          have hy' := ints_get hy
          simp [-getElem?_pos, h1, h2, h5, h6, h7, hS, hSo, z1, z2, z3, hr8, ints_snoc, hwr, hf, hy', hfl, hwi]
          refine Br_i (fun b0 => ?_) (fun b0 => ?_) <;> (try simp at b0) <;> simp [-getElem?_pos, b0, h1, h2, h5, h6, h7, hS, hSo, z1, z2, z3, hf, hwi]
          all_goals
            refine Rnd_n q (by omega) ⟨i + 1, by omega, _, m ++ [(a : Int)], st.nx + 2, st.ep, by simp [hmi], ?_, by simp [h1], by simp [h2], by simp, by simp; rfl, by simp, by omega, by simp, by simp, by simp [z2, z3, hS]⟩
            rw [← hm]
            first | rw [if_pos b0] | rw [if_neg (by omega)]
            simp [Function.comp_def]
  · simp at h
    obtain rfl : n = 0 := by omega
    simp [rt] at hm
    simp [← hm]

theorem R_impl_route (t : List Nd) (row : List Int) (hl : t.length ≤ 1048576) (hr : row.length ≤ 1048576) : RUN T k_impl_route [.agg [.sl 5 (t.map nd)], .sl 1 (ints row)] = some ([.own 1 (ints (way2 t row))], []) := by
  refine RUN_W T_impl_route rfl ?_
  have hw1 := w64 (x := (t.length : Int) + 1) (by omega) (by omega)
  simp [k_impl_route_ic, k_impl_route_rv, hw1]
  obtain ⟨r, hrr⟩ : ∃ r, r = rt t row (t.length + 1) 0 := ⟨_, rfl⟩
  unfold way2
  rw [← hrr]
  refine W_loop (fun n st => ∃ i : Nat, i + n = t.length + 1 ∧ ∃ (a : Int) (m : List Int) (o e : Nat), m.length = i ∧ (rt t row n a).map (m ++ ·) = r ∧ st.V 1 = .sl 1 (ints row) ∧ st.V 2 = .ptr 0 none 0 0 0 ∧ st.V 5 = .ref o none e 0 m.length ∧ st.V 6 = iv a ∧ st.V 13 = iv i ∧ st.V 12 = iv ((t.length : Int) + 1) ∧ 0 < o ∧ o < st.nx ∧ st.S o = some (.row 1 (ints m)) ∧ st.S 0 = some (.box [.sl 5 (t.map nd)])) ?_ (t.length + 1) _ ⟨0, by simp, 0, [], 1, 0, by simp [hrr]⟩
  rintro n st ⟨i, hi, a, m, o, e, hmi, hm, h1, h2, h5, h6, h13, h12, ho, hox, hSo, hS⟩
  simp [k_impl_route_b0, h13, h12]
  refine Br_i (fun h => ?_) (fun h => ?_)
  · simp at h
    obtain ⟨q, rfl⟩ : ∃ q, n = q + 1 := ⟨n - 1, by omega⟩
    have hw := w64 (x := (t.length : Int) - 1) (by omega) (by omega)
    have hwi := w64 (x := (i : Int) + 1) (by omega) (by omega)
    have hwr := w64 (x := (row.length : Int) - 1) (by omega) (by omega)
    simp [h1, h2, h5, h6, hS, hw]
    refine Br_i (fun h3 => ?_) (fun h3 => ?_)
    · simp at h3
      rw [rt_out h3] at hm
      simp at hm
      simp [← hm]
    · have h3' : 0 ≤ a ∧ a ≤ (t.length : Int) - 1 := by simpa using h3
      obtain ⟨a, rfl⟩ : ∃ a' : Nat, a = a' := ⟨a.toNat, by omega⟩
      obtain ⟨x, hx⟩ : ∃ x, t[a]? = some x := ⟨_, List.getElem?_eq_getElem (by omega)⟩
      have z1 := fr hox
      have z2 := fr ho
      have z3 := fr (by omega : 0 < st.nx)
      have hr8 := room8 (n := m.length + 1) (by omega)
      simp [-getElem?_pos, h1, h2, h5, h6, hS, hSo, z1, z2, z3, hx, nd, hr8, ints_snoc, hwr]
      refine Br_i (fun h4 => ?_) (fun h4 => ?_)
      · simp at h4
        rw [rt_leaf hx h4] at hm
        simp at hm
        simp [← hm]
      · simp at h4
        simp [-getElem?_pos, h1, h2, h5, h6, hS, hSo, z1, z2, z3, hx, hr8, ints_snoc, hwr]
        refine Br_i (fun h8 => ?_) (fun h8 => ?_)
        · simp at h8
          rw [rt_no hx h4 h8] at hm
          simp at hm
          simp [← hm]
        · have h8' : 0 ≤ x.f ∧ x.f ≤ (row.length : Int) - 1 := by simpa using h8
          obtain ⟨f, hf⟩ : ∃ f : Nat, x.f = f := ⟨x.f.toNat, by omega⟩
          obtain ⟨y, hy⟩ : ∃ y, row[f]? = some y := ⟨_, List.getElem?_eq_getElem (by omega)⟩
          have hfl : f < row.length := by omega
          rw [rt_on hx hf hy] at hm
          have hy' := ints_get hy
          simp [-getElem?_pos, h1, h2, h5, h6, h13, h12, hS, hSo, z1, z2, z3, hr8, ints_snoc, hwr, hf, hy', hfl, hwi]
          refine Br_i (fun b0 => ?_) (fun b0 => ?_) <;> (try simp at b0) <;> simp [-getElem?_pos, b0, h1, h2, h5, h6, h13, h12, hS, hSo, z1, z2, z3, hf, hwi]
          all_goals
            refine Rnd_n q (by omega) ⟨i + 1, by omega, _, m ++ [(a : Int)], st.nx + 2, st.ep, by simp [hmi], ?_, by simp [h1], by simp [h2], by simp, by simp; rfl, by simp, by simp [h12], by omega, by simp, by simp, by simp [z2, z3, hS]⟩
            rw [← hm]
            first | rw [if_pos b0] | rw [if_neg (by omega)]
            simp [Function.comp_def]
  · simp at h
    obtain rfl : n = 0 := by omega
    simp [rt] at hm
    simp [← hm]

theorem rt_len (t : List Nd) (row : List Int) : ∀ (n : Nat) (a : Int) (l : List Int), rt t row n a = some l → l.length ≤ n ∧ l ≠ [] ∧ ∀ k ∈ l, 0 ≤ k ∧ k < t.length
  | 0, _, _, h => by cases h
  | n + 1, a, l, h => by
    rw [rt] at h
    have ha : ∀ x, (if 0 ≤ a then t[a.toNat]? else none) = some x → 0 ≤ a ∧ a < t.length := by
      intro x hx
      split at hx
      · have := (List.getElem?_eq_some_iff.mp hx).1; omega
      · cases hx
    split at h
    · cases h
    · rename_i x hx
      have hax := ha x hx
      split at h
      · cases h; simpa using hax
      · split at h
        · cases h
        · simp only [Option.map_eq_some_iff] at h
          obtain ⟨m, hm, rfl⟩ := h
          have := rt_len t row n _ m hm
          refine ⟨by simp; omega, by simp, fun k hk => ?_⟩
          rcases List.mem_cons.mp hk with e | e
          · subst e; exact hax
          · exact this.2.2 k e

theorem way2_len (t : List Nd) (row : List Int) : (way2 t row).length ≤ t.length + 1 ∧ ∀ k ∈ way2 t row, 0 ≤ k ∧ k < t.length := by
  unfold way2
  cases h : rt t row (t.length + 1) 0 with
  | none => simp
  | some l => have := rt_len t row _ _ l h; exact ⟨this.1, this.2.2⟩

def inI (n : Int) : Prop := -9223372036854775808 ≤ n ∧ n ≤ 9223372036854775807

/-- A node, those above it behind it. -/
def Chn (t : List Nd) : List Int → Int → Prop
  | [], c => c < 0
  | x :: xs, c => x = c ∧ 0 ≤ c ∧ Chn t xs (par t c)

theorem anc_chn (t : List Nd) : ∀ (n : Nat) (k : Int) (l : List Int), 0 ≤ k → anc t n k = some l → Chn t (k :: l) k
  | 0, k, l, _, h => by cases h
  | n + 1, k, l, h0, h => by
    rw [anc_s] at h
    split at h
    · rename_i hc
      cases h
      exact ⟨rfl, h0, hc⟩
    · simp at h
      obtain ⟨m, hm, rfl⟩ := h
      exact ⟨rfl, h0, anc_chn t n _ m (by omega) hm⟩

theorem par_range (t : List Nd) (k : Int) : par t k = -1 ∨ 0 ≤ par t k ∧ par t k < t.length := by
  unfold par fidx
  split
  · rename_i i hi
    have := (List.findIdx?_eq_some_iff_getElem.mp hi).1
    right; omega
  · exact .inl rfl

/-- The range of a feature's values along a way. -/
def box (t : List Nd) (f : Int) : List Int → Int → Int → Int × Int
  | a :: b :: r, lo, hi => match t[a.toNat]? with
    | none => (lo, hi)
    | some x => if x.f = f then (if x.l = b then box t f (b :: r) lo (min hi x.c) else if x.c = 9223372036854775807 then box t f (b :: r) lo hi else box t f (b :: r) (max lo (x.c + 1)) hi) else box t f (b :: r) lo hi
  | _, lo, hi => (lo, hi)

theorem fidx_neg {α : Type} {p : α → Bool} {l : List α} : decide (0 ≤ fidx p l) = l.any p := by
  unfold fidx
  cases h : l.findIdx? p with
  | none =>
    rw [List.findIdx?_eq_none_iff] at h
    simp
    exact fun x hx => h x hx
  | some i =>
    obtain ⟨h1, h2, _⟩ := List.findIdx?_eq_some_iff_getElem.mp h
    simp
    exact ⟨_, List.getElem_mem h1, h2⟩

def within (n a b : Int) : Bool := decide (a ≤ n) && decide (n ≤ b)

theorem R_spec_l1In' (a b c : Int) : RUN T k_spec_l1In [iv a, iv b, iv c] = some ([bv (within a b c)], []) := R_spec_l1In a b c

theorem within_iff {n a b : Int} : within n a b = true ↔ a ≤ n ∧ n ≤ b := by simp [within]

def leafV (v : Int) : Bool := within v (-1099511627776) 1099511627776

@[simp] theorem R_spec_l14Leaf (v : Int) : RUN T k_spec_l14Leaf [iv v] = some ([bv (leafV v)], []) := by
  refine RUN_W T_spec_l14Leaf rfl ?_
  simp [k_spec_l14Leaf_ic, k_spec_l14Leaf_rv, leafV, within]

theorem eqP_5 (a b c d e a' b' c' d' e' : Int) : eqP [.i .i64, .i .i64, .i .i64, .i .i64, .i .i64] (.agg [iv a, iv b, iv c, iv d, iv e]) (.agg [iv a', iv b', iv c', iv d', iv e']) = some (decide (a = a' ∧ b = b' ∧ c = c' ∧ d = d' ∧ e = e')) := by
  simp only [eqP, eqCells, eqV_i, Option.bind_some]
  by_cases h1 : a = a' <;> by_cases h2 : b = b' <;> by_cases h3 : c = c' <;> by_cases h4 : d = d' <;> by_cases h5 : e = e' <;> simp [h1, h2, h3, h4, h5]

def decV (n : Int) : Bool := within n (-2147483647) 2147483647

@[simp] theorem R_spec_l6Value (v : Int) : RUN T k_spec_l6Value [iv v] = some ([bv (decV v)], []) := by
  refine RUN_W T_spec_l6Value rfl ?_
  simp [k_spec_l6Value_ic, k_spec_l6Value_rv, decV, within]

/-- The nodes are listed level by level: the number of the next child, at the end. -/
def shp (F : Int) : List Nd → Int → Int → Option Int
  | [], _, n => some n
  | x :: xs, i, n =>
    if x.f = -1 then (if (x.c = 0 ∧ x.l = 0 ∧ x.r = 0) ∧ leafV x.v = true then shp F xs (i + 1) n else none)
    else if within x.f 0 (F - 1) = true ∧ decV x.c = true ∧ x.v = 0 ∧ x.l = n ∧ x.r = n + 1 ∧ i < n then shp F xs (i + 1) (n + 2) else none

def shapeB (t : List Nd) (F : Int) : Bool := match shp F t 0 1 with
  | some n => decide (n = t.length)
  | none => false

set_option maxHeartbeats 1000000 in
theorem R_spec_l17Shape (t : List Nd) (F : Int) (hl : t.length ≤ 1048576) (hF : 0 ≤ F ∧ F ≤ 4) : RUN T k_spec_l17Shape [.agg [.sl 5 (t.map nd)], iv F] = some ([bv (shapeB t F)], []) := by
  refine RUN_W T_spec_l17Shape rfl ?_
  simp [k_spec_l17Shape_ic, k_spec_l17Shape_rv]
  have hwF := w64 (x := F - 1) (by omega) (by omega)
  refine W_loop (fun n st => ∃ i : Nat, i + n = t.length ∧ ∃ k : Nat, k ≤ i ∧ shp F (t.drop i) i (1 + 2 * k) = shp F t 0 1 ∧ st.V 1 = iv F ∧ st.V 2 = .ptr 0 none 0 0 0 ∧ st.V 5 = iv (1 + 2 * k) ∧ st.V 6 = iv i ∧ 0 < st.nx ∧ st.S 0 = some (.box [.sl 5 (t.map nd)])) ?_ t.length _ ⟨0, by simp, 0, by simp⟩
  rintro n st ⟨i, hi, k, hk, hr, h1, h2, h5, h6, hnx, hS⟩
  simp [k_spec_l17Shape_b0, h2, h6, hS]
  have z := fr hnx
  refine Br_i (fun h => ?_) (fun h => ?_)
  · simp at h
    obtain ⟨x, hx⟩ : ∃ x, t[i]? = some x := ⟨_, List.getElem?_eq_getElem h⟩
    have hw := wS h (by omega : t.length ≤ 9223372036854775807)
    have hw1 := w64 (x := 1 + 2 * (k : Int) + 1) (by omega) (by omega)
    have hw2 := w64 (x := 1 + 2 * (k : Int) + 2) (by omega) (by omega)
    rw [drop_cons hx, shp] at hr
    simp [-getElem?_pos, h1, h2, h5, h6, hS, hx, nd, z]
    refine Br_i (fun h3 => ?_) (fun h3 => ?_)
    · simp at h3
      rw [if_pos h3] at hr
      by_cases hc : x.c = 0 ∧ x.l = 0 ∧ x.r = 0
      · have hc' := eq_true hc
        simp [-getElem?_pos, h1, h2, h5, h6, hS, z, h3, eqP_5, hc']
        cases hv : leafV x.v with
        | false =>
          rw [if_neg (by simp [hv])] at hr
          simp [shapeB, ← hr]
        | true =>
          rw [if_pos ⟨hc, hv⟩] at hr
          simp [-getElem?_pos, h1, h2, h5, h6, hS, z, hw]
          exact Rnd_n (n - 1) (by omega) ⟨i + 1, by omega, k, by omega, by simpa using hr, by simp [h1], by simp [h2], by simp [h5], by simp, by simp, by simp [z, hS]⟩
      · have hc' := eq_false hc
        rw [if_neg (fun h => hc h.1)] at hr
        simp [-getElem?_pos, h1, h2, h5, h6, hS, z, h3, eqP_5, hc']
        simp [shapeB, ← hr]
    · simp at h3
      rw [if_neg h3] at hr
      simp [-getElem?_pos, h1, h2, h5, h6, hS, z, h3, hwF, R_spec_l1In', -R_spec_l1In]
      by_cases hc : within x.f 0 (F - 1) = true ∧ decV x.c = true ∧ x.v = 0 ∧ x.l = 1 + 2 * (k : Int) ∧ x.r = 1 + 2 * (k : Int) + 1 ∧ (i : Int) < 1 + 2 * (k : Int)
      · rw [if_pos hc] at hr
        obtain ⟨c1, c2, c3, c4, c5, c6⟩ := hc
        have c7 : ¬ (1 + 2 * (k : Int) ≤ i) := by omega
        simp [-getElem?_pos, h1, h2, h5, h6, hS, z, h3, hwF, c1, c2, c3, c4, c5, c7, hw, hw1, hw2]
        exact Rnd_n (n - 1) (by omega) ⟨i + 1, by omega, k + 1, by omega, by rw [← hr]; congr 1, by simp [h1], by simp [h2], by simp; omega, by simp, by simp, by simp [z, hS]⟩
      · rw [if_neg hc] at hr
        have e0 : shapeB t F = false := by simp [shapeB, ← hr]
        rw [e0]
        refine Br_i (fun b0 => ?_) (fun b0 => ?_) <;> (try simp at b0) <;> simp [-getElem?_pos, b0, h1, h2, h5, h6, hS, z, h3, hwF, hw1]
        all_goals try (refine Br_i (fun b1 => ?_) (fun b1 => ?_) <;> (try simp at b1) <;> simp [-getElem?_pos, b0, b1, h1, h2, h5, h6, hS, z, h3, hwF, hw1])
        all_goals try (refine Br_i (fun b2 => ?_) (fun b2 => ?_) <;> (try simp at b2) <;> simp [-getElem?_pos, b0, b1, b2, h1, h2, h5, h6, hS, z, h3, hwF, hw1])
        all_goals try (refine Br_i (fun b3 => ?_) (fun b3 => ?_) <;> (try simp at b3) <;> simp [-getElem?_pos, b0, b1, b2, b3, h1, h2, h5, h6, hS, z, h3, hwF, hw1])
        all_goals try (refine Br_i (fun b4 => ?_) (fun b4 => ?_) <;> (try simp at b4) <;> simp [-getElem?_pos, b0, b1, b2, b3, b4, h1, h2, h5, h6, hS, z, h3, hwF, hw1])
        all_goals try (refine Br_i (fun b5 => ?_) (fun b5 => ?_) <;> (try simp at b5) <;> simp [-getElem?_pos, b0, b1, b2, b3, b4, b5, h1, h2, h5, h6, hS, z, h3, hwF, hw1])
        exact (hc ⟨b0, b1, b2, b3, b4, by omega⟩).elim
  · simp at h
    rw [List.drop_eq_nil_of_le h, shp] at hr
    unfold shapeB
    rw [← hr]
    simp [h5, hS, h2]

structure InnerOk (F : Int) (x : Nd) (i n m : Int) : Prop where
  lo : n ≤ x.l
  lt : i < x.l
  r : x.r = x.l + 1
  hi : x.r < m
  f : 0 ≤ x.f ∧ x.f ≤ F - 1
  c : decV x.c = true
  v : x.v = 0

theorem shp_facts (F : Int) : ∀ (l : List Nd) (i n m : Int), shp F l i n = some m → n ≤ m ∧
    (∀ (j : Nat) (x : Nd), l[j]? = some x → x.f = -1 → x.c = 0 ∧ x.l = 0 ∧ x.r = 0 ∧ leafV x.v = true) ∧
    (∀ (j : Nat) (x : Nd), l[j]? = some x → x.f ≠ -1 → InnerOk F x (i + j) n m) ∧
    (∀ (j j' : Nat) (x y : Nd), j < j' → l[j]? = some x → l[j']? = some y → x.f ≠ -1 → y.f ≠ -1 → x.r < y.l) ∧
    (∀ k : Int, n ≤ k → k < m → ∃ (j : Nat) (x : Nd), l[j]? = some x ∧ x.f ≠ -1 ∧ (x.l = k ∨ x.r = k))
  | [], i, n, m, h => by
    simp only [shp, Option.some.injEq] at h
    subst h
    exact ⟨Int.le_refl _, by simp, by simp, by simp, fun k h1 h2 => by omega⟩
  | x :: xs, i, n, m, h => by
    rw [shp] at h
    split at h
    · rename_i hf
      split at h
      · rename_i hc
        obtain ⟨h1, h2, h3, h4, h5⟩ := shp_facts F xs (i + 1) n m h
        refine ⟨h1, fun j y hj hy => ?_, fun j y hj hy => ?_, fun j j' y z hjj hj hj' hy hz => ?_, fun k hk1 hk2 => ?_⟩
        · cases j with
          | zero => simp at hj; subst hj; exact ⟨hc.1.1, hc.1.2.1, hc.1.2.2, hc.2⟩
          | succ j => exact h2 j y (by simpa using hj) hy
        · cases j with
          | zero => simp at hj; subst hj; exact (hy hf).elim
          | succ j =>
            have := h3 j y (by simpa using hj) hy
            exact ⟨this.lo, by have := this.lt; push_cast; omega, this.r, this.hi, this.f, this.c, this.v⟩
        · cases j' with
          | zero => omega
          | succ j' =>
            cases j with
            | zero => simp at hj; subst hj; exact (hy hf).elim
            | succ j => exact h4 j j' y z (by omega) (by simpa using hj) (by simpa using hj') hy hz
        · obtain ⟨j, y, hj, hy⟩ := h5 k hk1 hk2
          exact ⟨j + 1, y, by simpa using hj, hy⟩
      · cases h
    · rename_i hf
      split at h
      · rename_i hc
        obtain ⟨c1, c2, c3, c4, c5, c6⟩ := hc
        have c1' := within_iff.mp c1
        obtain ⟨h1, h2, h3, h4, h5⟩ := shp_facts F xs (i + 1) (n + 2) m h
        refine ⟨by omega, fun j y hj hy => ?_, fun j y hj hy => ?_, fun j j' y z hjj hj hj' hy hz => ?_, fun k hk1 hk2 => ?_⟩
        · cases j with
          | zero => simp at hj; subst hj; exact (hf hy).elim
          | succ j => exact h2 j y (by simpa using hj) hy
        · cases j with
          | zero => simp at hj; subst hj; exact ⟨by omega, by simp; omega, by omega, by omega, c1', c2, c3⟩
          | succ j =>
            have := h3 j y (by simpa using hj) hy
            exact ⟨by have := this.lo; omega, by have := this.lt; push_cast; omega, this.r, this.hi, this.f, this.c, this.v⟩
        · cases j' with
          | zero => omega
          | succ j' =>
            cases j with
            | zero =>
              simp at hj; subst hj
              have := (h3 j' z (by simpa using hj') hz).lo
              omega
            | succ j => exact h4 j j' y z (by omega) (by simpa using hj) (by simpa using hj') hy hz
        · by_cases hkn : k < n + 2
          · exact ⟨0, x, rfl, hf, by omega⟩
          · obtain ⟨j, y, hj, hy⟩ := h5 k (by omega) hk2
            exact ⟨j + 1, y, by simpa using hj, hy⟩
      · cases h

/-- What a tree is whose shape is right. -/
structure Shaped (t : List Nd) (F : Int) : Prop where
  leaf : ∀ (j : Nat) (x : Nd), t[j]? = some x → x.f = -1 → x.c = 0 ∧ x.l = 0 ∧ x.r = 0 ∧ leafV x.v = true
  inner : ∀ (j : Nat) (x : Nd), t[j]? = some x → x.f ≠ -1 → InnerOk F x j 1 t.length
  ord : ∀ (j j' : Nat) (x y : Nd), j < j' → t[j]? = some x → t[j']? = some y → x.f ≠ -1 → y.f ≠ -1 → x.r < y.l
  cover : ∀ k : Int, 1 ≤ k → k < t.length → ∃ (j : Nat) (x : Nd), t[j]? = some x ∧ x.f ≠ -1 ∧ (x.l = k ∨ x.r = k)
  pos : 1 ≤ t.length

theorem shaped_of {t : List Nd} {F : Int} (h : shapeB t F = true) : Shaped t F := by
  unfold shapeB at h
  split at h
  · rename_i n hn
    simp at h
    subst h
    obtain ⟨h1, h2, h3, h4, h5⟩ := shp_facts F t 0 1 _ hn
    exact ⟨h2, fun j x hj hx => by simpa using h3 j x hj hx, h4, h5, by omega⟩
  · cases h

theorem above_iff {k : Int} {x : Nd} : above k x = true ↔ x.f ≠ -1 ∧ (x.l = k ∨ x.r = k) := by simp [above]

theorem Shaped.par_of {t : List Nd} {F : Int} (h : Shaped t F) {i : Nat} {x : Nd} (hx : t[i]? = some x) (hf : x.f ≠ -1) {k : Int} (hk : x.l = k ∨ x.r = k) : par t k = i := by
  unfold par
  refine fidx_some hx (above_iff.mpr ⟨hf, hk⟩) fun j y hj hy => ?_
  cases ha : above k y with
  | false => rfl
  | true =>
    obtain ⟨hyf, hyk⟩ := above_iff.mp ha
    have h1 := h.ord j i y x hj hy hx hyf hf
    have h2 := (h.inner j y hy hyf).r
    have h3 := (h.inner i x hx hf).r
    omega

theorem Shaped.par_lt {t : List Nd} {F : Int} (h : Shaped t F) (k : Int) : par t k < 0 ∨ ∃ (i : Nat) (x : Nd), par t k = i ∧ t[i]? = some x ∧ x.f ≠ -1 ∧ (x.l = k ∨ x.r = k) ∧ (i : Int) < k ∧ k < t.length := by
  rcases par_range t k with h1 | h1
  · left; omega
  · obtain ⟨i, hi⟩ : ∃ i : Nat, par t k = i := ⟨(par t k).toNat, by omega⟩
    right
    have hil : i < t.length := by omega
    have hx := List.getElem?_eq_getElem hil
    refine ⟨i, t[i], hi, hx, ?_⟩
    have ha : above k t[i] = true := by
      unfold par fidx at hi
      split at hi
      · rename_i j hj
        obtain ⟨h2, h3, _⟩ := List.findIdx?_eq_some_iff_getElem.mp hj
        have : j = i := by omega
        subst this; exact h3
      · omega
    obtain ⟨hf, hk⟩ := above_iff.mp ha
    have := h.inner i _ hx hf
    have h2 := this.lt
    have h3 := this.r
    have h4 := this.hi
    exact ⟨hf, hk, by omega, by omega⟩

theorem Shaped.anc {t : List Nd} {F : Int} (h : Shaped t F) : ∀ (n : Nat) (k : Int), k < n → 0 < n → ∃ l, anc t n k = some l
  | 0, _, _, h0 => by omega
  | n + 1, k, hk, _ => by
    rw [anc_s]
    split
    · exact ⟨[], rfl⟩
    · rename_i hp
      rcases h.par_lt k with h1 | ⟨i, x, h1, _, _, _, h2, _⟩
      · omega
      · obtain ⟨l, hl⟩ := h.anc n (par t k) (by omega) (by omega)
        exact ⟨_, by rw [hl]; rfl⟩

/-- Two beside each other in a list. -/
def adj (p : Int → Int → Bool) : List Int → Bool
  | a :: b :: r => p a b || adj p (b :: r)
  | _ => false

theorem adj_snoc (p : Int → Int → Bool) : ∀ (l : List Int) (a b : Int), adj p (l ++ [a, b]) = (adj p (l ++ [a]) || p a b)
  | [], a, b => by simp [adj]
  | [x], a, b => by simp [adj]
  | x :: y :: r, a, b => by
    have := adj_snoc p (y :: r) a b
    simp only [List.cons_append, adj] at this ⊢
    rw [this, Bool.or_assoc]

theorem adj_reverse (p : Int → Int → Bool) : ∀ l : List Int, adj p l.reverse = adj (fun a b => p b a) l
  | [] => rfl
  | [x] => rfl
  | x :: y :: r => by
    have := adj_reverse p (y :: r)
    rw [adj, ← this]
    simp only [List.reverse_cons, List.append_assoc, List.cons_append, List.nil_append]
    rw [adj_snoc, Bool.or_comm]

/-- A cut that does not part what comes to a node. -/
def badP (t : List Nd) (n : Nd) (a b : Int) : Bool := match t[a.toNat]? with
  | none => false
  | some x => decide (x.f = n.f) && ((decide (x.r = b) && decide (n.c ≤ x.c)) || (decide (x.l = b) && decide (x.c ≤ n.c)))

def wayOkB (t : List Nd) (i : Nat) : Bool := match t[i]? with
  | none => true
  | some x => decide (x.f = -1) || !adj (badP t x) (way t i)

def waysB (t : List Nd) : Bool := (List.range t.length).all (wayOkB t)

def treeB (t : List Nd) (F : Int) : Bool := within F 0 4 && within t.length 1 31 && shapeB t F && decide (dpt t t.length ≤ 4) && waysB t

theorem Shaped.way {t : List Nd} {F : Int} (h : Shaped t F) (hl : t.length ≤ 31) {i : Nat} (hi : i < t.length) : ∃ l, Pe.way t i = ((i : Int) :: l).reverse ∧ Chn t l (par t i) ∧ l.length ≤ 31 := by
  obtain ⟨l, ha⟩ := h.anc 32 i (by omega) (by omega)
  have hc := anc_chn t 32 i l (by omega) ha
  have hle := anc_le t 32 i l ha
  refine ⟨l, ?_, hc.2.2, by omega⟩
  unfold Pe.way
  rw [if_pos (by omega), ha]

theorem badP_eq {t : List Nd} {a : Nat} {z : Nd} (h : t[a]? = some z) (n : Nd) (b : Int) : badP t n a b = (decide (z.f = n.f) && ((decide (z.r = b) && decide (n.c ≤ z.c)) || (decide (z.l = b) && decide (z.c ≤ n.c)))) := by
  simp [badP, h]

theorem wayOkB_eq {t : List Nd} {i : Nat} {x : Nd} (h : t[i]? = some x) : wayOkB t i = (decide (x.f = -1) || !adj (badP t x) (way t i)) := by simp [wayOkB, h]

theorem waysB_iff {t : List Nd} : waysB t = true ↔ ∀ j : Nat, j < t.length → wayOkB t j = true := by
  simp [waysB]

theorem waysB_no {t : List Nd} {i : Nat} (hi : i < t.length) (h : wayOkB t i = false) : waysB t = false := by
  cases e : waysB t with
  | false => rfl
  | true => rw [waysB_iff.mp e i hi] at h; cases h

set_option maxHeartbeats 1000000 in
theorem R_spec_l17Ways (t : List Nd) (F : Int) (hl : t.length ≤ 31) (hs : Shaped t F) : RUN T k_spec_l17Ways [.agg [.sl 5 (t.map nd)]] = some ([bv (waysB t)], []) := by
  refine RUN_W T_spec_l17Ways rfl ?_
  simp [k_spec_l17Ways_ic, k_spec_l17Ways_rv]
  refine W_loop (fun n st => ∃ i : Nat, i + n = t.length ∧ (∀ j : Nat, j < i → wayOkB t j = true) ∧ st.V 1 = .ptr 0 none 0 0 0 ∧ st.V 3 = iv i ∧ 0 < st.nx ∧ st.S 0 = some (.box [.sl 5 (t.map nd)])) ?_ t.length _ ⟨0, by simp⟩
  rintro n st ⟨i, hi, hk, h1, h3, hnx, hS⟩
  simp [k_spec_l17Ways_b1, h1, h3, hS]
  have z := fr hnx
  refine Br_i (fun h => ?_) (fun h => ?_)
  · simp at h
    obtain ⟨x, hx⟩ : ∃ x, t[i]? = some x := ⟨_, List.getElem?_eq_getElem h⟩
    have hw := wS h (by omega : t.length ≤ 9223372036854775807)
    have hup := fun k => R_spec_l17Up t k (by omega)
    obtain ⟨l, hway, hchn, hll⟩ := hs.way hl h
    simp [-getElem?_pos, h1, h3, hS, hx, z, nd]
    refine Br_i (fun h4 => ?_) (fun h4 => ?_)
    · simp at h4
      have ok : wayOkB t i = true := by rw [wayOkB_eq hx]; simp [h4]
      simp [-getElem?_pos, h1, h3, hS, hx, z, hw]
      exact Rnd_n (n - 1) (by omega) ⟨i + 1, by omega, fun j hj => by by_cases e : j = i; · subst e; exact ok
                                                                      · exact hk j (by omega), by simp [h1], by simp, by simp [hnx], by simp [hS]⟩
    · simp at h4
      obtain ⟨A, hA⟩ : ∃ A, A = adj (badP t x) (way t i) := ⟨_, rfl⟩
      have hA' : wayOkB t i = !A := by rw [wayOkB_eq hx, hA]; simp [h4]
      rw [hway, adj_reverse] at hA
      simp [-getElem?_pos, h1, h3, hS, hx, z, hw, hup]
      refine W_loop (fun n st => ∃ (c : Int) (r : List Int), r.length = n ∧ Chn t r (par t c) ∧ adj (fun a b => badP t x b a) (c :: r) = A ∧ st.V 1 = .ptr 0 none 0 0 0 ∧ st.V 3 = iv i ∧ st.V 4 = iv c ∧ st.V 5 = iv (par t c) ∧ 0 < st.nx ∧ st.S 0 = some (.box [.sl 5 (t.map nd)])) ?_ l.length _ ⟨i, l, rfl, hchn, hA.symm, by simp [h1], by simp [h3], by simp, by simp, by simp [hnx], by simp [hS]⟩
      clear hnx hS h1 h3 z
      rintro n' st ⟨c, r, hr, hc, hcA, h1, h3, h4', h5, hnx, hS⟩
      have z := fr hnx
      simp [k_spec_l17Ways_b0, h1, h3, h5]
      refine Br_i (fun h => ?_) (fun h => ?_)
      · simp at h
        cases r with
        | nil => have : par t c < 0 := hc; omega
        | cons y ys =>
          obtain ⟨rfl, h0, hc'⟩ := hc
          have hpr := par_range t c
          obtain ⟨a, ha⟩ : ∃ a : Nat, par t c = a := ⟨(par t c).toNat, by omega⟩
          rw [ha] at h5 hc' hcA hpr
          obtain ⟨y, hy⟩ : ∃ y, t[a]? = some y := ⟨_, List.getElem?_eq_getElem (by omega)⟩
          rw [adj, badP_eq hy] at hcA
          have z2 := fr (by omega : st.nx < st.nx + 1)
          by_cases b0 : y.f = x.f
          all_goals by_cases b1 : y.r = c
          all_goals by_cases b2 : x.c ≤ y.c
          all_goals by_cases b3 : y.l = c
          all_goals by_cases b4 : y.c ≤ x.c
          all_goals simp [b0, b1, b2, b3, b4] at hcA
          all_goals simp [-getElem?_pos, h1, h3, h4', h5, hS, hx, hy, z, nd, hup, b0, b1, b2, b3, b4]
          all_goals first
            | (have no : waysB t = false := waysB_no (i := i) (by omega) (by rw [hA']; simp [hcA])
               simp [no]; done)
            | (simp at hr
               exact Rnd_n ys.length (by omega) ⟨a, ys, rfl, hc', hcA, by simp [h1], by simp [h3], by simp, by simp, by simp, by simp [z, hS]⟩)
            | skip
      · simp at h
        cases r with
        | nil =>
          have ok : wayOkB t i = true := by rw [hA', ← hcA]; rfl
          simp [-getElem?_pos, h1, h3, hS, hx, z, hw]
          exact Rnd_n (n - 1) (by omega) ⟨i + 1, by omega, fun j hj => by by_cases e : j = i; · subst e; exact ok
                                                                          · exact hk j (by omega), by simp [h1], by simp, by simp [hnx], by simp [hS]⟩
        | cons x xs => obtain ⟨_, h0, _⟩ := hc; omega
  · simp at h
    have : waysB t = true := waysB_iff.mpr fun j hj => hk j (by omega)
    simp [this]

theorem R_spec_TreeOk (t : List Nd) (F : Int) (hl : t.length ≤ 9223372036854775807) : RUN T k_spec_TreeOk [.agg [.sl 5 (t.map nd)], iv F] = some ([bv (treeB t F)], []) := by
  refine RUN_W T_spec_TreeOk rfl ?_
  unfold treeB
  by_cases h1 : within F 0 4 = true
  · by_cases h2 : within t.length 1 31 = true
    · have h1' := within_iff.mp h1
      have h2' := within_iff.mp h2
      have hS := R_spec_l17Shape t F (by omega) h1'
      have hD := R_spec_DepthOf t hl
      by_cases h3 : shapeB t F = true
      · have hW := R_spec_l17Ways t F (by omega) (shaped_of h3)
        by_cases h4 : dpt t t.length ≤ 4
        · simp [k_spec_TreeOk_ic, k_spec_TreeOk_rv, R_spec_l1In', -R_spec_l1In, h1, h2, hS, hD, hW, h3, h4]
        · simp [k_spec_TreeOk_ic, k_spec_TreeOk_rv, R_spec_l1In', -R_spec_l1In, h1, h2, hS, hD, h3, h4]
      · simp [k_spec_TreeOk_ic, k_spec_TreeOk_rv, R_spec_l1In', -R_spec_l1In, h1, h2, hS, h3]
    · simp [k_spec_TreeOk_ic, k_spec_TreeOk_rv, R_spec_l1In', -R_spec_l1In, h1, h2]
  · by_cases h2 : within t.length 1 31 = true
    · simp [k_spec_TreeOk_ic, k_spec_TreeOk_rv, R_spec_l1In', -R_spec_l1In, h1, h2]
    · simp [k_spec_TreeOk_ic, k_spec_TreeOk_rv, R_spec_l1In', -R_spec_l1In, h1, h2]

theorem snoc_all {α : Type} {P : Nat → α → Prop} {l : List α} {i : Nat} {x : α} (h : ∀ (j : Nat) (x : α), j < i → l[j]? = some x → P j x) (hi : l[i]? = some x) (hp : P i x) : ∀ (j : Nat) (x : α), j < i + 1 → l[j]? = some x → P j x := by
  intro j y hj hy
  by_cases e : j = i
  · subst e; rw [hi] at hy; cases hy; exact hp
  · exact h j y (by omega) hy

/-- A row within rows: a slice's own, or one that is read. -/
def cel (q : Bool) (l : List Int) : PV := if q then .own 1 (ints l) else .sl 1 (ints l)

@[simp] theorem fz_cel (q : Bool) (l : List Int) : fz (cel q l) = .sl 1 (ints l) := by cases q <;> simp [cel]

def rws (q : Bool) (L : List (List Int)) : List (List PV) := L.map fun l => [cel q l]

@[simp] theorem rws_len (q : Bool) (L : List (List Int)) : (rws q L).length = L.length := by simp [rws]

theorem rws_get {q : Bool} {L : List (List Int)} {i : Nat} {l : List Int} (h : L[i]? = some l) : (rws q L)[i]? = some [cel q l] := by simp [rws, h]

theorem yv_gu {s : St} {d : Option Dst} {op : IOp} {g : Opd} {v : Bool} {x : PV} : (yv s ⟨d, op, some (g, v)⟩ = some x) = (Ob' (guardP v (g.get s)) fun t => Br t (WI (fun _ => []) (fun _ _ => none) op s (fun y _ => y = x)) (PV.v Go.undef = x)) := by
  simp only [yv, evG_some, WI, Ob', Br, Option.map_eq_some_iff, Option.bind_eq_some_iff, eq_iff_iff]
  constructor
  · rintro ⟨⟨y, s'⟩, ⟨t, h1, h2⟩, h3⟩
    refine ⟨t, h1, fun ht => ?_, fun ht => ?_⟩ <;> subst ht
    · exact ⟨y, s', by simpa using h2, h3⟩
    · simp at h2; obtain ⟨rfl, rfl⟩ := h2; exact h3
  · rintro ⟨t, h1, h2, h3⟩
    cases t with
    | true => obtain ⟨y, s', h4, h5⟩ := h2 rfl; exact ⟨(y, s'), ⟨true, h1, by simpa using h4⟩, h5⟩
    | false => exact ⟨_, ⟨false, h1, rfl⟩, h3 rfl⟩

@[simp] theorem chkTodo_g {s : St} {d : Option Dst} {op : IOp} {g : Opd} {v : Bool} {x : PV} {n : Nat} {r : List (IOper × PV × Nat)} : chkTodo s ((⟨d, op, some (g, v)⟩, x, n + 1) :: r) = ((Ob' (guardP v (g.get s)) fun t => Br t (WI (fun _ => []) (fun _ _ => none) op s (fun y _ => y = x)) (PV.v Go.undef = x)) ∧ chkTodo s r) := by
  simp only [chkTodo, yv_gu]

@[simp] theorem chkPast_g {V E : Nat → PV} {d : Option Dst} {op : IOp} {g : Opd} {v : Bool} {x : PV} {n : Nat} {s : St} {ms : List St} : chkPast V E ⟨d, op, some (g, v)⟩ x (n + 1) (s :: ms) = ((Ob' (guardP v (g.get { s with V := V, E := E })) fun t => Br t (WI (fun _ => []) (fun _ _ => none) op { s with V := V, E := E } (fun y _ => y = x)) (PV.v Go.undef = x)) ∧ chkPast V E ⟨d, op, some (g, v)⟩ x n ms) := by
  simp only [chkPast, yv_gu]

theorem rows_of {α : Type} {f : α → List PV} {p : α → Prop} {tys : List TY} (h : ∀ cs, ShpL tys cs → ∃ a, f a = cs ∧ p a) : ∀ {es : List (List PV)}, (∀ cs ∈ es, ShpL tys cs) → ∃ l : List α, l.map f = es ∧ ∀ a ∈ l, p a
  | [], _ => ⟨[], rfl, by simp⟩
  | e :: es, hs => by
    obtain ⟨a, ha, hp⟩ := h e (hs e (by simp))
    obtain ⟨l, hl, hq⟩ := rows_of h (es := es) (fun cs hc => hs cs (by simp [hc]))
    refine ⟨a :: l, by simp [ha, hl], fun b hb => ?_⟩
    rcases List.mem_cons.mp hb with e | e
    · subst e; exact hp
    · exact hq b e

theorem of_all {P : Program} {l : List TypeId} (h : (l.all fun t => P.readableRec t && decide (t < P.types.size)) = true) : ∀ t ∈ l, P.readableRec t = true ∧ t < P.types.size := by
  intro t ht
  have := List.all_eq_true.mp h t ht
  simpa using this

theorem args1 {p : Bool × List TY} {pvs : List PV} (h : All2 (fun p c => ShpA p.1 p.2 c) [p] pvs) : ∃ a, pvs = [a] ∧ ShpA p.1 p.2 a := by
  cases h with
  | cons h1 t => cases t with
    | nil => exact ⟨_, rfl, h1⟩

/-- The bytes that a source draws from. -/
def byts (B : List Int) : List (List PV) := B.map fun n => [.v (.int .u8 n)]

@[simp] theorem byts_len (B : List Int) : (byts B).length = B.length := by simp [byts]

theorem byts_get {B : List Int} {i : Nat} {x : Int} (h : B[i]? = some x) : (byts B)[i]? = some [.v (.int .u8 x)] := by simp [byts, h]

/-- The end of a call of which something is told. -/
def FinG (rv : List RV) (io : Nat) (G : List PV × List PV → Prop) (_ : Dm rv) (_ : Dm G) (e : Ex) (s : St) : Prop := (e = .normal ∨ e = .ret) ∧ ∃ r, finishEv ⟨[], rv, .skip⟩ io s = some r ∧ G r

@[simp] theorem FinG_n {rv : List RV} {io : Nat} {G : List PV × List PV → Prop} {s : St} : FinG rv io G ⟨⟩ ⟨⟩ .normal s = ∃ r, finishEv ⟨[], rv, .skip⟩ io s = some r ∧ G r := by simp [FinG]

@[simp] theorem FinG_r {rv : List RV} {io : Nat} {G : List PV × List PV → Prop} {s : St} : FinG rv io G ⟨⟩ ⟨⟩ .ret s = ∃ r, finishEv ⟨[], rv, .skip⟩ io s = some r ∧ G r := by simp [FinG]

theorem RUN_G {T : Table} {f : Nat} {ms : List Bool} {rv : List RV} {ic : IC} {G : List PV × List PV → Prop} (hT : T f = some (.code ⟨ms, rv, ic⟩)) {args : List PV} {st : St} (hi : initEv args = some st) (h : W (modesOf T) (RUN T) ic st (FinG rv st.nx G ⟨⟩ ⟨⟩)) : ∃ r, RUN T f args = some r ∧ G r := by
  unfold W at h
  obtain ⟨e, s, h1, h2, r, h3, hG⟩ := h
  refine ⟨r, RUN_code hT ?_, hG⟩
  unfold callL
  rw [hi]
  simp only [Option.bind_some, h1]
  rcases h2 with rfl | rfl <;> exact h3
attribute [irreducible] FinG

theorem and255 (X : Nat) : 0 ≤ IntKind.i64.wrap ((X &&& 255 % 2 ^ IntKind.i64.bits : Nat) : Int) ∧ IntKind.i64.wrap ((X &&& 255 % 2 ^ IntKind.i64.bits : Nat) : Int) ≤ 255 := by
  have h : X &&& 255 % 2 ^ IntKind.i64.bits ≤ 255 := Nat.le_trans Nat.and_le_right (by decide)
  rw [w64 (by omega) (by omega)]
  omega

/-- What a drawing function may answer: a value with a property, and the source further on. -/
def Draw (B : List Int) (P : PV → Prop) (r : List PV × List PV) : Prop := ∃ (v : PV) (p : Nat) (s : Int), P v ∧ p ≤ B.length ∧ r = ([v], [.bx [.sl 1 (byts B), iv p, iv s]])

def PB (v : PV) : Prop := ∃ b, v = bv b

def PM (l : List Int) (v : PV) : Prop := ∃ n, v = iv n ∧ n ∈ l

def PI (v : PV) : Prop := ∃ n, v = iv n ∧ inI n

def PN (n : Int) (v : PV) : Prop := ∃ m, v = iv m ∧ 0 ≤ m ∧ (0 < n → m < n)

theorem R_spec_l1Byte (B : List Int) (p : Nat) (s : Int) (hp : p ≤ B.length) (hB : B.length ≤ 9223372036854775807) : ∃ r, RUN T k_spec_l1Byte [.bx [.sl 1 (byts B), iv p, iv s]] = some r ∧ Draw B (fun v => ∃ n, v = iv n ∧ 0 ≤ n ∧ n ≤ 255) r := by
  refine RUN_G T_spec_l1Byte rfl ?_
  by_cases h : p < B.length
  · obtain ⟨x, hx⟩ : ∃ x, B[p]? = some x := ⟨_, List.getElem?_eq_getElem h⟩
    have hx' := byts_get hx
    have hw := wS h hB
    simp [-getElem?_pos, k_spec_l1Byte_ic, k_spec_l1Byte_rv, h, hx', hw]
    exact ⟨_, p + 1, _, ⟨_, rfl, (and255 _).1, (and255 _).2⟩, h, rfl⟩
  · have h' : ¬ ((p : Int) < B.length) := by omega
    simp [-getElem?_pos, k_spec_l1Byte_ic, k_spec_l1Byte_rv, h, h']
    exact ⟨_, p, _, ⟨_, rfl, (and255 _).1, (and255 _).2⟩, hp, rfl⟩

theorem R_spec_l1Below (B : List Int) (p : Nat) (s : Int) (hp : p ≤ B.length) (hB : B.length ≤ 9223372036854775807) (n : Int) (hn : n ≤ 9223372036854775807) : ∃ r, RUN T k_spec_l1Below [.bx [.sl 1 (byts B), iv p, iv s], iv n] = some r ∧ Draw B (PN n) r := by
  refine RUN_G T_spec_l1Below rfl ?_
  obtain ⟨r1, h1, v1, p1, s1, ⟨a1, rfl, a10, a11⟩, hp1, rfl⟩ := R_spec_l1Byte B p s hp hB
  by_cases c1 : n ≤ 0
  · simp [-getElem?_pos, k_spec_l1Below_ic, k_spec_l1Below_rv, c1]
    exact ⟨_, p, s, ⟨0, rfl, by omega, by omega⟩, hp, rfl⟩
  have c0 : ¬ (n = 0) := by omega
  by_cases c2 : n ≤ 256
  · simp [-getElem?_pos, k_spec_l1Below_ic, k_spec_l1Below_rv, c0, c1, c2, h1]
    refine ⟨_, p1, s1, ⟨_, rfl, ?_, fun _ => ?_⟩, hp1, rfl⟩
    · exact Int.tmod_nonneg _ a10
    · exact Int.tmod_lt_of_pos _ (by omega)
  obtain ⟨r2, h2, v2, p2, s2, ⟨a2, rfl, a20, a21⟩, hp2, rfl⟩ := R_spec_l1Byte B p1 s1 hp1 hB
  obtain ⟨r3, h3, v3, p3, s3, ⟨a3, rfl, a30, a31⟩, hp3, rfl⟩ := R_spec_l1Byte B p2 s2 hp2 hB
  obtain ⟨r4, h4, v4, p4, s4, ⟨a4, rfl, a40, a41⟩, hp4, rfl⟩ := R_spec_l1Byte B p3 s3 hp3 hB
  have w1 := w64 (x := a1 * 16777216) (by omega) (by omega)
  have w2 := w64 (x := a2 * 65536) (by omega) (by omega)
  have w3 := w64 (x := a1 * 16777216 + a2 * 65536) (by omega) (by omega)
  have w4 := w64 (x := a3 * 256) (by omega) (by omega)
  have w5 := w64 (x := a1 * 16777216 + a2 * 65536 + a3 * 256) (by omega) (by omega)
  have w6 := w64 (x := a1 * 16777216 + a2 * 65536 + a3 * 256 + a4) (by omega) (by omega)
  simp [-getElem?_pos, k_spec_l1Below_ic, k_spec_l1Below_rv, c0, c1, c2, h1, h2, h3, h4, w1, w2, w3, w4, w5, w6]
  refine ⟨_, p4, s4, ⟨_, rfl, ?_, fun _ => ?_⟩, hp4, rfl⟩
  · exact Int.tmod_nonneg _ (by omega)
  · exact Int.tmod_lt_of_pos _ (by omega)

theorem R_spec_l1Once (B : List Int) (p : Nat) (s : Int) (hp : p ≤ B.length) (hB : B.length ≤ 9223372036854775807) (n : Int) (hn : n ≤ 9223372036854775807) : ∃ r, RUN T k_spec_l1Once [.bx [.sl 1 (byts B), iv p, iv s], iv n] = some r ∧ Draw B PB r := by
  refine RUN_G T_spec_l1Once rfl ?_
  obtain ⟨r1, h1, v1, p1, s1, ⟨a1, rfl, a10, a11⟩, hp1, rfl⟩ := R_spec_l1Below B p s hp hB n hn
  simp [-getElem?_pos, k_spec_l1Once_ic, k_spec_l1Once_rv, h1]
  exact ⟨_, p1, s1, ⟨_, rfl⟩, hp1, rfl⟩

/-- The same where a list is handed over and back. -/
def Draw2 (B : List Int) (l : List Int) (P : PV → Prop) (r : List PV × List PV) : Prop := ∃ (v : PV) (p : Nat) (s : Int), P v ∧ p ≤ B.length ∧ r = ([v], [.bx [.sl 1 (byts B), iv p, iv s], .own 1 (ints l)])

theorem R_spec_l1PickInt (B : List Int) (p : Nat) (s : Int) (hp : p ≤ B.length) (hB : B.length ≤ 9223372036854775807) (l : List Int) (hl : 0 < l.length ∧ l.length ≤ 9223372036854775807) : ∃ r, RUN T k_spec_l1PickInt [.bx [.sl 1 (byts B), iv p, iv s], .own 1 (ints l)] = some r ∧ Draw2 B l (PM l) r := by
  refine RUN_G T_spec_l1PickInt rfl ?_
  obtain ⟨r1, h1, v1, p1, s1, ⟨a1, rfl, a10, a11⟩, hp1, rfl⟩ := R_spec_l1Below B p s hp hB l.length (by omega)
  obtain ⟨i, rfl⟩ : ∃ i : Nat, a1 = i := ⟨a1.toNat, by omega⟩
  have hi : i < l.length := by have := a11 (by omega); omega
  obtain ⟨x, hx⟩ : ∃ x, l[i]? = some x := ⟨_, List.getElem?_eq_getElem hi⟩
  have hx' := ints_get hx
  simp [-getElem?_pos, k_spec_l1PickInt_ic, k_spec_l1PickInt_rv, h1, hx', hi]
  exact ⟨_, p1, s1, ⟨x, rfl, List.mem_of_getElem? hx⟩, hp1, rfl⟩

theorem inI_wrap (x : Int) : inI (IntKind.i64.wrap x) := by
  unfold inI IntKind.wrap
  simp [IntKind.bits, IntKind.signed]
  omega

theorem R_spec_l1Whole (B : List Int) (p : Nat) (s : Int) (hp : p ≤ B.length) (hB : B.length ≤ 9223372036854775807) : ∃ r, RUN T k_spec_l1Whole [.bx [.sl 1 (byts B), iv p, iv s]] = some r ∧ Draw B PI r := by
  refine RUN_G T_spec_l1Whole rfl ?_
  obtain ⟨r1, h1, v1, p1, s1, ⟨a1, rfl, a10, a11⟩, hp1, rfl⟩ := R_spec_l1Below B p s hp hB 4 (by omega)
  by_cases c0 : a1 = 0
  · obtain ⟨r2, h2, v2, p2, s2, ⟨a2, rfl, hm⟩, hp2, rfl⟩ := R_spec_l1PickInt B p1 s1 hp1 hB [0, 1, -1, 9, 10, 999, 1000, 2147483647, -2147483648, 3037000499, 3037000500, 9223372036854775807, -9223372036854775807, -9223372036854775808] (by simp)
    simp only [ints, List.map] at h2
    simp [-getElem?_pos, k_spec_l1Whole_ic, k_spec_l1Whole_rv, h1, c0, h2]
    refine ⟨_, p2, s2, ⟨a2, rfl, ?_⟩, hp2, rfl⟩
    simp at hm
    unfold inI
    omega
  by_cases c1 : a1 = 1
  · simp [-getElem?_pos, k_spec_l1Whole_ic, k_spec_l1Whole_rv, h1, c0, c1]
    refine W_loop (fun n st => ∃ (i p : Nat) (x s : Int), i + n = 8 ∧ p ≤ B.length ∧ inI x ∧ st.V 0 = .ptr 0 none 0 0 0 ∧ st.V 3 = iv x ∧ st.V 4 = iv i ∧ 0 < st.nx ∧ st.ep = 0 ∧ st.S 0 = some (.box [.sl 1 (byts B), iv p, iv s])) ?_ 8 _ ⟨0, p1, 0, s1, by omega, hp1, by unfold inI; omega, by simp⟩
    clear h1
    rintro n st ⟨i, p, x, s, hi, hp, hx, v0, v3, v4, hnx, hep, hS⟩
    simp [k_spec_l1Whole_b0, v4]
    refine Br_i (fun h => ?_) (fun h => ?_)
    · simp at h
      obtain ⟨r2, h2, v2, p2, s2, ⟨a2, rfl, a20, a21⟩, hp2, rfl⟩ := R_spec_l1Byte B p s hp hB
      have w := w64 (x := (i : Int) + 1) (by omega) (by omega)
      simp [-getElem?_pos, v0, v3, v4, hep, hS, h2, w]
      exact Rnd_n (n - 1) (by omega) ⟨i + 1, p2, _, s2, by omega, hp2, inI_wrap _, by simp [v0], by simp; rfl, by simp, by simp [hnx], by simp [hep], by simp⟩
    · simp [-getElem?_pos, v3, v0, hS]
      exact ⟨_, p, s, ⟨x, rfl, hx⟩, hp, rfl⟩
  by_cases c2 : a1 = 2
  · obtain ⟨r2, h2, v2, p2, s2, ⟨a2, rfl, a20, a21⟩, hp2, rfl⟩ := R_spec_l1Below B p1 s1 hp1 hB 1000000 (by omega)
    have a22 := a21 (by omega)
    have w := w64 (x := a2 - 500000) (by omega) (by omega)
    simp [-getElem?_pos, k_spec_l1Whole_ic, k_spec_l1Whole_rv, h1, c0, c1, c2, h2, w]
    exact ⟨_, p2, s2, ⟨_, rfl, by unfold inI; omega⟩, hp2, rfl⟩
  · obtain ⟨r2, h2, v2, p2, s2, ⟨a2, rfl, a20, a21⟩, hp2, rfl⟩ := R_spec_l1Below B p1 s1 hp1 hB 41 (by omega)
    have a22 := a21 (by omega)
    have w := w64 (x := a2 - 20) (by omega) (by omega)
    simp [-getElem?_pos, k_spec_l1Whole_ic, k_spec_l1Whole_rv, h1, c0, c1, c2, h2, w]
    exact ⟨_, p2, s2, ⟨_, rfl, by unfold inI; omega⟩, hp2, rfl⟩

theorem R_spec_l1New (B : List Int) (hB : B.length ≤ 9223372036854775807) : ∃ r, RUN T k_spec_l1New [.sl 1 (byts B)] = some r ∧ ∃ s : Int, r = ([.bx [.sl 1 (byts B), iv (0 : Nat), iv s]], []) := by
  refine RUN_G T_spec_l1New rfl ?_
  simp [-getElem?_pos, k_spec_l1New_ic, k_spec_l1New_rv]
  refine W_loop (fun n st => ∃ (i : Nat) (x : Int), i + n = B.length ∧ st.V 0 = .sl 1 (byts B) ∧ st.V 3 = iv x ∧ st.V 4 = iv i) ?_ B.length _ ⟨0, _, by omega, by simp, by simp; rfl, by simp⟩
  rintro n st ⟨i, x, hi, v0, v3, v4⟩
  by_cases h : i < B.length
  · obtain ⟨b, hx⟩ : ∃ b, B[i]? = some b := ⟨_, List.getElem?_eq_getElem h⟩
    have hx' := byts_get hx
    have hw := wS h hB
    by_cases h2 : (i : Int) < 4000
    · have h2' := eq_true h2
      simp [-getElem?_pos, k_spec_l1New_b0, v0, v3, v4, h, h2', hx', hw]
      exact Rnd_n (n - 1) (by omega) ⟨i + 1, _, by omega, by simp [v0], by simp; rfl, by simp⟩
    · have h2' := eq_false h2
      simp [-getElem?_pos, k_spec_l1New_b0, v0, v3, v4, h, h2']
  · simp [-getElem?_pos, k_spec_l1New_b0, v0, v3, v4, h]

theorem R_laws_big (es : List (List PV)) : RUN T k_laws_big [.sl 1 es] = some ([bv (decide ((1048576 : Int) < es.length))], []) := by
  refine RUN_W T_laws_big rfl ?_
  simp [-getElem?_pos, k_laws_big_ic, k_laws_big_rv]

def leafN (v : Int) : Nd := ⟨-1, 0, 0, 0, v⟩

theorem R_spec_OneLeaf (v : Int) : RUN T k_spec_OneLeaf [iv v] = some ([.agg [.own 5 ([leafN v].map nd)]], []) := by
  refine RUN_W T_spec_OneLeaf rfl ?_
  have hr : roomFor 40 1 = true := by decide
  simp [-getElem?_pos, k_spec_OneLeaf_ic, k_spec_OneLeaf_rv, hr, leafN, nd]

def strs (l : List ByteArray) : List (List PV) := l.map fun s => [.v (.string s)]

@[simp] theorem strs_len (l : List ByteArray) : (strs l).length = l.length := by simp [strs]

def celT (q : Bool) (t : List Nd) : PV := if q then .own 5 (t.map nd) else .sl 5 (t.map nd)

@[simp] theorem fz_celT (q : Bool) (t : List Nd) : fz (celT q t) = .sl 5 (t.map nd) := by cases q <;> simp [celT]

def trs (q : Bool) (M : List (List Nd)) : List (List PV) := M.map fun t => [celT q t]

@[simp] theorem trs_len (q : Bool) (M : List (List Nd)) : (trs q M).length = M.length := by simp [trs]

def rwS (q : Bool) (l : List ByteArray) : PV := if q then .own 1 (strs l) else .sl 1 (strs l)

@[simp] theorem fz_rwS (q : Bool) (l : List ByteArray) : fz (rwS q l) = .sl 1 (strs l) := by cases q <;> simp [rwS]

def rwsS (q : Bool) (L : List (List ByteArray)) : List (List PV) := L.map fun l => [rwS q l]

@[simp] theorem rwsS_len (q : Bool) (L : List (List ByteArray)) : (rwsS q L).length = L.length := by simp [rwsS]

def hasI (l : List Int) (x : Int) : Bool := l.any fun y => decide (y = x)

theorem R_slices_Index_int (l : List Int) (x : Int) (hl : l.length ≤ 9223372036854775807) : RUN T k_slices_Index___int_int_ [.sl 1 (ints l), iv x] = some ([iv (fidx (fun y => decide (y = x)) l)], []) := by
  refine RUN_W T_slices_Index___int_int_ rfl ?_
  simp [-getElem?_pos, k_slices_Index___int_int__ic, k_slices_Index___int_int__rv]
  refine W_loop (fun n st => ∃ i : Nat, i + n = l.length ∧ (∀ (j : Nat) (y : Int), j < i → l[j]? = some y → decide (y = x) = false) ∧ st.V 0 = .sl 1 (ints l) ∧ st.V 1 = iv x ∧ st.V 7 = iv l.length ∧ st.V 8 = iv i) ?_ l.length _ ⟨0, by simp⟩
  rintro n st ⟨i, hi, hj, v0, v1, v7, v8⟩
  simp [k_slices_Index___int_int__b0, v7, v8]
  refine Br_i (fun h => ?_) (fun h => ?_)
  · simp at h
    obtain ⟨y, hy⟩ : ∃ y, l[i]? = some y := ⟨_, List.getElem?_eq_getElem h⟩
    have hy' := ints_get hy
    have hw := wS h hl
    by_cases e : y = x
    · subst e
      have := fidx_some (p := fun z => decide (z = y)) hy (by simp) hj
      simp [-getElem?_pos, v0, v1, v7, v8, hy', h, this]
    · have e' : ¬ x = y := fun h => e h.symm
      simp [-getElem?_pos, v0, v1, v7, v8, hy', h, hw, e']
      exact Rnd_n (n - 1) (by omega) ⟨i + 1, by omega, snoc_all (P := fun _ y => decide (y = x) = false) hj hy (by simpa using e), by simp [v0], by simp [v1], by simp [v7], by simp⟩
  · simp at h
    have := fidx_none (p := fun z => decide (z = x)) (l := l) fun j y h1 h2 => hj j y (by omega) h2
    simp [-getElem?_pos, this]

theorem R_slices_Contains_int (l : List Int) (x : Int) (hl : l.length ≤ 9223372036854775807) : RUN T k_slices_Contains___int_int_ [.sl 1 (ints l), iv x] = some ([bv (hasI l x)], []) := by
  refine RUN_W T_slices_Contains___int_int_ rfl ?_
  have h := R_slices_Index_int l x hl
  have e := fidx_neg (p := fun y => decide (y = x)) (l := l)
  have e2 : hasI l x = l.any fun y => decide (y = x) := rfl
  rw [e2, ← e]
  simp [-getElem?_pos, k_slices_Contains___int_int__ic, k_slices_Contains___int_int__rv, h]

/-- The numbers below one that are meant. -/
def picks (p : Nat → Bool) (i : Nat) : List Int := ((List.range i).filter p).map fun (j : Nat) => (j : Int)

@[simp] theorem picks_0 (p : Nat → Bool) : picks p 0 = [] := rfl

theorem picks_yes {p : Nat → Bool} {i : Nat} (h : p i = true) : picks p (i + 1) = picks p i ++ [(i : Int)] := by simp [picks, List.range_succ, h]

theorem picks_no {p : Nat → Bool} {i : Nat} (h : p i = false) : picks p (i + 1) = picks p i := by simp [picks, List.range_succ, h]

theorem picks_len (p : Nat → Bool) (i : Nat) : (picks p i).length ≤ i := by
  have := List.length_filter_le p (List.range i)
  simpa [picks] using this

/-- Does a row go through a node? -/
def thru (t : List Nd) (k : Int) (L : List (List Int)) (i : Nat) : Bool := match L[i]? with
  | none => false
  | some r => hasI (way2 t r) k

theorem thru_eq {t : List Nd} {k : Int} {L : List (List Int)} {i : Nat} {r : List Int} (h : L[i]? = some r) : thru t k L i = hasI (way2 t r) k := by simp [thru, h]

def rowsAt (t : List Nd) (k : Int) (L : List (List Int)) : List Int := picks (thru t k L) L.length

theorem R_impl_RowsAt (q : Bool) (t : List Nd) (k : Int) (L : List (List Int)) (hl : t.length ≤ 1048576) (hL : L.length ≤ 1048576) (hr : ∀ r ∈ L, r.length ≤ 1048576) : RUN T k_impl_RowsAt [.agg [.sl 5 (t.map nd)], iv k, .sl 1 (rws q L)] = some ([.own 1 (ints (rowsAt t k L))], []) := by
  refine RUN_W T_impl_RowsAt rfl ?_
  simp [-getElem?_pos, k_impl_RowsAt_ic, k_impl_RowsAt_rv]
  refine W_loop (fun n st => ∃ (i o e : Nat), i + n = L.length ∧ st.V 1 = iv k ∧ st.V 3 = .ptr 0 none 0 0 0 ∧ st.V 7 = .ref o none e 0 (picks (thru t k L) i).length ∧ st.V 11 = .sl 1 (rws q L) ∧ st.V 12 = iv L.length ∧ st.V 13 = iv i ∧ 0 < o ∧ o < st.nx ∧ st.S o = some (.row 1 (ints (picks (thru t k L) i))) ∧ st.S 0 = some (.box [.sl 5 (t.map nd)])) ?_ L.length _ ⟨0, 1, 0, by simp⟩
  rintro n st ⟨i, o, e, hi, v1, v3, v7, v11, v12, v13, ho, hox, hSo, hS⟩
  simp [k_impl_RowsAt_b0, v12, v13]
  refine Br_i (fun h => ?_) (fun h => ?_)
  · simp at h
    obtain ⟨r, hrr⟩ : ∃ r, L[i]? = some r := ⟨_, List.getElem?_eq_getElem h⟩
    have hr' := rws_get (q := q) hrr
    have hw := wS h (by omega : L.length ≤ 9223372036854775807)
    have hR := R_impl_route t r hl (hr r (List.mem_of_getElem? hrr))
    have hlw := way2_len t r
    have hC := R_slices_Contains_int (way2 t r) k (by omega)
    have hpl := picks_len (thru t k L) i
    have hro : roomFor 8 ((picks (thru t k L) i).length + 1) = true := room8 (by omega)
    have ht := thru_eq (t := t) (k := k) hrr
    obtain ⟨f1, f2, f3, f4⟩ := fr hox
    obtain ⟨g1, g2, g3, g4⟩ := fr ho
    obtain ⟨z1, z2, z3, z4⟩ := fr (show 0 < st.nx by omega)
    simp [-getElem?_pos, v1, v3, v7, v11, v12, v13, hr', hR, hC, hS, hSo, f1, f2, f3, f4, g1, g2, z1, z2, z3, z4, h]
    cases hb : hasI (way2 t r) k with
    | true =>
      rw [hb] at ht
      simp [-getElem?_pos, v1, v3, v7, v11, v12, v13, hSo, hS, hw, hro, f1, f2, f3, f4, g1, g2, z1, z2, z3, z4, ints_snoc]
      refine Rnd_n (n - 1) (by omega) ⟨i + 1, st.nx + 2, st.ep, by omega, by simp [v1], by simp [v3], ?_⟩
      rw [picks_yes ht]
      simp [v11, v12, hS, f1, f2, f3, f4, g1, g2, z1, z2, z3, z4]
    | false =>
      rw [hb] at ht
      simp [-getElem?_pos, v1, v3, v7, v11, v12, v13, hSo, hS, hw, hro, f1, f2, f3, f4, g1, g2, z1, z2, z3, z4]
      refine Rnd_n (n - 1) (by omega) ⟨i + 1, o, e, by omega, by simp [v1], by simp [v3], ?_⟩
      rw [picks_no ht]
      simp [v7, v11, v12, hS, hSo, f1, f2, f3, f4, g1, g2, z1, z2, z3, z4, ho]
      omega
  · simp at h
    have e1 : i = L.length := by omega
    subst e1
    simp [-getElem?_pos, v7, hSo, rowsAt]

theorem hasI_take {l : List Int} {x : Int} {i : Nat} {y : Int} (h : l[i]? = some y) : hasI (l.take (i + 1)) x = (hasI (l.take i) x || decide (y = x)) := by
  unfold hasI
  rw [List.take_succ, h, List.any_append]; simp

set_option maxHeartbeats 1000000 in
theorem R_spec_RowsAt (q : Bool) (t : List Nd) (k : Int) (L : List (List Int)) (hl : t.length ≤ 1048576) (hL : L.length ≤ 1048576) (hr : ∀ r ∈ L, r.length ≤ 1048576) : RUN T k_spec_RowsAt [.agg [.sl 5 (t.map nd)], iv k, .sl 1 (rws q L)] = some ([.own 1 (ints (rowsAt t k L))], []) := by
  refine RUN_W T_spec_RowsAt rfl ?_
  simp [-getElem?_pos, k_spec_RowsAt_ic, k_spec_RowsAt_rv]
  refine W_loop (fun n st => ∃ (i o e : Nat), i + n = L.length ∧ st.V 1 = iv k ∧ st.V 2 = .sl 1 (rws q L) ∧ st.V 3 = .ptr 0 none 0 0 0 ∧ st.V 7 = .ref o none e 0 (picks (thru t k L) i).length ∧ st.V 8 = iv i ∧ 0 < o ∧ o < st.nx ∧ st.S o = some (.row 1 (ints (picks (thru t k L) i))) ∧ st.S 0 = some (.box [.sl 5 (t.map nd)])) ?_ L.length _ ⟨0, 1, 0, by simp⟩
  rintro n st ⟨i, o, e, hi, v1, v2, v3, v7, v8, ho, hox, hSo, hS⟩
  simp [k_spec_RowsAt_b1, v2, v8]
  refine Br_i (fun h => ?_) (fun h => ?_)
  · simp at h
    obtain ⟨r, hrr⟩ : ∃ r, L[i]? = some r := ⟨_, List.getElem?_eq_getElem h⟩
    have hr' := rws_get (q := q) hrr
    have hw := wS h (by omega : L.length ≤ 9223372036854775807)
    have hR := R_spec_l18Way t r hl (hr r (List.mem_of_getElem? hrr))
    have hlw := way2_len t r
    have hpl := picks_len (thru t k L) i
    have hro : roomFor 8 ((picks (thru t k L) i).length + 1) = true := room8 (by omega)
    have ht := thru_eq (t := t) (k := k) hrr
    obtain ⟨f1, f2, f3, f4⟩ := fr hox
    obtain ⟨g1, g2, g3, g4⟩ := fr ho
    obtain ⟨z1, z2, z3, z4⟩ := fr (show 0 < st.nx by omega)
    simp [-getElem?_pos, v1, v2, v3, v7, v8, hr', hR, hS, hSo, f1, f2, f3, f4, g1, g2, z1, z2, z3, z4, h]
    refine W_loop (fun n' s => ∃ (i' : Nat), i' + n' = (way2 t r).length ∧ s.V 1 = iv k ∧ s.V 2 = .sl 1 (rws q L) ∧ s.V 3 = .ptr 0 none 0 0 0 ∧ s.V 7 = .ref o none e 0 (picks (thru t k L) i).length ∧ s.V 8 = iv i ∧ s.V 9 = .ref st.nx none st.ep 0 (way2 t r).length ∧ s.V 10 = bv (hasI ((way2 t r).take i') k) ∧ s.V 11 = iv i' ∧ s.nx = st.nx + 1 ∧ s.ep = st.ep ∧ s.S st.nx = some (.row 1 (ints (way2 t r))) ∧ s.S o = some (.row 1 (ints (picks (thru t k L) i))) ∧ s.S 0 = some (.box [.sl 5 (t.map nd)])) ?_ (way2 t r).length _ ⟨0, by simp [v1, v2, v3, v7, v8, hSo, hS, f1, f2, z1, z2, hasI]⟩
    rintro n' s ⟨i', hi', u1, u2, u3, u7, u8, u9, u10, u11, unx, uep, hSw, hSo', hS'⟩
    simp [k_spec_RowsAt_b0, u9, u11, hSw]
    refine Br_i (fun h' => ?_) (fun h' => ?_)
    · simp at h'
      obtain ⟨y, hy⟩ : ∃ y, (way2 t r)[i']? = some y := ⟨_, List.getElem?_eq_getElem h'⟩
      have hy' := ints_get hy
      have hw' := wS h' (by omega : (way2 t r).length ≤ 9223372036854775807)
      have hh := hasI_take (x := k) hy
      cases hb : hasI ((way2 t r).take i') k with
      | true =>
        rw [hb] at u10 hh
        simp [-getElem?_pos, u1, u9, u10, u11, hSw, hy', h', hw']
        refine Rnd_n (n' - 1) (by omega) ⟨i' + 1, by omega, by simp [u1], by simp [u2], by simp [u3], by simp [u7], by simp [u8], by simp [u9], ?_⟩
        rw [hh]
        simp [unx, uep, hSw, hSo', hS']
      | false =>
        rw [hb] at u10 hh
        simp [-getElem?_pos, u1, u9, u10, u11, hSw, hy', h', hw']
        refine Rnd_n (n' - 1) (by omega) ⟨i' + 1, by omega, by simp [u1], by simp [u2], by simp [u3], by simp [u7], by simp [u8], by simp [u9], ?_⟩
        rw [hh]
        simp [unx, uep, hSw, hSo', hS']
    · simp at h'
      rw [List.take_of_length_le (by omega)] at u10
      cases hb : hasI (way2 t r) k with
      | true =>
        rw [hb] at u10 ht
        simp [-getElem?_pos, u1, u2, u3, u7, u8, u10, hSo', hS', unx, uep, hw, hro, f1, f2, f3, f4, g1, g2, z1, z2, z3, z4, ints_snoc]
        refine Rnd_n (n - 1) (by omega) ⟨i + 1, st.nx + 2, st.ep, by omega, by simp [u1], by simp [u2], by simp [u3], ?_⟩
        rw [picks_yes ht]
        simp [hS', f1, f2, f3, f4, g1, g2, z1, z2, z3, z4]
      | false =>
        rw [hb] at u10 ht
        simp [-getElem?_pos, u1, u2, u3, u7, u8, u10, hSo', hS', unx, uep, hw, hro, f1, f2, f3, f4, g1, g2, z1, z2, z3, z4]
        refine Rnd_n (n - 1) (by omega) ⟨i + 1, o, e, by omega, by simp [u1], by simp [u2], by simp [u3], ?_⟩
        rw [picks_no ht]
        simp [u7, unx, hS', hSo', ho]
        omega
  · simp at h
    have e1 : i = L.length := by omega
    subst e1
    simp [-getElem?_pos, v7, hSo, rowsAt]

/-- The four part products of two numbers of 64 bits. -/
theorem parts {x y : Int} (hx : 0 ≤ x) (hx1 : x < 18446744073709551616) (hy : 0 ≤ y) (hy1 : y < 18446744073709551616) :
    ∃ a b c d : Int, a = x % 4294967296 * (y % 4294967296) ∧ b = x / 4294967296 * (y % 4294967296) ∧ c = x % 4294967296 * (y / 4294967296) ∧ d = x / 4294967296 * (y / 4294967296) ∧ 0 ≤ a ∧ a ≤ 18446744065119617025 ∧ 0 ≤ b ∧ b ≤ 18446744065119617025 ∧ 0 ≤ c ∧ c ≤ 18446744065119617025 ∧ 0 ≤ d ∧ d ≤ 18446744065119617025 ∧ x * y = d * 18446744073709551616 + (b + c) * 4294967296 + a := by
  have bd : ∀ u v : Int, 0 ≤ u → u ≤ 4294967295 → 0 ≤ v → v ≤ 4294967295 → 0 ≤ u * v ∧ u * v ≤ 18446744065119617025 := fun u v h1 h2 h3 h4 =>
    ⟨Int.mul_nonneg h1 h3, Int.le_trans (Int.mul_le_mul h2 h4 h3 (by decide)) (by decide)⟩
  have x0 : 0 ≤ x % 4294967296 ∧ x % 4294967296 ≤ 4294967295 := by omega
  have x1 : 0 ≤ x / 4294967296 ∧ x / 4294967296 ≤ 4294967295 := by omega
  have y0 : 0 ≤ y % 4294967296 ∧ y % 4294967296 ≤ 4294967295 := by omega
  have y1 : 0 ≤ y / 4294967296 ∧ y / 4294967296 ≤ 4294967295 := by omega
  refine ⟨_, _, _, _, rfl, rfl, rfl, rfl, (bd _ _ x0.1 x0.2 y0.1 y0.2).1, (bd _ _ x0.1 x0.2 y0.1 y0.2).2, (bd _ _ x1.1 x1.2 y0.1 y0.2).1, (bd _ _ x1.1 x1.2 y0.1 y0.2).2, (bd _ _ x0.1 x0.2 y1.1 y1.2).1, (bd _ _ x0.1 x0.2 y1.1 y1.2).2, (bd _ _ x1.1 x1.2 y1.1 y1.2).1, (bd _ _ x1.1 x1.2 y1.1 y1.2).2, ?_⟩
  have ex : x = x / 4294967296 * 4294967296 + x % 4294967296 := by omega
  have ey : y = y / 4294967296 * 4294967296 + y % 4294967296 := by omega
  generalize x / 4294967296 = p at *
  generalize x % 4294967296 = q at *
  generalize y / 4294967296 = r at *
  generalize y % 4294967296 = s at *
  rw [ex, ey, Int.add_mul, Int.mul_add, Int.mul_add]
  have e1 : p * 4294967296 * (r * 4294967296) = p * r * 18446744073709551616 := by
    rw [show (18446744073709551616 : Int) = 4294967296 * 4294967296 by decide, Int.mul_assoc, Int.mul_comm 4294967296 (r * 4294967296), Int.mul_assoc r, ← Int.mul_assoc p r]
  have e2 : p * 4294967296 * s = p * s * 4294967296 := by rw [Int.mul_assoc, Int.mul_comm 4294967296 s, ← Int.mul_assoc]
  have e3 : q * (r * 4294967296) = q * r * 4294967296 := by rw [← Int.mul_assoc]
  rw [e1, e2, e3, Int.add_mul]
  omega

theorem drop_cons' {l : List Int} {i : Nat} {x : Int} (h : l[i]? = some x) : l.drop i = x :: l.drop (i + 1) := by
  have hlt : i < l.length := by
    rcases Nat.lt_or_ge i l.length with h' | h'
    · exact h'
    · rw [List.getElem?_eq_none (by omega)] at h; cases h
  rw [List.drop_eq_getElem_cons hlt]
  congr 1
  rw [List.getElem?_eq_getElem hlt] at h
  exact Option.some.inj h

theorem nodup_le : ∀ (M : Nat) (q : List Int), q.Nodup → (∀ y ∈ q, 0 ≤ y ∧ y < M) → q.length ≤ M
  | 0, q, _, h => by
    cases q with
    | nil => simp
    | cons x q => have := h x (by simp); omega
  | M + 1, q, hn, h => by
    by_cases hm : (M : Int) ∈ q
    · have h1 := nodup_le M (q.erase M) (hn.erase _) (fun y hy => by
        obtain ⟨h1, h2⟩ := (List.Nodup.mem_erase_iff hn).mp hy
        have := h y h2
        omega)
      rw [List.length_erase_of_mem hm] at h1
      omega
    · exact Nat.le_trans (nodup_le M q hn (fun y hy => by
        have := h y hy
        have : y ≠ M := fun e => hm (e ▸ hy)
        omega)) (by omega)

/-- Every slot has one parent at most, and the root none. -/
def Good (u : List Nd) : Prop := ∀ (j : Nat) (n : Nd), u[j]? = some n → n.f ≠ -1 → 1 ≤ n.l ∧ n.l < u.length ∧ 1 ≤ n.r ∧ n.r < u.length ∧ n.l ≠ n.r ∧ ∀ (j' : Nat) (n' : Nd), u[j']? = some n' → n'.f ≠ -1 → (n.l = n'.l ∨ n.l = n'.r ∨ n.r = n'.l ∨ n.r = n'.r) → j = j'

structure QI (u : List Nd) (q : List Int) (i : Nat) : Prop where
  nd : q.Nodup
  rg : ∀ y ∈ q, 0 ≤ y ∧ y < u.length
  up : ∀ y ∈ q, y = 0 ∨ ∃ z ∈ q.take i, ∃ n, u[z.toNat]? = some n ∧ n.f ≠ -1 ∧ (y = n.l ∨ y = n.r)

theorem QI.skip {u : List Nd} {q : List Int} {i : Nat} (h : QI u q i) : QI u q (i + 1) :=
  ⟨h.nd, h.rg, fun y hy => by
    rcases h.up y hy with h1 | ⟨z, hz, n, h2⟩
    · exact .inl h1
    · exact .inr ⟨z, (List.take_subset_take_left q (Nat.le_succ i)) hz, n, h2⟩⟩

theorem QI.step {u : List Nd} (hg : Good u) {q : List Int} {i : Nat} (h : QI u q i) {z : Int} (hz : q[i]? = some z) {n : Nd} (hn : u[z.toNat]? = some n) (hf : n.f ≠ -1) : QI u (q ++ [n.l, n.r]) (i + 1) := by
  obtain ⟨g1, g2, g3, g4, g5, g6⟩ := hg _ _ hn hf
  have hlt : i < q.length := by
    rcases Nat.lt_or_ge i q.length with h' | h'
    · exact h'
    · rw [List.getElem?_eq_none (by omega)] at hz; cases hz
  have hzr := h.rg z (List.mem_of_getElem? hz)
  have hno : z ∉ q.take i := by
    intro hm
    have hd := h.nd
    rw [← List.take_append_drop i q, drop_cons' hz, List.nodup_append] at hd
    exact hd.2.2 z hm z (by simp) rfl
  have key : ∀ y ∈ q, (y = n.l ∨ y = n.r) → False := by
    intro y hy hc
    rcases h.up y hy with h1 | ⟨z', hz', n', h2, h3, h4⟩
    · omega
    · have := g6 _ _ h2 h3 (by rcases hc with c | c <;> rcases h4 with d | d <;> omega)
      have hz'r := h.rg z' (List.mem_of_mem_take hz')
      have : z = z' := by omega
      exact hno (this ▸ hz')
  refine ⟨?_, ?_, ?_⟩
  · rw [List.nodup_append]
    refine ⟨h.nd, by simp [g5], fun a ha b hb => ?_⟩
    rintro rfl
    simp at hb
    exact key a ha hb
  · intro y hy
    rcases List.mem_append.mp hy with hy | hy
    · exact h.rg y hy
    · simp at hy; omega
  · intro y hy
    rcases List.mem_append.mp hy with hy | hy
    · rcases h.up y hy with h1 | ⟨z', hz', n', h2⟩
      · exact .inl h1
      · refine .inr ⟨z', ?_, n', h2⟩
        rw [List.take_append_of_le_length (by omega)]
        exact (List.take_subset_take_left q (Nat.le_succ i)) hz'
    · refine .inr ⟨z, ?_, n, hn, hf, by simpa using hy⟩
      rw [List.take_append_of_le_length (by omega)]
      rw [List.take_succ, hz]; simp

theorem QI.len {u : List Nd} {q : List Int} {i : Nat} (h : QI u q i) : q.length ≤ u.length := nodup_le _ q h.nd h.rg

theorem nds_snoc (l : List Nd) (x : Nd) : l.map nd ++ [[iv x.f, iv x.c, iv x.l, iv x.r, iv x.v]] = (l ++ [x]).map nd := by simp [nd]

theorem nds_get {l : List Nd} {i : Nat} {x : Nd} (h : l[i]? = some x) : (l.map nd)[i]? = some [iv x.f, iv x.c, iv x.l, iv x.r, iv x.v] := by simp [h, nd]

def GL (N : Nat) (r : List PV × List PV) : Prop := ∃ w : List Nd, w.length ≤ N ∧ r = ([.agg [.own 5 (w.map nd)]], [])

set_option maxHeartbeats 1000000 in
theorem R_spec_l17Levels (u : List Nd) (hg : Good u) (h0 : 1 ≤ u.length) (hl : u.length ≤ 1000) : ∃ r, RUN T k_spec_l17Levels [.sl 5 (u.map nd)] = some r ∧ GL u.length r := by
  refine RUN_G T_spec_l17Levels rfl ?_
  have hr8 : roomFor 8 1 = true := by decide
  simp [k_spec_l17Levels_ic, k_spec_l17Levels_rv, hr8]
  refine W_loop (fun n st => ∃ (i oq eq : Nat) (q : List Int) (w : List Nd) (x : PV) (nxt : Int), i + n = u.length ∧ w.length = i ∧ QI u q i ∧ i ≤ q.length ∧ 1 ≤ q.length ∧ st.V 0 = .sl 5 (u.map nd) ∧ st.V 2 = .ptr 0 none 0 0 0 ∧ st.V 3 = .ptr 1 none 0 0 0 ∧ st.V 4 = .ref oq none eq 0 q.length ∧ st.V 5 = iv nxt ∧ st.V 6 = iv i ∧ 1 < oq ∧ oq < st.nx ∧ st.S oq = some (.row 1 (ints q)) ∧ ((w = [] ∧ x = .e0) ∨ ∃ ow ew, ow ≠ oq ∧ 1 < ow ∧ ow < st.nx ∧ x = .ref ow none ew 0 w.length ∧ st.S ow = some (.row 5 (w.map nd))) ∧ st.S 0 = some (.box [.e0]) ∧ st.S 1 = some (.box [x])) ?_ u.length _ ⟨0, 2, 0, [0], [], .e0, 1, by simp, rfl, ⟨by simp, by simp; omega, by simp⟩, by simp, by simp, by simp, by simp, by simp, by simp, by simp, by simp, by simp, by simp, by simp [ints], .inl ⟨rfl, rfl⟩, by simp, by simp⟩
  rintro n st ⟨i, oq, eq, q, w, x, nxt, hi, hw, hq, hiq, hq1, v0, v2, v3, v4, v5, v6, ho, hox, hSo, hx, hS, hS1⟩
  have hlen := hq.len
  simp [k_spec_l17Levels_b0, v4, v6, hSo]
  obtain ⟨f1, f2, f3, f4⟩ := fr hox
  obtain ⟨g1, g2, g3, g4⟩ := fr (show 0 < oq by omega)
  obtain ⟨z1, z2, z3, z4⟩ := fr (show 0 < st.nx by omega)
  obtain ⟨y1, y2, y3, y4⟩ := fr (show 1 < oq by omega)
  obtain ⟨x1, x2, x3, x4⟩ := fr (show 1 < st.nx by omega)
  refine Br_i (fun h => ?_) (fun h => ?_)
  · simp at h
    obtain ⟨z, hz⟩ : ∃ z, q[i]? = some z := ⟨_, List.getElem?_eq_getElem h⟩
    obtain ⟨hz0, hz1⟩ := hq.rg z (List.mem_of_getElem? hz)
    obtain ⟨zn, rfl⟩ : ∃ k : Nat, z = k := ⟨z.toNat, by omega⟩
    obtain ⟨m, hm⟩ : ∃ m, u[zn]? = some m := ⟨_, List.getElem?_eq_getElem (by omega)⟩
    have hz' := ints_get hz
    have hm' := nds_get hm
    have hws := wS h (by omega : q.length ≤ 9223372036854775807)
    have hr1 := room8 (n := q.length + 2) (by omega)
    have hr2 : roomFor 40 (w.length + 1) = true := by simp [roomFor]; omega
    have hr3 : roomFor 40 1 = true := by decide
    have hQ : m.f ≠ -1 → QI u (q ++ [m.l, m.r]) (i + 1) := fun hf => hq.step hg hz (by simpa using hm) hf
    have hints : ints q ++ [[iv m.l], [iv m.r]] = ints (q ++ [m.l, m.r]) := by simp [ints]
    have hn1 := nds_snoc w m
    have hn2 := nds_snoc w ⟨m.f, m.c, nxt, IntKind.i64.wrap (nxt + 1), m.v⟩
    simp only at hn2
    rcases Classical.propComplete (m.f = -1) with hf | hf
    · rcases hx with ⟨rfl, rfl⟩ | ⟨ow, ew, how, ho1, ho2, rfl, hSw⟩
      · simp [-getElem?_pos, v0, v2, v3, v4, v5, v6, hS, hS1, hSo, hz', hm', hf, hws, h, hr3, f1, f2, f3, f4, g1, g2, g3, g4, z1, z2, z3, z4, y1, y2, y3, y4, x1, x2, x3, x4]
        refine Rnd_n (n - 1) (by omega) ⟨i + 1, oq, eq, q, [m], _, nxt, by omega, by simp at hw; simp; omega, hq.skip, by omega, by omega, by simp [v0], by simp [v2], by simp [v3], by simp [v4], by simp [v5], by simp, ho, by simp; omega, by simp [f1, f2, f3, f4, g1, g2, g3, g4, z1, z2, z3, z4, y1, y2, y3, y4, x1, x2, x3, x4, hSo], .inr ⟨st.nx + 2, st.ep, by omega, by omega, by simp, rfl, by simp [nd]⟩, by simp [f1, f2, f3, f4, g1, g2, g3, g4, z1, z2, z3, z4, y1, y2, y3, y4, x1, x2, x3, x4, hS], by simp⟩
      · obtain ⟨b1, b2, b3, b4⟩ := fr ho2
        obtain ⟨c1, c2, c3, c4⟩ := fr ho1
        obtain ⟨d1, d2, d3, d4⟩ := fr (show 0 < ow by omega)
        have k1 : (ow = oq) = False := eq_false how
        have k2 : (oq = ow) = False := eq_false (fun e => how e.symm)
        obtain ⟨_, _, k3, k4⟩ := fr (show ow < st.nx + 1 by omega)
        obtain ⟨_, _, k5, k6⟩ := fr (show ow < st.nx + 2 by omega)
        simp [-getElem?_pos, v0, v2, v3, v4, v5, v6, hS, hS1, hSo, hSw, hz', hm', hf, hws, h, hr2, hn1, f1, f2, f3, f4, g1, g2, g3, g4, z1, z2, z3, z4, y1, y2, y3, y4, x1, x2, x3, x4, b1, b2, b3, b4, c1, c2, c3, c4, d1, d2, d3, d4, k1, k2, k3, k4, k5, k6]
        refine Rnd_n (n - 1) (by omega) ⟨i + 1, oq, eq, q, w ++ [m], _, nxt, by omega, by simp; omega, hq.skip, by omega, by omega, by simp [v0], by simp [v2], by simp [v3], by simp [v4], by simp [v5], by simp, ho, by simp; omega, by simp [f1, f2, f3, f4, g1, g2, g3, g4, z1, z2, z3, z4, y1, y2, y3, y4, x1, x2, x3, x4, b1, b2, b3, b4, c1, c2, c3, c4, d1, d2, d3, d4, k1, k2, k3, k4, k5, k6, hSo], .inr ⟨st.nx + 2, st.ep, by omega, by omega, by simp, by simp; rfl, by simp⟩, by simp [f1, f2, f3, f4, g1, g2, g3, g4, z1, z2, z3, z4, y1, y2, y3, y4, x1, x2, x3, x4, b1, b2, b3, b4, c1, c2, c3, c4, d1, d2, d3, d4, k1, k2, k3, k4, k5, k6, hS], by simp⟩
    · have hQ := hQ (by rw [ne_eq, hf]; exact id)
      rcases hx with ⟨rfl, rfl⟩ | ⟨ow, ew, how, ho1, ho2, rfl, hSw⟩
      · simp [-getElem?_pos, v0, v2, v3, v4, v5, v6, hS, hS1, hSo, hz', hm', hf, hws, h, hr1, hr3, hints, f1, f2, f3, f4, g1, g2, g3, g4, z1, z2, z3, z4, y1, y2, y3, y4, x1, x2, x3, x4]
        refine Rnd_n (n - 1) (by omega) ⟨i + 1, st.nx + 2, st.ep, q ++ [m.l, m.r], [⟨m.f, m.c, nxt, IntKind.i64.wrap (nxt + 1), m.v⟩], _, _, by omega, by simp at hw; simp; omega, hQ, by simp; omega, by simp, by simp [v0], by simp [v2], by simp [v3], by simp, by simp; rfl, by simp, by omega, by simp, by simp [f1, f2, f3, f4, g1, g2, g3, g4, z1, z2, z3, z4, y1, y2, y3, y4, x1, x2, x3, x4], .inr ⟨st.nx + 2 + 2, st.ep, by omega, by omega, by simp, rfl, by simp [nd]⟩, by simp [f1, f2, f3, f4, g1, g2, g3, g4, z1, z2, z3, z4, y1, y2, y3, y4, x1, x2, x3, x4, hS], by simp⟩
      · obtain ⟨b1, b2, b3, b4⟩ := fr ho2
        obtain ⟨c1, c2, c3, c4⟩ := fr ho1
        obtain ⟨d1, d2, d3, d4⟩ := fr (show 0 < ow by omega)
        have k1 : (ow = oq) = False := eq_false how
        have k2 : (oq = ow) = False := eq_false (fun e => how e.symm)
        obtain ⟨_, _, k3, k4⟩ := fr (show ow < st.nx + 1 by omega)
        obtain ⟨_, _, k5, k6⟩ := fr (show ow < st.nx + 2 by omega)
        simp [-getElem?_pos, v0, v2, v3, v4, v5, v6, hS, hS1, hSo, hSw, hz', hm', hf, hws, h, hr1, hr2, hints, hn2, f1, f2, f3, f4, g1, g2, g3, g4, z1, z2, z3, z4, y1, y2, y3, y4, x1, x2, x3, x4, b1, b2, b3, b4, c1, c2, c3, c4, d1, d2, d3, d4, k1, k2, k3, k4, k5, k6]
        refine Rnd_n (n - 1) (by omega) ⟨i + 1, st.nx + 2, st.ep, q ++ [m.l, m.r], w ++ [⟨m.f, m.c, nxt, IntKind.i64.wrap (nxt + 1), m.v⟩], _, _, by omega, by simp; omega, hQ, by simp; omega, by simp, by simp [v0], by simp [v2], by simp [v3], by simp, by simp; rfl, by simp, by omega, by simp, by simp [f1, f2, f3, f4, g1, g2, g3, g4, z1, z2, z3, z4, y1, y2, y3, y4, x1, x2, x3, x4, b1, b2, b3, b4, c1, c2, c3, c4, d1, d2, d3, d4, k1, k2, k3, k4, k5, k6], .inr ⟨st.nx + 2 + 2, st.ep, by omega, by omega, by simp, by simp; rfl, by simp⟩, by simp [f1, f2, f3, f4, g1, g2, g3, g4, z1, z2, z3, z4, y1, y2, y3, y4, x1, x2, x3, x4, b1, b2, b3, b4, c1, c2, c3, c4, d1, d2, d3, d4, k1, k2, k3, k4, k5, k6, hS], by simp⟩
  · simp at h
    have e1 : i = q.length := by omega
    rcases hx with ⟨rfl, rfl⟩ | ⟨ow, ew, how, ho1, ho2, rfl, hSw⟩
    · simp at hw; omega
    · obtain ⟨b1, b2, b3, b4⟩ := fr ho2
      obtain ⟨c1, c2, c3, c4⟩ := fr ho1
      obtain ⟨d1, d2, d3, d4⟩ := fr (show 0 < ow by omega)
      simp [-getElem?_pos, v2, v3, hS, hS1, hSw, b1, b2, b3, b4, c1, c2, c3, c4, d1, d2, d3, d4]
      exact ⟨w, by omega, rfl⟩

/-- A tree in which the slot k has been parted. -/
def grown (t : List Nd) (k : Nat) (f c a b : Int) : List Nd := t.set k ⟨f, c, t.length, t.length + 1, 0⟩ ++ [⟨-1, 0, 0, 0, a⟩, ⟨-1, 0, 0, 0, b⟩]

theorem grown_len {t : List Nd} {k : Nat} {f c a b : Int} : (grown t k f c a b).length = t.length + 2 := by simp [grown]

theorem grown_at {t : List Nd} {F : Int} (hs : Shaped t F) {k : Nat} (hk : k < t.length) {f c a b : Int} {j : Nat} {n : Nd} (h : (grown t k f c a b)[j]? = some n) (hf : n.f ≠ -1) : (j ≠ k ∧ j < t.length ∧ t[j]? = some n ∧ InnerOk F n j 1 t.length) ∨ (j = k ∧ n.l = t.length ∧ n.r = t.length + 1) := by
  unfold grown at h
  rcases Nat.lt_or_ge j t.length with hj | hj
  · rw [List.getElem?_append_left (by simpa using hj), List.getElem?_set] at h
    by_cases e : k = j
    · subst e
      rw [if_pos rfl, if_pos hk] at h
      cases h
      exact .inr ⟨rfl, rfl, rfl⟩
    · rw [if_neg e] at h
      exact .inl ⟨fun e' => e e'.symm, hj, h, hs.inner j n h hf⟩
  · rw [List.getElem?_append_right (by simpa using hj)] at h
    simp only [List.length_set] at h
    have : j - t.length = 0 ∨ j - t.length = 1 ∨ 2 ≤ j - t.length := by omega
    rcases this with e | e | e
    · rw [e] at h; simp at h; subst h; exact (hf rfl).elim
    · rw [e] at h; simp at h; subst h; exact (hf rfl).elim
    · rw [List.getElem?_eq_none (by simpa using e)] at h; cases h

theorem grown_good {t : List Nd} {F : Int} (hs : Shaped t F) {k : Nat} (hk : k < t.length) {f c a b : Int} : Good (grown t k f c a b) := by
  intro j n h hf
  rw [grown_len]
  rcases grown_at hs hk h hf with ⟨e, hj, ht, hi⟩ | ⟨rfl, hl, hr⟩
  · have i1 := hi.lo
    have i2 := hi.r
    have i3 := hi.hi
    refine ⟨by omega, by push_cast; omega, by omega, by push_cast; omega, by omega, fun j' n' h' hf' hc => ?_⟩
    rcases grown_at hs hk h' hf' with ⟨e', hj', ht', hi'⟩ | ⟨rfl, hl', hr'⟩
    · have i1' := hi'.r
      rcases Nat.lt_trichotomy j j' with c | c | c
      · have := hs.ord j j' n n' c ht ht' hf hf'; omega
      · exact c
      · have := hs.ord j' j n' n c ht' ht hf' hf; omega
    · omega
  · refine ⟨by omega, by push_cast; omega, by omega, by push_cast; omega, by omega, fun j' n' h' hf' hc => ?_⟩
    rcases grown_at hs hk h' hf' with ⟨e', hj', ht', hi'⟩ | ⟨rfl, hl', hr'⟩
    · have i2 := hi'.r
      have i3 := hi'.hi
      omega
    · rfl

theorem nds_allV (l : List Nd) : allV (l.map nd) = true := by simp [allV, nd]

set_option maxHeartbeats 1000000 in
theorem R_spec_l17Grown (t : List Nd) (F : Int) (hs : Shaped t F) (hl : t.length ≤ 31) (k : Nat) (hk : k < t.length) (f c l r v a b : Int) : ∃ r', RUN T k_spec_l17Grown [.agg [.sl 5 (t.map nd)], iv k, .agg [iv f, iv c, iv l, iv r, iv v], iv a, iv b] = some r' ∧ GL (t.length + 2) r' := by
  refine RUN_G T_spec_l17Grown rfl ?_
  have h1 := hs.pos
  obtain ⟨rr, hr, w, hw, rfl⟩ := R_spec_l17Levels (grown t k f c a b) (grown_good hs hk) (by rw [grown_len]; omega) (by rw [grown_len]; omega)
  rw [grown_len] at hw
  have hw1 := w64 (x := (t.length : Int) + 1) (by omega) (by omega)
  have hr1 : roomFor 40 t.length = true := by simp [roomFor]; omega
  have hr2 : roomFor 40 (t.length + 2) = true := by simp [roomFor]; omega
  have hr3 : roomFor 40 2 = true := by decide
  have hr0 : roomFor 40 0 = true := by decide
  have hg : (t.map nd).set k [iv f, iv c, iv t.length, iv (t.length + 1), iv 0] ++ [[iv (-1), iv 0, iv 0, iv 0, iv a], [iv (-1), iv 0, iv 0, iv 0, iv b]] = (grown t k f c a b).map nd := by
    unfold grown
    rw [List.map_append, List.map_set]
    rfl
  obtain ⟨x, hx⟩ : ∃ x, t[k]? = some x := ⟨_, List.getElem?_eq_getElem hk⟩
  have hnd : ∀ y : Nd, (nd y).length = 5 := fun y => rfl
  have hnx : ∀ y : Nd, nd y = [iv y.f, iv y.c, iv y.l, iv y.r, iv y.v] := fun y => rfl
  have hset : ∀ y : List PV, ((t.map nd).set k y).length = t.length := by simp
  simp [-getElem?_pos, k_spec_l17Grown_ic, k_spec_l17Grown_rv, hk, hw1, hr0, hr1, hr2, hr3, hg, hr, hset, nds_allV, hx, hnd, hnx]
  exact ⟨w, hw, rfl⟩

/-- A drawn tree. -/
def PT (N : Nat) (v : PV) : Prop := ∃ t : List Nd, v = .agg [.own 5 (t.map nd)] ∧ t.length ≤ N

def PT1 (N : Nat) (v : PV) : Prop := ∃ t : List Nd, v = .agg [.own 5 (t.map nd)] ∧ 1 ≤ t.length ∧ t.length ≤ N

theorem lvs_mem : ∀ (t : List Nd) (i y : Int), y ∈ lvs t i → i ≤ y ∧ y < i + t.length
  | [], i, y, h => by simp [lvs] at h
  | x :: xs, i, y, h => by
    simp only [lvs] at h
    have ih := fun h => lvs_mem xs (i + 1) y h
    simp only [List.length_cons]
    split at h
    · rcases List.mem_cons.mp h with h | h
      · omega
      · have := ih h; omega
    · have := ih h; omega

theorem lvs_ne : ∀ (t : List Nd) (i : Int) (j : Nat) (x : Nd), t[j]? = some x → x.f = -1 → 0 < (lvs t i).length
  | [], _, _, _, h, _ => by simp at h
  | y :: ys, i, j, x, h, hf => by
    simp only [lvs]
    split
    · simp
    · rename_i hy
      cases j with
      | zero => simp at h; subst h; exact (hy hf).elim
      | succ j => exact lvs_ne ys (i + 1) j x (by simpa using h) hf

theorem Shaped.leaves {t : List Nd} {F : Int} (h : Shaped t F) : 0 < (lvs t 0).length := by
  have hp := h.pos
  have hx := List.getElem?_eq_getElem (l := t) (show t.length - 1 < t.length by omega)
  generalize t[t.length - 1]'(by omega) = x at hx
  by_cases hf : x.f = -1
  · exact lvs_ne t 0 _ x hx hf
  · have h1 := h.inner _ x hx hf
    have := h1.lt
    have := h1.r
    have := h1.hi
    omega

theorem leaf_shaped {v : Int} (F : Int) (h : leafV v = true) : Shaped [leafN v] F := by
  refine ⟨fun j x hx hf => ?_, fun j x hx hf => ?_, fun j j' x y hj hx hy hf => ?_, fun k h1 h2 => ?_, by simp⟩
  · cases j with
    | zero => simp at hx; subst hx; exact ⟨rfl, rfl, rfl, h⟩
    | succ j => simp at hx
  · cases j with
    | zero => simp at hx; subst hx; exact (hf rfl).elim
    | succ j => simp at hx
  · cases j with
    | zero => simp at hx; subst hx; exact (hf rfl).elim
    | succ j => simp at hx
  · simp at h2; omega

set_option maxHeartbeats 2000000 in
theorem R_spec_l17Right (B : List Int) (p : Nat) (s : Int) (hp : p ≤ B.length) (hB : B.length ≤ 9223372036854775807) (F : Int) (hF : F ≤ 9223372036854775807) : ∃ r, RUN T k_spec_l17Right [.bx [.sl 1 (byts B), iv p, iv s], iv F] = some r ∧ Draw B (PT1 31) r := by
  refine RUN_G T_spec_l17Right rfl ?_
  obtain ⟨r1, h1, v1, p1, s1, ⟨a1, rfl, a10, a11⟩, hp1, rfl⟩ := R_spec_l1Below B p s hp hB 21 (by omega)
  have a12 := a11 (by omega)
  have w1 := w64 (x := a1 - 10) (by omega) (by omega)
  have w2 := w64 (x := 50 * (a1 - 10)) (by omega) (by omega)
  have h2 := R_spec_OneLeaf (50 * (a1 - 10))
  obtain ⟨r3, h3, v3, p3, s3, ⟨a3, rfl, a30, a31⟩, hp3, rfl⟩ := R_spec_l1Below B p1 s1 hp1 hB 6 (by omega)
  have a32 := a31 (by omega)
  obtain ⟨kn, rfl⟩ : ∃ n : Nat, a3 = n := ⟨a3.toNat, by omega⟩
  have hsh : Shaped [leafN (50 * (a1 - 10))] F := leaf_shaped F (within_iff.mpr (by omega))
  generalize hlv : 50 * (a1 - 10) = lv at *
  simp [-getElem?_pos, k_spec_l17Right_ic, k_spec_l17Right_rv, h1, w1, w2, hlv, h2, h3]
  refine W_loop (fun n st => ∃ (i p ot et : Nat) (s : Int) (t : List Nd), i + n = kn ∧ p ≤ B.length ∧ Shaped t F ∧ t.length ≤ 31 ∧ st.V 0 = .ptr 0 none 0 0 0 ∧ st.V 1 = iv F ∧ st.V 4 = .ptr 1 none 0 0 0 ∧ st.V 5 = .ptr 3 none 0 0 0 ∧ st.V 6 = iv kn ∧ st.V 7 = iv i ∧ 1 < ot ∧ ot ≠ 3 ∧ ot < st.nx ∧ 3 < st.nx ∧ st.S 0 = some (.box [.sl 1 (byts B), iv p, iv s]) ∧ st.S 1 = some (.box [.e0]) ∧ st.S 3 = some (.box [.ref ot none et 0 t.length]) ∧ st.S ot = some (.row 5 (t.map nd))) ?_ kn _ ⟨0, p3, 2, 0, s3, [leafN lv], by simp, hp3, hsh, by simp, by simp, by simp, by simp, by simp, by simp, by simp, by simp, by simp, by simp, by simp, by simp, by simp, by simp, by simp⟩
  clear h1 h2 h3 hsh
  rintro n st ⟨i, p, ot, et, s, t, hi, hp, hsh, hl, v0, v1, v4, v5, v6, v7, ho, ho3, hox, hnx, hS, hS1, hS3, hSo⟩
  obtain ⟨f1, f2, f3, f4⟩ := fr hox
  obtain ⟨g1, g2, g3, g4⟩ := fr (show 0 < ot by omega)
  obtain ⟨z1, z2, z3, z4⟩ := fr (show 0 < st.nx by omega)
  obtain ⟨y1, y2, y3, y4⟩ := fr (show 1 < ot by omega)
  obtain ⟨x1, x2, x3, x4⟩ := fr (show 1 < st.nx by omega)
  obtain ⟨u1, u2, u3, u4⟩ := fr (show 3 < st.nx by omega)
  have k1 : (ot = 3) = False := eq_false ho3
  have k2 : (3 = ot) = False := eq_false (fun e => ho3 e.symm)
  simp [k_spec_l17Right_b0, v6, v7]
  refine Br_i (fun h => ?_) (fun h => ?_)
  · simp at h
    have hw := w64 (x := (i : Int) + 1) (by omega) (by omega)
    have e1 := R_spec_LeavesOf t (by omega)
    have hlv := hsh.leaves
    have hll := lvs_len t 0
    obtain ⟨r2, e2, v2, p2, s2, ⟨a2, rfl, a20, a21⟩, hp2, rfl⟩ := R_spec_l1Below B p s hp hB (lvs t 0).length (by omega)
    obtain ⟨j, rfl⟩ : ∃ n : Nat, a2 = n := ⟨a2.toNat, by omega⟩
    have hj : j < (lvs t 0).length := by have := a21 (by omega); omega
    obtain ⟨y, hy⟩ : ∃ y, (lvs t 0)[j]? = some y := ⟨_, List.getElem?_eq_getElem hj⟩
    have hy' := ints_get hy
    obtain ⟨b0, b1⟩ := lvs_mem t 0 y (List.mem_of_getElem? hy)
    obtain ⟨k, rfl⟩ : ∃ n : Nat, y = n := ⟨y.toNat, by omega⟩
    obtain ⟨r3, e3, v3, p3, s3, ⟨a3, rfl, a30, a31⟩, hp3, rfl⟩ := R_spec_l1Below B p2 s2 hp2 hB F hF
    obtain ⟨r4, e4, v4', p4, s4, ⟨a4, rfl, a40, a41⟩, hp4, rfl⟩ := R_spec_l1Below B p3 s3 hp3 hB 9 (by omega)
    obtain ⟨r5, e5, v5', p5, s5, ⟨a5, rfl, a50, a51⟩, hp5, rfl⟩ := R_spec_l1Below B p4 s4 hp4 hB 2001 (by omega)
    obtain ⟨r6, e6, v6', p6, s6, ⟨a6, rfl, a60, a61⟩, hp6, rfl⟩ := R_spec_l1Below B p5 s5 hp5 hB 2001 (by omega)
    have a42 := a41 (by omega)
    have a52 := a51 (by omega)
    have a62 := a61 (by omega)
    have w4 := w64 (x := a4 - 4) (by omega) (by omega)
    have w4' := w64 (x := 500 * (a4 - 4)) (by omega) (by omega)
    have w5 := w64 (x := a5 - 1000) (by omega) (by omega)
    have w6 := w64 (x := a6 - 1000) (by omega) (by omega)
    obtain ⟨r7, e7, w, hw7, rfl⟩ := R_spec_l17Grown t F hsh hl k (by omega) a3 (500 * (a4 - 4)) 0 0 0 (a5 - 1000) (a6 - 1000)
    have e8 := R_spec_TreeOk w F (by omega)
    cases hb : treeB w F with
    | true =>
      rw [hb] at e8
      simp [-getElem?_pos, v0, v1, v4, v5, v6, v7, hS, hS1, hS3, hSo, e1, e2, hy', hj, e3, e4, e5, e6, w4, w4', w5, w6, e7, e8, hw, f1, f2, f3, f4, g1, g2, g3, g4, z1, z2, z3, z4, y1, y2, y3, y4, x1, x2, x3, x4, u1, u2, u3, u4, k1, k2]
      unfold treeB at hb
      simp only [Bool.and_eq_true] at hb
      have hwl := within_iff.mp hb.1.1.1.2
      exact Rnd_n (n - 1) (by omega) ⟨i + 1, p6, st.nx + 1, st.ep, s6, w, by omega, hp6, shaped_of hb.1.1.2, by omega, by simp [v0], by simp [v1], by simp [v4], by simp [v5], by simp [v6], by simp, by omega, by omega, by simp, by simp; omega, by simp [f1, f2, f3, f4, g1, g2, g3, g4, z1, z2, z3, z4, y1, y2, y3, y4, x1, x2, x3, x4, u1, u2, u3, u4, k1, k2], by simp [f1, f2, f3, f4, g1, g2, g3, g4, z1, z2, z3, z4, y1, y2, y3, y4, x1, x2, x3, x4, u1, u2, u3, u4, k1, k2, hS1], by simp, by simp [f1, f2, f3, f4, g1, g2, g3, g4, z1, z2, z3, z4, y1, y2, y3, y4, x1, x2, x3, x4, u1, u2, u3, u4, k1, k2]⟩
    | false =>
      rw [hb] at e8
      simp [-getElem?_pos, v0, v1, v4, v5, v6, v7, hS, hS1, hS3, hSo, e1, e2, hy', hj, e3, e4, e5, e6, w4, w4', w5, w6, e7, e8, hw, f1, f2, f3, f4, g1, g2, g3, g4, z1, z2, z3, z4, y1, y2, y3, y4, x1, x2, x3, x4, u1, u2, u3, u4, k1, k2]
      exact Rnd_n (n - 1) (by omega) ⟨i + 1, p6, ot, et, s6, t, by omega, hp6, hsh, hl, by simp [v0], by simp [v1], by simp [v4], by simp [v5], by simp [v6], by simp, ho, ho3, by simp; omega, by simp; omega, by simp [f1, f2, f3, f4, g1, g2, g3, g4, z1, z2, z3, z4, y1, y2, y3, y4, x1, x2, x3, x4, u1, u2, u3, u4, k1, k2], by simp [f1, f2, f3, f4, g1, g2, g3, g4, z1, z2, z3, z4, y1, y2, y3, y4, x1, x2, x3, x4, u1, u2, u3, u4, k1, k2, hS1], by simp [f1, f2, f3, f4, g1, g2, g3, g4, z1, z2, z3, z4, y1, y2, y3, y4, x1, x2, x3, x4, u1, u2, u3, u4, k1, k2, hS3], by simp [f1, f2, f3, f4, g1, g2, g3, g4, z1, z2, z3, z4, y1, y2, y3, y4, x1, x2, x3, x4, u1, u2, u3, u4, k1, k2, hSo]⟩
  · simp at h
    have ho1 : 1 ≤ ot := by omega
    simp [-getElem?_pos, v0, v4, v5, ho1, hS, hS1, hS3, hSo, f1, f2, f3, f4, g1, g2, g3, g4, z1, z2, z3, z4, y1, y2, y3, y4, x1, x2, x3, x4, u1, u2, u3, u4, k1, k2]
    exact ⟨_, p, s, ⟨t, rfl, hsh.pos, hl⟩, hp, rfl⟩

theorem nds_set (t : List Nd) (k : Nat) (f c l r v : Int) : (t.map nd).set k [iv f, iv c, iv l, iv r, iv v] = (t.set k ⟨f, c, l, r, v⟩).map nd := by
  rw [List.map_set]; rfl

set_option maxHeartbeats 2000000 in
theorem R_spec_l17Bent (B : List Int) (p : Nat) (s : Int) (hp : p ≤ B.length) (hB : B.length ≤ 9223372036854775807) : ∃ r, RUN T k_spec_l17Bent [.bx [.sl 1 (byts B), iv p, iv s]] = some r ∧ Draw B (PT 32) r := by
  refine RUN_G T_spec_l17Bent rfl ?_
  obtain ⟨r1, h1, v1, p1, s1, ⟨a1, rfl, a10, a11⟩, hp1, rfl⟩ := R_spec_l1Below B p s hp hB 3 (by omega)
  have a12 := a11 (by omega)
  have w1 := w64 (x := 1 + a1) (by omega) (by omega)
  obtain ⟨r2, h2, v2, p2, s2, ⟨t, rfl, ht1, ht⟩, hp2, rfl⟩ := R_spec_l17Right B p1 s1 hp1 hB (1 + a1) (by omega)
  obtain ⟨r3, h3, v3, p3, s3, ⟨a3, rfl, a30, a31⟩, hp3, rfl⟩ := R_spec_l1Below B p2 s2 hp2 hB t.length (by omega)
  have a32 := a31 (by omega)
  obtain ⟨k, rfl⟩ : ∃ n : Nat, a3 = n := ⟨a3.toNat, by omega⟩
  have hk : k < t.length := by omega
  obtain ⟨r4, h4, v4, p4, s4, ⟨a4, rfl, a40, a41⟩, hp4, rfl⟩ := R_spec_l1Below B p3 s3 hp3 hB 14 (by omega)
  obtain ⟨x, hx⟩ : ∃ x, t[k]? = some x := ⟨_, List.getElem?_eq_getElem hk⟩
  have hnd : ∀ y : Nd, nd y = [iv y.f, iv y.c, iv y.l, iv y.r, iv y.v] := fun y => rfl
  have hr5 : roomFor 8 5 = true := by decide
  have hr6 : roomFor 8 6 = true := by decide
  have hr1 : roomFor 40 1 = true := by decide
  have hrt : roomFor 40 (t.length + 1) = true := by simp [roomFor]; omega
  by_cases c0 : a4 = 0
  · obtain ⟨r5, h5, v5, p5, s5, ⟨y, rfl, hy⟩, hp5, rfl⟩ := R_spec_l1PickInt B p4 s4 hp4 hB [-1, 0, 1, 4, -2, 9223372036854775807] (by simp)
    simp only [ints, List.map] at h5
    simp [-getElem?_pos, k_spec_l17Bent_ic, k_spec_l17Bent_rv, h1, w1, h2, h3, h4, c0, h5, hr5, hr6, hk, hx, hnd]
    exact ⟨_, p5, s5, ⟨t.set k ⟨y, x.c, x.l, x.r, x.v⟩, by rw [← nds_set], by simp; omega⟩, hp5, rfl⟩
  by_cases c1 : a4 = 1
  · obtain ⟨r5, h5, v5, p5, s5, ⟨y, rfl, hy⟩, hp5, rfl⟩ := R_spec_l1PickInt B p4 s4 hp4 hB [0, 1, 2147483648, -2147483648, 500] (by simp)
    simp only [ints, List.map] at h5
    simp [-getElem?_pos, k_spec_l17Bent_ic, k_spec_l17Bent_rv, h1, w1, h2, h3, h4, c0, c1, h5, hr5, hr6, hk, hx, hnd]
    exact ⟨_, p5, s5, ⟨t.set k ⟨x.f, y, x.l, x.r, x.v⟩, by rw [← nds_set], by simp; omega⟩, hp5, rfl⟩
  by_cases c2 : a4 = 2
  · obtain ⟨r5, h5, v5, p5, s5, ⟨y, rfl, hy⟩, hp5, rfl⟩ := R_spec_l1PickInt B p4 s4 hp4 hB [0, 1, 2, -1, 40, (k : Int)] (by simp)
    simp only [ints, List.map] at h5
    simp [-getElem?_pos, k_spec_l17Bent_ic, k_spec_l17Bent_rv, h1, w1, h2, h3, h4, c0, c1, c2, h5, hr5, hr6, hk, hx, hnd]
    exact ⟨_, p5, s5, ⟨t.set k ⟨x.f, x.c, y, x.r, x.v⟩, by rw [← nds_set], by simp; omega⟩, hp5, rfl⟩
  by_cases c3 : a4 = 3
  · obtain ⟨r5, h5, v5, p5, s5, ⟨y, rfl, hy⟩, hp5, rfl⟩ := R_spec_l1PickInt B p4 s4 hp4 hB [0, 1, 2, -1, 40, (k : Int)] (by simp)
    simp only [ints, List.map] at h5
    simp [-getElem?_pos, k_spec_l17Bent_ic, k_spec_l17Bent_rv, h1, w1, h2, h3, h4, c0, c1, c2, c3, h5, hr5, hr6, hk, hx, hnd]
    exact ⟨_, p5, s5, ⟨t.set k ⟨x.f, x.c, x.l, y, x.v⟩, by rw [← nds_set], by simp; omega⟩, hp5, rfl⟩
  by_cases c4 : a4 = 4
  · obtain ⟨r5, h5, v5, p5, s5, ⟨y, rfl, hy⟩, hp5, rfl⟩ := R_spec_l1PickInt B p4 s4 hp4 hB [0, 1, 1099511627776, 1099511627777, -1099511627777] (by simp)
    simp only [ints, List.map] at h5
    simp [-getElem?_pos, k_spec_l17Bent_ic, k_spec_l17Bent_rv, h1, w1, h2, h3, h4, c0, c1, c2, c3, c4, h5, hr5, hr6, hk, hx, hnd]
    exact ⟨_, p5, s5, ⟨t.set k ⟨x.f, x.c, x.l, x.r, y⟩, by rw [← nds_set], by simp; omega⟩, hp5, rfl⟩
  by_cases c5 : a4 = 5
  · have e := nds_snoc t ⟨-1, 0, 0, 0, 0⟩
    simp only at e
    simp [-getElem?_pos, k_spec_l17Bent_ic, k_spec_l17Bent_rv, h1, w1, h2, h3, h4, c0, c1, c2, c3, c4, c5, hr1, hrt]
    exact ⟨_, p4, s4, ⟨t ++ [⟨-1, 0, 0, 0, 0⟩], by rw [← e], by simp; omega⟩, hp4, rfl⟩
  by_cases c6 : a4 = 6
  · have hk' : k ≤ t.length := by omega
    have hkn : ¬ k = t.length := by omega
    simp [-getElem?_pos, hk', hkn, k_spec_l17Bent_ic, k_spec_l17Bent_rv, h1, w1, h2, h3, h4, c0, c1, c2, c3, c4, c5, c6]
    exact ⟨_, p4, s4, ⟨t.take k, by rw [List.map_take], by simp; omega⟩, hp4, rfl⟩
  · simp [-getElem?_pos, k_spec_l17Bent_ic, k_spec_l17Bent_rv, h1, w1, h2, h3, h4, c0, c1, c2, c3, c4, c5, c6]
    exact ⟨_, p4, s4, ⟨t, rfl, by omega⟩, hp4, rfl⟩

theorem R_laws_sameInts (l : List Int) (hl : l.length ≤ 9223372036854775807) : RUN T k_laws_sameInts [.sl 1 (ints l), .sl 1 (ints l)] = some ([bv true], []) := by
  refine RUN_W T_laws_sameInts rfl ?_
  simp [k_laws_sameInts_ic, k_laws_sameInts_rv]
  refine W_loop (fun n st => ∃ i : Nat, i + n = l.length ∧ st.V 0 = .sl 1 (ints l) ∧ st.V 1 = .sl 1 (ints l) ∧ st.V 5 = iv i) ?_ l.length _ ⟨0, by simp⟩
  rintro n st ⟨i, hi, v0, v1, v5⟩
  simp [k_laws_sameInts_b0, v0, v5]
  refine Br_i (fun h => ?_) (fun h => ?_)
  · simp at h
    obtain ⟨x, hx⟩ : ∃ x, l[i]? = some x := ⟨_, List.getElem?_eq_getElem h⟩
    have hx' := ints_get hx
    have hw := wS h hl
    simp [-getElem?_pos, v0, v1, v5, h, hx', hw]
    exact Rnd_n (n - 1) (by omega) ⟨i + 1, by omega, by simp [v0], by simp [v1], by simp⟩
  · simp

def PRw (n : Nat) (v : PV) : Prop := ∃ l : List Int, v = .own 1 (ints l) ∧ l.length = n ∧ ∀ x ∈ l, inI x

set_option maxHeartbeats 1000000 in
theorem R_spec_l18Row (B : List Int) (p : Nat) (s : Int) (hp : p ≤ B.length) (hB : B.length ≤ 9223372036854775807) (k : Nat) (hk : k ≤ 64) : ∃ r, RUN T k_spec_l18Row [.bx [.sl 1 (byts B), iv p, iv s], iv k] = some r ∧ Draw B (PRw k) r := by
  refine RUN_G T_spec_l18Row rfl ?_
  have hr0 : roomFor 8 0 = true := by decide
  have hr1 : roomFor 8 1 = true := by decide
  simp [-getElem?_pos, k_spec_l18Row_ic, k_spec_l18Row_rv, hr0]
  refine W_loop (fun n st => ∃ (i p o e : Nat) (s : Int) (m : List Int), i + n = k ∧ m.length = i ∧ (∀ n ∈ m, inI n) ∧ p ≤ B.length ∧ st.V 0 = .ptr 0 none 0 0 0 ∧ st.V 1 = iv k ∧ st.V 5 = .ref o none e 0 m.length ∧ st.V 6 = iv i ∧ 0 < o ∧ o < st.nx ∧ st.S 0 = some (.box [.sl 1 (byts B), iv p, iv s]) ∧ st.S o = some (.row 1 (ints m))) ?_ k _ ⟨0, p, 1, 0, s, [], by omega, rfl, by simp, hp, by simp, by simp, by simp, by simp, by omega, by simp, by simp, by simp [ints]⟩
  clear hp
  rintro n st ⟨i, p, o, e, s, m, hi, hm, hmi, hp, v0, v1, v5, v6, ho, hox, hS, hSo⟩
  simp [k_spec_l18Row_b0, v1, v6]
  obtain ⟨f1, f2, f3, f4⟩ := fr hox
  obtain ⟨g1, g2, g3, g4⟩ := fr ho
  obtain ⟨z1, z2, z3, z4⟩ := fr (show 0 < st.nx by omega)
  refine Br_i (fun h => ?_) (fun h => ?_)
  · simp at h
    have hw := wS h (by omega : k ≤ 9223372036854775807)
    have hr8 := room8 (n := m.length + 1) (by omega)
    obtain ⟨r1, h1, v1', p1, s1, ⟨a1, rfl⟩, hp1, rfl⟩ := R_spec_l1Once B p s hp hB 12 (by omega)
    cases a1 with
    | true =>
      obtain ⟨r2, h2, v2, p2, s2, ⟨x, rfl, hx⟩, hp2, rfl⟩ := R_spec_l1Whole B p1 s1 hp1 hB
      simp [-getElem?_pos, v0, v1, v5, v6, hS, hSo, h, h1, h2, hr1, hr8, hw, ints_snoc, f1, f2, f3, f4, g1, g2, g3, g4, z1, z2, z3, z4]
      refine Rnd_n (n - 1) (by omega) ⟨i + 1, p2, st.nx + 1, st.ep, s2, m ++ [x], by omega, by simp [hm], ?_, hp2, by simp [v0], by simp [v1], by simp, by simp, by omega, by simp, by simp [f1, f2, f3, f4, g1, g2, g3, g4, z1, z2, z3, z4], by simp⟩
      intro y hy
      rcases List.mem_append.mp hy with hy | hy
      · exact hmi y hy
      · simp at hy; subst hy; exact hx
    | false =>
      obtain ⟨r2, h2, v2, p2, s2, ⟨x, rfl, x0, x1⟩, hp2, rfl⟩ := R_spec_l1Below B p1 s1 hp1 hB 11 (by omega)
      obtain ⟨r3, h3, v3, p3, s3, ⟨y, rfl, y0, y1⟩, hp3, rfl⟩ := R_spec_l1Below B p2 s2 hp2 hB 2 (by omega)
      have x2 := x1 (by omega)
      have y2 := y1 (by omega)
      have w1 := w64 (x := x - 5) (by omega) (by omega)
      have w2 := w64 (x := 500 * (x - 5)) (by omega) (by omega)
      have w3 := w64 (x := 500 * (x - 5) + y) (by omega) (by omega)
      simp [-getElem?_pos, v0, v1, v5, v6, hS, hSo, h, h1, h2, h3, w1, w2, w3, hr1, hr8, hw, ints_snoc, f1, f2, f3, f4, g1, g2, g3, g4, z1, z2, z3, z4]
      refine Rnd_n (n - 1) (by omega) ⟨i + 1, p3, st.nx + 1, st.ep, s3, m ++ [500 * (x - 5) + y], by omega, by simp [hm], ?_, hp3, by simp [v0], by simp [v1], by simp, by simp, by omega, by simp, by simp [f1, f2, f3, f4, g1, g2, g3, g4, z1, z2, z3, z4], by simp⟩
      intro z hz
      rcases List.mem_append.mp hz with hz | hz
      · exact hmi z hz
      · simp at hz; subst hz; unfold inI; omega
  · simp at h
    have ho1 : 1 ≤ o := by omega
    simp [-getElem?_pos, v0, v5, hS, hSo, ho1, f1, f2, f3, f4, g1, g2, g3, g4]
    exact ⟨_, p, s, ⟨m, rfl, by omega, hmi⟩, hp, rfl⟩

theorem rws_snoc (L : List (List Int)) (r : List Int) : rws true L ++ [[.own 1 (ints r)]] = rws true (L ++ [r]) := by simp [rws, cel]

theorem rws_set (L : List (List Int)) (i : Nat) (r : List Int) : (rws true L).set i [.own 1 (ints r)] = rws true (L.set i r) := by simp [rws, cel]

/-- The place at which a number goes into a list, looked for from the end. -/
def pos (x : Int) (l : List Int) : Nat → Nat
  | 0 => 0
  | k + 1 => if x < l.getD k 0 then pos x l k else k + 1

def ins (l : List Int) (x : Int) : List Int := l.take (pos x l l.length) ++ x :: l.drop (pos x l l.length)

def isort (l : List Int) : List Int := l.foldl ins []

theorem foldl_take {l : List Int} {i : Nat} {x : Int} (h : l[i]? = some x) : (l.take (i + 1)).foldl ins [] = ins ((l.take i).foldl ins []) x := by
  rw [List.take_succ, h]
  simp [List.foldl_append]

theorem cut_drop (a : List Int) (p : Nat) : List.take (a.length - p) (List.drop p (ints a)) = ints (a.drop p) := by
  rw [List.take_of_length_le (by simp)]
  simp [ints, List.map_drop]

theorem cut_take (a : List Int) (p : Nat) (h : p ≤ a.length) : (if p = a.length then ints a else List.take p (ints a)) = ints (a.take p) := by
  split
  · rename_i e; subst e; rw [List.take_length]
  · simp [ints, List.map_take]

theorem pos_s (x : Int) (l : List Int) (k : Nat) : pos x l (k + 1) = if x < l.getD k 0 then pos x l k else k + 1 := rfl

def PosAt (x : Int) (l : List Int) (k P : Nat) : Prop := pos x l k = P

theorem PosAt.on {x y : Int} {l : List Int} {k P : Nat} (h : PosAt x l (k + 1) P) (hy : l[k]? = some y) (hc : x < y) : PosAt x l k P := by
  unfold PosAt at *
  rw [pos_s] at h
  simp only [List.getD, hy, Option.getD_some, if_pos hc] at h
  exact h

theorem PosAt.off {x y : Int} {l : List Int} {k P : Nat} (h : PosAt x l (k + 1) P) (hy : l[k]? = some y) (hc : ¬ x < y) : k + 1 = P := by
  unfold PosAt at *
  rw [pos_s] at h
  simp only [List.getD, hy, Option.getD_some, if_neg hc] at h
  exact h

theorem PosAt.ex (x : Int) (l : List Int) (k : Nat) : ∃ P, PosAt x l k P := ⟨_, rfl⟩

theorem PosAt.z {x : Int} {l : List Int} {P : Nat} (h : PosAt x l 0 P) : 0 = P := h

theorem ins_at {x : Int} {l : List Int} {P : Nat} (h : PosAt x l l.length P) : ins l x = l.take P ++ x :: l.drop P := by unfold PosAt at h; unfold ins; rw [h]
attribute [irreducible] pos ins PosAt

set_option maxHeartbeats 800000 in
theorem R_spec_SortInts (l : List Int) (hl : l.length ≤ 1048576) : RUN T k_spec_SortInts [.sl 1 (ints l)] = some ([.own 1 (ints (isort l))], []) := by
  refine RUN_W T_spec_SortInts rfl ?_
  have hr0 : roomFor 8 0 = true := by decide
  simp [-getElem?_pos, k_spec_SortInts_ic, k_spec_SortInts_rv, hr0]
  refine W_loop (fun n st => ∃ (i o e : Nat) (a : List Int), i + n = l.length ∧ a = (l.take i).foldl ins [] ∧ a.length = i ∧ st.V 0 = .sl 1 (ints l) ∧ st.V 3 = .ref o none e 0 a.length ∧ st.V 4 = iv i ∧ o < st.nx ∧ st.S o = some (.row 1 (ints a))) ?_ l.length _ ⟨0, 0, 0, [], by simp [ints]⟩
  rintro n st ⟨i, o, e, a, hi, ha, hal, v0, v3, v4, hox, hSo⟩
  simp [k_spec_SortInts_b1, v0, v4]
  obtain ⟨f1, f2, f3, f4⟩ := fr hox
  refine Br_i (fun h => ?_) (fun h => ?_)
  · simp at h
    obtain ⟨x, hx⟩ : ∃ x, l[i]? = some x := ⟨_, List.getElem?_eq_getElem h⟩
    have hx' := ints_get hx
    have hws := wS h (by omega : l.length ≤ 9223372036854775807)
    have hft := foldl_take hx
    rw [← ha] at hft
    obtain ⟨P, hP⟩ : ∃ P, PosAt x a a.length P := PosAt.ex x a a.length
    simp [-getElem?_pos, v0, v3, v4, hSo]
    refine W_loop (fun n' s => ∃ j : Nat, n' = j ∧ j ≤ a.length ∧ PosAt x a j P ∧ s.V 0 = .sl 1 (ints l) ∧ s.V 3 = .ref o none e 0 a.length ∧ s.V 4 = iv i ∧ s.V 5 = iv j ∧ s.nx = st.nx ∧ s.S o = some (.row 1 (ints a))) ?_ a.length _ ⟨a.length, by omega, by omega, hP, by simp [v0], by simp [v3], by simp [v4], by simp, by simp, by simp [hSo]⟩
    rintro n' s ⟨j, hjn, hj, hp, u0, u3, u4, u5, unx, hSo'⟩
    clear v0 v3 v4 hSo
    obtain ⟨g1, g2, g3, g4⟩ := fr (show o < s.nx by omega)
    obtain ⟨_, _, g5, g6⟩ := fr (show o < s.nx + 1 by omega)
    obtain ⟨_, _, g7, g8⟩ := fr (show o < s.nx + 2 by omega)
    have hcr : ∀ c : Nat, c ≤ a.length + 1 → roomFor 8 c = true := fun c hc => room8 (by omega)
    have hr1 : roomFor 8 1 = true := by decide
    by_cases h0 : 0 < j
    · obtain ⟨q, rfl⟩ : ∃ q : Nat, j = q + 1 := ⟨j - 1, by omega⟩
      have hw := w64 (x := (q : Int)) (by omega) (by omega)
      obtain ⟨y, hy⟩ : ∃ y, a[q]? = some y := ⟨_, List.getElem?_eq_getElem (by omega)⟩
      have hy' := ints_get hy
      have hqa : q < a.length := by omega
      by_cases hc : x < y
      · have hp' := hp.on hy hc
        simp [-getElem?_pos, k_spec_SortInts_b0, u0, u3, u4, u5, hSo', hx', h, h0, hw, hy', hqa, hc]
        exact Rnd_n q (by omega) ⟨q, rfl, by omega, hp', by simp [u0], by simp [u3], by simp [u4], by simp, by simp [unx], by simp [hSo']⟩
      · have hp' := hp.off hy hc
        have hk1 := hcr (q + 1) (by omega)
        have hk2 := room8 (n := q + 1 + 1) (by omega)
        have hk3 := hcr (a.length + 1) (by omega)
        have hcut := cut_take a (q + 1) (by omega)
        have hal2 : ∀ b : List Int, allV (ints b) = true := ints_allV
        have hmin : (a.take (q + 1)).length = q + 1 := by simp; omega
        have hdr := cut_drop a (q + 1)
        have hmd : (a.drop (q + 1)).length = a.length - (q + 1) := by simp
        have hsn := ints_snoc (a.take (q + 1)) x
        have hap := ints_app (a.take (q + 1) ++ [x]) (a.drop (q + 1))
        have hk4 := room8 (n := q + 2 + (a.length - (q + 1))) (by omega)
        have hin := ins_at hP
        rw [← hp'] at hin
        have hlen2 : q + 2 + (a.length - (q + 1)) = a.length + 1 := by omega
        simp [-getElem?_pos, k_spec_SortInts_b0, u0, u3, u4, u5, hSo', hx', h, h0, hw, hy', hqa, hc, hj, g1, g2, g3, g4, g5, g6, g7, g8, hr1, hk1, hk2, hk3, hcut, hal2, hmin, hdr, hmd, hsn, hap, hk4, hlen2]
        refine Rnd_n (n - 1) (by omega) ⟨i + 1, s.nx + 2 + 2, s.ep + 1, a.take (q + 1) ++ x :: a.drop (q + 1), by omega, by rw [hft, hin], by simp; omega, by simp [u0], by simp; omega, by simp [hws], by simp, by simp⟩
    · have h0' : j = 0 := by omega
      subst h0'
      have hp' := hp.z
      have hk0 := hcr 0 (by omega)
      have hk3 := hcr (a.length + 1) (by omega)
      have hcut : (if 0 = a.length then ints a else []) = ([] : List (List PV)) := by
        split
        · rename_i e
          have : a = [] := List.length_eq_zero_iff.mp e.symm
          subst this; rfl
        · rfl
      have hal2 : ∀ b : List Int, allV (ints b) = true := ints_allV
      have hin := ins_at hP
      rw [← hp'] at hin
      have hcons : [iv x] :: ints a = ints (x :: a) := rfl
      have hk4 := hcr (1 + a.length) (by omega)
      have hk5 := hcr (a.length + 1) (by omega)
      simp [-getElem?_pos, k_spec_SortInts_b0, u0, u3, u4, u5, hSo', hx', h, g1, g2, g3, g4, g5, g6, g7, g8, hr1, hk0, hk3, hcut, hal2, hcons, hk4, hk5]
      refine Rnd_n (n - 1) (by omega) ⟨i + 1, s.nx + 2 + 2, s.ep + 1, x :: a, by omega, by rw [hft, hin]; simp, by (try simp); try omega, by simp [u0], by (try simp); try omega, by simp [hws], by simp, by simp⟩
  · simp at h
    have e1 : i = l.length := by omega
    rw [e1, List.take_length] at ha
    simp [-getElem?_pos, v3, hSo, isort, ← ha]

theorem R_spec_MergedRows (a b : List Int) (h : a.length + b.length ≤ 1048576) : RUN T k_spec_MergedRows [.sl 1 (ints a), .sl 1 (ints b)] = some ([.own 1 (ints (isort (a ++ b)))], []) := by
  refine RUN_W T_spec_MergedRows rfl ?_
  have hr0 : roomFor 8 0 = true := by decide
  have h1 := room8 (n := a.length) (by omega)
  have h2 := room8 (n := a.length + b.length) (by omega)
  have h3 := R_spec_SortInts (a ++ b) (by simp; omega)
  have h4 := ints_app a b
  simp [-getElem?_pos, k_spec_MergedRows_ic, k_spec_MergedRows_rv, hr0, h1, h2, h3, h4, ints_allV]

/-- Numbers that are in two parts: the ones below a number and the ones above it. -/
theorem pos_split (x : Int) (A B : List Int) (hA : ∀ y ∈ A, y ≤ x) (hB : ∀ y ∈ B, x < y) : ∀ k, k ≤ B.length → pos x (A ++ B) (A.length + k) = A.length
  | 0, _ => by
    rcases List.eq_nil_or_concat A with rfl | ⟨A', y, rfl⟩
    · unfold pos; rfl
    · have : (A'.concat y).length + 0 = A'.length + 1 := by simp
      rw [this, pos_s]
      have hy : ((A'.concat y) ++ B).getD A'.length 0 = y := by simp [List.getD]
      rw [hy, if_neg (by have := hA y (by simp); omega)]
      simp
  | k + 1, hk => by
    rw [← Nat.add_assoc, pos_s]
    have hy : (A ++ B).getD (A.length + k) 0 = B[k]'(by omega) := by
      simp [List.getD, List.getElem?_append_right]
      rw [List.getElem?_eq_getElem (by omega)]; rfl
    rw [hy, if_pos (hB _ (List.getElem_mem _))]
    exact pos_split x A B hA hB k (by omega)

theorem ins_split (x : Int) (A B : List Int) (hA : ∀ y ∈ A, y ≤ x) (hB : ∀ y ∈ B, x < y) : ins (A ++ B) x = A ++ x :: B := by
  have h := pos_split x A B hA hB B.length (by omega)
  unfold ins
  rw [List.length_append, h]
  simp

theorem picks_mem {u : Nat → Bool} {n : Nat} {y : Int} : y ∈ picks u n ↔ ∃ j : Nat, j < n ∧ u j = true ∧ y = j := by
  unfold picks
  simp only [List.mem_map, List.mem_filter, List.mem_range]
  constructor
  · rintro ⟨j, ⟨h1, h2⟩, rfl⟩; exact ⟨j, h1, h2, rfl⟩
  · rintro ⟨j, h1, h2, rfl⟩; exact ⟨j, ⟨h1, h2⟩, rfl⟩

theorem picks_congr {u v : Nat → Bool} {n : Nat} (h : ∀ j, j < n → u j = v j) : picks u n = picks v n := by
  unfold picks
  congr 1
  apply List.filter_congr
  intro j hj
  exact h j (List.mem_range.mp hj)

theorem picks_add (u : Nat → Bool) (m r : Nat) : picks u (m + r) = picks u m ++ (picks (fun j => u (m + j)) r).map fun y => (m : Int) + y := by
  unfold picks
  rw [List.range_add, List.filter_append, List.map_append, List.filter_map, List.map_map, List.map_map]
  congr 1

theorem ins_picks {u : Nat → Bool} {n m : Nat} (hm : m < n) (hu : u m = false) : ins (picks u n) m = picks (fun j => u j || decide (j = m)) n := by
  obtain ⟨r, rfl⟩ : ∃ r, n = m + 1 + r := ⟨n - (m + 1), by omega⟩
  have e1 : picks u (m + 1 + r) = picks u m ++ (picks (fun j => u (m + 1 + j)) r).map fun y => ((m + 1 : Nat) : Int) + y := by
    rw [picks_add, picks_no hu]
  have e2 : picks (fun j => u j || decide (j = m)) (m + 1 + r) = picks u m ++ (m : Int) :: (picks (fun j => u (m + 1 + j)) r).map fun y => ((m + 1 : Nat) : Int) + y := by
    rw [picks_add, picks_yes (by simp)]
    have e3 : picks (fun j => u j || decide (j = m)) m = picks u m := picks_congr fun j hj => by
      have : ¬ j = m := by omega
      simp [this]
    have e4 : picks (fun j => (u (m + 1 + j) || decide (m + 1 + j = m))) r = picks (fun j => u (m + 1 + j)) r := picks_congr fun j hj => by
      have : ¬ m + 1 + j = m := by omega
      simp [this]
    rw [e3, e4]; simp
  rw [e1, e2]
  apply ins_split
  · intro y hy
    obtain ⟨j, h1, _, rfl⟩ := picks_mem.mp hy
    omega
  · intro y hy
    simp only [List.mem_map] at hy
    obtain ⟨z, hz, rfl⟩ := hy
    obtain ⟨j, h1, _, rfl⟩ := picks_mem.mp hz
    omega

theorem foldl_picks (n : Nat) : ∀ (l : List Int) (u : Nat → Bool), (∀ x ∈ l, ∃ m : Nat, m < n ∧ x = m ∧ u m = false) → l.Nodup → l.foldl ins (picks u n) = picks (fun j => u j || decide ((j : Int) ∈ l)) n
  | [], u, _, _ => by simp
  | x :: l, u, h, hd => by
    obtain ⟨m, hm, rfl, hu⟩ := h x (by simp)
    rw [List.foldl_cons, ins_picks hm hu]
    have hd' := List.nodup_cons.mp hd
    rw [foldl_picks n l _ (fun y hy => ?_) hd'.2]
    · apply picks_congr
      intro j _
      by_cases e : j = m
      · subst e; simp
      · have : ¬ (j : Int) = m := by omega
        simp [e, this]
    · obtain ⟨q, h1, rfl, h3⟩ := h y (by simp [hy])
      refine ⟨q, h1, rfl, ?_⟩
      have : ¬ q = m := fun e => hd'.1 (by rw [← e]; exact hy)
      simp [h3, this]

theorem picks_nodup (u : Nat → Bool) (n : Nat) : (picks u n).Nodup := by
  induction n with
  | zero => simp
  | succ n ih =>
    cases h : u n with
    | true =>
      rw [picks_yes h, List.nodup_append]
      refine ⟨ih, by simp, fun a ha b hb => ?_⟩
      obtain ⟨j, h1, _, rfl⟩ := picks_mem.mp ha
      simp at hb; omega
    | false => rw [picks_no h]; exact ih

theorem isort_picks {u v w : Nat → Bool} {n : Nat} (h : ∀ j, j < n → w j = (u j || v j)) (hd : ∀ j, j < n → ¬ (u j = true ∧ v j = true)) : isort (picks u n ++ picks v n) = picks w n := by
  unfold isort
  have h0 : ([] : List Int) = picks (fun _ => false) n := by simp [picks]
  rw [h0, foldl_picks]
  · apply picks_congr
    intro j hj
    rw [h j hj, Bool.eq_iff_iff]
    simp only [Bool.false_or, decide_eq_true_eq, List.mem_append, picks_mem, Bool.or_eq_true]
    constructor
    · rintro (⟨q, _, h2, h3⟩ | ⟨q, _, h2, h3⟩)
      · have : q = j := by omega
        subst this; exact .inl h2
      · have : q = j := by omega
        subst this; exact .inr h2
    · rintro (h2 | h2)
      · exact .inl ⟨j, hj, h2, rfl⟩
      · exact .inr ⟨j, hj, h2, rfl⟩
  · intro x hx
    rcases List.mem_append.mp hx with hx | hx
    · obtain ⟨j, h1, _, rfl⟩ := picks_mem.mp hx
      exact ⟨j, h1, rfl, rfl⟩
    · obtain ⟨j, h1, _, rfl⟩ := picks_mem.mp hx
      exact ⟨j, h1, rfl, rfl⟩
  · rw [List.nodup_append]
    refine ⟨picks_nodup u n, picks_nodup v n, fun a ha b hb => ?_⟩
    rintro rfl
    obtain ⟨j, h1, h2, rfl⟩ := picks_mem.mp ha
    obtain ⟨q, h3, h4, h5⟩ := picks_mem.mp hb
    have : q = j := by omega
    subst this
    exact hd q h1 ⟨h2, h4⟩

theorem Shaped.uniq {t : List Nd} {F : Int} (hs : Shaped t F) {i j : Nat} {x y : Nd} (hx : t[i]? = some x) (hy : t[j]? = some y) (hxf : x.f ≠ -1) (hyf : y.f ≠ -1) {c : Int} (h1 : x.l = c ∨ x.r = c) (h2 : y.l = c ∨ y.r = c) : i = j := by
  have e1 := hs.par_of hx hxf h1
  have e2 := hs.par_of hy hyf h2
  omega

structure RtOk (t : List Nd) (a : Int) (w : List Int) : Prop where
  mem : a ∈ w
  ge : ∀ y ∈ w, a ≤ y
  dn : ∀ (k : Nat) (x : Nd), t[k]? = some x → x.f ≠ -1 → (k : Int) ∈ w → x.l ∈ w ∨ x.r ∈ w
  up : ∀ (k : Nat) (x : Nd), t[k]? = some x → x.f ≠ -1 → (x.l ∈ w ∨ x.r ∈ w) → x.l = a ∨ x.r = a ∨ (k : Int) ∈ w
  one : ∀ (k : Nat) (x : Nd), t[k]? = some x → x.f ≠ -1 → ¬ (x.l ∈ w ∧ x.r ∈ w)

theorem rt_ok {t : List Nd} {F : Int} (hs : Shaped t F) (row : List Int) : ∀ (n : Nat) (a : Int) (w : List Int), rt t row n a = some w → RtOk t a w
  | 0, a, w, h => by simp [rt] at h
  | n + 1, a, w, h => by
    rw [rt] at h
    split at h
    · cases h
    rename_i xa hxa
    have ha0 : 0 ≤ a := by
      by_cases c : 0 ≤ a
      · exact c
      · rw [if_neg c] at hxa; cases hxa
    rw [if_pos ha0] at hxa
    obtain ⟨an, rfl⟩ : ∃ k : Nat, a = k := ⟨a.toNat, by omega⟩
    simp only [Int.toNat_natCast] at hxa
    split at h
    · rename_i hf
      cases h
      refine ⟨by simp, by simp, fun k x hx hxf hk => ?_, fun k x hx hxf hk => ?_, fun k x hx hxf hk => ?_⟩
      · simp only [List.mem_singleton] at hk
        have : k = an := by omega
        subst this
        rw [hxa] at hx; cases hx; exact (hxf hf).elim
      · simp at hk; omega
      · have := (hs.inner k x hx hxf).r
        simp at hk; omega
    · rename_i hf
      split at h
      · cases h
      rename_i y hy
      simp only [Option.map_eq_some_iff] at h
      obtain ⟨w', hw', rfl⟩ := h
      have hin := hs.inner an xa hxa hf
      have i1 := hin.lt
      have i2 := hin.r
      generalize hb : (if y ≤ xa.c then xa.l else xa.r) = b at hw'
      have hbc : xa.l = b ∨ xa.r = b := by
        split at hb
        · exact .inl hb
        · exact .inr hb
      have ih := rt_ok hs row n b w' hw'
      have hab : (an : Int) < b := by omega
      refine ⟨by simp, fun z hz => ?_, fun k x hx hxf hk => ?_, fun k x hx hxf hk => ?_, fun k x hx hxf hk => ?_⟩
      · rcases List.mem_cons.mp hz with hz | hz
        · omega
        · have := ih.ge z hz; omega
      · rcases List.mem_cons.mp hk with hk | hk
        · have : k = an := by omega
          subst this
          rw [hxa] at hx; cases hx
          rcases hbc with hbc | hbc
          · left; rw [hbc]; exact List.mem_cons_of_mem _ ih.mem
          · right; rw [hbc]; exact List.mem_cons_of_mem _ ih.mem
        · rcases ih.dn k x hx hxf hk with h | h
          · exact .inl (List.mem_cons_of_mem _ h)
          · exact .inr (List.mem_cons_of_mem _ h)
      · have key : (x.l ∈ w' ∨ x.r ∈ w') → (k : Int) ∈ (an : Int) :: w' := fun h => by
          rcases ih.up k x hx hxf h with e | e | e
          · have := hs.uniq hx hxa hxf hf (.inl e) hbc
            subst this; simp
          · have := hs.uniq hx hxa hxf hf (.inr e) hbc
            subst this; simp
          · exact List.mem_cons_of_mem _ e
        rcases hk with hk | hk
        · rcases List.mem_cons.mp hk with e | e
          · exact .inl e
          · exact .inr (.inr (key (.inl e)))
        · rcases List.mem_cons.mp hk with e | e
          · exact .inr (.inl e)
          · exact .inr (.inr (key (.inr e)))
      · have k1 := (hs.inner k x hx hxf).lt
        have k2 := (hs.inner k x hx hxf).r
        have key : (x.l ∈ w' ∨ x.r ∈ w') → k = an ∨ b ≤ (k : Int) := fun h => by
          rcases ih.up k x hx hxf h with e | e | e
          · exact .inl (hs.uniq hx hxa hxf hf (.inl e) hbc)
          · exact .inl (hs.uniq hx hxa hxf hf (.inr e) hbc)
          · exact .inr (ih.ge _ e)
        obtain ⟨hl, hr⟩ := hk
        rcases List.mem_cons.mp hl with el | el <;> rcases List.mem_cons.mp hr with er | er
        · omega
        · have := key (.inr er); omega
        · have := key (.inl el)
          have := ih.ge _ el; omega
        · exact ih.one k x hx hxf ⟨el, er⟩

theorem hasI_iff {l : List Int} {x : Int} : hasI l x = true ↔ x ∈ l := by
  unfold hasI
  simp

theorem way2_split {t : List Nd} {F : Int} (hs : Shaped t F) (row : List Int) {k : Nat} {x : Nd} (hx : t[k]? = some x) (hf : x.f ≠ -1) : hasI (way2 t row) k = (hasI (way2 t row) x.l || hasI (way2 t row) x.r) ∧ ¬ (hasI (way2 t row) x.l = true ∧ hasI (way2 t row) x.r = true) := by
  unfold way2
  cases h : rt t row (t.length + 1) 0 with
  | none => simp [hasI]
  | some w =>
    have ok := rt_ok hs row _ _ _ h
    have hlo := (hs.inner k x hx hf).lo
    have hr := (hs.inner k x hx hf).r
    simp only [Option.getD_some]
    refine ⟨?_, ?_⟩
    · rw [Bool.eq_iff_iff]
      simp only [Bool.or_eq_true, hasI_iff]
      constructor
      · exact ok.dn k x hx hf
      · intro h
        rcases ok.up k x hx hf h with e | e | e
        · omega
        · omega
        · exact e
    · simp only [hasI_iff]
      exact ok.one k x hx hf

theorem rowsAt_split {t : List Nd} {F : Int} (hs : Shaped t F) (L : List (List Int)) {k : Nat} {x : Nd} (hx : t[k]? = some x) (hf : x.f ≠ -1) : isort (rowsAt t x.l L ++ rowsAt t x.r L) = rowsAt t k L := by
  unfold rowsAt
  apply isort_picks
  · intro j hj
    have hr : L[j]? = some L[j] := List.getElem?_eq_getElem hj
    rw [thru_eq hr, thru_eq hr, thru_eq hr]
    exact (way2_split hs _ hx hf).1
  · intro j hj
    have hr : L[j]? = some L[j] := List.getElem?_eq_getElem hj
    rw [thru_eq hr, thru_eq hr]
    exact (way2_split hs _ hx hf).2

set_option maxHeartbeats 2000000 in
theorem R_spec_DrawRowsAt (B : List Int) (hB : B.length ≤ 9223372036854775807) : ∃ r, RUN T k_spec_DrawRowsAt [.sl 1 (byts B)] = some r ∧ ∃ (t : List Nd) (k : Int) (L : List (List Int)), t.length ≤ 32 ∧ L.length ≤ 64 ∧ (∀ r ∈ L, r.length ≤ 64) ∧ r = ([.agg [.own 5 (t.map nd)], iv k, .own 1 (rws true L)], []) := by
  refine RUN_G T_spec_DrawRowsAt rfl ?_
  obtain ⟨r, h, s, rfl⟩ := R_spec_l1New B hB
  simp only [Int.natCast_zero] at h
  obtain ⟨r2, h2, v2, p2, s2, ⟨t, rfl, ht⟩, hp2, rfl⟩ := R_spec_l17Bent B 0 s (by omega) hB
  simp only [Int.natCast_zero] at h2
  obtain ⟨r3, h3, v3, p3, s3, ⟨a3, rfl, a30, a31⟩, hp3, rfl⟩ := R_spec_l1Below B p2 s2 hp2 hB 7 (by omega)
  have a32 := a31 (by omega)
  obtain ⟨k, rfl⟩ : ∃ n : Nat, a3 = n := ⟨a3.toNat, by omega⟩
  have hr0 : roomFor 24 0 = true := by decide
  simp [-getElem?_pos, k_spec_DrawRowsAt_ic, k_spec_DrawRowsAt_rv, h, h2, h3, hr0]
  refine W_loop (fun n st => ∃ (i p o e : Nat) (s : Int) (L : List (List Int)), i + n = k ∧ L.length = i ∧ (∀ r ∈ L, r.length ≤ 64) ∧ p ≤ B.length ∧ st.V 0 = .sl 1 (byts B) ∧ st.V 2 = .ptr 0 none 0 0 0 ∧ st.V 5 = .ptr 1 none 0 0 0 ∧ st.V 6 = .ptr 3 none 0 0 0 ∧ st.V 7 = .ref o none e 0 L.length ∧ st.V 8 = iv k ∧ st.V 9 = iv i ∧ 3 < o ∧ o < st.nx ∧ st.S 0 = some (.box [.e0]) ∧ st.S 1 = some (.box [.sl 1 (byts B), iv p, iv s]) ∧ st.S 2 = some (.row 5 (t.map nd)) ∧ st.S 3 = some (.box [.ref 2 none 0 0 t.length]) ∧ st.S o = some (.row 1 (rws true L))) ?_ k _ ⟨0, p3, 4, 0, s3, [], by omega, rfl, by simp, hp3, by simp, by simp, by simp, by simp, by simp, by simp, by simp, by omega, by simp, by simp, by simp, by simp, by simp, by simp [rws]⟩
  clear h h2 h3 hp2 hp3
  rintro n st ⟨i, p, o, e, s, L, hi, hL, hLr, hp, v0, v2, v5, v6, v7, v8, v9, ho, hox, hS, hS1, hS2, hS3, hSo⟩
  obtain ⟨f0a, f0b, f0c, f0d⟩ := fr (show 0 < st.nx by omega)
  obtain ⟨g0a, g0b, g0c, g0d⟩ := fr (show 0 < o by omega)
  obtain ⟨f1a, f1b, f1c, f1d⟩ := fr (show 1 < st.nx by omega)
  obtain ⟨g1a, g1b, g1c, g1d⟩ := fr (show 1 < o by omega)
  obtain ⟨f2a, f2b, f2c, f2d⟩ := fr (show 2 < st.nx by omega)
  obtain ⟨g2a, g2b, g2c, g2d⟩ := fr (show 2 < o by omega)
  obtain ⟨f3a, f3b, f3c, f3d⟩ := fr (show 3 < st.nx by omega)
  obtain ⟨g3a, g3b, g3c, g3d⟩ := fr (show 3 < o by omega)
  obtain ⟨f4a, f4b, f4c, f4d⟩ := fr (show 3 < st.nx by omega)
  obtain ⟨g4a, g4b, g4c, g4d⟩ := fr (show 3 < o by omega)
  obtain ⟨x1, x2, x3, x4⟩ := fr hox
  simp [k_spec_DrawRowsAt_b0, v8, v9]
  refine Br_i (fun h => ?_) (fun h => ?_)
  · simp at h
    have hw := wS h (by omega : k ≤ 9223372036854775807)
    have hr1 : roomFor 24 1 = true := by decide
    have hr24 : roomFor 24 (L.length + 1) = true := by simp [roomFor]; omega
    obtain ⟨r5, h5, v5', p5, s5, ⟨row, rfl, hr, _⟩, hp5, rfl⟩ := R_spec_l18Row B p s hp hB 3 (by omega)
    simp only [Int.cast_ofNat_Int] at h5
    have e5 := rws_snoc L row
    simp [-getElem?_pos, v0, v2, v5, v6, v7, v8, v9, hS, hS1, hS2, hS3, hSo, h, h5, hw, hr1, hr24, e5, f0a, f0b, f0c, f0d, g0a, g0b, g0c, g0d, f1a, f1b, f1c, f1d, g1a, g1b, g1c, g1d, f2a, f2b, f2c, f2d, g2a, g2b, g2c, g2d, f3a, f3b, f3c, f3d, g3a, g3b, g3c, g3d, f4a, f4b, f4c, f4d, g4a, g4b, g4c, g4d, x1, x2, x3, x4]
    refine Rnd_n (n - 1) (by omega) ⟨i + 1, p5, st.nx + 2, st.ep, s5, L ++ [row], by omega, by simp [hL], ?_, hp5, by simp [v0], by simp [v2], by simp [v5], by simp [v6], by simp, by simp [v8], by simp, by omega, by simp, by simp [f0a, f0b, f0c, f0d, g0a, g0b, g0c, g0d, f1a, f1b, f1c, f1d, g1a, g1b, g1c, g1d, f2a, f2b, f2c, f2d, g2a, g2b, g2c, g2d, f3a, f3b, f3c, f3d, g3a, g3b, g3c, g3d, f4a, f4b, f4c, f4d, g4a, g4b, g4c, g4d, x1, x2, x3, x4, hS], by simp [f0a, f0b, f0c, f0d, g0a, g0b, g0c, g0d, f1a, f1b, f1c, f1d, g1a, g1b, g1c, g1d, f2a, f2b, f2c, f2d, g2a, g2b, g2c, g2d, f3a, f3b, f3c, f3d, g3a, g3b, g3c, g3d, f4a, f4b, f4c, f4d, g4a, g4b, g4c, g4d, x1, x2, x3, x4], by simp [f0a, f0b, f0c, f0d, g0a, g0b, g0c, g0d, f1a, f1b, f1c, f1d, g1a, g1b, g1c, g1d, f2a, f2b, f2c, f2d, g2a, g2b, g2c, g2d, f3a, f3b, f3c, f3d, g3a, g3b, g3c, g3d, f4a, f4b, f4c, f4d, g4a, g4b, g4c, g4d, x1, x2, x3, x4, hS2], by simp [f0a, f0b, f0c, f0d, g0a, g0b, g0c, g0d, f1a, f1b, f1c, f1d, g1a, g1b, g1c, g1d, f2a, f2b, f2c, f2d, g2a, g2b, g2c, g2d, f3a, f3b, f3c, f3d, g3a, g3b, g3c, g3d, f4a, f4b, f4c, f4d, g4a, g4b, g4c, g4d, x1, x2, x3, x4, hS3], by simp⟩
    intro y hy
    rcases List.mem_append.mp hy with hy | hy
    · exact hLr y hy
    · simp at hy; subst hy; omega
  · simp at h
    have hik : i = k := by omega
    have hw2 := w64 (x := (t.length : Int) + 2) (by omega) (by omega)
    have ho1 : 1 ≤ o := by omega
    by_cases h0 : 0 < k
    · obtain ⟨r5, h5, v5', p5, s5, ⟨b5, rfl⟩, hp5, rfl⟩ := R_spec_l1Once B p s hp hB 8 (by omega)
      obtain ⟨r6, h6, v6', p6, s6, ⟨a6, rfl, a60, a61⟩, hp6, rfl⟩ := R_spec_l1Below B p5 s5 hp5 hB (t.length + 2) (by omega)
      have a62 := a61 (by omega)
      have hw3 := w64 (x := a6 - 1) (by omega) (by omega)
      cases b5 with
      | true =>
        have hr1 : roomFor 8 0 = true := by decide
        obtain ⟨y, hy⟩ : ∃ y, L[0]? = some y := ⟨_, List.getElem?_eq_getElem (by omega)⟩
        have hy' := rws_get (q := true) hy
        have hlt : 0 < L.length := by omega
        simp [-getElem?_pos, v0, v2, v5, v6, v7, v8, v9, hS, hS1, hS2, hS3, hSo, h0, h5, h6, hw2, hw3, hr1, hy', hlt, ho1, f0a, f0b, f0c, f0d, g0a, g0b, g0c, g0d, f1a, f1b, f1c, f1d, g1a, g1b, g1c, g1d, f2a, f2b, f2c, f2d, g2a, g2b, g2c, g2d, f3a, f3b, f3c, f3d, g3a, g3b, g3c, g3d, f4a, f4b, f4c, f4d, g4a, g4b, g4c, g4d, x1, x2, x3, x4]
        refine ⟨t, ht, a6 - 1, L.set 0 [], by simp; omega, fun r hr => ?_, rfl, rfl, by rw [← rws_set]; rfl⟩
        rcases List.mem_or_eq_of_mem_set hr with h | h
        · exact hLr r h
        · subst h; simp
      | false =>
        simp [-getElem?_pos, v0, v2, v5, v6, v7, v8, v9, hS, hS1, hS2, hS3, hSo, h0, h5, h6, hw2, hw3, ho1, f0a, f0b, f0c, f0d, g0a, g0b, g0c, g0d, f1a, f1b, f1c, f1d, g1a, g1b, g1c, g1d, f2a, f2b, f2c, f2d, g2a, g2b, g2c, g2d, f3a, f3b, f3c, f3d, g3a, g3b, g3c, g3d, f4a, f4b, f4c, f4d, g4a, g4b, g4c, g4d, x1, x2, x3, x4]
        exact ⟨t, ht, a6 - 1, L, by omega, hLr, rfl, rfl, rfl⟩
    · obtain ⟨r6, h6, v6', p6, s6, ⟨a6, rfl, a60, a61⟩, hp6, rfl⟩ := R_spec_l1Below B p s hp hB (t.length + 2) (by omega)
      have a62 := a61 (by omega)
      have hw3 := w64 (x := a6 - 1) (by omega) (by omega)
      simp [-getElem?_pos, v0, v2, v5, v6, v7, v8, v9, hS, hS1, hS2, hS3, hSo, h0, h6, hw2, hw3, ho1, f0a, f0b, f0c, f0d, g0a, g0b, g0c, g0d, f1a, f1b, f1c, f1d, g1a, g1b, g1c, g1d, f2a, f2b, f2c, f2d, g2a, g2b, g2c, g2d, f3a, f3b, f3c, f3d, g3a, g3b, g3c, g3d, f4a, f4b, f4c, f4d, g4a, g4b, g4c, g4d, x1, x2, x3, x4]
      exact ⟨t, ht, a6 - 1, L, by omega, hLr, rfl, rfl, rfl⟩

set_option maxHeartbeats 1000000 in
theorem law_FnRowsAt (B : List Int) (hB : B.length ≤ 9223372036854775807) : RUN T k_laws_FnRowsAt [.sl 1 (byts B)] = some ([bv true], []) := by
  refine RUN_W T_laws_FnRowsAt rfl ?_
  have hb := R_laws_big (byts B)
  rw [byts_len] at hb
  by_cases c : (1048576 : Int) < B.length
  · simp [-getElem?_pos, k_laws_FnRowsAt_ic, k_laws_FnRowsAt_rv, hb, c]
  obtain ⟨r, hd, t, k, L, ht, hL, hLr, rfl⟩ := R_spec_DrawRowsAt B hB
  have hLr1 : ∀ r ∈ L, r.length ≤ 1048576 := fun r h => Nat.le_trans (hLr r h) (by omega)
  have h1 := fun k => R_impl_RowsAt true t k L (by omega) (by omega) hLr1
  have h2 := R_spec_RowsAt true t k L (by omega) (by omega) hLr1
  have hlen : ∀ k, (rowsAt t k L).length ≤ L.length := fun k => picks_len _ _
  have h3 := R_laws_sameInts (rowsAt t k L) (by have := hlen k; omega)
  have h4 := R_spec_TreeOk t 3 (by omega)
  cases hok : treeB t 3 with
  | false =>
    rw [hok] at h4
    simp [-getElem?_pos, k_laws_FnRowsAt_ic, k_laws_FnRowsAt_rv, hb, c, hd, h1, h2, h3, h4]
  | true =>
    rw [hok] at h4
    unfold treeB at hok
    simp only [Bool.and_eq_true] at hok
    have hs := shaped_of hok.1.1.2
    by_cases k0 : k < 0
    · simp [-getElem?_pos, k_laws_FnRowsAt_ic, k_laws_FnRowsAt_rv, hb, c, hd, h1, h2, h3, h4, k0]
    obtain ⟨kn, rfl⟩ : ∃ n : Nat, k = n := ⟨k.toNat, by omega⟩
    rcases Classical.propComplete (t.length ≤ kn) with k1 | k1
    · simp [-getElem?_pos, k_laws_FnRowsAt_ic, k_laws_FnRowsAt_rv, hb, c, hd, h1, h2, h3, h4, k0, k1]
    have k2 : kn < t.length := by have := of_eq_false k1; omega
    obtain ⟨x, hx⟩ : ∃ x, t[kn]? = some x := ⟨_, List.getElem?_eq_getElem k2⟩
    have hx' := nds_get hx
    by_cases f0 : x.f < 0
    · simp [-getElem?_pos, k_laws_FnRowsAt_ic, k_laws_FnRowsAt_rv, hb, c, hd, h1, h2, h3, h4, k0, k1, k2, hx', f0]
    · have hsp := rowsAt_split hs L hx (by omega)
      have hl := hlen x.l
      have hr := hlen x.r
      have h5 := R_spec_MergedRows (rowsAt t x.l L) (rowsAt t x.r L) (by omega)
      rw [hsp] at h5
      simp [-getElem?_pos, k_laws_FnRowsAt_ic, k_laws_FnRowsAt_rv, hb, c, hd, h1, h2, h3, h4, h5, k0, k1, k2, hx', f0]

theorem shp_byteL (cs : List PV) (h : ShpL [.int .u8] cs) : ∃ n : Int, [PV.v (.int .u8 n)] = cs ∧ True := by
  simp only [ShpL, Shp] at h
  obtain ⟨_, _, rfl, ⟨a, rfl, h1⟩, rfl⟩ := h
  exact ⟨a, rfl, trivial⟩

theorem shp_bytes {c : PV} (h : ShpA false [.sl [.int .u8]] c) : ∃ B : List Int, c = .sl 1 (byts B) ∧ B.length ≤ 9223372036854775807 := by
  simp only [ShpA, Bool.false_eq_true, if_false, ShpL, Shp] at h
  obtain ⟨c', r, e, ⟨es, he, h1, h2⟩, hr⟩ := h
  simp only [List.cons.injEq] at e
  obtain ⟨l, hl, hp⟩ := rows_of (f := fun n : Int => [PV.v (.int .u8 n)]) (tys := [.int .u8]) shp_byteL h2
  subst hl
  simp [maxLen] at h1
  exact ⟨l, e.1.trans he, by omega⟩

end Go.Pe
