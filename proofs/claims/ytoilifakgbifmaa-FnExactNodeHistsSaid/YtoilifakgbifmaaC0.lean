/- What each function answers by the evaluator, and the law; for each answer its own conditions stand ahead of it. -/
import Derived.Test.YtoilifakgbifmaaK0
import Derived.Test.YtoilifakgbifmaaEvB2
import Derived.IntWalk
set_option linter.all false
namespace Go.Pe
open Go
theorem w64 {x : Int} (h1 : -9223372036854775808 ≤ x) (h2 : x ≤ 9223372036854775807) : IntKind.i64.wrap x = x := IntWalk.i64_in x ⟨h1, h2⟩

@[simp] theorem w64s {x : Int} (h1 : -9223372036854775808 ≤ x) (h2 : x ≤ 9223372036854775807) : IntKind.i64.wrap x = x := w64 h1 h2

structure Nd where
  f : Int
  c : Int
  l : Int
  r : Int
  v : Int
deriving DecidableEq

def nd (n : Nd) : List PV := [iv n.f, iv n.c, iv n.l, iv n.r, iv n.v]

@[simp] theorem R_impl_within (a b c : Int) : RUN T k_impl_within [iv a, iv b, iv c] = some ([bv (decide (b ≤ a) && decide (a ≤ c))], []) := by
  refine RUN_W T_impl_within rfl ?_
  simp [k_impl_within_ic, k_impl_within_rv]
  refine Br_i (fun h => ?_) (fun h => ?_) <;> simp [h]

@[simp] theorem R_spec_l1In (a b c : Int) : RUN T k_spec_l1In [iv a, iv b, iv c] = some ([bv (decide (b ≤ a) && decide (a ≤ c))], []) := by
  refine RUN_W T_spec_l1In rfl ?_
  simp [k_spec_l1In_ic, k_spec_l1In_rv]
  refine Br_i (fun h => ?_) (fun h => ?_) <;> simp [h]

/-- The first place where something holds, -1 if there is none. -/
def fidx {α : Type} (p : α → Bool) (l : List α) : Int := match l.findIdx? p with
  | some i => (i : Int)
  | none => -1

theorem fidx_none {α : Type} {p : α → Bool} {l : List α} (h : ∀ (j : Nat) (x : α), j < l.length → l[j]? = some x → p x = false) : fidx p l = -1 := by
  unfold fidx
  have : l.findIdx? p = none := by
    rw [List.findIdx?_eq_none_iff]
    intro x hx
    obtain ⟨j, hj⟩ := List.getElem?_of_mem hx
    exact h j x (List.getElem?_eq_some_iff.mp hj).1 hj
  rw [this]

theorem fidx_some {α : Type} {p : α → Bool} {l : List α} {i : Nat} {x : α} (hi : l[i]? = some x) (hp : p x = true) (h : ∀ (j : Nat) (x : α), j < i → l[j]? = some x → p x = false) : fidx p l = i := by
  unfold fidx
  have : l.findIdx? p = some i := by
    rw [List.findIdx?_eq_some_iff_getElem]
    obtain ⟨h1, h2⟩ := List.getElem?_eq_some_iff.mp hi
    refine ⟨h1, by rw [h2]; exact hp, fun j hj => ?_⟩
    have := h j l[j] hj (List.getElem?_eq_getElem (by omega))
    simp [this]
  rw [this]

theorem no_snoc {α : Type} {p : α → Bool} {l : List α} {i : Nat} {x : α} (h : ∀ (j : Nat) (x : α), j < i → l[j]? = some x → p x = false) (hi : l[i]? = some x) (hp : p x = false) : ∀ (j : Nat) (x : α), j < i + 1 → l[j]? = some x → p x = false := by
  intro j y hj hy
  by_cases e : j = i
  · subst e; rw [hi] at hy; cases hy; exact hp
  · exact h j y (by omega) hy

/-- A node that has a node below it. -/
def above (k : Int) (n : Nd) : Bool := !decide (n.f = -1) && (decide (n.l = k) || decide (n.r = k))

def par (t : List Nd) (k : Int) : Int := fidx (above k) t

theorem wS {i n : Nat} (h : i < n) (hn : n ≤ 9223372036854775807) : IntKind.i64.wrap ((i : Int) + 1) = (i : Int) + 1 := w64 (by omega) (by omega)

/-- A row that is filled from its beginning on. -/
def fil {α β : Type} (f : α → β) (z : β) (l : List α) (i : Nat) : List β := (l.take i).map f ++ List.replicate (l.length - i) z

theorem fil_set {α β : Type} {f : α → β} {l : List α} {z : β} {i : Nat} {x : α} (hx : l[i]? = some x) : (fil f z l i).set i (f x) = fil f z l (i + 1) := by
  unfold fil
  obtain ⟨h1, h2⟩ := List.getElem?_eq_some_iff.mp hx
  apply List.ext_getElem?
  intro j
  rw [List.getElem?_set]
  simp only [List.length_append, List.length_map, List.length_take, List.length_replicate]
  by_cases e : i = j
  · subst e
    rw [if_pos rfl, if_pos (by omega), List.getElem?_append_left (by simp; omega)]
    simp [List.getElem?_take, hx]
  · rw [if_neg e]
    by_cases hj : j < i
    · rw [List.getElem?_append_left (by simp; omega), List.getElem?_append_left (by simp; omega)]
      simp [List.getElem?_take, hj, show j < i + 1 by omega]
    · rw [List.getElem?_append_right (by simp; omega), List.getElem?_append_right (by simp; omega)]
      simp [List.getElem?_replicate]
      congr 1
      simp; omega

theorem fil_get {α β : Type} {f : α → β} {l : List α} {z : β} {i : Nat} (h : i < l.length) : (fil f z l i)[i]? = some z := by
  unfold fil
  rw [List.getElem?_append_right (by simp; omega)]
  simp [List.getElem?_replicate]; omega

theorem fil_len {α β : Type} {f : α → β} {l : List α} {z : β} {i : Nat} (h : i ≤ l.length) : (fil f z l i).length = l.length := by unfold fil; simp; omega

theorem fil_0 {α β : Type} {f : α → β} {l : List α} {z : β} : fil f z l 0 = List.replicate l.length z := by simp [fil]

theorem fil_all {α β : Type} {f : α → β} {l : List α} {z : β} {i : Nat} (h : i = l.length) : fil f z l i = l.map f := by subst h; simp [fil]

def ints (l : List Int) : List (List PV) := l.map fun n => [iv n]

@[simp] theorem ints_len (l : List Int) : (ints l).length = l.length := by simp [ints]

theorem ints_get {l : List Int} {i : Nat} {x : Int} (h : l[i]? = some x) : (ints l)[i]? = some [iv x] := by simp [ints, h]

@[simp] theorem ints_nil : ints [] = [] := rfl

/-- The nodes above a node, from it on, if they are fewer than a number. -/
def anc (t : List Nd) : Nat → Int → Option (List Int)
  | 0, _ => none
  | n + 1, k => if par t k < 0 then some [] else (anc t n (par t k)).map (par t k :: ·)

def way (t : List Nd) (k : Int) : List Int := if 0 ≤ k ∧ k ≤ t.length - 1 then match anc t 32 k with
    | some l => (k :: l).reverse
    | none => []
  else []

theorem room8 {n : Nat} (h : n ≤ 17592186044416) : roomFor 8 n = true := by simp [roomFor]; omega

/-- A row whose first elements have been written anew. -/
def mix {β : Type} (f : Nat → β) (l : List β) (i : Nat) : List β := (List.range i).map f ++ l.drop i

theorem mix_0 {β : Type} {f : Nat → β} {l : List β} : mix f l 0 = l := by simp [mix]

theorem mix_all {β : Type} {f : Nat → β} {l : List β} {i : Nat} (h : i = l.length) : mix f l i = (List.range i).map f := by subst h; simp [mix]

theorem mix_len {β : Type} {f : Nat → β} {l : List β} {i : Nat} (h : i ≤ l.length) : (mix f l i).length = l.length := by simp [mix]; omega

theorem mix_get {β : Type} {f : Nat → β} {l : List β} {i : Nat} : (mix f l i)[i]? = l[i]? := by
  unfold mix
  rw [List.getElem?_append_right (by simp)]
  simp

theorem mix_set {β : Type} {f : Nat → β} {l : List β} {i : Nat} (h : i < l.length) : (mix f l i).set i (f i) = mix f l (i + 1) := by
  unfold mix
  apply List.ext_getElem?
  intro j
  rw [List.getElem?_set]
  simp only [List.length_append, List.length_map, List.length_range, List.length_drop]
  by_cases e : i = j
  · subst e
    rw [if_pos rfl, if_pos (by omega), List.getElem?_append_left (by simp)]
    simp
  · rw [if_neg e]
    by_cases hj : j < i
    · rw [List.getElem?_append_left (by simp; omega), List.getElem?_append_left (by simp; omega)]
      simp [hj, show j < i + 1 by omega]
    · rw [List.getElem?_append_right (by simp; omega), List.getElem?_append_right (by simp; omega)]
      simp
      congr 1
      omega

theorem R_laws_szIntS (es : List (List PV)) (left : Int) (h0 : 0 ≤ left) (h1 : left ≤ 1048576) (hl : es.length ≤ 9223372036854775807) : RUN T k_laws_szIntS [.sl 1 es, iv left] = some ([iv (if left - es.length < 0 then -1 else left - es.length)], []) := by
  refine RUN_W T_laws_szIntS rfl ?_
  have e := w64 (x := left - es.length) (by omega) (by omega)
  simp [k_laws_szIntS_ic, k_laws_szIntS_rv, e]
  refine Br_i (fun h => ?_) (fun h => ?_) <;> simp at h <;> simp [h]
  omega

theorem R_laws_toIntS (l : List Int) (hl : l.length ≤ 1048576) : RUN T k_laws_toIntS [.sl 1 (ints l)] = some ([.own 1 (ints l)], []) := by
  refine RUN_W T_laws_toIntS rfl ?_
  have hr : roomFor 8 l.length = true := room8 (by omega)
  simp [k_laws_toIntS_ic, k_laws_toIntS_rv, hr]
  refine W_loop (fun n st => ∃ i : Nat, i + n = l.length ∧ st.V 0 = .sl 1 (ints l) ∧ st.V 3 = .ref 0 none 0 0 l.length ∧ st.V 4 = iv i ∧ st.ep = 0 ∧ st.S 0 = some (.row 1 (fil (fun n => [iv n]) [iv 0] l i))) ?_ l.length _ ⟨0, by simp [fil_0]⟩
  rintro n st ⟨i, hi, h0, h3, h4, hep, hS⟩
  simp [k_laws_toIntS_b0, h0, h3, h4, hS]
  refine Br_i (fun h => ?_) (fun h => ?_)
  · simp at h
    obtain ⟨x, hx⟩ : ∃ x, l[i]? = some x := ⟨_, List.getElem?_eq_getElem h⟩
    have hw := wS h (by omega : l.length ≤ 9223372036854775807)
    have hg := fil_get (f := fun n => [iv n]) (z := [iv 0]) h
    have hs := fil_set (f := fun n => [iv n]) (z := [iv 0]) hx
    have hx' := ints_get hx
    simp [-getElem?_pos, h0, h3, h4, hS, hep, h, hx', hw, hg, hs, fil_len (Nat.le_of_lt h)]
    exact Rnd_n (n - 1) (by omega) ⟨i + 1, by omega, by simp [h0], by simp [h3], by simp, by simp, by simp⟩
  · simp at h
    have e := fil_all (f := fun n => [iv n]) (z := [iv 0]) (by omega : i = l.length)
    simp [h3, hS, e, ints]

theorem R_laws_eqIntS (l : List Int) (hl : l.length ≤ 9223372036854775807) : RUN T k_laws_eqIntS [.sl 1 (ints l), .sl 1 (ints l)] = some ([bv true], []) := by
  refine RUN_W T_laws_eqIntS rfl ?_
  simp [k_laws_eqIntS_ic, k_laws_eqIntS_rv]
  refine W_loop (fun n st => ∃ i : Nat, i + n = l.length ∧ st.V 0 = .sl 1 (ints l) ∧ st.V 1 = .sl 1 (ints l) ∧ st.V 5 = iv i) ?_ l.length _ ⟨0, by simp⟩
  rintro n st ⟨i, hi, h0, h1, h5⟩
  simp [k_laws_eqIntS_b0, h0, h1, h5]
  refine Br_i (fun h => ?_) (fun h => ?_)
  · simp at h
    obtain ⟨x, hx⟩ : ∃ x, l[i]? = some x := ⟨_, List.getElem?_eq_getElem h⟩
    have hw := wS h hl
    have hx' := ints_get hx
    simp [-getElem?_pos, h0, h1, h5, h, hx', hw]
    exact Rnd_n (n - 1) (by omega) ⟨i + 1, by omega, by simp [h0], by simp [h1], by simp⟩
  · simp

/-- The numbers from one on, so many. -/
def upto (k : Int) (n : Nat) : List Int := (List.range n).map fun (i : Nat) => k + (i : Int)

@[simp] theorem upto_len (k : Int) (n : Nat) : (upto k n).length = n := by simp [upto]

theorem R_laws_markIntS (l : List Int) (k : Int) (h0 : 0 ≤ k) (hk : k + l.length ≤ 9223372036854775806) : RUN T k_laws_markIntS [.own 1 (ints l), iv k] = some ([iv (k + l.length)], [.own 1 (ints (upto k l.length))]) := by
  refine RUN_W T_laws_markIntS rfl ?_
  simp [k_laws_markIntS_ic, k_laws_markIntS_rv]
  refine W_loop (fun n st => ∃ i : Nat, i + n = l.length ∧ st.V 0 = .ref 0 none 0 0 l.length ∧ st.V 1 = iv (k + i) ∧ st.V 5 = iv i ∧ st.ep = 0 ∧ st.S 0 = some (.row 1 (mix (fun j => [iv (k + (j : Int))]) (ints l) i))) ?_ l.length _ ⟨0, by simp [mix_0]⟩
  rintro n st ⟨i, hi, h0, h1, h5, hep, hS⟩
  simp [k_laws_markIntS_b0, h0, h1, h5, hS]
  refine Br_i (fun h => ?_) (fun h => ?_)
  · simp at h
    obtain ⟨x, hx⟩ : ∃ x, l[i]? = some x := ⟨_, List.getElem?_eq_getElem h⟩
    have hw := wS h (by omega : l.length ≤ 9223372036854775807)
    have hw2 : IntKind.i64.wrap (k + (i : Int) + 1) = k + (i : Int) + 1 := w64 (by omega) (by omega)
    have hx' := ints_get hx
    have hg := (mix_get (f := fun (j : Nat) => [iv (k + (j : Int))]) (l := ints l) (i := i)).trans hx'
    have hs := mix_set (f := fun (j : Nat) => [iv (k + (j : Int))]) (l := ints l) (i := i) (by simpa using h)
    have hl := mix_len (f := fun (j : Nat) => [iv (k + (j : Int))]) (l := ints l) (i := i) (by simp; omega)
    simp at hl
    simp [-getElem?_pos, h0, h1, h5, hS, hep, h, hg, hs, hl, hw, hw2]
    exact Rnd_n (n - 1) (by omega) ⟨i + 1, by omega, by simp [h0], by simp; omega, by simp, by simp, by simp⟩
  · simp at h
    have e := mix_all (f := fun (j : Nat) => [iv (k + (j : Int))]) (l := ints l) (i := i) (by simp; omega)
    have e2 : i = l.length := by omega
    subst e2
    simp [hS, e, h1]
    simp [ints, upto, Function.comp_def]

theorem drop_cons {α : Type} {l : List α} {i : Nat} {x : α} (h : l[i]? = some x) : l.drop i = x :: l.drop (i + 1) := by
  obtain ⟨h1, h2⟩ := List.getElem?_eq_some_iff.mp h
  rw [List.drop_eq_getElem_cons h1, h2]

def inI (n : Int) : Prop := -9223372036854775808 ≤ n ∧ n ≤ 9223372036854775807

/-- The range of a feature's values along a way. -/
def box (t : List Nd) (f : Int) : List Int → Int → Int → Int × Int
  | a :: b :: r, lo, hi => match t[a.toNat]? with
    | none => (lo, hi)
    | some x => if x.f = f then (if x.l = b then box t f (b :: r) lo (min hi x.c) else if x.c = 9223372036854775807 then box t f (b :: r) lo hi else box t f (b :: r) (max lo (x.c + 1)) hi) else box t f (b :: r) lo hi
  | _, lo, hi => (lo, hi)

theorem R_slices_IndexFunc_int {f : Nat} {p : Int → Bool} (l : List Int) (hl : l.length ≤ 9223372036854775807) (hm : modesOf T f = []) (hp : ∀ n ∈ l, RUN T f [iv n] = some ([bv (p n)], [])) :
    RUN T k_slices_IndexFunc___int_int_ [.sl 1 (ints l), .fn f []] = some ([iv (fidx p l)], []) := by
  refine RUN_W T_slices_IndexFunc___int_int_ rfl ?_
  simp [k_slices_IndexFunc___int_int__ic, k_slices_IndexFunc___int_int__rv]
  refine W_loop (fun n st => ∃ i : Nat, i + n = l.length ∧ st.V 0 = .sl 1 (ints l) ∧ st.V 1 = .fn f [] ∧ st.V 8 = iv i ∧ st.V 7 = iv l.length ∧ ∀ (j : Nat) (x : Int), j < i → l[j]? = some x → p x = false) ?_ l.length _ ⟨0, by simp⟩
  rintro n st ⟨i, hi, h0, h1, h8, h7, hj⟩
  simp [k_slices_IndexFunc___int_int__b0, h0, h1, h8, h7]
  refine Br_i (fun h => ?_) (fun h => ?_)
  · simp at h
    obtain ⟨x, hx⟩ : ∃ x, l[i]? = some x := ⟨_, List.getElem?_eq_getElem h⟩
    have hw := wS h hl
    have hx' := ints_get hx
    have hpx := hp x (List.mem_of_getElem? hx)
    simp [-getElem?_pos, h0, h1, h8, h7, hx', hw, hm, hpx, h]
    refine Br_i (fun b0 => ?_) (fun b0 => ?_) <;> (try simp at b0) <;> simp [-getElem?_pos, b0, h0, h1, h8, h7, hx', hw]
    all_goals first
      | exact (fidx_some hx b0 hj).symm
      | exact Rnd_n (n - 1) (by omega) ⟨i + 1, by omega, by simp [h0], by simp [h1], by simp, by simp [h7], no_snoc hj hx b0⟩
  · simp at h
    simp [h]
    exact (fidx_none fun j x hl hx => hj j x (by omega) hx).symm

theorem fidx_neg {α : Type} {p : α → Bool} {l : List α} : decide (0 ≤ fidx p l) = l.any p := by
  unfold fidx
  cases h : l.findIdx? p with
  | none =>
    rw [List.findIdx?_eq_none_iff] at h
    simp
    exact fun x hx => h x hx
  | some i =>
    obtain ⟨h1, h2, _⟩ := List.findIdx?_eq_some_iff_getElem.mp h
    simp
    exact ⟨_, List.getElem_mem h1, h2⟩

theorem R_slices_ContainsFunc_int {f : Nat} {p : Int → Bool} (l : List Int) (hl : l.length ≤ 9223372036854775807) (hm : modesOf T f = []) (hp : ∀ n ∈ l, RUN T f [iv n] = some ([bv (p n)], [])) :
    RUN T k_slices_ContainsFunc___int_int_ [.sl 1 (ints l), .fn f []] = some ([bv (l.any p)], []) := by
  refine RUN_W T_slices_ContainsFunc___int_int_ rfl ?_
  have e := R_slices_IndexFunc_int l hl hm hp
  simp [k_slices_ContainsFunc___int_int__ic, k_slices_ContainsFunc___int_int__rv, e, fidx_neg]

def within (n a b : Int) : Bool := decide (a ≤ n) && decide (n ≤ b)

theorem R_impl_within' (a b c : Int) : RUN T k_impl_within [iv a, iv b, iv c] = some ([bv (within a b c)], []) := R_impl_within a b c

theorem R_spec_l1In' (a b c : Int) : RUN T k_spec_l1In [iv a, iv b, iv c] = some ([bv (within a b c)], []) := R_spec_l1In a b c

theorem within_iff {n a b : Int} : within n a b = true ↔ a ≤ n ∧ n ≤ b := by simp [within]

def decV (n : Int) : Bool := within n (-2147483647) 2147483647

@[simp] theorem R_spec_l6Value (v : Int) : RUN T k_spec_l6Value [iv v] = some ([bv (decV v)], []) := by
  refine RUN_W T_spec_l6Value rfl ?_
  simp [k_spec_l6Value_ic, k_spec_l6Value_rv, decV, within]

@[simp] theorem R_impl_isDecimal (v : Int) : RUN T k_impl_isDecimal [iv v] = some ([bv (decV v)], []) := by
  refine RUN_W T_impl_isDecimal rfl ?_
  simp [k_impl_isDecimal_ic, k_impl_isDecimal_rv, decV, within]

/-- Two beside each other in a list. -/
def adj (p : Int → Int → Bool) : List Int → Bool
  | a :: b :: r => p a b || adj p (b :: r)
  | _ => false

theorem adj_get {p : Int → Int → Bool} : ∀ {l : List Int}, adj p l = true ↔ ∃ (i : Nat) (a b : Int), l[i]? = some a ∧ l[i + 1]? = some b ∧ p a b = true
  | [] => by simp [adj]
  | [x] => by simp [adj]
  | x :: y :: r => by
    simp only [adj, Bool.or_eq_true]
    rw [adj_get (l := y :: r)]
    constructor
    · rintro (h | ⟨i, a, b, h1, h2, h3⟩)
      · exact ⟨0, x, y, rfl, rfl, h⟩
      · exact ⟨i + 1, a, b, by simpa using h1, by simpa using h2, h3⟩
    · rintro ⟨i, a, b, h1, h2, h3⟩
      cases i with
      | zero => simp at h1 h2; subst h1; subst h2; exact .inl h3
      | succ i => exact .inr ⟨i, a, b, by simpa using h1, by simpa using h2, h3⟩

theorem snoc_all {α : Type} {P : Nat → α → Prop} {l : List α} {i : Nat} {x : α} (h : ∀ (j : Nat) (x : α), j < i → l[j]? = some x → P j x) (hi : l[i]? = some x) (hp : P i x) : ∀ (j : Nat) (x : α), j < i + 1 → l[j]? = some x → P j x := by
  intro j y hj hy
  by_cases e : j = i
  · subst e; rw [hi] at hy; cases hy; exact hp
  · exact h j y (by omega) hy

/-- A row within rows: a slice's own, or one that is read. -/
def cel (q : Bool) (l : List Int) : PV := if q then .own 1 (ints l) else .sl 1 (ints l)

@[simp] theorem fz_cel (q : Bool) (l : List Int) : fz (cel q l) = .sl 1 (ints l) := by cases q <;> simp [cel]

def rws (q : Bool) (L : List (List Int)) : List (List PV) := L.map fun l => [cel q l]

@[simp] theorem rws_len (q : Bool) (L : List (List Int)) : (rws q L).length = L.length := by simp [rws]

theorem rws_get {q : Bool} {L : List (List Int)} {i : Nat} {l : List Int} (h : L[i]? = some l) : (rws q L)[i]? = some [cel q l] := by simp [rws, h]

@[simp] theorem R_impl_areDecimals_1 (n : Int) : RUN T k_impl_areDecimals_1 [iv n] = some ([bv (!decV n)], []) := by
  refine RUN_W T_impl_areDecimals_1 rfl ?_
  simp [k_impl_areDecimals_1_ic, k_impl_areDecimals_1_rv]

theorem R_impl_areDecimals (l : List Int) (hl : l.length ≤ 9223372036854775807) : RUN T k_impl_areDecimals [.sl 1 (ints l)] = some ([bv (l.all decV)], []) := by
  refine RUN_W T_impl_areDecimals rfl ?_
  have e := R_slices_ContainsFunc_int (f := k_impl_areDecimals_1) (p := fun n => !decV n) l hl (by simp) (fun n _ => by simp)
  simp [k_impl_areDecimals_ic, k_impl_areDecimals_rv, e]
  simp [List.any_eq_not_all_not]

def cutsB (l : List Int) : Bool := !adj (fun a b => decide (b ≤ a)) l && l.all decV && decide ((l.length : Int) ≤ 7)

theorem adj_no {p : Int → Int → Bool} {l : List Int} (h : ∀ (j : Nat) (a b : Int), l[j]? = some a → l[j + 1]? = some b → p a b = false) : adj p l = false := by
  cases e : adj p l with
  | false => rfl
  | true =>
    obtain ⟨j, a, b, h1, h2, h3⟩ := adj_get.mp e
    rw [h j a b h1 h2] at h3; cases h3

theorem adj_yes {p : Int → Int → Bool} {l : List Int} {j : Nat} {a b : Int} (h1 : l[j]? = some a) (h2 : l[j + 1]? = some b) (h3 : p a b = true) : adj p l = true := adj_get.mpr ⟨j, a, b, h1, h2, h3⟩

theorem all_no {l : List Int} {p : Int → Bool} {j : Nat} {a : Int} (h1 : l[j]? = some a) (h2 : p a = false) : l.all p = false := by
  cases e : l.all p with
  | false => rfl
  | true => rw [List.all_eq_true.mp e a (List.mem_of_getElem? h1)] at h2; cases h2

theorem all_yes {l : List Int} {p : Int → Bool} (h : ∀ (j : Nat) (a : Int), j < l.length → l[j]? = some a → p a = true) : l.all p = true := by
  rw [List.all_eq_true]
  intro x hx
  obtain ⟨j, hj⟩ := List.getElem?_of_mem hx
  exact h j x (List.getElem?_eq_some_iff.mp hj).1 hj

theorem R_impl_CutsOk (l : List Int) (hl : l.length ≤ 9223372036854775807) : RUN T k_impl_CutsOk [.sl 1 (ints l)] = some ([bv (cutsB l)], []) := by
  refine RUN_W T_impl_CutsOk rfl ?_
  have hd := R_impl_areDecimals l hl
  simp [k_impl_CutsOk_ic, k_impl_CutsOk_rv]
  refine W_loop (fun n st => ∃ i : Nat, i + n = l.length + 1 ∧ 1 ≤ i ∧ st.V 0 = .sl 1 (ints l) ∧ st.V 3 = iv i ∧ ∀ (j : Nat) (a b : Int), j + 1 < i → l[j]? = some a → l[j + 1]? = some b → decide (b ≤ a) = false) ?_ l.length _ ⟨1, by omega, by omega, by simp, by simp, fun j a b h => by omega⟩
  rintro n st ⟨i, hi, h1, v0, v3, hj⟩
  simp [k_impl_CutsOk_b0, v0, v3]
  refine Br_i (fun h => ?_) (fun h => ?_)
  · simp at h
    obtain ⟨k, rfl⟩ : ∃ k, i = k + 1 := ⟨i - 1, by omega⟩
    obtain ⟨a, ha⟩ : ∃ a, l[k]? = some a := ⟨_, List.getElem?_eq_getElem (by omega)⟩
    obtain ⟨b, hb⟩ : ∃ b, l[k + 1]? = some b := ⟨_, List.getElem?_eq_getElem h⟩
    have ha' := ints_get ha
    have hb' := ints_get hb
    have hw : IntKind.i64.wrap ((k : Int) + 1 + 1) = (k : Int) + 1 + 1 := w64 (by omega) (by omega)
    have hw1 : IntKind.i64.wrap (k : Int) = k := w64 (by omega) (by omega)
    have hkl : k < l.length := by omega
    simp [-getElem?_pos, v0, v3, ha', hb', hw1, h, hkl]
    refine Br_i (fun h2 => ?_) (fun h2 => ?_)
    · simp at h2
      have : cutsB l = false := by unfold cutsB; rw [adj_yes ha hb (by simpa using h2)]; rfl
      simp [this]
    · simp at h2
      simp [-getElem?_pos, v0, v3, hw]
      refine Rnd_n (n - 1) (by omega) ⟨k + 2, by omega, by omega, by simp [v0], by simp; omega, fun j x y hjk hx hy => ?_⟩
      by_cases e : j = k
      · subst e; rw [ha] at hx; rw [hb] at hy; cases hx; cases hy; simp; omega
      · exact hj j x y (by omega) hx hy
  · simp at h
    have e : adj (fun a b => decide (b ≤ a)) l = false := adj_no fun j a b h1 h2 => hj j a b (by have := (List.getElem?_eq_some_iff.mp h2).1; omega) h1 h2
    unfold cutsB
    rw [e]
    by_cases c : (l.length : Int) ≤ 7
    · simp [v0, hd, c]
    · simp [v0, c]

theorem R_spec_CutsOk (l : List Int) (hl : l.length ≤ 9223372036854775807) : RUN T k_spec_CutsOk [.sl 1 (ints l)] = some ([bv (cutsB l)], []) := by
  refine RUN_W T_spec_CutsOk rfl ?_
  simp [k_spec_CutsOk_ic, k_spec_CutsOk_rv]
  refine W_loop (fun n st => ∃ i : Nat, i + n = l.length ∧ st.V 0 = .sl 1 (ints l) ∧ st.V 3 = iv i ∧ (∀ (j : Nat) (a : Int), j < i → l[j]? = some a → decV a = true) ∧ ∀ (j : Nat) (a b : Int), j + 1 < i → l[j]? = some a → l[j + 1]? = some b → decide (b ≤ a) = false) ?_ l.length _ ⟨0, by simp⟩
  rintro n st ⟨i, hi, v0, v3, hd, hj⟩
  simp [k_spec_CutsOk_b0, v0, v3]
  refine Br_i (fun h => ?_) (fun h => ?_)
  · simp at h
    obtain ⟨b, hb⟩ : ∃ b, l[i]? = some b := ⟨_, List.getElem?_eq_getElem h⟩
    have hb' := ints_get hb
    have hw := wS h hl
    rcases Bool.eq_false_or_eq_true (decV b) with d | d
    · have hd' := snoc_all (P := fun _ a => decV a = true) hd hb d
      rcases i with _ | k
      · simp [-getElem?_pos, v0, v3, hb', d, h, hw]
        exact Rnd_n (n - 1) (by omega) ⟨1, by omega, by simp [v0], by simp, by simpa using hd', fun j x y hjk hx hy => by omega⟩
      · obtain ⟨a, ha⟩ : ∃ a, l[k]? = some a := ⟨_, List.getElem?_eq_getElem (by omega)⟩
        have ha' := ints_get ha
        have hw : IntKind.i64.wrap ((k : Int) + 1 + 1) = (k : Int) + 1 + 1 := w64 (by omega) (by omega)
        have hw1 : IntKind.i64.wrap (k : Int) = k := w64 (by omega) (by omega)
        have hkl : k < l.length := by omega
        have hk0 : (0 : Int) < ((k + 1 : Nat) : Int) := by omega
        rcases Classical.propComplete (b ≤ a) with c | c
        · have : cutsB l = false := by unfold cutsB; rw [adj_yes ha hb (by simp [c])]; rfl
          simp [-getElem?_pos, v0, v3, ha', hb', d, h, hw, hw1, hkl, hk0, c, this]
        · simp [-getElem?_pos, v0, v3, ha', hb', d, h, hw, hw1, hkl, hk0, c]
          refine Rnd_n (n - 1) (by omega) ⟨k + 2, by omega, by simp [v0], by simp; omega, hd', fun j x y hjk hx hy => ?_⟩
          by_cases e : j = k
          · subst e; rw [ha] at hx; rw [hb] at hy; cases hx; cases hy; simp [c]
          · exact hj j x y (by omega) hx hy
    · have : cutsB l = false := by unfold cutsB; rw [all_no hb d]; simp
      simp [-getElem?_pos, v0, v3, hb', d, h, this]
  · simp at h
    have e : adj (fun a b => decide (b ≤ a)) l = false := adj_no fun j a b h1 h2 => hj j a b (by have := (List.getElem?_eq_some_iff.mp h2).1; omega) h1 h2
    have e2 : l.all decV = true := all_yes fun j a h1 h2 => hd j a (by omega) h2
    unfold cutsB
    rw [e, e2]
    simp [v0]

def rowsIn : List (List Int) → Nat
  | [] => 0
  | l :: _ => l.length

theorem R_spec_RowsIn (q : Bool) (c v : List (List Int)) : RUN T k_spec_RowsIn [.agg [.sl 1 (rws q c), .sl 1 (rws q v)]] = some ([iv (rowsIn v)], []) := by
  refine RUN_W T_spec_RowsIn rfl ?_
  cases v with
  | nil => simp [k_spec_RowsIn_ic, k_spec_RowsIn_rv, rowsIn]
  | cons l L =>
    have h : rws q (l :: L) = [cel q l] :: rws q L := rfl
    have h0 : ((L.length : Int) + 1 = 0) = False := eq_false (by omega)
    simp [h0, k_spec_RowsIn_ic, k_spec_RowsIn_rv, rowsIn, h]

theorem R_impl_RowsIn (q : Bool) (c v : List (List Int)) : RUN T k_impl_RowsIn [.agg [.sl 1 (rws q c), .sl 1 (rws q v)]] = some ([iv (rowsIn v)], []) := by
  refine RUN_W T_impl_RowsIn rfl ?_
  cases v with
  | nil => simp [k_impl_RowsIn_ic, k_impl_RowsIn_rv, rowsIn]
  | cons l L =>
    have h : rws q (l :: L) = [cel q l] :: rws q L := rfl
    have h0 : ((L.length : Int) + 1 = 0) = False := eq_false (by omega)
    simp [h0, k_impl_RowsIn_ic, k_impl_RowsIn_rv, rowsIn, h]

theorem R_slices_IndexFunc_int_c {f : Nat} {c : PV} {p : Int → Bool} (l : List Int) (hl : l.length ≤ 9223372036854775807) (hm : modesOf T f = []) (hp : ∀ n ∈ l, RUN T f [iv n, .fptr [c] 0] = some ([bv (p n)], [])) :
    RUN T k_slices_IndexFunc___int_int_ [.sl 1 (ints l), .fn f [.fptr [c] 0]] = some ([iv (fidx p l)], []) := by
  refine RUN_W T_slices_IndexFunc___int_int_ rfl ?_
  simp [k_slices_IndexFunc___int_int__ic, k_slices_IndexFunc___int_int__rv]
  refine W_loop (fun n st => ∃ i : Nat, i + n = l.length ∧ st.V 0 = .sl 1 (ints l) ∧ st.V 1 = .fn f [.fptr [c] 0] ∧ st.V 8 = iv i ∧ st.V 7 = iv l.length ∧ ∀ (j : Nat) (x : Int), j < i → l[j]? = some x → p x = false) ?_ l.length _ ⟨0, by simp⟩
  rintro n st ⟨i, hi, h0, h1, h8, h7, hj⟩
  simp [k_slices_IndexFunc___int_int__b0, h0, h1, h8, h7]
  refine Br_i (fun h => ?_) (fun h => ?_)
  · simp at h
    obtain ⟨x, hx⟩ : ∃ x, l[i]? = some x := ⟨_, List.getElem?_eq_getElem h⟩
    have hw := wS h hl
    have hx' := ints_get hx
    have hpx := hp x (List.mem_of_getElem? hx)
    simp [-getElem?_pos, h0, h1, h8, h7, hx', hw, hm, hpx, h]
    refine Br_i (fun b0 => ?_) (fun b0 => ?_) <;> (try simp at b0) <;> simp [-getElem?_pos, b0, h0, h1, h8, h7, hx', hw]
    all_goals first
      | exact (fidx_some hx b0 hj).symm
      | exact Rnd_n (n - 1) (by omega) ⟨i + 1, by omega, by simp [h0], by simp [h1], by simp, by simp [h7], no_snoc hj hx b0⟩
  · simp at h
    simp [h]
    exact (fidx_none fun j x hl hx => hj j x (by omega) hx).symm

theorem R_slices_ContainsFunc_int_c {f : Nat} {c : PV} {p : Int → Bool} (l : List Int) (hl : l.length ≤ 9223372036854775807) (hm : modesOf T f = []) (hp : ∀ n ∈ l, RUN T f [iv n, .fptr [c] 0] = some ([bv (p n)], [])) :
    RUN T k_slices_ContainsFunc___int_int_ [.sl 1 (ints l), .fn f [.fptr [c] 0]] = some ([bv (l.any p)], []) := by
  refine RUN_W T_slices_ContainsFunc___int_int_ rfl ?_
  have e := R_slices_IndexFunc_int_c l hl hm hp
  simp [k_slices_ContainsFunc___int_int__ic, k_slices_ContainsFunc___int_int__rv, e, fidx_neg]

@[simp] theorem R_impl_GridOk_1 (n : Int) (a : List Int) : RUN T k_impl_GridOk_1 [iv n, .fptr [.sl 1 (ints a)] 0] = some ([bv (!within n 0 a.length)], []) := by
  refine RUN_W T_impl_GridOk_1 rfl ?_
  simp [k_impl_GridOk_1_ic, k_impl_GridOk_1_rv, R_impl_within', -R_impl_within]

theorem yv_gu {s : St} {d : Option Dst} {op : IOp} {g : Opd} {v : Bool} {x : PV} : (yv s ⟨d, op, some (g, v)⟩ = some x) = (Ob' (guardP v (g.get s)) fun t => Br t (WI (fun _ => []) (fun _ _ => none) op s (fun y _ => y = x)) (PV.v Go.undef = x)) := by
  simp only [yv, evG_some, WI, Ob', Br, Option.map_eq_some_iff, Option.bind_eq_some_iff, eq_iff_iff]
  constructor
  · rintro ⟨⟨y, s'⟩, ⟨t, h1, h2⟩, h3⟩
    refine ⟨t, h1, fun ht => ?_, fun ht => ?_⟩ <;> subst ht
    · exact ⟨y, s', by simpa using h2, h3⟩
    · simp at h2; obtain ⟨rfl, rfl⟩ := h2; exact h3
  · rintro ⟨t, h1, h2, h3⟩
    cases t with
    | true => obtain ⟨y, s', h4, h5⟩ := h2 rfl; exact ⟨(y, s'), ⟨true, h1, by simpa using h4⟩, h5⟩
    | false => exact ⟨_, ⟨false, h1, rfl⟩, h3 rfl⟩

@[simp] theorem chkTodo_g {s : St} {d : Option Dst} {op : IOp} {g : Opd} {v : Bool} {x : PV} {n : Nat} {r : List (IOper × PV × Nat)} : chkTodo s ((⟨d, op, some (g, v)⟩, x, n + 1) :: r) = ((Ob' (guardP v (g.get s)) fun t => Br t (WI (fun _ => []) (fun _ _ => none) op s (fun y _ => y = x)) (PV.v Go.undef = x)) ∧ chkTodo s r) := by
  simp only [chkTodo, yv_gu]

@[simp] theorem chkPast_g {V E : Nat → PV} {d : Option Dst} {op : IOp} {g : Opd} {v : Bool} {x : PV} {n : Nat} {s : St} {ms : List St} : chkPast V E ⟨d, op, some (g, v)⟩ x (n + 1) (s :: ms) = ((Ob' (guardP v (g.get { s with V := V, E := E })) fun t => Br t (WI (fun _ => []) (fun _ _ => none) op { s with V := V, E := E } (fun y _ => y = x)) (PV.v Go.undef = x)) ∧ chkPast V E ⟨d, op, some (g, v)⟩ x n ms) := by
  simp only [chkPast, yv_gu]

def featB (c v : List (List Int)) (f : Nat) : Bool := match c[f]?, v[f]? with
  | some a, some b => cutsB a && decide ((b.length : Int) = rowsIn v) && b.all fun x => within x 0 a.length
  | _, _ => true

def gridB (c v : List (List Int)) : Bool := within c.length 1 4 && decide ((v.length : Int) = c.length) && within (rowsIn v) 1 40 && (List.range c.length).all (featB c v)

theorem gridB_eq {c v : List (List Int)} (h1 : within c.length 1 4 = true) (h2 : (v.length : Int) = c.length) (h3 : within (rowsIn v) 1 40 = true) : gridB c v = (List.range c.length).all (featB c v) := by
  simp [gridB, h1, h2, h3]

theorem range_all {p : Nat → Bool} {n : Nat} (h : ∀ i, i < n → p i = true) : (List.range n).all p = true := by
  rw [List.all_eq_true]
  intro x hx
  exact h x (by simpa using hx)

theorem range_no {p : Nat → Bool} {n i : Nat} (hi : i < n) (h : p i = false) : (List.range n).all p = false := by
  cases e : (List.range n).all p with
  | false => rfl
  | true => rw [List.all_eq_true.mp e i (by simpa using hi)] at h; cases h

theorem featB_eq {c v : List (List Int)} {f : Nat} {a b : List Int} (ha : c[f]? = some a) (hb : v[f]? = some b) : featB c v f = (cutsB a && decide ((b.length : Int) = rowsIn v) && b.all fun x => within x 0 a.length) := by
  simp [featB, ha, hb]

theorem snoc_nat {P : Nat → Prop} {i : Nat} (h : ∀ j, j < i → P j) (hi : P i) : ∀ j, j < i + 1 → P j := by
  intro j hj
  by_cases e : j = i
  · subst e; exact hi
  · exact h j (by omega)

set_option maxHeartbeats 1000000 in
theorem R_impl_GridOk (q : Bool) (c v : List (List Int)) (hc : ∀ l ∈ c, l.length ≤ 9223372036854775807) (hv : ∀ l ∈ v, l.length ≤ 9223372036854775807) : RUN T k_impl_GridOk [.agg [.sl 1 (rws q c), .sl 1 (rws q v)]] = some ([bv (gridB c v)], []) := by
  refine RUN_W T_impl_GridOk rfl ?_
  have hR := R_impl_RowsIn q c v
  by_cases h1 : within c.length 1 4 = true
  case neg => simp [k_impl_GridOk_ic, k_impl_GridOk_rv, R_impl_within', -R_impl_within, h1, gridB]
  by_cases h2 : (v.length : Int) = c.length
  case neg => simp [k_impl_GridOk_ic, k_impl_GridOk_rv, R_impl_within', -R_impl_within, h1, h2, gridB]
  by_cases h3 : within (rowsIn v) 1 40 = true
  case neg => simp [k_impl_GridOk_ic, k_impl_GridOk_rv, R_impl_within', -R_impl_within, h1, h2, h3, hR, gridB]
  have h1' := within_iff.mp h1
  rw [gridB_eq h1 h2 h3]
  simp [k_impl_GridOk_ic, k_impl_GridOk_rv, R_impl_within', -R_impl_within, h1, h2, h3, hR]
  refine W_loop (fun n st => ∃ i : Nat, i + n = c.length ∧ (∀ j, j < i → featB c v j = true) ∧ st.V 1 = .ptr 0 none 0 0 0 ∧ st.V 26 = .sl 1 (rws q c) ∧ st.V 27 = iv c.length ∧ st.V 28 = iv i ∧ 0 < st.nx ∧ st.S 0 = some (.box [.sl 1 (rws q c), .sl 1 (rws q v)])) ?_ c.length _ ⟨0, by simp⟩
  rintro n st ⟨i, hi, hk, v1, v26, v27, v28, hnx, hS⟩
  simp [k_impl_GridOk_b0, v26, v27, v28]
  have z := fr hnx
  refine Br_i (fun h => ?_) (fun h => ?_)
  · simp at h
    obtain ⟨a, ha⟩ : ∃ a, c[i]? = some a := ⟨_, List.getElem?_eq_getElem h⟩
    obtain ⟨b, hb⟩ : ∃ b, v[i]? = some b := ⟨_, List.getElem?_eq_getElem (by omega)⟩
    have ha' := rws_get (q := q) ha
    have hb' := rws_get (q := q) hb
    have hal := hc a (List.mem_of_getElem? ha)
    have hbl := hv b (List.mem_of_getElem? hb)
    have hC := R_impl_CutsOk a hal
    have hF := R_slices_ContainsFunc_int_c (f := k_impl_GridOk_1) (c := .sl 1 (ints a)) (p := fun n => !within n 0 a.length) b hbl (by simp) (fun n _ => by simp)
    have hw := wS h (by omega : c.length ≤ 9223372036854775807)
    have hiv : i < v.length := by omega
    have hfe := featB_eq ha hb
    by_cases d1 : cutsB a = true
    · rcases Classical.propComplete ((b.length : Int) = rowsIn v) with d2 | d2
      · by_cases d3 : (b.all fun x => within x 0 a.length) = true
        · have d3' : (b.any fun n => !within n 0 a.length) = false := by simpa [List.any_eq_not_all_not] using d3
          simp [-getElem?_pos, v1, v26, v27, v28, hS, z, ha', hb', hC, hF, hR, hw, h, hiv, d1, d2, d3']
          exact Rnd_n (n - 1) (by omega) ⟨i + 1, by omega, snoc_nat hk (by rw [hfe, d1, d3]; simp [d2]), by simp [v1], by simp [v26], by simp [v27], by simp, by simp, by simp [z, hS]⟩
        · have d3' : (b.any fun n => !within n 0 a.length) = true := by simpa [List.any_eq_not_all_not] using d3
          have no := range_no h (by rw [hfe, d1]; simp [d3] : featB c v i = false)
          simp [-getElem?_pos, v1, v26, v27, v28, hS, z, ha', hb', hC, hF, hR, hw, h, hiv, d1, d2, d3', no]
      · have no := range_no h (by rw [hfe, d1]; simp [d2] : featB c v i = false)
        simp [-getElem?_pos, v1, v26, v27, v28, hS, z, ha', hb', hC, hF, hR, hw, h, hiv, d1, d2, no]
    · have no := range_no h (by rw [hfe]; simp [d1] : featB c v i = false)
      simp [-getElem?_pos, v1, v26, v27, v28, hS, z, ha', hb', hC, hF, hR, hw, h, hiv, d1, no]
  · simp at h
    have := range_all (p := featB c v) (n := c.length) fun j hj => hk j (by omega)
    simp [this]

set_option maxHeartbeats 1000000 in
theorem R_spec_GridOk (q : Bool) (c v : List (List Int)) (hc : ∀ l ∈ c, l.length ≤ 9223372036854775807) (hv : ∀ l ∈ v, l.length ≤ 9223372036854775807) : RUN T k_spec_GridOk [.agg [.sl 1 (rws q c), .sl 1 (rws q v)]] = some ([bv (gridB c v)], []) := by
  refine RUN_W T_spec_GridOk rfl ?_
  have hR := R_spec_RowsIn q c v
  by_cases h1 : within c.length 1 4 = true
  case neg => simp [k_spec_GridOk_ic, k_spec_GridOk_rv, R_spec_l1In', -R_spec_l1In, h1, gridB]
  by_cases h2 : (v.length : Int) = c.length
  case neg => simp [k_spec_GridOk_ic, k_spec_GridOk_rv, R_spec_l1In', -R_spec_l1In, h1, h2, gridB]
  by_cases h3 : within (rowsIn v) 1 40 = true
  case neg => simp [k_spec_GridOk_ic, k_spec_GridOk_rv, R_spec_l1In', -R_spec_l1In, h1, h2, h3, hR, gridB]
  have h1' := within_iff.mp h1
  rw [gridB_eq h1 h2 h3]
  simp [k_spec_GridOk_ic, k_spec_GridOk_rv, R_spec_l1In', -R_spec_l1In, h1, h2, h3, hR]
  refine W_loop (fun n st => ∃ i : Nat, i + n = c.length ∧ (∀ j, j < i → featB c v j = true) ∧ st.V 1 = .ptr 0 none 0 0 0 ∧ st.V 3 = iv i ∧ 0 < st.nx ∧ st.S 0 = some (.box [.sl 1 (rws q c), .sl 1 (rws q v)])) ?_ c.length _ ⟨0, by simp⟩
  rintro n st ⟨i, hi, hk, v1, v3, hnx, hS⟩
  simp [k_spec_GridOk_b1, v1, v3, hS]
  have z := fr hnx
  refine Br_i (fun h => ?_) (fun h => ?_)
  · simp at h
    obtain ⟨a, ha⟩ : ∃ a, c[i]? = some a := ⟨_, List.getElem?_eq_getElem h⟩
    obtain ⟨b, hb⟩ : ∃ b, v[i]? = some b := ⟨_, List.getElem?_eq_getElem (by omega)⟩
    have ha' := rws_get (q := q) ha
    have hb' := rws_get (q := q) hb
    have hal := hc a (List.mem_of_getElem? ha)
    have hbl := hv b (List.mem_of_getElem? hb)
    have hC := R_spec_CutsOk a hal
    have hw := wS h (by omega : c.length ≤ 9223372036854775807)
    have hiv : i < v.length := by omega
    have hfe := featB_eq ha hb
    by_cases d1 : cutsB a = true
    case neg =>
      have no := range_no h (by rw [hfe]; simp [d1] : featB c v i = false)
      simp [-getElem?_pos, v1, v3, hS, z, ha', hb', hC, hR, hw, h, hiv, d1, no]
    rcases Classical.propComplete ((b.length : Int) = rowsIn v) with d2 | d2
    case inr =>
      have no := range_no h (by rw [hfe, d1]; simp [d2] : featB c v i = false)
      simp [-getElem?_pos, v1, v3, hS, z, ha', hb', hC, hR, hw, h, hiv, d1, d2, no]
    simp [-getElem?_pos, v1, v3, hS, z, ha', hb', hC, hR, hw, h, hiv, d1, d2]
    refine W_loop (fun n st => ∃ j : Nat, j + n = b.length ∧ (∀ (k : Nat) (x : Int), k < j → b[k]? = some x → within x 0 a.length = true) ∧ st.V 1 = .ptr 0 none 0 0 0 ∧ st.V 3 = iv i ∧ st.V 4 = iv j ∧ 0 < st.nx ∧ st.S 0 = some (.box [.sl 1 (rws q c), .sl 1 (rws q v)])) ?_ b.length _ ⟨0, by omega, fun _ _ h => by omega, by simp [v1], by simp [v3], by simp, by simp [hnx], by simp [hS]⟩
    clear v1 v3 hnx hS z
    rintro n' st ⟨j, hj, hjk, v1, v3, v4, hnx, hS⟩
    simp [-getElem?_pos, k_spec_GridOk_b0, v1, v3, v4, hS, hb', hiv]
    refine Br_i (fun h4 => ?_) (fun h4 => ?_)
    · simp at h4
      obtain ⟨x, hx⟩ : ∃ x, b[j]? = some x := ⟨_, List.getElem?_eq_getElem h4⟩
      have hx' := ints_get hx
      have hwj := wS h4 hbl
      rcases Bool.eq_false_or_eq_true (within x 0 a.length) with d3 | d3
      · simp [-getElem?_pos, v1, v3, v4, hS, ha', hb', hx', hiv, h, h4, d3, hwj, R_spec_l1In', -R_spec_l1In]
        exact Rnd_n (n' - 1) (by omega) ⟨j + 1, by omega, snoc_all (P := fun _ x => within x 0 a.length = true) hjk hx d3, by simp [v1], by simp [v3], by simp, by simp [hnx], by simp [hS]⟩
      · have no := range_no h (by rw [hfe, all_no hx d3]; simp : featB c v i = false)
        simp [-getElem?_pos, v1, v3, v4, hS, ha', hb', hx', hiv, h, h4, d3, hwj, no, R_spec_l1In', -R_spec_l1In]
    · simp at h4
      have ok : featB c v i = true := by
        rw [hfe, d1, all_yes fun k x hk hx => hjk k x (by omega) hx]; simp [d2]
      simp [-getElem?_pos, v1, v3, v4, hS, hw]
      exact Rnd_n (n - 1) (by omega) ⟨i + 1, by omega, snoc_nat hk ok, by simp [v1], by simp, by simp [hnx], by simp [hS]⟩
  · simp at h
    have := range_all (p := featB c v) (n := c.length) fun j hj => hk j (by omega)
    simp [this]

def lens (L : List (List Int)) : Nat := (L.map List.length).sum

def tot (L : List (List Int)) : Nat := L.length + lens L

theorem lens_cons (l : List Int) (L : List (List Int)) : lens (l :: L) = l.length + lens L := by simp [lens]

theorem lens_mem {L : List (List Int)} : ∀ {l : List Int}, l ∈ L → l.length ≤ lens L := by
  induction L with
  | nil => simp
  | cons a L ih =>
    intro l h
    rw [lens_cons]
    rcases List.mem_cons.mp h with e | e
    · subst e; omega
    · have := ih e; omega

theorem R_laws_szIntSS (q : Bool) (L : List (List Int)) (left : Int) (h0 : 0 ≤ left) (h1 : left ≤ 1048576) (hl : L.length ≤ 9223372036854775807) (hll : ∀ l ∈ L, l.length ≤ 9223372036854775807) : RUN T k_laws_szIntSS [.sl 1 (rws q L), iv left] = some ([iv (if left - tot L < 0 then -1 else left - tot L)], []) := by
  refine RUN_W T_laws_szIntSS rfl ?_
  have e := w64 (x := left - L.length) (by omega) (by omega)
  have ht : tot L = L.length + lens L := rfl
  simp [k_laws_szIntSS_ic, k_laws_szIntSS_rv, e]
  refine Br_i (fun h => ?_) (fun h => ?_)
  · simp at h
    rw [if_pos (by omega)]
    simp
  · simp at h
    simp
    refine W_loop (fun n st => ∃ i : Nat, i + n = L.length ∧ ∃ r : Int, 0 ≤ r ∧ r ≤ 1048576 ∧ r - lens (L.drop i) = left - tot L ∧ st.V 0 = .sl 1 (rws q L) ∧ st.V 1 = iv r ∧ st.V 5 = iv i) ?_ L.length _ ⟨0, by omega, left - L.length, by omega, by omega, by simp; omega, by simp, by simp, by simp⟩
    rintro n st ⟨i, hi, r, hr0, hr1, hr, v0, v1, v5⟩
    simp [k_laws_szIntSS_b0, v0, v5]
    refine Br_i (fun h => ?_) (fun h => ?_)
    · simp at h
      obtain ⟨l, hx⟩ : ∃ l, L[i]? = some l := ⟨_, List.getElem?_eq_getElem h⟩
      have hx' := rws_get (q := q) hx
      have hw := wS h hl
      have hz := R_laws_szIntS (ints l) r hr0 hr1 (by simpa using hll l (List.mem_of_getElem? hx))
      rw [ints_len] at hz
      rw [drop_cons hx, lens_cons] at hr
      by_cases d : r - l.length < 0
      · rw [if_pos d] at hz
        rw [if_pos (by omega)]
        simp [-getElem?_pos, v0, v1, v5, hx', hz, h]
      · rw [if_neg d] at hz
        have d' : ¬ (r - l.length < 0) := d
        simp [-getElem?_pos, v0, v1, v5, hx', hz, h, hw, d']
        exact Rnd_n (n - 1) (by omega) ⟨i + 1, by omega, r - l.length, by omega, by omega, by omega, by simp [v0], by simp, by simp⟩
    · simp at h
      rw [List.drop_eq_nil_of_le (by omega)] at hr
      have : lens [] = 0 := rfl
      rw [if_neg (by omega)]
      simp [v1]
      omega

theorem R_laws_szGrid (q : Bool) (c v : List (List Int)) (left : Int) (h0 : 0 ≤ left) (h1 : left ≤ 1048576) (hcl : c.length ≤ 9223372036854775807) (hvl : v.length ≤ 9223372036854775807) (hc : ∀ l ∈ c, l.length ≤ 9223372036854775807) (hv : ∀ l ∈ v, l.length ≤ 9223372036854775807) : RUN T k_laws_szGrid [.agg [.sl 1 (rws q c), .sl 1 (rws q v)], iv left] = some ([iv (if left - tot c - tot v < 0 then -1 else left - tot c - tot v)], []) := by
  refine RUN_W T_laws_szGrid rfl ?_
  have e1 := R_laws_szIntSS q c left h0 h1 hcl hc
  by_cases d : left - tot c < 0
  · rw [if_pos d] at e1
    rw [if_pos (by omega)]
    simp [k_laws_szGrid_ic, k_laws_szGrid_rv, e1]
  · rw [if_neg d] at e1
    have e2 := R_laws_szIntSS q v (left - tot c) (by omega) (by omega) hvl hv
    by_cases d2 : left - tot c - tot v < 0
    · rw [if_pos d2] at e2
      rw [if_pos d2]
      simp [k_laws_szGrid_ic, k_laws_szGrid_rv, e1, e2, d]
    · rw [if_neg d2] at e2
      rw [if_neg d2]
      simp [k_laws_szGrid_ic, k_laws_szGrid_rv, e1, e2, d, d2]

theorem R_laws_toIntSS (q : Bool) (L : List (List Int)) (hl : L.length ≤ 1048576) (hll : ∀ l ∈ L, l.length ≤ 1048576) : RUN T k_laws_toIntSS [.sl 1 (rws q L)] = some ([.own 1 (rws true L)], []) := by
  refine RUN_W T_laws_toIntSS rfl ?_
  have hr : roomFor 24 L.length = true := by simp [roomFor]; omega
  simp [k_laws_toIntSS_ic, k_laws_toIntSS_rv, hr]
  refine W_loop (fun n st => ∃ i : Nat, i + n = L.length ∧ st.V 0 = .sl 1 (rws q L) ∧ st.V 3 = .ref 0 none 0 0 L.length ∧ st.V 4 = iv i ∧ 0 < st.nx ∧ st.S 0 = some (.row 1 (fil (fun l => [cel true l]) [.own 1 []] L i))) ?_ L.length _ ⟨0, by simp [fil_0]⟩
  rintro n st ⟨i, hi, v0, v3, v4, hnx, hS⟩
  simp [k_laws_toIntSS_b0, v0, v3, v4, hS]
  have z := fr hnx
  refine Br_i (fun h => ?_) (fun h => ?_)
  · simp at h
    obtain ⟨l, hx⟩ : ∃ l, L[i]? = some l := ⟨_, List.getElem?_eq_getElem h⟩
    have hw := wS h (by omega : L.length ≤ 9223372036854775807)
    have hg := fil_get (f := fun l => [cel true l]) (z := [.own 1 []]) h
    have hs := fil_set (f := fun l => [cel true l]) (z := [.own 1 []]) hx
    have hx' := rws_get (q := q) hx
    have hz := R_laws_toIntS l (hll l (List.mem_of_getElem? hx))
    have hc : cel true l = .own 1 (ints l) := rfl
    rw [hc] at hs
    simp [-getElem?_pos, v0, v3, v4, hS, z, h, hx', hw, hg, hs, hz, fil_len (Nat.le_of_lt h)]
    exact Rnd_n (n - 1) (by omega) ⟨i + 1, by omega, by simp [v0], by simp [v3], by simp, by simp, by simp [z]⟩
  · simp at h
    have e := fil_all (f := fun l => [cel true l]) (z := [.own 1 []]) (by omega : i = L.length)
    simp [v3, hS, e, rws]

theorem R_laws_eqIntSS (p q : Bool) (L : List (List Int)) (hl : L.length ≤ 9223372036854775807) (hll : ∀ l ∈ L, l.length ≤ 9223372036854775807) : RUN T k_laws_eqIntSS [.sl 1 (rws p L), .sl 1 (rws q L)] = some ([bv true], []) := by
  refine RUN_W T_laws_eqIntSS rfl ?_
  simp [k_laws_eqIntSS_ic, k_laws_eqIntSS_rv]
  refine W_loop (fun n st => ∃ i : Nat, i + n = L.length ∧ st.V 0 = .sl 1 (rws p L) ∧ st.V 1 = .sl 1 (rws q L) ∧ st.V 5 = iv i) ?_ L.length _ ⟨0, by simp⟩
  rintro n st ⟨i, hi, v0, v1, v5⟩
  simp [k_laws_eqIntSS_b0, v0, v1, v5]
  refine Br_i (fun h => ?_) (fun h => ?_)
  · simp at h
    obtain ⟨l, hx⟩ : ∃ l, L[i]? = some l := ⟨_, List.getElem?_eq_getElem h⟩
    have hw := wS h hl
    have hx1 := rws_get (q := p) hx
    have hx2 := rws_get (q := q) hx
    have hz := R_laws_eqIntS l (hll l (List.mem_of_getElem? hx))
    simp [-getElem?_pos, v0, v1, v5, h, hx1, hx2, hw, hz]
    exact Rnd_n (n - 1) (by omega) ⟨i + 1, by omega, by simp [v0], by simp [v1], by simp⟩
  · simp at h
    simp

theorem R_laws_toGrid (q : Bool) (c v : List (List Int)) (hcl : c.length ≤ 1048576) (hvl : v.length ≤ 1048576) (hc : ∀ l ∈ c, l.length ≤ 1048576) (hv : ∀ l ∈ v, l.length ≤ 1048576) : RUN T k_laws_toGrid [.agg [.sl 1 (rws q c), .sl 1 (rws q v)]] = some ([.agg [.own 1 (rws true c), .own 1 (rws true v)]], []) := by
  refine RUN_W T_laws_toGrid rfl ?_
  simp [k_laws_toGrid_ic, k_laws_toGrid_rv, R_laws_toIntSS q c hcl hc, R_laws_toIntSS q v hvl hv]

theorem R_laws_eqGrid (p q : Bool) (c v : List (List Int)) (hcl : c.length ≤ 9223372036854775807) (hvl : v.length ≤ 9223372036854775807) (hc : ∀ l ∈ c, l.length ≤ 9223372036854775807) (hv : ∀ l ∈ v, l.length ≤ 9223372036854775807) : RUN T k_laws_eqGrid [.agg [.sl 1 (rws p c), .sl 1 (rws p v)], .agg [.sl 1 (rws q c), .sl 1 (rws q v)]] = some ([bv true], []) := by
  refine RUN_W T_laws_eqGrid rfl ?_
  simp [k_laws_eqGrid_ic, k_laws_eqGrid_rv, R_laws_eqIntSS p q c hcl hc, R_laws_eqIntSS p q v hvl hv]

theorem wf64 {n : Int} (h : (Lit.int .i64 n).wf = true) : -9223372036854775808 ≤ n ∧ n ≤ 9223372036854775807 := bounds_i64 h

theorem rows_of {α : Type} {f : α → List PV} {p : α → Prop} {tys : List TY} (h : ∀ cs, ShpL tys cs → ∃ a, f a = cs ∧ p a) : ∀ {es : List (List PV)}, (∀ cs ∈ es, ShpL tys cs) → ∃ l : List α, l.map f = es ∧ ∀ a ∈ l, p a
  | [], _ => ⟨[], rfl, by simp⟩
  | e :: es, hs => by
    obtain ⟨a, ha, hp⟩ := h e (hs e (by simp))
    obtain ⟨l, hl, hq⟩ := rows_of h (es := es) (fun cs hc => hs cs (by simp [hc]))
    refine ⟨a :: l, by simp [ha, hl], fun b hb => ?_⟩
    rcases List.mem_cons.mp hb with e | e
    · subst e; exact hp
    · exact hq b e

theorem shp_intL (cs : List PV) (h : ShpL [.int .i64] cs) : ∃ n : Int, [iv n] = cs ∧ inI n := by
  simp only [ShpL, Shp] at h
  obtain ⟨_, _, rfl, ⟨a, rfl, h1⟩, rfl⟩ := h
  exact ⟨a, rfl, wf64 h1⟩

theorem shp_ints {c : PV} (h : ShpA false [.sl [.int .i64]] c) : ∃ l : List Int, c = .sl 1 (ints l) ∧ l.length ≤ 9223372036854775807 ∧ ∀ n ∈ l, inI n := by
  simp only [ShpA, Bool.false_eq_true, if_false, ShpL, Shp] at h
  obtain ⟨c', r, e, ⟨es, he, h1, h2⟩, hr⟩ := h
  simp only [List.cons.injEq] at e
  obtain ⟨l, hl, hp⟩ := rows_of (f := fun n : Int => [iv n]) (tys := [.int .i64]) shp_intL h2
  subst hl
  simp [maxLen] at h1
  exact ⟨l, e.1.trans he, by omega, hp⟩

theorem shp_intsL (cs : List PV) (h : ShpL [.sl [.int .i64]] cs) : ∃ l : List Int, [cel false l] = cs ∧ l.length ≤ 9223372036854775807 := by
  simp only [ShpL, Shp] at h
  obtain ⟨_, _, rfl, ⟨es, rfl, h1, h2⟩, rfl⟩ := h
  have h2' : ∀ cs ∈ es, ShpL [.int .i64] cs := h2
  obtain ⟨l, hl, _⟩ := rows_of (f := fun n : Int => [iv n]) (tys := [.int .i64]) shp_intL h2'
  subst hl
  simp [maxLen] at h1
  exact ⟨l, rfl, by omega⟩

theorem shp_grid {c : PV} (h : ShpA true [.sl [.sl [.int .i64]], .sl [.sl [.int .i64]]] c) : ∃ a b : List (List Int), c = .agg [.sl 1 (rws false a), .sl 1 (rws false b)] ∧ a.length ≤ 9223372036854775807 ∧ b.length ≤ 9223372036854775807 ∧ (∀ l ∈ a, l.length ≤ 9223372036854775807) ∧ ∀ l ∈ b, l.length ≤ 9223372036854775807 := by
  obtain ⟨cs, rfl, h⟩ := h
  simp only [ShpL, Shp] at h
  obtain ⟨_, _, rfl, ⟨es, rfl, h1, h2⟩, _, _, rfl, ⟨es', rfl, h3, h4⟩, rfl⟩ := h
  have h2' : ∀ cs ∈ es, ShpL [.sl [.int .i64]] cs := h2
  have h4' : ∀ cs ∈ es', ShpL [.sl [.int .i64]] cs := h4
  obtain ⟨a, ha, hpa⟩ := rows_of (f := fun l => [cel false l]) shp_intsL h2'
  obtain ⟨b, hb, hpb⟩ := rows_of (f := fun l => [cel false l]) shp_intsL h4'
  subst ha
  subst hb
  simp [maxLen] at h1 h3
  exact ⟨a, b, rfl, by omega, by omega, hpa, hpb⟩

theorem of_all {P : Program} {l : List TypeId} (h : (l.all fun t => P.readableRec t && decide (t < P.types.size)) = true) : ∀ t ∈ l, P.readableRec t = true ∧ t < P.types.size := by
  intro t ht
  have := List.all_eq_true.mp h t ht
  simpa using this

theorem args3 {p q r : Bool × List TY} {pvs : List PV} (h : All2 (fun p c => ShpA p.1 p.2 c) [p, q, r] pvs) : ∃ a b c, pvs = [a, b, c] ∧ ShpA p.1 p.2 a ∧ ShpA q.1 q.2 b ∧ ShpA r.1 r.2 c := by
  cases h with
  | cons h1 t => cases t with
    | cons h2 t => cases t with
      | cons h3 t => cases t with
        | nil => exact ⟨_, _, _, rfl, h1, h2, h3⟩

/-- The bytes that a source draws from. -/
def byts (B : List Int) : List (List PV) := B.map fun n => [.v (.int .u8 n)]

@[simp] theorem byts_len (B : List Int) : (byts B).length = B.length := by simp [byts]

/-- The end of a call of which something is told. -/
def FinG (rv : List RV) (io : Nat) (G : List PV × List PV → Prop) (_ : Dm rv) (_ : Dm G) (e : Ex) (s : St) : Prop := (e = .normal ∨ e = .ret) ∧ ∃ r, finishEv ⟨[], rv, .skip⟩ io s = some r ∧ G r

@[simp] theorem FinG_n {rv : List RV} {io : Nat} {G : List PV × List PV → Prop} {s : St} : FinG rv io G ⟨⟩ ⟨⟩ .normal s = ∃ r, finishEv ⟨[], rv, .skip⟩ io s = some r ∧ G r := by simp [FinG]

@[simp] theorem FinG_r {rv : List RV} {io : Nat} {G : List PV × List PV → Prop} {s : St} : FinG rv io G ⟨⟩ ⟨⟩ .ret s = ∃ r, finishEv ⟨[], rv, .skip⟩ io s = some r ∧ G r := by simp [FinG]

def adi (a b : Int) : Int × Bool := if -9223372036854775808 ≤ a + b ∧ a + b ≤ 9223372036854775807 then (a + b, true) else (0, false)

theorem wrap_add {a b : Int} (ha : inI a) (hb : inI b) : IntKind.i64.wrap (a + b) = if 9223372036854775807 < a + b then a + b - 18446744073709551616 else if a + b < -9223372036854775808 then a + b + 18446744073709551616 else a + b := by
  unfold inI at ha hb
  unfold IntKind.wrap
  simp [IntKind.bits, IntKind.signed]
  omega

theorem R_impl_AddInt (a b : Int) (ha : inI a) (hb : inI b) : RUN T k_impl_AddInt [iv a, iv b] = some ([iv (adi a b).1, bv (adi a b).2], []) := by
  refine RUN_W T_impl_AddInt rfl ?_
  have hw := wrap_add ha hb
  unfold inI at ha hb
  unfold adi
  by_cases c1 : 9223372036854775807 < a + b
  · rw [if_pos c1] at hw
    rw [if_neg (by omega)]
    have d1 := eq_false (by omega : ¬ a < 0)
    have d2 := eq_false (by omega : ¬ b < 0)
    have d3 := eq_true (by omega : a + b - 18446744073709551616 < 0)
    simp [-getElem?_pos, k_impl_AddInt_ic, k_impl_AddInt_rv, hw, d1, d2, d3]
  · rw [if_neg c1] at hw
    by_cases c2 : a + b < -9223372036854775808
    · rw [if_pos c2] at hw
      rw [if_neg (by omega)]
      have d1 := eq_true (by omega : a < 0)
      have d2 := eq_true (by omega : b < 0)
      have d3 := eq_false (by omega : ¬ a + b + 18446744073709551616 < 0)
      simp [-getElem?_pos, k_impl_AddInt_ic, k_impl_AddInt_rv, hw, d1, d2, d3]
    · rw [if_neg c2] at hw
      rw [if_pos (by omega)]
      rcases Classical.propComplete (a < 0) with d1 | d1
      all_goals rcases Classical.propComplete (b < 0) with d2 | d2
      all_goals simp at d1 d2
      · have d3 := eq_true (by omega : a + b < 0)
        simp [-getElem?_pos, k_impl_AddInt_ic, k_impl_AddInt_rv, hw, eq_true d1, eq_true d2, d3]
      · have d2' := eq_false (by omega : ¬ b < 0)
        simp [-getElem?_pos, k_impl_AddInt_ic, k_impl_AddInt_rv, hw, eq_true d1, d2']
      · have d1' := eq_false (by omega : ¬ a < 0)
        simp [-getElem?_pos, k_impl_AddInt_ic, k_impl_AddInt_rv, hw, eq_true d2, d1']
      · have d1' := eq_false (by omega : ¬ a < 0)
        have d2' := eq_false (by omega : ¬ b < 0)
        have d3 := eq_false (by omega : ¬ a + b < 0)
        simp [-getElem?_pos, k_impl_AddInt_ic, k_impl_AddInt_rv, hw, d1', d2', d3]

theorem R_spec_AddInt (a b : Int) (ha : inI a) (hb : inI b) : RUN T k_spec_AddInt [iv a, iv b] = some ([iv (adi a b).1, bv (adi a b).2], []) := by
  refine RUN_W T_spec_AddInt rfl ?_
  have hw := wrap_add ha hb
  unfold inI at ha hb
  unfold adi
  rcases Int.lt_trichotomy b 0 with c | c | c
  · have d1 := eq_false (by omega : ¬ 0 < b)
    have d2 := eq_true c
    have w := w64 (x := -9223372036854775808 - b) (by omega) (by omega)
    by_cases e : a < -9223372036854775808 - b
    · rw [if_neg (by omega)]
      simp [-getElem?_pos, k_spec_AddInt_ic, k_spec_AddInt_rv, d1, d2, w, e]
    · rw [if_neg (by omega), if_neg (by omega)] at hw
      rw [if_pos (by omega)]
      simp [-getElem?_pos, k_spec_AddInt_ic, k_spec_AddInt_rv, d1, d2, w, e, hw]
  · subst c
    rw [if_neg (by omega), if_neg (by omega)] at hw
    rw [if_pos (by omega)]
    simp at hw
    simp [k_spec_AddInt_ic, k_spec_AddInt_rv, hw]
  · have d1 := eq_true c
    have d2 := eq_false (by omega : ¬ b < 0)
    have w := w64 (x := 9223372036854775807 - b) (by omega) (by omega)
    by_cases e : 9223372036854775807 - b < a
    · rw [if_neg (by omega)]
      simp [-getElem?_pos, k_spec_AddInt_ic, k_spec_AddInt_rv, d1, d2, w, e]
    · rw [if_neg (by omega), if_neg (by omega)] at hw
      rw [if_pos (by omega)]
      simp [-getElem?_pos, k_spec_AddInt_ic, k_spec_AddInt_rv, d1, d2, w, e, hw]

theorem adi_in {a b : Int} (ha : inI a) : inI (adi a b).1 := by
  unfold adi
  split
  · rename_i h; exact h
  · unfold inI; omega

def strs (l : List ByteArray) : List (List PV) := l.map fun s => [.v (.string s)]

@[simp] theorem strs_len (l : List ByteArray) : (strs l).length = l.length := by simp [strs]

def celT (q : Bool) (t : List Nd) : PV := if q then .own 5 (t.map nd) else .sl 5 (t.map nd)

@[simp] theorem fz_celT (q : Bool) (t : List Nd) : fz (celT q t) = .sl 5 (t.map nd) := by cases q <;> simp [celT]

def trs (q : Bool) (M : List (List Nd)) : List (List PV) := M.map fun t => [celT q t]

@[simp] theorem trs_len (q : Bool) (M : List (List Nd)) : (trs q M).length = M.length := by simp [trs]

def rwS (q : Bool) (l : List ByteArray) : PV := if q then .own 1 (strs l) else .sl 1 (strs l)

@[simp] theorem fz_rwS (q : Bool) (l : List ByteArray) : fz (rwS q l) = .sl 1 (strs l) := by cases q <;> simp [rwS]

def rwsS (q : Bool) (L : List (List ByteArray)) : List (List PV) := L.map fun l => [rwS q l]

@[simp] theorem rwsS_len (q : Bool) (L : List (List ByteArray)) : (rwsS q L).length = L.length := by simp [rwsS]

/-- The numbers below one that are meant. -/
def picks (p : Nat → Bool) (i : Nat) : List Int := ((List.range i).filter p).map fun (j : Nat) => (j : Int)

@[simp] theorem picks_0 (p : Nat → Bool) : picks p 0 = [] := rfl

/-- Rows that have been numbered. -/
def mkRows (k : Int) (L : List (List Int)) (j : Nat) : List Int := upto (k + lens (L.take j)) (L.getD j []).length

theorem setCell_get {es : List (List PV)} {i : Nat} {c d : PV} (h : es[i]? = some [c]) : setCell es i 0 d = es.set i [d] := by simp [setCell, h]

theorem lens_take {L : List (List Int)} {i : Nat} {l : List Int} (h : L[i]? = some l) : lens (L.take (i + 1)) = lens (L.take i) + l.length := by
  unfold lens
  rw [List.take_succ, h]; simp

theorem lens_le (L : List (List Int)) (i : Nat) : lens (L.take i) ≤ lens L := by
  induction L generalizing i with
  | nil => simp
  | cons a L ih =>
    cases i with
    | zero => simp [lens]
    | succ i => rw [List.take_succ_cons, lens_cons, lens_cons]; have := ih i; omega

theorem R_laws_markIntSS (L : List (List Int)) (k : Int) (h0 : 0 ≤ k) (hk : k + lens L ≤ 9223372036854775806) (hL : L.length ≤ 9223372036854775807) : RUN T k_laws_markIntSS [.own 1 (rws true L), iv k] = some ([iv (k + lens L)], [.own 1 (rws true ((List.range L.length).map (mkRows k L)))]) := by
  refine RUN_W T_laws_markIntSS rfl ?_
  simp [-getElem?_pos, k_laws_markIntSS_ic, k_laws_markIntSS_rv]
  obtain ⟨f, hf⟩ : ∃ f : Nat → List PV, f = fun j => [cel true (mkRows k L j)] := ⟨_, rfl⟩
  refine W_loop (fun n st => ∃ i : Nat, i + n = L.length ∧ 1 ≤ st.nx ∧ st.V 0 = .ref 0 none 0 0 L.length ∧ st.V 1 = iv (k + lens (L.take i)) ∧ st.V 5 = iv i ∧ st.S 0 = some (.row 1 (mix f (rws true L) i))) ?_ L.length _ ⟨0, by simp [mix_0, lens]⟩
  rintro n st ⟨i, hi, hnx, v0, v1, v5, hS⟩
  simp [k_laws_markIntSS_b0, v0, v1, v5, hS]
  refine Br_i (fun h => ?_) (fun h => ?_)
  · simp at h
    obtain ⟨l, hx⟩ : ∃ l, L[i]? = some l := ⟨_, List.getElem?_eq_getElem h⟩
    have hw := wS h hL
    have hx' := rws_get (q := true) hx
    have hg := (mix_get (f := f) (l := rws true L) (i := i)).trans hx'
    have hs := mix_set (f := f) (l := rws true L) (i := i) (by simpa using h)
    have hle := lens_le L (i + 1)
    have htk := lens_take hx
    have hM := R_laws_markIntS l (k + lens (L.take i)) (by omega) (by omega)
    have hsc : ∀ d : PV, setCell (mix f (rws true L) i) i 0 d = (mix f (rws true L) i).set i [d] := fun d => setCell_get hg
    have hfi : f i = [.own 1 (ints (upto (k + lens (L.take i)) l.length))] := by rw [hf]; simp [mkRows, hx, cel]
    rw [hfi] at hs
    have hml := mix_len (f := f) (l := rws true L) (i := i) (by simp; omega)
    simp at hml
    have hss : ∀ d : PV, setCell ((mix f (rws true L) i).set i [.undef]) i 0 d = (mix f (rws true L) i).set i [d] := fun d => by
      rw [setCell_get (c := .undef) (by rw [List.getElem?_set_self (by omega)]), List.set_set]
    simp only [cel, if_true] at hg
    obtain ⟨z1, z2, z3, z4⟩ := fr (show 0 < st.nx by omega)
    simp [-getElem?_pos, v0, v1, v5, hS, h, hg, hml, hM, hsc, hss, hs, hw, z1, z2, z3, z4, subRow]
    refine Rnd_n (n - 1) (by omega) ⟨i + 1, by omega, by simp, by simp [v0], ?_, by simp, by simp⟩
    simp [htk]; omega
  · simp at h
    have e := mix_all (f := f) (l := rws true L) (i := i) (by simp; omega)
    have e2 : i = L.length := by omega
    subst e2
    rw [e] at hS
    rw [List.take_length] at v1
    have e3 : rws true ((List.range L.length).map (mkRows k L)) = (List.range L.length).map f := by rw [hf]; simp [rws, Function.comp_def]
    rw [e3]
    simp [-getElem?_pos, hS, v1]

/-- A slot: how many, and their sum. -/
structure Sl where
  n : Int
  g : Int
deriving DecidableEq

def slc (x : Sl) : List PV := [iv x.n, iv x.g]

def slts (l : List Sl) : List (List PV) := l.map slc

@[simp] theorem slts_len (l : List Sl) : (slts l).length = l.length := by simp [slts]

theorem slts_get {l : List Sl} {i : Nat} {x : Sl} (h : l[i]? = some x) : (slts l)[i]? = some [iv x.n, iv x.g] := by simp [slts, h, slc]

theorem slts_set (l : List Sl) (i : Nat) (a b : Int) : (slts l).set i [iv a, iv b] = slts (l.set i ⟨a, b⟩) := by simp [slts, List.map_set, slc]

def slI (x : Sl) : Prop := inI x.n ∧ inI x.g

def plusS (a b : Sl) : Sl × Bool := if ((adi a.n b.n).2 && (adi a.g b.g).2) = true then (⟨(adi a.n b.n).1, (adi a.g b.g).1⟩, true) else (⟨0, 0⟩, false)

theorem plusS_in {a b : Sl} (h : slI a) : slI (plusS a b).1 := by
  unfold plusS
  split
  · exact ⟨adi_in h.1, adi_in h.2⟩
  · unfold slI inI; simp

theorem R_impl_plus (a b : Sl) (ha : slI a) (hb : slI b) : RUN T k__impl_Slot__plus [.agg (slc a), .agg (slc b)] = some ([.agg (slc (plusS a b).1), bv (plusS a b).2], []) := by
  refine RUN_W T__impl_Slot__plus rfl ?_
  have e1 := R_impl_AddInt a.n b.n ha.1 hb.1
  have e2 := R_impl_AddInt a.g b.g ha.2 hb.2
  unfold plusS
  generalize adi a.n b.n = x at *
  generalize adi a.g b.g = y at *
  obtain ⟨x, xb⟩ := x
  obtain ⟨y, yb⟩ := y
  simp only at e1 e2 ⊢
  cases xb <;> cases yb <;> simp [k__impl_Slot__plus_ic, k__impl_Slot__plus_rv, e1, e2, slc]

theorem R_spec_l13Add (a b : Sl) (ha : slI a) (hb : slI b) : RUN T k_spec_l13Add [.agg (slc a), .agg (slc b)] = some ([.agg (slc (plusS a b).1), bv (plusS a b).2], []) := by
  refine RUN_W T_spec_l13Add rfl ?_
  have e1 := R_spec_AddInt a.n b.n ha.1 hb.1
  have e2 := R_spec_AddInt a.g b.g ha.2 hb.2
  unfold plusS
  generalize adi a.n b.n = x at *
  generalize adi a.g b.g = y at *
  obtain ⟨x, xb⟩ := x
  obtain ⟨y, yb⟩ := y
  simp only at e1 e2 ⊢
  cases xb <;> cases yb <;> simp [k_spec_l13Add_ic, k_spec_l13Add_rv, e1, e2, slc]

def atI {α : Type} (l : List α) (i : Int) : Option α := if 0 ≤ i then l[i.toNat]? else none

theorem atI_some {α : Type} {l : List α} {i : Int} {x : α} (h : atI l i = some x) : ∃ j : Nat, i = j ∧ l[j]? = some x ∧ j < l.length := by
  unfold atI at h
  split at h
  · refine ⟨i.toNat, by omega, h, ?_⟩
    rcases Nat.lt_or_ge i.toNat l.length with h' | h'
    · exact h'
    · rw [List.getElem?_eq_none (by omega)] at h; cases h
  · cases h

theorem atI_none {α : Type} {l : List α} {i : Int} (h : atI l i = none) : i < 0 ∨ (l.length : Int) ≤ i := by
  unfold atI at h
  split at h
  · right
    rcases Nat.lt_or_ge i.toNat l.length with h' | h'
    · rw [List.getElem?_eq_getElem h'] at h; cases h
    · omega
  · omega

def histG (b g : List Int) : List Int → List Sl → Option (List Sl)
  | [], h => some h
  | r :: rs, h => match atI b r, atI g r with
    | some x, some y => match atI h x with
      | some s => if (plusS s ⟨1, y⟩).2 = true then histG b g rs (h.set x.toNat (plusS s ⟨1, y⟩).1) else none
      | none => none
    | _, _ => none

def histR (b g rows : List Int) (k : Int) : List Sl × Bool := if within k 1 8 = true then match histG b g rows (List.replicate k.toNat ⟨0, 0⟩) with
    | some h => (h, true)
    | none => ([], false)
  else ([], false)

theorem slts_rep (n : Nat) : slts (List.replicate n ⟨0, 0⟩) = List.replicate n [iv 0, iv 0] := by simp [slts, slc]

set_option maxHeartbeats 2000000 in
theorem R_impl_HistOf (b g rows : List Int) (k : Int) (hb : b.length ≤ 1048576) (hg : g.length ≤ 1048576) (hr : rows.length ≤ 1048576) (hgi : ∀ x ∈ g, inI x) : RUN T k_impl_HistOf [.sl 1 (ints b), .sl 1 (ints g), .sl 1 (ints rows), iv k] = some ([.own 2 (slts (histR b g rows k).1), bv (histR b g rows k).2], []) := by
  refine RUN_W T_impl_HistOf rfl ?_
  cases hk : within k 1 8 with
  | false =>
    have e := R_impl_within' k 1 8
    rw [hk] at e
    have e2 : histR b g rows k = ([], false) := by unfold histR; rw [hk]; rfl
    rw [e2]
    simp [-getElem?_pos, k_impl_HistOf_ic, k_impl_HistOf_rv, -R_impl_within, e, slts]
  | true =>
    have e := R_impl_within' k 1 8
    rw [hk] at e
    have hk' := within_iff.mp hk
    obtain ⟨kn, rfl⟩ : ∃ n : Nat, k = n := ⟨k.toNat, by omega⟩
    have hro : roomFor 16 kn = true := by simp [roomFor]; omega
    obtain ⟨R, hR⟩ : ∃ R, R = histR b g rows kn := ⟨_, rfl⟩
    have hR' : R = match histG b g rows (List.replicate kn ⟨0, 0⟩) with
      | some h => (h, true)
      | none => ([], false) := by rw [hR]; unfold histR; rw [if_pos hk]; simp
    rw [← hR]
    clear hR
    simp [-getElem?_pos, k_impl_HistOf_ic, k_impl_HistOf_rv, -R_impl_within, e, hro]
    refine W_loop (fun n st => ∃ (i : Nat) (h : List Sl), i + n = rows.length ∧ h.length = kn ∧ (∀ s ∈ h, slI s) ∧ histG b g (rows.drop i) h = histG b g rows (List.replicate kn ⟨0, 0⟩) ∧ st.V 0 = .sl 1 (ints b) ∧ st.V 1 = .sl 1 (ints g) ∧ st.V 3 = iv kn ∧ st.V 10 = .ref 0 none 0 0 kn ∧ st.V 20 = .sl 1 (ints rows) ∧ st.V 21 = iv rows.length ∧ st.V 22 = iv i ∧ 0 < st.nx ∧ st.S 0 = some (.row 2 (slts h))) ?_ rows.length _ ⟨0, List.replicate kn ⟨0, 0⟩, by omega, by simp, ?_, by simp, by simp, by simp, by simp, by simp, by simp, by simp, by simp, by simp, by simp [slts_rep]⟩
    · rintro n st ⟨i, h, hi, hhl, hhi, hh, v0, v1, v3, v10, v20, v21, v22, hnx, hS⟩
      obtain ⟨z1, z2, z3, z4⟩ := fr hnx
      by_cases hlt : i < rows.length
      · obtain ⟨r, hrr⟩ : ∃ r, rows[i]? = some r := ⟨_, List.getElem?_eq_getElem hlt⟩
        have hr' := ints_get hrr
        have hws := wS hlt (by omega : rows.length ≤ 9223372036854775807)
        have w1 := w64 (x := min (b.length : Int) g.length - 1) (by omega) (by omega)
        have w2 := w64 (x := (kn : Int) - 1) (by omega) (by omega)
        have e1 := R_impl_within' r 0 (min (b.length : Int) g.length - 1)
        rw [drop_cons hrr, histG] at hh
        cases hbx : atI b r with
        | none =>
          rw [hbx] at hh
          have hn := atI_none hbx
          have : within r 0 (min (b.length : Int) g.length - 1) = false := by
            cases hw : within r 0 (min (b.length : Int) g.length - 1) with
            | false => rfl
            | true => have := within_iff.mp hw; omega
          rw [this] at e1
          rw [← hh] at hR'
          subst hR'
          simp [-getElem?_pos, k_impl_HistOf_b0, -R_impl_within, v0, v1, v3, v10, v20, v21, v22, hS, hlt, hr', w1, e1, slts]
        | some x =>
          obtain ⟨rn, rfl, hbr, hbl⟩ := atI_some hbx
          cases hgy : atI g rn with
          | none =>
            rw [hbx, hgy] at hh
            have hn := atI_none hgy
            have : within rn 0 (min (b.length : Int) g.length - 1) = false := by
              cases hw : within rn 0 (min (b.length : Int) g.length - 1) with
              | false => rfl
              | true => have := within_iff.mp hw; omega
            rw [this] at e1
            rw [← hh] at hR'
            subst hR'
            simp [-getElem?_pos, k_impl_HistOf_b0, -R_impl_within, v0, v1, v3, v10, v20, v21, v22, hS, hlt, hr', w1, e1, slts]
          | some y =>
            obtain ⟨rn', hrn, hgr, hgl⟩ := atI_some hgy
            have : rn' = rn := by omega
            subst this
            have : within rn' 0 (min (b.length : Int) g.length - 1) = true := within_iff.mpr (by omega)
            rw [this] at e1
            rw [hbx, hgy] at hh
            simp only at hh
            have hb' := ints_get hbr
            have hg' := ints_get hgr
            have e2 := R_impl_within' x 0 ((kn : Int) - 1)
            cases hhx : atI h x with
            | none =>
              rw [hhx] at hh
              have hn := atI_none hhx
              have : within x 0 ((kn : Int) - 1) = false := by
                cases hw : within x 0 ((kn : Int) - 1) with
                | false => rfl
                | true => have := within_iff.mp hw; omega
              rw [this] at e2
              simp only at hh
              rw [← hh] at hR'
              subst hR'
              simp [-getElem?_pos, k_impl_HistOf_b0, -R_impl_within, v0, v1, v3, v10, v20, v21, v22, hS, hlt, hr', hb', hbl, w1, w2, e1, e2, slts]
            | some s =>
              obtain ⟨xn, rfl, hhs, hhl2⟩ := atI_some hhx
              have : within xn 0 ((kn : Int) - 1) = true := within_iff.mpr (by omega)
              rw [this] at e2
              rw [hhx] at hh
              have hs' := slts_get hhs
              have hsi := hhi s (List.mem_of_getElem? hhs)
              have hyi := hgi y (List.mem_of_getElem? hgr)
              have hpi := plusS_in (b := ⟨1, y⟩) hsi
              have e3 := R_impl_plus s ⟨1, y⟩ hsi ⟨by unfold inI; simp, hyi⟩
              simp only [Int.toNat_natCast] at hh
              have hxk : xn < kn := by omega
              generalize plusS s ⟨1, y⟩ = p at *
              obtain ⟨⟨pn, pg⟩, pb⟩ := p
              simp only [slc] at e3 hh
              cases pb with
              | false =>
                rw [if_neg (by simp)] at hh
                rw [← hh] at hR'
                subst hR'
                simp [-getElem?_pos, k_impl_HistOf_b0, -R_impl_within, v0, v1, v3, v10, v20, v21, v22, hS, hlt, hr', hb', hbl, hg', hgl, hs', hxk, hhl, w1, w2, e1, e2, e3, z1, z2, z3, z4]
                simp [slts]
              | true =>
                rw [if_pos rfl] at hh
                have hset := slts_set h xn pn pg
                simp [-getElem?_pos, k_impl_HistOf_b0, -R_impl_within, v0, v1, v3, v10, v20, v21, v22, hS, hlt, hr', hb', hbl, hg', hgl, hs', hxk, hhl, w1, w2, e1, e2, e3, hws, hset, z1, z2, z3, z4]
                refine Rnd_n (n - 1) (by omega) ⟨i + 1, h.set xn ⟨pn, pg⟩, by omega, by simp [hhl], fun q hq => ?_, hh, by simp [v0], by simp [v1], by simp [v3], by simp [v10], by simp [v20], by simp [v21], by simp, by simp, by simp⟩
                rcases List.mem_or_eq_of_mem_set hq with h' | h'
                · exact hhi q h'
                · subst h'; exact hpi
      · rw [List.drop_eq_nil_of_le (by omega), histG] at hh
        rw [← hh] at hR'
        subst hR'
        simp [-getElem?_pos, k_impl_HistOf_b0, v10, v21, v22, hS, hlt, hhl]
    · intro s hs
      have := List.eq_of_mem_replicate hs
      subst this
      exact ⟨by unfold inI; simp, by unfold inI; simp⟩

set_option maxHeartbeats 2000000 in
theorem R_spec_HistOf (b g rows : List Int) (k : Int) (hb : b.length ≤ 1048576) (hg : g.length ≤ 1048576) (hr : rows.length ≤ 1048576) (hgi : ∀ x ∈ g, inI x) : RUN T k_spec_HistOf [.sl 1 (ints b), .sl 1 (ints g), .sl 1 (ints rows), iv k] = some ([.own 2 (slts (histR b g rows k).1), bv (histR b g rows k).2], []) := by
  refine RUN_W T_spec_HistOf rfl ?_
  cases hk : within k 1 8 with
  | false =>
    have e := R_spec_l1In' k 1 8
    rw [hk] at e
    have e2 : histR b g rows k = ([], false) := by unfold histR; rw [hk]; rfl
    rw [e2]
    simp [-getElem?_pos, k_spec_HistOf_ic, k_spec_HistOf_rv, -R_spec_l1In, e, slts]
  | true =>
    have e := R_spec_l1In' k 1 8
    rw [hk] at e
    have hk' := within_iff.mp hk
    obtain ⟨kn, rfl⟩ : ∃ n : Nat, k = n := ⟨k.toNat, by omega⟩
    have hro : roomFor 16 kn = true := by simp [roomFor]; omega
    have hr0 : roomFor 16 0 = true := by decide
    obtain ⟨R, hR⟩ : ∃ R, R = histR b g rows kn := ⟨_, rfl⟩
    have hR' : R = match histG b g rows (List.replicate kn ⟨0, 0⟩) with
      | some h => (h, true)
      | none => ([], false) := by rw [hR]; unfold histR; rw [if_pos hk]; simp
    rw [← hR]
    clear hR
    simp [-getElem?_pos, k_spec_HistOf_ic, k_spec_HistOf_rv, -R_spec_l1In, e, hro, hr0]
    refine W_loop (fun n st => ∃ (i : Nat) (h : List Sl), i + n = rows.length ∧ h.length = kn ∧ (∀ s ∈ h, slI s) ∧ histG b g (rows.drop i) h = histG b g rows (List.replicate kn ⟨0, 0⟩) ∧ st.V 0 = .sl 1 (ints b) ∧ st.V 1 = .sl 1 (ints g) ∧ st.V 2 = .sl 1 (ints rows) ∧ st.V 3 = iv kn ∧ st.V 10 = .ref 0 none 0 0 0 ∧ st.V 11 = .ref 1 none 0 0 kn ∧ st.V 12 = iv i ∧ 1 < st.nx ∧ st.S 0 = some (.row 2 []) ∧ st.S 1 = some (.row 2 (slts h))) ?_ rows.length _ ⟨0, List.replicate kn ⟨0, 0⟩, by omega, by simp, ?_, by simp, by simp, by simp, by simp, by simp, by simp, by simp, by simp, by simp, by simp, by simp [slts_rep]⟩
    · rintro n st ⟨i, h, hi, hhl, hhi, hh, v0, v1, v2, v3, v10, v11, v12, hnx, hS0, hS⟩
      obtain ⟨z1, z2, z3, z4⟩ := fr hnx
      obtain ⟨y1, y2, y3, y4⟩ := fr (show 0 < st.nx by omega)
      by_cases hlt : i < rows.length
      · obtain ⟨r, hrr⟩ : ∃ r, rows[i]? = some r := ⟨_, List.getElem?_eq_getElem hlt⟩
        have hr' := ints_get hrr
        have hws := wS hlt (by omega : rows.length ≤ 9223372036854775807)
        have w1 := w64 (x := (b.length : Int) - 1) (by omega) (by omega)
        have w1' := w64 (x := (g.length : Int) - 1) (by omega) (by omega)
        have w2 := w64 (x := (kn : Int) - 1) (by omega) (by omega)
        have e1 := R_spec_l1In' r 0 ((b.length : Int) - 1)
        have e1' := R_spec_l1In' r 0 ((g.length : Int) - 1)
        rw [drop_cons hrr, histG] at hh
        cases hbx : atI b r with
        | none =>
          rw [hbx] at hh
          have hn := atI_none hbx
          have : within r 0 ((b.length : Int) - 1) = false := by
            cases hw : within r 0 ((b.length : Int) - 1) with
            | false => rfl
            | true => have := within_iff.mp hw; omega
          rw [this] at e1
          rw [← hh] at hR'
          subst hR'
          simp [-getElem?_pos, k_spec_HistOf_b0, -R_spec_l1In, v0, v1, v2, v3, v10, v11, v12, hS0, hS, hlt, hr', w1, e1, slts]
        | some x =>
          obtain ⟨rn, rfl, hbr, hbl⟩ := atI_some hbx
          cases hgy : atI g rn with
          | none =>
            rw [hbx, hgy] at hh
            have hn := atI_none hgy
            have : within rn 0 ((g.length : Int) - 1) = false := by
              cases hw : within rn 0 ((g.length : Int) - 1) with
              | false => rfl
              | true => have := within_iff.mp hw; omega
            rw [this] at e1'
            rw [show within rn 0 ((b.length : Int) - 1) = true from within_iff.mpr (by omega)] at e1
            rw [← hh] at hR'
            subst hR'
            simp [-getElem?_pos, k_spec_HistOf_b0, -R_spec_l1In, v0, v1, v2, v3, v10, v11, v12, hS0, hS, hlt, hr', w1, w1', e1, e1', slts]
          | some y =>
            obtain ⟨rn', hrn, hgr, hgl⟩ := atI_some hgy
            have : rn' = rn := by omega
            subst this
            rw [show within rn' 0 ((b.length : Int) - 1) = true from within_iff.mpr (by omega)] at e1
            rw [show within rn' 0 ((g.length : Int) - 1) = true from within_iff.mpr (by omega)] at e1'
            rw [hbx, hgy] at hh
            simp only at hh
            have hb' := ints_get hbr
            have hg' := ints_get hgr
            have e2 := R_spec_l1In' x 0 ((kn : Int) - 1)
            cases hhx : atI h x with
            | none =>
              rw [hhx] at hh
              have hn := atI_none hhx
              have : within x 0 ((kn : Int) - 1) = false := by
                cases hw : within x 0 ((kn : Int) - 1) with
                | false => rfl
                | true => have := within_iff.mp hw; omega
              rw [this] at e2
              simp only at hh
              rw [← hh] at hR'
              subst hR'
              simp [-getElem?_pos, k_spec_HistOf_b0, -R_spec_l1In, v0, v1, v2, v3, v10, v11, v12, hS0, hS, hlt, hr', hb', hbl, w1, w1', w2, e1, e1', e2, slts]
            | some s =>
              obtain ⟨xn, rfl, hhs, hhl2⟩ := atI_some hhx
              have : within xn 0 ((kn : Int) - 1) = true := within_iff.mpr (by omega)
              rw [this] at e2
              rw [hhx] at hh
              have hs' := slts_get hhs
              have hsi := hhi s (List.mem_of_getElem? hhs)
              have hyi := hgi y (List.mem_of_getElem? hgr)
              have hpi := plusS_in (b := ⟨1, y⟩) hsi
              have e3 := R_spec_l13Add s ⟨1, y⟩ hsi ⟨by unfold inI; simp, hyi⟩
              simp only [Int.toNat_natCast] at hh
              have hxk : xn < kn := by omega
              generalize plusS s ⟨1, y⟩ = p at *
              obtain ⟨⟨pn, pg⟩, pb⟩ := p
              simp only [slc] at e3 hh
              cases pb with
              | false =>
                rw [if_neg (by simp)] at hh
                rw [← hh] at hR'
                subst hR'
                simp [-getElem?_pos, k_spec_HistOf_b0, -R_spec_l1In, v0, v1, v2, v3, v10, v11, v12, hS0, hS, hlt, hr', hb', hbl, hg', hgl, hs', hxk, hhl, w1, w1', w2, e1, e1', e2, e3, z1, z2, z3, z4, y1, y2, y3, y4]
                simp [slts]
              | true =>
                rw [if_pos rfl] at hh
                have hset := slts_set h xn pn pg
                simp [-getElem?_pos, k_spec_HistOf_b0, -R_spec_l1In, v0, v1, v2, v3, v10, v11, v12, hS0, hS, hlt, hr', hb', hbl, hg', hgl, hs', hxk, hhl, w1, w1', w2, e1, e1', e2, e3, hws, hset, z1, z2, z3, z4, y1, y2, y3, y4]
                refine Rnd_n (n - 1) (by omega) ⟨i + 1, h.set xn ⟨pn, pg⟩, by omega, by simp [hhl], fun q hq => ?_, hh, by simp [v0], by simp [v1], by simp [v2], by simp [v3], by simp [v10], by simp [v11], by simp, by simp; omega, by simp [y1, y2, y3, y4, z1, z2, z3, z4, hS0], by simp⟩
                rcases List.mem_or_eq_of_mem_set hq with h' | h'
                · exact hhi q h'
                · subst h'; exact hpi
      · rw [List.drop_eq_nil_of_le (by omega), histG] at hh
        rw [← hh] at hR'
        subst hR'
        simp [-getElem?_pos, k_spec_HistOf_b0, v2, v11, v12, hS, hlt, hhl]
    · intro s hs
      have := List.eq_of_mem_replicate hs
      subst this
      exact ⟨by unfold inI; simp, by unfold inI; simp⟩

def celS (q : Bool) (l : List Sl) : PV := if q then .own 2 (slts l) else .sl 2 (slts l)

@[simp] theorem fz_celS (q : Bool) (l : List Sl) : fz (celS q l) = .sl 2 (slts l) := by cases q <;> simp [celS]

def rss (q : Bool) (H : List (List Sl)) : List (List PV) := H.map fun l => [celS q l]

@[simp] theorem rss_len (q : Bool) (H : List (List Sl)) : (rss q H).length = H.length := by simp [rss]

theorem rss_get {q : Bool} {H : List (List Sl)} {i : Nat} {l : List Sl} (h : H[i]? = some l) : (rss q H)[i]? = some [celS q l] := by simp [rss, h]

theorem rss_snoc (H : List (List Sl)) (l : List Sl) : rss true H ++ [[.own 2 (slts l)]] = rss true (H ++ [l]) := by simp [rss, celS]

def nodeL (g rows : List Int) : List (List Int) → List (List Int) → Option (List (List Sl))
  | x :: c, y :: v => if (histR y g rows (x.length + 1)).2 = true then (nodeL g rows c v).map ((histR y g rows (x.length + 1)).1 :: ·) else none
  | _, _ => some []

def nodeR (c v : List (List Int)) (g rows : List Int) : List (List Sl) × Bool := if gridB c v = true then match nodeL g rows c v with
    | some h => (h, true)
    | none => ([], false)
  else ([], false)

theorem nodeL_c {g rows : List Int} {c v : List (List Int)} {i : Nat} {x y : List Int} (hx : c[i]? = some x) (hy : v[i]? = some y) : nodeL g rows (c.drop i) (v.drop i) = if (histR y g rows (x.length + 1)).2 = true then (nodeL g rows (c.drop (i + 1)) (v.drop (i + 1))).map ((histR y g rows (x.length + 1)).1 :: ·) else none := by
  rw [drop_cons hx, drop_cons hy, nodeL]

theorem nodeL_nil {g rows : List Int} {v : List (List Int)} : nodeL g rows [] v = some [] := by simp [nodeL]

theorem histG_len {b g : List Int} : ∀ (rows : List Int) (h h' : List Sl), histG b g rows h = some h' → h'.length = h.length
  | [], h, h', e => by simp [histG] at e; subst e; rfl
  | r :: rs, h, h', e => by
    simp only [histG] at e
    split at e
    · split at e
      · split at e
        · have := histG_len rs _ _ e
          simpa using this
        · cases e
      · cases e
    · cases e

theorem histR_len (b g rows : List Int) (k : Int) : (histR b g rows k).1.length ≤ 8 := by
  unfold histR
  split
  · rename_i hk
    have := within_iff.mp hk
    cases h : histG b g rows (List.replicate k.toNat ⟨0, 0⟩) with
    | none => simp
    | some h' => have := histG_len _ _ _ h; simp at this; simp; omega
  · simp

theorem nodeL_facts {g rows : List Int} : ∀ (c v : List (List Int)) (H : List (List Sl)), nodeL g rows c v = some H → H.length ≤ c.length ∧ ∀ l ∈ H, l.length ≤ 8
  | [], v, H, h => by simp [nodeL] at h; subst h; simp
  | x :: c, [], H, h => by simp [nodeL] at h; subst h; simp
  | x :: c, y :: v, H, h => by
    simp only [nodeL] at h
    split at h
    · simp only [Option.map_eq_some_iff] at h
      obtain ⟨H', h1, rfl⟩ := h
      obtain ⟨h2, h3⟩ := nodeL_facts c v H' h1
      refine ⟨by simp; omega, fun l hl => ?_⟩
      rcases List.mem_cons.mp hl with e | e
      · subst e; exact histR_len _ _ _ _
      · exact h3 l e
    · cases h

theorem nodeR_facts (c v : List (List Int)) (g rows : List Int) : (nodeR c v g rows).1.length ≤ c.length ∧ ∀ l ∈ (nodeR c v g rows).1, l.length ≤ 8 := by
  unfold nodeR
  split
  · cases h : nodeL g rows c v with
    | none => simp
    | some H => exact nodeL_facts c v H h
  · simp

theorem gridB_len {c v : List (List Int)} (h : gridB c v = true) : v.length = c.length ∧ c.length ≤ 4 := by
  unfold gridB at h
  simp only [Bool.and_eq_true, decide_eq_true_eq] at h
  have := within_iff.mp h.1.1.1
  omega

set_option maxHeartbeats 2000000 in
theorem R_impl_NodeHists (q : Bool) (c v : List (List Int)) (g rows : List Int) (hc : ∀ l ∈ c, l.length ≤ 1048576) (hv : ∀ l ∈ v, l.length ≤ 1048576) (hg : g.length ≤ 1048576) (hr : rows.length ≤ 1048576) (hgi : ∀ x ∈ g, inI x) : RUN T k_impl_NodeHists [.agg [.sl 1 (rws q c), .sl 1 (rws q v)], .sl 1 (ints g), .sl 1 (ints rows)] = some ([.own 1 (rss true (nodeR c v g rows).1), bv (nodeR c v g rows).2], []) := by
  refine RUN_W T_impl_NodeHists rfl ?_
  have e := R_impl_GridOk q c v (fun l hl => Nat.le_trans (hc l hl) (by omega)) (fun l hl => Nat.le_trans (hv l hl) (by omega))
  cases hk : gridB c v with
  | false =>
    rw [hk] at e
    have e2 : nodeR c v g rows = ([], false) := by unfold nodeR; rw [hk]; rfl
    rw [e2]
    simp [-getElem?_pos, k_impl_NodeHists_ic, k_impl_NodeHists_rv, e, rss]
  | true =>
    rw [hk] at e
    obtain ⟨hvc, hc4⟩ := gridB_len hk
    obtain ⟨R, hR⟩ : ∃ R, R = nodeR c v g rows := ⟨_, rfl⟩
    have hR' : R = match nodeL g rows c v with
      | some h => (h, true)
      | none => ([], false) := by rw [hR]; unfold nodeR; rw [if_pos hk]
    rw [← hR]
    clear hR
    have hr0 : roomFor 24 0 = true := by decide
    have hr1 : roomFor 24 1 = true := by decide
    simp [-getElem?_pos, k_impl_NodeHists_ic, k_impl_NodeHists_rv, e, hr0]
    refine W_loop (fun n st => ∃ (i o e : Nat) (H : List (List Sl)), i + n = c.length ∧ H.length = i ∧ nodeL g rows c v = (nodeL g rows (c.drop i) (v.drop i)).map (H ++ ·) ∧ st.V 1 = .sl 1 (ints g) ∧ st.V 2 = .sl 1 (ints rows) ∧ st.V 3 = .ptr 0 none 0 0 0 ∧ st.V 8 = .ref o none e 0 H.length ∧ st.V 18 = .sl 1 (rws q c) ∧ st.V 19 = iv c.length ∧ st.V 20 = iv i ∧ 0 < o ∧ o < st.nx ∧ st.S 0 = some (.box [.sl 1 (rws q c), .sl 1 (rws q v)]) ∧ st.S o = some (.row 1 (rss true H))) ?_ c.length _ ⟨0, 1, 0, [], by simp [rss]⟩
    rintro n st ⟨i, o, ep, H, hi, hH, hL, v1, v2, v3, v8, v18, v19, v20, ho, hox, hS, hSo⟩
    obtain ⟨x1, x2, x3, x4⟩ := fr hox
    obtain ⟨g1, g2, g3, g4⟩ := fr ho
    obtain ⟨z1, z2, z3, z4⟩ := fr (show 0 < st.nx by omega)
    by_cases hlt : i < c.length
    · obtain ⟨x, hx⟩ : ∃ x, c[i]? = some x := ⟨_, List.getElem?_eq_getElem hlt⟩
      obtain ⟨y, hy⟩ : ∃ y, v[i]? = some y := ⟨_, List.getElem?_eq_getElem (by omega)⟩
      have hx' := rws_get (q := q) hx
      have hy' := rws_get (q := q) hy
      have hiv : i < v.length := by omega
      have hxl := hc x (List.mem_of_getElem? hx)
      have hws := wS hlt (by omega : c.length ≤ 9223372036854775807)
      have hwl := w64 (x := (x.length : Int) + 1) (by omega) (by omega)
      have hh := R_impl_HistOf y g rows (x.length + 1) (hv y (List.mem_of_getElem? hy)) hg hr hgi
      have hr24 : roomFor 24 (H.length + 1) = true := by simp [roomFor]; omega
      rw [nodeL_c hx hy] at hL
      generalize histR y g rows (x.length + 1) = p at *
      obtain ⟨ph, pb⟩ := p
      simp only at hh hL
      cases pb with
      | false =>
        rw [if_neg (by simp)] at hL
        rw [hL] at hR'
        subst hR'
        simp [-getElem?_pos, k_impl_NodeHists_b0, v1, v2, v3, v8, v18, v19, v20, hS, hSo, hlt, hiv, hx', hy', hwl, hh, rss, x1, x2, x3, x4, g1, g2, g3, g4, z1, z2, z3, z4]
      | true =>
        rw [if_pos rfl] at hL
        have hsn := rss_snoc H ph
        simp [-getElem?_pos, k_impl_NodeHists_b0, v1, v2, v3, v8, v18, v19, v20, hS, hSo, hlt, hiv, hx', hy', hwl, hws, hh, hr1, hr24, hsn, x1, x2, x3, x4, g1, g2, g3, g4, z1, z2, z3, z4]
        exact Rnd_n (n - 1) (by omega) ⟨i + 1, st.nx + 2, st.ep, H ++ [ph], by omega, by simp [hH], by rw [hL]; cases nodeL g rows (c.drop (i + 1)) (v.drop (i + 1)) <;> simp, by simp [v1], by simp [v2], by simp [v3], by simp, by simp [v18], by simp [v19], by simp, by omega, by simp, by simp [x1, x2, x3, x4, g1, g2, g3, g4, z1, z2, z3, z4, hS], by simp⟩
    · have h0 : c.drop i = [] := List.drop_eq_nil_of_le (by omega)
      rw [h0, nodeL_nil] at hL
      rw [hL] at hR'
      simp only [Option.map_some, List.append_nil] at hR'
      subst hR'
      simp [-getElem?_pos, k_impl_NodeHists_b0, v8, v19, v20, hSo, hlt]

set_option maxHeartbeats 2000000 in
theorem R_spec_NodeHists (q : Bool) (c v : List (List Int)) (g rows : List Int) (hc : ∀ l ∈ c, l.length ≤ 1048576) (hv : ∀ l ∈ v, l.length ≤ 1048576) (hg : g.length ≤ 1048576) (hr : rows.length ≤ 1048576) (hgi : ∀ x ∈ g, inI x) : RUN T k_spec_NodeHists [.agg [.sl 1 (rws q c), .sl 1 (rws q v)], .sl 1 (ints g), .sl 1 (ints rows)] = some ([.own 1 (rss true (nodeR c v g rows).1), bv (nodeR c v g rows).2], []) := by
  refine RUN_W T_spec_NodeHists rfl ?_
  have e := R_spec_GridOk q c v (fun l hl => Nat.le_trans (hc l hl) (by omega)) (fun l hl => Nat.le_trans (hv l hl) (by omega))
  cases hk : gridB c v with
  | false =>
    rw [hk] at e
    have e2 : nodeR c v g rows = ([], false) := by unfold nodeR; rw [hk]; rfl
    rw [e2]
    have hr0 : roomFor 24 0 = true := by decide
    simp [-getElem?_pos, k_spec_NodeHists_ic, k_spec_NodeHists_rv, e, hr0, rss]
  | true =>
    rw [hk] at e
    obtain ⟨hvc, hc4⟩ := gridB_len hk
    obtain ⟨R, hR⟩ : ∃ R, R = nodeR c v g rows := ⟨_, rfl⟩
    have hR' : R = match nodeL g rows c v with
      | some h => (h, true)
      | none => ([], false) := by rw [hR]; unfold nodeR; rw [if_pos hk]
    rw [← hR]
    clear hR
    have hr0 : roomFor 24 0 = true := by decide
    have hr1 : roomFor 24 1 = true := by decide
    simp [-getElem?_pos, k_spec_NodeHists_ic, k_spec_NodeHists_rv, e, hr0]
    refine W_loop (fun n st => ∃ (i o e : Nat) (H : List (List Sl)), i + n = c.length ∧ H.length = i ∧ nodeL g rows c v = (nodeL g rows (c.drop i) (v.drop i)).map (H ++ ·) ∧ st.V 1 = .sl 1 (ints g) ∧ st.V 2 = .sl 1 (ints rows) ∧ st.V 3 = .ptr 0 none 0 0 0 ∧ st.V 8 = .ref o none e 0 H.length ∧ st.V 9 = iv i ∧ 0 < o ∧ o < st.nx ∧ st.S 0 = some (.box [.sl 1 (rws q c), .sl 1 (rws q v)]) ∧ st.S o = some (.row 1 (rss true H))) ?_ c.length _ ⟨0, 1, 0, [], by simp [rss]⟩
    rintro n st ⟨i, o, ep, H, hi, hH, hL, v1, v2, v3, v8, v9, ho, hox, hS, hSo⟩
    obtain ⟨x1, x2, x3, x4⟩ := fr hox
    obtain ⟨g1, g2, g3, g4⟩ := fr ho
    obtain ⟨z1, z2, z3, z4⟩ := fr (show 0 < st.nx by omega)
    by_cases hlt : i < c.length
    · obtain ⟨x, hx⟩ : ∃ x, c[i]? = some x := ⟨_, List.getElem?_eq_getElem hlt⟩
      obtain ⟨y, hy⟩ : ∃ y, v[i]? = some y := ⟨_, List.getElem?_eq_getElem (by omega)⟩
      have hx' := rws_get (q := q) hx
      have hy' := rws_get (q := q) hy
      have hiv : i < v.length := by omega
      have hxl := hc x (List.mem_of_getElem? hx)
      have hws := wS hlt (by omega : c.length ≤ 9223372036854775807)
      have hwl := w64 (x := (x.length : Int) + 1) (by omega) (by omega)
      have hh := R_spec_HistOf y g rows (x.length + 1) (hv y (List.mem_of_getElem? hy)) hg hr hgi
      have hr24 : roomFor 24 (H.length + 1) = true := by simp [roomFor]; omega
      rw [nodeL_c hx hy] at hL
      generalize histR y g rows (x.length + 1) = p at *
      obtain ⟨ph, pb⟩ := p
      simp only at hh hL
      cases pb with
      | false =>
        rw [if_neg (by simp)] at hL
        rw [hL] at hR'
        subst hR'
        simp [-getElem?_pos, k_spec_NodeHists_b0, v1, v2, v3, v8, v9, hr0, hS, hSo, hlt, hiv, hx', hy', hwl, hh, rss, x1, x2, x3, x4, g1, g2, g3, g4, z1, z2, z3, z4]
      | true =>
        rw [if_pos rfl] at hL
        have hsn := rss_snoc H ph
        simp [-getElem?_pos, k_spec_NodeHists_b0, v1, v2, v3, v8, v9, hr0, hS, hSo, hlt, hiv, hx', hy', hwl, hws, hh, hr1, hr24, hsn, x1, x2, x3, x4, g1, g2, g3, g4, z1, z2, z3, z4]
        exact Rnd_n (n - 1) (by omega) ⟨i + 1, st.nx + 2, st.ep, H ++ [ph], by omega, by simp [hH], by rw [hL]; cases nodeL g rows (c.drop (i + 1)) (v.drop (i + 1)) <;> simp, by simp [v1], by simp [v2], by simp [v3], by simp, by simp, by omega, by simp, by simp [x1, x2, x3, x4, g1, g2, g3, g4, z1, z2, z3, z4, hS], by simp⟩
    · have h0 : c.drop i = [] := List.drop_eq_nil_of_le (by omega)
      rw [h0, nodeL_nil] at hL
      rw [hL] at hR'
      simp only [Option.map_some, List.append_nil] at hR'
      subst hR'
      simp [-getElem?_pos, k_spec_NodeHists_b0, v3, v8, v9, hS, hSo, hlt]

theorem R_laws_eqSlot (a : Sl) : RUN T k_laws_eqSlot [.agg (slc a), .agg (slc a)] = some ([bv true], []) := by
  refine RUN_W T_laws_eqSlot rfl ?_
  simp [k_laws_eqSlot_ic, k_laws_eqSlot_rv, slc]

theorem R_laws_eqSlotS (l : List Sl) (hl : l.length ≤ 9223372036854775807) : RUN T k_laws_eqSlotS [.sl 2 (slts l), .sl 2 (slts l)] = some ([bv true], []) := by
  refine RUN_W T_laws_eqSlotS rfl ?_
  simp [k_laws_eqSlotS_ic, k_laws_eqSlotS_rv]
  refine W_loop (fun n st => ∃ i : Nat, i + n = l.length ∧ st.V 0 = .sl 2 (slts l) ∧ st.V 1 = .sl 2 (slts l) ∧ st.V 5 = iv i) ?_ l.length _ ⟨0, by simp⟩
  rintro n st ⟨i, hi, v0, v1, v5⟩
  simp [k_laws_eqSlotS_b0, v0, v1, v5]
  refine Br_i (fun h => ?_) (fun h => ?_)
  · simp at h
    obtain ⟨x, hx⟩ : ∃ x, l[i]? = some x := ⟨_, List.getElem?_eq_getElem h⟩
    have hw := wS h hl
    have hx' := slts_get hx
    have hz := R_laws_eqSlot x
    simp only [slc] at hz
    simp [-getElem?_pos, v0, v1, v5, h, hx', hw, hz]
    exact Rnd_n (n - 1) (by omega) ⟨i + 1, by omega, by simp [v0], by simp [v1], by simp⟩
  · simp

theorem R_laws_eqSlotSS (p q : Bool) (H : List (List Sl)) (hl : H.length ≤ 9223372036854775807) (hll : ∀ l ∈ H, l.length ≤ 9223372036854775807) : RUN T k_laws_eqSlotSS [.sl 1 (rss p H), .sl 1 (rss q H)] = some ([bv true], []) := by
  refine RUN_W T_laws_eqSlotSS rfl ?_
  simp [k_laws_eqSlotSS_ic, k_laws_eqSlotSS_rv]
  refine W_loop (fun n st => ∃ i : Nat, i + n = H.length ∧ st.V 0 = .sl 1 (rss p H) ∧ st.V 1 = .sl 1 (rss q H) ∧ st.V 5 = iv i) ?_ H.length _ ⟨0, by simp⟩
  rintro n st ⟨i, hi, v0, v1, v5⟩
  simp [k_laws_eqSlotSS_b0, v0, v1, v5]
  refine Br_i (fun h => ?_) (fun h => ?_)
  · simp at h
    obtain ⟨l, hx⟩ : ∃ l, H[i]? = some l := ⟨_, List.getElem?_eq_getElem h⟩
    have hw := wS h hl
    have hx1 := rss_get (q := p) hx
    have hx2 := rss_get (q := q) hx
    have hz := R_laws_eqSlotS l (hll l (List.mem_of_getElem? hx))
    simp [-getElem?_pos, v0, v1, v5, h, hx1, hx2, hw, hz]
    exact Rnd_n (n - 1) (by omega) ⟨i + 1, by omega, by simp [v0], by simp [v1], by simp⟩
  · simp

/-- Slots that have been numbered. -/
def mkSl (k : Int) (n : Nat) : List Sl := (List.range n).map fun (i : Nat) => ⟨k + 2 * (i : Int), k + 2 * (i : Int) + 1⟩

@[simp] theorem mkSl_len (k : Int) (n : Nat) : (mkSl k n).length = n := by simp [mkSl]

theorem R_laws_markSlotS (l : List Sl) (k : Int) (h0 : 0 ≤ k) (hk : k + 2 * l.length ≤ 9223372036854775806) : RUN T k_laws_markSlotS [.own 2 (slts l), iv k] = some ([iv (k + 2 * l.length)], [.own 2 (slts (mkSl k l.length))]) := by
  refine RUN_W T_laws_markSlotS rfl ?_
  simp [k_laws_markSlotS_ic, k_laws_markSlotS_rv]
  obtain ⟨f, hf⟩ : ∃ f : Nat → List PV, f = fun (j : Nat) => [iv (k + 2 * (j : Int)), iv (k + 2 * (j : Int) + 1)] := ⟨_, rfl⟩
  refine W_loop (fun n st => ∃ i : Nat, i + n = l.length ∧ st.V 0 = .ref 0 none 0 0 l.length ∧ st.V 1 = iv (k + 2 * i) ∧ st.V 5 = iv i ∧ st.ep = 0 ∧ st.S 0 = some (.row 2 (mix f (slts l) i))) ?_ l.length _ ⟨0, by simp [mix_0]⟩
  rintro n st ⟨i, hi, v0, v1, v5, hep, hS⟩
  simp [k_laws_markSlotS_b0, v0, v1, v5, hS]
  refine Br_i (fun h => ?_) (fun h => ?_)
  · simp at h
    obtain ⟨x, hx⟩ : ∃ x, l[i]? = some x := ⟨_, List.getElem?_eq_getElem h⟩
    have hw := wS h (by omega : l.length ≤ 9223372036854775807)
    have w1 : IntKind.i64.wrap (k + 2 * (i : Int) + 1) = k + 2 * (i : Int) + 1 := w64 (by omega) (by omega)
    have w2 : IntKind.i64.wrap (k + 2 * (i : Int) + 1 + 1) = k + 2 * ((i : Int) + 1) := by rw [w64 (by omega) (by omega)]; omega
    have hx' := slts_get hx
    have hg := (mix_get (f := f) (l := slts l) (i := i)).trans hx'
    have hs := mix_set (f := f) (l := slts l) (i := i) (by simpa using h)
    have hfi : f i = [iv (k + 2 * (i : Int)), iv (k + 2 * (i : Int) + 1)] := by rw [hf]
    rw [hfi] at hs
    have hl := mix_len (f := f) (l := slts l) (i := i) (by simp; omega)
    simp at hl
    simp [-getElem?_pos, v0, v1, v5, hS, hep, h, hg, hs, hl, hw, w1, w2]
    exact Rnd_n (n - 1) (by omega) ⟨i + 1, by omega, by simp [v0], by simp, by simp, by simp, by simp⟩
  · simp at h
    have e := mix_all (f := f) (l := slts l) (i := i) (by simp; omega)
    have e2 : i = l.length := by omega
    subst e2
    simp [hS, e, v1]
    simp [mkSl, hf, Function.comp_def, slts, slc]

theorem R_laws_heldSlotS (k : Int) (n : Nat) (h0 : 0 ≤ k) (hk : k + 2 * n ≤ 9223372036854775806) : RUN T k_laws_heldSlotS [.sl 2 (slts (mkSl k n)), iv k] = some ([iv (k + 2 * n)], []) := by
  refine RUN_W T_laws_heldSlotS rfl ?_
  simp [k_laws_heldSlotS_ic, k_laws_heldSlotS_rv]
  refine W_loop (fun q st => ∃ i : Nat, i + q = n ∧ st.V 0 = .sl 2 (slts (mkSl k n)) ∧ st.V 1 = iv (k + 2 * i) ∧ st.V 5 = iv i) ?_ n _ ⟨0, by simp⟩
  rintro q st ⟨i, hi, v0, v1, v5⟩
  simp [k_laws_heldSlotS_b0, v0, v1, v5]
  refine Br_i (fun h => ?_) (fun h => ?_)
  · simp at h
    have hw := wS h (by omega : n ≤ 9223372036854775807)
    have w1 : IntKind.i64.wrap (k + 2 * (i : Int) + 1) = k + 2 * (i : Int) + 1 := w64 (by omega) (by omega)
    have w2 : IntKind.i64.wrap (k + 2 * (i : Int) + 1 + 1) = k + 2 * ((i : Int) + 1) := by rw [w64 (by omega) (by omega)]; omega
    have hx' : (slts (mkSl k n))[i]? = some [iv (k + 2 * i), iv (k + 2 * i + 1)] := slts_get (x := ⟨k + 2 * i, k + 2 * i + 1⟩) (by simp [mkSl, h])
    simp [-getElem?_pos, v0, v1, v5, h, hx', hw, w1, w2]
    exact Rnd_n (q - 1) (by omega) ⟨i + 1, by omega, by simp [v0], by simp, by simp⟩
  · simp at h
    simp [v1]; omega

def lensS (H : List (List Sl)) : Nat := (H.map List.length).sum

def mkSs (k : Int) (H : List (List Sl)) (j : Nat) : List Sl := mkSl (k + 2 * lensS (H.take j)) (H.getD j []).length

theorem lensS_take {H : List (List Sl)} {i : Nat} {l : List Sl} (h : H[i]? = some l) : lensS (H.take (i + 1)) = lensS (H.take i) + l.length := by
  unfold lensS
  rw [List.take_succ, h]; simp

theorem lensS_le (H : List (List Sl)) (i : Nat) : lensS (H.take i) ≤ lensS H := by
  induction H generalizing i with
  | nil => simp
  | cons a L ih =>
    cases i with
    | zero => simp [lensS]
    | succ i =>
      have := ih i
      simp only [lensS, List.take_succ_cons, List.map_cons, List.sum_cons] at *
      omega

theorem R_laws_markSlotSS (L : List (List Sl)) (k : Int) (h0 : 0 ≤ k) (hk : k + 2 * lensS L ≤ 9223372036854775806) (hL : L.length ≤ 9223372036854775807) : RUN T k_laws_markSlotSS [.own 1 (rss true L), iv k] = some ([iv (k + 2 * lensS L)], [.own 1 (rss true ((List.range L.length).map (mkSs k L)))]) := by
  refine RUN_W T_laws_markSlotSS rfl ?_
  simp [-getElem?_pos, k_laws_markSlotSS_ic, k_laws_markSlotSS_rv]
  obtain ⟨f, hf⟩ : ∃ f : Nat → List PV, f = fun j => [celS true (mkSs k L j)] := ⟨_, rfl⟩
  refine W_loop (fun n st => ∃ i : Nat, i + n = L.length ∧ 1 ≤ st.nx ∧ st.V 0 = .ref 0 none 0 0 L.length ∧ st.V 1 = iv (k + 2 * lensS (L.take i)) ∧ st.V 5 = iv i ∧ st.S 0 = some (.row 1 (mix f (rss true L) i))) ?_ L.length _ ⟨0, by simp [mix_0, lensS]⟩
  rintro n st ⟨i, hi, hnx, v0, v1, v5, hS⟩
  simp [k_laws_markSlotSS_b0, v0, v1, v5, hS]
  refine Br_i (fun h => ?_) (fun h => ?_)
  · simp at h
    obtain ⟨l, hx⟩ : ∃ l, L[i]? = some l := ⟨_, List.getElem?_eq_getElem h⟩
    have hw := wS h hL
    have hx' := rss_get (q := true) hx
    have hg := (mix_get (f := f) (l := rss true L) (i := i)).trans hx'
    have hs := mix_set (f := f) (l := rss true L) (i := i) (by simpa using h)
    have hle := lensS_le L (i + 1)
    have htk := lensS_take hx
    have hM := R_laws_markSlotS l (k + 2 * lensS (L.take i)) (by omega) (by omega)
    have hsc : ∀ d : PV, setCell (mix f (rss true L) i) i 0 d = (mix f (rss true L) i).set i [d] := fun d => setCell_get hg
    have hfi : f i = [.own 2 (slts (mkSl (k + 2 * lensS (L.take i)) l.length))] := by rw [hf]; simp [mkSs, hx, celS]
    rw [hfi] at hs
    have hml := mix_len (f := f) (l := rss true L) (i := i) (by simp; omega)
    simp at hml
    have hss : ∀ d : PV, setCell ((mix f (rss true L) i).set i [.undef]) i 0 d = (mix f (rss true L) i).set i [d] := fun d => by
      rw [setCell_get (c := .undef) (by rw [List.getElem?_set_self (by omega)]), List.set_set]
    simp only [celS, if_true] at hg
    generalize hnn : mkSl (k + 2 * lensS (L.take i)) l.length = nn at *
    have hnl : nn.length = l.length := by rw [← hnn]; simp
    obtain ⟨z1, z2, z3, z4⟩ := fr (show 0 < st.nx by omega)
    simp [-getElem?_pos, v0, v1, v5, hS, h, hg, hml, hM, hsc, hss, hs, hw, hnl, z1, z2, z3, z4, subRow]
    refine Rnd_n (n - 1) (by omega) ⟨i + 1, by omega, by simp, by simp [v0], ?_, by simp, by simp⟩
    simp [htk]; omega
  · simp at h
    have e := mix_all (f := f) (l := rss true L) (i := i) (by simp; omega)
    have e2 : i = L.length := by omega
    subst e2
    rw [e] at hS
    rw [List.take_length] at v1
    have e3 : rss true ((List.range L.length).map (mkSs k L)) = (List.range L.length).map f := by rw [hf]; simp [rss, Function.comp_def]
    rw [e3]
    simp [-getElem?_pos, hS, v1]

theorem R_laws_heldSlotSS (L : List (List Sl)) (k : Int) (h0 : 0 ≤ k) (hk : k + 2 * lensS L ≤ 9223372036854775806) (hL : L.length ≤ 9223372036854775807) : RUN T k_laws_heldSlotSS [.sl 1 (rss true ((List.range L.length).map (mkSs k L))), iv k] = some ([iv (k + 2 * lensS L)], []) := by
  refine RUN_W T_laws_heldSlotSS rfl ?_
  obtain ⟨M, hM⟩ : ∃ M, M = (List.range L.length).map (mkSs k L) := ⟨_, rfl⟩
  have hMl : M.length = L.length := by rw [hM]; simp
  rw [← hM]
  simp [-getElem?_pos, k_laws_heldSlotSS_ic, k_laws_heldSlotSS_rv]
  refine W_loop (fun n st => ∃ i : Nat, i + n = L.length ∧ st.V 0 = .sl 1 (rss true M) ∧ st.V 1 = iv (k + 2 * lensS (L.take i)) ∧ st.V 5 = iv i) ?_ L.length _ ⟨0, by simp [lensS]⟩
  rintro n st ⟨i, hi, v0, v1, v5⟩
  simp [k_laws_heldSlotSS_b0, v0, v1, v5, hMl]
  refine Br_i (fun h => ?_) (fun h => ?_)
  · simp at h
    obtain ⟨l, hx⟩ : ∃ l, L[i]? = some l := ⟨_, List.getElem?_eq_getElem h⟩
    have hw := wS h hL
    have hle := lensS_le L (i + 1)
    have htk := lensS_take hx
    have hm : M[i]? = some (mkSl (k + 2 * lensS (L.take i)) l.length) := by
      have hli : L[i] = l := by rw [List.getElem?_eq_getElem h] at hx; exact Option.some.inj hx
      rw [hM]; simp [h, mkSs, hli]
    have hm' := rss_get (q := true) hm
    have hh := R_laws_heldSlotS (k + 2 * lensS (L.take i)) l.length (by omega) (by omega)
    have hn : ¬ k + 2 * (lensS (L.take i) : Int) + 2 * (l.length : Int) < 0 := by omega
    generalize mkSl (k + 2 * lensS (L.take i)) l.length = nn at *
    simp [-getElem?_pos, v0, v1, v5, hMl, h, hm', hh, hw, hn]
    refine Rnd_n (n - 1) (by omega) ⟨i + 1, by omega, by simp [v0], ?_, by simp⟩
    simp [htk]; omega
  · simp at h
    rw [List.take_of_length_le h] at v1
    simp [-getElem?_pos, v1]

theorem R_laws_markGrid (c v : List (List Int)) (k : Int) (h0 : 0 ≤ k) (hk : k + lens c + lens v ≤ 9223372036854775806) (hc : c.length ≤ 9223372036854775807) (hv : v.length ≤ 9223372036854775807) : ∃ c' v' : List (List Int), c'.length = c.length ∧ v'.length = v.length ∧ RUN T k_laws_markGrid [.agg [.own 1 (rws true c), .own 1 (rws true v)], iv k] = some ([iv (k + lens c + lens v)], [.own 1 (rws true c'), .own 1 (rws true v')]) := by
  have e1 := R_laws_markIntSS c k h0 (by omega) hc
  have e2 := R_laws_markIntSS v (k + lens c) (by omega) (by omega) hv
  generalize hc' : (List.range c.length).map (mkRows k c) = c' at *
  generalize hv' : (List.range v.length).map (mkRows (k + lens c) v) = v' at *
  have l1 : c'.length = c.length := by rw [← hc']; simp
  have l2 : v'.length = v.length := by rw [← hv']; simp
  refine ⟨c', v', l1, l2, RUN_W T_laws_markGrid rfl ?_⟩
  simp [-getElem?_pos, k_laws_markGrid_ic, k_laws_markGrid_rv, e1, e2, l1, l2]

theorem lensS_b {H : List (List Sl)} {n : Nat} (h : ∀ l ∈ H, l.length ≤ n) : lensS H ≤ n * H.length := by
  induction H with
  | nil => simp [lensS]
  | cons a H ih =>
    have h1 := h a (by simp)
    have h2 := ih (fun l hl => h l (by simp [hl]))
    simp only [lensS, List.map_cons, List.sum_cons, List.length_cons] at *
    rw [Nat.mul_add]; omega

set_option maxHeartbeats 4000000 in
set_option maxRecDepth 8000 in
theorem law_FnExactNodeHists (c v : List (List Int)) (g rows : List Int) (hcl : c.length ≤ 9223372036854775807) (hvl : v.length ≤ 9223372036854775807) (hc : ∀ l ∈ c, l.length ≤ 9223372036854775807) (hv : ∀ l ∈ v, l.length ≤ 9223372036854775807) (hg : g.length ≤ 9223372036854775807) (hr : rows.length ≤ 9223372036854775807) (hgi : ∀ x ∈ g, inI x) : RUN T k_laws_FnExactNodeHists [.agg [.sl 1 (rws false c), .sl 1 (rws false v)], .sl 1 (ints g), .sl 1 (ints rows)] = some ([bv true], []) := by
  refine RUN_W T_laws_FnExactNodeHists rfl ?_
  by_cases d1 : (1048576 : Int) < g.length
  · simp [k_laws_FnExactNodeHists_ic, k_laws_FnExactNodeHists_rv, d1]
  by_cases d2 : (1048576 : Int) < rows.length
  · simp [k_laws_FnExactNodeHists_ic, k_laws_FnExactNodeHists_rv, d1, d2]
  have s1 := R_laws_szGrid false c v 1048576 (by omega) (by omega) hcl hvl hc hv
  by_cases d3 : (1048576 : Int) - tot c - tot v < 0
  · rw [if_pos d3] at s1
    simp [k_laws_FnExactNodeHists_ic, k_laws_FnExactNodeHists_rv, d1, d2, s1]
  rw [if_neg d3] at s1
  have htc : tot c = c.length + lens c := rfl
  have htv : tot v = v.length + lens v := rfl
  have hc1 : ∀ l ∈ c, l.length ≤ 1048576 := fun l hl => by have := lens_mem hl; omega
  have hv1 : ∀ l ∈ v, l.length ≤ 1048576 := fun l hl => by have := lens_mem hl; omega
  have t1 := R_laws_toGrid false c v (by omega) (by omega) hc1 hv1
  have t2 := R_laws_toIntS g (by omega)
  have t3 := R_laws_toIntS rows (by omega)
  have a1 := R_spec_NodeHists true c v g rows hc1 hv1 (by omega) (by omega) hgi
  have a2 := R_impl_NodeHists true c v g rows hc1 hv1 (by omega) (by omega) hgi
  obtain ⟨f1, f2⟩ := nodeR_facts c v g rows
  have q1 := R_laws_eqSlotSS true true (nodeR c v g rows).1 (by omega) (fun l hl => Nat.le_trans (f2 l hl) (by omega))
  have q2 := R_laws_eqGrid true true c v hcl hvl hc hv
  have q3 := R_laws_eqIntS g hg
  have q4 := R_laws_eqIntS rows hr
  obtain ⟨c', v', hc', hv', m1⟩ := R_laws_markGrid c v 1 (by omega) (by omega) hcl hvl
  have m2 := R_laws_markIntS g (1 + lens c + lens v) (by omega) (by omega)
  have m3 := R_laws_markIntS rows (1 + lens c + lens v + g.length) (by omega) (by omega)
  have hls := lensS_b f2
  have m4 := R_laws_markSlotSS (nodeR c v g rows).1 1 (by omega) (by omega) (by omega)
  have m5 := R_laws_heldSlotSS (nodeR c v g rows).1 1 (by omega) (by omega) (by omega)
  have n1 : ¬ (1 + (lens c : Int) + lens v + g.length + rows.length < 0) := by omega
  have n2 : ¬ (1 + 2 * (lensS (nodeR c v g rows).1 : Int) < 0) := by omega
  generalize nodeR c v g rows = pr at *
  obtain ⟨pl, pb⟩ := pr
  simp only at a1 a2 q1 m4 m5 n2
  generalize hP : (List.range pl.length).map (mkSs 1 pl) = pl' at *
  have hPl : pl'.length = pl.length := by rw [← hP]; simp
  generalize hG : upto (1 + (lens c : Int) + lens v) g.length = g' at *
  have hGl : g'.length = g.length := by rw [← hG]; simp [upto]
  generalize hRr : upto (1 + (lens c : Int) + lens v + g.length) rows.length = rows' at *
  have hRl : rows'.length = rows.length := by rw [← hRr]; simp [upto]
  cases pb <;> simp [k_laws_FnExactNodeHists_ic, k_laws_FnExactNodeHists_rv, s1, t1, t2, t3, a1, a2, q1, q2, q3, q4, m1, m2, m3, m4, m5, d1, d2, d3, n1, n2, hc', hv', hPl, hGl, hRl]

end Go.Pe
