/- What each function answers by the evaluator, and the law; for each answer its own conditions stand ahead of it. -/
import Derived.Test.YtoilifakgbifmaaK0
import Derived.Test.YtoilifakgbifmaaEvB2
import Derived.IntWalk
set_option linter.all false
namespace Go.Pe
open Go
theorem w64 {x : Int} (h1 : -9223372036854775808 ≤ x) (h2 : x ≤ 9223372036854775807) : IntKind.i64.wrap x = x := IntWalk.i64_in x ⟨h1, h2⟩

@[simp] theorem w64s {x : Int} (h1 : -9223372036854775808 ≤ x) (h2 : x ≤ 9223372036854775807) : IntKind.i64.wrap x = x := w64 h1 h2

structure Nd where
  f : Int
  c : Int
  l : Int
  r : Int
  v : Int
deriving DecidableEq

def nd (n : Nd) : List PV := [iv n.f, iv n.c, iv n.l, iv n.r, iv n.v]

@[simp] theorem R_impl_isLeaf (a b c d e : Int) : RUN T k_impl_isLeaf [.agg [iv a, iv b, iv c, iv d, iv e]] = some ([bv (decide (a = -1))], []) := by
  refine RUN_W T_impl_isLeaf rfl ?_
  simp [k_impl_isLeaf_ic, k_impl_isLeaf_rv]

@[simp] theorem R_impl_within (a b c : Int) : RUN T k_impl_within [iv a, iv b, iv c] = some ([bv (decide (b ≤ a) && decide (a ≤ c))], []) := by
  refine RUN_W T_impl_within rfl ?_
  simp [k_impl_within_ic, k_impl_within_rv]
  refine Br_i (fun h => ?_) (fun h => ?_) <;> simp [h]

@[simp] theorem R_spec_l17Inner (a b c d e : Int) : RUN T k_spec_l17Inner [.agg [iv a, iv b, iv c, iv d, iv e]] = some ([bv (!decide (a = -1))], []) := by
  refine RUN_W T_spec_l17Inner rfl ?_
  simp [k_spec_l17Inner_ic, k_spec_l17Inner_rv]

@[simp] theorem R_spec_l1In (a b c : Int) : RUN T k_spec_l1In [iv a, iv b, iv c] = some ([bv (decide (b ≤ a) && decide (a ≤ c))], []) := by
  refine RUN_W T_spec_l1In rfl ?_
  simp [k_spec_l1In_ic, k_spec_l1In_rv]
  refine Br_i (fun h => ?_) (fun h => ?_) <;> simp [h]

@[simp] theorem R_laws_toNode (a b c d e : Int) : RUN T k_laws_toNode [.agg [iv a, iv b, iv c, iv d, iv e]] = some ([.agg [iv a, iv b, iv c, iv d, iv e]], []) := by
  refine RUN_W T_laws_toNode rfl ?_
  simp [k_laws_toNode_ic, k_laws_toNode_rv]

@[simp] theorem R_laws_eqNode (a b c d e : Int) : RUN T k_laws_eqNode [.agg [iv a, iv b, iv c, iv d, iv e], .agg [iv a, iv b, iv c, iv d, iv e]] = some ([bv true], []) := by
  refine RUN_W T_laws_eqNode rfl ?_
  simp [k_laws_eqNode_ic, k_laws_eqNode_rv]

theorem R_laws_szNodeS (es : List (List PV)) (left : Int) (h0 : 0 ≤ left) (h1 : left ≤ 1048576) (hl : es.length ≤ 9223372036854775807) : RUN T k_laws_szNodeS [.sl 5 es, iv left] = some ([iv (if left - es.length < 0 then -1 else left - es.length)], []) := by
  refine RUN_W T_laws_szNodeS rfl ?_
  have e := w64 (x := left - es.length) (by omega) (by omega)
  simp [k_laws_szNodeS_ic, k_laws_szNodeS_rv, e]
  refine Br_i (fun h => ?_) (fun h => ?_) <;> simp at h <;> simp [h]
  omega

/-- The first place where something holds, -1 if there is none. -/
def fidx {α : Type} (p : α → Bool) (l : List α) : Int := match l.findIdx? p with
  | some i => (i : Int)
  | none => -1

theorem fidx_none {α : Type} {p : α → Bool} {l : List α} (h : ∀ (j : Nat) (x : α), j < l.length → l[j]? = some x → p x = false) : fidx p l = -1 := by
  unfold fidx
  have : l.findIdx? p = none := by
    rw [List.findIdx?_eq_none_iff]
    intro x hx
    obtain ⟨j, hj⟩ := List.getElem?_of_mem hx
    exact h j x (List.getElem?_eq_some_iff.mp hj).1 hj
  rw [this]

theorem fidx_some {α : Type} {p : α → Bool} {l : List α} {i : Nat} {x : α} (hi : l[i]? = some x) (hp : p x = true) (h : ∀ (j : Nat) (x : α), j < i → l[j]? = some x → p x = false) : fidx p l = i := by
  unfold fidx
  have : l.findIdx? p = some i := by
    rw [List.findIdx?_eq_some_iff_getElem]
    obtain ⟨h1, h2⟩ := List.getElem?_eq_some_iff.mp hi
    refine ⟨h1, by rw [h2]; exact hp, fun j hj => ?_⟩
    have := h j l[j] hj (List.getElem?_eq_getElem (by omega))
    simp [this]
  rw [this]

theorem no_snoc {α : Type} {p : α → Bool} {l : List α} {i : Nat} {x : α} (h : ∀ (j : Nat) (x : α), j < i → l[j]? = some x → p x = false) (hi : l[i]? = some x) (hp : p x = false) : ∀ (j : Nat) (x : α), j < i + 1 → l[j]? = some x → p x = false := by
  intro j y hj hy
  by_cases e : j = i
  · subst e; rw [hi] at hy; cases hy; exact hp
  · exact h j y (by omega) hy

/-- A node that has a node below it. -/
def above (k : Int) (n : Nd) : Bool := !decide (n.f = -1) && (decide (n.l = k) || decide (n.r = k))

def par (t : List Nd) (k : Int) : Int := fidx (above k) t

theorem wS {i n : Nat} (h : i < n) (hn : n ≤ 9223372036854775807) : IntKind.i64.wrap ((i : Int) + 1) = (i : Int) + 1 := w64 (by omega) (by omega)

theorem R_laws_szTree (es : List (List PV)) (left : Int) (h0 : 0 ≤ left) (h1 : left ≤ 1048576) (hl : es.length ≤ 9223372036854775807) : RUN T k_laws_szTree [.agg [.sl 5 es], iv left] = some ([iv (if left - es.length < 0 then -1 else left - es.length)], []) := by
  refine RUN_W T_laws_szTree rfl ?_
  have e := R_laws_szNodeS es left h0 h1 hl
  by_cases h : left - es.length < 0
  · simp only [h, if_true] at e ⊢
    simp [k_laws_szTree_ic, k_laws_szTree_rv, e]
    intro _; omega
  · simp only [h, if_false] at e ⊢
    simp [k_laws_szTree_ic, k_laws_szTree_rv, e]
    refine Br_i (fun b0 => ?_) (fun b0 => ?_) <;> (try simp at b0) <;> simp [-getElem?_pos, b0, ]
    omega

/-- A row that is filled from its beginning on. -/
def fil {α β : Type} (f : α → β) (z : β) (l : List α) (i : Nat) : List β := (l.take i).map f ++ List.replicate (l.length - i) z

theorem fil_set {α β : Type} {f : α → β} {l : List α} {z : β} {i : Nat} {x : α} (hx : l[i]? = some x) : (fil f z l i).set i (f x) = fil f z l (i + 1) := by
  unfold fil
  obtain ⟨h1, h2⟩ := List.getElem?_eq_some_iff.mp hx
  apply List.ext_getElem?
  intro j
  rw [List.getElem?_set]
  simp only [List.length_append, List.length_map, List.length_take, List.length_replicate]
  by_cases e : i = j
  · subst e
    rw [if_pos rfl, if_pos (by omega), List.getElem?_append_left (by simp; omega)]
    simp [List.getElem?_take, hx]
  · rw [if_neg e]
    by_cases hj : j < i
    · rw [List.getElem?_append_left (by simp; omega), List.getElem?_append_left (by simp; omega)]
      simp [List.getElem?_take, hj, show j < i + 1 by omega]
    · rw [List.getElem?_append_right (by simp; omega), List.getElem?_append_right (by simp; omega)]
      simp [List.getElem?_replicate]
      congr 1
      simp; omega

theorem fil_get {α β : Type} {f : α → β} {l : List α} {z : β} {i : Nat} (h : i < l.length) : (fil f z l i)[i]? = some z := by
  unfold fil
  rw [List.getElem?_append_right (by simp; omega)]
  simp [List.getElem?_replicate]; omega

theorem fil_len {α β : Type} {f : α → β} {l : List α} {z : β} {i : Nat} (h : i ≤ l.length) : (fil f z l i).length = l.length := by unfold fil; simp; omega

theorem fil_0 {α β : Type} {f : α → β} {l : List α} {z : β} : fil f z l 0 = List.replicate l.length z := by simp [fil]

theorem fil_all {α β : Type} {f : α → β} {l : List α} {z : β} {i : Nat} (h : i = l.length) : fil f z l i = l.map f := by subst h; simp [fil]

theorem R_laws_toNodeS (t : List Nd) (hl : t.length ≤ 1048576) : RUN T k_laws_toNodeS [.sl 5 (t.map nd)] = some ([.own 5 (t.map nd)], []) := by
  refine RUN_W T_laws_toNodeS rfl ?_
  have hr : roomFor 40 t.length = true := by simp [roomFor]; omega
  simp [k_laws_toNodeS_ic, k_laws_toNodeS_rv, hr]
  refine W_loop (fun n st => ∃ i : Nat, i + n = t.length ∧ st.V 0 = .sl 5 (t.map nd) ∧ st.V 3 = .ref 0 none 0 0 t.length ∧ st.V 4 = iv i ∧ st.ep = 0 ∧ st.S 0 = some (.row 5 (fil nd [iv 0, iv 0, iv 0, iv 0, iv 0] t i))) ?_ t.length _ ⟨0, by simp [fil_0]⟩
  rintro n st ⟨i, hi, h0, h3, h4, hep, hS⟩
  simp [k_laws_toNodeS_b0, h0, h3, h4, hS]
  refine Br_i (fun h => ?_) (fun h => ?_)
  · simp at h
    obtain ⟨x, hx2⟩ : ∃ x, t[i] = x := ⟨_, rfl⟩
    have hx : t[i]? = some x := by rw [← hx2]; exact List.getElem?_eq_getElem h
    have hw := wS h (by omega : t.length ≤ 9223372036854775807)
    have hg := fil_get (f := nd) (z := [iv 0, iv 0, iv 0, iv 0, iv 0]) h
    have hs := fil_set (f := nd) (z := [iv 0, iv 0, iv 0, iv 0, iv 0]) hx
    simp only [nd] at hs
    simp [-getElem?_pos, h0, h3, h4, hS, hep, h, hx, nd, hw, hg, hs, fil_len (Nat.le_of_lt h)]
    exact Rnd_n (n - 1) (by omega) ⟨i + 1, by omega, by simp [h0], by simp [h3], by simp, by simp, by simp⟩
  · simp at h
    have e := fil_all (f := nd) (z := [iv 0, iv 0, iv 0, iv 0, iv 0]) (by omega : i = t.length)
    simp [h3, hS, e]

theorem R_laws_toTree (t : List Nd) (hl : t.length ≤ 1048576) : RUN T k_laws_toTree [.agg [.sl 5 (t.map nd)]] = some ([.agg [.own 5 (t.map nd)]], []) := by
  refine RUN_W T_laws_toTree rfl ?_
  simp [k_laws_toTree_ic, k_laws_toTree_rv, R_laws_toNodeS t hl]

theorem R_laws_eqNodeS (t : List Nd) (hl : t.length ≤ 9223372036854775807) : RUN T k_laws_eqNodeS [.sl 5 (t.map nd), .sl 5 (t.map nd)] = some ([bv true], []) := by
  refine RUN_W T_laws_eqNodeS rfl ?_
  simp [k_laws_eqNodeS_ic, k_laws_eqNodeS_rv]
  refine W_loop (fun n st => ∃ i : Nat, i + n = t.length ∧ st.V 0 = .sl 5 (t.map nd) ∧ st.V 1 = .sl 5 (t.map nd) ∧ st.V 5 = iv i) ?_ t.length _ ⟨0, by simp⟩
  rintro n st ⟨i, hi, h0, h1, h5⟩
  simp [k_laws_eqNodeS_b0, h0, h1, h5]
  refine Br_i (fun h => ?_) (fun h => ?_)
  · simp at h
    obtain ⟨x, hx⟩ : ∃ x, t[i]? = some x := ⟨_, List.getElem?_eq_getElem h⟩
    have hw := wS h hl
    simp [-getElem?_pos, h0, h1, h5, h, hx, nd, hw]
    exact Rnd_n (n - 1) (by omega) ⟨i + 1, by omega, by simp [h0], by simp [h1], by simp⟩
  · simp

theorem R_laws_eqTree (t : List Nd) (hl : t.length ≤ 9223372036854775807) : RUN T k_laws_eqTree [.agg [.sl 5 (t.map nd)], .agg [.sl 5 (t.map nd)]] = some ([bv true], []) := by
  refine RUN_W T_laws_eqTree rfl ?_
  simp [k_laws_eqTree_ic, k_laws_eqTree_rv, R_laws_eqNodeS t hl]

def ints (l : List Int) : List (List PV) := l.map fun n => [iv n]

@[simp] theorem ints_len (l : List Int) : (ints l).length = l.length := by simp [ints]

theorem ints_get {l : List Int} {i : Nat} {x : Int} (h : l[i]? = some x) : (ints l)[i]? = some [iv x] := by simp [ints, h]

@[simp] theorem ints_nil : ints [] = [] := rfl

theorem ints_cons (x : Int) (l : List Int) : ints (x :: l) = [iv x] :: ints l := rfl

theorem ints_snoc (l : List Int) (x : Int) : ints l ++ [[iv x]] = ints (l ++ [x]) := by simp [ints]

/-- The nodes above a node, from it on, if they are fewer than a number. -/
def anc (t : List Nd) : Nat → Int → Option (List Int)
  | 0, _ => none
  | n + 1, k => if par t k < 0 then some [] else (anc t n (par t k)).map (par t k :: ·)

def way (t : List Nd) (k : Int) : List Int := if 0 ≤ k ∧ k ≤ t.length - 1 then match anc t 32 k with
    | some l => (k :: l).reverse
    | none => []
  else []

theorem room8 {n : Nat} (h : n ≤ 17592186044416) : roomFor 8 n = true := by simp [roomFor]; omega

/-- A row whose first elements have been written anew. -/
def mix {β : Type} (f : Nat → β) (l : List β) (i : Nat) : List β := (List.range i).map f ++ l.drop i

theorem mix_0 {β : Type} {f : Nat → β} {l : List β} : mix f l 0 = l := by simp [mix]

theorem mix_all {β : Type} {f : Nat → β} {l : List β} {i : Nat} (h : i = l.length) : mix f l i = (List.range i).map f := by subst h; simp [mix]

theorem mix_len {β : Type} {f : Nat → β} {l : List β} {i : Nat} (h : i ≤ l.length) : (mix f l i).length = l.length := by simp [mix]; omega

theorem mix_get {β : Type} {f : Nat → β} {l : List β} {i : Nat} : (mix f l i)[i]? = l[i]? := by
  unfold mix
  rw [List.getElem?_append_right (by simp)]
  simp

theorem mix_set {β : Type} {f : Nat → β} {l : List β} {i : Nat} (h : i < l.length) : (mix f l i).set i (f i) = mix f l (i + 1) := by
  unfold mix
  apply List.ext_getElem?
  intro j
  rw [List.getElem?_set]
  simp only [List.length_append, List.length_map, List.length_range, List.length_drop]
  by_cases e : i = j
  · subst e
    rw [if_pos rfl, if_pos (by omega), List.getElem?_append_left (by simp)]
    simp
  · rw [if_neg e]
    by_cases hj : j < i
    · rw [List.getElem?_append_left (by simp; omega), List.getElem?_append_left (by simp; omega)]
      simp [hj, show j < i + 1 by omega]
    · rw [List.getElem?_append_right (by simp; omega), List.getElem?_append_right (by simp; omega)]
      simp
      congr 1
      omega

theorem R_laws_szIntS (es : List (List PV)) (left : Int) (h0 : 0 ≤ left) (h1 : left ≤ 1048576) (hl : es.length ≤ 9223372036854775807) : RUN T k_laws_szIntS [.sl 1 es, iv left] = some ([iv (if left - es.length < 0 then -1 else left - es.length)], []) := by
  refine RUN_W T_laws_szIntS rfl ?_
  have e := w64 (x := left - es.length) (by omega) (by omega)
  simp [k_laws_szIntS_ic, k_laws_szIntS_rv, e]
  refine Br_i (fun h => ?_) (fun h => ?_) <;> simp at h <;> simp [h]
  omega

theorem R_laws_toIntS (l : List Int) (hl : l.length ≤ 1048576) : RUN T k_laws_toIntS [.sl 1 (ints l)] = some ([.own 1 (ints l)], []) := by
  refine RUN_W T_laws_toIntS rfl ?_
  have hr : roomFor 8 l.length = true := room8 (by omega)
  simp [k_laws_toIntS_ic, k_laws_toIntS_rv, hr]
  refine W_loop (fun n st => ∃ i : Nat, i + n = l.length ∧ st.V 0 = .sl 1 (ints l) ∧ st.V 3 = .ref 0 none 0 0 l.length ∧ st.V 4 = iv i ∧ st.ep = 0 ∧ st.S 0 = some (.row 1 (fil (fun n => [iv n]) [iv 0] l i))) ?_ l.length _ ⟨0, by simp [fil_0]⟩
  rintro n st ⟨i, hi, h0, h3, h4, hep, hS⟩
  simp [k_laws_toIntS_b0, h0, h3, h4, hS]
  refine Br_i (fun h => ?_) (fun h => ?_)
  · simp at h
    obtain ⟨x, hx⟩ : ∃ x, l[i]? = some x := ⟨_, List.getElem?_eq_getElem h⟩
    have hw := wS h (by omega : l.length ≤ 9223372036854775807)
    have hg := fil_get (f := fun n => [iv n]) (z := [iv 0]) h
    have hs := fil_set (f := fun n => [iv n]) (z := [iv 0]) hx
    have hx' := ints_get hx
    simp [-getElem?_pos, h0, h3, h4, hS, hep, h, hx', hw, hg, hs, fil_len (Nat.le_of_lt h)]
    exact Rnd_n (n - 1) (by omega) ⟨i + 1, by omega, by simp [h0], by simp [h3], by simp, by simp, by simp⟩
  · simp at h
    have e := fil_all (f := fun n => [iv n]) (z := [iv 0]) (by omega : i = l.length)
    simp [h3, hS, e, ints]

theorem R_laws_eqIntS (l : List Int) (hl : l.length ≤ 9223372036854775807) : RUN T k_laws_eqIntS [.sl 1 (ints l), .sl 1 (ints l)] = some ([bv true], []) := by
  refine RUN_W T_laws_eqIntS rfl ?_
  simp [k_laws_eqIntS_ic, k_laws_eqIntS_rv]
  refine W_loop (fun n st => ∃ i : Nat, i + n = l.length ∧ st.V 0 = .sl 1 (ints l) ∧ st.V 1 = .sl 1 (ints l) ∧ st.V 5 = iv i) ?_ l.length _ ⟨0, by simp⟩
  rintro n st ⟨i, hi, h0, h1, h5⟩
  simp [k_laws_eqIntS_b0, h0, h1, h5]
  refine Br_i (fun h => ?_) (fun h => ?_)
  · simp at h
    obtain ⟨x, hx⟩ : ∃ x, l[i]? = some x := ⟨_, List.getElem?_eq_getElem h⟩
    have hw := wS h hl
    have hx' := ints_get hx
    simp [-getElem?_pos, h0, h1, h5, h, hx', hw]
    exact Rnd_n (n - 1) (by omega) ⟨i + 1, by omega, by simp [h0], by simp [h1], by simp⟩
  · simp

/-- The numbers from one on, so many. -/
def upto (k : Int) (n : Nat) : List Int := (List.range n).map fun (i : Nat) => k + (i : Int)

@[simp] theorem upto_len (k : Int) (n : Nat) : (upto k n).length = n := by simp [upto]

theorem R_laws_markIntS (l : List Int) (k : Int) (h0 : 0 ≤ k) (hk : k + l.length ≤ 9223372036854775806) : RUN T k_laws_markIntS [.own 1 (ints l), iv k] = some ([iv (k + l.length)], [.own 1 (ints (upto k l.length))]) := by
  refine RUN_W T_laws_markIntS rfl ?_
  simp [k_laws_markIntS_ic, k_laws_markIntS_rv]
  refine W_loop (fun n st => ∃ i : Nat, i + n = l.length ∧ st.V 0 = .ref 0 none 0 0 l.length ∧ st.V 1 = iv (k + i) ∧ st.V 5 = iv i ∧ st.ep = 0 ∧ st.S 0 = some (.row 1 (mix (fun j => [iv (k + (j : Int))]) (ints l) i))) ?_ l.length _ ⟨0, by simp [mix_0]⟩
  rintro n st ⟨i, hi, h0, h1, h5, hep, hS⟩
  simp [k_laws_markIntS_b0, h0, h1, h5, hS]
  refine Br_i (fun h => ?_) (fun h => ?_)
  · simp at h
    obtain ⟨x, hx⟩ : ∃ x, l[i]? = some x := ⟨_, List.getElem?_eq_getElem h⟩
    have hw := wS h (by omega : l.length ≤ 9223372036854775807)
    have hw2 : IntKind.i64.wrap (k + (i : Int) + 1) = k + (i : Int) + 1 := w64 (by omega) (by omega)
    have hx' := ints_get hx
    have hg := (mix_get (f := fun (j : Nat) => [iv (k + (j : Int))]) (l := ints l) (i := i)).trans hx'
    have hs := mix_set (f := fun (j : Nat) => [iv (k + (j : Int))]) (l := ints l) (i := i) (by simpa using h)
    have hl := mix_len (f := fun (j : Nat) => [iv (k + (j : Int))]) (l := ints l) (i := i) (by simp; omega)
    simp at hl
    simp [-getElem?_pos, h0, h1, h5, hS, hep, h, hg, hs, hl, hw, hw2]
    exact Rnd_n (n - 1) (by omega) ⟨i + 1, by omega, by simp [h0], by simp; omega, by simp, by simp, by simp⟩
  · simp at h
    have e := mix_all (f := fun (j : Nat) => [iv (k + (j : Int))]) (l := ints l) (i := i) (by simp; omega)
    have e2 : i = l.length := by omega
    subst e2
    simp [hS, e, h1]
    simp [ints, upto, Function.comp_def]

def mkNd (k : Int) (n : Nat) : List Nd := (List.range n).map fun (i : Nat) => ⟨k + 5 * (i : Int), k + 5 * (i : Int) + 1, k + 5 * (i : Int) + 2, k + 5 * (i : Int) + 3, k + 5 * (i : Int) + 4⟩

theorem R_laws_markNodeS (t : List Nd) (k : Int) (h0 : 0 ≤ k) (hk : k + 5 * t.length ≤ 9223372036854775806) : RUN T k_laws_markNodeS [.own 5 (t.map nd), iv k] = some ([iv (k + 5 * t.length)], [.own 5 ((mkNd k t.length).map nd)]) := by
  refine RUN_W T_laws_markNodeS rfl ?_
  simp [k_laws_markNodeS_ic, k_laws_markNodeS_rv]
  obtain ⟨f, hf⟩ : ∃ f : Nat → List PV, f = fun (j : Nat) => [iv (k + 5 * (j : Int)), iv (k + 5 * (j : Int) + 1), iv (k + 5 * (j : Int) + 2), iv (k + 5 * (j : Int) + 3), iv (k + 5 * (j : Int) + 4)] := ⟨_, rfl⟩
  refine W_loop (fun n st => ∃ i : Nat, i + n = t.length ∧ st.V 0 = .ref 0 none 0 0 t.length ∧ st.V 1 = iv (k + 5 * i) ∧ st.V 5 = iv i ∧ st.ep = 0 ∧ st.S 0 = some (.row 5 (mix f (t.map nd) i))) ?_ t.length _ ⟨0, by simp [mix_0]⟩
  rintro n st ⟨i, hi, h0, h1, h5, hep, hS⟩
  simp [k_laws_markNodeS_b0, h0, h1, h5, hS]
  refine Br_i (fun h => ?_) (fun h => ?_)
  · simp at h
    obtain ⟨x, hx⟩ : ∃ x, t[i]? = some x := ⟨_, List.getElem?_eq_getElem h⟩
    have hw := wS h (by omega : t.length ≤ 9223372036854775807)
    have w1 : IntKind.i64.wrap (k + 5 * (i : Int) + 1) = k + 5 * (i : Int) + 1 := w64 (by omega) (by omega)
    have w2 : IntKind.i64.wrap (k + 5 * (i : Int) + 1 + 1) = k + 5 * (i : Int) + 2 := by rw [w64 (by omega) (by omega)]; omega
    have w3 : IntKind.i64.wrap (k + 5 * (i : Int) + 2 + 1) = k + 5 * (i : Int) + 3 := by rw [w64 (by omega) (by omega)]; omega
    have w4 : IntKind.i64.wrap (k + 5 * (i : Int) + 3 + 1) = k + 5 * (i : Int) + 4 := by rw [w64 (by omega) (by omega)]; omega
    have w5 : IntKind.i64.wrap (k + 5 * (i : Int) + 4 + 1) = k + 5 * ((i : Int) + 1) := by rw [w64 (by omega) (by omega)]; omega
    have hx' : (t.map nd)[i]? = some (nd x) := by simp [hx]
    have hg := (mix_get (f := f) (l := t.map nd) (i := i)).trans hx'
    have hs := mix_set (f := f) (l := t.map nd) (i := i) (by simpa using h)
    have hfi : f i = [iv (k + 5 * (i : Int)), iv (k + 5 * (i : Int) + 1), iv (k + 5 * (i : Int) + 2), iv (k + 5 * (i : Int) + 3), iv (k + 5 * (i : Int) + 4)] := by rw [hf]
    rw [hfi] at hs
    have hl := mix_len (f := f) (l := t.map nd) (i := i) (by simp; omega)
    simp at hl
    simp [-getElem?_pos, h0, h1, h5, hS, hep, h, hg, hs, hl, hw, w1, w2, w3, w4, w5, nd]
    exact Rnd_n (n - 1) (by omega) ⟨i + 1, by omega, by simp [h0], by simp, by simp, by simp, by simp⟩
  · simp at h
    have e := mix_all (f := f) (l := t.map nd) (i := i) (by simp; omega)
    have e2 : i = t.length := by omega
    subst e2
    simp [hS, e, h1]
    simp [mkNd, hf, Function.comp_def, nd]

theorem R_laws_markTree (t : List Nd) (k : Int) (h0 : 0 ≤ k) (hk : k + 5 * t.length ≤ 9223372036854775806) : RUN T k_laws_markTree [.agg [.own 5 (t.map nd)], iv k] = some ([iv (k + 5 * t.length)], [.own 5 ((mkNd k t.length).map nd)]) := by
  refine RUN_W T_laws_markTree rfl ?_
  have e := R_laws_markNodeS t k h0 hk
  simp [k_laws_markTree_ic, k_laws_markTree_rv, e, mkNd]

/-- The places of leaves, counted from a number on. -/
def lvs : List Nd → Int → List Int
  | [], _ => []
  | x :: xs, i => if x.f = -1 then i :: lvs xs (i + 1) else lvs xs (i + 1)

theorem lvs_len : ∀ (t : List Nd) (i : Int), (lvs t i).length ≤ t.length
  | [], _ => by simp [lvs]
  | x :: xs, i => by
    have := lvs_len xs (i + 1)
    simp only [lvs]
    split <;> simp <;> omega

theorem drop_cons {α : Type} {l : List α} {i : Nat} {x : α} (h : l[i]? = some x) : l.drop i = x :: l.drop (i + 1) := by
  obtain ⟨h1, h2⟩ := List.getElem?_eq_some_iff.mp h
  rw [List.drop_eq_getElem_cons h1, h2]

theorem R_impl_LeavesOf (t : List Nd) (hl : t.length ≤ 1048576) : RUN T k_impl_LeavesOf [.agg [.sl 5 (t.map nd)]] = some ([.own 1 (ints (lvs t 0))], []) := by
  refine RUN_W T_impl_LeavesOf rfl ?_
  simp [k_impl_LeavesOf_ic, k_impl_LeavesOf_rv]
  refine W_loop (fun n st => ∃ i : Nat, i + n = t.length ∧ ∃ (m : List Int) (o e : Nat), m ++ lvs (t.drop i) i = lvs t 0 ∧ st.V 8 = .sl 5 (t.map nd) ∧ st.V 9 = iv t.length ∧ st.V 3 = .ref o none e 0 m.length ∧ st.V 10 = iv i ∧ o < st.nx ∧ st.S o = some (.row 1 (ints m))) ?_ t.length _ ⟨0, by simp, [], 1, 0, by simp⟩
  rintro n st ⟨i, hi, m, o, e, hm, h8, h9, h3, h10, hox, hSo⟩
  simp [k_impl_LeavesOf_b0, h8, h9, h10]
  refine Br_i (fun h => ?_) (fun h => ?_)
  · simp at h
    obtain ⟨x, hx⟩ : ∃ x, t[i]? = some x := ⟨_, List.getElem?_eq_getElem h⟩
    have hw := wS h (by omega : t.length ≤ 9223372036854775807)
    have hr : roomFor 8 (m.length + 1) = true := room8 (by
      have h5 := congrArg List.length hm
      have h6 := lvs_len t 0
      simp at h5; omega)
    have n1 : ¬ o = st.nx := by omega
    have n2 : ¬ o = st.nx + 1 := by omega
    simp [-getElem?_pos, h8, h9, h3, h10, hSo, n1, n2, hx, nd, hw, hr, ints_snoc]
    refine Br_i (fun b0 => ?_) (fun b0 => ?_) <;> (try simp at b0) <;> simp [-getElem?_pos, b0, h8, h9, h3, h10, hSo, n1, n2, hx, hw, hr, ints_snoc]
    · refine Rnd_n (n - 1) (by omega) ⟨i + 1, by omega, m ++ [(i : Int)], st.nx + 2, st.ep, ?_, by simp [h8], by simp [h9], by simp, by simp, by simp, by simp⟩
      rw [← hm, drop_cons hx, lvs, if_pos b0]; simp
    · refine Rnd_n (n - 1) (by omega) ⟨i + 1, by omega, m, o, e, ?_, by simp [h8], by simp [h9], by simp [h3], by simp, by simp; omega, by simp [hSo, n1]⟩
      rw [← hm, drop_cons hx, lvs, if_neg b0]; simp
  · simp at h
    have e : m = lvs t 0 := by rw [← hm, List.drop_eq_nil_of_le h]; simp [lvs]
    simp [h3, hSo, e]

def inI (n : Int) : Prop := -9223372036854775808 ≤ n ∧ n ≤ 9223372036854775807

/-- The range of a feature's values along a way. -/
def box (t : List Nd) (f : Int) : List Int → Int → Int → Int × Int
  | a :: b :: r, lo, hi => match t[a.toNat]? with
    | none => (lo, hi)
    | some x => if x.f = f then (if x.l = b then box t f (b :: r) lo (min hi x.c) else if x.c = 9223372036854775807 then box t f (b :: r) lo hi else box t f (b :: r) (max lo (x.c + 1)) hi) else box t f (b :: r) lo hi
  | _, lo, hi => (lo, hi)

def wfN (n : Nd) : Prop := inI n.f ∧ inI n.c ∧ inI n.l ∧ inI n.r ∧ inI n.v

theorem R_slices_IndexFunc_int {f : Nat} {p : Int → Bool} (l : List Int) (hl : l.length ≤ 9223372036854775807) (hm : modesOf T f = []) (hp : ∀ n ∈ l, RUN T f [iv n] = some ([bv (p n)], [])) :
    RUN T k_slices_IndexFunc___int_int_ [.sl 1 (ints l), .fn f []] = some ([iv (fidx p l)], []) := by
  refine RUN_W T_slices_IndexFunc___int_int_ rfl ?_
  simp [k_slices_IndexFunc___int_int__ic, k_slices_IndexFunc___int_int__rv]
  refine W_loop (fun n st => ∃ i : Nat, i + n = l.length ∧ st.V 0 = .sl 1 (ints l) ∧ st.V 1 = .fn f [] ∧ st.V 8 = iv i ∧ st.V 7 = iv l.length ∧ ∀ (j : Nat) (x : Int), j < i → l[j]? = some x → p x = false) ?_ l.length _ ⟨0, by simp⟩
  rintro n st ⟨i, hi, h0, h1, h8, h7, hj⟩
  simp [k_slices_IndexFunc___int_int__b0, h0, h1, h8, h7]
  refine Br_i (fun h => ?_) (fun h => ?_)
  · simp at h
    obtain ⟨x, hx⟩ : ∃ x, l[i]? = some x := ⟨_, List.getElem?_eq_getElem h⟩
    have hw := wS h hl
    have hx' := ints_get hx
    have hpx := hp x (List.mem_of_getElem? hx)
    simp [-getElem?_pos, h0, h1, h8, h7, hx', hw, hm, hpx, h]
    refine Br_i (fun b0 => ?_) (fun b0 => ?_) <;> (try simp at b0) <;> simp [-getElem?_pos, b0, h0, h1, h8, h7, hx', hw]
    all_goals first
      | exact (fidx_some hx b0 hj).symm
      | exact Rnd_n (n - 1) (by omega) ⟨i + 1, by omega, by simp [h0], by simp [h1], by simp, by simp [h7], no_snoc hj hx b0⟩
  · simp at h
    simp [h]
    exact (fidx_none fun j x hl hx => hj j x (by omega) hx).symm

theorem fidx_neg {α : Type} {p : α → Bool} {l : List α} : decide (0 ≤ fidx p l) = l.any p := by
  unfold fidx
  cases h : l.findIdx? p with
  | none =>
    rw [List.findIdx?_eq_none_iff] at h
    simp
    exact fun x hx => h x hx
  | some i =>
    obtain ⟨h1, h2, _⟩ := List.findIdx?_eq_some_iff_getElem.mp h
    simp
    exact ⟨_, List.getElem_mem h1, h2⟩

theorem R_slices_ContainsFunc_int {f : Nat} {p : Int → Bool} (l : List Int) (hl : l.length ≤ 9223372036854775807) (hm : modesOf T f = []) (hp : ∀ n ∈ l, RUN T f [iv n] = some ([bv (p n)], [])) :
    RUN T k_slices_ContainsFunc___int_int_ [.sl 1 (ints l), .fn f []] = some ([bv (l.any p)], []) := by
  refine RUN_W T_slices_ContainsFunc___int_int_ rfl ?_
  have e := R_slices_IndexFunc_int l hl hm hp
  simp [k_slices_ContainsFunc___int_int__ic, k_slices_ContainsFunc___int_int__rv, e, fidx_neg]

structure Cfg where
  ro : Int
  de : Int
  bi : Int
  la : Int
  rw : Int
  nu : Int
  dn : Int
  sg : List Int

def within (n a b : Int) : Bool := decide (a ≤ n) && decide (n ≤ b)

def cfgOk (c : Cfg) : Bool := within c.ro 1 8 && within c.de 0 4 && within c.bi 2 8 && within c.la 1 100 && within c.rw 1 20 && within c.dn 1 1000 && within c.nu 1 c.dn && decide ((c.sg.length : Int) ≤ 4) && c.sg.all fun n => within n (-1) 1

@[simp] theorem R_impl_isSign (n : Int) : RUN T k_impl_isSign [iv n] = some ([bv (within n (-1) 1)], []) := by
  refine RUN_W T_impl_isSign rfl ?_
  simp [k_impl_isSign_ic, k_impl_isSign_rv, within]

@[simp] theorem R_impl_ConfigOk_1 (n : Int) : RUN T k_impl_ConfigOk_1 [iv n] = some ([bv (!within n (-1) 1)], []) := by
  refine RUN_W T_impl_ConfigOk_1 rfl ?_
  simp [k_impl_ConfigOk_1_ic, k_impl_ConfigOk_1_rv]

theorem R_impl_within' (a b c : Int) : RUN T k_impl_within [iv a, iv b, iv c] = some ([bv (within a b c)], []) := R_impl_within a b c

theorem R_spec_l1In' (a b c : Int) : RUN T k_spec_l1In [iv a, iv b, iv c] = some ([bv (within a b c)], []) := R_spec_l1In a b c

theorem R_impl_ConfigOk (c : Cfg) (hl : c.sg.length ≤ 9223372036854775807) : RUN T k_impl_ConfigOk [.agg [iv c.ro, iv c.de, iv c.bi, iv c.la, iv c.rw, iv c.nu, iv c.dn, .sl 1 (ints c.sg)]] = some ([bv (cfgOk c)], []) := by
  refine RUN_W T_impl_ConfigOk rfl ?_
  have e := R_slices_ContainsFunc_int (f := k_impl_ConfigOk_1) (p := fun n => !within n (-1) 1) c.sg hl (by simp) (fun n _ => R_impl_ConfigOk_1 n)
  have e2 : ∀ l : List Int, (l.any fun n => !within n (-1) 1) = !(l.all fun n => within n (-1) 1) := by intro l; induction l <;> simp_all
  rw [e2] at e
  simp [k_impl_ConfigOk_ic, k_impl_ConfigOk_rv, R_impl_within', -R_impl_within]
  cases h0 : within c.ro 1 8 <;> cases h1 : within c.de 0 4 <;> simp [h0, h1, R_impl_within', -R_impl_within]
  all_goals try (simp [cfgOk, h0, h1]; done)
  cases h2 : within c.bi 2 8 <;> cases h3 : within c.la 1 100 <;> simp [h2, h3, R_impl_within', -R_impl_within]
  all_goals try (simp [cfgOk, h2, h3]; done)
  cases h4 : within c.rw 1 20 <;> cases h5 : within c.dn 1 1000 <;> simp [h4, h5, R_impl_within', -R_impl_within]
  all_goals try (simp [cfgOk, h4, h5]; done)
  cases h6 : within c.nu 1 c.dn <;> simp [h6, R_impl_within', -R_impl_within]
  all_goals try (simp [cfgOk, h6]; done)
  by_cases h7 : (c.sg.length : Int) ≤ 4
  · simp [h7, e, cfgOk, h0, h1, h2, h3, h4, h5, h6]
  · simp [h7, cfgOk]

theorem W_five {m : Nat → List Bool} {R : Oracle} {c : IC} {st : St} {Q : Ex → St → Prop} (h : W m R c st (Nx (fun s => W m R (.loop c) s Q) Q ⟨⟩ ⟨⟩)) : W m R (.loop c) st Q := W_loop1 ▸ h

theorem R_spec_l8Numbers (a b c d e f g : Int) (x : PV) (sg : List (List PV)) : RUN T k_spec_l8Numbers [.agg [iv a, iv b, iv c, iv d, iv e, iv f, iv g, .sl 1 sg]] = some ([.own 1 (ints [a, b, c, d, e])], []) := by
  refine RUN_W T_spec_l8Numbers rfl ?_
  simp [k_spec_l8Numbers_ic, k_spec_l8Numbers_rv, ints]

theorem R_spec_l8Least : RUN T k_spec_l8Least [] = some ([.own 1 (ints [1, 0, 2, 1, 1])], []) := by
  refine RUN_W T_spec_l8Least rfl ?_
  simp [k_spec_l8Least_ic, k_spec_l8Least_rv, ints]

theorem R_spec_l8Most : RUN T k_spec_l8Most [] = some ([.own 1 (ints [8, 4, 8, 100, 20])], []) := by
  refine RUN_W T_spec_l8Most rfl ?_
  simp [k_spec_l8Most_ic, k_spec_l8Most_rv, ints]

theorem R_spec_ConfigOk (c : Cfg) (hl : c.sg.length ≤ 9223372036854775807) : RUN T k_spec_ConfigOk [.agg [iv c.ro, iv c.de, iv c.bi, iv c.la, iv c.rw, iv c.nu, iv c.dn, .sl 1 (ints c.sg)]] = some ([bv (cfgOk c)], []) := by
  refine RUN_W T_spec_ConfigOk rfl ?_
  have e1 := R_spec_l8Numbers c.ro c.de c.bi c.la c.rw c.nu c.dn .undef (ints c.sg)
  simp [k_spec_ConfigOk_ic, k_spec_ConfigOk_rv, e1]
  refine W_five ?_
  simp [k_spec_ConfigOk_b0, R_spec_l8Least, R_spec_l8Most, R_spec_l1In', -R_spec_l1In, ints_cons]
  cases h0 : within c.ro 1 8 <;> simp [h0]
  · simp [cfgOk, h0]
  refine W_five ?_
  simp [k_spec_ConfigOk_b0, R_spec_l8Least, R_spec_l8Most, R_spec_l1In', -R_spec_l1In, ints_cons]
  cases h1 : within c.de 0 4 <;> simp [h1]
  · simp [cfgOk, h1]
  refine W_five ?_
  simp [k_spec_ConfigOk_b0, R_spec_l8Least, R_spec_l8Most, R_spec_l1In', -R_spec_l1In, ints_cons]
  cases h2 : within c.bi 2 8 <;> simp [h2]
  · simp [cfgOk, h2]
  refine W_five ?_
  simp [k_spec_ConfigOk_b0, R_spec_l8Least, R_spec_l8Most, R_spec_l1In', -R_spec_l1In, ints_cons]
  cases h3 : within c.la 1 100 <;> simp [h3]
  · simp [cfgOk, h3]
  refine W_five ?_
  simp [k_spec_ConfigOk_b0, R_spec_l8Least, R_spec_l8Most, R_spec_l1In', -R_spec_l1In, ints_cons]
  cases h4 : within c.rw 1 20 <;> simp [h4]
  · simp [cfgOk, h4]
  refine W_five ?_
  simp [k_spec_ConfigOk_b0]
  refine W_loop (fun n st => ∃ i : Nat, i + n = c.sg.length ∧ st.V 1 = .ptr 0 none 0 0 0 ∧ st.V 5 = iv i ∧ st.S 0 = some (.box [iv c.ro, iv c.de, iv c.bi, iv c.la, iv c.rw, iv c.nu, iv c.dn, .sl 1 (ints c.sg)]) ∧ ∀ (j : Nat) (x : Int), j < i → c.sg[j]? = some x → within x (-1) 1 = true) ?_ c.sg.length _ ⟨0, by simp⟩
  rintro n st ⟨i, hi, h1', h5, hS, hj⟩
  simp [k_spec_ConfigOk_b1, h1', h5, hS]
  refine Br_i (fun h => ?_) (fun h => ?_)
  · simp at h
    obtain ⟨x, hx⟩ : ∃ x, c.sg[i]? = some x := ⟨_, List.getElem?_eq_getElem h⟩
    have hw := wS h hl
    have hx' := ints_get hx
    simp [-getElem?_pos, h1', h5, hS, hx', hw, h, R_spec_l1In', -R_spec_l1In]
    cases hb : within x (-1) 1 with
    | true =>
      simp [-getElem?_pos, h1', h5, hS, hw]
      refine Rnd_n (n - 1) (by omega) ⟨i + 1, by omega, by simp [h1'], by simp, by simp [hS], fun j y hj' hy => ?_⟩
      by_cases e : j = i
      · subst e; rw [hx] at hy; cases hy; exact hb
      · exact hj j y (by omega) hy
    | false =>
      simp [cfgOk]
      intros
      exact ⟨x, List.mem_of_getElem? hx, hb⟩
  · simp at h
    have hall : (c.sg.all fun n => within n (-1) 1) = true := by
      rw [List.all_eq_true]
      intro x hx
      obtain ⟨j, hj'⟩ := List.getElem?_of_mem hx
      exact hj j x (by have := (List.getElem?_eq_some_iff.mp hj').1; omega) hj'
    simp [h1', hS, R_spec_l1In', -R_spec_l1In]
    cases h5 : within c.dn 1 1000 <;> simp [h1', hS, h5, R_spec_l1In', -R_spec_l1In]
    · simp [cfgOk, h5]
    cases h6 : within c.nu 1 c.dn <;> simp [h1', hS, h6, R_spec_l1In', -R_spec_l1In]
    · simp [cfgOk, h6]
    simp [cfgOk, h0, h1, h2, h3, h4, h5, h6, hall]

/-- The quotient, rounded down, and whether there is one. -/
def fdv (a b : Int) : Int × Bool := if b = 0 ∨ (b = -1 ∧ a = -9223372036854775808) then (0, false) else (a.fdiv b, true)

theorem tdiv_range {a b : Int} (ha : inI a) (hb : b ≠ 0) (h : ¬ (b = -1 ∧ a = -9223372036854775808)) : -9223372036854775808 ≤ a.tdiv b ∧ a.tdiv b ≤ 9223372036854775807 ∧ (b ≠ 1 → -9223372036854775808 ≤ a.tdiv b - 1) := by
  obtain ⟨h1, h2⟩ := ha
  have h3 : (a.tdiv b).natAbs = a.natAbs / b.natAbs := Int.natAbs_tdiv a b
  have h4 : a.natAbs / b.natAbs ≤ a.natAbs := Nat.div_le_self _ _
  by_cases c : b = 1
  · subst c; simp; omega
  by_cases c2 : b = -1
  · subst c2; simp; omega
  have h5 : a.natAbs / b.natAbs ≤ a.natAbs / 2 := Nat.div_le_div_left (by omega) (by omega)
  omega

theorem fdiv_tdiv (a b : Int) (hb : b ≠ 0) : a.fdiv b = if a.tmod b ≠ 0 ∧ ¬ (a < 0 ↔ b < 0) then a.tdiv b - 1 else a.tdiv b := by
  rw [Int.fdiv_eq_tdiv]
  have hd : b ∣ a ↔ a.tmod b = 0 := Int.dvd_iff_tmod_eq_zero
  by_cases c : b ∣ a
  · rw [if_pos c, if_neg (by rw [hd.mp c]; simp)]; simp
  · have hc : a.tmod b ≠ 0 := fun e => c (hd.mpr e)
    have ha : a ≠ 0 := fun e => c (by subst e; exact ⟨0, by simp⟩)
    rw [if_neg c]
    rcases Int.lt_or_gt_of_ne hb with s2 | s2
    · rw [if_neg (by omega : ¬ 0 ≤ b), if_neg (by omega : ¬ 0 ≤ b), Int.sign_eq_neg_one_of_neg s2]
      by_cases s1 : 0 ≤ a
      · rw [if_pos s1, if_pos ⟨hc, by omega⟩]
      · rw [if_neg s1, if_neg (fun h => h.2 (by omega))]; omega
    · rw [if_pos (by omega : 0 ≤ b), if_pos (by omega : 0 ≤ b), Int.sign_eq_one_of_pos s2]
      by_cases s1 : 0 ≤ a
      · rw [if_pos s1, if_neg (fun h => h.2 (by omega))]; omega
      · rw [if_neg s1, if_pos ⟨hc, by omega⟩]

theorem R_spec_FloorDiv (a b : Int) (ha : inI a) : RUN T k_spec_FloorDiv [iv a, iv b] = some ([iv (fdv a b).1, bv (fdv a b).2], []) := by
  refine RUN_W T_spec_FloorDiv rfl ?_
  simp [k_spec_FloorDiv_ic, k_spec_FloorDiv_rv]
  by_cases h0 : b = 0
  · subst h0; simp [fdv]
  by_cases hbad : b = -1 ∧ a = -9223372036854775808
  · obtain ⟨rfl, rfl⟩ := hbad; simp [fdv]
  have hr := tdiv_range ha h0 hbad
  have hq := w64 hr.1 hr.2.1
  have hf := fdiv_tdiv a b h0
  have e1 : fdv a b = (a.fdiv b, true) := by unfold fdv; rw [if_neg (by simp [h0]; intro h; exact fun h2 => hbad ⟨h, h2⟩)]
  rw [e1]
  have hq2 : a.tmod b ≠ 0 → IntKind.i64.wrap (a.tdiv b - 1) = a.tdiv b - 1 := fun h => w64 (hr.2.2 (by rintro rfl; simp at h)) (by omega)
  have f0 := eq_false h0
  obtain ⟨p1, hp1⟩ : ∃ p, (b = -1) = p := ⟨_, rfl⟩
  obtain ⟨p2, hp2⟩ : ∃ p, (a = -9223372036854775808) = p := ⟨_, rfl⟩
  rw [hp1, hp2] at hbad
  by_cases c1 : p1 <;> by_cases c2 : p2
  · exact (hbad ⟨c1, c2⟩).elim
  all_goals
    simp only [c1, c2] at hp1 hp2
    simp [f0, hp1, hp2, hq]
    by_cases d0 : a.tmod b = 0
    · rw [if_neg (by simp [d0])] at hf
      simp [d0, hf]
    · have hq3 := hq2 d0
      have d1 := eq_false d0
      by_cases d2 : a < 0 <;> by_cases d3 : b < 0
      all_goals
        simp only [d2, d3, ne_eq, d1, not_false_eq_true, iff_self, not_true_eq_false, and_false, if_false, iff_true, iff_false, and_true, if_true, true_iff, false_iff] at hf
        simp [d1, d2, d3, hq3, hf]

theorem R_impl_FloorDiv (a b : Int) (ha : inI a) : RUN T k_impl_FloorDiv [iv a, iv b] = some ([iv (fdv a b).1, bv (fdv a b).2], []) := by
  refine RUN_W T_impl_FloorDiv rfl ?_
  simp [k_impl_FloorDiv_ic, k_impl_FloorDiv_rv]
  by_cases h0 : b = 0
  · subst h0; simp [fdv]
  by_cases hbad : b = -1 ∧ a = -9223372036854775808
  · obtain ⟨rfl, rfl⟩ := hbad; simp [fdv]
  have hr := tdiv_range ha h0 hbad
  have hq := w64 hr.1 hr.2.1
  have hf := fdiv_tdiv a b h0
  have e1 : fdv a b = (a.fdiv b, true) := by unfold fdv; rw [if_neg (by simp [h0]; intro h; exact fun h2 => hbad ⟨h, h2⟩)]
  rw [e1]
  have hq2 : a.tmod b ≠ 0 → IntKind.i64.wrap (a.tdiv b - 1) = a.tdiv b - 1 := fun h => w64 (hr.2.2 (by rintro rfl; simp at h)) (by omega)
  have f0 := eq_false h0
  obtain ⟨p1, hp1⟩ : ∃ p, (b = -1) = p := ⟨_, rfl⟩
  obtain ⟨p2, hp2⟩ : ∃ p, (a = -9223372036854775808) = p := ⟨_, rfl⟩
  rw [hp1, hp2] at hbad
  by_cases c1 : p1 <;> by_cases c2 : p2
  · exact (hbad ⟨c1, c2⟩).elim
  all_goals
    simp only [c1, c2] at hp1 hp2
    simp [f0, hp1, hp2, hq]
    by_cases d0 : a.tmod b = 0
    · rw [if_neg (by simp [d0])] at hf
      simp [d0, hf]
    · have hq3 := hq2 d0
      have d1 := eq_false d0
      by_cases d2 : a < 0 <;> by_cases d3 : b < 0
      all_goals
        simp only [d2, d3, ne_eq, d1, not_false_eq_true, iff_self, not_true_eq_false, and_false, if_false, iff_true, iff_false, and_true, if_true, true_iff, false_iff] at hf
        simp [d1, d2, d3, hq3, hf]

abbrev cfgS (c : Cfg) : PV := .agg [iv c.ro, iv c.de, iv c.bi, iv c.la, iv c.rw, iv c.nu, iv c.dn, .sl 1 (ints c.sg)]

abbrev cfgO (c : Cfg) : PV := .agg [iv c.ro, iv c.de, iv c.bi, iv c.la, iv c.rw, iv c.nu, iv c.dn, .own 1 (ints c.sg)]

theorem within_iff {n a b : Int} : within n a b = true ↔ a ≤ n ∧ n ≤ b := by simp [within]

theorem cfgOk_iff {c : Cfg} (h : cfgOk c = true) : (1 ≤ c.ro ∧ c.ro ≤ 8) ∧ (0 ≤ c.de ∧ c.de ≤ 4) ∧ (2 ≤ c.bi ∧ c.bi ≤ 8) ∧ (1 ≤ c.la ∧ c.la ≤ 100) ∧ (1 ≤ c.rw ∧ c.rw ≤ 20) ∧ (1 ≤ c.dn ∧ c.dn ≤ 1000) ∧ (1 ≤ c.nu ∧ c.nu ≤ c.dn) ∧ c.sg.length ≤ 4 ∧ ∀ n ∈ c.sg, -1 ≤ n ∧ n ≤ 1 := by
  simp only [cfgOk, Bool.and_eq_true, within_iff, decide_eq_true_eq, List.all_eq_true] at h
  obtain ⟨⟨⟨⟨⟨⟨⟨⟨h1, h2⟩, h3⟩, h4⟩, h5⟩, h6⟩, h7⟩, h8⟩, h9⟩ := h
  exact ⟨h1, h2, h3, h4, h5, h6, h7, by omega, h9⟩

def leafV (v : Int) : Bool := within v (-1099511627776) 1099511627776

@[simp] theorem R_spec_l14Leaf (v : Int) : RUN T k_spec_l14Leaf [iv v] = some ([bv (leafV v)], []) := by
  refine RUN_W T_spec_l14Leaf rfl ?_
  simp [k_spec_l14Leaf_ic, k_spec_l14Leaf_rv, leafV, within]

@[simp] theorem R_impl_isLeafValue (v : Int) : RUN T k_impl_isLeafValue [iv v] = some ([bv (leafV v)], []) := by
  refine RUN_W T_impl_isLeafValue rfl ?_
  simp [k_impl_isLeafValue_ic, k_impl_isLeafValue_rv, leafV, within]

/-- A value times the learning rate. -/
def shr (v : Int) (c : Cfg) : Int × Bool := if cfgOk c && leafV v then (( v * c.nu).fdiv c.dn, true) else (0, false)

theorem shr_mul {v : Int} {c : Cfg} (h : cfgOk c = true) (hv : leafV v = true) : inI (v * c.nu) ∧ IntKind.i64.wrap (v * c.nu) = v * c.nu ∧ fdv (v * c.nu) c.dn = ((v * c.nu).fdiv c.dn, true) := by
  obtain ⟨_, _, _, _, _, hd, hn, _⟩ := cfgOk_iff h
  have h1 := within_iff.mp hv
  have h2 : -1099511627776 * 1000 ≤ v * c.nu := by
    have a1 : -1099511627776 * c.nu ≤ v * c.nu := Int.mul_le_mul_of_nonneg_right h1.1 (by omega)
    omega
  have h3 : v * c.nu ≤ 1099511627776 * 1000 := by
    have a1 : v * c.nu ≤ 1099511627776 * c.nu := Int.mul_le_mul_of_nonneg_right h1.2 (by omega)
    omega
  refine ⟨⟨by omega, by omega⟩, w64 (by omega) (by omega), ?_⟩
  unfold fdv
  rw [if_neg (by omega)]

theorem R_spec_Shrunk (v : Int) (c : Cfg) (hl : c.sg.length ≤ 9223372036854775807) : RUN T k_spec_Shrunk [iv v, cfgS c] = some ([iv (shr v c).1, bv (shr v c).2], []) := by
  refine RUN_W T_spec_Shrunk rfl ?_
  have e := R_spec_ConfigOk c hl
  simp [k_spec_Shrunk_ic, k_spec_Shrunk_rv, e]
  cases h : cfgOk c
  · simp [shr, h]
  · cases hv : leafV v
    · simp [h, hv, shr]
    · obtain ⟨h1, h2, h3⟩ := shr_mul h hv
      have e2 := R_spec_FloorDiv _ c.dn h1
      rw [h3] at e2
      simp [h, hv, shr, h2, e2]

theorem R_impl_Shrunk (v : Int) (c : Cfg) (hl : c.sg.length ≤ 9223372036854775807) : RUN T k_impl_Shrunk [iv v, cfgS c] = some ([iv (shr v c).1, bv (shr v c).2], []) := by
  refine RUN_W T_impl_Shrunk rfl ?_
  have e := R_impl_ConfigOk c hl
  simp [k_impl_Shrunk_ic, k_impl_Shrunk_rv, e]
  cases h : cfgOk c
  · simp [shr, h]
  · cases hv : leafV v
    · simp [h, hv, shr]
    · obtain ⟨h1, h2, h3⟩ := shr_mul h hv
      have e2 := R_impl_FloorDiv _ c.dn h1
      rw [h3] at e2
      simp [h, hv, shr, h2, e2]

theorem R_laws_szConfig (c : Cfg) (left : Int) (h0 : 0 ≤ left) (h1 : left ≤ 1048576) (hl : c.sg.length ≤ 9223372036854775807) : RUN T k_laws_szConfig [cfgS c, iv left] = some ([iv (if left - c.sg.length < 0 then -1 else left - c.sg.length)], []) := by
  refine RUN_W T_laws_szConfig rfl ?_
  have e := R_laws_szIntS (ints c.sg) left h0 h1 (by simpa using hl)
  simp only [ints_len] at e
  by_cases h : left - c.sg.length < 0
  · simp only [h, if_true] at e ⊢
    simp [k_laws_szConfig_ic, k_laws_szConfig_rv, e]
    intro _; omega
  · simp only [h, if_false] at e ⊢
    simp [k_laws_szConfig_ic, k_laws_szConfig_rv, e, h]

theorem R_laws_toConfig (c : Cfg) (hl : c.sg.length ≤ 1048576) : RUN T k_laws_toConfig [cfgS c] = some ([cfgO c], []) := by
  refine RUN_W T_laws_toConfig rfl ?_
  simp [k_laws_toConfig_ic, k_laws_toConfig_rv, R_laws_toIntS c.sg hl]

theorem R_laws_eqConfig (c : Cfg) (hl : c.sg.length ≤ 9223372036854775807) : RUN T k_laws_eqConfig [cfgS c, cfgS c] = some ([bv true], []) := by
  refine RUN_W T_laws_eqConfig rfl ?_
  simp [k_laws_eqConfig_ic, k_laws_eqConfig_rv, R_laws_eqIntS c.sg hl]

def decV (n : Int) : Bool := within n (-2147483647) 2147483647

/-- Two beside each other in a list. -/
def adj (p : Int → Int → Bool) : List Int → Bool
  | a :: b :: r => p a b || adj p (b :: r)
  | _ => false

theorem snoc_all {α : Type} {P : Nat → α → Prop} {l : List α} {i : Nat} {x : α} (h : ∀ (j : Nat) (x : α), j < i → l[j]? = some x → P j x) (hi : l[i]? = some x) (hp : P i x) : ∀ (j : Nat) (x : α), j < i + 1 → l[j]? = some x → P j x := by
  intro j y hj hy
  by_cases e : j = i
  · subst e; rw [hi] at hy; cases hy; exact hp
  · exact h j y (by omega) hy

/-- A row within rows: a slice's own, or one that is read. -/
def cel (q : Bool) (l : List Int) : PV := if q then .own 1 (ints l) else .sl 1 (ints l)

@[simp] theorem fz_cel (q : Bool) (l : List Int) : fz (cel q l) = .sl 1 (ints l) := by cases q <;> simp [cel]

def rws (q : Bool) (L : List (List Int)) : List (List PV) := L.map fun l => [cel q l]

@[simp] theorem rws_len (q : Bool) (L : List (List Int)) : (rws q L).length = L.length := by simp [rws]

def cutsB (l : List Int) : Bool := !adj (fun a b => decide (b ≤ a)) l && l.all decV && decide ((l.length : Int) ≤ 7)

def rowsIn : List (List Int) → Nat
  | [] => 0
  | l :: _ => l.length

theorem yv_gu {s : St} {d : Option Dst} {op : IOp} {g : Opd} {v : Bool} {x : PV} : (yv s ⟨d, op, some (g, v)⟩ = some x) = (Ob' (guardP v (g.get s)) fun t => Br t (WI (fun _ => []) (fun _ _ => none) op s (fun y _ => y = x)) (PV.v Go.undef = x)) := by
  simp only [yv, evG_some, WI, Ob', Br, Option.map_eq_some_iff, Option.bind_eq_some_iff, eq_iff_iff]
  constructor
  · rintro ⟨⟨y, s'⟩, ⟨t, h1, h2⟩, h3⟩
    refine ⟨t, h1, fun ht => ?_, fun ht => ?_⟩ <;> subst ht
    · exact ⟨y, s', by simpa using h2, h3⟩
    · simp at h2; obtain ⟨rfl, rfl⟩ := h2; exact h3
  · rintro ⟨t, h1, h2, h3⟩
    cases t with
    | true => obtain ⟨y, s', h4, h5⟩ := h2 rfl; exact ⟨(y, s'), ⟨true, h1, by simpa using h4⟩, h5⟩
    | false => exact ⟨_, ⟨false, h1, rfl⟩, h3 rfl⟩

@[simp] theorem chkTodo_g {s : St} {d : Option Dst} {op : IOp} {g : Opd} {v : Bool} {x : PV} {n : Nat} {r : List (IOper × PV × Nat)} : chkTodo s ((⟨d, op, some (g, v)⟩, x, n + 1) :: r) = ((Ob' (guardP v (g.get s)) fun t => Br t (WI (fun _ => []) (fun _ _ => none) op s (fun y _ => y = x)) (PV.v Go.undef = x)) ∧ chkTodo s r) := by
  simp only [chkTodo, yv_gu]

@[simp] theorem chkPast_g {V E : Nat → PV} {d : Option Dst} {op : IOp} {g : Opd} {v : Bool} {x : PV} {n : Nat} {s : St} {ms : List St} : chkPast V E ⟨d, op, some (g, v)⟩ x (n + 1) (s :: ms) = ((Ob' (guardP v (g.get { s with V := V, E := E })) fun t => Br t (WI (fun _ => []) (fun _ _ => none) op { s with V := V, E := E } (fun y _ => y = x)) (PV.v Go.undef = x)) ∧ chkPast V E ⟨d, op, some (g, v)⟩ x n ms) := by
  simp only [chkPast, yv_gu]

def featB (c v : List (List Int)) (f : Nat) : Bool := match c[f]?, v[f]? with
  | some a, some b => cutsB a && decide ((b.length : Int) = rowsIn v) && b.all fun x => within x 0 a.length
  | _, _ => true

def gridB (c v : List (List Int)) : Bool := within c.length 1 4 && decide ((v.length : Int) = c.length) && within (rowsIn v) 1 40 && (List.range c.length).all (featB c v)

def labB (x : Int) : Bool := within x (-2199023255552) 2199023255552

def taskB (c v : List (List Int)) (lab : List Int) (g : Cfg) : Bool := gridB c v && cfgOk g && decide ((lab.length : Int) = rowsIn v) && lab.all labB

theorem wf64 {n : Int} (h : (Lit.int .i64 n).wf = true) : -9223372036854775808 ≤ n ∧ n ≤ 9223372036854775807 := bounds_i64 h

theorem rows_of {α : Type} {f : α → List PV} {p : α → Prop} {tys : List TY} (h : ∀ cs, ShpL tys cs → ∃ a, f a = cs ∧ p a) : ∀ {es : List (List PV)}, (∀ cs ∈ es, ShpL tys cs) → ∃ l : List α, l.map f = es ∧ ∀ a ∈ l, p a
  | [], _ => ⟨[], rfl, by simp⟩
  | e :: es, hs => by
    obtain ⟨a, ha, hp⟩ := h e (hs e (by simp))
    obtain ⟨l, hl, hq⟩ := rows_of h (es := es) (fun cs hc => hs cs (by simp [hc]))
    refine ⟨a :: l, by simp [ha, hl], fun b hb => ?_⟩
    rcases List.mem_cons.mp hb with e | e
    · subst e; exact hp
    · exact hq b e

abbrev tyNd : List TY := [.int .i64, .int .i64, .int .i64, .int .i64, .int .i64]

theorem shp_nd (cs : List PV) (h : ShpL tyNd cs) : ∃ n : Nd, nd n = cs ∧ wfN n := by
  simp only [ShpL, Shp] at h
  obtain ⟨_, _, rfl, ⟨a, rfl, h1⟩, _, _, rfl, ⟨b, rfl, h2⟩, _, _, rfl, ⟨c, rfl, h3⟩, _, _, rfl, ⟨d, rfl, h4⟩, _, _, rfl, ⟨e, rfl, h5⟩, rfl⟩ := h
  exact ⟨⟨a, b, c, d, e⟩, rfl, wf64 h1, wf64 h2, wf64 h3, wf64 h4, wf64 h5⟩

theorem shp_tree {c : PV} (h : ShpA true [.sl tyNd] c) : ∃ t : List Nd, c = .agg [.sl 5 (t.map nd)] ∧ t.length ≤ 9223372036854775807 ∧ ∀ n ∈ t, wfN n := by
  obtain ⟨cs, rfl, h⟩ := h
  simp only [ShpL, Shp] at h
  obtain ⟨_, _, rfl, ⟨es, rfl, h1, h2⟩, rfl⟩ := h
  obtain ⟨t, rfl, hp⟩ := rows_of shp_nd h2
  simp [maxLen] at h1
  exact ⟨t, rfl, by omega, hp⟩

theorem shp_intL (cs : List PV) (h : ShpL [.int .i64] cs) : ∃ n : Int, [iv n] = cs ∧ inI n := by
  simp only [ShpL, Shp] at h
  obtain ⟨_, _, rfl, ⟨a, rfl, h1⟩, rfl⟩ := h
  exact ⟨a, rfl, wf64 h1⟩

def wfC (c : Cfg) : Prop := c.sg.length ≤ 9223372036854775807 ∧ inI c.ro ∧ inI c.de ∧ inI c.bi ∧ inI c.la ∧ inI c.rw ∧ inI c.nu ∧ inI c.dn ∧ ∀ n ∈ c.sg, inI n

theorem shp_cfg {c : PV} (h : ShpA true [.int .i64, .int .i64, .int .i64, .int .i64, .int .i64, .int .i64, .int .i64, .sl [.int .i64]] c) : ∃ x : Cfg, c = cfgS x ∧ wfC x := by
  obtain ⟨cs, rfl, h⟩ := h
  simp only [ShpL, Shp] at h
  obtain ⟨_, _, rfl, ⟨a, rfl, h1⟩, _, _, rfl, ⟨b, rfl, h2⟩, _, _, rfl, ⟨c, rfl, h3⟩, _, _, rfl, ⟨d, rfl, h4⟩, _, _, rfl, ⟨e, rfl, h5⟩, _, _, rfl, ⟨f, rfl, h6⟩, _, _, rfl, ⟨g, rfl, h7⟩, _, _, rfl, ⟨es, rfl, h8, h9⟩, rfl⟩ := h
  have h9' : ∀ cs ∈ es, ShpL [.int .i64] cs := h9
  obtain ⟨l, hl, hp⟩ := rows_of (f := fun n : Int => [iv n]) (tys := [.int .i64]) shp_intL h9'
  subst hl
  simp [maxLen] at h8
  exact ⟨⟨a, b, c, d, e, f, g, l⟩, rfl, by simpa using h8, wf64 h1, wf64 h2, wf64 h3, wf64 h4, wf64 h5, wf64 h6, wf64 h7, hp⟩

theorem of_all {P : Program} {l : List TypeId} (h : (l.all fun t => P.readableRec t && decide (t < P.types.size)) = true) : ∀ t ∈ l, P.readableRec t = true ∧ t < P.types.size := by
  intro t ht
  have := List.all_eq_true.mp h t ht
  simpa using this

theorem args2 {p q : Bool × List TY} {pvs : List PV} (h : All2 (fun p c => ShpA p.1 p.2 c) [p, q] pvs) : ∃ a b, pvs = [a, b] ∧ ShpA p.1 p.2 a ∧ ShpA q.1 q.2 b := by
  cases h with
  | cons h1 t => cases t with
    | cons h2 t => cases t with
      | nil => exact ⟨_, _, rfl, h1, h2⟩

/-- The bytes that a source draws from. -/
def byts (B : List Int) : List (List PV) := B.map fun n => [.v (.int .u8 n)]

@[simp] theorem byts_len (B : List Int) : (byts B).length = B.length := by simp [byts]

/-- The end of a call of which something is told. -/
def FinG (rv : List RV) (io : Nat) (G : List PV × List PV → Prop) (_ : Dm rv) (_ : Dm G) (e : Ex) (s : St) : Prop := (e = .normal ∨ e = .ret) ∧ ∃ r, finishEv ⟨[], rv, .skip⟩ io s = some r ∧ G r

@[simp] theorem FinG_n {rv : List RV} {io : Nat} {G : List PV × List PV → Prop} {s : St} : FinG rv io G ⟨⟩ ⟨⟩ .normal s = ∃ r, finishEv ⟨[], rv, .skip⟩ io s = some r ∧ G r := by simp [FinG]

@[simp] theorem FinG_r {rv : List RV} {io : Nat} {G : List PV × List PV → Prop} {s : St} : FinG rv io G ⟨⟩ ⟨⟩ .ret s = ∃ r, finishEv ⟨[], rv, .skip⟩ io s = some r ∧ G r := by simp [FinG]

def adi (a b : Int) : Int × Bool := if -9223372036854775808 ≤ a + b ∧ a + b ≤ 9223372036854775807 then (a + b, true) else (0, false)

def sbi (a b : Int) : Int × Bool := if -9223372036854775808 ≤ a - b ∧ a - b ≤ 9223372036854775807 then (a - b, true) else (0, false)

def strs (l : List ByteArray) : List (List PV) := l.map fun s => [.v (.string s)]

@[simp] theorem strs_len (l : List ByteArray) : (strs l).length = l.length := by simp [strs]

def celT (q : Bool) (t : List Nd) : PV := if q then .own 5 (t.map nd) else .sl 5 (t.map nd)

@[simp] theorem fz_celT (q : Bool) (t : List Nd) : fz (celT q t) = .sl 5 (t.map nd) := by cases q <;> simp [celT]

def trs (q : Bool) (M : List (List Nd)) : List (List PV) := M.map fun t => [celT q t]

@[simp] theorem trs_len (q : Bool) (M : List (List Nd)) : (trs q M).length = M.length := by simp [trs]

def rwS (q : Bool) (l : List ByteArray) : PV := if q then .own 1 (strs l) else .sl 1 (strs l)

@[simp] theorem fz_rwS (q : Bool) (l : List ByteArray) : fz (rwS q l) = .sl 1 (strs l) := by cases q <;> simp [rwS]

def rwsS (q : Bool) (L : List (List ByteArray)) : List (List PV) := L.map fun l => [rwS q l]

@[simp] theorem rwsS_len (q : Bool) (L : List (List ByteArray)) : (rwsS q L).length = L.length := by simp [rwsS]

/-- The numbers below one that are meant. -/
def picks (p : Nat → Bool) (i : Nat) : List Int := ((List.range i).filter p).map fun (j : Nat) => (j : Int)

@[simp] theorem picks_0 (p : Nat → Bool) : picks p 0 = [] := rfl

/-- A number of 128 bits with a sign. -/
structure Wd where
  n : Bool
  h : Int
  l : Int
deriving DecidableEq

def wok (w : Wd) : Bool := decide (w.h < 9223372036854775808) && (!w.n || decide (0 < w.h) || decide (0 < w.l))

def mag (w : Wd) : Int := w.h * 18446744073709551616 + w.l

def mkW (n : Bool) (m : Int) : Wd := ⟨n && decide (0 < m), m / 18446744073709551616, m % 18446744073709551616⟩

def zeroW : Wd := ⟨false, 0, 0⟩

def sgnI (a b : Int) : Int := if a < b then -1 else if b < a then 1 else 0

def ordW (a b : Wd) : Int := if sgnI a.h b.h = 0 then sgnI a.l b.l else sgnI a.h b.h

def mulW (a b : Int) : Wd := mkW (decide (a < 0) != decide (b < 0)) ((a.natAbs : Int) * b.natAbs)

/-- What a number is worth. -/
def valW (w : Wd) : Int := if w.n then -mag w else mag w

def sumW (a b : Wd) : Wd × Bool :=
  if wok a && wok b then
    if ((valW a + valW b).natAbs : Int) < 170141183460469231731687303715884105728 then (mkW (decide (valW a + valW b < 0)) (valW a + valW b).natAbs, true) else (zeroW, false)
  else (zeroW, false)

def scaleW (w : Wd) (k : Int) : Wd × Bool := if wok w = true ∧ mag w * k.natAbs < 170141183460469231731687303715884105728 then (mkW (w.n != decide (k < 0)) (mag w * k.natAbs), true) else (zeroW, false)

def negW (w : Wd) : Bool := w.n && !(decide (w.h = 0) && decide (w.l = 0))

def cmpW (a b : Wd) : Int := if negW a = true then (if negW b = true then ordW b a else -1) else (if negW b = true then 1 else ordW a b)

theorem nds_get {l : List Nd} {i : Nat} {x : Nd} (h : l[i]? = some x) : (l.map nd)[i]? = some [iv x.f, iv x.c, iv x.l, iv x.r, iv x.v] := by simp [h, nd]

/-- A tree in which the slot k has been parted. -/
def grown (t : List Nd) (k : Nat) (f c a b : Int) : List Nd := t.set k ⟨f, c, t.length, t.length + 1, 0⟩ ++ [⟨-1, 0, 0, 0, a⟩, ⟨-1, 0, 0, 0, b⟩]

theorem nds_allV (l : List Nd) : allV (l.map nd) = true := by simp [allV, nd]

theorem nds_set (t : List Nd) (k : Nat) (f c l r v : Int) : (t.map nd).set k [iv f, iv c, iv l, iv r, iv v] = (t.set k ⟨f, c, l, r, v⟩).map nd := by
  rw [List.map_set]; rfl

/-- The place at which a number goes into a list, looked for from the end. -/
def pos (x : Int) (l : List Int) : Nat → Nat
  | 0 => 0
  | k + 1 => if x < l.getD k 0 then pos x l k else k + 1

def PosAt (x : Int) (l : List Int) (k P : Nat) : Prop := pos x l k = P

theorem PosAt.z {x : Int} {l : List Int} {P : Nat} (h : PosAt x l 0 P) : 0 = P := h

/-- A slot: how many, and their sum. -/
structure Sl where
  n : Int
  g : Int
deriving DecidableEq

def slc (x : Sl) : List PV := [iv x.n, iv x.g]

def slts (l : List Sl) : List (List PV) := l.map slc

@[simp] theorem slts_len (l : List Sl) : (slts l).length = l.length := by simp [slts]

def plusS (a b : Sl) : Sl × Bool := if ((adi a.n b.n).2 && (adi a.g b.g).2) = true then (⟨(adi a.n b.n).1, (adi a.g b.g).1⟩, true) else (⟨0, 0⟩, false)

def atI {α : Type} (l : List α) (i : Int) : Option α := if 0 ≤ i then l[i.toNat]? else none

def histG (b g : List Int) : List Int → List Sl → Option (List Sl)
  | [], h => some h
  | r :: rs, h => match atI b r, atI g r with
    | some x, some y => match atI h x with
      | some s => if (plusS s ⟨1, y⟩).2 = true then histG b g rs (h.set x.toNat (plusS s ⟨1, y⟩).1) else none
      | none => none
    | _, _ => none

def histR (b g rows : List Int) (k : Int) : List Sl × Bool := if within k 1 8 = true then match histG b g rows (List.replicate k.toNat ⟨0, 0⟩) with
    | some h => (h, true)
    | none => ([], false)
  else ([], false)

def celS (q : Bool) (l : List Sl) : PV := if q then .own 2 (slts l) else .sl 2 (slts l)

@[simp] theorem fz_celS (q : Bool) (l : List Sl) : fz (celS q l) = .sl 2 (slts l) := by cases q <;> simp [celS]

def rss (q : Bool) (H : List (List Sl)) : List (List PV) := H.map fun l => [celS q l]

@[simp] theorem rss_len (q : Bool) (H : List (List Sl)) : (rss q H).length = H.length := by simp [rss]

def nodeL (g rows : List Int) : List (List Int) → List (List Int) → Option (List (List Sl))
  | x :: c, y :: v => if (histR y g rows (x.length + 1)).2 = true then (nodeL g rows c v).map ((histR y g rows (x.length + 1)).1 :: ·) else none
  | _, _ => some []

def nodeR (c v : List (List Int)) (g rows : List Int) : List (List Sl) × Bool := if gridB c v = true then match nodeL g rows c v with
    | some h => (h, true)
    | none => ([], false)
  else ([], false)

/-- Slots that have been numbered. -/
def mkSl (k : Int) (n : Nat) : List Sl := (List.range n).map fun (i : Nat) => ⟨k + 2 * (i : Int), k + 2 * (i : Int) + 1⟩

@[simp] theorem mkSl_len (k : Int) (n : Nat) : (mkSl k n).length = n := by simp [mkSl]

/-- A fraction: a number of 128 bits over a small one. -/
structure Fr where
  w : Wd
  d : Int

def frB (f : Fr) : Bool := wok f.w && within f.d 1 1000000

def zeroF : Fr := ⟨zeroW, 0⟩

def fracV (w : Wd) (d : Int) : Fr × Bool := if frB ⟨w, d⟩ = true then (⟨w, d⟩, true) else (zeroF, false)

def crossV (a b : Fr) : Wd × Wd × Bool := if (frB a && frB b) = true then ((scaleW a.w b.d).1, (scaleW b.w a.d).1, (scaleW a.w b.d).2 && (scaleW b.w a.d).2) else (zeroW, zeroW, false)

def cmpF (a b : Fr) : Int × Bool := if (crossV a b).2.2 = true then (cmpW (crossV a b).1 (crossV a b).2.1, true) else (0, false)

def addF (a b : Fr) : Fr × Bool := if (crossV a b).2.2 = true then (if (sumW (crossV a b).1 (crossV a b).2.1).2 = true then fracV (sumW (crossV a b).1 (crossV a b).2.1).1 (a.d * b.d) else (zeroF, false)) else (zeroF, false)

/-- A candidate: feature, border, the two sides. -/
structure Cnd where
  f : Int
  b : Int
  a : Sl
  z : Sl
deriving DecidableEq

def cnd (c : Cnd) : List PV := [iv c.f, iv c.b, iv c.a.n, iv c.a.g, iv c.z.n, iv c.z.g]

/-- A bound on values. -/
structure Bd where
  lo : Int
  hi : Int

def bndB (b : Bd) : Bool := decide (b.lo ≤ b.hi) && leafV b.lo && leafV b.hi

def broV (x lo hi : Int) : Int := if x < lo then lo else if hi < x then hi else x

def cntB (n l : Int) : Bool := within n 0 40 && within l 1 100

def leafO (s : Sl) (l : Int) (b : Bd) : Int × Bool := if (cntB s.n l && bndB b) = true then (broV (fdv s.g (s.n + l)).1 b.lo b.hi, true) else (0, false)

def plainG (s : Sl) (l : Int) : Fr × Bool := if cntB s.n l = true then fracV (mulW s.g s.g) (s.n + l) else (zeroF, false)

def gainC (c : Cnd) (l : Int) : Fr × Bool := if ((plainG c.a l).2 && (plainG c.z l).2) = true then addF (plainG c.a l).1 (plainG c.z l).1 else (zeroF, false)

def sideV (c : Cfg) (b : Bd) (x : Cnd) : Int × Int × Bool := if ((leafO x.a c.la b).2 && (leafO x.z c.la b).2) = true then ((leafO x.a c.la b).1, (leafO x.z c.la b).1, true) else (0, 0, false)

def signV (c : Cfg) (f : Int) : Int := (atI c.sg f).getD 0

def agrV (s l r : Int) : Bool := if s = 1 then decide (l ≤ r) else if s = -1 then decide (r ≤ l) else true

def impV (x : Cnd) (l : Int) : Bool := (gainC x l).2 && ((plusS x.a x.z).2 && ((plainG (plusS x.a x.z).1 l).2 && ((cmpF (gainC x l).1 (plainG (plusS x.a x.z).1 l).1).2 && decide (0 < (cmpF (gainC x l).1 (plainG (plusS x.a x.z).1 l).1).1))))

def lesC (a b : Cnd) : Bool := decide (a.f < b.f) || (decide (a.f = b.f) && decide (a.b < b.b))

def betC (a b : Cnd) (l : Int) : Bool := (gainC a l).2 && ((gainC b l).2 && ((cmpF (gainC a l).1 (gainC b l).1).2 && (decide (0 < (cmpF (gainC a l).1 (gainC b l).1).1) || (decide ((cmpF (gainC a l).1 (gainC b l).1).1 = 0) && lesC a b))))

def mayB (c : Cfg) (b : Bd) (x : Cnd) : Bool := cfgOk c && ((sideV c b x).2.2 && (decide (c.rw ≤ x.a.n) && (decide (c.rw ≤ x.z.n) && (agrV (signV c x.f) (sideV c b x).1 (sideV c b x).2.1 && impV x c.la))))

def cnds (l : List Cnd) : List (List PV) := l.map cnd

@[simp] theorem cnds_len (l : List Cnd) : (cnds l).length = l.length := by simp [cnds]

def noB (c : Cfg) (b : Bd) (x y : Cnd) : Bool := !mayB c b y || !betC y x c.la

def isBest (c : Cfg) (b : Bd) (l : List Cnd) (x : Cnd) : Bool := mayB c b x && l.all (noB c b x)

def zeroC : Cnd := ⟨0, 0, ⟨0, 0⟩, ⟨0, 0⟩⟩

def bestR (c : Cfg) (b : Bd) (l : List Cnd) : Cnd × Bool := match l.find? (isBest c b l) with
  | some x => (x, true)
  | none => (zeroC, false)

def minusS (a b : Sl) : Sl × Bool := if ((sbi a.n b.n).2 && (sbi a.g b.g).2) = true then (⟨(sbi a.n b.n).1, (sbi a.g b.g).1⟩, true) else (⟨0, 0⟩, false)

def prefG (s : Sl) : List Sl → Option (List Sl)
  | [] => some []
  | x :: xs => if (plusS s x).2 = true then (prefG (plusS s x).1 xs).map ((plusS s x).1 :: ·) else none

def prefR (h : List Sl) : List Sl × Bool := match prefG ⟨0, 0⟩ h with
  | some l => (l, true)
  | none => ([], false)

/-- The candidates of one feature, behind those that are there. -/
def candB (f : Int) (all : Sl) (least : Int) : Int → List Sl → List Cnd → Option (List Cnd)
  | b, x :: y :: xs, acc => if (minusS all x).2 = true then candB f all least (b + 1) (y :: xs) (if least ≤ x.n ∧ least ≤ (minusS all x).1.n then acc ++ [⟨f, b, x, (minusS all x).1⟩] else acc) else none
  | _, _, acc => some acc

def lastS (l : List Sl) : Sl := l.getLast?.getD ⟨0, 0⟩

def candF (least : Int) : Int → List (List Sl) → List Cnd → Option (List Cnd)
  | _, [], acc => some acc
  | f, h :: hs, acc => if (prefR h).2 = true then match candB f (lastS (prefR h).1) least 0 (prefR h).1 acc with
    | some a => candF least (f + 1) hs a
    | none => none
    else none

def candR (H : List (List Sl)) (least : Int) : List Cnd := (candF least 0 H []).getD []

def partR (c v : List (List Int)) (g : List Int) (cfg : Cfg) (rows : List Int) (b : Bd) : Cnd × Bool := if taskB c v g cfg = true then (if (nodeR c v g rows).2 = true then bestR cfg b (candR (nodeR c v g rows).1 cfg.rw) else (zeroC, false)) else (zeroC, false)

/-- A node that is not grown yet. -/
structure Pnd where
  r : List Int
  b : Bd
  l : Int

def goes (c v : List (List Int)) (g : List Int) (cfg : Cfg) (x : Pnd) : Bool := decide (x.l < cfg.de) && (partR c v g cfg x.r x.b).2

def upl (n : Nat) : List Int := (List.range n).map fun (i : Nat) => (i : Int)

@[simp] theorem upl_len (n : Nat) : (upl n).length = n := by simp [upl]

@[simp] theorem upl_0 : upl 0 = [] := rfl

def pnd (x : Pnd) : List PV := [.own 1 (ints x.r), iv x.b.lo, iv x.b.hi, iv x.l]

def pnds (l : List Pnd) : List (List PV) := l.map pnd

@[simp] theorem pnds_len (l : List Pnd) : (pnds l).length = l.length := by simp [pnds]

theorem R_laws_markConfig (c : Cfg) (k : Int) (h0 : 0 ≤ k) (hk : k + c.sg.length ≤ 9223372036854775806) : RUN T k_laws_markConfig [cfgO c, iv k] = some ([iv (k + c.sg.length)], [.own 1 (ints (upto k c.sg.length))]) := by
  have e := R_laws_markIntS c.sg k h0 hk
  have hu : (upto k c.sg.length).length = c.sg.length := by simp [upto]
  generalize upto k c.sg.length = u at *
  refine RUN_W T_laws_markConfig rfl ?_
  simp [-getElem?_pos, k_laws_markConfig_ic, k_laws_markConfig_rv, cfgO, e, hu]

theorem R_laws_heldNodeS (k : Int) (n : Nat) (h0 : 0 ≤ k) (hk : k + 5 * n ≤ 9223372036854775806) : RUN T k_laws_heldNodeS [.sl 5 ((mkNd k n).map nd), iv k] = some ([iv (k + 5 * n)], []) := by
  refine RUN_W T_laws_heldNodeS rfl ?_
  have hl : (mkNd k n).length = n := by simp [mkNd]
  simp [k_laws_heldNodeS_ic, k_laws_heldNodeS_rv]
  refine W_loop (fun q st => ∃ i : Nat, i + q = n ∧ st.V 0 = .sl 5 ((mkNd k n).map nd) ∧ st.V 1 = iv (k + 5 * i) ∧ st.V 5 = iv i) ?_ n _ ⟨0, by simp⟩
  rintro q st ⟨i, hi, v0, v1, v5⟩
  by_cases h : i < n
  · have hw := wS h (by omega : n ≤ 9223372036854775807)
    have w1 : IntKind.i64.wrap (k + 5 * (i : Int) + 1) = k + 5 * (i : Int) + 1 := w64 (by omega) (by omega)
    have w2 : IntKind.i64.wrap (k + 5 * (i : Int) + 1 + 1) = k + 5 * (i : Int) + 2 := by rw [w64 (by omega) (by omega)]; omega
    have w3 : IntKind.i64.wrap (k + 5 * (i : Int) + 2 + 1) = k + 5 * (i : Int) + 3 := by rw [w64 (by omega) (by omega)]; omega
    have w4 : IntKind.i64.wrap (k + 5 * (i : Int) + 3 + 1) = k + 5 * (i : Int) + 4 := by rw [w64 (by omega) (by omega)]; omega
    have w5 : IntKind.i64.wrap (k + 5 * (i : Int) + 4 + 1) = k + 5 * ((i : Int) + 1) := by rw [w64 (by omega) (by omega)]; omega
    have hx' : ((mkNd k n).map nd)[i]? = some [iv (k + 5 * (i : Int)), iv (k + 5 * (i : Int) + 1), iv (k + 5 * (i : Int) + 2), iv (k + 5 * (i : Int) + 3), iv (k + 5 * (i : Int) + 4)] := by simp [mkNd, h, nd]
    have hL : ((mkNd k n).map nd).length = n := by simp [mkNd]
    generalize (mkNd k n).map nd = L at *
    simp [-getElem?_pos, k_laws_heldNodeS_b0, v0, v1, v5, h, hL, hx', hw, w1, w2, w3, w4, w5]
    exact Rnd_n (q - 1) (by omega) ⟨i + 1, by omega, by simp [v0], by simp, by simp⟩
  · simp [-getElem?_pos, k_laws_heldNodeS_b0, v0, v1, v5, h, hl]
    omega

theorem R_laws_heldTree (k : Int) (n : Nat) (h0 : 0 ≤ k) (hk : k + 5 * n ≤ 9223372036854775806) : RUN T k_laws_heldTree [.agg [.sl 5 ((mkNd k n).map nd)], iv k] = some ([iv (k + 5 * n)], []) := by
  have e := R_laws_heldNodeS k n h0 hk
  have hn : ¬ k + 5 * (n : Int) < 0 := by omega
  generalize (mkNd k n).map nd = L at *
  refine RUN_W T_laws_heldTree rfl ?_
  simp [-getElem?_pos, k_laws_heldTree_ic, k_laws_heldTree_rv, e, hn]

theorem allV_nds (l : List Nd) : allV (l.map nd) = true := by
  induction l with
  | nil => rfl
  | cons x l ih => simpa [nd, allV] using ih

theorem R_slices_Clone_Node (l : List Nd) (hl : l.length ≤ 1048576) : RUN T k_slices_Clone___impl_Node_impl_Node_ [.sl 5 (l.map nd)] = some ([.own 5 (l.map nd)], []) :=
  RUN_clone T_slices_Clone___impl_Node_impl_Node_ (allV_nds l) (by simp [roomFor]; omega)

theorem R_impl_copyTree (t : List Nd) (hl : t.length ≤ 1048576) : RUN T k_impl_copyTree [.agg [.sl 5 (t.map nd)]] = some ([.agg [.own 5 (t.map nd)]], []) := by
  have e := R_slices_Clone_Node t hl
  refine RUN_W T_impl_copyTree rfl ?_
  simp [-getElem?_pos, k_impl_copyTree_ic, k_impl_copyTree_rv, e]

theorem R_spec_l17Copy (t : List Nd) (hl : t.length ≤ 1048576) : RUN T k_spec_l17Copy [.agg [.sl 5 (t.map nd)]] = some ([.agg [.own 5 (t.map nd)]], []) := by
  have h0 : roomFor 40 0 = true := by decide
  have h1 : roomFor 40 t.length = true := by simp [roomFor]; omega
  have h2 := nds_allV t
  refine RUN_W T_spec_l17Copy rfl ?_
  simp [-getElem?_pos, k_spec_l17Copy_ic, k_spec_l17Copy_rv, h0, h1, h2]

def shrN (c : Cfg) (x : Nd) : Nd := if x.f = -1 then ⟨x.f, x.c, x.l, x.r, (shr x.v c).1⟩ else x

def shrK (c : Cfg) (x : Nd) : Bool := !decide (x.f = -1) || (shr x.v c).2

def shrT (c : Cfg) (t : List Nd) : List Nd × Bool := if t.all (shrK c) = true then (t.map (shrN c), true) else ([], false)

theorem lvs_memI : ∀ (t : List Nd) (i : Int) (j : Int), j ∈ lvs t i ↔ ∃ (k : Nat) (x : Nd), j = i + k ∧ t[k]? = some x ∧ x.f = -1
  | [], i, j => by simp [lvs]
  | x :: xs, i, j => by
    have ih := lvs_memI xs (i + 1) j
    have key : (∃ (k : Nat) (y : Nd), j = i + k ∧ (x :: xs)[k]? = some y ∧ y.f = -1) ↔ (j = i ∧ x.f = -1) ∨ ∃ (k : Nat) (y : Nd), j = i + 1 + k ∧ xs[k]? = some y ∧ y.f = -1 := by
      constructor
      · rintro ⟨k, y, h1, h2, h3⟩
        cases k with
        | zero => simp at h2; subst h2; exact .inl ⟨by omega, h3⟩
        | succ k => exact .inr ⟨k, y, by omega, by simpa using h2, h3⟩
      · rintro (⟨h1, h2⟩ | ⟨k, y, h1, h2, h3⟩)
        · exact ⟨0, x, by omega, rfl, h2⟩
        · exact ⟨k + 1, y, by omega, by simpa using h2, h3⟩
    rw [key, ← ih]
    simp only [lvs]
    split
    · rename_i hf
      rw [List.mem_cons]
      constructor
      · rintro (h | h)
        · exact .inl ⟨h, hf⟩
        · exact .inr h
      · rintro (h | h)
        · exact .inl h.1
        · exact .inr h
    · rename_i hf
      constructor
      · exact .inr
      · rintro (h | h)
        · exact absurd h.2 hf
        · exact h

/-- What the copy holds once some leaves have been gone through. -/
def shrI (c : Cfg) (t C : List Nd) (p : Nat → Prop) : Prop := C.length = t.length ∧ ∀ (j : Nat) (x : Nd), t[j]? = some x → (p j → C[j]? = some (shrN c x)) ∧ (¬ p j → C[j]? = some x)

theorem shrI_all {c : Cfg} {t C : List Nd} {p : Nat → Prop} (h : shrI c t C p) (hp : ∀ (j : Nat) (x : Nd), t[j]? = some x → x.f = -1 → p j) : C = t.map (shrN c) := by
  refine List.ext_getElem? fun j => ?_
  rcases Nat.lt_or_ge j t.length with hj | hj
  · obtain ⟨x, hx⟩ : ∃ x, t[j]? = some x := ⟨_, List.getElem?_eq_getElem hj⟩
    obtain ⟨h1, h2⟩ := h.2 j x hx
    rw [List.getElem?_map, hx, Option.map_some]
    rcases Classical.em (p j) with hpj | hpj
    · exact h1 hpj
    · rw [h2 hpj]
      by_cases hf : x.f = -1
      · exact absurd (hp j x hx hf) hpj
      · unfold shrN; rw [if_neg hf]
  · rw [List.getElem?_eq_none (by rw [h.1]; omega), List.getElem?_eq_none (by simpa using hj)]

theorem shrI_set {c : Cfg} {t C : List Nd} {p : Nat → Prop} {i : Nat} {x : Nd} (h : shrI c t C p) (hx : t[i]? = some x) (hf : x.f = -1) : shrI c t (C.set i ⟨x.f, x.c, x.l, x.r, (shr x.v c).1⟩) (fun j => p j ∨ j = i) := by
  refine ⟨by rw [List.length_set, h.1], fun j y hy => ?_⟩
  obtain ⟨h1, h2⟩ := h.2 j y hy
  have hi := (List.getElem?_eq_some_iff.mp hx).1
  by_cases e : j = i
  · subst e
    rw [hx] at hy; cases hy
    refine ⟨fun _ => ?_, fun hn => absurd (.inr rfl) hn⟩
    rw [List.getElem?_set_self (by rw [h.1]; exact hi)]
    unfold shrN; rw [if_pos hf]
  · rw [List.getElem?_set_ne (fun h => e h.symm)]
    exact ⟨fun hp => h1 (hp.resolve_right e), fun hn => h2 fun hp => hn (.inl hp)⟩

theorem shrI_get {c : Cfg} {t C : List Nd} {p : Nat → Prop} {i : Nat} {x : Nd} (h : shrI c t C p) (hx : t[i]? = some x) : ∃ v, C[i]? = some ⟨x.f, x.c, x.l, x.r, v⟩ := by
  obtain ⟨h1, h2⟩ := h.2 i x hx
  rcases Classical.em (p i) with hp | hp
  · rw [h1 hp]
    unfold shrN
    split
    · exact ⟨_, rfl⟩
    · exact ⟨x.v, rfl⟩
  · exact ⟨x.v, h2 hp⟩

theorem shrK_no {c : Cfg} {t : List Nd} {i : Nat} {x : Nd} (hx : t[i]? = some x) (hf : x.f = -1) (hs : (shr x.v c).2 = false) : t.all (shrK c) = false := by
  cases e : t.all (shrK c) with
  | false => rfl
  | true =>
    have := List.all_eq_true.mp e x (List.mem_of_getElem? hx)
    unfold shrK at this
    rw [hs, decide_eq_true hf] at this
    cases this

theorem shrK_yes {c : Cfg} {t : List Nd} (h : ∀ (j : Nat) (x : Nd), t[j]? = some x → x.f = -1 → (shr x.v c).2 = true) : t.all (shrK c) = true := by
  rw [List.all_eq_true]
  intro x hx
  obtain ⟨j, hj⟩ := List.getElem?_of_mem hx
  unfold shrK
  by_cases hf : x.f = -1
  · rw [h j x hj hf]; simp
  · rw [decide_eq_false hf]; rfl

set_option maxHeartbeats 2000000 in
theorem R_spec_ShrunkTree (t : List Nd) (c : Cfg) (hl : t.length ≤ 1048576) (hc : c.sg.length ≤ 1048576) : RUN T k_spec_ShrunkTree [.agg [.sl 5 (t.map nd)], cfgS c] = some ([.agg [.own 5 ((shrT c t).1.map nd)], bv (shrT c t).2], []) := by
  have e1 := R_spec_l17Copy t hl
  obtain ⟨R, hR⟩ : ∃ R, R = shrT c t := ⟨_, rfl⟩
  have hR' : R = if t.all (shrK c) = true then (t.map (shrN c), true) else ([], false) := hR
  rw [← hR]
  clear hR
  simp only [cfgS]
  refine RUN_W T_spec_ShrunkTree rfl ?_
  simp [-getElem?_pos, k_spec_ShrunkTree_ic, k_spec_ShrunkTree_rv, e1]
  refine W_loop (fun n st => ∃ (i : Nat) (C : List Nd), i + n = t.length ∧ shrI c t C (fun j => j < i) ∧ (∀ (j : Nat) (x : Nd), j < i → t[j]? = some x → (x.f = -1 → (shr x.v c).2 = true)) ∧ st.V 2 = .ptr 0 none 0 0 0 ∧ st.V 3 = .ptr 1 none 0 0 0 ∧ st.V 4 = .ptr 2 none 0 0 0 ∧ st.V 6 = .ptr 4 none 0 0 0 ∧ st.V 7 = iv i ∧ 4 < st.nx ∧ st.S 0 = some (.box [.sl 5 (t.map nd)]) ∧ st.S 1 = some (.box [iv c.ro, iv c.de, iv c.bi, iv c.la, iv c.rw, iv c.nu, iv c.dn, .sl 1 (ints c.sg)]) ∧ st.S 2 = some (.box [.e0]) ∧ st.S 4 = some (.box [.ref 3 none 0 0 t.length]) ∧ st.S 3 = some (.row 5 (C.map nd))) ?_ t.length _ ⟨0, t, by omega, ⟨rfl, fun j x hx => ⟨fun h => by omega, fun _ => hx⟩⟩, fun j x h => by omega, by simp, by simp, by simp, by simp, by simp, by simp, by simp, by simp, by simp, by simp, by simp⟩
  rintro n st ⟨i, C, hi, hC, hok, v2, v3, v4, v6, v7, h4x, hS0, hS1, hS2, hS4, hS3⟩
  obtain ⟨z1, z2, z3, z4⟩ := fr h4x
  by_cases h : i < t.length
  · obtain ⟨x, hx⟩ : ∃ x, t[i]? = some x := ⟨_, List.getElem?_eq_getElem h⟩
    have hx' := nds_get hx
    have hw := wS h (by omega : t.length ≤ 9223372036854775807)
    have f1 := R_spec_Shrunk x.v c (by omega)
    obtain ⟨v, hv⟩ := shrI_get hC hx
    have hv' := nds_get hv
    have hCl : i < C.length := by rw [hC.1]; exact h
    simp only [cfgS] at f1
    rcases Classical.propComplete (x.f = -1) with hf | hf
    · have hf' : x.f = -1 := by rw [hf]; trivial
      have hset := nds_set C i x.f x.c x.l x.r (shr x.v c).1
      have hI := shrI_set hC hx hf'
      cases hb : (shr x.v c).2 with
      | false =>
        rw [shrK_no hx hf' hb, if_neg (by simp)] at hR'
        subst hR'
        rw [hb] at f1
        simp [-getElem?_pos, k_spec_ShrunkTree_b0, v2, v3, v4, v6, v7, hS0, hS1, hS2, hS4, hS3, h, hx', hf, f1]
      | true =>
        have hok2 := snoc_all (P := fun _ x => x.f = -1 → (shr x.v c).2 = true) hok hx (fun _ => hb)
        rw [hb] at f1
        simp [-getElem?_pos, k_spec_ShrunkTree_b0, v2, v3, v4, v6, v7, hS0, hS1, hS2, hS4, hS3, h, hx', hw, hf, f1, hv', hCl, hC.1, hset]
        exact Rnd_n (n - 1) (by omega) ⟨i + 1, _, by omega, ⟨hI.1, fun j y hy => ⟨fun hj => (hI.2 j y hy).1 (by omega), fun hj => (hI.2 j y hy).2 (by omega)⟩⟩, hok2, by simp [v2], by simp [v3], by simp [v4], by simp [v6], by simp, by simp [h4x], by simp [hS0], by simp [hS1], by simp [hS2], by simp [hS4], by simp⟩
    · have hf' : ¬ x.f = -1 := by rw [hf]; exact id
      have hok2 := snoc_all (P := fun _ x => x.f = -1 → (shr x.v c).2 = true) hok hx (fun h => absurd h hf')
      simp [-getElem?_pos, k_spec_ShrunkTree_b0, v2, v3, v4, v6, v7, hS0, hS1, hS2, hS4, hS3, h, hx', hw, hf]
      refine Rnd_n (n - 1) (by omega) ⟨i + 1, C, by omega, ⟨hC.1, fun j y hy => ⟨fun hj => ?_, fun hj => (hC.2 j y hy).2 (by omega)⟩⟩, hok2, by simp [v2], by simp [v3], by simp [v4], by simp [v6], by simp, by simp [h4x], by simp [hS0], by simp [hS1], by simp [hS2], by simp [hS4], by simp [hS3]⟩
      by_cases e : j = i
      · subst e
        rw [hx] at hy; cases hy
        rw [(hC.2 j x hx).2 (by omega)]
        unfold shrN; rw [if_neg hf']
      · exact (hC.2 j y hy).1 (by omega)
  · have hall := shrI_all hC (fun j x hx _ => by have := (List.getElem?_eq_some_iff.mp hx).1; omega)
    rw [shrK_yes (fun j x hx hf => hok j x (by have := (List.getElem?_eq_some_iff.mp hx).1; omega) hx hf), if_pos rfl, ← hall] at hR'
    have hCl := hC.1
    subst hR'
    simp [-getElem?_pos, k_spec_ShrunkTree_b0, v2, v4, v6, v7, hS0, hS2, hS4, hS3, h, hCl]

set_option maxHeartbeats 2000000 in
theorem R_impl_ShrunkTree (t : List Nd) (c : Cfg) (hl : t.length ≤ 1048576) (hc : c.sg.length ≤ 1048576) : RUN T k_impl_ShrunkTree [.agg [.sl 5 (t.map nd)], cfgS c] = some ([.agg [.own 5 ((shrT c t).1.map nd)], bv (shrT c t).2], []) := by
  have e1 := R_impl_copyTree t hl
  have e2 := R_impl_LeavesOf t hl
  have hll := lvs_len t 0
  have hmem := lvs_memI t 0
  generalize lvs t 0 = L at *
  obtain ⟨R, hR⟩ : ∃ R, R = shrT c t := ⟨_, rfl⟩
  have hR' : R = if t.all (shrK c) = true then (t.map (shrN c), true) else ([], false) := hR
  rw [← hR]
  clear hR
  simp only [cfgS]
  refine RUN_W T_impl_ShrunkTree rfl ?_
  simp [-getElem?_pos, k_impl_ShrunkTree_ic, k_impl_ShrunkTree_rv, e1, e2]
  refine W_loop (fun n st => ∃ (i : Nat) (C : List Nd), i + n = L.length ∧ shrI c t C (fun j => (j : Int) ∈ L.take i) ∧ (∀ (k : Nat) (y : Int), k < i → L[k]? = some y → ∀ (j : Nat) (x : Nd), y = j → t[j]? = some x → (shr x.v c).2 = true) ∧ st.V 2 = .ptr 0 none 0 0 0 ∧ st.V 3 = .ptr 1 none 0 0 0 ∧ st.V 4 = .ptr 2 none 0 0 0 ∧ st.V 6 = .ptr 4 none 0 0 0 ∧ st.V 14 = .ref 5 none 0 0 L.length ∧ st.V 15 = iv L.length ∧ st.V 16 = iv i ∧ 5 < st.nx ∧ st.S 0 = some (.box [.sl 5 (t.map nd)]) ∧ st.S 1 = some (.box [iv c.ro, iv c.de, iv c.bi, iv c.la, iv c.rw, iv c.nu, iv c.dn, .sl 1 (ints c.sg)]) ∧ st.S 2 = some (.box [.e0]) ∧ st.S 4 = some (.box [.ref 3 none 0 0 t.length]) ∧ st.S 5 = some (.row 1 (ints L)) ∧ st.S 3 = some (.row 5 (C.map nd))) ?_ L.length _ ⟨0, t, by omega, ⟨rfl, fun j x hx => ⟨fun h => by simp at h, fun _ => hx⟩⟩, fun k y h => by omega, by simp, by simp, by simp, by simp, by simp, by simp, by simp, by simp, by simp, by simp, by simp, by simp, by simp, by simp⟩
  rintro n st ⟨i, C, hi, hC, hok, v2, v3, v4, v6, v14, v15, v16, h5x, hS0, hS1, hS2, hS4, hS5, hS3⟩
  obtain ⟨z1, z2, z3, z4⟩ := fr h5x
  by_cases h : i < L.length
  · obtain ⟨y, hy⟩ : ∃ y, L[i]? = some y := ⟨_, List.getElem?_eq_getElem h⟩
    obtain ⟨k, x, hyk, hx, hf'⟩ := (hmem y).mp (List.mem_of_getElem? hy)
    have hyk : y = (k : Int) := by omega
    subst hyk
    have hy' := ints_get hy
    have hkt := (List.getElem?_eq_some_iff.mp hx).1
    have hx' := nds_get hx
    have hw := wS h (by omega : L.length ≤ 9223372036854775807)
    have f1 := R_impl_Shrunk x.v c (by omega)
    obtain ⟨v, hv⟩ := shrI_get hC hx
    have hv' := nds_get hv
    have hCl : k < C.length := by rw [hC.1]; exact hkt
    simp only [cfgS] at f1
    have hset := nds_set C k x.f x.c x.l x.r (shr x.v c).1
    have hI := shrI_set hC hx hf'
    have htk : L.take (i + 1) = L.take i ++ [(k : Int)] := by rw [List.take_succ, hy]; rfl
    cases hb : (shr x.v c).2 with
    | false =>
      rw [shrK_no hx hf' hb, if_neg (by simp)] at hR'
      subst hR'
      rw [hb] at f1
      simp [-getElem?_pos, k_impl_ShrunkTree_b0, v2, v3, v4, v6, v14, v15, v16, hS0, hS1, hS2, hS4, hS5, hS3, h, hy', hkt, hx', f1]
    | true =>
      rw [hb] at f1
      have hok2 : ∀ (k' : Nat) (y : Int), k' < i + 1 → L[k']? = some y → ∀ (j : Nat) (x : Nd), y = j → t[j]? = some x → (shr x.v c).2 = true := by
        intro k' y hk' hy2 j x2 e1 e2
        rcases Nat.lt_or_ge k' i with h3 | h3
        · exact hok k' y h3 hy2 j x2 e1 e2
        · have e3 : k' = i := by omega
          subst e3
          rw [hy] at hy2; cases hy2
          have e4 : j = k := by omega
          subst e4
          rw [hx] at e2; cases e2
          exact hb
      simp [-getElem?_pos, k_impl_ShrunkTree_b0, v2, v3, v4, v6, v14, v15, v16, hS0, hS1, hS2, hS4, hS5, hS3, h, hy', hkt, hx', hw, f1, hv', hCl, hC.1, hset]
      refine Rnd_n (n - 1) (by omega) ⟨i + 1, _, by omega, ⟨hI.1, fun j y hy2 => ⟨fun hj => (hI.2 j y hy2).1 ?_, fun hj => (hI.2 j y hy2).2 ?_⟩⟩, hok2, by simp [v2], by simp [v3], by simp [v4], by simp [v6], by simp [v14], by simp [v15], by simp, by simp [h5x], by simp [hS0], by simp [hS1], by simp [hS2], by simp [hS4], by simp [hS5], by simp⟩
      · rw [htk, List.mem_append, List.mem_singleton] at hj
        exact hj.imp id (fun e => by omega)
      · intro hp
        apply hj
        rw [htk, List.mem_append, List.mem_singleton]
        exact hp.imp id (fun e => by omega)
  · have hiL : i = L.length := by omega
    subst hiL
    rw [List.take_length] at hC
    have hin : ∀ (j : Nat) (x : Nd), t[j]? = some x → x.f = -1 → (j : Int) ∈ L := fun j x hx hf => (hmem j).mpr ⟨j, x, by omega, hx, hf⟩
    have hall := shrI_all hC hin
    rw [shrK_yes (fun j x hx hf => by
      obtain ⟨k, hk⟩ := List.getElem?_of_mem (hin j x hx hf)
      exact hok k j (List.getElem?_eq_some_iff.mp hk).1 hk j x rfl hx), if_pos rfl, ← hall] at hR'
    have hCl := hC.1
    subst hR'
    simp [-getElem?_pos, k_impl_ShrunkTree_b0, v2, v4, v6, v14, v15, v16, hS0, hS2, hS4, hS3, h, hCl]

theorem shrT_len (c : Cfg) (t : List Nd) : (shrT c t).1.length ≤ t.length := by
  unfold shrT
  split
  · simp
  · simp

set_option maxHeartbeats 4000000 in
set_option maxRecDepth 8000 in
theorem law_FnExactShrunkTree (t : List Nd) (c : Cfg) (hl : t.length ≤ 9223372036854775807) (hc : c.sg.length ≤ 9223372036854775807) : RUN T k_laws_FnExactShrunkTree [.agg [.sl 5 (t.map nd)], cfgS c] = some ([bv true], []) := by
  have s1 := R_laws_szTree (t.map nd) 1048576 (by omega) (by omega) (by simpa using hl)
  have s2 := fun h0 h1 => R_laws_szConfig c (1048576 - t.length) h0 h1 hc
  rw [List.length_map] at s1
  have hrl := shrT_len c t
  have q1 := R_laws_eqTree (shrT c t).1 (by omega)
  have q2 := R_laws_eqTree t hl
  have q3 := R_laws_eqConfig c hc
  have a1 := fun h1 h2 => R_spec_ShrunkTree t c h1 h2
  have a2 := fun h1 h2 => R_impl_ShrunkTree t c h1 h2
  have t1 := fun h => R_laws_toTree t h
  have t2 := fun h => R_laws_toConfig c h
  have m1 := fun h => R_laws_markTree t 1 (by omega) h
  have m2 := fun h => R_laws_markConfig c (1 + 5 * t.length) (by omega) h
  simp only [cfgS, cfgO] at *
  by_cases d1 : (1048576 : Int) - t.length < 0
  · rw [if_pos d1] at s1
    refine RUN_W T_laws_FnExactShrunkTree rfl ?_
    simp [k_laws_FnExactShrunkTree_ic, k_laws_FnExactShrunkTree_rv, s1]
  rw [if_neg d1] at s1
  have s2 := s2 (by omega) (by omega)
  by_cases d2 : (1048576 : Int) - t.length - c.sg.length < 0
  · rw [if_pos d2] at s2
    refine RUN_W T_laws_FnExactShrunkTree rfl ?_
    simp [k_laws_FnExactShrunkTree_ic, k_laws_FnExactShrunkTree_rv, d1, s1, s2]
  rw [if_neg d2] at s2
  have t1 := t1 (by omega)
  have t2 := t2 (by omega)
  have a1 := a1 (by omega) (by omega)
  have a2 := a2 (by omega) (by omega)
  have m1 := m1 (by omega)
  have m2 := m2 (by omega)
  have m4 := R_laws_markTree (shrT c t).1 1 (by omega) (by omega)
  have m5 := R_laws_heldTree 1 (shrT c t).1.length (by omega) (by omega)
  have n1 : ¬ (1 + 5 * (t.length : Int) + c.sg.length < 0) := by omega
  have n2 : ¬ (1 + 5 * ((shrT c t).1.length : Int) < 0) := by omega
  have hml : (mkNd 1 (shrT c t).1.length).length = (shrT c t).1.length := by simp [mkNd]
  have hml2 : (mkNd 1 t.length).length = t.length := by simp [mkNd]
  generalize shrT c t = pr at *
  obtain ⟨pl, pb⟩ := pr
  simp only at a1 a2 q1 m4 m5 n2 hml
  generalize mkNd 1 pl.length = pl' at *
  generalize mkNd 1 t.length = t' at *
  generalize hRr : upto (1 + 5 * (t.length : Int)) c.sg.length = s' at *
  have hRl : s'.length = c.sg.length := by rw [← hRr]; simp [upto]
  clear hRr
  refine RUN_W T_laws_FnExactShrunkTree rfl ?_
  cases pb <;> simp [k_laws_FnExactShrunkTree_ic, k_laws_FnExactShrunkTree_rv, s1, s2, t1, t2, a1, a2, q1, q2, q3, m1, m2, m4, m5, d1, d2, n1, n2, hRl, hml, hml2]

end Go.Pe
