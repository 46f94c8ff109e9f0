/- What each function answers by the evaluator, and the law; for each answer its own conditions stand ahead of it. -/
import Derived.Test.YthjpnjnlhmkepaaK0
import Derived.Test.YthjpnjnlhmkepaaEvB2
import Derived.IntWalk
set_option linter.all false
namespace Go.Pe
open Go
theorem w64 {x : Int} (h1 : -9223372036854775808 ≤ x) (h2 : x ≤ 9223372036854775807) : IntKind.i64.wrap x = x := IntWalk.i64_in x ⟨h1, h2⟩

@[simp] theorem w64s {x : Int} (h1 : -9223372036854775808 ≤ x) (h2 : x ≤ 9223372036854775807) : IntKind.i64.wrap x = x := w64 h1 h2

structure Nd where
  f : Int
  c : Int
  l : Int
  r : Int
  v : Int
deriving DecidableEq

def nd (n : Nd) : List PV := [iv n.f, iv n.c, iv n.l, iv n.r, iv n.v]

@[simp] theorem R_impl_isLeaf (a b c d e : Int) : RUN T k_impl_isLeaf [.agg [iv a, iv b, iv c, iv d, iv e]] = some ([bv (decide (a = -1))], []) := by
  refine RUN_W T_impl_isLeaf rfl ?_
  simp [k_impl_isLeaf_ic, k_impl_isLeaf_rv]

@[simp] theorem R_impl_within (a b c : Int) : RUN T k_impl_within [iv a, iv b, iv c] = some ([bv (decide (b ≤ a) && decide (a ≤ c))], []) := by
  refine RUN_W T_impl_within rfl ?_
  simp [k_impl_within_ic, k_impl_within_rv]
  refine Br_i (fun h => ?_) (fun h => ?_) <;> simp [h]

@[simp] theorem R_spec_l17Inner (a b c d e : Int) : RUN T k_spec_l17Inner [.agg [iv a, iv b, iv c, iv d, iv e]] = some ([bv (!decide (a = -1))], []) := by
  refine RUN_W T_spec_l17Inner rfl ?_
  simp [k_spec_l17Inner_ic, k_spec_l17Inner_rv]

@[simp] theorem R_spec_l1In (a b c : Int) : RUN T k_spec_l1In [iv a, iv b, iv c] = some ([bv (decide (b ≤ a) && decide (a ≤ c))], []) := by
  refine RUN_W T_spec_l1In rfl ?_
  simp [k_spec_l1In_ic, k_spec_l1In_rv]
  refine Br_i (fun h => ?_) (fun h => ?_) <;> simp [h]

@[simp] theorem R_laws_toNode (a b c d e : Int) : RUN T k_laws_toNode [.agg [iv a, iv b, iv c, iv d, iv e]] = some ([.agg [iv a, iv b, iv c, iv d, iv e]], []) := by
  refine RUN_W T_laws_toNode rfl ?_
  simp [k_laws_toNode_ic, k_laws_toNode_rv]

@[simp] theorem R_laws_eqNode (a b c d e : Int) : RUN T k_laws_eqNode [.agg [iv a, iv b, iv c, iv d, iv e], .agg [iv a, iv b, iv c, iv d, iv e]] = some ([bv true], []) := by
  refine RUN_W T_laws_eqNode rfl ?_
  simp [k_laws_eqNode_ic, k_laws_eqNode_rv]

theorem R_laws_szNodeS (es : List (List PV)) (left : Int) (h0 : 0 ≤ left) (h1 : left ≤ 1048576) (hl : es.length ≤ 9223372036854775807) : RUN T k_laws_szNodeS [.sl 5 es, iv left] = some ([iv (if left - es.length < 0 then -1 else left - es.length)], []) := by
  refine RUN_W T_laws_szNodeS rfl ?_
  have e := w64 (x := left - es.length) (by omega) (by omega)
  simp [k_laws_szNodeS_ic, k_laws_szNodeS_rv, e]
  refine Br_i (fun h => ?_) (fun h => ?_) <;> simp at h <;> simp [h]
  omega

/-- The first place where something holds, -1 if there is none. -/
def fidx {α : Type} (p : α → Bool) (l : List α) : Int := match l.findIdx? p with
  | some i => (i : Int)
  | none => -1

theorem fidx_none {α : Type} {p : α → Bool} {l : List α} (h : ∀ (j : Nat) (x : α), j < l.length → l[j]? = some x → p x = false) : fidx p l = -1 := by
  unfold fidx
  have : l.findIdx? p = none := by
    rw [List.findIdx?_eq_none_iff]
    intro x hx
    obtain ⟨j, hj⟩ := List.getElem?_of_mem hx
    exact h j x (List.getElem?_eq_some_iff.mp hj).1 hj
  rw [this]

theorem fidx_some {α : Type} {p : α → Bool} {l : List α} {i : Nat} {x : α} (hi : l[i]? = some x) (hp : p x = true) (h : ∀ (j : Nat) (x : α), j < i → l[j]? = some x → p x = false) : fidx p l = i := by
  unfold fidx
  have : l.findIdx? p = some i := by
    rw [List.findIdx?_eq_some_iff_getElem]
    obtain ⟨h1, h2⟩ := List.getElem?_eq_some_iff.mp hi
    refine ⟨h1, by rw [h2]; exact hp, fun j hj => ?_⟩
    have := h j l[j] hj (List.getElem?_eq_getElem (by omega))
    simp [this]
  rw [this]

/-- A node that has a node below it. -/
def above (k : Int) (n : Nd) : Bool := !decide (n.f = -1) && (decide (n.l = k) || decide (n.r = k))

def par (t : List Nd) (k : Int) : Int := fidx (above k) t

theorem wS {i n : Nat} (h : i < n) (hn : n ≤ 9223372036854775807) : IntKind.i64.wrap ((i : Int) + 1) = (i : Int) + 1 := w64 (by omega) (by omega)

theorem R_laws_szTree (es : List (List PV)) (left : Int) (h0 : 0 ≤ left) (h1 : left ≤ 1048576) (hl : es.length ≤ 9223372036854775807) : RUN T k_laws_szTree [.agg [.sl 5 es], iv left] = some ([iv (if left - es.length < 0 then -1 else left - es.length)], []) := by
  refine RUN_W T_laws_szTree rfl ?_
  have e := R_laws_szNodeS es left h0 h1 hl
  by_cases h : left - es.length < 0
  · simp only [h, if_true] at e ⊢
    simp [k_laws_szTree_ic, k_laws_szTree_rv, e]
    intro _; omega
  · simp only [h, if_false] at e ⊢
    simp [k_laws_szTree_ic, k_laws_szTree_rv, e]
    refine Br_i (fun b0 => ?_) (fun b0 => ?_) <;> (try simp at b0) <;> simp [-getElem?_pos, b0, ]
    omega

/-- A row that is filled from its beginning on. -/
def fil {α β : Type} (f : α → β) (z : β) (l : List α) (i : Nat) : List β := (l.take i).map f ++ List.replicate (l.length - i) z

theorem fil_set {α β : Type} {f : α → β} {l : List α} {z : β} {i : Nat} {x : α} (hx : l[i]? = some x) : (fil f z l i).set i (f x) = fil f z l (i + 1) := by
  unfold fil
  obtain ⟨h1, h2⟩ := List.getElem?_eq_some_iff.mp hx
  apply List.ext_getElem?
  intro j
  rw [List.getElem?_set]
  simp only [List.length_append, List.length_map, List.length_take, List.length_replicate]
  by_cases e : i = j
  · subst e
    rw [if_pos rfl, if_pos (by omega), List.getElem?_append_left (by simp; omega)]
    simp [List.getElem?_take, hx]
  · rw [if_neg e]
    by_cases hj : j < i
    · rw [List.getElem?_append_left (by simp; omega), List.getElem?_append_left (by simp; omega)]
      simp [List.getElem?_take, hj, show j < i + 1 by omega]
    · rw [List.getElem?_append_right (by simp; omega), List.getElem?_append_right (by simp; omega)]
      simp [List.getElem?_replicate]
      congr 1
      simp; omega

theorem fil_get {α β : Type} {f : α → β} {l : List α} {z : β} {i : Nat} (h : i < l.length) : (fil f z l i)[i]? = some z := by
  unfold fil
  rw [List.getElem?_append_right (by simp; omega)]
  simp [List.getElem?_replicate]; omega

theorem fil_len {α β : Type} {f : α → β} {l : List α} {z : β} {i : Nat} (h : i ≤ l.length) : (fil f z l i).length = l.length := by unfold fil; simp; omega

theorem fil_0 {α β : Type} {f : α → β} {l : List α} {z : β} : fil f z l 0 = List.replicate l.length z := by simp [fil]

theorem fil_all {α β : Type} {f : α → β} {l : List α} {z : β} {i : Nat} (h : i = l.length) : fil f z l i = l.map f := by subst h; simp [fil]

theorem R_laws_toNodeS (t : List Nd) (hl : t.length ≤ 1048576) : RUN T k_laws_toNodeS [.sl 5 (t.map nd)] = some ([.own 5 (t.map nd)], []) := by
  refine RUN_W T_laws_toNodeS rfl ?_
  have hr : roomFor 40 t.length = true := by simp [roomFor]; omega
  simp [k_laws_toNodeS_ic, k_laws_toNodeS_rv, hr]
  refine W_loop (fun n st => ∃ i : Nat, i + n = t.length ∧ st.V 0 = .sl 5 (t.map nd) ∧ st.V 3 = .ref 0 none 0 0 t.length ∧ st.V 4 = iv i ∧ st.ep = 0 ∧ st.S 0 = some (.row 5 (fil nd [iv 0, iv 0, iv 0, iv 0, iv 0] t i))) ?_ t.length _ ⟨0, by simp [fil_0]⟩
  rintro n st ⟨i, hi, h0, h3, h4, hep, hS⟩
  simp [k_laws_toNodeS_b0, h0, h3, h4, hS]
  refine Br_i (fun h => ?_) (fun h => ?_)
  · simp at h
    obtain ⟨x, hx2⟩ : ∃ x, t[i] = x := ⟨_, rfl⟩
    have hx : t[i]? = some x := by rw [← hx2]; exact List.getElem?_eq_getElem h
    have hw := wS h (by omega : t.length ≤ 9223372036854775807)
    have hg := fil_get (f := nd) (z := [iv 0, iv 0, iv 0, iv 0, iv 0]) h
    have hs := fil_set (f := nd) (z := [iv 0, iv 0, iv 0, iv 0, iv 0]) hx
    simp only [nd] at hs
    simp [-getElem?_pos, h0, h3, h4, hS, hep, h, hx, nd, hw, hg, hs, fil_len (Nat.le_of_lt h)]
    exact Rnd_n (n - 1) (by omega) ⟨i + 1, by omega, by simp [h0], by simp [h3], by simp, by simp, by simp⟩
  · simp at h
    have e := fil_all (f := nd) (z := [iv 0, iv 0, iv 0, iv 0, iv 0]) (by omega : i = t.length)
    simp [h3, hS, e]

theorem R_laws_toTree (t : List Nd) (hl : t.length ≤ 1048576) : RUN T k_laws_toTree [.agg [.sl 5 (t.map nd)]] = some ([.agg [.own 5 (t.map nd)]], []) := by
  refine RUN_W T_laws_toTree rfl ?_
  simp [k_laws_toTree_ic, k_laws_toTree_rv, R_laws_toNodeS t hl]

theorem R_laws_eqNodeS (t : List Nd) (hl : t.length ≤ 9223372036854775807) : RUN T k_laws_eqNodeS [.sl 5 (t.map nd), .sl 5 (t.map nd)] = some ([bv true], []) := by
  refine RUN_W T_laws_eqNodeS rfl ?_
  simp [k_laws_eqNodeS_ic, k_laws_eqNodeS_rv]
  refine W_loop (fun n st => ∃ i : Nat, i + n = t.length ∧ st.V 0 = .sl 5 (t.map nd) ∧ st.V 1 = .sl 5 (t.map nd) ∧ st.V 5 = iv i) ?_ t.length _ ⟨0, by simp⟩
  rintro n st ⟨i, hi, h0, h1, h5⟩
  simp [k_laws_eqNodeS_b0, h0, h1, h5]
  refine Br_i (fun h => ?_) (fun h => ?_)
  · simp at h
    obtain ⟨x, hx⟩ : ∃ x, t[i]? = some x := ⟨_, List.getElem?_eq_getElem h⟩
    have hw := wS h hl
    simp [-getElem?_pos, h0, h1, h5, h, hx, nd, hw]
    exact Rnd_n (n - 1) (by omega) ⟨i + 1, by omega, by simp [h0], by simp [h1], by simp⟩
  · simp

theorem R_laws_eqTree (t : List Nd) (hl : t.length ≤ 9223372036854775807) : RUN T k_laws_eqTree [.agg [.sl 5 (t.map nd)], .agg [.sl 5 (t.map nd)]] = some ([bv true], []) := by
  refine RUN_W T_laws_eqTree rfl ?_
  simp [k_laws_eqTree_ic, k_laws_eqTree_rv, R_laws_eqNodeS t hl]

def ints (l : List Int) : List (List PV) := l.map fun n => [iv n]

@[simp] theorem ints_len (l : List Int) : (ints l).length = l.length := by simp [ints]

theorem ints_get {l : List Int} {i : Nat} {x : Int} (h : l[i]? = some x) : (ints l)[i]? = some [iv x] := by simp [ints, h]

@[simp] theorem ints_nil : ints [] = [] := rfl

theorem ints_snoc (l : List Int) (x : Int) : ints l ++ [[iv x]] = ints (l ++ [x]) := by simp [ints]

/-- The nodes above a node, from it on, if they are fewer than a number. -/
def anc (t : List Nd) : Nat → Int → Option (List Int)
  | 0, _ => none
  | n + 1, k => if par t k < 0 then some [] else (anc t n (par t k)).map (par t k :: ·)

def way (t : List Nd) (k : Int) : List Int := if 0 ≤ k ∧ k ≤ t.length - 1 then match anc t 32 k with
    | some l => (k :: l).reverse
    | none => []
  else []

theorem room8 {n : Nat} (h : n ≤ 17592186044416) : roomFor 8 n = true := by simp [roomFor]; omega

/-- A row whose first elements have been written anew. -/
def mix {β : Type} (f : Nat → β) (l : List β) (i : Nat) : List β := (List.range i).map f ++ l.drop i

theorem mix_0 {β : Type} {f : Nat → β} {l : List β} : mix f l 0 = l := by simp [mix]

theorem mix_all {β : Type} {f : Nat → β} {l : List β} {i : Nat} (h : i = l.length) : mix f l i = (List.range i).map f := by subst h; simp [mix]

theorem mix_len {β : Type} {f : Nat → β} {l : List β} {i : Nat} (h : i ≤ l.length) : (mix f l i).length = l.length := by simp [mix]; omega

theorem mix_get {β : Type} {f : Nat → β} {l : List β} {i : Nat} : (mix f l i)[i]? = l[i]? := by
  unfold mix
  rw [List.getElem?_append_right (by simp)]
  simp

theorem mix_set {β : Type} {f : Nat → β} {l : List β} {i : Nat} (h : i < l.length) : (mix f l i).set i (f i) = mix f l (i + 1) := by
  unfold mix
  apply List.ext_getElem?
  intro j
  rw [List.getElem?_set]
  simp only [List.length_append, List.length_map, List.length_range, List.length_drop]
  by_cases e : i = j
  · subst e
    rw [if_pos rfl, if_pos (by omega), List.getElem?_append_left (by simp)]
    simp
  · rw [if_neg e]
    by_cases hj : j < i
    · rw [List.getElem?_append_left (by simp; omega), List.getElem?_append_left (by simp; omega)]
      simp [hj, show j < i + 1 by omega]
    · rw [List.getElem?_append_right (by simp; omega), List.getElem?_append_right (by simp; omega)]
      simp
      congr 1
      omega

theorem R_laws_szIntS (es : List (List PV)) (left : Int) (h0 : 0 ≤ left) (h1 : left ≤ 1048576) (hl : es.length ≤ 9223372036854775807) : RUN T k_laws_szIntS [.sl 1 es, iv left] = some ([iv (if left - es.length < 0 then -1 else left - es.length)], []) := by
  refine RUN_W T_laws_szIntS rfl ?_
  have e := w64 (x := left - es.length) (by omega) (by omega)
  simp [k_laws_szIntS_ic, k_laws_szIntS_rv, e]
  refine Br_i (fun h => ?_) (fun h => ?_) <;> simp at h <;> simp [h]
  omega

theorem R_laws_toIntS (l : List Int) (hl : l.length ≤ 1048576) : RUN T k_laws_toIntS [.sl 1 (ints l)] = some ([.own 1 (ints l)], []) := by
  refine RUN_W T_laws_toIntS rfl ?_
  have hr : roomFor 8 l.length = true := room8 (by omega)
  simp [k_laws_toIntS_ic, k_laws_toIntS_rv, hr]
  refine W_loop (fun n st => ∃ i : Nat, i + n = l.length ∧ st.V 0 = .sl 1 (ints l) ∧ st.V 3 = .ref 0 none 0 0 l.length ∧ st.V 4 = iv i ∧ st.ep = 0 ∧ st.S 0 = some (.row 1 (fil (fun n => [iv n]) [iv 0] l i))) ?_ l.length _ ⟨0, by simp [fil_0]⟩
  rintro n st ⟨i, hi, h0, h3, h4, hep, hS⟩
  simp [k_laws_toIntS_b0, h0, h3, h4, hS]
  refine Br_i (fun h => ?_) (fun h => ?_)
  · simp at h
    obtain ⟨x, hx⟩ : ∃ x, l[i]? = some x := ⟨_, List.getElem?_eq_getElem h⟩
    have hw := wS h (by omega : l.length ≤ 9223372036854775807)
    have hg := fil_get (f := fun n => [iv n]) (z := [iv 0]) h
    have hs := fil_set (f := fun n => [iv n]) (z := [iv 0]) hx
    have hx' := ints_get hx
    simp [-getElem?_pos, h0, h3, h4, hS, hep, h, hx', hw, hg, hs, fil_len (Nat.le_of_lt h)]
    exact Rnd_n (n - 1) (by omega) ⟨i + 1, by omega, by simp [h0], by simp [h3], by simp, by simp, by simp⟩
  · simp at h
    have e := fil_all (f := fun n => [iv n]) (z := [iv 0]) (by omega : i = l.length)
    simp [h3, hS, e, ints]

theorem R_laws_eqIntS (l : List Int) (hl : l.length ≤ 9223372036854775807) : RUN T k_laws_eqIntS [.sl 1 (ints l), .sl 1 (ints l)] = some ([bv true], []) := by
  refine RUN_W T_laws_eqIntS rfl ?_
  simp [k_laws_eqIntS_ic, k_laws_eqIntS_rv]
  refine W_loop (fun n st => ∃ i : Nat, i + n = l.length ∧ st.V 0 = .sl 1 (ints l) ∧ st.V 1 = .sl 1 (ints l) ∧ st.V 5 = iv i) ?_ l.length _ ⟨0, by simp⟩
  rintro n st ⟨i, hi, h0, h1, h5⟩
  simp [k_laws_eqIntS_b0, h0, h1, h5]
  refine Br_i (fun h => ?_) (fun h => ?_)
  · simp at h
    obtain ⟨x, hx⟩ : ∃ x, l[i]? = some x := ⟨_, List.getElem?_eq_getElem h⟩
    have hw := wS h hl
    have hx' := ints_get hx
    simp [-getElem?_pos, h0, h1, h5, h, hx', hw]
    exact Rnd_n (n - 1) (by omega) ⟨i + 1, by omega, by simp [h0], by simp [h1], by simp⟩
  · simp

/-- The numbers from one on, so many. -/
def upto (k : Int) (n : Nat) : List Int := (List.range n).map fun (i : Nat) => k + (i : Int)

@[simp] theorem upto_len (k : Int) (n : Nat) : (upto k n).length = n := by simp [upto]

theorem R_laws_markIntS (l : List Int) (k : Int) (h0 : 0 ≤ k) (hk : k + l.length ≤ 9223372036854775806) : RUN T k_laws_markIntS [.own 1 (ints l), iv k] = some ([iv (k + l.length)], [.own 1 (ints (upto k l.length))]) := by
  refine RUN_W T_laws_markIntS rfl ?_
  simp [k_laws_markIntS_ic, k_laws_markIntS_rv]
  refine W_loop (fun n st => ∃ i : Nat, i + n = l.length ∧ st.V 0 = .ref 0 none 0 0 l.length ∧ st.V 1 = iv (k + i) ∧ st.V 5 = iv i ∧ st.ep = 0 ∧ st.S 0 = some (.row 1 (mix (fun j => [iv (k + (j : Int))]) (ints l) i))) ?_ l.length _ ⟨0, by simp [mix_0]⟩
  rintro n st ⟨i, hi, h0, h1, h5, hep, hS⟩
  simp [k_laws_markIntS_b0, h0, h1, h5, hS]
  refine Br_i (fun h => ?_) (fun h => ?_)
  · simp at h
    obtain ⟨x, hx⟩ : ∃ x, l[i]? = some x := ⟨_, List.getElem?_eq_getElem h⟩
    have hw := wS h (by omega : l.length ≤ 9223372036854775807)
    have hw2 : IntKind.i64.wrap (k + (i : Int) + 1) = k + (i : Int) + 1 := w64 (by omega) (by omega)
    have hx' := ints_get hx
    have hg := (mix_get (f := fun (j : Nat) => [iv (k + (j : Int))]) (l := ints l) (i := i)).trans hx'
    have hs := mix_set (f := fun (j : Nat) => [iv (k + (j : Int))]) (l := ints l) (i := i) (by simpa using h)
    have hl := mix_len (f := fun (j : Nat) => [iv (k + (j : Int))]) (l := ints l) (i := i) (by simp; omega)
    simp at hl
    simp [-getElem?_pos, h0, h1, h5, hS, hep, h, hg, hs, hl, hw, hw2]
    exact Rnd_n (n - 1) (by omega) ⟨i + 1, by omega, by simp [h0], by simp; omega, by simp, by simp, by simp⟩
  · simp at h
    have e := mix_all (f := fun (j : Nat) => [iv (k + (j : Int))]) (l := ints l) (i := i) (by simp; omega)
    have e2 : i = l.length := by omega
    subst e2
    simp [hS, e, h1]
    simp [ints, upto, Function.comp_def]

theorem R_laws_heldIntS (k : Int) (n : Nat) (h0 : 0 ≤ k) (hk : k + n ≤ 9223372036854775806) : RUN T k_laws_heldIntS [.sl 1 (ints (upto k n)), iv k] = some ([iv (k + n)], []) := by
  refine RUN_W T_laws_heldIntS rfl ?_
  simp [k_laws_heldIntS_ic, k_laws_heldIntS_rv]
  refine W_loop (fun q st => ∃ i : Nat, i + q = n ∧ st.V 0 = .sl 1 (ints (upto k n)) ∧ st.V 1 = iv (k + i) ∧ st.V 5 = iv i) ?_ n _ ⟨0, by simp⟩
  rintro q st ⟨i, hi, h0, h1, h5⟩
  simp [k_laws_heldIntS_b0, h0, h1, h5]
  refine Br_i (fun h => ?_) (fun h => ?_)
  · simp at h
    have hw := wS h (by omega : n ≤ 9223372036854775807)
    have hw2 : IntKind.i64.wrap (k + (i : Int) + 1) = k + (i : Int) + 1 := w64 (by omega) (by omega)
    have hx' : (ints (upto k n))[i]? = some [iv (k + i)] := ints_get (by simp [upto, h])
    simp [-getElem?_pos, h0, h1, h5, h, hx', hw, hw2]
    exact Rnd_n (q - 1) (by omega) ⟨i + 1, by omega, by simp [h0], by simp; omega, by simp⟩
  · simp at h
    simp [h1]; omega

def mkNd (k : Int) (n : Nat) : List Nd := (List.range n).map fun (i : Nat) => ⟨k + 5 * (i : Int), k + 5 * (i : Int) + 1, k + 5 * (i : Int) + 2, k + 5 * (i : Int) + 3, k + 5 * (i : Int) + 4⟩

theorem R_laws_markNodeS (t : List Nd) (k : Int) (h0 : 0 ≤ k) (hk : k + 5 * t.length ≤ 9223372036854775806) : RUN T k_laws_markNodeS [.own 5 (t.map nd), iv k] = some ([iv (k + 5 * t.length)], [.own 5 ((mkNd k t.length).map nd)]) := by
  refine RUN_W T_laws_markNodeS rfl ?_
  simp [k_laws_markNodeS_ic, k_laws_markNodeS_rv]
  obtain ⟨f, hf⟩ : ∃ f : Nat → List PV, f = fun (j : Nat) => [iv (k + 5 * (j : Int)), iv (k + 5 * (j : Int) + 1), iv (k + 5 * (j : Int) + 2), iv (k + 5 * (j : Int) + 3), iv (k + 5 * (j : Int) + 4)] := ⟨_, rfl⟩
  refine W_loop (fun n st => ∃ i : Nat, i + n = t.length ∧ st.V 0 = .ref 0 none 0 0 t.length ∧ st.V 1 = iv (k + 5 * i) ∧ st.V 5 = iv i ∧ st.ep = 0 ∧ st.S 0 = some (.row 5 (mix f (t.map nd) i))) ?_ t.length _ ⟨0, by simp [mix_0]⟩
  rintro n st ⟨i, hi, h0, h1, h5, hep, hS⟩
  simp [k_laws_markNodeS_b0, h0, h1, h5, hS]
  refine Br_i (fun h => ?_) (fun h => ?_)
  · simp at h
    obtain ⟨x, hx⟩ : ∃ x, t[i]? = some x := ⟨_, List.getElem?_eq_getElem h⟩
    have hw := wS h (by omega : t.length ≤ 9223372036854775807)
    have w1 : IntKind.i64.wrap (k + 5 * (i : Int) + 1) = k + 5 * (i : Int) + 1 := w64 (by omega) (by omega)
    have w2 : IntKind.i64.wrap (k + 5 * (i : Int) + 1 + 1) = k + 5 * (i : Int) + 2 := by rw [w64 (by omega) (by omega)]; omega
    have w3 : IntKind.i64.wrap (k + 5 * (i : Int) + 2 + 1) = k + 5 * (i : Int) + 3 := by rw [w64 (by omega) (by omega)]; omega
    have w4 : IntKind.i64.wrap (k + 5 * (i : Int) + 3 + 1) = k + 5 * (i : Int) + 4 := by rw [w64 (by omega) (by omega)]; omega
    have w5 : IntKind.i64.wrap (k + 5 * (i : Int) + 4 + 1) = k + 5 * ((i : Int) + 1) := by rw [w64 (by omega) (by omega)]; omega
    have hx' : (t.map nd)[i]? = some (nd x) := by simp [hx]
    have hg := (mix_get (f := f) (l := t.map nd) (i := i)).trans hx'
    have hs := mix_set (f := f) (l := t.map nd) (i := i) (by simpa using h)
    have hfi : f i = [iv (k + 5 * (i : Int)), iv (k + 5 * (i : Int) + 1), iv (k + 5 * (i : Int) + 2), iv (k + 5 * (i : Int) + 3), iv (k + 5 * (i : Int) + 4)] := by rw [hf]
    rw [hfi] at hs
    have hl := mix_len (f := f) (l := t.map nd) (i := i) (by simp; omega)
    simp at hl
    simp [-getElem?_pos, h0, h1, h5, hS, hep, h, hg, hs, hl, hw, w1, w2, w3, w4, w5, nd]
    exact Rnd_n (n - 1) (by omega) ⟨i + 1, by omega, by simp [h0], by simp, by simp, by simp, by simp⟩
  · simp at h
    have e := mix_all (f := f) (l := t.map nd) (i := i) (by simp; omega)
    have e2 : i = t.length := by omega
    subst e2
    simp [hS, e, h1]
    simp [mkNd, hf, Function.comp_def, nd]

theorem R_laws_markTree (t : List Nd) (k : Int) (h0 : 0 ≤ k) (hk : k + 5 * t.length ≤ 9223372036854775806) : RUN T k_laws_markTree [.agg [.own 5 (t.map nd)], iv k] = some ([iv (k + 5 * t.length)], [.own 5 ((mkNd k t.length).map nd)]) := by
  refine RUN_W T_laws_markTree rfl ?_
  have e := R_laws_markNodeS t k h0 hk
  simp [k_laws_markTree_ic, k_laws_markTree_rv, e, mkNd]

theorem drop_cons {α : Type} {l : List α} {i : Nat} {x : α} (h : l[i]? = some x) : l.drop i = x :: l.drop (i + 1) := by
  obtain ⟨h1, h2⟩ := List.getElem?_eq_some_iff.mp h
  rw [List.drop_eq_getElem_cons h1, h2]

/-- The nodes that a row goes through. -/
def rt (t : List Nd) (row : List Int) : Nat → Int → Option (List Int)
  | 0, _ => none
  | n + 1, a => match (if 0 ≤ a then t[a.toNat]? else none) with
    | none => none
    | some x => if x.f = -1 then some [a] else match (if 0 ≤ x.f then row[x.f.toNat]? else none) with
      | none => none
      | some y => (rt t row n (if y ≤ x.c then x.l else x.r)).map (a :: ·)

theorem rt_out {t : List Nd} {row : List Int} {n : Nat} {a : Int} (h : a < 0 ∨ (t.length : Int) - 1 < a) : rt t row n a = none := by
  cases n with
  | zero => rfl
  | succ n =>
    rw [rt]
    have : (if 0 ≤ a then t[a.toNat]? else none) = none := by
      split
      · exact List.getElem?_eq_none (by omega)
      · rfl
    rw [this]

theorem rt_leaf {t : List Nd} {row : List Int} {n a : Nat} {x : Nd} (hx : t[a]? = some x) (h : x.f = -1) : rt t row (n + 1) a = some [(a : Int)] := by
  rw [rt]; simp [hx, h]

theorem rt_no {t : List Nd} {row : List Int} {n a : Nat} {x : Nd} (hx : t[a]? = some x) (h : x.f ≠ -1) (h2 : x.f < 0 ∨ (row.length : Int) - 1 < x.f) : rt t row (n + 1) a = none := by
  rw [rt]
  have : (if 0 ≤ x.f then row[x.f.toNat]? else none) = none := by
    split
    · exact List.getElem?_eq_none (by omega)
    · rfl
  simp [hx, h, this]

theorem rt_on {t : List Nd} {row : List Int} {n a f : Nat} {x : Nd} {y : Int} (hx : t[a]? = some x) (h : x.f = f) (hy : row[f]? = some y) : rt t row (n + 1) a = (rt t row n (if y ≤ x.c then x.l else x.r)).map ((a : Int) :: ·) := by
  rw [rt]
  have : x.f ≠ -1 := by omega
  simp [hx, this, h, hy]

def way2 (t : List Nd) (row : List Int) : List Int := (rt t row (t.length + 1) 0).getD []

theorem R_spec_l18Way (t : List Nd) (row : List Int) (hl : t.length ≤ 1048576) (hr : row.length ≤ 1048576) : RUN T k_spec_l18Way [.agg [.sl 5 (t.map nd)], .sl 1 (ints row)] = some ([.own 1 (ints (way2 t row))], []) := by
  refine RUN_W T_spec_l18Way rfl ?_
  simp [k_spec_l18Way_ic, k_spec_l18Way_rv]
  obtain ⟨r, hrr⟩ : ∃ r, r = rt t row (t.length + 1) 0 := ⟨_, rfl⟩
  unfold way2
  rw [← hrr]
  refine W_loop (fun n st => ∃ i : Nat, i + n = t.length + 1 ∧ ∃ (a : Int) (m : List Int) (o e : Nat), m.length = i ∧ (rt t row n a).map (m ++ ·) = r ∧ st.V 1 = .sl 1 (ints row) ∧ st.V 2 = .ptr 0 none 0 0 0 ∧ st.V 5 = .ref o none e 0 m.length ∧ st.V 6 = iv a ∧ st.V 7 = iv i ∧ 0 < o ∧ o < st.nx ∧ st.S o = some (.row 1 (ints m)) ∧ st.S 0 = some (.box [.sl 5 (t.map nd)])) ?_ (t.length + 1) _ ⟨0, by simp, 0, [], 1, 0, by simp [hrr]⟩
  rintro n st ⟨i, hi, a, m, o, e, hmi, hm, h1, h2, h5, h6, h7, ho, hox, hSo, hS⟩
  simp [k_spec_l18Way_b0, h1, h2, h5, h6, h7, hS]
  refine Br_i (fun h => ?_) (fun h => ?_)
  · simp at h
    obtain ⟨q, rfl⟩ : ∃ q, n = q + 1 := ⟨n - 1, by omega⟩
    have hw := w64 (x := (t.length : Int) - 1) (by omega) (by omega)
    have hwi := w64 (x := (i : Int) + 1) (by omega) (by omega)
    have hwr := w64 (x := (row.length : Int) - 1) (by omega) (by omega)
    simp [h1, h2, h5, h6, h7, hS, hw]
    refine Br_i (fun h3 => ?_) (fun h3 => ?_)
    · simp at h3
      rw [rt_out h3] at hm
      simp at hm
      simp [← hm]
    · have h3' : 0 ≤ a ∧ a ≤ (t.length : Int) - 1 := by simpa using h3
      obtain ⟨a, rfl⟩ : ∃ a' : Nat, a = a' := ⟨a.toNat, by omega⟩
      obtain ⟨x, hx⟩ : ∃ x, t[a]? = some x := ⟨_, List.getElem?_eq_getElem (by omega)⟩
      have z1 := fr hox
      have z2 := fr ho
      have z3 := fr (by omega : 0 < st.nx)
      have hr8 := room8 (n := m.length + 1) (by omega)
      simp [-getElem?_pos, h1, h2, h5, h6, h7, hS, hSo, z1, z2, z3, hx, nd, hr8, ints_snoc, hwr]
      refine Br_i (fun h4 => ?_) (fun h4 => ?_)
      · simp at h4
        rw [rt_leaf hx h4] at hm
        simp at hm
        simp [← hm]
      · simp at h4
        simp [-getElem?_pos, h1, h2, h5, h6, h7, hS, hSo, z1, z2, z3, hx, hr8, ints_snoc, hwr]
        refine Br_i (fun h8 => ?_) (fun h8 => ?_)
        · simp at h8
          rw [rt_no hx h4 h8] at hm
          simp at hm
          simp [← hm]
        · have h8' : 0 ≤ x.f ∧ x.f ≤ (row.length : Int) - 1 := by simpa using h8
          obtain ⟨f, hf⟩ : ∃ f : Nat, x.f = f := ⟨x.f.toNat, by omega⟩
          obtain ⟨y, hy⟩ : ∃ y, row[f]? = some y := ⟨_, List.getElem?_eq_getElem (by omega)⟩
          have hfl : f < row.length := by omega
          rw [rt_on hx hf hy] at hm
          have hy' := ints_get hy
          simp [-getElem?_pos, h1, h2, h5, h6, h7, hS, hSo, z1, z2, z3, hr8, ints_snoc, hwr, hf, hy', hfl, hwi]
          refine Br_i (fun b0 => ?_) (fun b0 => ?_) <;> (try simp at b0) <;> simp [-getElem?_pos, b0, h1, h2, h5, h6, h7, hS, hSo, z1, z2, z3, hf, hwi]
          all_goals
            refine Rnd_n q (by omega) ⟨i + 1, by omega, _, m ++ [(a : Int)], st.nx + 2, st.ep, by simp [hmi], ?_, by simp [h1], by simp [h2], by simp, by simp; rfl, by simp, by omega, by simp, by simp, by simp [z2, z3, hS]⟩
            rw [← hm]
            first | rw [if_pos b0] | rw [if_neg (by omega)]
            simp [Function.comp_def]
  · simp at h
    obtain rfl : n = 0 := by omega
    simp [rt] at hm
    simp [← hm]

theorem R_impl_route (t : List Nd) (row : List Int) (hl : t.length ≤ 1048576) (hr : row.length ≤ 1048576) : RUN T k_impl_route [.agg [.sl 5 (t.map nd)], .sl 1 (ints row)] = some ([.own 1 (ints (way2 t row))], []) := by
  refine RUN_W T_impl_route rfl ?_
  have hw1 := w64 (x := (t.length : Int) + 1) (by omega) (by omega)
  simp [k_impl_route_ic, k_impl_route_rv, hw1]
  obtain ⟨r, hrr⟩ : ∃ r, r = rt t row (t.length + 1) 0 := ⟨_, rfl⟩
  unfold way2
  rw [← hrr]
  refine W_loop (fun n st => ∃ i : Nat, i + n = t.length + 1 ∧ ∃ (a : Int) (m : List Int) (o e : Nat), m.length = i ∧ (rt t row n a).map (m ++ ·) = r ∧ st.V 1 = .sl 1 (ints row) ∧ st.V 2 = .ptr 0 none 0 0 0 ∧ st.V 5 = .ref o none e 0 m.length ∧ st.V 6 = iv a ∧ st.V 13 = iv i ∧ st.V 12 = iv ((t.length : Int) + 1) ∧ 0 < o ∧ o < st.nx ∧ st.S o = some (.row 1 (ints m)) ∧ st.S 0 = some (.box [.sl 5 (t.map nd)])) ?_ (t.length + 1) _ ⟨0, by simp, 0, [], 1, 0, by simp [hrr]⟩
  rintro n st ⟨i, hi, a, m, o, e, hmi, hm, h1, h2, h5, h6, h13, h12, ho, hox, hSo, hS⟩
  simp [k_impl_route_b0, h13, h12]
  refine Br_i (fun h => ?_) (fun h => ?_)
  · simp at h
    obtain ⟨q, rfl⟩ : ∃ q, n = q + 1 := ⟨n - 1, by omega⟩
    have hw := w64 (x := (t.length : Int) - 1) (by omega) (by omega)
    have hwi := w64 (x := (i : Int) + 1) (by omega) (by omega)
    have hwr := w64 (x := (row.length : Int) - 1) (by omega) (by omega)
    simp [h1, h2, h5, h6, hS, hw]
    refine Br_i (fun h3 => ?_) (fun h3 => ?_)
    · simp at h3
      rw [rt_out h3] at hm
      simp at hm
      simp [← hm]
    · have h3' : 0 ≤ a ∧ a ≤ (t.length : Int) - 1 := by simpa using h3
      obtain ⟨a, rfl⟩ : ∃ a' : Nat, a = a' := ⟨a.toNat, by omega⟩
      obtain ⟨x, hx⟩ : ∃ x, t[a]? = some x := ⟨_, List.getElem?_eq_getElem (by omega)⟩
      have z1 := fr hox
      have z2 := fr ho
      have z3 := fr (by omega : 0 < st.nx)
      have hr8 := room8 (n := m.length + 1) (by omega)
      simp [-getElem?_pos, h1, h2, h5, h6, hS, hSo, z1, z2, z3, hx, nd, hr8, ints_snoc, hwr]
      refine Br_i (fun h4 => ?_) (fun h4 => ?_)
      · simp at h4
        rw [rt_leaf hx h4] at hm
        simp at hm
        simp [← hm]
      · simp at h4
        simp [-getElem?_pos, h1, h2, h5, h6, hS, hSo, z1, z2, z3, hx, hr8, ints_snoc, hwr]
        refine Br_i (fun h8 => ?_) (fun h8 => ?_)
        · simp at h8
          rw [rt_no hx h4 h8] at hm
          simp at hm
          simp [← hm]
        · have h8' : 0 ≤ x.f ∧ x.f ≤ (row.length : Int) - 1 := by simpa using h8
          obtain ⟨f, hf⟩ : ∃ f : Nat, x.f = f := ⟨x.f.toNat, by omega⟩
          obtain ⟨y, hy⟩ : ∃ y, row[f]? = some y := ⟨_, List.getElem?_eq_getElem (by omega)⟩
          have hfl : f < row.length := by omega
          rw [rt_on hx hf hy] at hm
          have hy' := ints_get hy
          simp [-getElem?_pos, h1, h2, h5, h6, h13, h12, hS, hSo, z1, z2, z3, hr8, ints_snoc, hwr, hf, hy', hfl, hwi]
          refine Br_i (fun b0 => ?_) (fun b0 => ?_) <;> (try simp at b0) <;> simp [-getElem?_pos, b0, h1, h2, h5, h6, h13, h12, hS, hSo, z1, z2, z3, hf, hwi]
          all_goals
            refine Rnd_n q (by omega) ⟨i + 1, by omega, _, m ++ [(a : Int)], st.nx + 2, st.ep, by simp [hmi], ?_, by simp [h1], by simp [h2], by simp, by simp; rfl, by simp, by simp [h12], by omega, by simp, by simp, by simp [z2, z3, hS]⟩
            rw [← hm]
            first | rw [if_pos b0] | rw [if_neg (by omega)]
            simp [Function.comp_def]
  · simp at h
    obtain rfl : n = 0 := by omega
    simp [rt] at hm
    simp [← hm]

theorem rt_len (t : List Nd) (row : List Int) : ∀ (n : Nat) (a : Int) (l : List Int), rt t row n a = some l → l.length ≤ n ∧ l ≠ [] ∧ ∀ k ∈ l, 0 ≤ k ∧ k < t.length
  | 0, _, _, h => by cases h
  | n + 1, a, l, h => by
    rw [rt] at h
    have ha : ∀ x, (if 0 ≤ a then t[a.toNat]? else none) = some x → 0 ≤ a ∧ a < t.length := by
      intro x hx
      split at hx
      · have := (List.getElem?_eq_some_iff.mp hx).1; omega
      · cases hx
    split at h
    · cases h
    · rename_i x hx
      have hax := ha x hx
      split at h
      · cases h; simpa using hax
      · split at h
        · cases h
        · simp only [Option.map_eq_some_iff] at h
          obtain ⟨m, hm, rfl⟩ := h
          have := rt_len t row n _ m hm
          refine ⟨by simp; omega, by simp, fun k hk => ?_⟩
          rcases List.mem_cons.mp hk with e | e
          · subst e; exact hax
          · exact this.2.2 k e

theorem way2_len (t : List Nd) (row : List Int) : (way2 t row).length ≤ t.length + 1 ∧ ∀ k ∈ way2 t row, 0 ≤ k ∧ k < t.length := by
  unfold way2
  cases h : rt t row (t.length + 1) 0 with
  | none => simp
  | some l => have := rt_len t row _ _ l h; exact ⟨this.1, this.2.2⟩

def inI (n : Int) : Prop := -9223372036854775808 ≤ n ∧ n ≤ 9223372036854775807

/-- The range of a feature's values along a way. -/
def box (t : List Nd) (f : Int) : List Int → Int → Int → Int × Int
  | a :: b :: r, lo, hi => match t[a.toNat]? with
    | none => (lo, hi)
    | some x => if x.f = f then (if x.l = b then box t f (b :: r) lo (min hi x.c) else if x.c = 9223372036854775807 then box t f (b :: r) lo hi else box t f (b :: r) (max lo (x.c + 1)) hi) else box t f (b :: r) lo hi
  | _, lo, hi => (lo, hi)

def wfN (n : Nd) : Prop := inI n.f ∧ inI n.c ∧ inI n.l ∧ inI n.r ∧ inI n.v

theorem fidx_neg {α : Type} {p : α → Bool} {l : List α} : decide (0 ≤ fidx p l) = l.any p := by
  unfold fidx
  cases h : l.findIdx? p with
  | none =>
    rw [List.findIdx?_eq_none_iff] at h
    simp
    exact fun x hx => h x hx
  | some i =>
    obtain ⟨h1, h2, _⟩ := List.findIdx?_eq_some_iff_getElem.mp h
    simp
    exact ⟨_, List.getElem_mem h1, h2⟩

def within (n a b : Int) : Bool := decide (a ≤ n) && decide (n ≤ b)

theorem snoc_all {α : Type} {P : Nat → α → Prop} {l : List α} {i : Nat} {x : α} (h : ∀ (j : Nat) (x : α), j < i → l[j]? = some x → P j x) (hi : l[i]? = some x) (hp : P i x) : ∀ (j : Nat) (x : α), j < i + 1 → l[j]? = some x → P j x := by
  intro j y hj hy
  by_cases e : j = i
  · subst e; rw [hi] at hy; cases hy; exact hp
  · exact h j y (by omega) hy

/-- A row within rows: a slice's own, or one that is read. -/
def cel (q : Bool) (l : List Int) : PV := if q then .own 1 (ints l) else .sl 1 (ints l)

@[simp] theorem fz_cel (q : Bool) (l : List Int) : fz (cel q l) = .sl 1 (ints l) := by cases q <;> simp [cel]

def rws (q : Bool) (L : List (List Int)) : List (List PV) := L.map fun l => [cel q l]

@[simp] theorem rws_len (q : Bool) (L : List (List Int)) : (rws q L).length = L.length := by simp [rws]

theorem rws_get {q : Bool} {L : List (List Int)} {i : Nat} {l : List Int} (h : L[i]? = some l) : (rws q L)[i]? = some [cel q l] := by simp [rws, h]

theorem yv_gu {s : St} {d : Option Dst} {op : IOp} {g : Opd} {v : Bool} {x : PV} : (yv s ⟨d, op, some (g, v)⟩ = some x) = (Ob' (guardP v (g.get s)) fun t => Br t (WI (fun _ => []) (fun _ _ => none) op s (fun y _ => y = x)) (PV.v Go.undef = x)) := by
  simp only [yv, evG_some, WI, Ob', Br, Option.map_eq_some_iff, Option.bind_eq_some_iff, eq_iff_iff]
  constructor
  · rintro ⟨⟨y, s'⟩, ⟨t, h1, h2⟩, h3⟩
    refine ⟨t, h1, fun ht => ?_, fun ht => ?_⟩ <;> subst ht
    · exact ⟨y, s', by simpa using h2, h3⟩
    · simp at h2; obtain ⟨rfl, rfl⟩ := h2; exact h3
  · rintro ⟨t, h1, h2, h3⟩
    cases t with
    | true => obtain ⟨y, s', h4, h5⟩ := h2 rfl; exact ⟨(y, s'), ⟨true, h1, by simpa using h4⟩, h5⟩
    | false => exact ⟨_, ⟨false, h1, rfl⟩, h3 rfl⟩

@[simp] theorem chkTodo_g {s : St} {d : Option Dst} {op : IOp} {g : Opd} {v : Bool} {x : PV} {n : Nat} {r : List (IOper × PV × Nat)} : chkTodo s ((⟨d, op, some (g, v)⟩, x, n + 1) :: r) = ((Ob' (guardP v (g.get s)) fun t => Br t (WI (fun _ => []) (fun _ _ => none) op s (fun y _ => y = x)) (PV.v Go.undef = x)) ∧ chkTodo s r) := by
  simp only [chkTodo, yv_gu]

@[simp] theorem chkPast_g {V E : Nat → PV} {d : Option Dst} {op : IOp} {g : Opd} {v : Bool} {x : PV} {n : Nat} {s : St} {ms : List St} : chkPast V E ⟨d, op, some (g, v)⟩ x (n + 1) (s :: ms) = ((Ob' (guardP v (g.get { s with V := V, E := E })) fun t => Br t (WI (fun _ => []) (fun _ _ => none) op { s with V := V, E := E } (fun y _ => y = x)) (PV.v Go.undef = x)) ∧ chkPast V E ⟨d, op, some (g, v)⟩ x n ms) := by
  simp only [chkPast, yv_gu]

def lens (L : List (List Int)) : Nat := (L.map List.length).sum

def tot (L : List (List Int)) : Nat := L.length + lens L

theorem lens_cons (l : List Int) (L : List (List Int)) : lens (l :: L) = l.length + lens L := by simp [lens]

theorem lens_mem {L : List (List Int)} : ∀ {l : List Int}, l ∈ L → l.length ≤ lens L := by
  induction L with
  | nil => simp
  | cons a L ih =>
    intro l h
    rw [lens_cons]
    rcases List.mem_cons.mp h with e | e
    · subst e; omega
    · have := ih e; omega

theorem R_laws_szIntSS (q : Bool) (L : List (List Int)) (left : Int) (h0 : 0 ≤ left) (h1 : left ≤ 1048576) (hl : L.length ≤ 9223372036854775807) (hll : ∀ l ∈ L, l.length ≤ 9223372036854775807) : RUN T k_laws_szIntSS [.sl 1 (rws q L), iv left] = some ([iv (if left - tot L < 0 then -1 else left - tot L)], []) := by
  refine RUN_W T_laws_szIntSS rfl ?_
  have e := w64 (x := left - L.length) (by omega) (by omega)
  have ht : tot L = L.length + lens L := rfl
  simp [k_laws_szIntSS_ic, k_laws_szIntSS_rv, e]
  refine Br_i (fun h => ?_) (fun h => ?_)
  · simp at h
    rw [if_pos (by omega)]
    simp
  · simp at h
    simp
    refine W_loop (fun n st => ∃ i : Nat, i + n = L.length ∧ ∃ r : Int, 0 ≤ r ∧ r ≤ 1048576 ∧ r - lens (L.drop i) = left - tot L ∧ st.V 0 = .sl 1 (rws q L) ∧ st.V 1 = iv r ∧ st.V 5 = iv i) ?_ L.length _ ⟨0, by omega, left - L.length, by omega, by omega, by simp; omega, by simp, by simp, by simp⟩
    rintro n st ⟨i, hi, r, hr0, hr1, hr, v0, v1, v5⟩
    simp [k_laws_szIntSS_b0, v0, v5]
    refine Br_i (fun h => ?_) (fun h => ?_)
    · simp at h
      obtain ⟨l, hx⟩ : ∃ l, L[i]? = some l := ⟨_, List.getElem?_eq_getElem h⟩
      have hx' := rws_get (q := q) hx
      have hw := wS h hl
      have hz := R_laws_szIntS (ints l) r hr0 hr1 (by simpa using hll l (List.mem_of_getElem? hx))
      rw [ints_len] at hz
      rw [drop_cons hx, lens_cons] at hr
      by_cases d : r - l.length < 0
      · rw [if_pos d] at hz
        rw [if_pos (by omega)]
        simp [-getElem?_pos, v0, v1, v5, hx', hz, h]
      · rw [if_neg d] at hz
        have d' : ¬ (r - l.length < 0) := d
        simp [-getElem?_pos, v0, v1, v5, hx', hz, h, hw, d']
        exact Rnd_n (n - 1) (by omega) ⟨i + 1, by omega, r - l.length, by omega, by omega, by omega, by simp [v0], by simp, by simp⟩
    · simp at h
      rw [List.drop_eq_nil_of_le (by omega)] at hr
      have : lens [] = 0 := rfl
      rw [if_neg (by omega)]
      simp [v1]
      omega

theorem R_laws_toIntSS (q : Bool) (L : List (List Int)) (hl : L.length ≤ 1048576) (hll : ∀ l ∈ L, l.length ≤ 1048576) : RUN T k_laws_toIntSS [.sl 1 (rws q L)] = some ([.own 1 (rws true L)], []) := by
  refine RUN_W T_laws_toIntSS rfl ?_
  have hr : roomFor 24 L.length = true := by simp [roomFor]; omega
  simp [k_laws_toIntSS_ic, k_laws_toIntSS_rv, hr]
  refine W_loop (fun n st => ∃ i : Nat, i + n = L.length ∧ st.V 0 = .sl 1 (rws q L) ∧ st.V 3 = .ref 0 none 0 0 L.length ∧ st.V 4 = iv i ∧ 0 < st.nx ∧ st.S 0 = some (.row 1 (fil (fun l => [cel true l]) [.own 1 []] L i))) ?_ L.length _ ⟨0, by simp [fil_0]⟩
  rintro n st ⟨i, hi, v0, v3, v4, hnx, hS⟩
  simp [k_laws_toIntSS_b0, v0, v3, v4, hS]
  have z := fr hnx
  refine Br_i (fun h => ?_) (fun h => ?_)
  · simp at h
    obtain ⟨l, hx⟩ : ∃ l, L[i]? = some l := ⟨_, List.getElem?_eq_getElem h⟩
    have hw := wS h (by omega : L.length ≤ 9223372036854775807)
    have hg := fil_get (f := fun l => [cel true l]) (z := [.own 1 []]) h
    have hs := fil_set (f := fun l => [cel true l]) (z := [.own 1 []]) hx
    have hx' := rws_get (q := q) hx
    have hz := R_laws_toIntS l (hll l (List.mem_of_getElem? hx))
    have hc : cel true l = .own 1 (ints l) := rfl
    rw [hc] at hs
    simp [-getElem?_pos, v0, v3, v4, hS, z, h, hx', hw, hg, hs, hz, fil_len (Nat.le_of_lt h)]
    exact Rnd_n (n - 1) (by omega) ⟨i + 1, by omega, by simp [v0], by simp [v3], by simp, by simp, by simp [z]⟩
  · simp at h
    have e := fil_all (f := fun l => [cel true l]) (z := [.own 1 []]) (by omega : i = L.length)
    simp [v3, hS, e, rws]

theorem R_laws_eqIntSS (p q : Bool) (L : List (List Int)) (hl : L.length ≤ 9223372036854775807) (hll : ∀ l ∈ L, l.length ≤ 9223372036854775807) : RUN T k_laws_eqIntSS [.sl 1 (rws p L), .sl 1 (rws q L)] = some ([bv true], []) := by
  refine RUN_W T_laws_eqIntSS rfl ?_
  simp [k_laws_eqIntSS_ic, k_laws_eqIntSS_rv]
  refine W_loop (fun n st => ∃ i : Nat, i + n = L.length ∧ st.V 0 = .sl 1 (rws p L) ∧ st.V 1 = .sl 1 (rws q L) ∧ st.V 5 = iv i) ?_ L.length _ ⟨0, by simp⟩
  rintro n st ⟨i, hi, v0, v1, v5⟩
  simp [k_laws_eqIntSS_b0, v0, v1, v5]
  refine Br_i (fun h => ?_) (fun h => ?_)
  · simp at h
    obtain ⟨l, hx⟩ : ∃ l, L[i]? = some l := ⟨_, List.getElem?_eq_getElem h⟩
    have hw := wS h hl
    have hx1 := rws_get (q := p) hx
    have hx2 := rws_get (q := q) hx
    have hz := R_laws_eqIntS l (hll l (List.mem_of_getElem? hx))
    simp [-getElem?_pos, v0, v1, v5, h, hx1, hx2, hw, hz]
    exact Rnd_n (n - 1) (by omega) ⟨i + 1, by omega, by simp [v0], by simp [v1], by simp⟩
  · simp at h
    simp

theorem wf64 {n : Int} (h : (Lit.int .i64 n).wf = true) : -9223372036854775808 ≤ n ∧ n ≤ 9223372036854775807 := bounds_i64 h

theorem rows_of {α : Type} {f : α → List PV} {p : α → Prop} {tys : List TY} (h : ∀ cs, ShpL tys cs → ∃ a, f a = cs ∧ p a) : ∀ {es : List (List PV)}, (∀ cs ∈ es, ShpL tys cs) → ∃ l : List α, l.map f = es ∧ ∀ a ∈ l, p a
  | [], _ => ⟨[], rfl, by simp⟩
  | e :: es, hs => by
    obtain ⟨a, ha, hp⟩ := h e (hs e (by simp))
    obtain ⟨l, hl, hq⟩ := rows_of h (es := es) (fun cs hc => hs cs (by simp [hc]))
    refine ⟨a :: l, by simp [ha, hl], fun b hb => ?_⟩
    rcases List.mem_cons.mp hb with e | e
    · subst e; exact hp
    · exact hq b e

abbrev tyNd : List TY := [.int .i64, .int .i64, .int .i64, .int .i64, .int .i64]

theorem shp_nd (cs : List PV) (h : ShpL tyNd cs) : ∃ n : Nd, nd n = cs ∧ wfN n := by
  simp only [ShpL, Shp] at h
  obtain ⟨_, _, rfl, ⟨a, rfl, h1⟩, _, _, rfl, ⟨b, rfl, h2⟩, _, _, rfl, ⟨c, rfl, h3⟩, _, _, rfl, ⟨d, rfl, h4⟩, _, _, rfl, ⟨e, rfl, h5⟩, rfl⟩ := h
  exact ⟨⟨a, b, c, d, e⟩, rfl, wf64 h1, wf64 h2, wf64 h3, wf64 h4, wf64 h5⟩

theorem shp_tree {c : PV} (h : ShpA true [.sl tyNd] c) : ∃ t : List Nd, c = .agg [.sl 5 (t.map nd)] ∧ t.length ≤ 9223372036854775807 ∧ ∀ n ∈ t, wfN n := by
  obtain ⟨cs, rfl, h⟩ := h
  simp only [ShpL, Shp] at h
  obtain ⟨_, _, rfl, ⟨es, rfl, h1, h2⟩, rfl⟩ := h
  obtain ⟨t, rfl, hp⟩ := rows_of shp_nd h2
  simp [maxLen] at h1
  exact ⟨t, rfl, by omega, hp⟩

theorem shp_intL (cs : List PV) (h : ShpL [.int .i64] cs) : ∃ n : Int, [iv n] = cs ∧ inI n := by
  simp only [ShpL, Shp] at h
  obtain ⟨_, _, rfl, ⟨a, rfl, h1⟩, rfl⟩ := h
  exact ⟨a, rfl, wf64 h1⟩

theorem shp_intsL (cs : List PV) (h : ShpL [.sl [.int .i64]] cs) : ∃ l : List Int, [cel false l] = cs ∧ l.length ≤ 9223372036854775807 := by
  simp only [ShpL, Shp] at h
  obtain ⟨_, _, rfl, ⟨es, rfl, h1, h2⟩, rfl⟩ := h
  have h2' : ∀ cs ∈ es, ShpL [.int .i64] cs := h2
  obtain ⟨l, hl, _⟩ := rows_of (f := fun n : Int => [iv n]) (tys := [.int .i64]) shp_intL h2'
  subst hl
  simp [maxLen] at h1
  exact ⟨l, rfl, by omega⟩

theorem shp_int {c : PV} (h : ShpA false [.int .i64] c) : ∃ n : Int, c = iv n ∧ -9223372036854775808 ≤ n ∧ n ≤ 9223372036854775807 := by
  simp only [ShpA, Bool.false_eq_true, if_false, ShpL, Shp] at h
  obtain ⟨c', r, e, ⟨n, hn, hw⟩, hr⟩ := h
  simp only [List.cons.injEq] at e
  exact ⟨n, e.1.trans hn, wf64 hw⟩

theorem of_all {P : Program} {l : List TypeId} (h : (l.all fun t => P.readableRec t && decide (t < P.types.size)) = true) : ∀ t ∈ l, P.readableRec t = true ∧ t < P.types.size := by
  intro t ht
  have := List.all_eq_true.mp h t ht
  simpa using this

theorem args3 {p q r : Bool × List TY} {pvs : List PV} (h : All2 (fun p c => ShpA p.1 p.2 c) [p, q, r] pvs) : ∃ a b c, pvs = [a, b, c] ∧ ShpA p.1 p.2 a ∧ ShpA q.1 q.2 b ∧ ShpA r.1 r.2 c := by
  cases h with
  | cons h1 t => cases t with
    | cons h2 t => cases t with
      | cons h3 t => cases t with
        | nil => exact ⟨_, _, _, rfl, h1, h2, h3⟩

/-- The bytes that a source draws from. -/
def byts (B : List Int) : List (List PV) := B.map fun n => [.v (.int .u8 n)]

@[simp] theorem byts_len (B : List Int) : (byts B).length = B.length := by simp [byts]

/-- The end of a call of which something is told. -/
def FinG (rv : List RV) (io : Nat) (G : List PV × List PV → Prop) (_ : Dm rv) (_ : Dm G) (e : Ex) (s : St) : Prop := (e = .normal ∨ e = .ret) ∧ ∃ r, finishEv ⟨[], rv, .skip⟩ io s = some r ∧ G r

@[simp] theorem FinG_n {rv : List RV} {io : Nat} {G : List PV × List PV → Prop} {s : St} : FinG rv io G ⟨⟩ ⟨⟩ .normal s = ∃ r, finishEv ⟨[], rv, .skip⟩ io s = some r ∧ G r := by simp [FinG]

@[simp] theorem FinG_r {rv : List RV} {io : Nat} {G : List PV × List PV → Prop} {s : St} : FinG rv io G ⟨⟩ ⟨⟩ .ret s = ∃ r, finishEv ⟨[], rv, .skip⟩ io s = some r ∧ G r := by simp [FinG]

def strs (l : List ByteArray) : List (List PV) := l.map fun s => [.v (.string s)]

@[simp] theorem strs_len (l : List ByteArray) : (strs l).length = l.length := by simp [strs]

def celT (q : Bool) (t : List Nd) : PV := if q then .own 5 (t.map nd) else .sl 5 (t.map nd)

@[simp] theorem fz_celT (q : Bool) (t : List Nd) : fz (celT q t) = .sl 5 (t.map nd) := by cases q <;> simp [celT]

def trs (q : Bool) (M : List (List Nd)) : List (List PV) := M.map fun t => [celT q t]

@[simp] theorem trs_len (q : Bool) (M : List (List Nd)) : (trs q M).length = M.length := by simp [trs]

def rwS (q : Bool) (l : List ByteArray) : PV := if q then .own 1 (strs l) else .sl 1 (strs l)

@[simp] theorem fz_rwS (q : Bool) (l : List ByteArray) : fz (rwS q l) = .sl 1 (strs l) := by cases q <;> simp [rwS]

def rwsS (q : Bool) (L : List (List ByteArray)) : List (List PV) := L.map fun l => [rwS q l]

@[simp] theorem rwsS_len (q : Bool) (L : List (List ByteArray)) : (rwsS q L).length = L.length := by simp [rwsS]

def hasI (l : List Int) (x : Int) : Bool := l.any fun y => decide (y = x)

theorem R_slices_Index_int (l : List Int) (x : Int) (hl : l.length ≤ 9223372036854775807) : RUN T k_slices_Index___int_int_ [.sl 1 (ints l), iv x] = some ([iv (fidx (fun y => decide (y = x)) l)], []) := by
  refine RUN_W T_slices_Index___int_int_ rfl ?_
  simp [-getElem?_pos, k_slices_Index___int_int__ic, k_slices_Index___int_int__rv]
  refine W_loop (fun n st => ∃ i : Nat, i + n = l.length ∧ (∀ (j : Nat) (y : Int), j < i → l[j]? = some y → decide (y = x) = false) ∧ st.V 0 = .sl 1 (ints l) ∧ st.V 1 = iv x ∧ st.V 7 = iv l.length ∧ st.V 8 = iv i) ?_ l.length _ ⟨0, by simp⟩
  rintro n st ⟨i, hi, hj, v0, v1, v7, v8⟩
  simp [k_slices_Index___int_int__b0, v7, v8]
  refine Br_i (fun h => ?_) (fun h => ?_)
  · simp at h
    obtain ⟨y, hy⟩ : ∃ y, l[i]? = some y := ⟨_, List.getElem?_eq_getElem h⟩
    have hy' := ints_get hy
    have hw := wS h hl
    by_cases e : y = x
    · subst e
      have := fidx_some (p := fun z => decide (z = y)) hy (by simp) hj
      simp [-getElem?_pos, v0, v1, v7, v8, hy', h, this]
    · have e' : ¬ x = y := fun h => e h.symm
      simp [-getElem?_pos, v0, v1, v7, v8, hy', h, hw, e']
      exact Rnd_n (n - 1) (by omega) ⟨i + 1, by omega, snoc_all (P := fun _ y => decide (y = x) = false) hj hy (by simpa using e), by simp [v0], by simp [v1], by simp [v7], by simp⟩
  · simp at h
    have := fidx_none (p := fun z => decide (z = x)) (l := l) fun j y h1 h2 => hj j y (by omega) h2
    simp [-getElem?_pos, this]

theorem R_slices_Contains_int (l : List Int) (x : Int) (hl : l.length ≤ 9223372036854775807) : RUN T k_slices_Contains___int_int_ [.sl 1 (ints l), iv x] = some ([bv (hasI l x)], []) := by
  refine RUN_W T_slices_Contains___int_int_ rfl ?_
  have h := R_slices_Index_int l x hl
  have e := fidx_neg (p := fun y => decide (y = x)) (l := l)
  have e2 : hasI l x = l.any fun y => decide (y = x) := rfl
  rw [e2, ← e]
  simp [-getElem?_pos, k_slices_Contains___int_int__ic, k_slices_Contains___int_int__rv, h]

/-- The numbers below one that are meant. -/
def picks (p : Nat → Bool) (i : Nat) : List Int := ((List.range i).filter p).map fun (j : Nat) => (j : Int)

@[simp] theorem picks_0 (p : Nat → Bool) : picks p 0 = [] := rfl

theorem picks_yes {p : Nat → Bool} {i : Nat} (h : p i = true) : picks p (i + 1) = picks p i ++ [(i : Int)] := by simp [picks, List.range_succ, h]

theorem picks_no {p : Nat → Bool} {i : Nat} (h : p i = false) : picks p (i + 1) = picks p i := by simp [picks, List.range_succ, h]

theorem picks_len (p : Nat → Bool) (i : Nat) : (picks p i).length ≤ i := by
  have := List.length_filter_le p (List.range i)
  simpa [picks] using this

/-- Does a row go through a node? -/
def thru (t : List Nd) (k : Int) (L : List (List Int)) (i : Nat) : Bool := match L[i]? with
  | none => false
  | some r => hasI (way2 t r) k

theorem thru_eq {t : List Nd} {k : Int} {L : List (List Int)} {i : Nat} {r : List Int} (h : L[i]? = some r) : thru t k L i = hasI (way2 t r) k := by simp [thru, h]

def rowsAt (t : List Nd) (k : Int) (L : List (List Int)) : List Int := picks (thru t k L) L.length

theorem R_impl_RowsAt (q : Bool) (t : List Nd) (k : Int) (L : List (List Int)) (hl : t.length ≤ 1048576) (hL : L.length ≤ 1048576) (hr : ∀ r ∈ L, r.length ≤ 1048576) : RUN T k_impl_RowsAt [.agg [.sl 5 (t.map nd)], iv k, .sl 1 (rws q L)] = some ([.own 1 (ints (rowsAt t k L))], []) := by
  refine RUN_W T_impl_RowsAt rfl ?_
  simp [-getElem?_pos, k_impl_RowsAt_ic, k_impl_RowsAt_rv]
  refine W_loop (fun n st => ∃ (i o e : Nat), i + n = L.length ∧ st.V 1 = iv k ∧ st.V 3 = .ptr 0 none 0 0 0 ∧ st.V 7 = .ref o none e 0 (picks (thru t k L) i).length ∧ st.V 11 = .sl 1 (rws q L) ∧ st.V 12 = iv L.length ∧ st.V 13 = iv i ∧ 0 < o ∧ o < st.nx ∧ st.S o = some (.row 1 (ints (picks (thru t k L) i))) ∧ st.S 0 = some (.box [.sl 5 (t.map nd)])) ?_ L.length _ ⟨0, 1, 0, by simp⟩
  rintro n st ⟨i, o, e, hi, v1, v3, v7, v11, v12, v13, ho, hox, hSo, hS⟩
  simp [k_impl_RowsAt_b0, v12, v13]
  refine Br_i (fun h => ?_) (fun h => ?_)
  · simp at h
    obtain ⟨r, hrr⟩ : ∃ r, L[i]? = some r := ⟨_, List.getElem?_eq_getElem h⟩
    have hr' := rws_get (q := q) hrr
    have hw := wS h (by omega : L.length ≤ 9223372036854775807)
    have hR := R_impl_route t r hl (hr r (List.mem_of_getElem? hrr))
    have hlw := way2_len t r
    have hC := R_slices_Contains_int (way2 t r) k (by omega)
    have hpl := picks_len (thru t k L) i
    have hro : roomFor 8 ((picks (thru t k L) i).length + 1) = true := room8 (by omega)
    have ht := thru_eq (t := t) (k := k) hrr
    obtain ⟨f1, f2, f3, f4⟩ := fr hox
    obtain ⟨g1, g2, g3, g4⟩ := fr ho
    obtain ⟨z1, z2, z3, z4⟩ := fr (show 0 < st.nx by omega)
    simp [-getElem?_pos, v1, v3, v7, v11, v12, v13, hr', hR, hC, hS, hSo, f1, f2, f3, f4, g1, g2, z1, z2, z3, z4, h]
    cases hb : hasI (way2 t r) k with
    | true =>
      rw [hb] at ht
      simp [-getElem?_pos, v1, v3, v7, v11, v12, v13, hSo, hS, hw, hro, f1, f2, f3, f4, g1, g2, z1, z2, z3, z4, ints_snoc]
      refine Rnd_n (n - 1) (by omega) ⟨i + 1, st.nx + 2, st.ep, by omega, by simp [v1], by simp [v3], ?_⟩
      rw [picks_yes ht]
      simp [v11, v12, hS, f1, f2, f3, f4, g1, g2, z1, z2, z3, z4]
    | false =>
      rw [hb] at ht
      simp [-getElem?_pos, v1, v3, v7, v11, v12, v13, hSo, hS, hw, hro, f1, f2, f3, f4, g1, g2, z1, z2, z3, z4]
      refine Rnd_n (n - 1) (by omega) ⟨i + 1, o, e, by omega, by simp [v1], by simp [v3], ?_⟩
      rw [picks_no ht]
      simp [v7, v11, v12, hS, hSo, f1, f2, f3, f4, g1, g2, z1, z2, z3, z4, ho]
      omega
  · simp at h
    have e1 : i = L.length := by omega
    subst e1
    simp [-getElem?_pos, v7, hSo, rowsAt]

theorem hasI_take {l : List Int} {x : Int} {i : Nat} {y : Int} (h : l[i]? = some y) : hasI (l.take (i + 1)) x = (hasI (l.take i) x || decide (y = x)) := by
  unfold hasI
  rw [List.take_succ, h, List.any_append]; simp

set_option maxHeartbeats 1000000 in
theorem R_spec_RowsAt (q : Bool) (t : List Nd) (k : Int) (L : List (List Int)) (hl : t.length ≤ 1048576) (hL : L.length ≤ 1048576) (hr : ∀ r ∈ L, r.length ≤ 1048576) : RUN T k_spec_RowsAt [.agg [.sl 5 (t.map nd)], iv k, .sl 1 (rws q L)] = some ([.own 1 (ints (rowsAt t k L))], []) := by
  refine RUN_W T_spec_RowsAt rfl ?_
  simp [-getElem?_pos, k_spec_RowsAt_ic, k_spec_RowsAt_rv]
  refine W_loop (fun n st => ∃ (i o e : Nat), i + n = L.length ∧ st.V 1 = iv k ∧ st.V 2 = .sl 1 (rws q L) ∧ st.V 3 = .ptr 0 none 0 0 0 ∧ st.V 7 = .ref o none e 0 (picks (thru t k L) i).length ∧ st.V 8 = iv i ∧ 0 < o ∧ o < st.nx ∧ st.S o = some (.row 1 (ints (picks (thru t k L) i))) ∧ st.S 0 = some (.box [.sl 5 (t.map nd)])) ?_ L.length _ ⟨0, 1, 0, by simp⟩
  rintro n st ⟨i, o, e, hi, v1, v2, v3, v7, v8, ho, hox, hSo, hS⟩
  simp [k_spec_RowsAt_b1, v2, v8]
  refine Br_i (fun h => ?_) (fun h => ?_)
  · simp at h
    obtain ⟨r, hrr⟩ : ∃ r, L[i]? = some r := ⟨_, List.getElem?_eq_getElem h⟩
    have hr' := rws_get (q := q) hrr
    have hw := wS h (by omega : L.length ≤ 9223372036854775807)
    have hR := R_spec_l18Way t r hl (hr r (List.mem_of_getElem? hrr))
    have hlw := way2_len t r
    have hpl := picks_len (thru t k L) i
    have hro : roomFor 8 ((picks (thru t k L) i).length + 1) = true := room8 (by omega)
    have ht := thru_eq (t := t) (k := k) hrr
    obtain ⟨f1, f2, f3, f4⟩ := fr hox
    obtain ⟨g1, g2, g3, g4⟩ := fr ho
    obtain ⟨z1, z2, z3, z4⟩ := fr (show 0 < st.nx by omega)
    simp [-getElem?_pos, v1, v2, v3, v7, v8, hr', hR, hS, hSo, f1, f2, f3, f4, g1, g2, z1, z2, z3, z4, h]
    refine W_loop (fun n' s => ∃ (i' : Nat), i' + n' = (way2 t r).length ∧ s.V 1 = iv k ∧ s.V 2 = .sl 1 (rws q L) ∧ s.V 3 = .ptr 0 none 0 0 0 ∧ s.V 7 = .ref o none e 0 (picks (thru t k L) i).length ∧ s.V 8 = iv i ∧ s.V 9 = .ref st.nx none st.ep 0 (way2 t r).length ∧ s.V 10 = bv (hasI ((way2 t r).take i') k) ∧ s.V 11 = iv i' ∧ s.nx = st.nx + 1 ∧ s.ep = st.ep ∧ s.S st.nx = some (.row 1 (ints (way2 t r))) ∧ s.S o = some (.row 1 (ints (picks (thru t k L) i))) ∧ s.S 0 = some (.box [.sl 5 (t.map nd)])) ?_ (way2 t r).length _ ⟨0, by simp [v1, v2, v3, v7, v8, hSo, hS, f1, f2, z1, z2, hasI]⟩
    rintro n' s ⟨i', hi', u1, u2, u3, u7, u8, u9, u10, u11, unx, uep, hSw, hSo', hS'⟩
    simp [k_spec_RowsAt_b0, u9, u11, hSw]
    refine Br_i (fun h' => ?_) (fun h' => ?_)
    · simp at h'
      obtain ⟨y, hy⟩ : ∃ y, (way2 t r)[i']? = some y := ⟨_, List.getElem?_eq_getElem h'⟩
      have hy' := ints_get hy
      have hw' := wS h' (by omega : (way2 t r).length ≤ 9223372036854775807)
      have hh := hasI_take (x := k) hy
      cases hb : hasI ((way2 t r).take i') k with
      | true =>
        rw [hb] at u10 hh
        simp [-getElem?_pos, u1, u9, u10, u11, hSw, hy', h', hw']
        refine Rnd_n (n' - 1) (by omega) ⟨i' + 1, by omega, by simp [u1], by simp [u2], by simp [u3], by simp [u7], by simp [u8], by simp [u9], ?_⟩
        rw [hh]
        simp [unx, uep, hSw, hSo', hS']
      | false =>
        rw [hb] at u10 hh
        simp [-getElem?_pos, u1, u9, u10, u11, hSw, hy', h', hw']
        refine Rnd_n (n' - 1) (by omega) ⟨i' + 1, by omega, by simp [u1], by simp [u2], by simp [u3], by simp [u7], by simp [u8], by simp [u9], ?_⟩
        rw [hh]
        simp [unx, uep, hSw, hSo', hS']
    · simp at h'
      rw [List.take_of_length_le (by omega)] at u10
      cases hb : hasI (way2 t r) k with
      | true =>
        rw [hb] at u10 ht
        simp [-getElem?_pos, u1, u2, u3, u7, u8, u10, hSo', hS', unx, uep, hw, hro, f1, f2, f3, f4, g1, g2, z1, z2, z3, z4, ints_snoc]
        refine Rnd_n (n - 1) (by omega) ⟨i + 1, st.nx + 2, st.ep, by omega, by simp [u1], by simp [u2], by simp [u3], ?_⟩
        rw [picks_yes ht]
        simp [hS', f1, f2, f3, f4, g1, g2, z1, z2, z3, z4]
      | false =>
        rw [hb] at u10 ht
        simp [-getElem?_pos, u1, u2, u3, u7, u8, u10, hSo', hS', unx, uep, hw, hro, f1, f2, f3, f4, g1, g2, z1, z2, z3, z4]
        refine Rnd_n (n - 1) (by omega) ⟨i + 1, o, e, by omega, by simp [u1], by simp [u2], by simp [u3], ?_⟩
        rw [picks_no ht]
        simp [u7, unx, hS', hSo', ho]
        omega
  · simp at h
    have e1 : i = L.length := by omega
    subst e1
    simp [-getElem?_pos, v7, hSo, rowsAt]

/-- Rows that have been numbered. -/
def mkRows (k : Int) (L : List (List Int)) (j : Nat) : List Int := upto (k + lens (L.take j)) (L.getD j []).length

theorem setCell_get {es : List (List PV)} {i : Nat} {c d : PV} (h : es[i]? = some [c]) : setCell es i 0 d = es.set i [d] := by simp [setCell, h]

theorem lens_take {L : List (List Int)} {i : Nat} {l : List Int} (h : L[i]? = some l) : lens (L.take (i + 1)) = lens (L.take i) + l.length := by
  unfold lens
  rw [List.take_succ, h]; simp

theorem lens_le (L : List (List Int)) (i : Nat) : lens (L.take i) ≤ lens L := by
  induction L generalizing i with
  | nil => simp
  | cons a L ih =>
    cases i with
    | zero => simp [lens]
    | succ i => rw [List.take_succ_cons, lens_cons, lens_cons]; have := ih i; omega

theorem R_laws_markIntSS (L : List (List Int)) (k : Int) (h0 : 0 ≤ k) (hk : k + lens L ≤ 9223372036854775806) (hL : L.length ≤ 9223372036854775807) : RUN T k_laws_markIntSS [.own 1 (rws true L), iv k] = some ([iv (k + lens L)], [.own 1 (rws true ((List.range L.length).map (mkRows k L)))]) := by
  refine RUN_W T_laws_markIntSS rfl ?_
  simp [-getElem?_pos, k_laws_markIntSS_ic, k_laws_markIntSS_rv]
  obtain ⟨f, hf⟩ : ∃ f : Nat → List PV, f = fun j => [cel true (mkRows k L j)] := ⟨_, rfl⟩
  refine W_loop (fun n st => ∃ i : Nat, i + n = L.length ∧ 1 ≤ st.nx ∧ st.V 0 = .ref 0 none 0 0 L.length ∧ st.V 1 = iv (k + lens (L.take i)) ∧ st.V 5 = iv i ∧ st.S 0 = some (.row 1 (mix f (rws true L) i))) ?_ L.length _ ⟨0, by simp [mix_0, lens]⟩
  rintro n st ⟨i, hi, hnx, v0, v1, v5, hS⟩
  simp [k_laws_markIntSS_b0, v0, v1, v5, hS]
  refine Br_i (fun h => ?_) (fun h => ?_)
  · simp at h
    obtain ⟨l, hx⟩ : ∃ l, L[i]? = some l := ⟨_, List.getElem?_eq_getElem h⟩
    have hw := wS h hL
    have hx' := rws_get (q := true) hx
    have hg := (mix_get (f := f) (l := rws true L) (i := i)).trans hx'
    have hs := mix_set (f := f) (l := rws true L) (i := i) (by simpa using h)
    have hle := lens_le L (i + 1)
    have htk := lens_take hx
    have hM := R_laws_markIntS l (k + lens (L.take i)) (by omega) (by omega)
    have hsc : ∀ d : PV, setCell (mix f (rws true L) i) i 0 d = (mix f (rws true L) i).set i [d] := fun d => setCell_get hg
    have hfi : f i = [.own 1 (ints (upto (k + lens (L.take i)) l.length))] := by rw [hf]; simp [mkRows, hx, cel]
    rw [hfi] at hs
    have hml := mix_len (f := f) (l := rws true L) (i := i) (by simp; omega)
    simp at hml
    have hss : ∀ d : PV, setCell ((mix f (rws true L) i).set i [.undef]) i 0 d = (mix f (rws true L) i).set i [d] := fun d => by
      rw [setCell_get (c := .undef) (by rw [List.getElem?_set_self (by omega)]), List.set_set]
    simp only [cel, if_true] at hg
    obtain ⟨z1, z2, z3, z4⟩ := fr (show 0 < st.nx by omega)
    simp [-getElem?_pos, v0, v1, v5, hS, h, hg, hml, hM, hsc, hss, hs, hw, z1, z2, z3, z4, subRow]
    refine Rnd_n (n - 1) (by omega) ⟨i + 1, by omega, by simp, by simp [v0], ?_, by simp, by simp⟩
    simp [htk]; omega
  · simp at h
    have e := mix_all (f := f) (l := rws true L) (i := i) (by simp; omega)
    have e2 : i = L.length := by omega
    subst e2
    rw [e] at hS
    rw [List.take_length] at v1
    have e3 : rws true ((List.range L.length).map (mkRows k L)) = (List.range L.length).map f := by rw [hf]; simp [rws, Function.comp_def]
    rw [e3]
    simp [-getElem?_pos, hS, v1]

theorem shp_intss {c : PV} (h : ShpA false [.sl [.sl [.int .i64]]] c) : ∃ L : List (List Int), c = .sl 1 (rws false L) ∧ L.length ≤ 9223372036854775807 ∧ ∀ l ∈ L, l.length ≤ 9223372036854775807 := by
  simp only [ShpA, Bool.false_eq_true, if_false, ShpL, Shp] at h
  obtain ⟨c', r, e, ⟨es, he, h1, h2⟩, hr⟩ := h
  simp only [List.cons.injEq] at e
  have h2' : ∀ cs ∈ es, ShpL [.sl [.int .i64]] cs := h2
  obtain ⟨L, hL, hp⟩ := rows_of (f := fun l => [cel false l]) shp_intsL h2'
  subst hL
  simp [maxLen] at h1
  exact ⟨L, e.1.trans he, by omega, hp⟩

theorem law_FnExactRowsAt (t : List Nd) (k : Int) (L : List (List Int)) (hl : t.length ≤ 9223372036854775807) (hL : L.length ≤ 9223372036854775807) (hr : ∀ r ∈ L, r.length ≤ 9223372036854775807) : RUN T k_laws_FnExactRowsAt [.agg [.sl 5 (t.map nd)], iv k, .sl 1 (rws false L)] = some ([bv true], []) := by
  refine RUN_W T_laws_FnExactRowsAt rfl ?_
  have hs := R_laws_szTree (t.map nd) 1048576 (by omega) (by omega) (by simpa using hl)
  simp at hs
  by_cases h : (1048576 : Int) - t.length < 0
  · rw [if_pos (by omega)] at hs
    simp [k_laws_FnExactRowsAt_ic, k_laws_FnExactRowsAt_rv, hs]
  · rw [if_neg (by omega)] at hs
    have hz := R_laws_szIntSS false L (1048576 - t.length) (by omega) (by omega) hL hr
    have h' : ¬ ((1048576 : Int) < t.length) := by omega
    by_cases h2 : (1048576 : Int) - t.length - tot L < 0
    · rw [if_pos h2] at hz
      simp [k_laws_FnExactRowsAt_ic, k_laws_FnExactRowsAt_rv, hs, hz, h]
    · rw [if_neg h2] at hz
      have htot : tot L = L.length + lens L := rfl
      have hr1 : ∀ r ∈ L, r.length ≤ 1048576 := fun r hm => by have := lens_mem hm; omega
      have ht := R_laws_toTree t (by omega)
      have ht2 := R_laws_toIntSS false L (by omega) hr1
      have a1 := R_spec_RowsAt true t k L (by omega) (by omega) hr1
      have a2 := R_impl_RowsAt true t k L (by omega) (by omega) hr1
      have hpl := picks_len (thru t k L) L.length
      have hpl' : (rowsAt t k L).length ≤ L.length := hpl
      have q1 := R_laws_eqIntS (rowsAt t k L) (by omega)
      have q2 := R_laws_eqTree t (by omega)
      have q3 := R_laws_eqIntSS true true L (by omega) hr
      have m1 := R_laws_markTree t 1 (by omega) (by omega)
      have m2 := R_laws_markIntSS L (1 + 5 * t.length) (by omega) (by omega) hL
      have m3 := R_laws_markIntS (rowsAt t k L) 1 (by omega) (by omega)
      have m4 := R_laws_heldIntS 1 (rowsAt t k L).length (by omega) (by omega)
      have n1 : ¬ (1 + 5 * (t.length : Int) + lens L < 0) := by omega
      have n2 : ¬ (1 + ((rowsAt t k L).length : Int) < 0) := by omega
      simp [k_laws_FnExactRowsAt_ic, k_laws_FnExactRowsAt_rv, hs, hz, ht, ht2, a1, a2, q1, q2, q3, m1, m2, m3, m4, h, h2, n1, n2, mkNd]

end Go.Pe
