/- What each function answers by the evaluator, and the law; for each answer its own conditions stand ahead of it. -/
import Derived.Test.YtnioodedhoccaaaK0
import Derived.Test.YtnioodedhoccaaaEvB1
import Derived.IntWalk
set_option linter.all false
namespace Go.Pe
open Go
theorem w64 {x : Int} (h1 : -9223372036854775808 ≤ x) (h2 : x ≤ 9223372036854775807) : IntKind.i64.wrap x = x := IntWalk.i64_in x ⟨h1, h2⟩

structure Nd where
  f : Int
  c : Int
  l : Int
  r : Int
  v : Int
deriving DecidableEq

def nd (n : Nd) : List PV := [iv n.f, iv n.c, iv n.l, iv n.r, iv n.v]

@[simp] theorem R_impl_isLeaf (a b c d e : Int) : RUN T k_impl_isLeaf [.agg [iv a, iv b, iv c, iv d, iv e]] = some ([bv (decide (a = -1))], []) := by
  refine RUN_W T_impl_isLeaf rfl ?_
  simp [k_impl_isLeaf_ic, k_impl_isLeaf_rv]

@[simp] theorem R_spec_l17Inner (a b c d e : Int) : RUN T k_spec_l17Inner [.agg [iv a, iv b, iv c, iv d, iv e]] = some ([bv (!decide (a = -1))], []) := by
  refine RUN_W T_spec_l17Inner rfl ?_
  simp [k_spec_l17Inner_ic, k_spec_l17Inner_rv]

@[simp] theorem R_laws_toNode (a b c d e : Int) : RUN T k_laws_toNode [.agg [iv a, iv b, iv c, iv d, iv e]] = some ([.agg [iv a, iv b, iv c, iv d, iv e]], []) := by
  refine RUN_W T_laws_toNode rfl ?_
  simp [k_laws_toNode_ic, k_laws_toNode_rv]

@[simp] theorem R_laws_eqNode (a b c d e : Int) : RUN T k_laws_eqNode [.agg [iv a, iv b, iv c, iv d, iv e], .agg [iv a, iv b, iv c, iv d, iv e]] = some ([bv true], []) := by
  refine RUN_W T_laws_eqNode rfl ?_
  simp [k_laws_eqNode_ic, k_laws_eqNode_rv]

theorem R_laws_szNodeS (es : List (List PV)) (left : Int) (h0 : 0 ≤ left) (h1 : left ≤ 1048576) (hl : es.length ≤ 9223372036854775807) : RUN T k_laws_szNodeS [.sl 5 es, iv left] = some ([iv (if left - es.length < 0 then -1 else left - es.length)], []) := by
  refine RUN_W T_laws_szNodeS rfl ?_
  have e := w64 (x := left - es.length) (by omega) (by omega)
  simp [k_laws_szNodeS_ic, k_laws_szNodeS_rv, e]
  refine Br_i (fun h => ?_) (fun h => ?_) <;> simp at h <;> simp [h]
  omega

/-- The first place where something holds, -1 if there is none. -/
def fidx {α : Type} (p : α → Bool) (l : List α) : Int := match l.findIdx? p with
  | some i => (i : Int)
  | none => -1

/-- A node that has a node below it. -/
def above (k : Int) (n : Nd) : Bool := !decide (n.f = -1) && (decide (n.l = k) || decide (n.r = k))

def par (t : List Nd) (k : Int) : Int := fidx (above k) t

theorem wS {i n : Nat} (h : i < n) (hn : n ≤ 9223372036854775807) : IntKind.i64.wrap ((i : Int) + 1) = (i : Int) + 1 := w64 (by omega) (by omega)

theorem R_laws_szTree (es : List (List PV)) (left : Int) (h0 : 0 ≤ left) (h1 : left ≤ 1048576) (hl : es.length ≤ 9223372036854775807) : RUN T k_laws_szTree [.agg [.sl 5 es], iv left] = some ([iv (if left - es.length < 0 then -1 else left - es.length)], []) := by
  refine RUN_W T_laws_szTree rfl ?_
  have e := R_laws_szNodeS es left h0 h1 hl
  by_cases h : left - es.length < 0
  · simp only [h, if_true] at e ⊢
    simp [k_laws_szTree_ic, k_laws_szTree_rv, e]
    intro _; omega
  · simp only [h, if_false] at e ⊢
    simp [k_laws_szTree_ic, k_laws_szTree_rv, e]
    refine Br_i (fun b0 => ?_) (fun b0 => ?_) <;> (try simp at b0) <;> simp [-getElem?_pos, b0, ]
    omega

/-- A row that is filled from its beginning on. -/
def fil {α β : Type} (f : α → β) (z : β) (l : List α) (i : Nat) : List β := (l.take i).map f ++ List.replicate (l.length - i) z

theorem fil_set {α β : Type} {f : α → β} {l : List α} {z : β} {i : Nat} {x : α} (hx : l[i]? = some x) : (fil f z l i).set i (f x) = fil f z l (i + 1) := by
  unfold fil
  obtain ⟨h1, h2⟩ := List.getElem?_eq_some_iff.mp hx
  apply List.ext_getElem?
  intro j
  rw [List.getElem?_set]
  simp only [List.length_append, List.length_map, List.length_take, List.length_replicate]
  by_cases e : i = j
  · subst e
    rw [if_pos rfl, if_pos (by omega), List.getElem?_append_left (by simp; omega)]
    simp [List.getElem?_take, hx]
  · rw [if_neg e]
    by_cases hj : j < i
    · rw [List.getElem?_append_left (by simp; omega), List.getElem?_append_left (by simp; omega)]
      simp [List.getElem?_take, hj, show j < i + 1 by omega]
    · rw [List.getElem?_append_right (by simp; omega), List.getElem?_append_right (by simp; omega)]
      simp [List.getElem?_replicate]
      congr 1
      simp; omega

theorem fil_get {α β : Type} {f : α → β} {l : List α} {z : β} {i : Nat} (h : i < l.length) : (fil f z l i)[i]? = some z := by
  unfold fil
  rw [List.getElem?_append_right (by simp; omega)]
  simp [List.getElem?_replicate]; omega

theorem fil_len {α β : Type} {f : α → β} {l : List α} {z : β} {i : Nat} (h : i ≤ l.length) : (fil f z l i).length = l.length := by unfold fil; simp; omega

theorem fil_0 {α β : Type} {f : α → β} {l : List α} {z : β} : fil f z l 0 = List.replicate l.length z := by simp [fil]

theorem fil_all {α β : Type} {f : α → β} {l : List α} {z : β} {i : Nat} (h : i = l.length) : fil f z l i = l.map f := by subst h; simp [fil]

theorem R_laws_toNodeS (t : List Nd) (hl : t.length ≤ 1048576) : RUN T k_laws_toNodeS [.sl 5 (t.map nd)] = some ([.own 5 (t.map nd)], []) := by
  refine RUN_W T_laws_toNodeS rfl ?_
  have hr : roomFor 40 t.length = true := by simp [roomFor]; omega
  simp [k_laws_toNodeS_ic, k_laws_toNodeS_rv, hr]
  refine W_loop (fun n st => ∃ i : Nat, i + n = t.length ∧ st.V 0 = .sl 5 (t.map nd) ∧ st.V 3 = .ref 0 none 0 0 t.length ∧ st.V 4 = iv i ∧ st.ep = 0 ∧ st.S 0 = some (.row 5 (fil nd [iv 0, iv 0, iv 0, iv 0, iv 0] t i))) ?_ t.length _ ⟨0, by simp [fil_0]⟩
  rintro n st ⟨i, hi, h0, h3, h4, hep, hS⟩
  simp [k_laws_toNodeS_b0, h0, h3, h4, hS]
  refine Br_i (fun h => ?_) (fun h => ?_)
  · simp at h
    obtain ⟨x, hx2⟩ : ∃ x, t[i] = x := ⟨_, rfl⟩
    have hx : t[i]? = some x := by rw [← hx2]; exact List.getElem?_eq_getElem h
    have hw := wS h (by omega : t.length ≤ 9223372036854775807)
    have hg := fil_get (f := nd) (z := [iv 0, iv 0, iv 0, iv 0, iv 0]) h
    have hs := fil_set (f := nd) (z := [iv 0, iv 0, iv 0, iv 0, iv 0]) hx
    simp only [nd] at hs
    simp [-getElem?_pos, h0, h3, h4, hS, hep, h, hx, nd, hw, hg, hs, fil_len (Nat.le_of_lt h)]
    exact Rnd_n (n - 1) (by omega) ⟨i + 1, by omega, by simp [h0], by simp [h3], by simp, by simp, by simp⟩
  · simp at h
    have e := fil_all (f := nd) (z := [iv 0, iv 0, iv 0, iv 0, iv 0]) (by omega : i = t.length)
    simp [h3, hS, e]

theorem R_laws_toTree (t : List Nd) (hl : t.length ≤ 1048576) : RUN T k_laws_toTree [.agg [.sl 5 (t.map nd)]] = some ([.agg [.own 5 (t.map nd)]], []) := by
  refine RUN_W T_laws_toTree rfl ?_
  simp [k_laws_toTree_ic, k_laws_toTree_rv, R_laws_toNodeS t hl]

theorem R_laws_eqNodeS (t : List Nd) (hl : t.length ≤ 9223372036854775807) : RUN T k_laws_eqNodeS [.sl 5 (t.map nd), .sl 5 (t.map nd)] = some ([bv true], []) := by
  refine RUN_W T_laws_eqNodeS rfl ?_
  simp [k_laws_eqNodeS_ic, k_laws_eqNodeS_rv]
  refine W_loop (fun n st => ∃ i : Nat, i + n = t.length ∧ st.V 0 = .sl 5 (t.map nd) ∧ st.V 1 = .sl 5 (t.map nd) ∧ st.V 5 = iv i) ?_ t.length _ ⟨0, by simp⟩
  rintro n st ⟨i, hi, h0, h1, h5⟩
  simp [k_laws_eqNodeS_b0, h0, h1, h5]
  refine Br_i (fun h => ?_) (fun h => ?_)
  · simp at h
    obtain ⟨x, hx⟩ : ∃ x, t[i]? = some x := ⟨_, List.getElem?_eq_getElem h⟩
    have hw := wS h hl
    simp [-getElem?_pos, h0, h1, h5, h, hx, nd, hw]
    exact Rnd_n (n - 1) (by omega) ⟨i + 1, by omega, by simp [h0], by simp [h1], by simp⟩
  · simp

theorem R_laws_eqTree (t : List Nd) (hl : t.length ≤ 9223372036854775807) : RUN T k_laws_eqTree [.agg [.sl 5 (t.map nd)], .agg [.sl 5 (t.map nd)]] = some ([bv true], []) := by
  refine RUN_W T_laws_eqTree rfl ?_
  simp [k_laws_eqTree_ic, k_laws_eqTree_rv, R_laws_eqNodeS t hl]

def ints (l : List Int) : List (List PV) := l.map fun n => [iv n]

@[simp] theorem ints_len (l : List Int) : (ints l).length = l.length := by simp [ints]

theorem ints_get {l : List Int} {i : Nat} {x : Int} (h : l[i]? = some x) : (ints l)[i]? = some [iv x] := by simp [ints, h]

@[simp] theorem ints_nil : ints [] = [] := rfl

theorem ints_snoc (l : List Int) (x : Int) : ints l ++ [[iv x]] = ints (l ++ [x]) := by simp [ints]

/-- The nodes above a node, from it on, if they are fewer than a number. -/
def anc (t : List Nd) : Nat → Int → Option (List Int)
  | 0, _ => none
  | n + 1, k => if par t k < 0 then some [] else (anc t n (par t k)).map (par t k :: ·)

def way (t : List Nd) (k : Int) : List Int := if 0 ≤ k ∧ k ≤ t.length - 1 then match anc t 32 k with
    | some l => (k :: l).reverse
    | none => []
  else []

theorem room8 {n : Nat} (h : n ≤ 17592186044416) : roomFor 8 n = true := by simp [roomFor]; omega

/-- A row whose first elements have been written anew. -/
def mix {β : Type} (f : Nat → β) (l : List β) (i : Nat) : List β := (List.range i).map f ++ l.drop i

theorem mix_0 {β : Type} {f : Nat → β} {l : List β} : mix f l 0 = l := by simp [mix]

theorem mix_all {β : Type} {f : Nat → β} {l : List β} {i : Nat} (h : i = l.length) : mix f l i = (List.range i).map f := by subst h; simp [mix]

theorem mix_len {β : Type} {f : Nat → β} {l : List β} {i : Nat} (h : i ≤ l.length) : (mix f l i).length = l.length := by simp [mix]; omega

theorem mix_get {β : Type} {f : Nat → β} {l : List β} {i : Nat} : (mix f l i)[i]? = l[i]? := by
  unfold mix
  rw [List.getElem?_append_right (by simp)]
  simp

theorem mix_set {β : Type} {f : Nat → β} {l : List β} {i : Nat} (h : i < l.length) : (mix f l i).set i (f i) = mix f l (i + 1) := by
  unfold mix
  apply List.ext_getElem?
  intro j
  rw [List.getElem?_set]
  simp only [List.length_append, List.length_map, List.length_range, List.length_drop]
  by_cases e : i = j
  · subst e
    rw [if_pos rfl, if_pos (by omega), List.getElem?_append_left (by simp)]
    simp
  · rw [if_neg e]
    by_cases hj : j < i
    · rw [List.getElem?_append_left (by simp; omega), List.getElem?_append_left (by simp; omega)]
      simp [hj, show j < i + 1 by omega]
    · rw [List.getElem?_append_right (by simp; omega), List.getElem?_append_right (by simp; omega)]
      simp
      congr 1
      omega

theorem R_laws_eqIntS (l : List Int) (hl : l.length ≤ 9223372036854775807) : RUN T k_laws_eqIntS [.sl 1 (ints l), .sl 1 (ints l)] = some ([bv true], []) := by
  refine RUN_W T_laws_eqIntS rfl ?_
  simp [k_laws_eqIntS_ic, k_laws_eqIntS_rv]
  refine W_loop (fun n st => ∃ i : Nat, i + n = l.length ∧ st.V 0 = .sl 1 (ints l) ∧ st.V 1 = .sl 1 (ints l) ∧ st.V 5 = iv i) ?_ l.length _ ⟨0, by simp⟩
  rintro n st ⟨i, hi, h0, h1, h5⟩
  simp [k_laws_eqIntS_b0, h0, h1, h5]
  refine Br_i (fun h => ?_) (fun h => ?_)
  · simp at h
    obtain ⟨x, hx⟩ : ∃ x, l[i]? = some x := ⟨_, List.getElem?_eq_getElem h⟩
    have hw := wS h hl
    have hx' := ints_get hx
    simp [-getElem?_pos, h0, h1, h5, h, hx', hw]
    exact Rnd_n (n - 1) (by omega) ⟨i + 1, by omega, by simp [h0], by simp [h1], by simp⟩
  · simp

/-- The numbers from one on, so many. -/
def upto (k : Int) (n : Nat) : List Int := (List.range n).map fun (i : Nat) => k + (i : Int)

@[simp] theorem upto_len (k : Int) (n : Nat) : (upto k n).length = n := by simp [upto]

theorem R_laws_markIntS (l : List Int) (k : Int) (h0 : 0 ≤ k) (hk : k + l.length ≤ 9223372036854775806) : RUN T k_laws_markIntS [.own 1 (ints l), iv k] = some ([iv (k + l.length)], [.own 1 (ints (upto k l.length))]) := by
  refine RUN_W T_laws_markIntS rfl ?_
  simp [k_laws_markIntS_ic, k_laws_markIntS_rv]
  refine W_loop (fun n st => ∃ i : Nat, i + n = l.length ∧ st.V 0 = .ref 0 none 0 0 l.length ∧ st.V 1 = iv (k + i) ∧ st.V 5 = iv i ∧ st.ep = 0 ∧ st.S 0 = some (.row 1 (mix (fun j => [iv (k + (j : Int))]) (ints l) i))) ?_ l.length _ ⟨0, by simp [mix_0]⟩
  rintro n st ⟨i, hi, h0, h1, h5, hep, hS⟩
  simp [k_laws_markIntS_b0, h0, h1, h5, hS]
  refine Br_i (fun h => ?_) (fun h => ?_)
  · simp at h
    obtain ⟨x, hx⟩ : ∃ x, l[i]? = some x := ⟨_, List.getElem?_eq_getElem h⟩
    have hw := wS h (by omega : l.length ≤ 9223372036854775807)
    have hw2 : IntKind.i64.wrap (k + (i : Int) + 1) = k + (i : Int) + 1 := w64 (by omega) (by omega)
    have hx' := ints_get hx
    have hg := (mix_get (f := fun (j : Nat) => [iv (k + (j : Int))]) (l := ints l) (i := i)).trans hx'
    have hs := mix_set (f := fun (j : Nat) => [iv (k + (j : Int))]) (l := ints l) (i := i) (by simpa using h)
    have hl := mix_len (f := fun (j : Nat) => [iv (k + (j : Int))]) (l := ints l) (i := i) (by simp; omega)
    simp at hl
    simp [-getElem?_pos, h0, h1, h5, hS, hep, h, hg, hs, hl, hw, hw2]
    exact Rnd_n (n - 1) (by omega) ⟨i + 1, by omega, by simp [h0], by simp; omega, by simp, by simp, by simp⟩
  · simp at h
    have e := mix_all (f := fun (j : Nat) => [iv (k + (j : Int))]) (l := ints l) (i := i) (by simp; omega)
    have e2 : i = l.length := by omega
    subst e2
    simp [hS, e, h1]
    simp [ints, upto, Function.comp_def]

theorem R_laws_heldIntS (k : Int) (n : Nat) (h0 : 0 ≤ k) (hk : k + n ≤ 9223372036854775806) : RUN T k_laws_heldIntS [.sl 1 (ints (upto k n)), iv k] = some ([iv (k + n)], []) := by
  refine RUN_W T_laws_heldIntS rfl ?_
  simp [k_laws_heldIntS_ic, k_laws_heldIntS_rv]
  refine W_loop (fun q st => ∃ i : Nat, i + q = n ∧ st.V 0 = .sl 1 (ints (upto k n)) ∧ st.V 1 = iv (k + i) ∧ st.V 5 = iv i) ?_ n _ ⟨0, by simp⟩
  rintro q st ⟨i, hi, h0, h1, h5⟩
  simp [k_laws_heldIntS_b0, h0, h1, h5]
  refine Br_i (fun h => ?_) (fun h => ?_)
  · simp at h
    have hw := wS h (by omega : n ≤ 9223372036854775807)
    have hw2 : IntKind.i64.wrap (k + (i : Int) + 1) = k + (i : Int) + 1 := w64 (by omega) (by omega)
    have hx' : (ints (upto k n))[i]? = some [iv (k + i)] := ints_get (by simp [upto, h])
    simp [-getElem?_pos, h0, h1, h5, h, hx', hw, hw2]
    exact Rnd_n (q - 1) (by omega) ⟨i + 1, by omega, by simp [h0], by simp; omega, by simp⟩
  · simp at h
    simp [h1]; omega

def mkNd (k : Int) (n : Nat) : List Nd := (List.range n).map fun (i : Nat) => ⟨k + 5 * (i : Int), k + 5 * (i : Int) + 1, k + 5 * (i : Int) + 2, k + 5 * (i : Int) + 3, k + 5 * (i : Int) + 4⟩

theorem R_laws_markNodeS (t : List Nd) (k : Int) (h0 : 0 ≤ k) (hk : k + 5 * t.length ≤ 9223372036854775806) : RUN T k_laws_markNodeS [.own 5 (t.map nd), iv k] = some ([iv (k + 5 * t.length)], [.own 5 ((mkNd k t.length).map nd)]) := by
  refine RUN_W T_laws_markNodeS rfl ?_
  simp [k_laws_markNodeS_ic, k_laws_markNodeS_rv]
  obtain ⟨f, hf⟩ : ∃ f : Nat → List PV, f = fun (j : Nat) => [iv (k + 5 * (j : Int)), iv (k + 5 * (j : Int) + 1), iv (k + 5 * (j : Int) + 2), iv (k + 5 * (j : Int) + 3), iv (k + 5 * (j : Int) + 4)] := ⟨_, rfl⟩
  refine W_loop (fun n st => ∃ i : Nat, i + n = t.length ∧ st.V 0 = .ref 0 none 0 0 t.length ∧ st.V 1 = iv (k + 5 * i) ∧ st.V 5 = iv i ∧ st.ep = 0 ∧ st.S 0 = some (.row 5 (mix f (t.map nd) i))) ?_ t.length _ ⟨0, by simp [mix_0]⟩
  rintro n st ⟨i, hi, h0, h1, h5, hep, hS⟩
  simp [k_laws_markNodeS_b0, h0, h1, h5, hS]
  refine Br_i (fun h => ?_) (fun h => ?_)
  · simp at h
    obtain ⟨x, hx⟩ : ∃ x, t[i]? = some x := ⟨_, List.getElem?_eq_getElem h⟩
    have hw := wS h (by omega : t.length ≤ 9223372036854775807)
    have w1 : IntKind.i64.wrap (k + 5 * (i : Int) + 1) = k + 5 * (i : Int) + 1 := w64 (by omega) (by omega)
    have w2 : IntKind.i64.wrap (k + 5 * (i : Int) + 1 + 1) = k + 5 * (i : Int) + 2 := by rw [w64 (by omega) (by omega)]; omega
    have w3 : IntKind.i64.wrap (k + 5 * (i : Int) + 2 + 1) = k + 5 * (i : Int) + 3 := by rw [w64 (by omega) (by omega)]; omega
    have w4 : IntKind.i64.wrap (k + 5 * (i : Int) + 3 + 1) = k + 5 * (i : Int) + 4 := by rw [w64 (by omega) (by omega)]; omega
    have w5 : IntKind.i64.wrap (k + 5 * (i : Int) + 4 + 1) = k + 5 * ((i : Int) + 1) := by rw [w64 (by omega) (by omega)]; omega
    have hx' : (t.map nd)[i]? = some (nd x) := by simp [hx]
    have hg := (mix_get (f := f) (l := t.map nd) (i := i)).trans hx'
    have hs := mix_set (f := f) (l := t.map nd) (i := i) (by simpa using h)
    have hfi : f i = [iv (k + 5 * (i : Int)), iv (k + 5 * (i : Int) + 1), iv (k + 5 * (i : Int) + 2), iv (k + 5 * (i : Int) + 3), iv (k + 5 * (i : Int) + 4)] := by rw [hf]
    rw [hfi] at hs
    have hl := mix_len (f := f) (l := t.map nd) (i := i) (by simp; omega)
    simp at hl
    simp [-getElem?_pos, h0, h1, h5, hS, hep, h, hg, hs, hl, hw, w1, w2, w3, w4, w5, nd]
    exact Rnd_n (n - 1) (by omega) ⟨i + 1, by omega, by simp [h0], by simp, by simp, by simp, by simp⟩
  · simp at h
    have e := mix_all (f := f) (l := t.map nd) (i := i) (by simp; omega)
    have e2 : i = t.length := by omega
    subst e2
    simp [hS, e, h1]
    simp [mkNd, hf, Function.comp_def, nd]

theorem R_laws_markTree (t : List Nd) (k : Int) (h0 : 0 ≤ k) (hk : k + 5 * t.length ≤ 9223372036854775806) : RUN T k_laws_markTree [.agg [.own 5 (t.map nd)], iv k] = some ([iv (k + 5 * t.length)], [.own 5 ((mkNd k t.length).map nd)]) := by
  refine RUN_W T_laws_markTree rfl ?_
  have e := R_laws_markNodeS t k h0 hk
  simp [k_laws_markTree_ic, k_laws_markTree_rv, e, mkNd]

/-- The places of leaves, counted from a number on. -/
def lvs : List Nd → Int → List Int
  | [], _ => []
  | x :: xs, i => if x.f = -1 then i :: lvs xs (i + 1) else lvs xs (i + 1)

theorem lvs_len : ∀ (t : List Nd) (i : Int), (lvs t i).length ≤ t.length
  | [], _ => by simp [lvs]
  | x :: xs, i => by
    have := lvs_len xs (i + 1)
    simp only [lvs]
    split <;> simp <;> omega

theorem drop_cons {α : Type} {l : List α} {i : Nat} {x : α} (h : l[i]? = some x) : l.drop i = x :: l.drop (i + 1) := by
  obtain ⟨h1, h2⟩ := List.getElem?_eq_some_iff.mp h
  rw [List.drop_eq_getElem_cons h1, h2]

theorem R_spec_LeavesOf (t : List Nd) (hl : t.length ≤ 1048576) : RUN T k_spec_LeavesOf [.agg [.sl 5 (t.map nd)]] = some ([.own 1 (ints (lvs t 0))], []) := by
  refine RUN_W T_spec_LeavesOf rfl ?_
  simp [k_spec_LeavesOf_ic, k_spec_LeavesOf_rv]
  refine W_loop (fun n st => ∃ i : Nat, i + n = t.length ∧ ∃ (m : List Int) (o e : Nat), m ++ lvs (t.drop i) i = lvs t 0 ∧ st.V 1 = .ptr 0 none 0 0 0 ∧ st.V 3 = .ref o none e 0 m.length ∧ st.V 4 = iv i ∧ 0 < o ∧ o < st.nx ∧ st.S o = some (.row 1 (ints m)) ∧ st.S 0 = some (.box [.sl 5 (t.map nd)])) ?_ t.length _ ⟨0, by simp, [], 1, 0, by simp⟩
  rintro n st ⟨i, hi, m, o, e, hm, h1, h3, h4, ho, hox, hSo, hS⟩
  simp [k_spec_LeavesOf_b0, h1, h3, h4, hS]
  refine Br_i (fun h => ?_) (fun h => ?_)
  · simp at h
    obtain ⟨x, hx⟩ : ∃ x, t[i]? = some x := ⟨_, List.getElem?_eq_getElem h⟩
    have hw := wS h (by omega : t.length ≤ 9223372036854775807)
    have hr : roomFor 8 (m.length + 1) = true := room8 (by
      have h5 := congrArg List.length hm
      have h6 := lvs_len t 0
      simp at h5; omega)
    have n1 : ¬ o = st.nx := by omega
    have n2 : ¬ 0 = o := by omega
    have n3 : ¬ 0 = st.nx := by omega
    simp [-getElem?_pos, h1, h3, h4, hS, hSo, n1, n2, n3, hx, nd, hw, hr, ints_snoc]
    refine Br_i (fun b0 => ?_) (fun b0 => ?_) <;> (try simp at b0) <;> simp [-getElem?_pos, b0, h1, h3, h4, hS, hSo, n1, n2, n3, hx, hw, hr, ints_snoc]
    · refine Rnd_n (n - 1) (by omega) ⟨i + 1, by omega, m ++ [(i : Int)], st.nx + 1, st.ep, ?_, by simp [h1], by simp, by simp, by omega, by simp, by simp, by simp [n2, n3, hS]⟩
      rw [← hm, drop_cons hx, lvs, if_pos b0]; simp
    · refine Rnd_n (n - 1) (by omega) ⟨i + 1, by omega, m, o, e, ?_, by simp [h1], by simp [h3], by simp, by omega, by simp [hox], by simp [hSo], by simp [hS]⟩
      rw [← hm, drop_cons hx, lvs, if_neg b0]; simp
  · simp at h
    have e : m = lvs t 0 := by rw [← hm, List.drop_eq_nil_of_le h]; simp [lvs]
    simp [h3, hSo, e]

theorem R_impl_LeavesOf (t : List Nd) (hl : t.length ≤ 1048576) : RUN T k_impl_LeavesOf [.agg [.sl 5 (t.map nd)]] = some ([.own 1 (ints (lvs t 0))], []) := by
  refine RUN_W T_impl_LeavesOf rfl ?_
  simp [k_impl_LeavesOf_ic, k_impl_LeavesOf_rv]
  refine W_loop (fun n st => ∃ i : Nat, i + n = t.length ∧ ∃ (m : List Int) (o e : Nat), m ++ lvs (t.drop i) i = lvs t 0 ∧ st.V 8 = .sl 5 (t.map nd) ∧ st.V 9 = iv t.length ∧ st.V 3 = .ref o none e 0 m.length ∧ st.V 10 = iv i ∧ o < st.nx ∧ st.S o = some (.row 1 (ints m))) ?_ t.length _ ⟨0, by simp, [], 1, 0, by simp⟩
  rintro n st ⟨i, hi, m, o, e, hm, h8, h9, h3, h10, hox, hSo⟩
  simp [k_impl_LeavesOf_b0, h8, h9, h10]
  refine Br_i (fun h => ?_) (fun h => ?_)
  · simp at h
    obtain ⟨x, hx⟩ : ∃ x, t[i]? = some x := ⟨_, List.getElem?_eq_getElem h⟩
    have hw := wS h (by omega : t.length ≤ 9223372036854775807)
    have hr : roomFor 8 (m.length + 1) = true := room8 (by
      have h5 := congrArg List.length hm
      have h6 := lvs_len t 0
      simp at h5; omega)
    have n1 : ¬ o = st.nx := by omega
    have n2 : ¬ o = st.nx + 1 := by omega
    simp [-getElem?_pos, h8, h9, h3, h10, hSo, n1, n2, hx, nd, hw, hr, ints_snoc]
    refine Br_i (fun b0 => ?_) (fun b0 => ?_) <;> (try simp at b0) <;> simp [-getElem?_pos, b0, h8, h9, h3, h10, hSo, n1, n2, hx, hw, hr, ints_snoc]
    · refine Rnd_n (n - 1) (by omega) ⟨i + 1, by omega, m ++ [(i : Int)], st.nx + 2, st.ep, ?_, by simp [h8], by simp [h9], by simp, by simp, by simp, by simp⟩
      rw [← hm, drop_cons hx, lvs, if_pos b0]; simp
    · refine Rnd_n (n - 1) (by omega) ⟨i + 1, by omega, m, o, e, ?_, by simp [h8], by simp [h9], by simp [h3], by simp, by simp; omega, by simp [hSo, n1]⟩
      rw [← hm, drop_cons hx, lvs, if_neg b0]; simp
  · simp at h
    have e : m = lvs t 0 := by rw [← hm, List.drop_eq_nil_of_le h]; simp [lvs]
    simp [h3, hSo, e]

theorem law_FnExactLeavesOf (t : List Nd) (hl : t.length ≤ 9223372036854775807) : RUN T k_laws_FnExactLeavesOf [.agg [.sl 5 (t.map nd)]] = some ([bv true], []) := by
  refine RUN_W T_laws_FnExactLeavesOf rfl ?_
  have hs := R_laws_szTree (t.map nd) 1048576 (by omega) (by omega) (by simpa using hl)
  simp at hs
  by_cases h : (1048576 : Int) - t.length < 0
  · rw [if_pos (by omega)] at hs
    simp [k_laws_FnExactLeavesOf_ic, k_laws_FnExactLeavesOf_rv, hs]
  · rw [if_neg (by omega)] at hs
    have ht := R_laws_toTree t (by omega)
    have hn := lvs_len t 0
    have a1 := R_laws_eqIntS (lvs t 0) (by omega)
    have a2 := R_laws_eqTree t (by omega)
    have m1 : (mkNd 1 t.length).length = t.length := by simp [mkNd]
    have a3 := R_laws_markTree t 1 (by omega) (by omega)
    have a4 := R_laws_markIntS (lvs t 0) 1 (by omega) (by omega)
    have a5 := R_laws_heldIntS 1 (lvs t 0).length (by omega) (by omega)
    have m1 : (mkNd 1 t.length).length = t.length := by simp [mkNd]
    have c1 : ¬ ((1048576 : Int) - t.length < 0) := by omega
    have c2 : ¬ ((1 : Int) + 5 * t.length < 0) := by omega
    have c3 : ¬ ((1 : Int) + (lvs t 0).length < 0) := by omega
    simp [k_laws_FnExactLeavesOf_ic, k_laws_FnExactLeavesOf_rv, hs, ht, R_spec_LeavesOf t (by omega), R_impl_LeavesOf t (by omega), a1, a2, a3, a4, a5, m1, c1, c2, c3]

def inI (n : Int) : Prop := -9223372036854775808 ≤ n ∧ n ≤ 9223372036854775807

/-- The range of a feature's values along a way. -/
def box (t : List Nd) (f : Int) : List Int → Int → Int → Int × Int
  | a :: b :: r, lo, hi => match t[a.toNat]? with
    | none => (lo, hi)
    | some x => if x.f = f then (if x.l = b then box t f (b :: r) lo (min hi x.c) else if x.c = 9223372036854775807 then box t f (b :: r) lo hi else box t f (b :: r) (max lo (x.c + 1)) hi) else box t f (b :: r) lo hi
  | _, lo, hi => (lo, hi)

def wfN (n : Nd) : Prop := inI n.f ∧ inI n.c ∧ inI n.l ∧ inI n.r ∧ inI n.v

theorem wf64 {n : Int} (h : (Lit.int .i64 n).wf = true) : -9223372036854775808 ≤ n ∧ n ≤ 9223372036854775807 := bounds_i64 h

theorem rows_of {α : Type} {f : α → List PV} {p : α → Prop} {tys : List TY} (h : ∀ cs, ShpL tys cs → ∃ a, f a = cs ∧ p a) : ∀ {es : List (List PV)}, (∀ cs ∈ es, ShpL tys cs) → ∃ l : List α, l.map f = es ∧ ∀ a ∈ l, p a
  | [], _ => ⟨[], rfl, by simp⟩
  | e :: es, hs => by
    obtain ⟨a, ha, hp⟩ := h e (hs e (by simp))
    obtain ⟨l, hl, hq⟩ := rows_of h (es := es) (fun cs hc => hs cs (by simp [hc]))
    refine ⟨a :: l, by simp [ha, hl], fun b hb => ?_⟩
    rcases List.mem_cons.mp hb with e | e
    · subst e; exact hp
    · exact hq b e

abbrev tyNd : List TY := [.int .i64, .int .i64, .int .i64, .int .i64, .int .i64]

theorem shp_nd (cs : List PV) (h : ShpL tyNd cs) : ∃ n : Nd, nd n = cs ∧ wfN n := by
  simp only [ShpL, Shp] at h
  obtain ⟨_, _, rfl, ⟨a, rfl, h1⟩, _, _, rfl, ⟨b, rfl, h2⟩, _, _, rfl, ⟨c, rfl, h3⟩, _, _, rfl, ⟨d, rfl, h4⟩, _, _, rfl, ⟨e, rfl, h5⟩, rfl⟩ := h
  exact ⟨⟨a, b, c, d, e⟩, rfl, wf64 h1, wf64 h2, wf64 h3, wf64 h4, wf64 h5⟩

theorem shp_tree {c : PV} (h : ShpA true [.sl tyNd] c) : ∃ t : List Nd, c = .agg [.sl 5 (t.map nd)] ∧ t.length ≤ 9223372036854775807 ∧ ∀ n ∈ t, wfN n := by
  obtain ⟨cs, rfl, h⟩ := h
  simp only [ShpL, Shp] at h
  obtain ⟨_, _, rfl, ⟨es, rfl, h1, h2⟩, rfl⟩ := h
  obtain ⟨t, rfl, hp⟩ := rows_of shp_nd h2
  simp [maxLen] at h1
  exact ⟨t, rfl, by omega, hp⟩

theorem of_all {P : Program} {l : List TypeId} (h : (l.all fun t => P.readableRec t && decide (t < P.types.size)) = true) : ∀ t ∈ l, P.readableRec t = true ∧ t < P.types.size := by
  intro t ht
  have := List.all_eq_true.mp h t ht
  simpa using this

theorem args1 {p : Bool × List TY} {pvs : List PV} (h : All2 (fun p c => ShpA p.1 p.2 c) [p] pvs) : ∃ a, pvs = [a] ∧ ShpA p.1 p.2 a := by
  cases h with
  | cons h1 t => cases t with
    | nil => exact ⟨_, rfl, h1⟩

end Go.Pe
