/- What each function answers by the evaluator, and the law; for each answer its own conditions stand ahead of it. -/
import Derived.Test.YtnioodedhoccaaaK0
import Derived.Test.YtnioodedhoccaaaEvB1
import Derived.IntWalk
set_option linter.all false
namespace Go.Pe
open Go
theorem w64 {x : Int} (h1 : -9223372036854775808 ≤ x) (h2 : x ≤ 9223372036854775807) : IntKind.i64.wrap x = x := IntWalk.i64_in x ⟨h1, h2⟩

structure Nd where
  f : Int
  c : Int
  l : Int
  r : Int
  v : Int
deriving DecidableEq

def nd (n : Nd) : List PV := [iv n.f, iv n.c, iv n.l, iv n.r, iv n.v]

@[simp] theorem R_impl_isLeaf (a b c d e : Int) : RUN T k_impl_isLeaf [.agg [iv a, iv b, iv c, iv d, iv e]] = some ([bv (decide (a = -1))], []) := by
  refine RUN_W T_impl_isLeaf rfl ?_
  simp [k_impl_isLeaf_ic, k_impl_isLeaf_rv]

@[simp] theorem R_impl_within (a b c : Int) : RUN T k_impl_within [iv a, iv b, iv c] = some ([bv (decide (b ≤ a) && decide (a ≤ c))], []) := by
  refine RUN_W T_impl_within rfl ?_
  simp [k_impl_within_ic, k_impl_within_rv]
  refine Br_i (fun h => ?_) (fun h => ?_) <;> simp [h]

@[simp] theorem R_spec_l17Inner (a b c d e : Int) : RUN T k_spec_l17Inner [.agg [iv a, iv b, iv c, iv d, iv e]] = some ([bv (!decide (a = -1))], []) := by
  refine RUN_W T_spec_l17Inner rfl ?_
  simp [k_spec_l17Inner_ic, k_spec_l17Inner_rv]

@[simp] theorem R_spec_l1In (a b c : Int) : RUN T k_spec_l1In [iv a, iv b, iv c] = some ([bv (decide (b ≤ a) && decide (a ≤ c))], []) := by
  refine RUN_W T_spec_l1In rfl ?_
  simp [k_spec_l1In_ic, k_spec_l1In_rv]
  refine Br_i (fun h => ?_) (fun h => ?_) <;> simp [h]

@[simp] theorem R_laws_toNode (a b c d e : Int) : RUN T k_laws_toNode [.agg [iv a, iv b, iv c, iv d, iv e]] = some ([.agg [iv a, iv b, iv c, iv d, iv e]], []) := by
  refine RUN_W T_laws_toNode rfl ?_
  simp [k_laws_toNode_ic, k_laws_toNode_rv]

@[simp] theorem R_laws_eqNode (a b c d e : Int) : RUN T k_laws_eqNode [.agg [iv a, iv b, iv c, iv d, iv e], .agg [iv a, iv b, iv c, iv d, iv e]] = some ([bv true], []) := by
  refine RUN_W T_laws_eqNode rfl ?_
  simp [k_laws_eqNode_ic, k_laws_eqNode_rv]

theorem R_laws_szNodeS (es : List (List PV)) (left : Int) (h0 : 0 ≤ left) (h1 : left ≤ 1048576) (hl : es.length ≤ 9223372036854775807) : RUN T k_laws_szNodeS [.sl 5 es, iv left] = some ([iv (if left - es.length < 0 then -1 else left - es.length)], []) := by
  refine RUN_W T_laws_szNodeS rfl ?_
  have e := w64 (x := left - es.length) (by omega) (by omega)
  simp [k_laws_szNodeS_ic, k_laws_szNodeS_rv, e]
  refine Br_i (fun h => ?_) (fun h => ?_) <;> simp at h <;> simp [h]
  omega

/-- The first place where something holds, -1 if there is none. -/
def fidx {α : Type} (p : α → Bool) (l : List α) : Int := match l.findIdx? p with
  | some i => (i : Int)
  | none => -1

/-- A node that has a node below it. -/
def above (k : Int) (n : Nd) : Bool := !decide (n.f = -1) && (decide (n.l = k) || decide (n.r = k))

def par (t : List Nd) (k : Int) : Int := fidx (above k) t

theorem wS {i n : Nat} (h : i < n) (hn : n ≤ 9223372036854775807) : IntKind.i64.wrap ((i : Int) + 1) = (i : Int) + 1 := w64 (by omega) (by omega)

theorem R_laws_szTree (es : List (List PV)) (left : Int) (h0 : 0 ≤ left) (h1 : left ≤ 1048576) (hl : es.length ≤ 9223372036854775807) : RUN T k_laws_szTree [.agg [.sl 5 es], iv left] = some ([iv (if left - es.length < 0 then -1 else left - es.length)], []) := by
  refine RUN_W T_laws_szTree rfl ?_
  have e := R_laws_szNodeS es left h0 h1 hl
  by_cases h : left - es.length < 0
  · simp only [h, if_true] at e ⊢
    simp [k_laws_szTree_ic, k_laws_szTree_rv, e]
    intro _; omega
  · simp only [h, if_false] at e ⊢
    simp [k_laws_szTree_ic, k_laws_szTree_rv, e]
    refine Br_i (fun b0 => ?_) (fun b0 => ?_) <;> (try simp at b0) <;> simp [-getElem?_pos, b0, ]
    omega

/-- A row that is filled from its beginning on. -/
def fil {α β : Type} (f : α → β) (z : β) (l : List α) (i : Nat) : List β := (l.take i).map f ++ List.replicate (l.length - i) z

theorem fil_set {α β : Type} {f : α → β} {l : List α} {z : β} {i : Nat} {x : α} (hx : l[i]? = some x) : (fil f z l i).set i (f x) = fil f z l (i + 1) := by
  unfold fil
  obtain ⟨h1, h2⟩ := List.getElem?_eq_some_iff.mp hx
  apply List.ext_getElem?
  intro j
  rw [List.getElem?_set]
  simp only [List.length_append, List.length_map, List.length_take, List.length_replicate]
  by_cases e : i = j
  · subst e
    rw [if_pos rfl, if_pos (by omega), List.getElem?_append_left (by simp; omega)]
    simp [List.getElem?_take, hx]
  · rw [if_neg e]
    by_cases hj : j < i
    · rw [List.getElem?_append_left (by simp; omega), List.getElem?_append_left (by simp; omega)]
      simp [List.getElem?_take, hj, show j < i + 1 by omega]
    · rw [List.getElem?_append_right (by simp; omega), List.getElem?_append_right (by simp; omega)]
      simp [List.getElem?_replicate]
      congr 1
      simp; omega

theorem fil_get {α β : Type} {f : α → β} {l : List α} {z : β} {i : Nat} (h : i < l.length) : (fil f z l i)[i]? = some z := by
  unfold fil
  rw [List.getElem?_append_right (by simp; omega)]
  simp [List.getElem?_replicate]; omega

theorem fil_len {α β : Type} {f : α → β} {l : List α} {z : β} {i : Nat} (h : i ≤ l.length) : (fil f z l i).length = l.length := by unfold fil; simp; omega

theorem fil_0 {α β : Type} {f : α → β} {l : List α} {z : β} : fil f z l 0 = List.replicate l.length z := by simp [fil]

theorem fil_all {α β : Type} {f : α → β} {l : List α} {z : β} {i : Nat} (h : i = l.length) : fil f z l i = l.map f := by subst h; simp [fil]

theorem R_laws_toNodeS (t : List Nd) (hl : t.length ≤ 1048576) : RUN T k_laws_toNodeS [.sl 5 (t.map nd)] = some ([.own 5 (t.map nd)], []) := by
  refine RUN_W T_laws_toNodeS rfl ?_
  have hr : roomFor 40 t.length = true := by simp [roomFor]; omega
  simp [k_laws_toNodeS_ic, k_laws_toNodeS_rv, hr]
  refine W_loop (fun n st => ∃ i : Nat, i + n = t.length ∧ st.V 0 = .sl 5 (t.map nd) ∧ st.V 3 = .ref 0 none 0 0 t.length ∧ st.V 4 = iv i ∧ st.ep = 0 ∧ st.S 0 = some (.row 5 (fil nd [iv 0, iv 0, iv 0, iv 0, iv 0] t i))) ?_ t.length _ ⟨0, by simp [fil_0]⟩
  rintro n st ⟨i, hi, h0, h3, h4, hep, hS⟩
  simp [k_laws_toNodeS_b0, h0, h3, h4, hS]
  refine Br_i (fun h => ?_) (fun h => ?_)
  · simp at h
    obtain ⟨x, hx2⟩ : ∃ x, t[i] = x := ⟨_, rfl⟩
    have hx : t[i]? = some x := by rw [← hx2]; exact List.getElem?_eq_getElem h
    have hw := wS h (by omega : t.length ≤ 9223372036854775807)
    have hg := fil_get (f := nd) (z := [iv 0, iv 0, iv 0, iv 0, iv 0]) h
    have hs := fil_set (f := nd) (z := [iv 0, iv 0, iv 0, iv 0, iv 0]) hx
    simp only [nd] at hs
    simp [-getElem?_pos, h0, h3, h4, hS, hep, h, hx, nd, hw, hg, hs, fil_len (Nat.le_of_lt h)]
    exact Rnd_n (n - 1) (by omega) ⟨i + 1, by omega, by simp [h0], by simp [h3], by simp, by simp, by simp⟩
  · simp at h
    have e := fil_all (f := nd) (z := [iv 0, iv 0, iv 0, iv 0, iv 0]) (by omega : i = t.length)
    simp [h3, hS, e]

theorem R_laws_toTree (t : List Nd) (hl : t.length ≤ 1048576) : RUN T k_laws_toTree [.agg [.sl 5 (t.map nd)]] = some ([.agg [.own 5 (t.map nd)]], []) := by
  refine RUN_W T_laws_toTree rfl ?_
  simp [k_laws_toTree_ic, k_laws_toTree_rv, R_laws_toNodeS t hl]

theorem R_laws_eqNodeS (t : List Nd) (hl : t.length ≤ 9223372036854775807) : RUN T k_laws_eqNodeS [.sl 5 (t.map nd), .sl 5 (t.map nd)] = some ([bv true], []) := by
  refine RUN_W T_laws_eqNodeS rfl ?_
  simp [k_laws_eqNodeS_ic, k_laws_eqNodeS_rv]
  refine W_loop (fun n st => ∃ i : Nat, i + n = t.length ∧ st.V 0 = .sl 5 (t.map nd) ∧ st.V 1 = .sl 5 (t.map nd) ∧ st.V 5 = iv i) ?_ t.length _ ⟨0, by simp⟩
  rintro n st ⟨i, hi, h0, h1, h5⟩
  simp [k_laws_eqNodeS_b0, h0, h1, h5]
  refine Br_i (fun h => ?_) (fun h => ?_)
  · simp at h
    obtain ⟨x, hx⟩ : ∃ x, t[i]? = some x := ⟨_, List.getElem?_eq_getElem h⟩
    have hw := wS h hl
    simp [-getElem?_pos, h0, h1, h5, h, hx, nd, hw]
    exact Rnd_n (n - 1) (by omega) ⟨i + 1, by omega, by simp [h0], by simp [h1], by simp⟩
  · simp

theorem R_laws_eqTree (t : List Nd) (hl : t.length ≤ 9223372036854775807) : RUN T k_laws_eqTree [.agg [.sl 5 (t.map nd)], .agg [.sl 5 (t.map nd)]] = some ([bv true], []) := by
  refine RUN_W T_laws_eqTree rfl ?_
  simp [k_laws_eqTree_ic, k_laws_eqTree_rv, R_laws_eqNodeS t hl]

def ints (l : List Int) : List (List PV) := l.map fun n => [iv n]

@[simp] theorem ints_len (l : List Int) : (ints l).length = l.length := by simp [ints]

theorem ints_get {l : List Int} {i : Nat} {x : Int} (h : l[i]? = some x) : (ints l)[i]? = some [iv x] := by simp [ints, h]

@[simp] theorem ints_nil : ints [] = [] := rfl

theorem ints_snoc (l : List Int) (x : Int) : ints l ++ [[iv x]] = ints (l ++ [x]) := by simp [ints]

/-- The nodes above a node, from it on, if they are fewer than a number. -/
def anc (t : List Nd) : Nat → Int → Option (List Int)
  | 0, _ => none
  | n + 1, k => if par t k < 0 then some [] else (anc t n (par t k)).map (par t k :: ·)

def way (t : List Nd) (k : Int) : List Int := if 0 ≤ k ∧ k ≤ t.length - 1 then match anc t 32 k with
    | some l => (k :: l).reverse
    | none => []
  else []

theorem room8 {n : Nat} (h : n ≤ 17592186044416) : roomFor 8 n = true := by simp [roomFor]; omega

theorem R_laws_toIntS (l : List Int) (hl : l.length ≤ 1048576) : RUN T k_laws_toIntS [.sl 1 (ints l)] = some ([.own 1 (ints l)], []) := by
  refine RUN_W T_laws_toIntS rfl ?_
  have hr : roomFor 8 l.length = true := room8 (by omega)
  simp [k_laws_toIntS_ic, k_laws_toIntS_rv, hr]
  refine W_loop (fun n st => ∃ i : Nat, i + n = l.length ∧ st.V 0 = .sl 1 (ints l) ∧ st.V 3 = .ref 0 none 0 0 l.length ∧ st.V 4 = iv i ∧ st.ep = 0 ∧ st.S 0 = some (.row 1 (fil (fun n => [iv n]) [iv 0] l i))) ?_ l.length _ ⟨0, by simp [fil_0]⟩
  rintro n st ⟨i, hi, h0, h3, h4, hep, hS⟩
  simp [k_laws_toIntS_b0, h0, h3, h4, hS]
  refine Br_i (fun h => ?_) (fun h => ?_)
  · simp at h
    obtain ⟨x, hx⟩ : ∃ x, l[i]? = some x := ⟨_, List.getElem?_eq_getElem h⟩
    have hw := wS h (by omega : l.length ≤ 9223372036854775807)
    have hg := fil_get (f := fun n => [iv n]) (z := [iv 0]) h
    have hs := fil_set (f := fun n => [iv n]) (z := [iv 0]) hx
    have hx' := ints_get hx
    simp [-getElem?_pos, h0, h3, h4, hS, hep, h, hx', hw, hg, hs, fil_len (Nat.le_of_lt h)]
    exact Rnd_n (n - 1) (by omega) ⟨i + 1, by omega, by simp [h0], by simp [h3], by simp, by simp, by simp⟩
  · simp at h
    have e := fil_all (f := fun n => [iv n]) (z := [iv 0]) (by omega : i = l.length)
    simp [h3, hS, e, ints]

theorem R_laws_eqIntS (l : List Int) (hl : l.length ≤ 9223372036854775807) : RUN T k_laws_eqIntS [.sl 1 (ints l), .sl 1 (ints l)] = some ([bv true], []) := by
  refine RUN_W T_laws_eqIntS rfl ?_
  simp [k_laws_eqIntS_ic, k_laws_eqIntS_rv]
  refine W_loop (fun n st => ∃ i : Nat, i + n = l.length ∧ st.V 0 = .sl 1 (ints l) ∧ st.V 1 = .sl 1 (ints l) ∧ st.V 5 = iv i) ?_ l.length _ ⟨0, by simp⟩
  rintro n st ⟨i, hi, h0, h1, h5⟩
  simp [k_laws_eqIntS_b0, h0, h1, h5]
  refine Br_i (fun h => ?_) (fun h => ?_)
  · simp at h
    obtain ⟨x, hx⟩ : ∃ x, l[i]? = some x := ⟨_, List.getElem?_eq_getElem h⟩
    have hw := wS h hl
    have hx' := ints_get hx
    simp [-getElem?_pos, h0, h1, h5, h, hx', hw]
    exact Rnd_n (n - 1) (by omega) ⟨i + 1, by omega, by simp [h0], by simp [h1], by simp⟩
  · simp

/-- The numbers from one on, so many. -/
def upto (k : Int) (n : Nat) : List Int := (List.range n).map fun (i : Nat) => k + (i : Int)

@[simp] theorem upto_len (k : Int) (n : Nat) : (upto k n).length = n := by simp [upto]

/-- The nodes that a row goes through. -/
def rt (t : List Nd) (row : List Int) : Nat → Int → Option (List Int)
  | 0, _ => none
  | n + 1, a => match (if 0 ≤ a then t[a.toNat]? else none) with
    | none => none
    | some x => if x.f = -1 then some [a] else match (if 0 ≤ x.f then row[x.f.toNat]? else none) with
      | none => none
      | some y => (rt t row n (if y ≤ x.c then x.l else x.r)).map (a :: ·)

theorem rt_out {t : List Nd} {row : List Int} {n : Nat} {a : Int} (h : a < 0 ∨ (t.length : Int) - 1 < a) : rt t row n a = none := by
  cases n with
  | zero => rfl
  | succ n =>
    rw [rt]
    have : (if 0 ≤ a then t[a.toNat]? else none) = none := by
      split
      · exact List.getElem?_eq_none (by omega)
      · rfl
    rw [this]

theorem rt_leaf {t : List Nd} {row : List Int} {n a : Nat} {x : Nd} (hx : t[a]? = some x) (h : x.f = -1) : rt t row (n + 1) a = some [(a : Int)] := by
  rw [rt]; simp [hx, h]

theorem rt_no {t : List Nd} {row : List Int} {n a : Nat} {x : Nd} (hx : t[a]? = some x) (h : x.f ≠ -1) (h2 : x.f < 0 ∨ (row.length : Int) - 1 < x.f) : rt t row (n + 1) a = none := by
  rw [rt]
  have : (if 0 ≤ x.f then row[x.f.toNat]? else none) = none := by
    split
    · exact List.getElem?_eq_none (by omega)
    · rfl
  simp [hx, h, this]

theorem rt_on {t : List Nd} {row : List Int} {n a f : Nat} {x : Nd} {y : Int} (hx : t[a]? = some x) (h : x.f = f) (hy : row[f]? = some y) : rt t row (n + 1) a = (rt t row n (if y ≤ x.c then x.l else x.r)).map ((a : Int) :: ·) := by
  rw [rt]
  have : x.f ≠ -1 := by omega
  simp [hx, this, h, hy]

def way2 (t : List Nd) (row : List Int) : List Int := (rt t row (t.length + 1) 0).getD []

theorem R_spec_l18Way (t : List Nd) (row : List Int) (hl : t.length ≤ 1048576) (hr : row.length ≤ 1048576) : RUN T k_spec_l18Way [.agg [.sl 5 (t.map nd)], .sl 1 (ints row)] = some ([.own 1 (ints (way2 t row))], []) := by
  refine RUN_W T_spec_l18Way rfl ?_
  simp [k_spec_l18Way_ic, k_spec_l18Way_rv]
  obtain ⟨r, hrr⟩ : ∃ r, r = rt t row (t.length + 1) 0 := ⟨_, rfl⟩
  unfold way2
  rw [← hrr]
  refine W_loop (fun n st => ∃ i : Nat, i + n = t.length + 1 ∧ ∃ (a : Int) (m : List Int) (o e : Nat), m.length = i ∧ (rt t row n a).map (m ++ ·) = r ∧ st.V 1 = .sl 1 (ints row) ∧ st.V 2 = .ptr 0 none 0 0 0 ∧ st.V 5 = .ref o none e 0 m.length ∧ st.V 6 = iv a ∧ st.V 7 = iv i ∧ 0 < o ∧ o < st.nx ∧ st.S o = some (.row 1 (ints m)) ∧ st.S 0 = some (.box [.sl 5 (t.map nd)])) ?_ (t.length + 1) _ ⟨0, by simp, 0, [], 1, 0, by simp [hrr]⟩
  rintro n st ⟨i, hi, a, m, o, e, hmi, hm, h1, h2, h5, h6, h7, ho, hox, hSo, hS⟩
  simp [k_spec_l18Way_b0, h1, h2, h5, h6, h7, hS]
  refine Br_i (fun h => ?_) (fun h => ?_)
  · simp at h
    obtain ⟨q, rfl⟩ : ∃ q, n = q + 1 := ⟨n - 1, by omega⟩
    have hw := w64 (x := (t.length : Int) - 1) (by omega) (by omega)
    have hwi := w64 (x := (i : Int) + 1) (by omega) (by omega)
    have hwr := w64 (x := (row.length : Int) - 1) (by omega) (by omega)
    simp [h1, h2, h5, h6, h7, hS, hw]
    refine Br_i (fun h3 => ?_) (fun h3 => ?_)
    · simp at h3
      rw [rt_out h3] at hm
      simp at hm
      simp [← hm]
    · have h3' : 0 ≤ a ∧ a ≤ (t.length : Int) - 1 := by simpa using h3
      obtain ⟨a, rfl⟩ : ∃ a' : Nat, a = a' := ⟨a.toNat, by omega⟩
      obtain ⟨x, hx⟩ : ∃ x, t[a]? = some x := ⟨_, List.getElem?_eq_getElem (by omega)⟩
      have z1 := fr hox
      have z2 := fr ho
      have z3 := fr (by omega : 0 < st.nx)
      have hr8 := room8 (n := m.length + 1) (by omega)
      simp [-getElem?_pos, h1, h2, h5, h6, h7, hS, hSo, z1, z2, z3, hx, nd, hr8, ints_snoc, hwr]
      refine Br_i (fun h4 => ?_) (fun h4 => ?_)
      · simp at h4
        rw [rt_leaf hx h4] at hm
        simp at hm
        simp [← hm]
      · simp at h4
        simp [-getElem?_pos, h1, h2, h5, h6, h7, hS, hSo, z1, z2, z3, hx, hr8, ints_snoc, hwr]
        refine Br_i (fun h8 => ?_) (fun h8 => ?_)
        · simp at h8
          rw [rt_no hx h4 h8] at hm
          simp at hm
          simp [← hm]
        · have h8' : 0 ≤ x.f ∧ x.f ≤ (row.length : Int) - 1 := by simpa using h8
          obtain ⟨f, hf⟩ : ∃ f : Nat, x.f = f := ⟨x.f.toNat, by omega⟩
          obtain ⟨y, hy⟩ : ∃ y, row[f]? = some y := ⟨_, List.getElem?_eq_getElem (by omega)⟩
          have hfl : f < row.length := by omega
          rw [rt_on hx hf hy] at hm
          have hy' := ints_get hy
          simp [-getElem?_pos, h1, h2, h5, h6, h7, hS, hSo, z1, z2, z3, hr8, ints_snoc, hwr, hf, hy', hfl, hwi]
          refine Br_i (fun b0 => ?_) (fun b0 => ?_) <;> (try simp at b0) <;> simp [-getElem?_pos, b0, h1, h2, h5, h6, h7, hS, hSo, z1, z2, z3, hf, hwi]
          all_goals
            refine Rnd_n q (by omega) ⟨i + 1, by omega, _, m ++ [(a : Int)], st.nx + 2, st.ep, by simp [hmi], ?_, by simp [h1], by simp [h2], by simp, by simp; rfl, by simp, by omega, by simp, by simp, by simp [z2, z3, hS]⟩
            rw [← hm]
            first | rw [if_pos b0] | rw [if_neg (by omega)]
            simp [Function.comp_def]
  · simp at h
    obtain rfl : n = 0 := by omega
    simp [rt] at hm
    simp [← hm]

theorem R_impl_route (t : List Nd) (row : List Int) (hl : t.length ≤ 1048576) (hr : row.length ≤ 1048576) : RUN T k_impl_route [.agg [.sl 5 (t.map nd)], .sl 1 (ints row)] = some ([.own 1 (ints (way2 t row))], []) := by
  refine RUN_W T_impl_route rfl ?_
  have hw1 := w64 (x := (t.length : Int) + 1) (by omega) (by omega)
  simp [k_impl_route_ic, k_impl_route_rv, hw1]
  obtain ⟨r, hrr⟩ : ∃ r, r = rt t row (t.length + 1) 0 := ⟨_, rfl⟩
  unfold way2
  rw [← hrr]
  refine W_loop (fun n st => ∃ i : Nat, i + n = t.length + 1 ∧ ∃ (a : Int) (m : List Int) (o e : Nat), m.length = i ∧ (rt t row n a).map (m ++ ·) = r ∧ st.V 1 = .sl 1 (ints row) ∧ st.V 2 = .ptr 0 none 0 0 0 ∧ st.V 5 = .ref o none e 0 m.length ∧ st.V 6 = iv a ∧ st.V 13 = iv i ∧ st.V 12 = iv ((t.length : Int) + 1) ∧ 0 < o ∧ o < st.nx ∧ st.S o = some (.row 1 (ints m)) ∧ st.S 0 = some (.box [.sl 5 (t.map nd)])) ?_ (t.length + 1) _ ⟨0, by simp, 0, [], 1, 0, by simp [hrr]⟩
  rintro n st ⟨i, hi, a, m, o, e, hmi, hm, h1, h2, h5, h6, h13, h12, ho, hox, hSo, hS⟩
  simp [k_impl_route_b0, h13, h12]
  refine Br_i (fun h => ?_) (fun h => ?_)
  · simp at h
    obtain ⟨q, rfl⟩ : ∃ q, n = q + 1 := ⟨n - 1, by omega⟩
    have hw := w64 (x := (t.length : Int) - 1) (by omega) (by omega)
    have hwi := w64 (x := (i : Int) + 1) (by omega) (by omega)
    have hwr := w64 (x := (row.length : Int) - 1) (by omega) (by omega)
    simp [h1, h2, h5, h6, hS, hw]
    refine Br_i (fun h3 => ?_) (fun h3 => ?_)
    · simp at h3
      rw [rt_out h3] at hm
      simp at hm
      simp [← hm]
    · have h3' : 0 ≤ a ∧ a ≤ (t.length : Int) - 1 := by simpa using h3
      obtain ⟨a, rfl⟩ : ∃ a' : Nat, a = a' := ⟨a.toNat, by omega⟩
      obtain ⟨x, hx⟩ : ∃ x, t[a]? = some x := ⟨_, List.getElem?_eq_getElem (by omega)⟩
      have z1 := fr hox
      have z2 := fr ho
      have z3 := fr (by omega : 0 < st.nx)
      have hr8 := room8 (n := m.length + 1) (by omega)
      simp [-getElem?_pos, h1, h2, h5, h6, hS, hSo, z1, z2, z3, hx, nd, hr8, ints_snoc, hwr]
      refine Br_i (fun h4 => ?_) (fun h4 => ?_)
      · simp at h4
        rw [rt_leaf hx h4] at hm
        simp at hm
        simp [← hm]
      · simp at h4
        simp [-getElem?_pos, h1, h2, h5, h6, hS, hSo, z1, z2, z3, hx, hr8, ints_snoc, hwr]
        refine Br_i (fun h8 => ?_) (fun h8 => ?_)
        · simp at h8
          rw [rt_no hx h4 h8] at hm
          simp at hm
          simp [← hm]
        · have h8' : 0 ≤ x.f ∧ x.f ≤ (row.length : Int) - 1 := by simpa using h8
          obtain ⟨f, hf⟩ : ∃ f : Nat, x.f = f := ⟨x.f.toNat, by omega⟩
          obtain ⟨y, hy⟩ : ∃ y, row[f]? = some y := ⟨_, List.getElem?_eq_getElem (by omega)⟩
          have hfl : f < row.length := by omega
          rw [rt_on hx hf hy] at hm
          have hy' := ints_get hy
          simp [-getElem?_pos, h1, h2, h5, h6, h13, h12, hS, hSo, z1, z2, z3, hr8, ints_snoc, hwr, hf, hy', hfl, hwi]
          refine Br_i (fun b0 => ?_) (fun b0 => ?_) <;> (try simp at b0) <;> simp [-getElem?_pos, b0, h1, h2, h5, h6, h13, h12, hS, hSo, z1, z2, z3, hf, hwi]
          all_goals
            refine Rnd_n q (by omega) ⟨i + 1, by omega, _, m ++ [(a : Int)], st.nx + 2, st.ep, by simp [hmi], ?_, by simp [h1], by simp [h2], by simp, by simp; rfl, by simp, by simp [h12], by omega, by simp, by simp, by simp [z2, z3, hS]⟩
            rw [← hm]
            first | rw [if_pos b0] | rw [if_neg (by omega)]
            simp [Function.comp_def]
  · simp at h
    obtain rfl : n = 0 := by omega
    simp [rt] at hm
    simp [← hm]

theorem rt_len (t : List Nd) (row : List Int) : ∀ (n : Nat) (a : Int) (l : List Int), rt t row n a = some l → l.length ≤ n ∧ l ≠ [] ∧ ∀ k ∈ l, 0 ≤ k ∧ k < t.length
  | 0, _, _, h => by cases h
  | n + 1, a, l, h => by
    rw [rt] at h
    have ha : ∀ x, (if 0 ≤ a then t[a.toNat]? else none) = some x → 0 ≤ a ∧ a < t.length := by
      intro x hx
      split at hx
      · have := (List.getElem?_eq_some_iff.mp hx).1; omega
      · cases hx
    split at h
    · cases h
    · rename_i x hx
      have hax := ha x hx
      split at h
      · cases h; simpa using hax
      · split at h
        · cases h
        · simp only [Option.map_eq_some_iff] at h
          obtain ⟨m, hm, rfl⟩ := h
          have := rt_len t row n _ m hm
          refine ⟨by simp; omega, by simp, fun k hk => ?_⟩
          rcases List.mem_cons.mp hk with e | e
          · subst e; exact hax
          · exact this.2.2 k e

theorem way2_len (t : List Nd) (row : List Int) : (way2 t row).length ≤ t.length + 1 ∧ ∀ k ∈ way2 t row, 0 ≤ k ∧ k < t.length := by
  unfold way2
  cases h : rt t row (t.length + 1) 0 with
  | none => simp
  | some l => have := rt_len t row _ _ l h; exact ⟨this.1, this.2.2⟩

def rto (t : List Nd) (row : List Int) : Int := ((way2 t row).getLast?).getD (-1)

theorem rto_range {t : List Nd} {row : List Int} : rto t row = -1 ∨ ∃ i : Nat, rto t row = i ∧ i < t.length := by
  unfold rto
  cases h : (way2 t row).getLast? with
  | none => exact .inl rfl
  | some k =>
    have := (way2_len t row).2 k (List.mem_of_getLast? h)
    exact .inr ⟨k.toNat, by simp; omega, by omega⟩

theorem R_spec_RouteTo (t : List Nd) (row : List Int) (hl : t.length ≤ 1048576) (hr : row.length ≤ 1048576) : RUN T k_spec_RouteTo [.agg [.sl 5 (t.map nd)], .sl 1 (ints row)] = some ([iv (rto t row)], []) := by
  refine RUN_W T_spec_RouteTo rfl ?_
  have hw := (way2_len t row).1
  simp [k_spec_RouteTo_ic, k_spec_RouteTo_rv, R_spec_l18Way t row hl hr]
  refine Br_i (fun h => ?_) (fun h => ?_)
  · simp at h
    simp [rto, h]
  · simp at h
    obtain ⟨l, x, hlx⟩ : ∃ l x, way2 t row = l ++ [x] := ⟨_, _, (List.dropLast_concat_getLast h).symm⟩
    have e1 : rto t row = x := by simp [rto, hlx]
    rw [e1]
    rw [hlx] at hw ⊢
    simp at hw
    have hwr : IntKind.i64.wrap (l.length : Int) = (l.length : Int) := w64 (by omega) (by omega)
    have hg := ints_get (l := l ++ [x]) (i := l.length) (x := x) (by simp)
    simp [-getElem?_pos, hwr, hg]

theorem R_impl_RouteTo (t : List Nd) (row : List Int) (hl : t.length ≤ 1048576) (hr : row.length ≤ 1048576) : RUN T k_impl_RouteTo [.agg [.sl 5 (t.map nd)], .sl 1 (ints row)] = some ([iv (rto t row)], []) := by
  refine RUN_W T_impl_RouteTo rfl ?_
  have hw := (way2_len t row).1
  simp [k_impl_RouteTo_ic, k_impl_RouteTo_rv, R_impl_route t row hl hr]
  refine Br_i (fun h => ?_) (fun h => ?_)
  · simp at h
    simp [rto, h]
  · simp at h
    obtain ⟨l, x, hlx⟩ : ∃ l x, way2 t row = l ++ [x] := ⟨_, _, (List.dropLast_concat_getLast h).symm⟩
    have e1 : rto t row = x := by simp [rto, hlx]
    rw [e1]
    rw [hlx] at hw ⊢
    simp at hw
    have hwr : IntKind.i64.wrap (l.length : Int) = (l.length : Int) := w64 (by omega) (by omega)
    have hg := ints_get (l := l ++ [x]) (i := l.length) (x := x) (by simp)
    simp [-getElem?_pos, hwr, hg]

def evt (t : List Nd) (row : List Int) : Int := if rto t row < 0 then 0 else ((t[(rto t row).toNat]?).map (·.v)).getD 0

theorem R_spec_EvalTree (t : List Nd) (row : List Int) (hl : t.length ≤ 1048576) (hr : row.length ≤ 1048576) : RUN T k_spec_EvalTree [.agg [.sl 5 (t.map nd)], .sl 1 (ints row)] = some ([iv (evt t row)], []) := by
  refine RUN_W T_spec_EvalTree rfl ?_
  simp [k_spec_EvalTree_ic, k_spec_EvalTree_rv, R_spec_RouteTo t row hl hr]
  unfold evt
  rcases rto_range (t := t) (row := row) with h | ⟨i, h, hi⟩
  · simp [h]
  · obtain ⟨x, hx⟩ : ∃ x, t[i]? = some x := ⟨_, List.getElem?_eq_getElem hi⟩
    rw [h]
    have h0 : ¬ ((i : Int) < 0) := by omega
    simp [-getElem?_pos, h0, hx, nd]

theorem R_impl_EvalTree (t : List Nd) (row : List Int) (hl : t.length ≤ 1048576) (hr : row.length ≤ 1048576) : RUN T k_impl_EvalTree [.agg [.sl 5 (t.map nd)], .sl 1 (ints row)] = some ([iv (evt t row)], []) := by
  refine RUN_W T_impl_EvalTree rfl ?_
  simp [k_impl_EvalTree_ic, k_impl_EvalTree_rv, R_impl_RouteTo t row hl hr]
  unfold evt
  rcases rto_range (t := t) (row := row) with h | ⟨i, h, hi⟩
  · simp [h]
  · obtain ⟨x, hx⟩ : ∃ x, t[i]? = some x := ⟨_, List.getElem?_eq_getElem hi⟩
    rw [h]
    have h0 : ¬ ((i : Int) < 0) := by omega
    simp [-getElem?_pos, h0, hx, nd]

theorem law_FnExactEvalTree (t : List Nd) (row : List Int) (hl : t.length ≤ 9223372036854775807) : RUN T k_laws_FnExactEvalTree [.agg [.sl 5 (t.map nd)], .sl 1 (ints row)] = some ([bv true], []) := by
  refine RUN_W T_laws_FnExactEvalTree rfl ?_
  have hs := R_laws_szTree (t.map nd) 1048576 (by omega) (by omega) (by simpa using hl)
  simp at hs
  by_cases hr : (row.length : Int) > 1048576
  · simp [k_laws_FnExactEvalTree_ic, k_laws_FnExactEvalTree_rv, hr]
  by_cases h : (1048576 : Int) - t.length < 0
  · rw [if_pos (by omega)] at hs
    simp [k_laws_FnExactEvalTree_ic, k_laws_FnExactEvalTree_rv, hs, hr]
  · rw [if_neg (by omega)] at hs
    have ht := R_laws_toTree t (by omega)
    have a2 := R_laws_eqTree t (by omega)
    have a3 := R_laws_toIntS row (by omega)
    have a4 := R_laws_eqIntS row (by omega)
    simp [k_laws_FnExactEvalTree_ic, k_laws_FnExactEvalTree_rv, hs, ht, R_spec_EvalTree t row (by omega) (by omega), R_impl_EvalTree t row (by omega) (by omega), a2, a3, a4, h, hr]

def inI (n : Int) : Prop := -9223372036854775808 ≤ n ∧ n ≤ 9223372036854775807

/-- The range of a feature's values along a way. -/
def box (t : List Nd) (f : Int) : List Int → Int → Int → Int × Int
  | a :: b :: r, lo, hi => match t[a.toNat]? with
    | none => (lo, hi)
    | some x => if x.f = f then (if x.l = b then box t f (b :: r) lo (min hi x.c) else if x.c = 9223372036854775807 then box t f (b :: r) lo hi else box t f (b :: r) (max lo (x.c + 1)) hi) else box t f (b :: r) lo hi
  | _, lo, hi => (lo, hi)

def wfN (n : Nd) : Prop := inI n.f ∧ inI n.c ∧ inI n.l ∧ inI n.r ∧ inI n.v

theorem wf64 {n : Int} (h : (Lit.int .i64 n).wf = true) : -9223372036854775808 ≤ n ∧ n ≤ 9223372036854775807 := bounds_i64 h

theorem rows_of {α : Type} {f : α → List PV} {p : α → Prop} {tys : List TY} (h : ∀ cs, ShpL tys cs → ∃ a, f a = cs ∧ p a) : ∀ {es : List (List PV)}, (∀ cs ∈ es, ShpL tys cs) → ∃ l : List α, l.map f = es ∧ ∀ a ∈ l, p a
  | [], _ => ⟨[], rfl, by simp⟩
  | e :: es, hs => by
    obtain ⟨a, ha, hp⟩ := h e (hs e (by simp))
    obtain ⟨l, hl, hq⟩ := rows_of h (es := es) (fun cs hc => hs cs (by simp [hc]))
    refine ⟨a :: l, by simp [ha, hl], fun b hb => ?_⟩
    rcases List.mem_cons.mp hb with e | e
    · subst e; exact hp
    · exact hq b e

abbrev tyNd : List TY := [.int .i64, .int .i64, .int .i64, .int .i64, .int .i64]

theorem shp_nd (cs : List PV) (h : ShpL tyNd cs) : ∃ n : Nd, nd n = cs ∧ wfN n := by
  simp only [ShpL, Shp] at h
  obtain ⟨_, _, rfl, ⟨a, rfl, h1⟩, _, _, rfl, ⟨b, rfl, h2⟩, _, _, rfl, ⟨c, rfl, h3⟩, _, _, rfl, ⟨d, rfl, h4⟩, _, _, rfl, ⟨e, rfl, h5⟩, rfl⟩ := h
  exact ⟨⟨a, b, c, d, e⟩, rfl, wf64 h1, wf64 h2, wf64 h3, wf64 h4, wf64 h5⟩

theorem shp_tree {c : PV} (h : ShpA true [.sl tyNd] c) : ∃ t : List Nd, c = .agg [.sl 5 (t.map nd)] ∧ t.length ≤ 9223372036854775807 ∧ ∀ n ∈ t, wfN n := by
  obtain ⟨cs, rfl, h⟩ := h
  simp only [ShpL, Shp] at h
  obtain ⟨_, _, rfl, ⟨es, rfl, h1, h2⟩, rfl⟩ := h
  obtain ⟨t, rfl, hp⟩ := rows_of shp_nd h2
  simp [maxLen] at h1
  exact ⟨t, rfl, by omega, hp⟩

theorem shp_intL (cs : List PV) (h : ShpL [.int .i64] cs) : ∃ n : Int, [iv n] = cs ∧ inI n := by
  simp only [ShpL, Shp] at h
  obtain ⟨_, _, rfl, ⟨a, rfl, h1⟩, rfl⟩ := h
  exact ⟨a, rfl, wf64 h1⟩

theorem shp_ints {c : PV} (h : ShpA false [.sl [.int .i64]] c) : ∃ l : List Int, c = .sl 1 (ints l) ∧ l.length ≤ 9223372036854775807 ∧ ∀ n ∈ l, inI n := by
  simp only [ShpA, Bool.false_eq_true, if_false, ShpL, Shp] at h
  obtain ⟨c', r, e, ⟨es, he, h1, h2⟩, hr⟩ := h
  simp only [List.cons.injEq] at e
  obtain ⟨l, hl, hp⟩ := rows_of (f := fun n : Int => [iv n]) (tys := [.int .i64]) shp_intL h2
  subst hl
  simp [maxLen] at h1
  exact ⟨l, e.1.trans he, by omega, hp⟩

theorem of_all {P : Program} {l : List TypeId} (h : (l.all fun t => P.readableRec t && decide (t < P.types.size)) = true) : ∀ t ∈ l, P.readableRec t = true ∧ t < P.types.size := by
  intro t ht
  have := List.all_eq_true.mp h t ht
  simpa using this

theorem args2 {p q : Bool × List TY} {pvs : List PV} (h : All2 (fun p c => ShpA p.1 p.2 c) [p, q] pvs) : ∃ a b, pvs = [a, b] ∧ ShpA p.1 p.2 a ∧ ShpA q.1 q.2 b := by
  cases h with
  | cons h1 t => cases t with
    | cons h2 t => cases t with
      | nil => exact ⟨_, _, rfl, h1, h2⟩

end Go.Pe
