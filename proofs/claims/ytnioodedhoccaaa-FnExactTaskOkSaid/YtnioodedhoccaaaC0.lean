/- What each function answers by the evaluator, and the law; for each answer its own conditions stand ahead of it. -/
import Derived.Test.YtnioodedhoccaaaK0
import Derived.Test.YtnioodedhoccaaaEvB1
import Derived.IntWalk
set_option linter.all false
namespace Go.Pe
open Go
theorem w64 {x : Int} (h1 : -9223372036854775808 ≤ x) (h2 : x ≤ 9223372036854775807) : IntKind.i64.wrap x = x := IntWalk.i64_in x ⟨h1, h2⟩

@[simp] theorem w64s {x : Int} (h1 : -9223372036854775808 ≤ x) (h2 : x ≤ 9223372036854775807) : IntKind.i64.wrap x = x := w64 h1 h2

structure Nd where
  f : Int
  c : Int
  l : Int
  r : Int
  v : Int
deriving DecidableEq

@[simp] theorem R_impl_within (a b c : Int) : RUN T k_impl_within [iv a, iv b, iv c] = some ([bv (decide (b ≤ a) && decide (a ≤ c))], []) := by
  refine RUN_W T_impl_within rfl ?_
  simp [k_impl_within_ic, k_impl_within_rv]
  refine Br_i (fun h => ?_) (fun h => ?_) <;> simp [h]

@[simp] theorem R_spec_l1In (a b c : Int) : RUN T k_spec_l1In [iv a, iv b, iv c] = some ([bv (decide (b ≤ a) && decide (a ≤ c))], []) := by
  refine RUN_W T_spec_l1In rfl ?_
  simp [k_spec_l1In_ic, k_spec_l1In_rv]
  refine Br_i (fun h => ?_) (fun h => ?_) <;> simp [h]

/-- The first place where something holds, -1 if there is none. -/
def fidx {α : Type} (p : α → Bool) (l : List α) : Int := match l.findIdx? p with
  | some i => (i : Int)
  | none => -1

theorem fidx_none {α : Type} {p : α → Bool} {l : List α} (h : ∀ (j : Nat) (x : α), j < l.length → l[j]? = some x → p x = false) : fidx p l = -1 := by
  unfold fidx
  have : l.findIdx? p = none := by
    rw [List.findIdx?_eq_none_iff]
    intro x hx
    obtain ⟨j, hj⟩ := List.getElem?_of_mem hx
    exact h j x (List.getElem?_eq_some_iff.mp hj).1 hj
  rw [this]

theorem fidx_some {α : Type} {p : α → Bool} {l : List α} {i : Nat} {x : α} (hi : l[i]? = some x) (hp : p x = true) (h : ∀ (j : Nat) (x : α), j < i → l[j]? = some x → p x = false) : fidx p l = i := by
  unfold fidx
  have : l.findIdx? p = some i := by
    rw [List.findIdx?_eq_some_iff_getElem]
    obtain ⟨h1, h2⟩ := List.getElem?_eq_some_iff.mp hi
    refine ⟨h1, by rw [h2]; exact hp, fun j hj => ?_⟩
    have := h j l[j] hj (List.getElem?_eq_getElem (by omega))
    simp [this]
  rw [this]

theorem no_snoc {α : Type} {p : α → Bool} {l : List α} {i : Nat} {x : α} (h : ∀ (j : Nat) (x : α), j < i → l[j]? = some x → p x = false) (hi : l[i]? = some x) (hp : p x = false) : ∀ (j : Nat) (x : α), j < i + 1 → l[j]? = some x → p x = false := by
  intro j y hj hy
  by_cases e : j = i
  · subst e; rw [hi] at hy; cases hy; exact hp
  · exact h j y (by omega) hy

/-- A node that has a node below it. -/
def above (k : Int) (n : Nd) : Bool := !decide (n.f = -1) && (decide (n.l = k) || decide (n.r = k))

def par (t : List Nd) (k : Int) : Int := fidx (above k) t

theorem wS {i n : Nat} (h : i < n) (hn : n ≤ 9223372036854775807) : IntKind.i64.wrap ((i : Int) + 1) = (i : Int) + 1 := w64 (by omega) (by omega)

/-- A row that is filled from its beginning on. -/
def fil {α β : Type} (f : α → β) (z : β) (l : List α) (i : Nat) : List β := (l.take i).map f ++ List.replicate (l.length - i) z

theorem fil_set {α β : Type} {f : α → β} {l : List α} {z : β} {i : Nat} {x : α} (hx : l[i]? = some x) : (fil f z l i).set i (f x) = fil f z l (i + 1) := by
  unfold fil
  obtain ⟨h1, h2⟩ := List.getElem?_eq_some_iff.mp hx
  apply List.ext_getElem?
  intro j
  rw [List.getElem?_set]
  simp only [List.length_append, List.length_map, List.length_take, List.length_replicate]
  by_cases e : i = j
  · subst e
    rw [if_pos rfl, if_pos (by omega), List.getElem?_append_left (by simp; omega)]
    simp [List.getElem?_take, hx]
  · rw [if_neg e]
    by_cases hj : j < i
    · rw [List.getElem?_append_left (by simp; omega), List.getElem?_append_left (by simp; omega)]
      simp [List.getElem?_take, hj, show j < i + 1 by omega]
    · rw [List.getElem?_append_right (by simp; omega), List.getElem?_append_right (by simp; omega)]
      simp [List.getElem?_replicate]
      congr 1
      simp; omega

theorem fil_get {α β : Type} {f : α → β} {l : List α} {z : β} {i : Nat} (h : i < l.length) : (fil f z l i)[i]? = some z := by
  unfold fil
  rw [List.getElem?_append_right (by simp; omega)]
  simp [List.getElem?_replicate]; omega

theorem fil_len {α β : Type} {f : α → β} {l : List α} {z : β} {i : Nat} (h : i ≤ l.length) : (fil f z l i).length = l.length := by unfold fil; simp; omega

theorem fil_0 {α β : Type} {f : α → β} {l : List α} {z : β} : fil f z l 0 = List.replicate l.length z := by simp [fil]

theorem fil_all {α β : Type} {f : α → β} {l : List α} {z : β} {i : Nat} (h : i = l.length) : fil f z l i = l.map f := by subst h; simp [fil]

def ints (l : List Int) : List (List PV) := l.map fun n => [iv n]

@[simp] theorem ints_len (l : List Int) : (ints l).length = l.length := by simp [ints]

theorem ints_get {l : List Int} {i : Nat} {x : Int} (h : l[i]? = some x) : (ints l)[i]? = some [iv x] := by simp [ints, h]

@[simp] theorem ints_nil : ints [] = [] := rfl

theorem ints_cons (x : Int) (l : List Int) : ints (x :: l) = [iv x] :: ints l := rfl

/-- The nodes above a node, from it on, if they are fewer than a number. -/
def anc (t : List Nd) : Nat → Int → Option (List Int)
  | 0, _ => none
  | n + 1, k => if par t k < 0 then some [] else (anc t n (par t k)).map (par t k :: ·)

def way (t : List Nd) (k : Int) : List Int := if 0 ≤ k ∧ k ≤ t.length - 1 then match anc t 32 k with
    | some l => (k :: l).reverse
    | none => []
  else []

theorem room8 {n : Nat} (h : n ≤ 17592186044416) : roomFor 8 n = true := by simp [roomFor]; omega

theorem R_laws_szIntS (es : List (List PV)) (left : Int) (h0 : 0 ≤ left) (h1 : left ≤ 1048576) (hl : es.length ≤ 9223372036854775807) : RUN T k_laws_szIntS [.sl 1 es, iv left] = some ([iv (if left - es.length < 0 then -1 else left - es.length)], []) := by
  refine RUN_W T_laws_szIntS rfl ?_
  have e := w64 (x := left - es.length) (by omega) (by omega)
  simp [k_laws_szIntS_ic, k_laws_szIntS_rv, e]
  refine Br_i (fun h => ?_) (fun h => ?_) <;> simp at h <;> simp [h]
  omega

theorem R_laws_toIntS (l : List Int) (hl : l.length ≤ 1048576) : RUN T k_laws_toIntS [.sl 1 (ints l)] = some ([.own 1 (ints l)], []) := by
  refine RUN_W T_laws_toIntS rfl ?_
  have hr : roomFor 8 l.length = true := room8 (by omega)
  simp [k_laws_toIntS_ic, k_laws_toIntS_rv, hr]
  refine W_loop (fun n st => ∃ i : Nat, i + n = l.length ∧ st.V 0 = .sl 1 (ints l) ∧ st.V 3 = .ref 0 none 0 0 l.length ∧ st.V 4 = iv i ∧ st.ep = 0 ∧ st.S 0 = some (.row 1 (fil (fun n => [iv n]) [iv 0] l i))) ?_ l.length _ ⟨0, by simp [fil_0]⟩
  rintro n st ⟨i, hi, h0, h3, h4, hep, hS⟩
  simp [k_laws_toIntS_b0, h0, h3, h4, hS]
  refine Br_i (fun h => ?_) (fun h => ?_)
  · simp at h
    obtain ⟨x, hx⟩ : ∃ x, l[i]? = some x := ⟨_, List.getElem?_eq_getElem h⟩
    have hw := wS h (by omega : l.length ≤ 9223372036854775807)
    have hg := fil_get (f := fun n => [iv n]) (z := [iv 0]) h
    have hs := fil_set (f := fun n => [iv n]) (z := [iv 0]) hx
    have hx' := ints_get hx
    simp [-getElem?_pos, h0, h3, h4, hS, hep, h, hx', hw, hg, hs, fil_len (Nat.le_of_lt h)]
    exact Rnd_n (n - 1) (by omega) ⟨i + 1, by omega, by simp [h0], by simp [h3], by simp, by simp, by simp⟩
  · simp at h
    have e := fil_all (f := fun n => [iv n]) (z := [iv 0]) (by omega : i = l.length)
    simp [h3, hS, e, ints]

theorem R_laws_eqIntS (l : List Int) (hl : l.length ≤ 9223372036854775807) : RUN T k_laws_eqIntS [.sl 1 (ints l), .sl 1 (ints l)] = some ([bv true], []) := by
  refine RUN_W T_laws_eqIntS rfl ?_
  simp [k_laws_eqIntS_ic, k_laws_eqIntS_rv]
  refine W_loop (fun n st => ∃ i : Nat, i + n = l.length ∧ st.V 0 = .sl 1 (ints l) ∧ st.V 1 = .sl 1 (ints l) ∧ st.V 5 = iv i) ?_ l.length _ ⟨0, by simp⟩
  rintro n st ⟨i, hi, h0, h1, h5⟩
  simp [k_laws_eqIntS_b0, h0, h1, h5]
  refine Br_i (fun h => ?_) (fun h => ?_)
  · simp at h
    obtain ⟨x, hx⟩ : ∃ x, l[i]? = some x := ⟨_, List.getElem?_eq_getElem h⟩
    have hw := wS h hl
    have hx' := ints_get hx
    simp [-getElem?_pos, h0, h1, h5, h, hx', hw]
    exact Rnd_n (n - 1) (by omega) ⟨i + 1, by omega, by simp [h0], by simp [h1], by simp⟩
  · simp

/-- The numbers from one on, so many. -/
def upto (k : Int) (n : Nat) : List Int := (List.range n).map fun (i : Nat) => k + (i : Int)

@[simp] theorem upto_len (k : Int) (n : Nat) : (upto k n).length = n := by simp [upto]

theorem drop_cons {α : Type} {l : List α} {i : Nat} {x : α} (h : l[i]? = some x) : l.drop i = x :: l.drop (i + 1) := by
  obtain ⟨h1, h2⟩ := List.getElem?_eq_some_iff.mp h
  rw [List.drop_eq_getElem_cons h1, h2]

def inI (n : Int) : Prop := -9223372036854775808 ≤ n ∧ n ≤ 9223372036854775807

/-- The range of a feature's values along a way. -/
def box (t : List Nd) (f : Int) : List Int → Int → Int → Int × Int
  | a :: b :: r, lo, hi => match t[a.toNat]? with
    | none => (lo, hi)
    | some x => if x.f = f then (if x.l = b then box t f (b :: r) lo (min hi x.c) else if x.c = 9223372036854775807 then box t f (b :: r) lo hi else box t f (b :: r) (max lo (x.c + 1)) hi) else box t f (b :: r) lo hi
  | _, lo, hi => (lo, hi)

theorem R_slices_IndexFunc_int {f : Nat} {p : Int → Bool} (l : List Int) (hl : l.length ≤ 9223372036854775807) (hm : modesOf T f = []) (hp : ∀ n ∈ l, RUN T f [iv n] = some ([bv (p n)], [])) :
    RUN T k_slices_IndexFunc___int_int_ [.sl 1 (ints l), .fn f []] = some ([iv (fidx p l)], []) := by
  refine RUN_W T_slices_IndexFunc___int_int_ rfl ?_
  simp [k_slices_IndexFunc___int_int__ic, k_slices_IndexFunc___int_int__rv]
  refine W_loop (fun n st => ∃ i : Nat, i + n = l.length ∧ st.V 0 = .sl 1 (ints l) ∧ st.V 1 = .fn f [] ∧ st.V 8 = iv i ∧ st.V 7 = iv l.length ∧ ∀ (j : Nat) (x : Int), j < i → l[j]? = some x → p x = false) ?_ l.length _ ⟨0, by simp⟩
  rintro n st ⟨i, hi, h0, h1, h8, h7, hj⟩
  simp [k_slices_IndexFunc___int_int__b0, h0, h1, h8, h7]
  refine Br_i (fun h => ?_) (fun h => ?_)
  · simp at h
    obtain ⟨x, hx⟩ : ∃ x, l[i]? = some x := ⟨_, List.getElem?_eq_getElem h⟩
    have hw := wS h hl
    have hx' := ints_get hx
    have hpx := hp x (List.mem_of_getElem? hx)
    simp [-getElem?_pos, h0, h1, h8, h7, hx', hw, hm, hpx, h]
    refine Br_i (fun b0 => ?_) (fun b0 => ?_) <;> (try simp at b0) <;> simp [-getElem?_pos, b0, h0, h1, h8, h7, hx', hw]
    all_goals first
      | exact (fidx_some hx b0 hj).symm
      | exact Rnd_n (n - 1) (by omega) ⟨i + 1, by omega, by simp [h0], by simp [h1], by simp, by simp [h7], no_snoc hj hx b0⟩
  · simp at h
    simp [h]
    exact (fidx_none fun j x hl hx => hj j x (by omega) hx).symm

theorem fidx_neg {α : Type} {p : α → Bool} {l : List α} : decide (0 ≤ fidx p l) = l.any p := by
  unfold fidx
  cases h : l.findIdx? p with
  | none =>
    rw [List.findIdx?_eq_none_iff] at h
    simp
    exact fun x hx => h x hx
  | some i =>
    obtain ⟨h1, h2, _⟩ := List.findIdx?_eq_some_iff_getElem.mp h
    simp
    exact ⟨_, List.getElem_mem h1, h2⟩

theorem R_slices_ContainsFunc_int {f : Nat} {p : Int → Bool} (l : List Int) (hl : l.length ≤ 9223372036854775807) (hm : modesOf T f = []) (hp : ∀ n ∈ l, RUN T f [iv n] = some ([bv (p n)], [])) :
    RUN T k_slices_ContainsFunc___int_int_ [.sl 1 (ints l), .fn f []] = some ([bv (l.any p)], []) := by
  refine RUN_W T_slices_ContainsFunc___int_int_ rfl ?_
  have e := R_slices_IndexFunc_int l hl hm hp
  simp [k_slices_ContainsFunc___int_int__ic, k_slices_ContainsFunc___int_int__rv, e, fidx_neg]

structure Cfg where
  ro : Int
  de : Int
  bi : Int
  la : Int
  rw : Int
  nu : Int
  dn : Int
  sg : List Int

def within (n a b : Int) : Bool := decide (a ≤ n) && decide (n ≤ b)

def cfgOk (c : Cfg) : Bool := within c.ro 1 8 && within c.de 0 4 && within c.bi 2 8 && within c.la 1 100 && within c.rw 1 20 && within c.dn 1 1000 && within c.nu 1 c.dn && decide ((c.sg.length : Int) ≤ 4) && c.sg.all fun n => within n (-1) 1

@[simp] theorem R_impl_isSign (n : Int) : RUN T k_impl_isSign [iv n] = some ([bv (within n (-1) 1)], []) := by
  refine RUN_W T_impl_isSign rfl ?_
  simp [k_impl_isSign_ic, k_impl_isSign_rv, within]

@[simp] theorem R_impl_ConfigOk_1 (n : Int) : RUN T k_impl_ConfigOk_1 [iv n] = some ([bv (!within n (-1) 1)], []) := by
  refine RUN_W T_impl_ConfigOk_1 rfl ?_
  simp [k_impl_ConfigOk_1_ic, k_impl_ConfigOk_1_rv]

theorem R_impl_within' (a b c : Int) : RUN T k_impl_within [iv a, iv b, iv c] = some ([bv (within a b c)], []) := R_impl_within a b c

theorem R_spec_l1In' (a b c : Int) : RUN T k_spec_l1In [iv a, iv b, iv c] = some ([bv (within a b c)], []) := R_spec_l1In a b c

theorem R_impl_ConfigOk (c : Cfg) (hl : c.sg.length ≤ 9223372036854775807) : RUN T k_impl_ConfigOk [.agg [iv c.ro, iv c.de, iv c.bi, iv c.la, iv c.rw, iv c.nu, iv c.dn, .sl 1 (ints c.sg)]] = some ([bv (cfgOk c)], []) := by
  refine RUN_W T_impl_ConfigOk rfl ?_
  have e := R_slices_ContainsFunc_int (f := k_impl_ConfigOk_1) (p := fun n => !within n (-1) 1) c.sg hl (by simp) (fun n _ => R_impl_ConfigOk_1 n)
  have e2 : ∀ l : List Int, (l.any fun n => !within n (-1) 1) = !(l.all fun n => within n (-1) 1) := by intro l; induction l <;> simp_all
  rw [e2] at e
  simp [k_impl_ConfigOk_ic, k_impl_ConfigOk_rv, R_impl_within', -R_impl_within]
  cases h0 : within c.ro 1 8 <;> cases h1 : within c.de 0 4 <;> simp [h0, h1, R_impl_within', -R_impl_within]
  all_goals try (simp [cfgOk, h0, h1]; done)
  cases h2 : within c.bi 2 8 <;> cases h3 : within c.la 1 100 <;> simp [h2, h3, R_impl_within', -R_impl_within]
  all_goals try (simp [cfgOk, h2, h3]; done)
  cases h4 : within c.rw 1 20 <;> cases h5 : within c.dn 1 1000 <;> simp [h4, h5, R_impl_within', -R_impl_within]
  all_goals try (simp [cfgOk, h4, h5]; done)
  cases h6 : within c.nu 1 c.dn <;> simp [h6, R_impl_within', -R_impl_within]
  all_goals try (simp [cfgOk, h6]; done)
  by_cases h7 : (c.sg.length : Int) ≤ 4
  · simp [h7, e, cfgOk, h0, h1, h2, h3, h4, h5, h6]
  · simp [h7, cfgOk]

theorem W_five {m : Nat → List Bool} {R : Oracle} {c : IC} {st : St} {Q : Ex → St → Prop} (h : W m R c st (Nx (fun s => W m R (.loop c) s Q) Q ⟨⟩ ⟨⟩)) : W m R (.loop c) st Q := W_loop1 ▸ h

theorem R_spec_l8Numbers (a b c d e f g : Int) (x : PV) (sg : List (List PV)) : RUN T k_spec_l8Numbers [.agg [iv a, iv b, iv c, iv d, iv e, iv f, iv g, .sl 1 sg]] = some ([.own 1 (ints [a, b, c, d, e])], []) := by
  refine RUN_W T_spec_l8Numbers rfl ?_
  simp [k_spec_l8Numbers_ic, k_spec_l8Numbers_rv, ints]

theorem R_spec_l8Least : RUN T k_spec_l8Least [] = some ([.own 1 (ints [1, 0, 2, 1, 1])], []) := by
  refine RUN_W T_spec_l8Least rfl ?_
  simp [k_spec_l8Least_ic, k_spec_l8Least_rv, ints]

theorem R_spec_l8Most : RUN T k_spec_l8Most [] = some ([.own 1 (ints [8, 4, 8, 100, 20])], []) := by
  refine RUN_W T_spec_l8Most rfl ?_
  simp [k_spec_l8Most_ic, k_spec_l8Most_rv, ints]

theorem R_spec_ConfigOk (c : Cfg) (hl : c.sg.length ≤ 9223372036854775807) : RUN T k_spec_ConfigOk [.agg [iv c.ro, iv c.de, iv c.bi, iv c.la, iv c.rw, iv c.nu, iv c.dn, .sl 1 (ints c.sg)]] = some ([bv (cfgOk c)], []) := by
  refine RUN_W T_spec_ConfigOk rfl ?_
  have e1 := R_spec_l8Numbers c.ro c.de c.bi c.la c.rw c.nu c.dn .undef (ints c.sg)
  simp [k_spec_ConfigOk_ic, k_spec_ConfigOk_rv, e1]
  refine W_five ?_
  simp [k_spec_ConfigOk_b0, R_spec_l8Least, R_spec_l8Most, R_spec_l1In', -R_spec_l1In, ints_cons]
  cases h0 : within c.ro 1 8 <;> simp [h0]
  · simp [cfgOk, h0]
  refine W_five ?_
  simp [k_spec_ConfigOk_b0, R_spec_l8Least, R_spec_l8Most, R_spec_l1In', -R_spec_l1In, ints_cons]
  cases h1 : within c.de 0 4 <;> simp [h1]
  · simp [cfgOk, h1]
  refine W_five ?_
  simp [k_spec_ConfigOk_b0, R_spec_l8Least, R_spec_l8Most, R_spec_l1In', -R_spec_l1In, ints_cons]
  cases h2 : within c.bi 2 8 <;> simp [h2]
  · simp [cfgOk, h2]
  refine W_five ?_
  simp [k_spec_ConfigOk_b0, R_spec_l8Least, R_spec_l8Most, R_spec_l1In', -R_spec_l1In, ints_cons]
  cases h3 : within c.la 1 100 <;> simp [h3]
  · simp [cfgOk, h3]
  refine W_five ?_
  simp [k_spec_ConfigOk_b0, R_spec_l8Least, R_spec_l8Most, R_spec_l1In', -R_spec_l1In, ints_cons]
  cases h4 : within c.rw 1 20 <;> simp [h4]
  · simp [cfgOk, h4]
  refine W_five ?_
  simp [k_spec_ConfigOk_b0]
  refine W_loop (fun n st => ∃ i : Nat, i + n = c.sg.length ∧ st.V 1 = .ptr 0 none 0 0 0 ∧ st.V 5 = iv i ∧ st.S 0 = some (.box [iv c.ro, iv c.de, iv c.bi, iv c.la, iv c.rw, iv c.nu, iv c.dn, .sl 1 (ints c.sg)]) ∧ ∀ (j : Nat) (x : Int), j < i → c.sg[j]? = some x → within x (-1) 1 = true) ?_ c.sg.length _ ⟨0, by simp⟩
  rintro n st ⟨i, hi, h1', h5, hS, hj⟩
  simp [k_spec_ConfigOk_b1, h1', h5, hS]
  refine Br_i (fun h => ?_) (fun h => ?_)
  · simp at h
    obtain ⟨x, hx⟩ : ∃ x, c.sg[i]? = some x := ⟨_, List.getElem?_eq_getElem h⟩
    have hw := wS h hl
    have hx' := ints_get hx
    simp [-getElem?_pos, h1', h5, hS, hx', hw, h, R_spec_l1In', -R_spec_l1In]
    cases hb : within x (-1) 1 with
    | true =>
      simp [-getElem?_pos, h1', h5, hS, hw]
      refine Rnd_n (n - 1) (by omega) ⟨i + 1, by omega, by simp [h1'], by simp, by simp [hS], fun j y hj' hy => ?_⟩
      by_cases e : j = i
      · subst e; rw [hx] at hy; cases hy; exact hb
      · exact hj j y (by omega) hy
    | false =>
      simp [cfgOk]
      intros
      exact ⟨x, List.mem_of_getElem? hx, hb⟩
  · simp at h
    have hall : (c.sg.all fun n => within n (-1) 1) = true := by
      rw [List.all_eq_true]
      intro x hx
      obtain ⟨j, hj'⟩ := List.getElem?_of_mem hx
      exact hj j x (by have := (List.getElem?_eq_some_iff.mp hj').1; omega) hj'
    simp [h1', hS, R_spec_l1In', -R_spec_l1In]
    cases h5 : within c.dn 1 1000 <;> simp [h1', hS, h5, R_spec_l1In', -R_spec_l1In]
    · simp [cfgOk, h5]
    cases h6 : within c.nu 1 c.dn <;> simp [h1', hS, h6, R_spec_l1In', -R_spec_l1In]
    · simp [cfgOk, h6]
    simp [cfgOk, h0, h1, h2, h3, h4, h5, h6, hall]

abbrev cfgS (c : Cfg) : PV := .agg [iv c.ro, iv c.de, iv c.bi, iv c.la, iv c.rw, iv c.nu, iv c.dn, .sl 1 (ints c.sg)]

abbrev cfgO (c : Cfg) : PV := .agg [iv c.ro, iv c.de, iv c.bi, iv c.la, iv c.rw, iv c.nu, iv c.dn, .own 1 (ints c.sg)]

theorem within_iff {n a b : Int} : within n a b = true ↔ a ≤ n ∧ n ≤ b := by simp [within]

theorem R_laws_szConfig (c : Cfg) (left : Int) (h0 : 0 ≤ left) (h1 : left ≤ 1048576) (hl : c.sg.length ≤ 9223372036854775807) : RUN T k_laws_szConfig [cfgS c, iv left] = some ([iv (if left - c.sg.length < 0 then -1 else left - c.sg.length)], []) := by
  refine RUN_W T_laws_szConfig rfl ?_
  have e := R_laws_szIntS (ints c.sg) left h0 h1 (by simpa using hl)
  simp only [ints_len] at e
  by_cases h : left - c.sg.length < 0
  · simp only [h, if_true] at e ⊢
    simp [k_laws_szConfig_ic, k_laws_szConfig_rv, e]
    intro _; omega
  · simp only [h, if_false] at e ⊢
    simp [k_laws_szConfig_ic, k_laws_szConfig_rv, e, h]

theorem R_laws_toConfig (c : Cfg) (hl : c.sg.length ≤ 1048576) : RUN T k_laws_toConfig [cfgS c] = some ([cfgO c], []) := by
  refine RUN_W T_laws_toConfig rfl ?_
  simp [k_laws_toConfig_ic, k_laws_toConfig_rv, R_laws_toIntS c.sg hl]

theorem R_laws_eqConfig (c : Cfg) (hl : c.sg.length ≤ 9223372036854775807) : RUN T k_laws_eqConfig [cfgS c, cfgS c] = some ([bv true], []) := by
  refine RUN_W T_laws_eqConfig rfl ?_
  simp [k_laws_eqConfig_ic, k_laws_eqConfig_rv, R_laws_eqIntS c.sg hl]

def decV (n : Int) : Bool := within n (-2147483647) 2147483647

@[simp] theorem R_spec_l6Value (v : Int) : RUN T k_spec_l6Value [iv v] = some ([bv (decV v)], []) := by
  refine RUN_W T_spec_l6Value rfl ?_
  simp [k_spec_l6Value_ic, k_spec_l6Value_rv, decV, within]

@[simp] theorem R_impl_isDecimal (v : Int) : RUN T k_impl_isDecimal [iv v] = some ([bv (decV v)], []) := by
  refine RUN_W T_impl_isDecimal rfl ?_
  simp [k_impl_isDecimal_ic, k_impl_isDecimal_rv, decV, within]

/-- Two beside each other in a list. -/
def adj (p : Int → Int → Bool) : List Int → Bool
  | a :: b :: r => p a b || adj p (b :: r)
  | _ => false

theorem adj_get {p : Int → Int → Bool} : ∀ {l : List Int}, adj p l = true ↔ ∃ (i : Nat) (a b : Int), l[i]? = some a ∧ l[i + 1]? = some b ∧ p a b = true
  | [] => by simp [adj]
  | [x] => by simp [adj]
  | x :: y :: r => by
    simp only [adj, Bool.or_eq_true]
    rw [adj_get (l := y :: r)]
    constructor
    · rintro (h | ⟨i, a, b, h1, h2, h3⟩)
      · exact ⟨0, x, y, rfl, rfl, h⟩
      · exact ⟨i + 1, a, b, by simpa using h1, by simpa using h2, h3⟩
    · rintro ⟨i, a, b, h1, h2, h3⟩
      cases i with
      | zero => simp at h1 h2; subst h1; subst h2; exact .inl h3
      | succ i => exact .inr ⟨i, a, b, by simpa using h1, by simpa using h2, h3⟩

theorem snoc_all {α : Type} {P : Nat → α → Prop} {l : List α} {i : Nat} {x : α} (h : ∀ (j : Nat) (x : α), j < i → l[j]? = some x → P j x) (hi : l[i]? = some x) (hp : P i x) : ∀ (j : Nat) (x : α), j < i + 1 → l[j]? = some x → P j x := by
  intro j y hj hy
  by_cases e : j = i
  · subst e; rw [hi] at hy; cases hy; exact hp
  · exact h j y (by omega) hy

/-- A row within rows: a slice's own, or one that is read. -/
def cel (q : Bool) (l : List Int) : PV := if q then .own 1 (ints l) else .sl 1 (ints l)

@[simp] theorem fz_cel (q : Bool) (l : List Int) : fz (cel q l) = .sl 1 (ints l) := by cases q <;> simp [cel]

def rws (q : Bool) (L : List (List Int)) : List (List PV) := L.map fun l => [cel q l]

@[simp] theorem rws_len (q : Bool) (L : List (List Int)) : (rws q L).length = L.length := by simp [rws]

theorem rws_get {q : Bool} {L : List (List Int)} {i : Nat} {l : List Int} (h : L[i]? = some l) : (rws q L)[i]? = some [cel q l] := by simp [rws, h]

@[simp] theorem R_impl_areDecimals_1 (n : Int) : RUN T k_impl_areDecimals_1 [iv n] = some ([bv (!decV n)], []) := by
  refine RUN_W T_impl_areDecimals_1 rfl ?_
  simp [k_impl_areDecimals_1_ic, k_impl_areDecimals_1_rv]

theorem R_impl_areDecimals (l : List Int) (hl : l.length ≤ 9223372036854775807) : RUN T k_impl_areDecimals [.sl 1 (ints l)] = some ([bv (l.all decV)], []) := by
  refine RUN_W T_impl_areDecimals rfl ?_
  have e := R_slices_ContainsFunc_int (f := k_impl_areDecimals_1) (p := fun n => !decV n) l hl (by simp) (fun n _ => by simp)
  simp [k_impl_areDecimals_ic, k_impl_areDecimals_rv, e]
  simp [List.any_eq_not_all_not]

def cutsB (l : List Int) : Bool := !adj (fun a b => decide (b ≤ a)) l && l.all decV && decide ((l.length : Int) ≤ 7)

theorem adj_no {p : Int → Int → Bool} {l : List Int} (h : ∀ (j : Nat) (a b : Int), l[j]? = some a → l[j + 1]? = some b → p a b = false) : adj p l = false := by
  cases e : adj p l with
  | false => rfl
  | true =>
    obtain ⟨j, a, b, h1, h2, h3⟩ := adj_get.mp e
    rw [h j a b h1 h2] at h3; cases h3

theorem adj_yes {p : Int → Int → Bool} {l : List Int} {j : Nat} {a b : Int} (h1 : l[j]? = some a) (h2 : l[j + 1]? = some b) (h3 : p a b = true) : adj p l = true := adj_get.mpr ⟨j, a, b, h1, h2, h3⟩

theorem all_no {l : List Int} {p : Int → Bool} {j : Nat} {a : Int} (h1 : l[j]? = some a) (h2 : p a = false) : l.all p = false := by
  cases e : l.all p with
  | false => rfl
  | true => rw [List.all_eq_true.mp e a (List.mem_of_getElem? h1)] at h2; cases h2

theorem all_yes {l : List Int} {p : Int → Bool} (h : ∀ (j : Nat) (a : Int), j < l.length → l[j]? = some a → p a = true) : l.all p = true := by
  rw [List.all_eq_true]
  intro x hx
  obtain ⟨j, hj⟩ := List.getElem?_of_mem hx
  exact h j x (List.getElem?_eq_some_iff.mp hj).1 hj

theorem R_impl_CutsOk (l : List Int) (hl : l.length ≤ 9223372036854775807) : RUN T k_impl_CutsOk [.sl 1 (ints l)] = some ([bv (cutsB l)], []) := by
  refine RUN_W T_impl_CutsOk rfl ?_
  have hd := R_impl_areDecimals l hl
  simp [k_impl_CutsOk_ic, k_impl_CutsOk_rv]
  refine W_loop (fun n st => ∃ i : Nat, i + n = l.length + 1 ∧ 1 ≤ i ∧ st.V 0 = .sl 1 (ints l) ∧ st.V 3 = iv i ∧ ∀ (j : Nat) (a b : Int), j + 1 < i → l[j]? = some a → l[j + 1]? = some b → decide (b ≤ a) = false) ?_ l.length _ ⟨1, by omega, by omega, by simp, by simp, fun j a b h => by omega⟩
  rintro n st ⟨i, hi, h1, v0, v3, hj⟩
  simp [k_impl_CutsOk_b0, v0, v3]
  refine Br_i (fun h => ?_) (fun h => ?_)
  · simp at h
    obtain ⟨k, rfl⟩ : ∃ k, i = k + 1 := ⟨i - 1, by omega⟩
    obtain ⟨a, ha⟩ : ∃ a, l[k]? = some a := ⟨_, List.getElem?_eq_getElem (by omega)⟩
    obtain ⟨b, hb⟩ : ∃ b, l[k + 1]? = some b := ⟨_, List.getElem?_eq_getElem h⟩
    have ha' := ints_get ha
    have hb' := ints_get hb
    have hw : IntKind.i64.wrap ((k : Int) + 1 + 1) = (k : Int) + 1 + 1 := w64 (by omega) (by omega)
    have hw1 : IntKind.i64.wrap (k : Int) = k := w64 (by omega) (by omega)
    have hkl : k < l.length := by omega
    simp [-getElem?_pos, v0, v3, ha', hb', hw1, h, hkl]
    refine Br_i (fun h2 => ?_) (fun h2 => ?_)
    · simp at h2
      have : cutsB l = false := by unfold cutsB; rw [adj_yes ha hb (by simpa using h2)]; rfl
      simp [this]
    · simp at h2
      simp [-getElem?_pos, v0, v3, hw]
      refine Rnd_n (n - 1) (by omega) ⟨k + 2, by omega, by omega, by simp [v0], by simp; omega, fun j x y hjk hx hy => ?_⟩
      by_cases e : j = k
      · subst e; rw [ha] at hx; rw [hb] at hy; cases hx; cases hy; simp; omega
      · exact hj j x y (by omega) hx hy
  · simp at h
    have e : adj (fun a b => decide (b ≤ a)) l = false := adj_no fun j a b h1 h2 => hj j a b (by have := (List.getElem?_eq_some_iff.mp h2).1; omega) h1 h2
    unfold cutsB
    rw [e]
    by_cases c : (l.length : Int) ≤ 7
    · simp [v0, hd, c]
    · simp [v0, c]

theorem R_spec_CutsOk (l : List Int) (hl : l.length ≤ 9223372036854775807) : RUN T k_spec_CutsOk [.sl 1 (ints l)] = some ([bv (cutsB l)], []) := by
  refine RUN_W T_spec_CutsOk rfl ?_
  simp [k_spec_CutsOk_ic, k_spec_CutsOk_rv]
  refine W_loop (fun n st => ∃ i : Nat, i + n = l.length ∧ st.V 0 = .sl 1 (ints l) ∧ st.V 3 = iv i ∧ (∀ (j : Nat) (a : Int), j < i → l[j]? = some a → decV a = true) ∧ ∀ (j : Nat) (a b : Int), j + 1 < i → l[j]? = some a → l[j + 1]? = some b → decide (b ≤ a) = false) ?_ l.length _ ⟨0, by simp⟩
  rintro n st ⟨i, hi, v0, v3, hd, hj⟩
  simp [k_spec_CutsOk_b0, v0, v3]
  refine Br_i (fun h => ?_) (fun h => ?_)
  · simp at h
    obtain ⟨b, hb⟩ : ∃ b, l[i]? = some b := ⟨_, List.getElem?_eq_getElem h⟩
    have hb' := ints_get hb
    have hw := wS h hl
    rcases Bool.eq_false_or_eq_true (decV b) with d | d
    · have hd' := snoc_all (P := fun _ a => decV a = true) hd hb d
      rcases i with _ | k
      · simp [-getElem?_pos, v0, v3, hb', d, h, hw]
        exact Rnd_n (n - 1) (by omega) ⟨1, by omega, by simp [v0], by simp, by simpa using hd', fun j x y hjk hx hy => by omega⟩
      · obtain ⟨a, ha⟩ : ∃ a, l[k]? = some a := ⟨_, List.getElem?_eq_getElem (by omega)⟩
        have ha' := ints_get ha
        have hw : IntKind.i64.wrap ((k : Int) + 1 + 1) = (k : Int) + 1 + 1 := w64 (by omega) (by omega)
        have hw1 : IntKind.i64.wrap (k : Int) = k := w64 (by omega) (by omega)
        have hkl : k < l.length := by omega
        have hk0 : (0 : Int) < ((k + 1 : Nat) : Int) := by omega
        rcases Classical.propComplete (b ≤ a) with c | c
        · have : cutsB l = false := by unfold cutsB; rw [adj_yes ha hb (by simp [c])]; rfl
          simp [-getElem?_pos, v0, v3, ha', hb', d, h, hw, hw1, hkl, hk0, c, this]
        · simp [-getElem?_pos, v0, v3, ha', hb', d, h, hw, hw1, hkl, hk0, c]
          refine Rnd_n (n - 1) (by omega) ⟨k + 2, by omega, by simp [v0], by simp; omega, hd', fun j x y hjk hx hy => ?_⟩
          by_cases e : j = k
          · subst e; rw [ha] at hx; rw [hb] at hy; cases hx; cases hy; simp [c]
          · exact hj j x y (by omega) hx hy
    · have : cutsB l = false := by unfold cutsB; rw [all_no hb d]; simp
      simp [-getElem?_pos, v0, v3, hb', d, h, this]
  · simp at h
    have e : adj (fun a b => decide (b ≤ a)) l = false := adj_no fun j a b h1 h2 => hj j a b (by have := (List.getElem?_eq_some_iff.mp h2).1; omega) h1 h2
    have e2 : l.all decV = true := all_yes fun j a h1 h2 => hd j a (by omega) h2
    unfold cutsB
    rw [e, e2]
    simp [v0]

def rowsIn : List (List Int) → Nat
  | [] => 0
  | l :: _ => l.length

theorem R_spec_RowsIn (q : Bool) (c v : List (List Int)) : RUN T k_spec_RowsIn [.agg [.sl 1 (rws q c), .sl 1 (rws q v)]] = some ([iv (rowsIn v)], []) := by
  refine RUN_W T_spec_RowsIn rfl ?_
  cases v with
  | nil => simp [k_spec_RowsIn_ic, k_spec_RowsIn_rv, rowsIn]
  | cons l L =>
    have h : rws q (l :: L) = [cel q l] :: rws q L := rfl
    have h0 : ((L.length : Int) + 1 = 0) = False := eq_false (by omega)
    simp [h0, k_spec_RowsIn_ic, k_spec_RowsIn_rv, rowsIn, h]

theorem R_impl_RowsIn (q : Bool) (c v : List (List Int)) : RUN T k_impl_RowsIn [.agg [.sl 1 (rws q c), .sl 1 (rws q v)]] = some ([iv (rowsIn v)], []) := by
  refine RUN_W T_impl_RowsIn rfl ?_
  cases v with
  | nil => simp [k_impl_RowsIn_ic, k_impl_RowsIn_rv, rowsIn]
  | cons l L =>
    have h : rws q (l :: L) = [cel q l] :: rws q L := rfl
    have h0 : ((L.length : Int) + 1 = 0) = False := eq_false (by omega)
    simp [h0, k_impl_RowsIn_ic, k_impl_RowsIn_rv, rowsIn, h]

theorem R_slices_IndexFunc_int_c {f : Nat} {c : PV} {p : Int → Bool} (l : List Int) (hl : l.length ≤ 9223372036854775807) (hm : modesOf T f = []) (hp : ∀ n ∈ l, RUN T f [iv n, .fptr [c] 0] = some ([bv (p n)], [])) :
    RUN T k_slices_IndexFunc___int_int_ [.sl 1 (ints l), .fn f [.fptr [c] 0]] = some ([iv (fidx p l)], []) := by
  refine RUN_W T_slices_IndexFunc___int_int_ rfl ?_
  simp [k_slices_IndexFunc___int_int__ic, k_slices_IndexFunc___int_int__rv]
  refine W_loop (fun n st => ∃ i : Nat, i + n = l.length ∧ st.V 0 = .sl 1 (ints l) ∧ st.V 1 = .fn f [.fptr [c] 0] ∧ st.V 8 = iv i ∧ st.V 7 = iv l.length ∧ ∀ (j : Nat) (x : Int), j < i → l[j]? = some x → p x = false) ?_ l.length _ ⟨0, by simp⟩
  rintro n st ⟨i, hi, h0, h1, h8, h7, hj⟩
  simp [k_slices_IndexFunc___int_int__b0, h0, h1, h8, h7]
  refine Br_i (fun h => ?_) (fun h => ?_)
  · simp at h
    obtain ⟨x, hx⟩ : ∃ x, l[i]? = some x := ⟨_, List.getElem?_eq_getElem h⟩
    have hw := wS h hl
    have hx' := ints_get hx
    have hpx := hp x (List.mem_of_getElem? hx)
    simp [-getElem?_pos, h0, h1, h8, h7, hx', hw, hm, hpx, h]
    refine Br_i (fun b0 => ?_) (fun b0 => ?_) <;> (try simp at b0) <;> simp [-getElem?_pos, b0, h0, h1, h8, h7, hx', hw]
    all_goals first
      | exact (fidx_some hx b0 hj).symm
      | exact Rnd_n (n - 1) (by omega) ⟨i + 1, by omega, by simp [h0], by simp [h1], by simp, by simp [h7], no_snoc hj hx b0⟩
  · simp at h
    simp [h]
    exact (fidx_none fun j x hl hx => hj j x (by omega) hx).symm

theorem R_slices_ContainsFunc_int_c {f : Nat} {c : PV} {p : Int → Bool} (l : List Int) (hl : l.length ≤ 9223372036854775807) (hm : modesOf T f = []) (hp : ∀ n ∈ l, RUN T f [iv n, .fptr [c] 0] = some ([bv (p n)], [])) :
    RUN T k_slices_ContainsFunc___int_int_ [.sl 1 (ints l), .fn f [.fptr [c] 0]] = some ([bv (l.any p)], []) := by
  refine RUN_W T_slices_ContainsFunc___int_int_ rfl ?_
  have e := R_slices_IndexFunc_int_c l hl hm hp
  simp [k_slices_ContainsFunc___int_int__ic, k_slices_ContainsFunc___int_int__rv, e, fidx_neg]

@[simp] theorem R_impl_GridOk_1 (n : Int) (a : List Int) : RUN T k_impl_GridOk_1 [iv n, .fptr [.sl 1 (ints a)] 0] = some ([bv (!within n 0 a.length)], []) := by
  refine RUN_W T_impl_GridOk_1 rfl ?_
  simp [k_impl_GridOk_1_ic, k_impl_GridOk_1_rv, R_impl_within', -R_impl_within]

theorem yv_gu {s : St} {d : Option Dst} {op : IOp} {g : Opd} {v : Bool} {x : PV} : (yv s ⟨d, op, some (g, v)⟩ = some x) = (Ob' (guardP v (g.get s)) fun t => Br t (WI (fun _ => []) (fun _ _ => none) op s (fun y _ => y = x)) (PV.v Go.undef = x)) := by
  simp only [yv, evG_some, WI, Ob', Br, Option.map_eq_some_iff, Option.bind_eq_some_iff, eq_iff_iff]
  constructor
  · rintro ⟨⟨y, s'⟩, ⟨t, h1, h2⟩, h3⟩
    refine ⟨t, h1, fun ht => ?_, fun ht => ?_⟩ <;> subst ht
    · exact ⟨y, s', by simpa using h2, h3⟩
    · simp at h2; obtain ⟨rfl, rfl⟩ := h2; exact h3
  · rintro ⟨t, h1, h2, h3⟩
    cases t with
    | true => obtain ⟨y, s', h4, h5⟩ := h2 rfl; exact ⟨(y, s'), ⟨true, h1, by simpa using h4⟩, h5⟩
    | false => exact ⟨_, ⟨false, h1, rfl⟩, h3 rfl⟩

@[simp] theorem chkTodo_g {s : St} {d : Option Dst} {op : IOp} {g : Opd} {v : Bool} {x : PV} {n : Nat} {r : List (IOper × PV × Nat)} : chkTodo s ((⟨d, op, some (g, v)⟩, x, n + 1) :: r) = ((Ob' (guardP v (g.get s)) fun t => Br t (WI (fun _ => []) (fun _ _ => none) op s (fun y _ => y = x)) (PV.v Go.undef = x)) ∧ chkTodo s r) := by
  simp only [chkTodo, yv_gu]

@[simp] theorem chkPast_g {V E : Nat → PV} {d : Option Dst} {op : IOp} {g : Opd} {v : Bool} {x : PV} {n : Nat} {s : St} {ms : List St} : chkPast V E ⟨d, op, some (g, v)⟩ x (n + 1) (s :: ms) = ((Ob' (guardP v (g.get { s with V := V, E := E })) fun t => Br t (WI (fun _ => []) (fun _ _ => none) op { s with V := V, E := E } (fun y _ => y = x)) (PV.v Go.undef = x)) ∧ chkPast V E ⟨d, op, some (g, v)⟩ x n ms) := by
  simp only [chkPast, yv_gu]

def featB (c v : List (List Int)) (f : Nat) : Bool := match c[f]?, v[f]? with
  | some a, some b => cutsB a && decide ((b.length : Int) = rowsIn v) && b.all fun x => within x 0 a.length
  | _, _ => true

def gridB (c v : List (List Int)) : Bool := within c.length 1 4 && decide ((v.length : Int) = c.length) && within (rowsIn v) 1 40 && (List.range c.length).all (featB c v)

theorem gridB_eq {c v : List (List Int)} (h1 : within c.length 1 4 = true) (h2 : (v.length : Int) = c.length) (h3 : within (rowsIn v) 1 40 = true) : gridB c v = (List.range c.length).all (featB c v) := by
  simp [gridB, h1, h2, h3]

theorem range_all {p : Nat → Bool} {n : Nat} (h : ∀ i, i < n → p i = true) : (List.range n).all p = true := by
  rw [List.all_eq_true]
  intro x hx
  exact h x (by simpa using hx)

theorem range_no {p : Nat → Bool} {n i : Nat} (hi : i < n) (h : p i = false) : (List.range n).all p = false := by
  cases e : (List.range n).all p with
  | false => rfl
  | true => rw [List.all_eq_true.mp e i (by simpa using hi)] at h; cases h

theorem featB_eq {c v : List (List Int)} {f : Nat} {a b : List Int} (ha : c[f]? = some a) (hb : v[f]? = some b) : featB c v f = (cutsB a && decide ((b.length : Int) = rowsIn v) && b.all fun x => within x 0 a.length) := by
  simp [featB, ha, hb]

theorem snoc_nat {P : Nat → Prop} {i : Nat} (h : ∀ j, j < i → P j) (hi : P i) : ∀ j, j < i + 1 → P j := by
  intro j hj
  by_cases e : j = i
  · subst e; exact hi
  · exact h j (by omega)

set_option maxHeartbeats 1000000 in
theorem R_impl_GridOk (q : Bool) (c v : List (List Int)) (hc : ∀ l ∈ c, l.length ≤ 9223372036854775807) (hv : ∀ l ∈ v, l.length ≤ 9223372036854775807) : RUN T k_impl_GridOk [.agg [.sl 1 (rws q c), .sl 1 (rws q v)]] = some ([bv (gridB c v)], []) := by
  refine RUN_W T_impl_GridOk rfl ?_
  have hR := R_impl_RowsIn q c v
  by_cases h1 : within c.length 1 4 = true
  case neg => simp [k_impl_GridOk_ic, k_impl_GridOk_rv, R_impl_within', -R_impl_within, h1, gridB]
  by_cases h2 : (v.length : Int) = c.length
  case neg => simp [k_impl_GridOk_ic, k_impl_GridOk_rv, R_impl_within', -R_impl_within, h1, h2, gridB]
  by_cases h3 : within (rowsIn v) 1 40 = true
  case neg => simp [k_impl_GridOk_ic, k_impl_GridOk_rv, R_impl_within', -R_impl_within, h1, h2, h3, hR, gridB]
  have h1' := within_iff.mp h1
  rw [gridB_eq h1 h2 h3]
  simp [k_impl_GridOk_ic, k_impl_GridOk_rv, R_impl_within', -R_impl_within, h1, h2, h3, hR]
  refine W_loop (fun n st => ∃ i : Nat, i + n = c.length ∧ (∀ j, j < i → featB c v j = true) ∧ st.V 1 = .ptr 0 none 0 0 0 ∧ st.V 26 = .sl 1 (rws q c) ∧ st.V 27 = iv c.length ∧ st.V 28 = iv i ∧ 0 < st.nx ∧ st.S 0 = some (.box [.sl 1 (rws q c), .sl 1 (rws q v)])) ?_ c.length _ ⟨0, by simp⟩
  rintro n st ⟨i, hi, hk, v1, v26, v27, v28, hnx, hS⟩
  simp [k_impl_GridOk_b0, v26, v27, v28]
  have z := fr hnx
  refine Br_i (fun h => ?_) (fun h => ?_)
  · simp at h
    obtain ⟨a, ha⟩ : ∃ a, c[i]? = some a := ⟨_, List.getElem?_eq_getElem h⟩
    obtain ⟨b, hb⟩ : ∃ b, v[i]? = some b := ⟨_, List.getElem?_eq_getElem (by omega)⟩
    have ha' := rws_get (q := q) ha
    have hb' := rws_get (q := q) hb
    have hal := hc a (List.mem_of_getElem? ha)
    have hbl := hv b (List.mem_of_getElem? hb)
    have hC := R_impl_CutsOk a hal
    have hF := R_slices_ContainsFunc_int_c (f := k_impl_GridOk_1) (c := .sl 1 (ints a)) (p := fun n => !within n 0 a.length) b hbl (by simp) (fun n _ => by simp)
    have hw := wS h (by omega : c.length ≤ 9223372036854775807)
    have hiv : i < v.length := by omega
    have hfe := featB_eq ha hb
    by_cases d1 : cutsB a = true
    · rcases Classical.propComplete ((b.length : Int) = rowsIn v) with d2 | d2
      · by_cases d3 : (b.all fun x => within x 0 a.length) = true
        · have d3' : (b.any fun n => !within n 0 a.length) = false := by simpa [List.any_eq_not_all_not] using d3
          simp [-getElem?_pos, v1, v26, v27, v28, hS, z, ha', hb', hC, hF, hR, hw, h, hiv, d1, d2, d3']
          exact Rnd_n (n - 1) (by omega) ⟨i + 1, by omega, snoc_nat hk (by rw [hfe, d1, d3]; simp [d2]), by simp [v1], by simp [v26], by simp [v27], by simp, by simp, by simp [z, hS]⟩
        · have d3' : (b.any fun n => !within n 0 a.length) = true := by simpa [List.any_eq_not_all_not] using d3
          have no := range_no h (by rw [hfe, d1]; simp [d3] : featB c v i = false)
          simp [-getElem?_pos, v1, v26, v27, v28, hS, z, ha', hb', hC, hF, hR, hw, h, hiv, d1, d2, d3', no]
      · have no := range_no h (by rw [hfe, d1]; simp [d2] : featB c v i = false)
        simp [-getElem?_pos, v1, v26, v27, v28, hS, z, ha', hb', hC, hF, hR, hw, h, hiv, d1, d2, no]
    · have no := range_no h (by rw [hfe]; simp [d1] : featB c v i = false)
      simp [-getElem?_pos, v1, v26, v27, v28, hS, z, ha', hb', hC, hF, hR, hw, h, hiv, d1, no]
  · simp at h
    have := range_all (p := featB c v) (n := c.length) fun j hj => hk j (by omega)
    simp [this]

set_option maxHeartbeats 1000000 in
theorem R_spec_GridOk (q : Bool) (c v : List (List Int)) (hc : ∀ l ∈ c, l.length ≤ 9223372036854775807) (hv : ∀ l ∈ v, l.length ≤ 9223372036854775807) : RUN T k_spec_GridOk [.agg [.sl 1 (rws q c), .sl 1 (rws q v)]] = some ([bv (gridB c v)], []) := by
  refine RUN_W T_spec_GridOk rfl ?_
  have hR := R_spec_RowsIn q c v
  by_cases h1 : within c.length 1 4 = true
  case neg => simp [k_spec_GridOk_ic, k_spec_GridOk_rv, R_spec_l1In', -R_spec_l1In, h1, gridB]
  by_cases h2 : (v.length : Int) = c.length
  case neg => simp [k_spec_GridOk_ic, k_spec_GridOk_rv, R_spec_l1In', -R_spec_l1In, h1, h2, gridB]
  by_cases h3 : within (rowsIn v) 1 40 = true
  case neg => simp [k_spec_GridOk_ic, k_spec_GridOk_rv, R_spec_l1In', -R_spec_l1In, h1, h2, h3, hR, gridB]
  have h1' := within_iff.mp h1
  rw [gridB_eq h1 h2 h3]
  simp [k_spec_GridOk_ic, k_spec_GridOk_rv, R_spec_l1In', -R_spec_l1In, h1, h2, h3, hR]
  refine W_loop (fun n st => ∃ i : Nat, i + n = c.length ∧ (∀ j, j < i → featB c v j = true) ∧ st.V 1 = .ptr 0 none 0 0 0 ∧ st.V 3 = iv i ∧ 0 < st.nx ∧ st.S 0 = some (.box [.sl 1 (rws q c), .sl 1 (rws q v)])) ?_ c.length _ ⟨0, by simp⟩
  rintro n st ⟨i, hi, hk, v1, v3, hnx, hS⟩
  simp [k_spec_GridOk_b1, v1, v3, hS]
  have z := fr hnx
  refine Br_i (fun h => ?_) (fun h => ?_)
  · simp at h
    obtain ⟨a, ha⟩ : ∃ a, c[i]? = some a := ⟨_, List.getElem?_eq_getElem h⟩
    obtain ⟨b, hb⟩ : ∃ b, v[i]? = some b := ⟨_, List.getElem?_eq_getElem (by omega)⟩
    have ha' := rws_get (q := q) ha
    have hb' := rws_get (q := q) hb
    have hal := hc a (List.mem_of_getElem? ha)
    have hbl := hv b (List.mem_of_getElem? hb)
    have hC := R_spec_CutsOk a hal
    have hw := wS h (by omega : c.length ≤ 9223372036854775807)
    have hiv : i < v.length := by omega
    have hfe := featB_eq ha hb
    by_cases d1 : cutsB a = true
    case neg =>
      have no := range_no h (by rw [hfe]; simp [d1] : featB c v i = false)
      simp [-getElem?_pos, v1, v3, hS, z, ha', hb', hC, hR, hw, h, hiv, d1, no]
    rcases Classical.propComplete ((b.length : Int) = rowsIn v) with d2 | d2
    case inr =>
      have no := range_no h (by rw [hfe, d1]; simp [d2] : featB c v i = false)
      simp [-getElem?_pos, v1, v3, hS, z, ha', hb', hC, hR, hw, h, hiv, d1, d2, no]
    simp [-getElem?_pos, v1, v3, hS, z, ha', hb', hC, hR, hw, h, hiv, d1, d2]
    refine W_loop (fun n st => ∃ j : Nat, j + n = b.length ∧ (∀ (k : Nat) (x : Int), k < j → b[k]? = some x → within x 0 a.length = true) ∧ st.V 1 = .ptr 0 none 0 0 0 ∧ st.V 3 = iv i ∧ st.V 4 = iv j ∧ 0 < st.nx ∧ st.S 0 = some (.box [.sl 1 (rws q c), .sl 1 (rws q v)])) ?_ b.length _ ⟨0, by omega, fun _ _ h => by omega, by simp [v1], by simp [v3], by simp, by simp [hnx], by simp [hS]⟩
    clear v1 v3 hnx hS z
    rintro n' st ⟨j, hj, hjk, v1, v3, v4, hnx, hS⟩
    simp [-getElem?_pos, k_spec_GridOk_b0, v1, v3, v4, hS, hb', hiv]
    refine Br_i (fun h4 => ?_) (fun h4 => ?_)
    · simp at h4
      obtain ⟨x, hx⟩ : ∃ x, b[j]? = some x := ⟨_, List.getElem?_eq_getElem h4⟩
      have hx' := ints_get hx
      have hwj := wS h4 hbl
      rcases Bool.eq_false_or_eq_true (within x 0 a.length) with d3 | d3
      · simp [-getElem?_pos, v1, v3, v4, hS, ha', hb', hx', hiv, h, h4, d3, hwj, R_spec_l1In', -R_spec_l1In]
        exact Rnd_n (n' - 1) (by omega) ⟨j + 1, by omega, snoc_all (P := fun _ x => within x 0 a.length = true) hjk hx d3, by simp [v1], by simp [v3], by simp, by simp [hnx], by simp [hS]⟩
      · have no := range_no h (by rw [hfe, all_no hx d3]; simp : featB c v i = false)
        simp [-getElem?_pos, v1, v3, v4, hS, ha', hb', hx', hiv, h, h4, d3, hwj, no, R_spec_l1In', -R_spec_l1In]
    · simp at h4
      have ok : featB c v i = true := by
        rw [hfe, d1, all_yes fun k x hk hx => hjk k x (by omega) hx]; simp [d2]
      simp [-getElem?_pos, v1, v3, v4, hS, hw]
      exact Rnd_n (n - 1) (by omega) ⟨i + 1, by omega, snoc_nat hk ok, by simp [v1], by simp, by simp [hnx], by simp [hS]⟩
  · simp at h
    have := range_all (p := featB c v) (n := c.length) fun j hj => hk j (by omega)
    simp [this]

def lens (L : List (List Int)) : Nat := (L.map List.length).sum

def tot (L : List (List Int)) : Nat := L.length + lens L

theorem lens_cons (l : List Int) (L : List (List Int)) : lens (l :: L) = l.length + lens L := by simp [lens]

theorem lens_mem {L : List (List Int)} : ∀ {l : List Int}, l ∈ L → l.length ≤ lens L := by
  induction L with
  | nil => simp
  | cons a L ih =>
    intro l h
    rw [lens_cons]
    rcases List.mem_cons.mp h with e | e
    · subst e; omega
    · have := ih e; omega

theorem R_laws_szIntSS (q : Bool) (L : List (List Int)) (left : Int) (h0 : 0 ≤ left) (h1 : left ≤ 1048576) (hl : L.length ≤ 9223372036854775807) (hll : ∀ l ∈ L, l.length ≤ 9223372036854775807) : RUN T k_laws_szIntSS [.sl 1 (rws q L), iv left] = some ([iv (if left - tot L < 0 then -1 else left - tot L)], []) := by
  refine RUN_W T_laws_szIntSS rfl ?_
  have e := w64 (x := left - L.length) (by omega) (by omega)
  have ht : tot L = L.length + lens L := rfl
  simp [k_laws_szIntSS_ic, k_laws_szIntSS_rv, e]
  refine Br_i (fun h => ?_) (fun h => ?_)
  · simp at h
    rw [if_pos (by omega)]
    simp
  · simp at h
    simp
    refine W_loop (fun n st => ∃ i : Nat, i + n = L.length ∧ ∃ r : Int, 0 ≤ r ∧ r ≤ 1048576 ∧ r - lens (L.drop i) = left - tot L ∧ st.V 0 = .sl 1 (rws q L) ∧ st.V 1 = iv r ∧ st.V 5 = iv i) ?_ L.length _ ⟨0, by omega, left - L.length, by omega, by omega, by simp; omega, by simp, by simp, by simp⟩
    rintro n st ⟨i, hi, r, hr0, hr1, hr, v0, v1, v5⟩
    simp [k_laws_szIntSS_b0, v0, v5]
    refine Br_i (fun h => ?_) (fun h => ?_)
    · simp at h
      obtain ⟨l, hx⟩ : ∃ l, L[i]? = some l := ⟨_, List.getElem?_eq_getElem h⟩
      have hx' := rws_get (q := q) hx
      have hw := wS h hl
      have hz := R_laws_szIntS (ints l) r hr0 hr1 (by simpa using hll l (List.mem_of_getElem? hx))
      rw [ints_len] at hz
      rw [drop_cons hx, lens_cons] at hr
      by_cases d : r - l.length < 0
      · rw [if_pos d] at hz
        rw [if_pos (by omega)]
        simp [-getElem?_pos, v0, v1, v5, hx', hz, h]
      · rw [if_neg d] at hz
        have d' : ¬ (r - l.length < 0) := d
        simp [-getElem?_pos, v0, v1, v5, hx', hz, h, hw, d']
        exact Rnd_n (n - 1) (by omega) ⟨i + 1, by omega, r - l.length, by omega, by omega, by omega, by simp [v0], by simp, by simp⟩
    · simp at h
      rw [List.drop_eq_nil_of_le (by omega)] at hr
      have : lens [] = 0 := rfl
      rw [if_neg (by omega)]
      simp [v1]
      omega

theorem R_laws_szGrid (q : Bool) (c v : List (List Int)) (left : Int) (h0 : 0 ≤ left) (h1 : left ≤ 1048576) (hcl : c.length ≤ 9223372036854775807) (hvl : v.length ≤ 9223372036854775807) (hc : ∀ l ∈ c, l.length ≤ 9223372036854775807) (hv : ∀ l ∈ v, l.length ≤ 9223372036854775807) : RUN T k_laws_szGrid [.agg [.sl 1 (rws q c), .sl 1 (rws q v)], iv left] = some ([iv (if left - tot c - tot v < 0 then -1 else left - tot c - tot v)], []) := by
  refine RUN_W T_laws_szGrid rfl ?_
  have e1 := R_laws_szIntSS q c left h0 h1 hcl hc
  by_cases d : left - tot c < 0
  · rw [if_pos d] at e1
    rw [if_pos (by omega)]
    simp [k_laws_szGrid_ic, k_laws_szGrid_rv, e1]
  · rw [if_neg d] at e1
    have e2 := R_laws_szIntSS q v (left - tot c) (by omega) (by omega) hvl hv
    by_cases d2 : left - tot c - tot v < 0
    · rw [if_pos d2] at e2
      rw [if_pos d2]
      simp [k_laws_szGrid_ic, k_laws_szGrid_rv, e1, e2, d]
    · rw [if_neg d2] at e2
      rw [if_neg d2]
      simp [k_laws_szGrid_ic, k_laws_szGrid_rv, e1, e2, d, d2]

theorem R_laws_toIntSS (q : Bool) (L : List (List Int)) (hl : L.length ≤ 1048576) (hll : ∀ l ∈ L, l.length ≤ 1048576) : RUN T k_laws_toIntSS [.sl 1 (rws q L)] = some ([.own 1 (rws true L)], []) := by
  refine RUN_W T_laws_toIntSS rfl ?_
  have hr : roomFor 24 L.length = true := by simp [roomFor]; omega
  simp [k_laws_toIntSS_ic, k_laws_toIntSS_rv, hr]
  refine W_loop (fun n st => ∃ i : Nat, i + n = L.length ∧ st.V 0 = .sl 1 (rws q L) ∧ st.V 3 = .ref 0 none 0 0 L.length ∧ st.V 4 = iv i ∧ 0 < st.nx ∧ st.S 0 = some (.row 1 (fil (fun l => [cel true l]) [.own 1 []] L i))) ?_ L.length _ ⟨0, by simp [fil_0]⟩
  rintro n st ⟨i, hi, v0, v3, v4, hnx, hS⟩
  simp [k_laws_toIntSS_b0, v0, v3, v4, hS]
  have z := fr hnx
  refine Br_i (fun h => ?_) (fun h => ?_)
  · simp at h
    obtain ⟨l, hx⟩ : ∃ l, L[i]? = some l := ⟨_, List.getElem?_eq_getElem h⟩
    have hw := wS h (by omega : L.length ≤ 9223372036854775807)
    have hg := fil_get (f := fun l => [cel true l]) (z := [.own 1 []]) h
    have hs := fil_set (f := fun l => [cel true l]) (z := [.own 1 []]) hx
    have hx' := rws_get (q := q) hx
    have hz := R_laws_toIntS l (hll l (List.mem_of_getElem? hx))
    have hc : cel true l = .own 1 (ints l) := rfl
    rw [hc] at hs
    simp [-getElem?_pos, v0, v3, v4, hS, z, h, hx', hw, hg, hs, hz, fil_len (Nat.le_of_lt h)]
    exact Rnd_n (n - 1) (by omega) ⟨i + 1, by omega, by simp [v0], by simp [v3], by simp, by simp, by simp [z]⟩
  · simp at h
    have e := fil_all (f := fun l => [cel true l]) (z := [.own 1 []]) (by omega : i = L.length)
    simp [v3, hS, e, rws]

theorem R_laws_eqIntSS (p q : Bool) (L : List (List Int)) (hl : L.length ≤ 9223372036854775807) (hll : ∀ l ∈ L, l.length ≤ 9223372036854775807) : RUN T k_laws_eqIntSS [.sl 1 (rws p L), .sl 1 (rws q L)] = some ([bv true], []) := by
  refine RUN_W T_laws_eqIntSS rfl ?_
  simp [k_laws_eqIntSS_ic, k_laws_eqIntSS_rv]
  refine W_loop (fun n st => ∃ i : Nat, i + n = L.length ∧ st.V 0 = .sl 1 (rws p L) ∧ st.V 1 = .sl 1 (rws q L) ∧ st.V 5 = iv i) ?_ L.length _ ⟨0, by simp⟩
  rintro n st ⟨i, hi, v0, v1, v5⟩
  simp [k_laws_eqIntSS_b0, v0, v1, v5]
  refine Br_i (fun h => ?_) (fun h => ?_)
  · simp at h
    obtain ⟨l, hx⟩ : ∃ l, L[i]? = some l := ⟨_, List.getElem?_eq_getElem h⟩
    have hw := wS h hl
    have hx1 := rws_get (q := p) hx
    have hx2 := rws_get (q := q) hx
    have hz := R_laws_eqIntS l (hll l (List.mem_of_getElem? hx))
    simp [-getElem?_pos, v0, v1, v5, h, hx1, hx2, hw, hz]
    exact Rnd_n (n - 1) (by omega) ⟨i + 1, by omega, by simp [v0], by simp [v1], by simp⟩
  · simp at h
    simp

theorem R_laws_toGrid (q : Bool) (c v : List (List Int)) (hcl : c.length ≤ 1048576) (hvl : v.length ≤ 1048576) (hc : ∀ l ∈ c, l.length ≤ 1048576) (hv : ∀ l ∈ v, l.length ≤ 1048576) : RUN T k_laws_toGrid [.agg [.sl 1 (rws q c), .sl 1 (rws q v)]] = some ([.agg [.own 1 (rws true c), .own 1 (rws true v)]], []) := by
  refine RUN_W T_laws_toGrid rfl ?_
  simp [k_laws_toGrid_ic, k_laws_toGrid_rv, R_laws_toIntSS q c hcl hc, R_laws_toIntSS q v hvl hv]

theorem R_laws_eqGrid (p q : Bool) (c v : List (List Int)) (hcl : c.length ≤ 9223372036854775807) (hvl : v.length ≤ 9223372036854775807) (hc : ∀ l ∈ c, l.length ≤ 9223372036854775807) (hv : ∀ l ∈ v, l.length ≤ 9223372036854775807) : RUN T k_laws_eqGrid [.agg [.sl 1 (rws p c), .sl 1 (rws p v)], .agg [.sl 1 (rws q c), .sl 1 (rws q v)]] = some ([bv true], []) := by
  refine RUN_W T_laws_eqGrid rfl ?_
  simp [k_laws_eqGrid_ic, k_laws_eqGrid_rv, R_laws_eqIntSS p q c hcl hc, R_laws_eqIntSS p q v hvl hv]

def labB (x : Int) : Bool := within x (-2199023255552) 2199023255552

def taskB (c v : List (List Int)) (lab : List Int) (g : Cfg) : Bool := gridB c v && cfgOk g && decide ((lab.length : Int) = rowsIn v) && lab.all labB

@[simp] theorem R_impl_TaskOk_1 (n : Int) : RUN T k_impl_TaskOk_1 [iv n] = some ([bv (!labB n)], []) := by
  refine RUN_W T_impl_TaskOk_1 rfl ?_
  simp [k_impl_TaskOk_1_ic, k_impl_TaskOk_1_rv, R_impl_within', -R_impl_within, labB]

theorem R_impl_TaskOk (q : Bool) (c v : List (List Int)) (lab : List Int) (g : Cfg) (hc : ∀ l ∈ c, l.length ≤ 9223372036854775807) (hv : ∀ l ∈ v, l.length ≤ 9223372036854775807) (hlab : lab.length ≤ 9223372036854775807) (hg : g.sg.length ≤ 9223372036854775807) : RUN T k_impl_TaskOk [.agg [.sl 1 (rws q c), .sl 1 (rws q v)], .sl 1 (ints lab), cfgS g] = some ([bv (taskB c v lab g)], []) := by
  refine RUN_W T_impl_TaskOk rfl ?_
  have e1 := R_impl_GridOk q c v hc hv
  have e2 := R_impl_ConfigOk g hg
  have e3 := R_impl_RowsIn q c v
  have e4 := R_slices_ContainsFunc_int (f := k_impl_TaskOk_1) (p := fun n => !labB n) lab hlab (by simp) (fun n _ => by simp)
  unfold taskB
  cases d1 : gridB c v with
  | false => simp [k_impl_TaskOk_ic, k_impl_TaskOk_rv, cfgS, e1, d1]
  | true =>
    cases d2 : cfgOk g with
    | false => simp [k_impl_TaskOk_ic, k_impl_TaskOk_rv, cfgS, e1, d1, e2, d2]
    | true =>
      rcases Classical.propComplete ((lab.length : Int) = rowsIn v) with d3 | d3
      · have d4 : (!(lab.any fun n => !labB n)) = lab.all labB := by simp [List.any_eq_not_all_not]
        simp [k_impl_TaskOk_ic, k_impl_TaskOk_rv, cfgS, e1, d1, e2, d2, e3, d3, e4, d4]
      · simp [k_impl_TaskOk_ic, k_impl_TaskOk_rv, cfgS, e1, d1, e2, d2, e3, d3]

theorem R_spec_TaskOk (q : Bool) (c v : List (List Int)) (lab : List Int) (g : Cfg) (hc : ∀ l ∈ c, l.length ≤ 9223372036854775807) (hv : ∀ l ∈ v, l.length ≤ 9223372036854775807) (hlab : lab.length ≤ 9223372036854775807) (hg : g.sg.length ≤ 9223372036854775807) : RUN T k_spec_TaskOk [.agg [.sl 1 (rws q c), .sl 1 (rws q v)], .sl 1 (ints lab), cfgS g] = some ([bv (taskB c v lab g)], []) := by
  refine RUN_W T_spec_TaskOk rfl ?_
  have e1 := R_spec_GridOk q c v hc hv
  have e2 := R_spec_ConfigOk g hg
  have e3 := R_spec_RowsIn q c v
  unfold taskB
  cases d1 : gridB c v with
  | false => simp [k_spec_TaskOk_ic, k_spec_TaskOk_rv, cfgS, e1, d1]
  | true =>
    cases d2 : cfgOk g with
    | false => simp [k_spec_TaskOk_ic, k_spec_TaskOk_rv, cfgS, e1, d1, e2, d2]
    | true =>
      rcases Classical.propComplete ((lab.length : Int) = rowsIn v) with d3 | d3
      · simp [k_spec_TaskOk_ic, k_spec_TaskOk_rv, cfgS, e1, d1, e2, d2, e3, d3]
        refine W_loop (fun n st => ∃ i : Nat, i + n = lab.length ∧ (∀ (j : Nat) (x : Int), j < i → lab[j]? = some x → labB x = true) ∧ st.V 1 = .sl 1 (ints lab) ∧ st.V 7 = iv i) ?_ lab.length _ ⟨0, by omega, fun _ _ h => by omega, by simp, by simp⟩
        rintro n st ⟨i, hi, hj, v1, v7⟩
        simp [k_spec_TaskOk_b0, v1, v7]
        refine Br_i (fun h => ?_) (fun h => ?_)
        · simp at h
          obtain ⟨x, hx⟩ : ∃ x, lab[i]? = some x := ⟨_, List.getElem?_eq_getElem h⟩
          have hx' := ints_get hx
          have hw := wS h hlab
          have hlb : labB x = within x (-2199023255552) 2199023255552 := rfl
          cases d4 : labB x with
          | true =>
            have d5 := hlb.symm.trans d4
            simp [-getElem?_pos, v1, v7, hx', hw, h, d5, R_spec_l1In', -R_spec_l1In]
            exact Rnd_n (n - 1) (by omega) ⟨i + 1, by omega, snoc_all (P := fun _ x => labB x = true) hj hx d4, by simp [v1], by simp⟩
          | false =>
            have d5 := hlb.symm.trans d4
            have no := all_no hx d4
            simp [-getElem?_pos, v1, v7, hx', hw, h, d5, no, R_spec_l1In', -R_spec_l1In]
        · simp at h
          have := all_yes (p := labB) fun j a h1 h2 => hj j a (by omega) h2
          simp [this, d3]
      · simp [k_spec_TaskOk_ic, k_spec_TaskOk_rv, cfgS, e1, d1, e2, d2, e3, d3]

theorem law_FnExactTaskOk (c v : List (List Int)) (lab : List Int) (g : Cfg) (hcl : c.length ≤ 9223372036854775807) (hvl : v.length ≤ 9223372036854775807) (hc : ∀ l ∈ c, l.length ≤ 9223372036854775807) (hv : ∀ l ∈ v, l.length ≤ 9223372036854775807) (hlab : lab.length ≤ 9223372036854775807) (hg : g.sg.length ≤ 9223372036854775807) : RUN T k_laws_FnExactTaskOk [.agg [.sl 1 (rws false c), .sl 1 (rws false v)], .sl 1 (ints lab), cfgS g] = some ([bv true], []) := by
  refine RUN_W T_laws_FnExactTaskOk rfl ?_
  by_cases d0 : (1048576 : Int) < lab.length
  · simp [k_laws_FnExactTaskOk_ic, k_laws_FnExactTaskOk_rv, cfgS, d0]
  have hs := R_laws_szGrid false c v 1048576 (by omega) (by omega) hcl hvl hc hv
  by_cases d1 : (1048576 : Int) - tot c - tot v < 0
  · rw [if_pos d1] at hs
    simp [k_laws_FnExactTaskOk_ic, k_laws_FnExactTaskOk_rv, cfgS, d0, hs]
  rw [if_neg d1] at hs
  have hs2 := R_laws_szConfig g (1048576 - tot c - tot v) (by omega) (by omega) hg
  by_cases d2 : (1048576 : Int) - tot c - tot v - g.sg.length < 0
  · rw [if_pos d2] at hs2
    simp only [cfgS] at hs2
    simp [k_laws_FnExactTaskOk_ic, k_laws_FnExactTaskOk_rv, cfgS, d0, hs, hs2, d1]
  rw [if_neg d2] at hs2
  have tc : tot c = c.length + lens c := rfl
  have tv : tot v = v.length + lens v := rfl
  have lc : ∀ l ∈ c, l.length ≤ 1048576 := fun l h => by have := lens_mem h; omega
  have lv : ∀ l ∈ v, l.length ≤ 1048576 := fun l h => by have := lens_mem h; omega
  have t1 := R_laws_toGrid false c v (by omega) (by omega) lc lv
  have t2 := R_laws_toIntS lab (by omega)
  have t3 := R_laws_toConfig g (by omega)
  have r1 := R_spec_TaskOk true c v lab g hc hv hlab hg
  have r2 := R_impl_TaskOk true c v lab g hc hv hlab hg
  have a1 := R_laws_eqGrid true true c v hcl hvl hc hv
  have a2 := R_laws_eqIntS lab hlab
  have a3 := R_laws_eqConfig g hg
  simp only [cfgS, cfgO] at hs2 t3 r1 r2 a3
  simp [k_laws_FnExactTaskOk_ic, k_laws_FnExactTaskOk_rv, cfgS, d0, hs, hs2, d1, d2, t1, t2, t3, r1, r2, a1, a2, a3]

theorem wf64 {n : Int} (h : (Lit.int .i64 n).wf = true) : -9223372036854775808 ≤ n ∧ n ≤ 9223372036854775807 := bounds_i64 h

theorem rows_of {α : Type} {f : α → List PV} {p : α → Prop} {tys : List TY} (h : ∀ cs, ShpL tys cs → ∃ a, f a = cs ∧ p a) : ∀ {es : List (List PV)}, (∀ cs ∈ es, ShpL tys cs) → ∃ l : List α, l.map f = es ∧ ∀ a ∈ l, p a
  | [], _ => ⟨[], rfl, by simp⟩
  | e :: es, hs => by
    obtain ⟨a, ha, hp⟩ := h e (hs e (by simp))
    obtain ⟨l, hl, hq⟩ := rows_of h (es := es) (fun cs hc => hs cs (by simp [hc]))
    refine ⟨a :: l, by simp [ha, hl], fun b hb => ?_⟩
    rcases List.mem_cons.mp hb with e | e
    · subst e; exact hp
    · exact hq b e

theorem shp_intL (cs : List PV) (h : ShpL [.int .i64] cs) : ∃ n : Int, [iv n] = cs ∧ inI n := by
  simp only [ShpL, Shp] at h
  obtain ⟨_, _, rfl, ⟨a, rfl, h1⟩, rfl⟩ := h
  exact ⟨a, rfl, wf64 h1⟩

theorem shp_ints {c : PV} (h : ShpA false [.sl [.int .i64]] c) : ∃ l : List Int, c = .sl 1 (ints l) ∧ l.length ≤ 9223372036854775807 ∧ ∀ n ∈ l, inI n := by
  simp only [ShpA, Bool.false_eq_true, if_false, ShpL, Shp] at h
  obtain ⟨c', r, e, ⟨es, he, h1, h2⟩, hr⟩ := h
  simp only [List.cons.injEq] at e
  obtain ⟨l, hl, hp⟩ := rows_of (f := fun n : Int => [iv n]) (tys := [.int .i64]) shp_intL h2
  subst hl
  simp [maxLen] at h1
  exact ⟨l, e.1.trans he, by omega, hp⟩

def wfC (c : Cfg) : Prop := c.sg.length ≤ 9223372036854775807 ∧ inI c.ro ∧ inI c.de ∧ inI c.bi ∧ inI c.la ∧ inI c.rw ∧ inI c.nu ∧ inI c.dn ∧ ∀ n ∈ c.sg, inI n

theorem shp_cfg {c : PV} (h : ShpA true [.int .i64, .int .i64, .int .i64, .int .i64, .int .i64, .int .i64, .int .i64, .sl [.int .i64]] c) : ∃ x : Cfg, c = cfgS x ∧ wfC x := by
  obtain ⟨cs, rfl, h⟩ := h
  simp only [ShpL, Shp] at h
  obtain ⟨_, _, rfl, ⟨a, rfl, h1⟩, _, _, rfl, ⟨b, rfl, h2⟩, _, _, rfl, ⟨c, rfl, h3⟩, _, _, rfl, ⟨d, rfl, h4⟩, _, _, rfl, ⟨e, rfl, h5⟩, _, _, rfl, ⟨f, rfl, h6⟩, _, _, rfl, ⟨g, rfl, h7⟩, _, _, rfl, ⟨es, rfl, h8, h9⟩, rfl⟩ := h
  have h9' : ∀ cs ∈ es, ShpL [.int .i64] cs := h9
  obtain ⟨l, hl, hp⟩ := rows_of (f := fun n : Int => [iv n]) (tys := [.int .i64]) shp_intL h9'
  subst hl
  simp [maxLen] at h8
  exact ⟨⟨a, b, c, d, e, f, g, l⟩, rfl, by simpa using h8, wf64 h1, wf64 h2, wf64 h3, wf64 h4, wf64 h5, wf64 h6, wf64 h7, hp⟩

theorem shp_intsL (cs : List PV) (h : ShpL [.sl [.int .i64]] cs) : ∃ l : List Int, [cel false l] = cs ∧ l.length ≤ 9223372036854775807 := by
  simp only [ShpL, Shp] at h
  obtain ⟨_, _, rfl, ⟨es, rfl, h1, h2⟩, rfl⟩ := h
  have h2' : ∀ cs ∈ es, ShpL [.int .i64] cs := h2
  obtain ⟨l, hl, _⟩ := rows_of (f := fun n : Int => [iv n]) (tys := [.int .i64]) shp_intL h2'
  subst hl
  simp [maxLen] at h1
  exact ⟨l, rfl, by omega⟩

theorem shp_grid {c : PV} (h : ShpA true [.sl [.sl [.int .i64]], .sl [.sl [.int .i64]]] c) : ∃ a b : List (List Int), c = .agg [.sl 1 (rws false a), .sl 1 (rws false b)] ∧ a.length ≤ 9223372036854775807 ∧ b.length ≤ 9223372036854775807 ∧ (∀ l ∈ a, l.length ≤ 9223372036854775807) ∧ ∀ l ∈ b, l.length ≤ 9223372036854775807 := by
  obtain ⟨cs, rfl, h⟩ := h
  simp only [ShpL, Shp] at h
  obtain ⟨_, _, rfl, ⟨es, rfl, h1, h2⟩, _, _, rfl, ⟨es', rfl, h3, h4⟩, rfl⟩ := h
  have h2' : ∀ cs ∈ es, ShpL [.sl [.int .i64]] cs := h2
  have h4' : ∀ cs ∈ es', ShpL [.sl [.int .i64]] cs := h4
  obtain ⟨a, ha, hpa⟩ := rows_of (f := fun l => [cel false l]) shp_intsL h2'
  obtain ⟨b, hb, hpb⟩ := rows_of (f := fun l => [cel false l]) shp_intsL h4'
  subst ha
  subst hb
  simp [maxLen] at h1 h3
  exact ⟨a, b, rfl, by omega, by omega, hpa, hpb⟩

theorem of_all {P : Program} {l : List TypeId} (h : (l.all fun t => P.readableRec t && decide (t < P.types.size)) = true) : ∀ t ∈ l, P.readableRec t = true ∧ t < P.types.size := by
  intro t ht
  have := List.all_eq_true.mp h t ht
  simpa using this

theorem args3 {p q r : Bool × List TY} {pvs : List PV} (h : All2 (fun p c => ShpA p.1 p.2 c) [p, q, r] pvs) : ∃ a b c, pvs = [a, b, c] ∧ ShpA p.1 p.2 a ∧ ShpA q.1 q.2 b ∧ ShpA r.1 r.2 c := by
  cases h with
  | cons h1 t => cases t with
    | cons h2 t => cases t with
      | cons h3 t => cases t with
        | nil => exact ⟨_, _, _, rfl, h1, h2, h3⟩

end Go.Pe
