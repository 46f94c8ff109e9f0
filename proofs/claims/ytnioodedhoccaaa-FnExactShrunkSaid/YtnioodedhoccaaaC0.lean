/- What each function answers by the evaluator, and the law; for each answer its own conditions stand ahead of it. -/
import Derived.Test.YtnioodedhoccaaaK0
import Derived.Test.YtnioodedhoccaaaEvB1
import Derived.IntWalk
set_option linter.all false
namespace Go.Pe
open Go
theorem w64 {x : Int} (h1 : -9223372036854775808 ≤ x) (h2 : x ≤ 9223372036854775807) : IntKind.i64.wrap x = x := IntWalk.i64_in x ⟨h1, h2⟩

@[simp] theorem w64s {x : Int} (h1 : -9223372036854775808 ≤ x) (h2 : x ≤ 9223372036854775807) : IntKind.i64.wrap x = x := w64 h1 h2

structure Nd where
  f : Int
  c : Int
  l : Int
  r : Int
  v : Int
deriving DecidableEq

@[simp] theorem R_impl_within (a b c : Int) : RUN T k_impl_within [iv a, iv b, iv c] = some ([bv (decide (b ≤ a) && decide (a ≤ c))], []) := by
  refine RUN_W T_impl_within rfl ?_
  simp [k_impl_within_ic, k_impl_within_rv]
  refine Br_i (fun h => ?_) (fun h => ?_) <;> simp [h]

@[simp] theorem R_spec_l1In (a b c : Int) : RUN T k_spec_l1In [iv a, iv b, iv c] = some ([bv (decide (b ≤ a) && decide (a ≤ c))], []) := by
  refine RUN_W T_spec_l1In rfl ?_
  simp [k_spec_l1In_ic, k_spec_l1In_rv]
  refine Br_i (fun h => ?_) (fun h => ?_) <;> simp [h]

/-- The first place where something holds, -1 if there is none. -/
def fidx {α : Type} (p : α → Bool) (l : List α) : Int := match l.findIdx? p with
  | some i => (i : Int)
  | none => -1

theorem fidx_none {α : Type} {p : α → Bool} {l : List α} (h : ∀ (j : Nat) (x : α), j < l.length → l[j]? = some x → p x = false) : fidx p l = -1 := by
  unfold fidx
  have : l.findIdx? p = none := by
    rw [List.findIdx?_eq_none_iff]
    intro x hx
    obtain ⟨j, hj⟩ := List.getElem?_of_mem hx
    exact h j x (List.getElem?_eq_some_iff.mp hj).1 hj
  rw [this]

theorem fidx_some {α : Type} {p : α → Bool} {l : List α} {i : Nat} {x : α} (hi : l[i]? = some x) (hp : p x = true) (h : ∀ (j : Nat) (x : α), j < i → l[j]? = some x → p x = false) : fidx p l = i := by
  unfold fidx
  have : l.findIdx? p = some i := by
    rw [List.findIdx?_eq_some_iff_getElem]
    obtain ⟨h1, h2⟩ := List.getElem?_eq_some_iff.mp hi
    refine ⟨h1, by rw [h2]; exact hp, fun j hj => ?_⟩
    have := h j l[j] hj (List.getElem?_eq_getElem (by omega))
    simp [this]
  rw [this]

theorem no_snoc {α : Type} {p : α → Bool} {l : List α} {i : Nat} {x : α} (h : ∀ (j : Nat) (x : α), j < i → l[j]? = some x → p x = false) (hi : l[i]? = some x) (hp : p x = false) : ∀ (j : Nat) (x : α), j < i + 1 → l[j]? = some x → p x = false := by
  intro j y hj hy
  by_cases e : j = i
  · subst e; rw [hi] at hy; cases hy; exact hp
  · exact h j y (by omega) hy

/-- A node that has a node below it. -/
def above (k : Int) (n : Nd) : Bool := !decide (n.f = -1) && (decide (n.l = k) || decide (n.r = k))

def par (t : List Nd) (k : Int) : Int := fidx (above k) t

theorem wS {i n : Nat} (h : i < n) (hn : n ≤ 9223372036854775807) : IntKind.i64.wrap ((i : Int) + 1) = (i : Int) + 1 := w64 (by omega) (by omega)

/-- A row that is filled from its beginning on. -/
def fil {α β : Type} (f : α → β) (z : β) (l : List α) (i : Nat) : List β := (l.take i).map f ++ List.replicate (l.length - i) z

theorem fil_set {α β : Type} {f : α → β} {l : List α} {z : β} {i : Nat} {x : α} (hx : l[i]? = some x) : (fil f z l i).set i (f x) = fil f z l (i + 1) := by
  unfold fil
  obtain ⟨h1, h2⟩ := List.getElem?_eq_some_iff.mp hx
  apply List.ext_getElem?
  intro j
  rw [List.getElem?_set]
  simp only [List.length_append, List.length_map, List.length_take, List.length_replicate]
  by_cases e : i = j
  · subst e
    rw [if_pos rfl, if_pos (by omega), List.getElem?_append_left (by simp; omega)]
    simp [List.getElem?_take, hx]
  · rw [if_neg e]
    by_cases hj : j < i
    · rw [List.getElem?_append_left (by simp; omega), List.getElem?_append_left (by simp; omega)]
      simp [List.getElem?_take, hj, show j < i + 1 by omega]
    · rw [List.getElem?_append_right (by simp; omega), List.getElem?_append_right (by simp; omega)]
      simp [List.getElem?_replicate]
      congr 1
      simp; omega

theorem fil_get {α β : Type} {f : α → β} {l : List α} {z : β} {i : Nat} (h : i < l.length) : (fil f z l i)[i]? = some z := by
  unfold fil
  rw [List.getElem?_append_right (by simp; omega)]
  simp [List.getElem?_replicate]; omega

theorem fil_len {α β : Type} {f : α → β} {l : List α} {z : β} {i : Nat} (h : i ≤ l.length) : (fil f z l i).length = l.length := by unfold fil; simp; omega

theorem fil_0 {α β : Type} {f : α → β} {l : List α} {z : β} : fil f z l 0 = List.replicate l.length z := by simp [fil]

theorem fil_all {α β : Type} {f : α → β} {l : List α} {z : β} {i : Nat} (h : i = l.length) : fil f z l i = l.map f := by subst h; simp [fil]

def ints (l : List Int) : List (List PV) := l.map fun n => [iv n]

@[simp] theorem ints_len (l : List Int) : (ints l).length = l.length := by simp [ints]

theorem ints_get {l : List Int} {i : Nat} {x : Int} (h : l[i]? = some x) : (ints l)[i]? = some [iv x] := by simp [ints, h]

@[simp] theorem ints_nil : ints [] = [] := rfl

theorem ints_cons (x : Int) (l : List Int) : ints (x :: l) = [iv x] :: ints l := rfl

/-- The nodes above a node, from it on, if they are fewer than a number. -/
def anc (t : List Nd) : Nat → Int → Option (List Int)
  | 0, _ => none
  | n + 1, k => if par t k < 0 then some [] else (anc t n (par t k)).map (par t k :: ·)

def way (t : List Nd) (k : Int) : List Int := if 0 ≤ k ∧ k ≤ t.length - 1 then match anc t 32 k with
    | some l => (k :: l).reverse
    | none => []
  else []

theorem room8 {n : Nat} (h : n ≤ 17592186044416) : roomFor 8 n = true := by simp [roomFor]; omega

theorem R_laws_szIntS (es : List (List PV)) (left : Int) (h0 : 0 ≤ left) (h1 : left ≤ 1048576) (hl : es.length ≤ 9223372036854775807) : RUN T k_laws_szIntS [.sl 1 es, iv left] = some ([iv (if left - es.length < 0 then -1 else left - es.length)], []) := by
  refine RUN_W T_laws_szIntS rfl ?_
  have e := w64 (x := left - es.length) (by omega) (by omega)
  simp [k_laws_szIntS_ic, k_laws_szIntS_rv, e]
  refine Br_i (fun h => ?_) (fun h => ?_) <;> simp at h <;> simp [h]
  omega

theorem R_laws_toIntS (l : List Int) (hl : l.length ≤ 1048576) : RUN T k_laws_toIntS [.sl 1 (ints l)] = some ([.own 1 (ints l)], []) := by
  refine RUN_W T_laws_toIntS rfl ?_
  have hr : roomFor 8 l.length = true := room8 (by omega)
  simp [k_laws_toIntS_ic, k_laws_toIntS_rv, hr]
  refine W_loop (fun n st => ∃ i : Nat, i + n = l.length ∧ st.V 0 = .sl 1 (ints l) ∧ st.V 3 = .ref 0 none 0 0 l.length ∧ st.V 4 = iv i ∧ st.ep = 0 ∧ st.S 0 = some (.row 1 (fil (fun n => [iv n]) [iv 0] l i))) ?_ l.length _ ⟨0, by simp [fil_0]⟩
  rintro n st ⟨i, hi, h0, h3, h4, hep, hS⟩
  simp [k_laws_toIntS_b0, h0, h3, h4, hS]
  refine Br_i (fun h => ?_) (fun h => ?_)
  · simp at h
    obtain ⟨x, hx⟩ : ∃ x, l[i]? = some x := ⟨_, List.getElem?_eq_getElem h⟩
    have hw := wS h (by omega : l.length ≤ 9223372036854775807)
    have hg := fil_get (f := fun n => [iv n]) (z := [iv 0]) h
    have hs := fil_set (f := fun n => [iv n]) (z := [iv 0]) hx
    have hx' := ints_get hx
    simp [-getElem?_pos, h0, h3, h4, hS, hep, h, hx', hw, hg, hs, fil_len (Nat.le_of_lt h)]
    exact Rnd_n (n - 1) (by omega) ⟨i + 1, by omega, by simp [h0], by simp [h3], by simp, by simp, by simp⟩
  · simp at h
    have e := fil_all (f := fun n => [iv n]) (z := [iv 0]) (by omega : i = l.length)
    simp [h3, hS, e, ints]

theorem R_laws_eqIntS (l : List Int) (hl : l.length ≤ 9223372036854775807) : RUN T k_laws_eqIntS [.sl 1 (ints l), .sl 1 (ints l)] = some ([bv true], []) := by
  refine RUN_W T_laws_eqIntS rfl ?_
  simp [k_laws_eqIntS_ic, k_laws_eqIntS_rv]
  refine W_loop (fun n st => ∃ i : Nat, i + n = l.length ∧ st.V 0 = .sl 1 (ints l) ∧ st.V 1 = .sl 1 (ints l) ∧ st.V 5 = iv i) ?_ l.length _ ⟨0, by simp⟩
  rintro n st ⟨i, hi, h0, h1, h5⟩
  simp [k_laws_eqIntS_b0, h0, h1, h5]
  refine Br_i (fun h => ?_) (fun h => ?_)
  · simp at h
    obtain ⟨x, hx⟩ : ∃ x, l[i]? = some x := ⟨_, List.getElem?_eq_getElem h⟩
    have hw := wS h hl
    have hx' := ints_get hx
    simp [-getElem?_pos, h0, h1, h5, h, hx', hw]
    exact Rnd_n (n - 1) (by omega) ⟨i + 1, by omega, by simp [h0], by simp [h1], by simp⟩
  · simp

/-- The numbers from one on, so many. -/
def upto (k : Int) (n : Nat) : List Int := (List.range n).map fun (i : Nat) => k + (i : Int)

@[simp] theorem upto_len (k : Int) (n : Nat) : (upto k n).length = n := by simp [upto]

def inI (n : Int) : Prop := -9223372036854775808 ≤ n ∧ n ≤ 9223372036854775807

/-- The range of a feature's values along a way. -/
def box (t : List Nd) (f : Int) : List Int → Int → Int → Int × Int
  | a :: b :: r, lo, hi => match t[a.toNat]? with
    | none => (lo, hi)
    | some x => if x.f = f then (if x.l = b then box t f (b :: r) lo (min hi x.c) else if x.c = 9223372036854775807 then box t f (b :: r) lo hi else box t f (b :: r) (max lo (x.c + 1)) hi) else box t f (b :: r) lo hi
  | _, lo, hi => (lo, hi)

theorem R_slices_IndexFunc_int {f : Nat} {p : Int → Bool} (l : List Int) (hl : l.length ≤ 9223372036854775807) (hm : modesOf T f = []) (hp : ∀ n ∈ l, RUN T f [iv n] = some ([bv (p n)], [])) :
    RUN T k_slices_IndexFunc___int_int_ [.sl 1 (ints l), .fn f []] = some ([iv (fidx p l)], []) := by
  refine RUN_W T_slices_IndexFunc___int_int_ rfl ?_
  simp [k_slices_IndexFunc___int_int__ic, k_slices_IndexFunc___int_int__rv]
  refine W_loop (fun n st => ∃ i : Nat, i + n = l.length ∧ st.V 0 = .sl 1 (ints l) ∧ st.V 1 = .fn f [] ∧ st.V 8 = iv i ∧ st.V 7 = iv l.length ∧ ∀ (j : Nat) (x : Int), j < i → l[j]? = some x → p x = false) ?_ l.length _ ⟨0, by simp⟩
  rintro n st ⟨i, hi, h0, h1, h8, h7, hj⟩
  simp [k_slices_IndexFunc___int_int__b0, h0, h1, h8, h7]
  refine Br_i (fun h => ?_) (fun h => ?_)
  · simp at h
    obtain ⟨x, hx⟩ : ∃ x, l[i]? = some x := ⟨_, List.getElem?_eq_getElem h⟩
    have hw := wS h hl
    have hx' := ints_get hx
    have hpx := hp x (List.mem_of_getElem? hx)
    simp [-getElem?_pos, h0, h1, h8, h7, hx', hw, hm, hpx, h]
    refine Br_i (fun b0 => ?_) (fun b0 => ?_) <;> (try simp at b0) <;> simp [-getElem?_pos, b0, h0, h1, h8, h7, hx', hw]
    all_goals first
      | exact (fidx_some hx b0 hj).symm
      | exact Rnd_n (n - 1) (by omega) ⟨i + 1, by omega, by simp [h0], by simp [h1], by simp, by simp [h7], no_snoc hj hx b0⟩
  · simp at h
    simp [h]
    exact (fidx_none fun j x hl hx => hj j x (by omega) hx).symm

theorem fidx_neg {α : Type} {p : α → Bool} {l : List α} : decide (0 ≤ fidx p l) = l.any p := by
  unfold fidx
  cases h : l.findIdx? p with
  | none =>
    rw [List.findIdx?_eq_none_iff] at h
    simp
    exact fun x hx => h x hx
  | some i =>
    obtain ⟨h1, h2, _⟩ := List.findIdx?_eq_some_iff_getElem.mp h
    simp
    exact ⟨_, List.getElem_mem h1, h2⟩

theorem R_slices_ContainsFunc_int {f : Nat} {p : Int → Bool} (l : List Int) (hl : l.length ≤ 9223372036854775807) (hm : modesOf T f = []) (hp : ∀ n ∈ l, RUN T f [iv n] = some ([bv (p n)], [])) :
    RUN T k_slices_ContainsFunc___int_int_ [.sl 1 (ints l), .fn f []] = some ([bv (l.any p)], []) := by
  refine RUN_W T_slices_ContainsFunc___int_int_ rfl ?_
  have e := R_slices_IndexFunc_int l hl hm hp
  simp [k_slices_ContainsFunc___int_int__ic, k_slices_ContainsFunc___int_int__rv, e, fidx_neg]

structure Cfg where
  ro : Int
  de : Int
  bi : Int
  la : Int
  rw : Int
  nu : Int
  dn : Int
  sg : List Int

def within (n a b : Int) : Bool := decide (a ≤ n) && decide (n ≤ b)

def cfgOk (c : Cfg) : Bool := within c.ro 1 8 && within c.de 0 4 && within c.bi 2 8 && within c.la 1 100 && within c.rw 1 20 && within c.dn 1 1000 && within c.nu 1 c.dn && decide ((c.sg.length : Int) ≤ 4) && c.sg.all fun n => within n (-1) 1

@[simp] theorem R_impl_isSign (n : Int) : RUN T k_impl_isSign [iv n] = some ([bv (within n (-1) 1)], []) := by
  refine RUN_W T_impl_isSign rfl ?_
  simp [k_impl_isSign_ic, k_impl_isSign_rv, within]

@[simp] theorem R_impl_ConfigOk_1 (n : Int) : RUN T k_impl_ConfigOk_1 [iv n] = some ([bv (!within n (-1) 1)], []) := by
  refine RUN_W T_impl_ConfigOk_1 rfl ?_
  simp [k_impl_ConfigOk_1_ic, k_impl_ConfigOk_1_rv]

theorem R_impl_within' (a b c : Int) : RUN T k_impl_within [iv a, iv b, iv c] = some ([bv (within a b c)], []) := R_impl_within a b c

theorem R_spec_l1In' (a b c : Int) : RUN T k_spec_l1In [iv a, iv b, iv c] = some ([bv (within a b c)], []) := R_spec_l1In a b c

theorem R_impl_ConfigOk (c : Cfg) (hl : c.sg.length ≤ 9223372036854775807) : RUN T k_impl_ConfigOk [.agg [iv c.ro, iv c.de, iv c.bi, iv c.la, iv c.rw, iv c.nu, iv c.dn, .sl 1 (ints c.sg)]] = some ([bv (cfgOk c)], []) := by
  refine RUN_W T_impl_ConfigOk rfl ?_
  have e := R_slices_ContainsFunc_int (f := k_impl_ConfigOk_1) (p := fun n => !within n (-1) 1) c.sg hl (by simp) (fun n _ => R_impl_ConfigOk_1 n)
  have e2 : ∀ l : List Int, (l.any fun n => !within n (-1) 1) = !(l.all fun n => within n (-1) 1) := by intro l; induction l <;> simp_all
  rw [e2] at e
  simp [k_impl_ConfigOk_ic, k_impl_ConfigOk_rv, R_impl_within', -R_impl_within]
  cases h0 : within c.ro 1 8 <;> cases h1 : within c.de 0 4 <;> simp [h0, h1, R_impl_within', -R_impl_within]
  all_goals try (simp [cfgOk, h0, h1]; done)
  cases h2 : within c.bi 2 8 <;> cases h3 : within c.la 1 100 <;> simp [h2, h3, R_impl_within', -R_impl_within]
  all_goals try (simp [cfgOk, h2, h3]; done)
  cases h4 : within c.rw 1 20 <;> cases h5 : within c.dn 1 1000 <;> simp [h4, h5, R_impl_within', -R_impl_within]
  all_goals try (simp [cfgOk, h4, h5]; done)
  cases h6 : within c.nu 1 c.dn <;> simp [h6, R_impl_within', -R_impl_within]
  all_goals try (simp [cfgOk, h6]; done)
  by_cases h7 : (c.sg.length : Int) ≤ 4
  · simp [h7, e, cfgOk, h0, h1, h2, h3, h4, h5, h6]
  · simp [h7, cfgOk]

theorem W_five {m : Nat → List Bool} {R : Oracle} {c : IC} {st : St} {Q : Ex → St → Prop} (h : W m R c st (Nx (fun s => W m R (.loop c) s Q) Q ⟨⟩ ⟨⟩)) : W m R (.loop c) st Q := W_loop1 ▸ h

theorem R_spec_l8Numbers (a b c d e f g : Int) (x : PV) (sg : List (List PV)) : RUN T k_spec_l8Numbers [.agg [iv a, iv b, iv c, iv d, iv e, iv f, iv g, .sl 1 sg]] = some ([.own 1 (ints [a, b, c, d, e])], []) := by
  refine RUN_W T_spec_l8Numbers rfl ?_
  simp [k_spec_l8Numbers_ic, k_spec_l8Numbers_rv, ints]

theorem R_spec_l8Least : RUN T k_spec_l8Least [] = some ([.own 1 (ints [1, 0, 2, 1, 1])], []) := by
  refine RUN_W T_spec_l8Least rfl ?_
  simp [k_spec_l8Least_ic, k_spec_l8Least_rv, ints]

theorem R_spec_l8Most : RUN T k_spec_l8Most [] = some ([.own 1 (ints [8, 4, 8, 100, 20])], []) := by
  refine RUN_W T_spec_l8Most rfl ?_
  simp [k_spec_l8Most_ic, k_spec_l8Most_rv, ints]

theorem R_spec_ConfigOk (c : Cfg) (hl : c.sg.length ≤ 9223372036854775807) : RUN T k_spec_ConfigOk [.agg [iv c.ro, iv c.de, iv c.bi, iv c.la, iv c.rw, iv c.nu, iv c.dn, .sl 1 (ints c.sg)]] = some ([bv (cfgOk c)], []) := by
  refine RUN_W T_spec_ConfigOk rfl ?_
  have e1 := R_spec_l8Numbers c.ro c.de c.bi c.la c.rw c.nu c.dn .undef (ints c.sg)
  simp [k_spec_ConfigOk_ic, k_spec_ConfigOk_rv, e1]
  refine W_five ?_
  simp [k_spec_ConfigOk_b0, R_spec_l8Least, R_spec_l8Most, R_spec_l1In', -R_spec_l1In, ints_cons]
  cases h0 : within c.ro 1 8 <;> simp [h0]
  · simp [cfgOk, h0]
  refine W_five ?_
  simp [k_spec_ConfigOk_b0, R_spec_l8Least, R_spec_l8Most, R_spec_l1In', -R_spec_l1In, ints_cons]
  cases h1 : within c.de 0 4 <;> simp [h1]
  · simp [cfgOk, h1]
  refine W_five ?_
  simp [k_spec_ConfigOk_b0, R_spec_l8Least, R_spec_l8Most, R_spec_l1In', -R_spec_l1In, ints_cons]
  cases h2 : within c.bi 2 8 <;> simp [h2]
  · simp [cfgOk, h2]
  refine W_five ?_
  simp [k_spec_ConfigOk_b0, R_spec_l8Least, R_spec_l8Most, R_spec_l1In', -R_spec_l1In, ints_cons]
  cases h3 : within c.la 1 100 <;> simp [h3]
  · simp [cfgOk, h3]
  refine W_five ?_
  simp [k_spec_ConfigOk_b0, R_spec_l8Least, R_spec_l8Most, R_spec_l1In', -R_spec_l1In, ints_cons]
  cases h4 : within c.rw 1 20 <;> simp [h4]
  · simp [cfgOk, h4]
  refine W_five ?_
  simp [k_spec_ConfigOk_b0]
  refine W_loop (fun n st => ∃ i : Nat, i + n = c.sg.length ∧ st.V 1 = .ptr 0 none 0 0 0 ∧ st.V 5 = iv i ∧ st.S 0 = some (.box [iv c.ro, iv c.de, iv c.bi, iv c.la, iv c.rw, iv c.nu, iv c.dn, .sl 1 (ints c.sg)]) ∧ ∀ (j : Nat) (x : Int), j < i → c.sg[j]? = some x → within x (-1) 1 = true) ?_ c.sg.length _ ⟨0, by simp⟩
  rintro n st ⟨i, hi, h1', h5, hS, hj⟩
  simp [k_spec_ConfigOk_b1, h1', h5, hS]
  refine Br_i (fun h => ?_) (fun h => ?_)
  · simp at h
    obtain ⟨x, hx⟩ : ∃ x, c.sg[i]? = some x := ⟨_, List.getElem?_eq_getElem h⟩
    have hw := wS h hl
    have hx' := ints_get hx
    simp [-getElem?_pos, h1', h5, hS, hx', hw, h, R_spec_l1In', -R_spec_l1In]
    cases hb : within x (-1) 1 with
    | true =>
      simp [-getElem?_pos, h1', h5, hS, hw]
      refine Rnd_n (n - 1) (by omega) ⟨i + 1, by omega, by simp [h1'], by simp, by simp [hS], fun j y hj' hy => ?_⟩
      by_cases e : j = i
      · subst e; rw [hx] at hy; cases hy; exact hb
      · exact hj j y (by omega) hy
    | false =>
      simp [cfgOk]
      intros
      exact ⟨x, List.mem_of_getElem? hx, hb⟩
  · simp at h
    have hall : (c.sg.all fun n => within n (-1) 1) = true := by
      rw [List.all_eq_true]
      intro x hx
      obtain ⟨j, hj'⟩ := List.getElem?_of_mem hx
      exact hj j x (by have := (List.getElem?_eq_some_iff.mp hj').1; omega) hj'
    simp [h1', hS, R_spec_l1In', -R_spec_l1In]
    cases h5 : within c.dn 1 1000 <;> simp [h1', hS, h5, R_spec_l1In', -R_spec_l1In]
    · simp [cfgOk, h5]
    cases h6 : within c.nu 1 c.dn <;> simp [h1', hS, h6, R_spec_l1In', -R_spec_l1In]
    · simp [cfgOk, h6]
    simp [cfgOk, h0, h1, h2, h3, h4, h5, h6, hall]

/-- The quotient, rounded down, and whether there is one. -/
def fdv (a b : Int) : Int × Bool := if b = 0 ∨ (b = -1 ∧ a = -9223372036854775808) then (0, false) else (a.fdiv b, true)

theorem tdiv_range {a b : Int} (ha : inI a) (hb : b ≠ 0) (h : ¬ (b = -1 ∧ a = -9223372036854775808)) : -9223372036854775808 ≤ a.tdiv b ∧ a.tdiv b ≤ 9223372036854775807 ∧ (b ≠ 1 → -9223372036854775808 ≤ a.tdiv b - 1) := by
  obtain ⟨h1, h2⟩ := ha
  have h3 : (a.tdiv b).natAbs = a.natAbs / b.natAbs := Int.natAbs_tdiv a b
  have h4 : a.natAbs / b.natAbs ≤ a.natAbs := Nat.div_le_self _ _
  by_cases c : b = 1
  · subst c; simp; omega
  by_cases c2 : b = -1
  · subst c2; simp; omega
  have h5 : a.natAbs / b.natAbs ≤ a.natAbs / 2 := Nat.div_le_div_left (by omega) (by omega)
  omega

theorem fdiv_tdiv (a b : Int) (hb : b ≠ 0) : a.fdiv b = if a.tmod b ≠ 0 ∧ ¬ (a < 0 ↔ b < 0) then a.tdiv b - 1 else a.tdiv b := by
  rw [Int.fdiv_eq_tdiv]
  have hd : b ∣ a ↔ a.tmod b = 0 := Int.dvd_iff_tmod_eq_zero
  by_cases c : b ∣ a
  · rw [if_pos c, if_neg (by rw [hd.mp c]; simp)]; simp
  · have hc : a.tmod b ≠ 0 := fun e => c (hd.mpr e)
    have ha : a ≠ 0 := fun e => c (by subst e; exact ⟨0, by simp⟩)
    rw [if_neg c]
    rcases Int.lt_or_gt_of_ne hb with s2 | s2
    · rw [if_neg (by omega : ¬ 0 ≤ b), if_neg (by omega : ¬ 0 ≤ b), Int.sign_eq_neg_one_of_neg s2]
      by_cases s1 : 0 ≤ a
      · rw [if_pos s1, if_pos ⟨hc, by omega⟩]
      · rw [if_neg s1, if_neg (fun h => h.2 (by omega))]; omega
    · rw [if_pos (by omega : 0 ≤ b), if_pos (by omega : 0 ≤ b), Int.sign_eq_one_of_pos s2]
      by_cases s1 : 0 ≤ a
      · rw [if_pos s1, if_neg (fun h => h.2 (by omega))]; omega
      · rw [if_neg s1, if_pos ⟨hc, by omega⟩]

theorem R_spec_FloorDiv (a b : Int) (ha : inI a) : RUN T k_spec_FloorDiv [iv a, iv b] = some ([iv (fdv a b).1, bv (fdv a b).2], []) := by
  refine RUN_W T_spec_FloorDiv rfl ?_
  simp [k_spec_FloorDiv_ic, k_spec_FloorDiv_rv]
  by_cases h0 : b = 0
  · subst h0; simp [fdv]
  by_cases hbad : b = -1 ∧ a = -9223372036854775808
  · obtain ⟨rfl, rfl⟩ := hbad; simp [fdv]
  have hr := tdiv_range ha h0 hbad
  have hq := w64 hr.1 hr.2.1
  have hf := fdiv_tdiv a b h0
  have e1 : fdv a b = (a.fdiv b, true) := by unfold fdv; rw [if_neg (by simp [h0]; intro h; exact fun h2 => hbad ⟨h, h2⟩)]
  rw [e1]
  have hq2 : a.tmod b ≠ 0 → IntKind.i64.wrap (a.tdiv b - 1) = a.tdiv b - 1 := fun h => w64 (hr.2.2 (by rintro rfl; simp at h)) (by omega)
  have f0 := eq_false h0
  obtain ⟨p1, hp1⟩ : ∃ p, (b = -1) = p := ⟨_, rfl⟩
  obtain ⟨p2, hp2⟩ : ∃ p, (a = -9223372036854775808) = p := ⟨_, rfl⟩
  rw [hp1, hp2] at hbad
  by_cases c1 : p1 <;> by_cases c2 : p2
  · exact (hbad ⟨c1, c2⟩).elim
  all_goals
    simp only [c1, c2] at hp1 hp2
    simp [f0, hp1, hp2, hq]
    by_cases d0 : a.tmod b = 0
    · rw [if_neg (by simp [d0])] at hf
      simp [d0, hf]
    · have hq3 := hq2 d0
      have d1 := eq_false d0
      by_cases d2 : a < 0 <;> by_cases d3 : b < 0
      all_goals
        simp only [d2, d3, ne_eq, d1, not_false_eq_true, iff_self, not_true_eq_false, and_false, if_false, iff_true, iff_false, and_true, if_true, true_iff, false_iff] at hf
        simp [d1, d2, d3, hq3, hf]

theorem R_impl_FloorDiv (a b : Int) (ha : inI a) : RUN T k_impl_FloorDiv [iv a, iv b] = some ([iv (fdv a b).1, bv (fdv a b).2], []) := by
  refine RUN_W T_impl_FloorDiv rfl ?_
  simp [k_impl_FloorDiv_ic, k_impl_FloorDiv_rv]
  by_cases h0 : b = 0
  · subst h0; simp [fdv]
  by_cases hbad : b = -1 ∧ a = -9223372036854775808
  · obtain ⟨rfl, rfl⟩ := hbad; simp [fdv]
  have hr := tdiv_range ha h0 hbad
  have hq := w64 hr.1 hr.2.1
  have hf := fdiv_tdiv a b h0
  have e1 : fdv a b = (a.fdiv b, true) := by unfold fdv; rw [if_neg (by simp [h0]; intro h; exact fun h2 => hbad ⟨h, h2⟩)]
  rw [e1]
  have hq2 : a.tmod b ≠ 0 → IntKind.i64.wrap (a.tdiv b - 1) = a.tdiv b - 1 := fun h => w64 (hr.2.2 (by rintro rfl; simp at h)) (by omega)
  have f0 := eq_false h0
  obtain ⟨p1, hp1⟩ : ∃ p, (b = -1) = p := ⟨_, rfl⟩
  obtain ⟨p2, hp2⟩ : ∃ p, (a = -9223372036854775808) = p := ⟨_, rfl⟩
  rw [hp1, hp2] at hbad
  by_cases c1 : p1 <;> by_cases c2 : p2
  · exact (hbad ⟨c1, c2⟩).elim
  all_goals
    simp only [c1, c2] at hp1 hp2
    simp [f0, hp1, hp2, hq]
    by_cases d0 : a.tmod b = 0
    · rw [if_neg (by simp [d0])] at hf
      simp [d0, hf]
    · have hq3 := hq2 d0
      have d1 := eq_false d0
      by_cases d2 : a < 0 <;> by_cases d3 : b < 0
      all_goals
        simp only [d2, d3, ne_eq, d1, not_false_eq_true, iff_self, not_true_eq_false, and_false, if_false, iff_true, iff_false, and_true, if_true, true_iff, false_iff] at hf
        simp [d1, d2, d3, hq3, hf]

abbrev cfgS (c : Cfg) : PV := .agg [iv c.ro, iv c.de, iv c.bi, iv c.la, iv c.rw, iv c.nu, iv c.dn, .sl 1 (ints c.sg)]

abbrev cfgO (c : Cfg) : PV := .agg [iv c.ro, iv c.de, iv c.bi, iv c.la, iv c.rw, iv c.nu, iv c.dn, .own 1 (ints c.sg)]

theorem within_iff {n a b : Int} : within n a b = true ↔ a ≤ n ∧ n ≤ b := by simp [within]

theorem cfgOk_iff {c : Cfg} (h : cfgOk c = true) : (1 ≤ c.ro ∧ c.ro ≤ 8) ∧ (0 ≤ c.de ∧ c.de ≤ 4) ∧ (2 ≤ c.bi ∧ c.bi ≤ 8) ∧ (1 ≤ c.la ∧ c.la ≤ 100) ∧ (1 ≤ c.rw ∧ c.rw ≤ 20) ∧ (1 ≤ c.dn ∧ c.dn ≤ 1000) ∧ (1 ≤ c.nu ∧ c.nu ≤ c.dn) ∧ c.sg.length ≤ 4 ∧ ∀ n ∈ c.sg, -1 ≤ n ∧ n ≤ 1 := by
  simp only [cfgOk, Bool.and_eq_true, within_iff, decide_eq_true_eq, List.all_eq_true] at h
  obtain ⟨⟨⟨⟨⟨⟨⟨⟨h1, h2⟩, h3⟩, h4⟩, h5⟩, h6⟩, h7⟩, h8⟩, h9⟩ := h
  exact ⟨h1, h2, h3, h4, h5, h6, h7, by omega, h9⟩

def leafV (v : Int) : Bool := within v (-1099511627776) 1099511627776

@[simp] theorem R_spec_l14Leaf (v : Int) : RUN T k_spec_l14Leaf [iv v] = some ([bv (leafV v)], []) := by
  refine RUN_W T_spec_l14Leaf rfl ?_
  simp [k_spec_l14Leaf_ic, k_spec_l14Leaf_rv, leafV, within]

@[simp] theorem R_impl_isLeafValue (v : Int) : RUN T k_impl_isLeafValue [iv v] = some ([bv (leafV v)], []) := by
  refine RUN_W T_impl_isLeafValue rfl ?_
  simp [k_impl_isLeafValue_ic, k_impl_isLeafValue_rv, leafV, within]

/-- A value times the learning rate. -/
def shr (v : Int) (c : Cfg) : Int × Bool := if cfgOk c && leafV v then (( v * c.nu).fdiv c.dn, true) else (0, false)

theorem shr_mul {v : Int} {c : Cfg} (h : cfgOk c = true) (hv : leafV v = true) : inI (v * c.nu) ∧ IntKind.i64.wrap (v * c.nu) = v * c.nu ∧ fdv (v * c.nu) c.dn = ((v * c.nu).fdiv c.dn, true) := by
  obtain ⟨_, _, _, _, _, hd, hn, _⟩ := cfgOk_iff h
  have h1 := within_iff.mp hv
  have h2 : -1099511627776 * 1000 ≤ v * c.nu := by
    have a1 : -1099511627776 * c.nu ≤ v * c.nu := Int.mul_le_mul_of_nonneg_right h1.1 (by omega)
    omega
  have h3 : v * c.nu ≤ 1099511627776 * 1000 := by
    have a1 : v * c.nu ≤ 1099511627776 * c.nu := Int.mul_le_mul_of_nonneg_right h1.2 (by omega)
    omega
  refine ⟨⟨by omega, by omega⟩, w64 (by omega) (by omega), ?_⟩
  unfold fdv
  rw [if_neg (by omega)]

theorem R_spec_Shrunk (v : Int) (c : Cfg) (hl : c.sg.length ≤ 9223372036854775807) : RUN T k_spec_Shrunk [iv v, cfgS c] = some ([iv (shr v c).1, bv (shr v c).2], []) := by
  refine RUN_W T_spec_Shrunk rfl ?_
  have e := R_spec_ConfigOk c hl
  simp [k_spec_Shrunk_ic, k_spec_Shrunk_rv, e]
  cases h : cfgOk c
  · simp [shr, h]
  · cases hv : leafV v
    · simp [h, hv, shr]
    · obtain ⟨h1, h2, h3⟩ := shr_mul h hv
      have e2 := R_spec_FloorDiv _ c.dn h1
      rw [h3] at e2
      simp [h, hv, shr, h2, e2]

theorem R_impl_Shrunk (v : Int) (c : Cfg) (hl : c.sg.length ≤ 9223372036854775807) : RUN T k_impl_Shrunk [iv v, cfgS c] = some ([iv (shr v c).1, bv (shr v c).2], []) := by
  refine RUN_W T_impl_Shrunk rfl ?_
  have e := R_impl_ConfigOk c hl
  simp [k_impl_Shrunk_ic, k_impl_Shrunk_rv, e]
  cases h : cfgOk c
  · simp [shr, h]
  · cases hv : leafV v
    · simp [h, hv, shr]
    · obtain ⟨h1, h2, h3⟩ := shr_mul h hv
      have e2 := R_impl_FloorDiv _ c.dn h1
      rw [h3] at e2
      simp [h, hv, shr, h2, e2]

theorem R_laws_szConfig (c : Cfg) (left : Int) (h0 : 0 ≤ left) (h1 : left ≤ 1048576) (hl : c.sg.length ≤ 9223372036854775807) : RUN T k_laws_szConfig [cfgS c, iv left] = some ([iv (if left - c.sg.length < 0 then -1 else left - c.sg.length)], []) := by
  refine RUN_W T_laws_szConfig rfl ?_
  have e := R_laws_szIntS (ints c.sg) left h0 h1 (by simpa using hl)
  simp only [ints_len] at e
  by_cases h : left - c.sg.length < 0
  · simp only [h, if_true] at e ⊢
    simp [k_laws_szConfig_ic, k_laws_szConfig_rv, e]
    intro _; omega
  · simp only [h, if_false] at e ⊢
    simp [k_laws_szConfig_ic, k_laws_szConfig_rv, e, h]

theorem R_laws_toConfig (c : Cfg) (hl : c.sg.length ≤ 1048576) : RUN T k_laws_toConfig [cfgS c] = some ([cfgO c], []) := by
  refine RUN_W T_laws_toConfig rfl ?_
  simp [k_laws_toConfig_ic, k_laws_toConfig_rv, R_laws_toIntS c.sg hl]

theorem R_laws_eqConfig (c : Cfg) (hl : c.sg.length ≤ 9223372036854775807) : RUN T k_laws_eqConfig [cfgS c, cfgS c] = some ([bv true], []) := by
  refine RUN_W T_laws_eqConfig rfl ?_
  simp [k_laws_eqConfig_ic, k_laws_eqConfig_rv, R_laws_eqIntS c.sg hl]

theorem law_FnExactShrunk (v : Int) (c : Cfg) (hl : c.sg.length ≤ 9223372036854775807) : RUN T k_laws_FnExactShrunk [iv v, cfgS c] = some ([bv true], []) := by
  refine RUN_W T_laws_FnExactShrunk rfl ?_
  have hs := R_laws_szConfig c 1048576 (by omega) (by omega) hl
  by_cases h : (1048576 : Int) - c.sg.length < 0
  · rw [if_pos (by omega)] at hs
    simp [k_laws_FnExactShrunk_ic, k_laws_FnExactShrunk_rv, hs]
  · rw [if_neg (by omega)] at hs
    have ht := R_laws_toConfig c (by omega)
    have a2 := R_laws_eqConfig c (by omega)
    simp [k_laws_FnExactShrunk_ic, k_laws_FnExactShrunk_rv, hs, ht, R_spec_Shrunk v c hl, R_impl_Shrunk v c hl, a2, h]

theorem wf64 {n : Int} (h : (Lit.int .i64 n).wf = true) : -9223372036854775808 ≤ n ∧ n ≤ 9223372036854775807 := bounds_i64 h

theorem rows_of {α : Type} {f : α → List PV} {p : α → Prop} {tys : List TY} (h : ∀ cs, ShpL tys cs → ∃ a, f a = cs ∧ p a) : ∀ {es : List (List PV)}, (∀ cs ∈ es, ShpL tys cs) → ∃ l : List α, l.map f = es ∧ ∀ a ∈ l, p a
  | [], _ => ⟨[], rfl, by simp⟩
  | e :: es, hs => by
    obtain ⟨a, ha, hp⟩ := h e (hs e (by simp))
    obtain ⟨l, hl, hq⟩ := rows_of h (es := es) (fun cs hc => hs cs (by simp [hc]))
    refine ⟨a :: l, by simp [ha, hl], fun b hb => ?_⟩
    rcases List.mem_cons.mp hb with e | e
    · subst e; exact hp
    · exact hq b e

theorem shp_intL (cs : List PV) (h : ShpL [.int .i64] cs) : ∃ n : Int, [iv n] = cs ∧ inI n := by
  simp only [ShpL, Shp] at h
  obtain ⟨_, _, rfl, ⟨a, rfl, h1⟩, rfl⟩ := h
  exact ⟨a, rfl, wf64 h1⟩

def wfC (c : Cfg) : Prop := c.sg.length ≤ 9223372036854775807 ∧ inI c.ro ∧ inI c.de ∧ inI c.bi ∧ inI c.la ∧ inI c.rw ∧ inI c.nu ∧ inI c.dn ∧ ∀ n ∈ c.sg, inI n

theorem shp_cfg {c : PV} (h : ShpA true [.int .i64, .int .i64, .int .i64, .int .i64, .int .i64, .int .i64, .int .i64, .sl [.int .i64]] c) : ∃ x : Cfg, c = cfgS x ∧ wfC x := by
  obtain ⟨cs, rfl, h⟩ := h
  simp only [ShpL, Shp] at h
  obtain ⟨_, _, rfl, ⟨a, rfl, h1⟩, _, _, rfl, ⟨b, rfl, h2⟩, _, _, rfl, ⟨c, rfl, h3⟩, _, _, rfl, ⟨d, rfl, h4⟩, _, _, rfl, ⟨e, rfl, h5⟩, _, _, rfl, ⟨f, rfl, h6⟩, _, _, rfl, ⟨g, rfl, h7⟩, _, _, rfl, ⟨es, rfl, h8, h9⟩, rfl⟩ := h
  have h9' : ∀ cs ∈ es, ShpL [.int .i64] cs := h9
  obtain ⟨l, hl, hp⟩ := rows_of (f := fun n : Int => [iv n]) (tys := [.int .i64]) shp_intL h9'
  subst hl
  simp [maxLen] at h8
  exact ⟨⟨a, b, c, d, e, f, g, l⟩, rfl, by simpa using h8, wf64 h1, wf64 h2, wf64 h3, wf64 h4, wf64 h5, wf64 h6, wf64 h7, hp⟩

theorem shp_int {c : PV} (h : ShpA false [.int .i64] c) : ∃ n : Int, c = iv n ∧ -9223372036854775808 ≤ n ∧ n ≤ 9223372036854775807 := by
  simp only [ShpA, Bool.false_eq_true, if_false, ShpL, Shp] at h
  obtain ⟨c', r, e, ⟨n, hn, hw⟩, hr⟩ := h
  simp only [List.cons.injEq] at e
  exact ⟨n, e.1.trans hn, wf64 hw⟩

theorem of_all {P : Program} {l : List TypeId} (h : (l.all fun t => P.readableRec t && decide (t < P.types.size)) = true) : ∀ t ∈ l, P.readableRec t = true ∧ t < P.types.size := by
  intro t ht
  have := List.all_eq_true.mp h t ht
  simpa using this

theorem args2 {p q : Bool × List TY} {pvs : List PV} (h : All2 (fun p c => ShpA p.1 p.2 c) [p, q] pvs) : ∃ a b, pvs = [a, b] ∧ ShpA p.1 p.2 a ∧ ShpA q.1 q.2 b := by
  cases h with
  | cons h1 t => cases t with
    | cons h2 t => cases t with
      | nil => exact ⟨_, _, rfl, h1, h2⟩

end Go.Pe
