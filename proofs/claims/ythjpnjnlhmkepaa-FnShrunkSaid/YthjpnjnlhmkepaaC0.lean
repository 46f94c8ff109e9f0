/- What each function answers by the evaluator, and the law; for each answer its own conditions stand ahead of it. -/
import Derived.Test.YthjpnjnlhmkepaaK0
import Derived.Test.YthjpnjnlhmkepaaEvB1
import Derived.IntWalk
set_option linter.all false
namespace Go.Pe
open Go
theorem w64 {x : Int} (h1 : -9223372036854775808 ≤ x) (h2 : x ≤ 9223372036854775807) : IntKind.i64.wrap x = x := IntWalk.i64_in x ⟨h1, h2⟩

@[simp] theorem w64s {x : Int} (h1 : -9223372036854775808 ≤ x) (h2 : x ≤ 9223372036854775807) : IntKind.i64.wrap x = x := w64 h1 h2

structure Nd where
  f : Int
  c : Int
  l : Int
  r : Int
  v : Int
deriving DecidableEq

@[simp] theorem R_impl_within (a b c : Int) : RUN T k_impl_within [iv a, iv b, iv c] = some ([bv (decide (b ≤ a) && decide (a ≤ c))], []) := by
  refine RUN_W T_impl_within rfl ?_
  simp [k_impl_within_ic, k_impl_within_rv]
  refine Br_i (fun h => ?_) (fun h => ?_) <;> simp [h]

@[simp] theorem R_spec_l1In (a b c : Int) : RUN T k_spec_l1In [iv a, iv b, iv c] = some ([bv (decide (b ≤ a) && decide (a ≤ c))], []) := by
  refine RUN_W T_spec_l1In rfl ?_
  simp [k_spec_l1In_ic, k_spec_l1In_rv]
  refine Br_i (fun h => ?_) (fun h => ?_) <;> simp [h]

/-- The first place where something holds, -1 if there is none. -/
def fidx {α : Type} (p : α → Bool) (l : List α) : Int := match l.findIdx? p with
  | some i => (i : Int)
  | none => -1

theorem fidx_none {α : Type} {p : α → Bool} {l : List α} (h : ∀ (j : Nat) (x : α), j < l.length → l[j]? = some x → p x = false) : fidx p l = -1 := by
  unfold fidx
  have : l.findIdx? p = none := by
    rw [List.findIdx?_eq_none_iff]
    intro x hx
    obtain ⟨j, hj⟩ := List.getElem?_of_mem hx
    exact h j x (List.getElem?_eq_some_iff.mp hj).1 hj
  rw [this]

theorem fidx_some {α : Type} {p : α → Bool} {l : List α} {i : Nat} {x : α} (hi : l[i]? = some x) (hp : p x = true) (h : ∀ (j : Nat) (x : α), j < i → l[j]? = some x → p x = false) : fidx p l = i := by
  unfold fidx
  have : l.findIdx? p = some i := by
    rw [List.findIdx?_eq_some_iff_getElem]
    obtain ⟨h1, h2⟩ := List.getElem?_eq_some_iff.mp hi
    refine ⟨h1, by rw [h2]; exact hp, fun j hj => ?_⟩
    have := h j l[j] hj (List.getElem?_eq_getElem (by omega))
    simp [this]
  rw [this]

theorem no_snoc {α : Type} {p : α → Bool} {l : List α} {i : Nat} {x : α} (h : ∀ (j : Nat) (x : α), j < i → l[j]? = some x → p x = false) (hi : l[i]? = some x) (hp : p x = false) : ∀ (j : Nat) (x : α), j < i + 1 → l[j]? = some x → p x = false := by
  intro j y hj hy
  by_cases e : j = i
  · subst e; rw [hi] at hy; cases hy; exact hp
  · exact h j y (by omega) hy

/-- A node that has a node below it. -/
def above (k : Int) (n : Nd) : Bool := !decide (n.f = -1) && (decide (n.l = k) || decide (n.r = k))

def par (t : List Nd) (k : Int) : Int := fidx (above k) t

theorem wS {i n : Nat} (h : i < n) (hn : n ≤ 9223372036854775807) : IntKind.i64.wrap ((i : Int) + 1) = (i : Int) + 1 := w64 (by omega) (by omega)

def ints (l : List Int) : List (List PV) := l.map fun n => [iv n]

@[simp] theorem ints_len (l : List Int) : (ints l).length = l.length := by simp [ints]

theorem ints_get {l : List Int} {i : Nat} {x : Int} (h : l[i]? = some x) : (ints l)[i]? = some [iv x] := by simp [ints, h]

@[simp] theorem ints_nil : ints [] = [] := rfl

theorem ints_cons (x : Int) (l : List Int) : ints (x :: l) = [iv x] :: ints l := rfl

theorem ints_snoc (l : List Int) (x : Int) : ints l ++ [[iv x]] = ints (l ++ [x]) := by simp [ints]

/-- The nodes above a node, from it on, if they are fewer than a number. -/
def anc (t : List Nd) : Nat → Int → Option (List Int)
  | 0, _ => none
  | n + 1, k => if par t k < 0 then some [] else (anc t n (par t k)).map (par t k :: ·)

def way (t : List Nd) (k : Int) : List Int := if 0 ≤ k ∧ k ≤ t.length - 1 then match anc t 32 k with
    | some l => (k :: l).reverse
    | none => []
  else []

theorem room8 {n : Nat} (h : n ≤ 17592186044416) : roomFor 8 n = true := by simp [roomFor]; omega

/-- The numbers from one on, so many. -/
def upto (k : Int) (n : Nat) : List Int := (List.range n).map fun (i : Nat) => k + (i : Int)

@[simp] theorem upto_len (k : Int) (n : Nat) : (upto k n).length = n := by simp [upto]

def inI (n : Int) : Prop := -9223372036854775808 ≤ n ∧ n ≤ 9223372036854775807

/-- The range of a feature's values along a way. -/
def box (t : List Nd) (f : Int) : List Int → Int → Int → Int × Int
  | a :: b :: r, lo, hi => match t[a.toNat]? with
    | none => (lo, hi)
    | some x => if x.f = f then (if x.l = b then box t f (b :: r) lo (min hi x.c) else if x.c = 9223372036854775807 then box t f (b :: r) lo hi else box t f (b :: r) (max lo (x.c + 1)) hi) else box t f (b :: r) lo hi
  | _, lo, hi => (lo, hi)

theorem R_slices_IndexFunc_int {f : Nat} {p : Int → Bool} (l : List Int) (hl : l.length ≤ 9223372036854775807) (hm : modesOf T f = []) (hp : ∀ n ∈ l, RUN T f [iv n] = some ([bv (p n)], [])) :
    RUN T k_slices_IndexFunc___int_int_ [.sl 1 (ints l), .fn f []] = some ([iv (fidx p l)], []) := by
  refine RUN_W T_slices_IndexFunc___int_int_ rfl ?_
  simp [k_slices_IndexFunc___int_int__ic, k_slices_IndexFunc___int_int__rv]
  refine W_loop (fun n st => ∃ i : Nat, i + n = l.length ∧ st.V 0 = .sl 1 (ints l) ∧ st.V 1 = .fn f [] ∧ st.V 8 = iv i ∧ st.V 7 = iv l.length ∧ ∀ (j : Nat) (x : Int), j < i → l[j]? = some x → p x = false) ?_ l.length _ ⟨0, by simp⟩
  rintro n st ⟨i, hi, h0, h1, h8, h7, hj⟩
  simp [k_slices_IndexFunc___int_int__b0, h0, h1, h8, h7]
  refine Br_i (fun h => ?_) (fun h => ?_)
  · simp at h
    obtain ⟨x, hx⟩ : ∃ x, l[i]? = some x := ⟨_, List.getElem?_eq_getElem h⟩
    have hw := wS h hl
    have hx' := ints_get hx
    have hpx := hp x (List.mem_of_getElem? hx)
    simp [-getElem?_pos, h0, h1, h8, h7, hx', hw, hm, hpx, h]
    refine Br_i (fun b0 => ?_) (fun b0 => ?_) <;> (try simp at b0) <;> simp [-getElem?_pos, b0, h0, h1, h8, h7, hx', hw]
    all_goals first
      | exact (fidx_some hx b0 hj).symm
      | exact Rnd_n (n - 1) (by omega) ⟨i + 1, by omega, by simp [h0], by simp [h1], by simp, by simp [h7], no_snoc hj hx b0⟩
  · simp at h
    simp [h]
    exact (fidx_none fun j x hl hx => hj j x (by omega) hx).symm

theorem fidx_neg {α : Type} {p : α → Bool} {l : List α} : decide (0 ≤ fidx p l) = l.any p := by
  unfold fidx
  cases h : l.findIdx? p with
  | none =>
    rw [List.findIdx?_eq_none_iff] at h
    simp
    exact fun x hx => h x hx
  | some i =>
    obtain ⟨h1, h2, _⟩ := List.findIdx?_eq_some_iff_getElem.mp h
    simp
    exact ⟨_, List.getElem_mem h1, h2⟩

theorem R_slices_ContainsFunc_int {f : Nat} {p : Int → Bool} (l : List Int) (hl : l.length ≤ 9223372036854775807) (hm : modesOf T f = []) (hp : ∀ n ∈ l, RUN T f [iv n] = some ([bv (p n)], [])) :
    RUN T k_slices_ContainsFunc___int_int_ [.sl 1 (ints l), .fn f []] = some ([bv (l.any p)], []) := by
  refine RUN_W T_slices_ContainsFunc___int_int_ rfl ?_
  have e := R_slices_IndexFunc_int l hl hm hp
  simp [k_slices_ContainsFunc___int_int__ic, k_slices_ContainsFunc___int_int__rv, e, fidx_neg]

structure Cfg where
  ro : Int
  de : Int
  bi : Int
  la : Int
  rw : Int
  nu : Int
  dn : Int
  sg : List Int

def within (n a b : Int) : Bool := decide (a ≤ n) && decide (n ≤ b)

def cfgOk (c : Cfg) : Bool := within c.ro 1 8 && within c.de 0 4 && within c.bi 2 8 && within c.la 1 100 && within c.rw 1 20 && within c.dn 1 1000 && within c.nu 1 c.dn && decide ((c.sg.length : Int) ≤ 4) && c.sg.all fun n => within n (-1) 1

@[simp] theorem R_impl_isSign (n : Int) : RUN T k_impl_isSign [iv n] = some ([bv (within n (-1) 1)], []) := by
  refine RUN_W T_impl_isSign rfl ?_
  simp [k_impl_isSign_ic, k_impl_isSign_rv, within]

@[simp] theorem R_impl_ConfigOk_1 (n : Int) : RUN T k_impl_ConfigOk_1 [iv n] = some ([bv (!within n (-1) 1)], []) := by
  refine RUN_W T_impl_ConfigOk_1 rfl ?_
  simp [k_impl_ConfigOk_1_ic, k_impl_ConfigOk_1_rv]

theorem R_impl_within' (a b c : Int) : RUN T k_impl_within [iv a, iv b, iv c] = some ([bv (within a b c)], []) := R_impl_within a b c

theorem R_spec_l1In' (a b c : Int) : RUN T k_spec_l1In [iv a, iv b, iv c] = some ([bv (within a b c)], []) := R_spec_l1In a b c

theorem R_impl_ConfigOk (c : Cfg) (hl : c.sg.length ≤ 9223372036854775807) : RUN T k_impl_ConfigOk [.agg [iv c.ro, iv c.de, iv c.bi, iv c.la, iv c.rw, iv c.nu, iv c.dn, .sl 1 (ints c.sg)]] = some ([bv (cfgOk c)], []) := by
  refine RUN_W T_impl_ConfigOk rfl ?_
  have e := R_slices_ContainsFunc_int (f := k_impl_ConfigOk_1) (p := fun n => !within n (-1) 1) c.sg hl (by simp) (fun n _ => R_impl_ConfigOk_1 n)
  have e2 : ∀ l : List Int, (l.any fun n => !within n (-1) 1) = !(l.all fun n => within n (-1) 1) := by intro l; induction l <;> simp_all
  rw [e2] at e
  simp [k_impl_ConfigOk_ic, k_impl_ConfigOk_rv, R_impl_within', -R_impl_within]
  cases h0 : within c.ro 1 8 <;> cases h1 : within c.de 0 4 <;> simp [h0, h1, R_impl_within', -R_impl_within]
  all_goals try (simp [cfgOk, h0, h1]; done)
  cases h2 : within c.bi 2 8 <;> cases h3 : within c.la 1 100 <;> simp [h2, h3, R_impl_within', -R_impl_within]
  all_goals try (simp [cfgOk, h2, h3]; done)
  cases h4 : within c.rw 1 20 <;> cases h5 : within c.dn 1 1000 <;> simp [h4, h5, R_impl_within', -R_impl_within]
  all_goals try (simp [cfgOk, h4, h5]; done)
  cases h6 : within c.nu 1 c.dn <;> simp [h6, R_impl_within', -R_impl_within]
  all_goals try (simp [cfgOk, h6]; done)
  by_cases h7 : (c.sg.length : Int) ≤ 4
  · simp [h7, e, cfgOk, h0, h1, h2, h3, h4, h5, h6]
  · simp [h7, cfgOk]

theorem W_five {m : Nat → List Bool} {R : Oracle} {c : IC} {st : St} {Q : Ex → St → Prop} (h : W m R c st (Nx (fun s => W m R (.loop c) s Q) Q ⟨⟩ ⟨⟩)) : W m R (.loop c) st Q := W_loop1 ▸ h

theorem R_spec_l8Numbers (a b c d e f g : Int) (x : PV) (sg : List (List PV)) : RUN T k_spec_l8Numbers [.agg [iv a, iv b, iv c, iv d, iv e, iv f, iv g, .sl 1 sg]] = some ([.own 1 (ints [a, b, c, d, e])], []) := by
  refine RUN_W T_spec_l8Numbers rfl ?_
  simp [k_spec_l8Numbers_ic, k_spec_l8Numbers_rv, ints]

theorem R_spec_l8Least : RUN T k_spec_l8Least [] = some ([.own 1 (ints [1, 0, 2, 1, 1])], []) := by
  refine RUN_W T_spec_l8Least rfl ?_
  simp [k_spec_l8Least_ic, k_spec_l8Least_rv, ints]

theorem R_spec_l8Most : RUN T k_spec_l8Most [] = some ([.own 1 (ints [8, 4, 8, 100, 20])], []) := by
  refine RUN_W T_spec_l8Most rfl ?_
  simp [k_spec_l8Most_ic, k_spec_l8Most_rv, ints]

theorem R_spec_ConfigOk (c : Cfg) (hl : c.sg.length ≤ 9223372036854775807) : RUN T k_spec_ConfigOk [.agg [iv c.ro, iv c.de, iv c.bi, iv c.la, iv c.rw, iv c.nu, iv c.dn, .sl 1 (ints c.sg)]] = some ([bv (cfgOk c)], []) := by
  refine RUN_W T_spec_ConfigOk rfl ?_
  have e1 := R_spec_l8Numbers c.ro c.de c.bi c.la c.rw c.nu c.dn .undef (ints c.sg)
  simp [k_spec_ConfigOk_ic, k_spec_ConfigOk_rv, e1]
  refine W_five ?_
  simp [k_spec_ConfigOk_b0, R_spec_l8Least, R_spec_l8Most, R_spec_l1In', -R_spec_l1In, ints_cons]
  cases h0 : within c.ro 1 8 <;> simp [h0]
  · simp [cfgOk, h0]
  refine W_five ?_
  simp [k_spec_ConfigOk_b0, R_spec_l8Least, R_spec_l8Most, R_spec_l1In', -R_spec_l1In, ints_cons]
  cases h1 : within c.de 0 4 <;> simp [h1]
  · simp [cfgOk, h1]
  refine W_five ?_
  simp [k_spec_ConfigOk_b0, R_spec_l8Least, R_spec_l8Most, R_spec_l1In', -R_spec_l1In, ints_cons]
  cases h2 : within c.bi 2 8 <;> simp [h2]
  · simp [cfgOk, h2]
  refine W_five ?_
  simp [k_spec_ConfigOk_b0, R_spec_l8Least, R_spec_l8Most, R_spec_l1In', -R_spec_l1In, ints_cons]
  cases h3 : within c.la 1 100 <;> simp [h3]
  · simp [cfgOk, h3]
  refine W_five ?_
  simp [k_spec_ConfigOk_b0, R_spec_l8Least, R_spec_l8Most, R_spec_l1In', -R_spec_l1In, ints_cons]
  cases h4 : within c.rw 1 20 <;> simp [h4]
  · simp [cfgOk, h4]
  refine W_five ?_
  simp [k_spec_ConfigOk_b0]
  refine W_loop (fun n st => ∃ i : Nat, i + n = c.sg.length ∧ st.V 1 = .ptr 0 none 0 0 0 ∧ st.V 5 = iv i ∧ st.S 0 = some (.box [iv c.ro, iv c.de, iv c.bi, iv c.la, iv c.rw, iv c.nu, iv c.dn, .sl 1 (ints c.sg)]) ∧ ∀ (j : Nat) (x : Int), j < i → c.sg[j]? = some x → within x (-1) 1 = true) ?_ c.sg.length _ ⟨0, by simp⟩
  rintro n st ⟨i, hi, h1', h5, hS, hj⟩
  simp [k_spec_ConfigOk_b1, h1', h5, hS]
  refine Br_i (fun h => ?_) (fun h => ?_)
  · simp at h
    obtain ⟨x, hx⟩ : ∃ x, c.sg[i]? = some x := ⟨_, List.getElem?_eq_getElem h⟩
    have hw := wS h hl
    have hx' := ints_get hx
    simp [-getElem?_pos, h1', h5, hS, hx', hw, h, R_spec_l1In', -R_spec_l1In]
    cases hb : within x (-1) 1 with
    | true =>
      simp [-getElem?_pos, h1', h5, hS, hw]
      refine Rnd_n (n - 1) (by omega) ⟨i + 1, by omega, by simp [h1'], by simp, by simp [hS], fun j y hj' hy => ?_⟩
      by_cases e : j = i
      · subst e; rw [hx] at hy; cases hy; exact hb
      · exact hj j y (by omega) hy
    | false =>
      simp [cfgOk]
      intros
      exact ⟨x, List.mem_of_getElem? hx, hb⟩
  · simp at h
    have hall : (c.sg.all fun n => within n (-1) 1) = true := by
      rw [List.all_eq_true]
      intro x hx
      obtain ⟨j, hj'⟩ := List.getElem?_of_mem hx
      exact hj j x (by have := (List.getElem?_eq_some_iff.mp hj').1; omega) hj'
    simp [h1', hS, R_spec_l1In', -R_spec_l1In]
    cases h5 : within c.dn 1 1000 <;> simp [h1', hS, h5, R_spec_l1In', -R_spec_l1In]
    · simp [cfgOk, h5]
    cases h6 : within c.nu 1 c.dn <;> simp [h1', hS, h6, R_spec_l1In', -R_spec_l1In]
    · simp [cfgOk, h6]
    simp [cfgOk, h0, h1, h2, h3, h4, h5, h6, hall]

/-- The quotient, rounded down, and whether there is one. -/
def fdv (a b : Int) : Int × Bool := if b = 0 ∨ (b = -1 ∧ a = -9223372036854775808) then (0, false) else (a.fdiv b, true)

theorem tdiv_range {a b : Int} (ha : inI a) (hb : b ≠ 0) (h : ¬ (b = -1 ∧ a = -9223372036854775808)) : -9223372036854775808 ≤ a.tdiv b ∧ a.tdiv b ≤ 9223372036854775807 ∧ (b ≠ 1 → -9223372036854775808 ≤ a.tdiv b - 1) := by
  obtain ⟨h1, h2⟩ := ha
  have h3 : (a.tdiv b).natAbs = a.natAbs / b.natAbs := Int.natAbs_tdiv a b
  have h4 : a.natAbs / b.natAbs ≤ a.natAbs := Nat.div_le_self _ _
  by_cases c : b = 1
  · subst c; simp; omega
  by_cases c2 : b = -1
  · subst c2; simp; omega
  have h5 : a.natAbs / b.natAbs ≤ a.natAbs / 2 := Nat.div_le_div_left (by omega) (by omega)
  omega

theorem fdiv_tdiv (a b : Int) (hb : b ≠ 0) : a.fdiv b = if a.tmod b ≠ 0 ∧ ¬ (a < 0 ↔ b < 0) then a.tdiv b - 1 else a.tdiv b := by
  rw [Int.fdiv_eq_tdiv]
  have hd : b ∣ a ↔ a.tmod b = 0 := Int.dvd_iff_tmod_eq_zero
  by_cases c : b ∣ a
  · rw [if_pos c, if_neg (by rw [hd.mp c]; simp)]; simp
  · have hc : a.tmod b ≠ 0 := fun e => c (hd.mpr e)
    have ha : a ≠ 0 := fun e => c (by subst e; exact ⟨0, by simp⟩)
    rw [if_neg c]
    rcases Int.lt_or_gt_of_ne hb with s2 | s2
    · rw [if_neg (by omega : ¬ 0 ≤ b), if_neg (by omega : ¬ 0 ≤ b), Int.sign_eq_neg_one_of_neg s2]
      by_cases s1 : 0 ≤ a
      · rw [if_pos s1, if_pos ⟨hc, by omega⟩]
      · rw [if_neg s1, if_neg (fun h => h.2 (by omega))]; omega
    · rw [if_pos (by omega : 0 ≤ b), if_pos (by omega : 0 ≤ b), Int.sign_eq_one_of_pos s2]
      by_cases s1 : 0 ≤ a
      · rw [if_pos s1, if_neg (fun h => h.2 (by omega))]; omega
      · rw [if_neg s1, if_pos ⟨hc, by omega⟩]

theorem R_spec_FloorDiv (a b : Int) (ha : inI a) : RUN T k_spec_FloorDiv [iv a, iv b] = some ([iv (fdv a b).1, bv (fdv a b).2], []) := by
  refine RUN_W T_spec_FloorDiv rfl ?_
  simp [k_spec_FloorDiv_ic, k_spec_FloorDiv_rv]
  by_cases h0 : b = 0
  · subst h0; simp [fdv]
  by_cases hbad : b = -1 ∧ a = -9223372036854775808
  · obtain ⟨rfl, rfl⟩ := hbad; simp [fdv]
  have hr := tdiv_range ha h0 hbad
  have hq := w64 hr.1 hr.2.1
  have hf := fdiv_tdiv a b h0
  have e1 : fdv a b = (a.fdiv b, true) := by unfold fdv; rw [if_neg (by simp [h0]; intro h; exact fun h2 => hbad ⟨h, h2⟩)]
  rw [e1]
  have hq2 : a.tmod b ≠ 0 → IntKind.i64.wrap (a.tdiv b - 1) = a.tdiv b - 1 := fun h => w64 (hr.2.2 (by rintro rfl; simp at h)) (by omega)
  have f0 := eq_false h0
  obtain ⟨p1, hp1⟩ : ∃ p, (b = -1) = p := ⟨_, rfl⟩
  obtain ⟨p2, hp2⟩ : ∃ p, (a = -9223372036854775808) = p := ⟨_, rfl⟩
  rw [hp1, hp2] at hbad
  by_cases c1 : p1 <;> by_cases c2 : p2
  · exact (hbad ⟨c1, c2⟩).elim
  all_goals
    simp only [c1, c2] at hp1 hp2
    simp [f0, hp1, hp2, hq]
    by_cases d0 : a.tmod b = 0
    · rw [if_neg (by simp [d0])] at hf
      simp [d0, hf]
    · have hq3 := hq2 d0
      have d1 := eq_false d0
      by_cases d2 : a < 0 <;> by_cases d3 : b < 0
      all_goals
        simp only [d2, d3, ne_eq, d1, not_false_eq_true, iff_self, not_true_eq_false, and_false, if_false, iff_true, iff_false, and_true, if_true, true_iff, false_iff] at hf
        simp [d1, d2, d3, hq3, hf]

theorem R_impl_FloorDiv (a b : Int) (ha : inI a) : RUN T k_impl_FloorDiv [iv a, iv b] = some ([iv (fdv a b).1, bv (fdv a b).2], []) := by
  refine RUN_W T_impl_FloorDiv rfl ?_
  simp [k_impl_FloorDiv_ic, k_impl_FloorDiv_rv]
  by_cases h0 : b = 0
  · subst h0; simp [fdv]
  by_cases hbad : b = -1 ∧ a = -9223372036854775808
  · obtain ⟨rfl, rfl⟩ := hbad; simp [fdv]
  have hr := tdiv_range ha h0 hbad
  have hq := w64 hr.1 hr.2.1
  have hf := fdiv_tdiv a b h0
  have e1 : fdv a b = (a.fdiv b, true) := by unfold fdv; rw [if_neg (by simp [h0]; intro h; exact fun h2 => hbad ⟨h, h2⟩)]
  rw [e1]
  have hq2 : a.tmod b ≠ 0 → IntKind.i64.wrap (a.tdiv b - 1) = a.tdiv b - 1 := fun h => w64 (hr.2.2 (by rintro rfl; simp at h)) (by omega)
  have f0 := eq_false h0
  obtain ⟨p1, hp1⟩ : ∃ p, (b = -1) = p := ⟨_, rfl⟩
  obtain ⟨p2, hp2⟩ : ∃ p, (a = -9223372036854775808) = p := ⟨_, rfl⟩
  rw [hp1, hp2] at hbad
  by_cases c1 : p1 <;> by_cases c2 : p2
  · exact (hbad ⟨c1, c2⟩).elim
  all_goals
    simp only [c1, c2] at hp1 hp2
    simp [f0, hp1, hp2, hq]
    by_cases d0 : a.tmod b = 0
    · rw [if_neg (by simp [d0])] at hf
      simp [d0, hf]
    · have hq3 := hq2 d0
      have d1 := eq_false d0
      by_cases d2 : a < 0 <;> by_cases d3 : b < 0
      all_goals
        simp only [d2, d3, ne_eq, d1, not_false_eq_true, iff_self, not_true_eq_false, and_false, if_false, iff_true, iff_false, and_true, if_true, true_iff, false_iff] at hf
        simp [d1, d2, d3, hq3, hf]

abbrev cfgS (c : Cfg) : PV := .agg [iv c.ro, iv c.de, iv c.bi, iv c.la, iv c.rw, iv c.nu, iv c.dn, .sl 1 (ints c.sg)]

abbrev cfgO (c : Cfg) : PV := .agg [iv c.ro, iv c.de, iv c.bi, iv c.la, iv c.rw, iv c.nu, iv c.dn, .own 1 (ints c.sg)]

theorem within_iff {n a b : Int} : within n a b = true ↔ a ≤ n ∧ n ≤ b := by simp [within]

theorem cfgOk_iff {c : Cfg} (h : cfgOk c = true) : (1 ≤ c.ro ∧ c.ro ≤ 8) ∧ (0 ≤ c.de ∧ c.de ≤ 4) ∧ (2 ≤ c.bi ∧ c.bi ≤ 8) ∧ (1 ≤ c.la ∧ c.la ≤ 100) ∧ (1 ≤ c.rw ∧ c.rw ≤ 20) ∧ (1 ≤ c.dn ∧ c.dn ≤ 1000) ∧ (1 ≤ c.nu ∧ c.nu ≤ c.dn) ∧ c.sg.length ≤ 4 ∧ ∀ n ∈ c.sg, -1 ≤ n ∧ n ≤ 1 := by
  simp only [cfgOk, Bool.and_eq_true, within_iff, decide_eq_true_eq, List.all_eq_true] at h
  obtain ⟨⟨⟨⟨⟨⟨⟨⟨h1, h2⟩, h3⟩, h4⟩, h5⟩, h6⟩, h7⟩, h8⟩, h9⟩ := h
  exact ⟨h1, h2, h3, h4, h5, h6, h7, by omega, h9⟩

def leafV (v : Int) : Bool := within v (-1099511627776) 1099511627776

@[simp] theorem R_spec_l14Leaf (v : Int) : RUN T k_spec_l14Leaf [iv v] = some ([bv (leafV v)], []) := by
  refine RUN_W T_spec_l14Leaf rfl ?_
  simp [k_spec_l14Leaf_ic, k_spec_l14Leaf_rv, leafV, within]

@[simp] theorem R_impl_isLeafValue (v : Int) : RUN T k_impl_isLeafValue [iv v] = some ([bv (leafV v)], []) := by
  refine RUN_W T_impl_isLeafValue rfl ?_
  simp [k_impl_isLeafValue_ic, k_impl_isLeafValue_rv, leafV, within]

/-- A value times the learning rate. -/
def shr (v : Int) (c : Cfg) : Int × Bool := if cfgOk c && leafV v then (( v * c.nu).fdiv c.dn, true) else (0, false)

theorem shr_mul {v : Int} {c : Cfg} (h : cfgOk c = true) (hv : leafV v = true) : inI (v * c.nu) ∧ IntKind.i64.wrap (v * c.nu) = v * c.nu ∧ fdv (v * c.nu) c.dn = ((v * c.nu).fdiv c.dn, true) := by
  obtain ⟨_, _, _, _, _, hd, hn, _⟩ := cfgOk_iff h
  have h1 := within_iff.mp hv
  have h2 : -1099511627776 * 1000 ≤ v * c.nu := by
    have a1 : -1099511627776 * c.nu ≤ v * c.nu := Int.mul_le_mul_of_nonneg_right h1.1 (by omega)
    omega
  have h3 : v * c.nu ≤ 1099511627776 * 1000 := by
    have a1 : v * c.nu ≤ 1099511627776 * c.nu := Int.mul_le_mul_of_nonneg_right h1.2 (by omega)
    omega
  refine ⟨⟨by omega, by omega⟩, w64 (by omega) (by omega), ?_⟩
  unfold fdv
  rw [if_neg (by omega)]

theorem R_spec_Shrunk (v : Int) (c : Cfg) (hl : c.sg.length ≤ 9223372036854775807) : RUN T k_spec_Shrunk [iv v, cfgS c] = some ([iv (shr v c).1, bv (shr v c).2], []) := by
  refine RUN_W T_spec_Shrunk rfl ?_
  have e := R_spec_ConfigOk c hl
  simp [k_spec_Shrunk_ic, k_spec_Shrunk_rv, e]
  cases h : cfgOk c
  · simp [shr, h]
  · cases hv : leafV v
    · simp [h, hv, shr]
    · obtain ⟨h1, h2, h3⟩ := shr_mul h hv
      have e2 := R_spec_FloorDiv _ c.dn h1
      rw [h3] at e2
      simp [h, hv, shr, h2, e2]

theorem R_impl_Shrunk (v : Int) (c : Cfg) (hl : c.sg.length ≤ 9223372036854775807) : RUN T k_impl_Shrunk [iv v, cfgS c] = some ([iv (shr v c).1, bv (shr v c).2], []) := by
  refine RUN_W T_impl_Shrunk rfl ?_
  have e := R_impl_ConfigOk c hl
  simp [k_impl_Shrunk_ic, k_impl_Shrunk_rv, e]
  cases h : cfgOk c
  · simp [shr, h]
  · cases hv : leafV v
    · simp [h, hv, shr]
    · obtain ⟨h1, h2, h3⟩ := shr_mul h hv
      have e2 := R_impl_FloorDiv _ c.dn h1
      rw [h3] at e2
      simp [h, hv, shr, h2, e2]

/-- A row within rows: a slice's own, or one that is read. -/
def cel (q : Bool) (l : List Int) : PV := if q then .own 1 (ints l) else .sl 1 (ints l)

@[simp] theorem fz_cel (q : Bool) (l : List Int) : fz (cel q l) = .sl 1 (ints l) := by cases q <;> simp [cel]

def rws (q : Bool) (L : List (List Int)) : List (List PV) := L.map fun l => [cel q l]

@[simp] theorem rws_len (q : Bool) (L : List (List Int)) : (rws q L).length = L.length := by simp [rws]

theorem yv_gu {s : St} {d : Option Dst} {op : IOp} {g : Opd} {v : Bool} {x : PV} : (yv s ⟨d, op, some (g, v)⟩ = some x) = (Ob' (guardP v (g.get s)) fun t => Br t (WI (fun _ => []) (fun _ _ => none) op s (fun y _ => y = x)) (PV.v Go.undef = x)) := by
  simp only [yv, evG_some, WI, Ob', Br, Option.map_eq_some_iff, Option.bind_eq_some_iff, eq_iff_iff]
  constructor
  · rintro ⟨⟨y, s'⟩, ⟨t, h1, h2⟩, h3⟩
    refine ⟨t, h1, fun ht => ?_, fun ht => ?_⟩ <;> subst ht
    · exact ⟨y, s', by simpa using h2, h3⟩
    · simp at h2; obtain ⟨rfl, rfl⟩ := h2; exact h3
  · rintro ⟨t, h1, h2, h3⟩
    cases t with
    | true => obtain ⟨y, s', h4, h5⟩ := h2 rfl; exact ⟨(y, s'), ⟨true, h1, by simpa using h4⟩, h5⟩
    | false => exact ⟨_, ⟨false, h1, rfl⟩, h3 rfl⟩

@[simp] theorem chkTodo_g {s : St} {d : Option Dst} {op : IOp} {g : Opd} {v : Bool} {x : PV} {n : Nat} {r : List (IOper × PV × Nat)} : chkTodo s ((⟨d, op, some (g, v)⟩, x, n + 1) :: r) = ((Ob' (guardP v (g.get s)) fun t => Br t (WI (fun _ => []) (fun _ _ => none) op s (fun y _ => y = x)) (PV.v Go.undef = x)) ∧ chkTodo s r) := by
  simp only [chkTodo, yv_gu]

@[simp] theorem chkPast_g {V E : Nat → PV} {d : Option Dst} {op : IOp} {g : Opd} {v : Bool} {x : PV} {n : Nat} {s : St} {ms : List St} : chkPast V E ⟨d, op, some (g, v)⟩ x (n + 1) (s :: ms) = ((Ob' (guardP v (g.get { s with V := V, E := E })) fun t => Br t (WI (fun _ => []) (fun _ _ => none) op { s with V := V, E := E } (fun y _ => y = x)) (PV.v Go.undef = x)) ∧ chkPast V E ⟨d, op, some (g, v)⟩ x n ms) := by
  simp only [chkPast, yv_gu]

theorem rows_of {α : Type} {f : α → List PV} {p : α → Prop} {tys : List TY} (h : ∀ cs, ShpL tys cs → ∃ a, f a = cs ∧ p a) : ∀ {es : List (List PV)}, (∀ cs ∈ es, ShpL tys cs) → ∃ l : List α, l.map f = es ∧ ∀ a ∈ l, p a
  | [], _ => ⟨[], rfl, by simp⟩
  | e :: es, hs => by
    obtain ⟨a, ha, hp⟩ := h e (hs e (by simp))
    obtain ⟨l, hl, hq⟩ := rows_of h (es := es) (fun cs hc => hs cs (by simp [hc]))
    refine ⟨a :: l, by simp [ha, hl], fun b hb => ?_⟩
    rcases List.mem_cons.mp hb with e | e
    · subst e; exact hp
    · exact hq b e

theorem of_all {P : Program} {l : List TypeId} (h : (l.all fun t => P.readableRec t && decide (t < P.types.size)) = true) : ∀ t ∈ l, P.readableRec t = true ∧ t < P.types.size := by
  intro t ht
  have := List.all_eq_true.mp h t ht
  simpa using this

theorem args1 {p : Bool × List TY} {pvs : List PV} (h : All2 (fun p c => ShpA p.1 p.2 c) [p] pvs) : ∃ a, pvs = [a] ∧ ShpA p.1 p.2 a := by
  cases h with
  | cons h1 t => cases t with
    | nil => exact ⟨_, rfl, h1⟩

/-- The bytes that a source draws from. -/
def byts (B : List Int) : List (List PV) := B.map fun n => [.v (.int .u8 n)]

@[simp] theorem byts_len (B : List Int) : (byts B).length = B.length := by simp [byts]

theorem byts_get {B : List Int} {i : Nat} {x : Int} (h : B[i]? = some x) : (byts B)[i]? = some [.v (.int .u8 x)] := by simp [byts, h]

/-- The end of a call of which something is told. -/
def FinG (rv : List RV) (io : Nat) (G : List PV × List PV → Prop) (_ : Dm rv) (_ : Dm G) (e : Ex) (s : St) : Prop := (e = .normal ∨ e = .ret) ∧ ∃ r, finishEv ⟨[], rv, .skip⟩ io s = some r ∧ G r

@[simp] theorem FinG_n {rv : List RV} {io : Nat} {G : List PV × List PV → Prop} {s : St} : FinG rv io G ⟨⟩ ⟨⟩ .normal s = ∃ r, finishEv ⟨[], rv, .skip⟩ io s = some r ∧ G r := by simp [FinG]

@[simp] theorem FinG_r {rv : List RV} {io : Nat} {G : List PV × List PV → Prop} {s : St} : FinG rv io G ⟨⟩ ⟨⟩ .ret s = ∃ r, finishEv ⟨[], rv, .skip⟩ io s = some r ∧ G r := by simp [FinG]

theorem RUN_G {T : Table} {f : Nat} {ms : List Bool} {rv : List RV} {ic : IC} {G : List PV × List PV → Prop} (hT : T f = some (.code ⟨ms, rv, ic⟩)) {args : List PV} {st : St} (hi : initEv args = some st) (h : W (modesOf T) (RUN T) ic st (FinG rv st.nx G ⟨⟩ ⟨⟩)) : ∃ r, RUN T f args = some r ∧ G r := by
  unfold W at h
  obtain ⟨e, s, h1, h2, r, h3, hG⟩ := h
  refine ⟨r, RUN_code hT ?_, hG⟩
  unfold callL
  rw [hi]
  simp only [Option.bind_some, h1]
  rcases h2 with rfl | rfl <;> exact h3
attribute [irreducible] FinG

theorem and255 (X : Nat) : 0 ≤ IntKind.i64.wrap ((X &&& 255 % 2 ^ IntKind.i64.bits : Nat) : Int) ∧ IntKind.i64.wrap ((X &&& 255 % 2 ^ IntKind.i64.bits : Nat) : Int) ≤ 255 := by
  have h : X &&& 255 % 2 ^ IntKind.i64.bits ≤ 255 := Nat.le_trans Nat.and_le_right (by decide)
  rw [w64 (by omega) (by omega)]
  omega

/-- What a drawing function may answer: a value with a property, and the source further on. -/
def Draw (B : List Int) (P : PV → Prop) (r : List PV × List PV) : Prop := ∃ (v : PV) (p : Nat) (s : Int), P v ∧ p ≤ B.length ∧ r = ([v], [.bx [.sl 1 (byts B), iv p, iv s]])

def PB (v : PV) : Prop := ∃ b, v = bv b

def PM (l : List Int) (v : PV) : Prop := ∃ n, v = iv n ∧ n ∈ l

def PI (v : PV) : Prop := ∃ n, v = iv n ∧ inI n

def PN (n : Int) (v : PV) : Prop := ∃ m, v = iv m ∧ 0 ≤ m ∧ (0 < n → m < n)

theorem R_spec_l1Byte (B : List Int) (p : Nat) (s : Int) (hp : p ≤ B.length) (hB : B.length ≤ 9223372036854775807) : ∃ r, RUN T k_spec_l1Byte [.bx [.sl 1 (byts B), iv p, iv s]] = some r ∧ Draw B (fun v => ∃ n, v = iv n ∧ 0 ≤ n ∧ n ≤ 255) r := by
  refine RUN_G T_spec_l1Byte rfl ?_
  by_cases h : p < B.length
  · obtain ⟨x, hx⟩ : ∃ x, B[p]? = some x := ⟨_, List.getElem?_eq_getElem h⟩
    have hx' := byts_get hx
    have hw := wS h hB
    simp [-getElem?_pos, k_spec_l1Byte_ic, k_spec_l1Byte_rv, h, hx', hw]
    exact ⟨_, p + 1, _, ⟨_, rfl, (and255 _).1, (and255 _).2⟩, h, rfl⟩
  · have h' : ¬ ((p : Int) < B.length) := by omega
    simp [-getElem?_pos, k_spec_l1Byte_ic, k_spec_l1Byte_rv, h, h']
    exact ⟨_, p, _, ⟨_, rfl, (and255 _).1, (and255 _).2⟩, hp, rfl⟩

theorem R_spec_l1Below (B : List Int) (p : Nat) (s : Int) (hp : p ≤ B.length) (hB : B.length ≤ 9223372036854775807) (n : Int) (hn : n ≤ 9223372036854775807) : ∃ r, RUN T k_spec_l1Below [.bx [.sl 1 (byts B), iv p, iv s], iv n] = some r ∧ Draw B (PN n) r := by
  refine RUN_G T_spec_l1Below rfl ?_
  obtain ⟨r1, h1, v1, p1, s1, ⟨a1, rfl, a10, a11⟩, hp1, rfl⟩ := R_spec_l1Byte B p s hp hB
  by_cases c1 : n ≤ 0
  · simp [-getElem?_pos, k_spec_l1Below_ic, k_spec_l1Below_rv, c1]
    exact ⟨_, p, s, ⟨0, rfl, by omega, by omega⟩, hp, rfl⟩
  have c0 : ¬ (n = 0) := by omega
  by_cases c2 : n ≤ 256
  · simp [-getElem?_pos, k_spec_l1Below_ic, k_spec_l1Below_rv, c0, c1, c2, h1]
    refine ⟨_, p1, s1, ⟨_, rfl, ?_, fun _ => ?_⟩, hp1, rfl⟩
    · exact Int.tmod_nonneg _ a10
    · exact Int.tmod_lt_of_pos _ (by omega)
  obtain ⟨r2, h2, v2, p2, s2, ⟨a2, rfl, a20, a21⟩, hp2, rfl⟩ := R_spec_l1Byte B p1 s1 hp1 hB
  obtain ⟨r3, h3, v3, p3, s3, ⟨a3, rfl, a30, a31⟩, hp3, rfl⟩ := R_spec_l1Byte B p2 s2 hp2 hB
  obtain ⟨r4, h4, v4, p4, s4, ⟨a4, rfl, a40, a41⟩, hp4, rfl⟩ := R_spec_l1Byte B p3 s3 hp3 hB
  have w1 := w64 (x := a1 * 16777216) (by omega) (by omega)
  have w2 := w64 (x := a2 * 65536) (by omega) (by omega)
  have w3 := w64 (x := a1 * 16777216 + a2 * 65536) (by omega) (by omega)
  have w4 := w64 (x := a3 * 256) (by omega) (by omega)
  have w5 := w64 (x := a1 * 16777216 + a2 * 65536 + a3 * 256) (by omega) (by omega)
  have w6 := w64 (x := a1 * 16777216 + a2 * 65536 + a3 * 256 + a4) (by omega) (by omega)
  simp [-getElem?_pos, k_spec_l1Below_ic, k_spec_l1Below_rv, c0, c1, c2, h1, h2, h3, h4, w1, w2, w3, w4, w5, w6]
  refine ⟨_, p4, s4, ⟨_, rfl, ?_, fun _ => ?_⟩, hp4, rfl⟩
  · exact Int.tmod_nonneg _ (by omega)
  · exact Int.tmod_lt_of_pos _ (by omega)

theorem R_spec_l1Once (B : List Int) (p : Nat) (s : Int) (hp : p ≤ B.length) (hB : B.length ≤ 9223372036854775807) (n : Int) (hn : n ≤ 9223372036854775807) : ∃ r, RUN T k_spec_l1Once [.bx [.sl 1 (byts B), iv p, iv s], iv n] = some r ∧ Draw B PB r := by
  refine RUN_G T_spec_l1Once rfl ?_
  obtain ⟨r1, h1, v1, p1, s1, ⟨a1, rfl, a10, a11⟩, hp1, rfl⟩ := R_spec_l1Below B p s hp hB n hn
  simp [-getElem?_pos, k_spec_l1Once_ic, k_spec_l1Once_rv, h1]
  exact ⟨_, p1, s1, ⟨_, rfl⟩, hp1, rfl⟩

/-- The same where a list is handed over and back. -/
def Draw2 (B : List Int) (l : List Int) (P : PV → Prop) (r : List PV × List PV) : Prop := ∃ (v : PV) (p : Nat) (s : Int), P v ∧ p ≤ B.length ∧ r = ([v], [.bx [.sl 1 (byts B), iv p, iv s], .own 1 (ints l)])

theorem R_spec_l1PickInt (B : List Int) (p : Nat) (s : Int) (hp : p ≤ B.length) (hB : B.length ≤ 9223372036854775807) (l : List Int) (hl : 0 < l.length ∧ l.length ≤ 9223372036854775807) : ∃ r, RUN T k_spec_l1PickInt [.bx [.sl 1 (byts B), iv p, iv s], .own 1 (ints l)] = some r ∧ Draw2 B l (PM l) r := by
  refine RUN_G T_spec_l1PickInt rfl ?_
  obtain ⟨r1, h1, v1, p1, s1, ⟨a1, rfl, a10, a11⟩, hp1, rfl⟩ := R_spec_l1Below B p s hp hB l.length (by omega)
  obtain ⟨i, rfl⟩ : ∃ i : Nat, a1 = i := ⟨a1.toNat, by omega⟩
  have hi : i < l.length := by have := a11 (by omega); omega
  obtain ⟨x, hx⟩ : ∃ x, l[i]? = some x := ⟨_, List.getElem?_eq_getElem hi⟩
  have hx' := ints_get hx
  simp [-getElem?_pos, k_spec_l1PickInt_ic, k_spec_l1PickInt_rv, h1, hx', hi]
  exact ⟨_, p1, s1, ⟨x, rfl, List.mem_of_getElem? hx⟩, hp1, rfl⟩

theorem inI_wrap (x : Int) : inI (IntKind.i64.wrap x) := by
  unfold inI IntKind.wrap
  simp [IntKind.bits, IntKind.signed]
  omega

theorem R_spec_l1Whole (B : List Int) (p : Nat) (s : Int) (hp : p ≤ B.length) (hB : B.length ≤ 9223372036854775807) : ∃ r, RUN T k_spec_l1Whole [.bx [.sl 1 (byts B), iv p, iv s]] = some r ∧ Draw B PI r := by
  refine RUN_G T_spec_l1Whole rfl ?_
  obtain ⟨r1, h1, v1, p1, s1, ⟨a1, rfl, a10, a11⟩, hp1, rfl⟩ := R_spec_l1Below B p s hp hB 4 (by omega)
  by_cases c0 : a1 = 0
  · obtain ⟨r2, h2, v2, p2, s2, ⟨a2, rfl, hm⟩, hp2, rfl⟩ := R_spec_l1PickInt B p1 s1 hp1 hB [0, 1, -1, 9, 10, 999, 1000, 2147483647, -2147483648, 3037000499, 3037000500, 9223372036854775807, -9223372036854775807, -9223372036854775808] (by simp)
    simp only [ints, List.map] at h2
    simp [-getElem?_pos, k_spec_l1Whole_ic, k_spec_l1Whole_rv, h1, c0, h2]
    refine ⟨_, p2, s2, ⟨a2, rfl, ?_⟩, hp2, rfl⟩
    simp at hm
    unfold inI
    omega
  by_cases c1 : a1 = 1
  · simp [-getElem?_pos, k_spec_l1Whole_ic, k_spec_l1Whole_rv, h1, c0, c1]
    refine W_loop (fun n st => ∃ (i p : Nat) (x s : Int), i + n = 8 ∧ p ≤ B.length ∧ inI x ∧ st.V 0 = .ptr 0 none 0 0 0 ∧ st.V 3 = iv x ∧ st.V 4 = iv i ∧ 0 < st.nx ∧ st.ep = 0 ∧ st.S 0 = some (.box [.sl 1 (byts B), iv p, iv s])) ?_ 8 _ ⟨0, p1, 0, s1, by omega, hp1, by unfold inI; omega, by simp⟩
    clear h1
    rintro n st ⟨i, p, x, s, hi, hp, hx, v0, v3, v4, hnx, hep, hS⟩
    simp [k_spec_l1Whole_b0, v4]
    refine Br_i (fun h => ?_) (fun h => ?_)
    · simp at h
      obtain ⟨r2, h2, v2, p2, s2, ⟨a2, rfl, a20, a21⟩, hp2, rfl⟩ := R_spec_l1Byte B p s hp hB
      have w := w64 (x := (i : Int) + 1) (by omega) (by omega)
      simp [-getElem?_pos, v0, v3, v4, hep, hS, h2, w]
      exact Rnd_n (n - 1) (by omega) ⟨i + 1, p2, _, s2, by omega, hp2, inI_wrap _, by simp [v0], by simp; rfl, by simp, by simp [hnx], by simp [hep], by simp⟩
    · simp [-getElem?_pos, v3, v0, hS]
      exact ⟨_, p, s, ⟨x, rfl, hx⟩, hp, rfl⟩
  by_cases c2 : a1 = 2
  · obtain ⟨r2, h2, v2, p2, s2, ⟨a2, rfl, a20, a21⟩, hp2, rfl⟩ := R_spec_l1Below B p1 s1 hp1 hB 1000000 (by omega)
    have a22 := a21 (by omega)
    have w := w64 (x := a2 - 500000) (by omega) (by omega)
    simp [-getElem?_pos, k_spec_l1Whole_ic, k_spec_l1Whole_rv, h1, c0, c1, c2, h2, w]
    exact ⟨_, p2, s2, ⟨_, rfl, by unfold inI; omega⟩, hp2, rfl⟩
  · obtain ⟨r2, h2, v2, p2, s2, ⟨a2, rfl, a20, a21⟩, hp2, rfl⟩ := R_spec_l1Below B p1 s1 hp1 hB 41 (by omega)
    have a22 := a21 (by omega)
    have w := w64 (x := a2 - 20) (by omega) (by omega)
    simp [-getElem?_pos, k_spec_l1Whole_ic, k_spec_l1Whole_rv, h1, c0, c1, c2, h2, w]
    exact ⟨_, p2, s2, ⟨_, rfl, by unfold inI; omega⟩, hp2, rfl⟩

theorem R_spec_l1New (B : List Int) (hB : B.length ≤ 9223372036854775807) : ∃ r, RUN T k_spec_l1New [.sl 1 (byts B)] = some r ∧ ∃ s : Int, r = ([.bx [.sl 1 (byts B), iv (0 : Nat), iv s]], []) := by
  refine RUN_G T_spec_l1New rfl ?_
  simp [-getElem?_pos, k_spec_l1New_ic, k_spec_l1New_rv]
  refine W_loop (fun n st => ∃ (i : Nat) (x : Int), i + n = B.length ∧ st.V 0 = .sl 1 (byts B) ∧ st.V 3 = iv x ∧ st.V 4 = iv i) ?_ B.length _ ⟨0, _, by omega, by simp, by simp; rfl, by simp⟩
  rintro n st ⟨i, x, hi, v0, v3, v4⟩
  by_cases h : i < B.length
  · obtain ⟨b, hx⟩ : ∃ b, B[i]? = some b := ⟨_, List.getElem?_eq_getElem h⟩
    have hx' := byts_get hx
    have hw := wS h hB
    by_cases h2 : (i : Int) < 4000
    · have h2' := eq_true h2
      simp [-getElem?_pos, k_spec_l1New_b0, v0, v3, v4, h, h2', hx', hw]
      exact Rnd_n (n - 1) (by omega) ⟨i + 1, _, by omega, by simp [v0], by simp; rfl, by simp⟩
    · have h2' := eq_false h2
      simp [-getElem?_pos, k_spec_l1New_b0, v0, v3, v4, h, h2']
  · simp [-getElem?_pos, k_spec_l1New_b0, v0, v3, v4, h]

theorem R_laws_big (es : List (List PV)) : RUN T k_laws_big [.sl 1 es] = some ([bv (decide ((1048576 : Int) < es.length))], []) := by
  refine RUN_W T_laws_big rfl ?_
  simp [-getElem?_pos, k_laws_big_ic, k_laws_big_rv]

def PC (n : Nat) (v : PV) : Prop := ∃ c : Cfg, v = cfgO c ∧ c.sg.length ≤ n

/-- The cell that holds a list, in a box. -/
def LC (S : Nat → Option Ob) (nx : Nat) (lo : Nat) (m : List Int) (x : PV) : Prop := (x = .e0 ∧ m = []) ∨ ∃ o e, x = .ref o none e 0 m.length ∧ lo < o ∧ o < nx ∧ S o = some (.row 1 (ints m))

theorem R_spec_l8Right (B : List Int) (p : Nat) (s : Int) (hp : p ≤ B.length) (hB : B.length ≤ 9223372036854775807) : ∃ r, RUN T k_spec_l8Right [.bx [.sl 1 (byts B), iv p, iv s]] = some r ∧ Draw B (PC 60) r := by
  refine RUN_G T_spec_l8Right rfl ?_
  obtain ⟨r1, h1, v1, p1, s1, ⟨a1, rfl, a10, a11⟩, hp1, rfl⟩ := R_spec_l1Below B p s hp hB 4 (by omega)
  obtain ⟨r2, h2, v2, p2, s2, ⟨a2, rfl, a20, a21⟩, hp2, rfl⟩ := R_spec_l1Below B p1 s1 hp1 hB 4 (by omega)
  obtain ⟨r3, h3, v3, p3, s3, ⟨a3, rfl, a30, a31⟩, hp3, rfl⟩ := R_spec_l1Below B p2 s2 hp2 hB 5 (by omega)
  obtain ⟨r4, h4, v4, p4, s4, ⟨a4, rfl, a40, a41⟩, hp4, rfl⟩ := R_spec_l1Below B p3 s3 hp3 hB 3 (by omega)
  obtain ⟨r5, h5, v5, p5, s5, ⟨a5, rfl, a50, a51⟩, hp5, rfl⟩ := R_spec_l1Below B p4 s4 hp4 hB 3 (by omega)
  obtain ⟨r6, h6, v6, p6, s6, ⟨a6, rfl, a60, a61⟩, hp6, rfl⟩ := R_spec_l1Below B p5 s5 hp5 hB 3 (by omega)
  obtain ⟨r7, h7, v7, p7, s7, ⟨b1, rfl⟩, hp7, rfl⟩ := R_spec_l1Once B p6 s6 hp6 hB 8 (by omega)
  have w6 : IntKind.i64.wrap (1 + a6) = 1 + a6 := by have := a61 (by omega); exact w64 (by omega) (by omega)
  have key : ∀ (k : Int) (x0 x1 x2 x3 x4 x5 x6 : Int) (st : St) (p : Nat) (s : Int), 0 ≤ k → k ≤ 60 → p ≤ B.length → st.V 0 = .ptr 0 none 0 0 0 → st.V 2 = .ptr 1 none 0 0 0 → st.V 3 = .ptr 2 none 0 0 0 → st.V 4 = iv k → st.V 5 = iv (0 : Nat) → st.nx = 3 → st.S 0 = some (.box [.sl 1 (byts B), iv p, iv s]) → st.S 1 = some (.box [iv 0, iv 0, iv 0, iv 0, iv 0, iv 0, iv 0, .e0]) → st.S 2 = some (.box [iv x0, iv x1, iv x2, iv x3, iv x4, iv x5, iv x6, .e0]) → W (modesOf T) (RUN T) (.loop k_spec_l8Right_b0) st (Bl 0 (Nx (fun s => W (modesOf T) (RUN T) (.seq (.reg [⟨some (.E 53), .load true 8 (.V 3), none⟩, ⟨none, .store [0, 0, 0, 0, 0, 0, 0, 1] (.V 2) (.E 53), none⟩]) .ret) s (FinG [.cell [0, 0, 0, 0, 0, 0, 0, 1] 2 true] 1 (Draw B (PC 60)) ⟨⟩ ⟨⟩)) (FinG [.cell [0, 0, 0, 0, 0, 0, 0, 1] 2 true] 1 (Draw B (PC 60)) ⟨⟩ ⟨⟩) ⟨⟩ ⟨⟩) ⟨⟩) := by
    intro k x0 x1 x2 x3 x4 x5 x6 st p s hk0 hk hp v0 v2 v3 v4 v5 hnx hS hS1 hS2
    obtain ⟨kn, rfl⟩ : ∃ n : Nat, k = n := ⟨k.toNat, by omega⟩
    refine W_loop (fun n st => ∃ (i p : Nat) (s : Int) (m : List Int) (x : PV), i + n = kn ∧ m.length = i ∧ p ≤ B.length ∧ st.V 0 = .ptr 0 none 0 0 0 ∧ st.V 2 = .ptr 1 none 0 0 0 ∧ st.V 3 = .ptr 2 none 0 0 0 ∧ st.V 4 = iv kn ∧ st.V 5 = iv i ∧ 2 < st.nx ∧ LC st.S st.nx 2 m x ∧ st.S 0 = some (.box [.sl 1 (byts B), iv p, iv s]) ∧ st.S 1 = some (.box [iv 0, iv 0, iv 0, iv 0, iv 0, iv 0, iv 0, .e0]) ∧ st.S 2 = some (.box [iv x0, iv x1, iv x2, iv x3, iv x4, iv x5, iv x6, x])) ?_ kn _ ⟨0, p, s, [], .e0, by omega, rfl, hp, v0, v2, v3, v4, v5, by omega, .inl ⟨rfl, rfl⟩, hS, hS1, hS2⟩
    clear v0 v2 v3 v4 v5 hnx hS hS1 hS2 hp
    rintro n st ⟨i, p, s, m, x, hi, hm, hp, v0, v2, v3, v4, v5, hnx, hx, hS, hS1, hS2⟩
    have z1 := fr hnx
    have z2 := fr (by omega : 0 < st.nx)
    have z3 := fr (by omega : 1 < st.nx)
    simp [k_spec_l8Right_b0, v4, v5]
    refine Br_i (fun h => ?_) (fun h => ?_)
    · simp at h
      have hw := w64 (x := (i : Int) + 1) (by omega) (by omega)
      obtain ⟨r1, h1, v1, p1, s1, ⟨a, rfl, a0, a1⟩, hp1, rfl⟩ := R_spec_l1Below B p s hp hB 3 (by omega)
      have a2 := a1 (by omega)
      have w := w64 (x := a - 1) (by omega) (by omega)
      rcases hx with ⟨rfl, rfl⟩ | ⟨o, e, rfl, ho, hox, hSo⟩
      · have hr8 : roomFor 8 1 = true := by decide
        have hone : [[iv (a - 1)]] = ints [a - 1] := rfl
        simp [-getElem?_pos, v0, v2, v3, v4, v5, hS, hS1, hS2, z1, z2, z3, h1, w, hw, hr8]
        exact Rnd_n (n - 1) (by omega) ⟨i + 1, p1, s1, [a - 1], .ref (st.nx + 1) none st.ep 0 1, by omega, by simp at hm; simp; omega, hp1, by simp [v0], by simp [v2], by simp [v3], by simp [v4], by simp, by simp; omega, .inr ⟨st.nx + 1, st.ep, rfl, by omega, by simp, by
          have n2 : ¬ st.nx + 1 = 2 := by omega
          simp [n2, ints]⟩, by simp [z1, z2, z3], by simp [z1, z2, z3, hS1], by simp⟩
      · have hr8 := room8 (n := m.length + 1) (by omega)
        have y1 := fr hox
        have y2 := fr ho
        have y3 := fr (by omega : 0 < o)
        have y4 := fr (by omega : 1 < o)
        simp [-getElem?_pos, v0, v2, v3, v4, v5, hS, hS1, hS2, hSo, z1, z2, z3, y1, y2, y3, y4, h1, w, hw, hr8, ints_snoc]
        exact Rnd_n (n - 1) (by omega) ⟨i + 1, p1, s1, m ++ [a - 1], .ref (st.nx + 1) none st.ep 0 (m.length + 1), by omega, by simp [hm], hp1, by simp [v0], by simp [v2], by simp [v3], by simp [v4], by simp, by simp; omega, .inr ⟨st.nx + 1, st.ep, by simp, by omega, by simp, by
          have n2 : ¬ st.nx + 1 = 2 := by omega
          simp [n2]⟩, by simp [z1, z2, z3, y1, y2, y3, y4], by simp [z1, z2, z3, y1, y2, y3, y4, hS1], by simp⟩
    · simp at h
      rcases hx with ⟨rfl, rfl⟩ | ⟨o, e, rfl, ho, hox, hSo⟩
      · simp [-getElem?_pos, v0, v2, v3, hS, hS1, hS2]
        exact ⟨_, p, s, ⟨⟨x0, x1, x2, x3, x4, x5, x6, []⟩, rfl, by simp⟩, hp, rfl⟩
      · have y2 := fr ho
        have y3 := fr (by omega : 0 < o)
        have y4 := fr (by omega : 1 < o)
        have y5 : 1 ≤ o := by omega
        simp [-getElem?_pos, v0, v2, v3, hS, hS1, hS2, hSo, y2, y3, y4, y5]
        exact ⟨_, p, s, ⟨⟨x0, x1, x2, x3, x4, x5, x6, m⟩, rfl, by simp only; omega⟩, hp, rfl⟩
  cases b1 with
  | true =>
    obtain ⟨r8, h8, v8, p8, s8, ⟨a8, rfl, a80, a81⟩, hp8, rfl⟩ := R_spec_l1Below B p7 s7 hp7 hB 100 (by omega)
    obtain ⟨r9, h9, v9, p9, s9, ⟨b2, rfl⟩, hp9, rfl⟩ := R_spec_l1Once B p8 s8 hp8 hB 4 (by omega)
    cases b2 with
    | true =>
      obtain ⟨r10, h10, v10, p10, s10, ⟨a10', rfl, _, _⟩, hp10, rfl⟩ := R_spec_l1Below B p9 s9 hp9 hB (1 + a6) (by have := a61 (by omega); omega)
      obtain ⟨r11, h11, v11, p11, s11, ⟨k, rfl, k0, k1⟩, hp11, rfl⟩ := R_spec_l1Below B p10 s10 hp10 hB 5 (by omega)
      have k2 := k1 (by omega)
      simp [-getElem?_pos, k_spec_l8Right_ic, k_spec_l8Right_rv, h1, h2, h3, h4, h5, h6, h7, h8, h9, h10, h11, w6]
      exact key k _ _ _ _ _ _ _ _ p11 s11 k0 (by omega) hp11 (by simp) (by simp) (by simp) (by simp) (by simp) (by simp) (by simp) (by simp) (by simp; exact ⟨rfl, rfl, rfl, rfl, rfl, rfl, rfl⟩)
    | false =>
      obtain ⟨r11, h11, v11, p11, s11, ⟨k, rfl, k0, k1⟩, hp11, rfl⟩ := R_spec_l1Below B p9 s9 hp9 hB 5 (by omega)
      have k2 := k1 (by omega)
      simp [-getElem?_pos, k_spec_l8Right_ic, k_spec_l8Right_rv, h1, h2, h3, h4, h5, h6, h7, h8, h9, h11, w6]
      exact key k _ _ _ _ _ _ _ _ p11 s11 k0 (by omega) hp11 (by simp) (by simp) (by simp) (by simp) (by simp) (by simp) (by simp) (by simp) (by simp; exact ⟨rfl, rfl, rfl, rfl, rfl, rfl, rfl⟩)
  | false =>
    obtain ⟨r9, h9, v9, p9, s9, ⟨b2, rfl⟩, hp9, rfl⟩ := R_spec_l1Once B p7 s7 hp7 hB 4 (by omega)
    cases b2 with
    | true =>
      obtain ⟨r10, h10, v10, p10, s10, ⟨a10', rfl, _, _⟩, hp10, rfl⟩ := R_spec_l1Below B p9 s9 hp9 hB (1 + a6) (by have := a61 (by omega); omega)
      obtain ⟨r11, h11, v11, p11, s11, ⟨k, rfl, k0, k1⟩, hp11, rfl⟩ := R_spec_l1Below B p10 s10 hp10 hB 5 (by omega)
      have k2 := k1 (by omega)
      simp [-getElem?_pos, k_spec_l8Right_ic, k_spec_l8Right_rv, h1, h2, h3, h4, h5, h6, h7, h9, h10, h11, w6]
      exact key k _ _ _ _ _ _ _ _ p11 s11 k0 (by omega) hp11 (by simp) (by simp) (by simp) (by simp) (by simp) (by simp) (by simp) (by simp) (by simp; exact ⟨rfl, rfl, rfl, rfl, rfl, rfl, rfl⟩)
    | false =>
      obtain ⟨r11, h11, v11, p11, s11, ⟨k, rfl, k0, k1⟩, hp11, rfl⟩ := R_spec_l1Below B p9 s9 hp9 hB 5 (by omega)
      have k2 := k1 (by omega)
      simp [-getElem?_pos, k_spec_l8Right_ic, k_spec_l8Right_rv, h1, h2, h3, h4, h5, h6, h7, h9, h11, w6]
      exact key k _ _ _ _ _ _ _ _ p11 s11 k0 (by omega) hp11 (by simp) (by simp) (by simp) (by simp) (by simp) (by simp) (by simp) (by simp) (by simp; exact ⟨rfl, rfl, rfl, rfl, rfl, rfl, rfl⟩)

theorem R_spec_l8Bent (B : List Int) (p : Nat) (s : Int) (hp : p ≤ B.length) (hB : B.length ≤ 9223372036854775807) : ∃ r, RUN T k_spec_l8Bent [.bx [.sl 1 (byts B), iv p, iv s]] = some r ∧ Draw B (PC 64) r := by
  refine RUN_G T_spec_l8Bent rfl ?_
  obtain ⟨r1, h1, v1, p1, s1, ⟨c, rfl, hc⟩, hp1, rfl⟩ := R_spec_l8Right B p s hp hB
  obtain ⟨r2, h2, v2, p2, s2, ⟨a, rfl, a0, a1⟩, hp2, rfl⟩ := R_spec_l1Below B p1 s1 hp1 hB 12 (by omega)
  have hr8 : roomFor 8 1 = true := by decide
  by_cases c0 : a = 0
  · obtain ⟨r3, h3, v, p3, s3, ⟨x, rfl, hx⟩, hp3, rfl⟩ := R_spec_l1PickInt B p2 s2 hp2 hB [0, 1, 8, 9, -1] (by simp)
    simp only [ints, List.map] at h3
    simp [-getElem?_pos, k_spec_l8Bent_ic, k_spec_l8Bent_rv, hr8, h1, h2, c0, h3]
    exact ⟨_, p3, s3, ⟨⟨x, c.de, c.bi, c.la, c.rw, c.nu, c.dn, c.sg⟩, rfl, by simp only; omega⟩, hp3, rfl⟩
  by_cases c1 : a = 1
  · obtain ⟨r3, h3, v, p3, s3, ⟨x, rfl, hx⟩, hp3, rfl⟩ := R_spec_l1PickInt B p2 s2 hp2 hB [-1, 0, 4, 5] (by simp)
    simp only [ints, List.map] at h3
    simp [-getElem?_pos, k_spec_l8Bent_ic, k_spec_l8Bent_rv, hr8, h1, h2, c0, c1, h3]
    exact ⟨_, p3, s3, ⟨⟨c.ro, x, c.bi, c.la, c.rw, c.nu, c.dn, c.sg⟩, rfl, by simp only; omega⟩, hp3, rfl⟩
  by_cases c2 : a = 2
  · obtain ⟨r3, h3, v, p3, s3, ⟨x, rfl, hx⟩, hp3, rfl⟩ := R_spec_l1PickInt B p2 s2 hp2 hB [1, 2, 8, 9] (by simp)
    simp only [ints, List.map] at h3
    simp [-getElem?_pos, k_spec_l8Bent_ic, k_spec_l8Bent_rv, hr8, h1, h2, c0, c1, c2, h3]
    exact ⟨_, p3, s3, ⟨⟨c.ro, c.de, x, c.la, c.rw, c.nu, c.dn, c.sg⟩, rfl, by simp only; omega⟩, hp3, rfl⟩
  by_cases c3 : a = 3
  · obtain ⟨r3, h3, v, p3, s3, ⟨x, rfl, hx⟩, hp3, rfl⟩ := R_spec_l1PickInt B p2 s2 hp2 hB [0, 1, 100, 101, 9223372036854775807] (by simp)
    simp only [ints, List.map] at h3
    simp [-getElem?_pos, k_spec_l8Bent_ic, k_spec_l8Bent_rv, hr8, h1, h2, c0, c1, c2, c3, h3]
    exact ⟨_, p3, s3, ⟨⟨c.ro, c.de, c.bi, x, c.rw, c.nu, c.dn, c.sg⟩, rfl, by simp only; omega⟩, hp3, rfl⟩
  by_cases c4 : a = 4
  · obtain ⟨r3, h3, v, p3, s3, ⟨x, rfl, hx⟩, hp3, rfl⟩ := R_spec_l1PickInt B p2 s2 hp2 hB [0, 1, 20, 21] (by simp)
    simp only [ints, List.map] at h3
    simp [-getElem?_pos, k_spec_l8Bent_ic, k_spec_l8Bent_rv, hr8, h1, h2, c0, c1, c2, c3, c4, h3]
    exact ⟨_, p3, s3, ⟨⟨c.ro, c.de, c.bi, c.la, x, c.nu, c.dn, c.sg⟩, rfl, by simp only; omega⟩, hp3, rfl⟩
  by_cases c5 : a = 5
  · obtain ⟨r3, h3, v, p3, s3, ⟨x, rfl, hx⟩, hp3, rfl⟩ := R_spec_l1PickInt B p2 s2 hp2 hB [0, 1, c.dn, IntKind.i64.wrap (c.dn + 1), -1] (by simp)
    simp only [ints, List.map] at h3
    simp [-getElem?_pos, k_spec_l8Bent_ic, k_spec_l8Bent_rv, hr8, h1, h2, c0, c1, c2, c3, c4, c5, h3]
    exact ⟨_, p3, s3, ⟨⟨c.ro, c.de, c.bi, c.la, c.rw, x, c.dn, c.sg⟩, rfl, by simp only; omega⟩, hp3, rfl⟩
  by_cases c6 : a = 6
  · obtain ⟨r3, h3, v, p3, s3, ⟨x, rfl, hx⟩, hp3, rfl⟩ := R_spec_l1PickInt B p2 s2 hp2 hB [0, 1, 1000, 1001, 9223372036854775807] (by simp)
    simp only [ints, List.map] at h3
    simp [-getElem?_pos, k_spec_l8Bent_ic, k_spec_l8Bent_rv, hr8, h1, h2, c0, c1, c2, c3, c4, c5, c6, h3]
    exact ⟨_, p3, s3, ⟨⟨c.ro, c.de, c.bi, c.la, c.rw, c.nu, x, c.sg⟩, rfl, by simp only; omega⟩, hp3, rfl⟩
  by_cases c7 : a = 7
  · obtain ⟨r3, h3, v, p3, s3, ⟨x, rfl, x0, x1⟩, hp3, rfl⟩ := R_spec_l1Below B p2 s2 hp2 hB 5 (by omega)
    have x2 := x1 (by omega)
    have w := w64 (x := x - 2) (by omega) (by omega)
    have hr9 := room8 (n := c.sg.length + 1) (by omega)
    simp [-getElem?_pos, k_spec_l8Bent_ic, k_spec_l8Bent_rv, hr8, hr9, h1, h2, c0, c1, c2, c3, c4, c5, c6, c7, h3, w, ints_snoc]
    exact ⟨_, p3, s3, ⟨⟨c.ro, c.de, c.bi, c.la, c.rw, c.nu, c.dn, c.sg ++ [x - 2]⟩, rfl, by simp; omega⟩, hp3, rfl⟩
  · simp [-getElem?_pos, k_spec_l8Bent_ic, k_spec_l8Bent_rv, hr8, h1, h2, c0, c1, c2, c3, c4, c5, c6, c7]
    exact ⟨_, p2, s2, ⟨c, rfl, by omega⟩, hp2, rfl⟩

theorem R_spec_DrawShrunk (B : List Int) (hB : B.length ≤ 9223372036854775807) : ∃ (v : Int) (c : Cfg), c.sg.length ≤ 64 ∧ RUN T k_spec_DrawShrunk [.sl 1 (byts B)] = some ([iv v, cfgO c], []) := by
  obtain ⟨r1, h1, s, rfl⟩ := R_spec_l1New B hB
  obtain ⟨r2, h2, v2, p2, s2, ⟨x, rfl, hx⟩, hp2, rfl⟩ := R_spec_l1Whole B 0 s (by omega) hB
  obtain ⟨r3, h3, v, p3, s3, ⟨y, rfl, hy⟩, hp3, rfl⟩ := R_spec_l1PickInt B p2 s2 hp2 hB [0, 1, -1, 7, -7, 1099511627776, -1099511627776, 1099511627777, x] (by simp)
  obtain ⟨r4, h4, v4, p4, s4, ⟨c, rfl, hc⟩, hp4, rfl⟩ := R_spec_l8Bent B p3 s3 hp3 hB
  simp only [ints, List.map] at h3
  simp at h1 h2
  refine ⟨y, c, hc, RUN_W T_spec_DrawShrunk rfl ?_⟩
  simp [-getElem?_pos, k_spec_DrawShrunk_ic, k_spec_DrawShrunk_rv, h1, h2, h3, h4]

theorem R_laws_tail (B : List Int) (hB : B.length ≤ 9223372036854775807) : RUN T k_laws_tail [.sl 1 (byts B)] = some ([.sl 1 (byts B.tail)], []) := by
  refine RUN_W T_laws_tail rfl ?_
  cases B with
  | nil => simp [k_laws_tail_ic, k_laws_tail_rv]
  | cons b B =>
    have h0 : ((B.length : Int) + 1 = 0) = False := eq_false (by omega)
    simp [k_laws_tail_ic, k_laws_tail_rv, h0, cut, byts]
    rw [List.take_of_length_le (by simp)]

theorem shr_between {v : Int} {c : Cfg} (h : (shr v c).2 = true) : (0 ≤ v → 0 ≤ (shr v c).1 ∧ (shr v c).1 ≤ v) ∧ (v < 0 → (shr v c).1 ≤ 0 ∧ v - 1 ≤ (shr v c).1) := by
  unfold shr at h ⊢
  split at h
  · rename_i hh
    rw [if_pos hh]
    simp only [Bool.and_eq_true] at hh
    obtain ⟨_, _, _, _, _, ⟨d1, d2⟩, ⟨n1, n2⟩, _⟩ := cfgOk_iff hh.1
    simp only
    rw [Int.fdiv_eq_ediv_of_nonneg _ (by omega)]
    refine ⟨fun hv => ⟨Int.ediv_nonneg (Int.mul_nonneg hv (by omega)) (by omega), ?_⟩, fun hv => ⟨?_, ?_⟩⟩
    · refine Int.ediv_le_of_le_mul (by omega) ?_
      exact Int.mul_le_mul_of_nonneg_left n2 hv
    · have : v * c.nu ≤ 0 := Int.mul_nonpos_of_nonpos_of_nonneg (by omega) (by omega)
      exact Int.ediv_le_of_le_mul (by omega) (by simpa using this)
    · refine Int.le_trans (by omega : v - 1 ≤ v) (Int.le_ediv_of_mul_le (by omega) ?_)
      exact Int.mul_le_mul_of_nonpos_left (by omega) n2
  · cases h

theorem shr_mono {v u : Int} {c : Cfg} (h : (shr v c).2 = true) (h2 : (shr u c).2 = true) (hvu : v ≤ u) : (shr v c).1 ≤ (shr u c).1 := by
  unfold shr at h h2 ⊢
  split at h
  · rename_i hh
    split at h2
    · rename_i hu
      rw [if_pos hh, if_pos hu]
      simp only [Bool.and_eq_true] at hh
      obtain ⟨_, _, _, _, _, ⟨d1, d2⟩, ⟨n1, n2⟩, _⟩ := cfgOk_iff hh.1
      simp only
      rw [Int.fdiv_eq_ediv_of_nonneg _ (by omega), Int.fdiv_eq_ediv_of_nonneg _ (by omega)]
      exact Int.ediv_le_ediv (by omega) (Int.mul_le_mul_of_nonneg_right hvu (by omega))
    · cases h2
  · cases h

theorem shr_0 {v : Int} {c : Cfg} (h : (shr v c).2 = false) : (shr v c).1 = 0 := by
  unfold shr at h ⊢
  split at h
  · cases h
  · rename_i hh; rw [if_neg hh]

theorem law_FnShrunk (B : List Int) (hB : B.length ≤ 9223372036854775807) : RUN T k_laws_FnShrunk [.sl 1 (byts B)] = some ([bv true], []) := by
  refine RUN_W T_laws_FnShrunk rfl ?_
  have hb := R_laws_big (byts B)
  rw [byts_len] at hb
  by_cases c0 : (1048576 : Int) < B.length
  · simp [-getElem?_pos, k_laws_FnShrunk_ic, k_laws_FnShrunk_rv, hb, c0]
  obtain ⟨v, c, hc, hd⟩ := R_spec_DrawShrunk B hB
  obtain ⟨u, c', hc', hd'⟩ := R_spec_DrawShrunk B.tail (by simp; omega)
  have ht := R_laws_tail B hB
  have h1 := R_impl_Shrunk v c (by omega)
  have h2 := R_impl_Shrunk u c (by omega)
  have h3 := R_spec_Shrunk v c (by omega)
  simp only [cfgS] at h1 h2 h3
  cases e1 : (shr v c).2 with
  | false =>
    have e0 := shr_0 e1
    rw [e1, e0] at h1 h3
    simp [-getElem?_pos, k_laws_FnShrunk_ic, k_laws_FnShrunk_rv, hb, c0, hd, hd', ht, h1, h2, h3]
  | true =>
    obtain ⟨b1, b2⟩ := shr_between e1
    rw [e1] at h1 h3
    have w : IntKind.i64.wrap (v - 1) = v - 1 := by
      have hl : leafV v = true := by
        unfold shr at e1
        split at e1
        · rename_i hh; simp only [Bool.and_eq_true] at hh; exact hh.2
        · cases e1
      have := within_iff.mp hl
      exact w64 (by omega) (by omega)
    have mono : ∀ (h2 : (shr u c).2 = true), v ≤ u → (shr v c).1 ≤ (shr u c).1 := fun h2 h => shr_mono e1 h2 h
    obtain ⟨a, ha⟩ : ∃ a, a = (shr v c).1 := ⟨_, rfl⟩
    obtain ⟨b, hbb⟩ : ∃ b, b = (shr u c).1 := ⟨_, rfl⟩
    rw [← ha] at b1 b2 h1 h3 mono
    rw [← hbb] at h2 mono
    cases e2 : (shr u c).2 with
    | false =>
      rw [e2] at h2
      by_cases hv : 0 ≤ v
      · obtain ⟨f1, f2⟩ := b1 hv
        simp [-getElem?_pos, k_laws_FnShrunk_ic, k_laws_FnShrunk_rv, hb, c0, hd, hd', ht, h1, h2, h3, w, eq_true hv, eq_true f1, eq_true f2]
      · obtain ⟨f1, f2⟩ := b2 (by omega)
        have hv' := eq_true (by omega : v < 0)
        simp [-getElem?_pos, k_laws_FnShrunk_ic, k_laws_FnShrunk_rv, hb, c0, hd, hd', ht, h1, h2, h3, w, eq_false hv, hv', eq_true f1, eq_true f2]
    | true =>
      rw [e2] at h2
      by_cases hu : u < v
      · by_cases hv : 0 ≤ v
        · obtain ⟨f1, f2⟩ := b1 hv
          simp [-getElem?_pos, k_laws_FnShrunk_ic, k_laws_FnShrunk_rv, hb, c0, hd, hd', ht, h1, h2, h3, w, eq_true hv, eq_true f1, eq_true f2, eq_true hu]
        · obtain ⟨f1, f2⟩ := b2 (by omega)
          have hv' := eq_true (by omega : v < 0)
          simp [-getElem?_pos, k_laws_FnShrunk_ic, k_laws_FnShrunk_rv, hb, c0, hd, hd', ht, h1, h2, h3, w, eq_false hv, hv', eq_true f1, eq_true f2, eq_true hu]
      · have f3 := mono e2 (by omega)
        by_cases hv : 0 ≤ v
        · obtain ⟨f1, f2⟩ := b1 hv
          simp [-getElem?_pos, k_laws_FnShrunk_ic, k_laws_FnShrunk_rv, hb, c0, hd, hd', ht, h1, h2, h3, w, eq_true hv, eq_true f1, eq_true f2, eq_false hu, eq_true f3]
        · obtain ⟨f1, f2⟩ := b2 (by omega)
          have hv' := eq_true (by omega : v < 0)
          simp [-getElem?_pos, k_laws_FnShrunk_ic, k_laws_FnShrunk_rv, hb, c0, hd, hd', ht, h1, h2, h3, w, eq_false hv, hv', eq_true f1, eq_true f2, eq_false hu, eq_true f3]

theorem shp_byteL (cs : List PV) (h : ShpL [.int .u8] cs) : ∃ n : Int, [PV.v (.int .u8 n)] = cs ∧ True := by
  simp only [ShpL, Shp] at h
  obtain ⟨_, _, rfl, ⟨a, rfl, h1⟩, rfl⟩ := h
  exact ⟨a, rfl, trivial⟩

theorem shp_bytes {c : PV} (h : ShpA false [.sl [.int .u8]] c) : ∃ B : List Int, c = .sl 1 (byts B) ∧ B.length ≤ 9223372036854775807 := by
  simp only [ShpA, Bool.false_eq_true, if_false, ShpL, Shp] at h
  obtain ⟨c', r, e, ⟨es, he, h1, h2⟩, hr⟩ := h
  simp only [List.cons.injEq] at e
  obtain ⟨l, hl, hp⟩ := rows_of (f := fun n : Int => [PV.v (.int .u8 n)]) (tys := [.int .u8]) shp_byteL h2
  subst hl
  simp [maxLen] at h1
  exact ⟨l, e.1.trans he, by omega⟩

end Go.Pe
