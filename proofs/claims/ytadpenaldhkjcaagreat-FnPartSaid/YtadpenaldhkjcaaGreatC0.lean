/- What each function answers by the evaluator, and the law; for each answer its own conditions stand ahead of it. -/
import Derived.Test.YtadpenaldhkjcaaGreatK0
import Derived.Test.YtadpenaldhkjcaaGreatEvB2
import Derived.IntWalk
set_option linter.all false
namespace Go.Pe
open Go
theorem w64 {x : Int} (h1 : -9223372036854775808 ≤ x) (h2 : x ≤ 9223372036854775807) : IntKind.i64.wrap x = x := IntWalk.i64_in x ⟨h1, h2⟩
@[simp] theorem y2v {x : Int} (h1 : -9223372036854775808 ≤ x) (h2 : x ≤ 9223372036854775807) : IntKind.i64.wrap x = x := w64 h1 h2
structure Nd where
 f : Int
 c : Int
 l : Int
 r : Int
 v : Int
deriving DecidableEq
def nd (n : Nd) : List PV := [iv n.f, iv n.c, iv n.l, iv n.r, iv n.v]
@[simp] theorem zc0 (a b c : Int) : RUN T zcg [iv a, iv b, iv c] = some ([bv (decide (b ≤ a) && decide (a ≤ c))], []) := by
 refine zai z4i rfl ?_
 simp [zux, zuy]
 refine zdi (fun h => ?_) (fun h => ?_) <;> simp [h]
@[simp] theorem zay (a b c : Int) : RUN T zbn [iv a, iv b, iv c] = some ([bv (decide (b ≤ a) && decide (a ≤ c))], []) := by
 refine zai z36 rfl ?_
 simp [zul, zum]
 refine zdi (fun h => ?_) (fun h => ?_) <;> simp [h]
def zjd {α : Type} (p : α → Bool) (l : List α) : Int := match l.findIdx? p with
 | some i => (i : Int)
 | none => -1
theorem yd2 {α : Type} {p : α → Bool} {l : List α} (h : ∀ (j : Nat) (x : α), j < l.length → l[j]? = some x → p x = false) : zjd p l = -1 := by
 unfold zjd
 have : l.findIdx? p = none := by
  rw [List.findIdx?_eq_none_iff]
  intro x hx
  obtain ⟨j, hj⟩ := List.getElem?_of_mem hx
  exact h j x (List.getElem?_eq_some_iff.mp hj).1 hj
 rw [this]
theorem z8f {α : Type} {p : α → Bool} {l : List α} {i : Nat} {x : α} (hi : l[i]? = some x) (hp : p x = true) (h : ∀ (j : Nat) (x : α), j < i → l[j]? = some x → p x = false) : zjd p l = i := by
 unfold zjd
 have : l.findIdx? p = some i := by
  rw [List.findIdx?_eq_some_iff_getElem]
  obtain ⟨h1, h2⟩ := List.getElem?_eq_some_iff.mp hi
  refine ⟨h1, by rw [h2]; exact hp, fun j hj => ?_⟩
  have := h j l[j] hj (List.getElem?_eq_getElem (by omega))
  simp [this]
 rw [this]
theorem yag {α : Type} {p : α → Bool} {l : List α} {i : Nat} {x : α} (h : ∀ (j : Nat) (x : α), j < i → l[j]? = some x → p x = false) (hi : l[i]? = some x) (hp : p x = false) : ∀ (j : Nat) (x : α), j < i + 1 → l[j]? = some x → p x = false := by
 intro j y hj hy
 by_cases e : j = i
 ·subst e; rw [hi] at hy; cases hy; exact hp
 ·exact h j y (by omega) hy
def ych (k : Int) (n : Nd) : Bool := !decide (n.f = -1) && (decide (n.l = k) || decide (n.r = k))
def par (t : List Nd) (k : Int) : Int := zjd (ych k) t
theorem wS {i n : Nat} (h : i < n) (hn : n ≤ 9223372036854775807) : IntKind.i64.wrap ((i : Int) + 1) = (i : Int) + 1 := w64 (by omega) (by omega)
def zac (l : List Int) : List (List PV) := l.map fun n => [iv n]
@[simp] theorem y73 (l : List Int) : (zac l).length = l.length := by simp [zac]
theorem zbi {l : List Int} {i : Nat} {x : Int} (h : l[i]? = some x) : (zac l)[i]? = some [iv x] := by simp [zac, h]
@[simp] theorem y51 : zac [] = [] := rfl
theorem zsk (x : Int) (l : List Int) : zac (x :: l) = [iv x] :: zac l := rfl
theorem yd4 (l : List Int) (i : Nat) (x : Int) : (zac l).set i [iv x] = zac (l.set i x) := by simp [zac, List.map_set]
theorem ypx (l m : List Int) : zac l ++ zac m = zac (l ++ m) := by simp [zac]
theorem zc9 (l : List Int) (x : Int) : zac l ++ [[iv x]] = zac (l ++ [x]) := by simp [zac]
theorem z9j (l : List Int) : zct (zac l) = true := by simp [zct, zac]
def anc (t : List Nd) : Nat → Int → Option (List Int)
 | 0, _ => none
 | n + 1, k => if par t k < 0 then some [] else (anc t n (par t k)).map (par t k :: ·)
def way (t : List Nd) (k : Int) : List Int := if 0 ≤ k ∧ k ≤ t.length - 1 then match anc t 32 k with
  | some l => (k :: l).reverse
  | none => []
 else []
theorem zd4 {n : Nat} (h : n ≤ 17592186044416) : zam 8 n = true := by simp [zam]; omega
def upto (k : Int) (n : Nat) : List Int := (List.range n).map fun (i : Nat) => k + (i : Int)
@[simp] theorem qbp (k : Int) (n : Nat) : (upto k n).length = n := by simp [upto]
theorem zfx {α : Type} {l : List α} {i : Nat} {x : α} (h : l[i]? = some x) : l.drop i = x :: l.drop (i + 1) := by
 obtain ⟨h1, h2⟩ := List.getElem?_eq_some_iff.mp h
 rw [List.drop_eq_getElem_cons h1, h2]
def inI (n : Int) : Prop := -9223372036854775808 ≤ n ∧ n ≤ 9223372036854775807
def box (t : List Nd) (f : Int) : List Int → Int → Int → Int × Int
 | a :: b :: r, lo, hi => match t[a.toNat]? with
  | none => (lo, hi)
  | some x => if x.f = f then (if x.l = b then box t f (b :: r) lo (min hi x.c) else if x.c = 9223372036854775807 then box t f (b :: r) lo hi else box t f (b :: r) (max lo (x.c + 1)) hi) else box t f (b :: r) lo hi
 | _, lo, hi => (lo, hi)
theorem ymv {f : Nat} {p : Int → Bool} (l : List Int) (hl : l.length ≤ 9223372036854775807) (hm : zad T f = []) (hp : ∀ n ∈ l, RUN T f [iv n] = some ([bv (p n)], [])) :
  RUN T zk2 [.sl 1 (zac l), .fn f []] = some ([iv (zjd p l)], []) := by
 refine zai z0c rfl ?_
 simp [zrr, zrs]
 refine za3 (fun n st => ∃ i : Nat, i + n = l.length ∧ st.V 0 = .sl 1 (zac l) ∧ st.V 1 = .fn f [] ∧ st.V 8 = iv i ∧ st.V 7 = iv l.length ∧ ∀ (j : Nat) (x : Int), j < i → l[j]? = some x → p x = false) ?_ l.length _ ⟨0, by simp⟩
 rintro n st ⟨i, hi, h0, h1, h8, h7, hj⟩
 simp [zz8, h0, h1, h8, h7]
 refine zdi (fun h => ?_) (fun h => ?_)
 ·simp at h
  obtain ⟨x, hx⟩ : ∃ x, l[i]? = some x := ⟨_, List.getElem?_eq_getElem h⟩
  have hw := wS h hl
  have hx' := zbi hx
  have hpx := hp x (List.mem_of_getElem? hx)
  simp [-getElem?_pos, h0, h1, h8, h7, hx', hw, hm, hpx, h]
  refine zdi (fun b0 => ?_) (fun b0 => ?_) <;> (try simp at b0) <;> simp [-getElem?_pos, b0, h0, h1, h8, h7, hx', hw]
  all_goals first
   | exact (z8f hx b0 hj).symm
   | exact zaq (n - 1) (by omega) ⟨i + 1, by omega, by simp [h0], by simp [h1], by simp, by simp [h7], yag hj hx b0⟩
 ·simp at h
  simp [h]
  exact (yd2 fun j x hl hx => hj j x (by omega) hx).symm
theorem z88 {α : Type} {p : α → Bool} {l : List α} : decide (0 ≤ zjd p l) = l.any p := by
 unfold zjd
 cases h : l.findIdx? p with
 | none =>
  rw [List.findIdx?_eq_none_iff] at h
  simp
  exact fun x hx => h x hx
 | some i =>
  obtain ⟨h1, h2, _⟩ := List.findIdx?_eq_some_iff_getElem.mp h
  simp
  exact ⟨_, List.getElem_mem h1, h2⟩
theorem z0e {f : Nat} {p : Int → Bool} (l : List Int) (hl : l.length ≤ 9223372036854775807) (hm : zad T f = []) (hp : ∀ n ∈ l, RUN T f [iv n] = some ([bv (p n)], [])) :
  RUN T zhk [.sl 1 (zac l), .fn f []] = some ([bv (l.any p)], []) := by
 refine zai z0b rfl ?_
 have e := ymv l hl hm hp
 simp [zrd, zre, e, z88]
structure Cfg where
 ro : Int
 de : Int
 bi : Int
 la : Int
 rw : Int
 nu : Int
 dn : Int
 sg : List Int
def zaj (n a b : Int) : Bool := decide (a ≤ n) && decide (n ≤ b)
def zcm (c : Cfg) : Bool := zaj c.ro 1 8 && zaj c.de 0 4 && zaj c.bi 2 8 && zaj c.la 1 100 && zaj c.rw 1 20 && zaj c.dn 1 1000 && zaj c.nu 1 c.dn && decide ((c.sg.length : Int) ≤ 4) && c.sg.all fun n => zaj n (-1) 1
@[simp] theorem yzl (n : Int) : RUN T zn9 [iv n] = some ([bv (zaj n (-1) 1)], []) := by
 refine zai z48 rfl ?_
 simp [zvv, zvw, zaj]
@[simp] theorem ymw (n : Int) : RUN T zkz [iv n] = some ([bv (!zaj n (-1) 1)], []) := by
 refine zai z47 rfl ?_
 simp [zvt, zvu]
theorem zdw (a b c : Int) : RUN T zcg [iv a, iv b, iv c] = some ([bv (zaj a b c)], []) := zc0 a b c
theorem za9 (a b c : Int) : RUN T zbn [iv a, iv b, iv c] = some ([bv (zaj a b c)], []) := zay a b c
theorem z7f (c : Cfg) (hl : c.sg.length ≤ 9223372036854775807) : RUN T zkp [.agg [iv c.ro, iv c.de, iv c.bi, iv c.la, iv c.rw, iv c.nu, iv c.dn, .sl 1 (zac c.sg)]] = some ([bv (zcm c)], []) := by
 refine zai z38 rfl ?_
 have e := z0e (f := zkz) (p := fun n => !zaj n (-1) 1) c.sg hl (by simp) (fun n _ => ymw n)
 have e2 : ∀ l : List Int, (l.any fun n => !zaj n (-1) 1) = !(l.all fun n => zaj n (-1) 1) := by intro l; induction l <;> simp_all
 rw [e2] at e
 simp [zup, zuq, zdw, -zc0]
 cases h0 : zaj c.ro 1 8 <;> cases h1 : zaj c.de 0 4 <;> simp [h0, h1, zdw, -zc0]
 all_goals try (simp [zcm, h0, h1]; done)
 cases h2 : zaj c.bi 2 8 <;> cases h3 : zaj c.la 1 100 <;> simp [h2, h3, zdw, -zc0]
 all_goals try (simp [zcm, h2, h3]; done)
 cases h4 : zaj c.rw 1 20 <;> cases h5 : zaj c.dn 1 1000 <;> simp [h4, h5, zdw, -zc0]
 all_goals try (simp [zcm, h4, h5]; done)
 cases h6 : zaj c.nu 1 c.dn <;> simp [h6, zdw, -zc0]
 all_goals try (simp [zcm, h6]; done)
 by_cases h7 : (c.sg.length : Int) ≤ 4
 ·simp [h7, e, zcm, h0, h1, h2, h3, h4, h5, h6]
 ·simp [h7, zcm]
theorem zqe {m : Nat → List Bool} {R : zah} {c : IC} {st : St} {Q : Ex → St → Prop} (h : W m R c st (Nx (fun s => W m R (.loop c) s Q) Q ⟨⟩ ⟨⟩)) : W m R (.loop c) st Q := yrf ▸ h
theorem ymx (a b c d e f g : Int) (x : PV) (sg : List (List PV)) : RUN T zoc [.agg [iv a, iv b, iv c, iv d, iv e, iv f, iv g, .sl 1 sg]] = some ([.own 1 (zac [a, b, c, d, e])], []) := by
 refine zai z5e rfl ?_
 simp [zv5, zv6, zac]
theorem zsc : RUN T zod [] = some ([.own 1 (zac [1, 0, 2, 1, 1])], []) := by
 refine zai z5f rfl ?_
 simp [zv7, zv8, zac]
theorem zsd : RUN T zoe [] = some ([.own 1 (zac [8, 4, 8, 100, 20])], []) := by
 refine zai z5g rfl ?_
 simp [zv9, zwa, zac]
theorem z7g (c : Cfg) (hl : c.sg.length ≤ 9223372036854775807) : RUN T zkr [.agg [iv c.ro, iv c.de, iv c.bi, iv c.la, iv c.rw, iv c.nu, iv c.dn, .sl 1 (zac c.sg)]] = some ([bv (zcm c)], []) := by
 refine zai z4d rfl ?_
 have e1 := ymx c.ro c.de c.bi c.la c.rw c.nu c.dn .undef (zac c.sg)
 simp [zut, zuu, e1]
 refine zqe ?_
 simp [zl0, zsc, zsd, za9, -zay, zsk]
 cases h0 : zaj c.ro 1 8 <;> simp [h0]
 ·simp [zcm, h0]
 refine zqe ?_
 simp [zl0, zsc, zsd, za9, -zay, zsk]
 cases h1 : zaj c.de 0 4 <;> simp [h1]
 ·simp [zcm, h1]
 refine zqe ?_
 simp [zl0, zsc, zsd, za9, -zay, zsk]
 cases h2 : zaj c.bi 2 8 <;> simp [h2]
 ·simp [zcm, h2]
 refine zqe ?_
 simp [zl0, zsc, zsd, za9, -zay, zsk]
 cases h3 : zaj c.la 1 100 <;> simp [h3]
 ·simp [zcm, h3]
 refine zqe ?_
 simp [zl0, zsc, zsd, za9, -zay, zsk]
 cases h4 : zaj c.rw 1 20 <;> simp [h4]
 ·simp [zcm, h4]
 refine zqe ?_
 simp [zl0]
 refine za3 (fun n st => ∃ i : Nat, i + n = c.sg.length ∧ st.V 1 = .ptr 0 none 0 0 0 ∧ st.V 5 = iv i ∧ st.S 0 = some (.box [iv c.ro, iv c.de, iv c.bi, iv c.la, iv c.rw, iv c.nu, iv c.dn, .sl 1 (zac c.sg)]) ∧ ∀ (j : Nat) (x : Int), j < i → c.sg[j]? = some x → zaj x (-1) 1 = true) ?_ c.sg.length _ ⟨0, by simp⟩
 rintro n st ⟨i, hi, h1', h5, hS, hj⟩
 simp [z3b, h1', h5, hS]
 refine zdi (fun h => ?_) (fun h => ?_)
 ·simp at h
  obtain ⟨x, hx⟩ : ∃ x, c.sg[i]? = some x := ⟨_, List.getElem?_eq_getElem h⟩
  have hw := wS h hl
  have hx' := zbi hx
  simp [-getElem?_pos, h1', h5, hS, hx', hw, h, za9, -zay]
  cases hb : zaj x (-1) 1 with
  | true =>
   simp [-getElem?_pos, h1', h5, hS, hw]
   refine zaq (n - 1) (by omega) ⟨i + 1, by omega, by simp [h1'], by simp, by simp [hS], fun j y hj' hy => ?_⟩
   by_cases e : j = i
   ·subst e; rw [hx] at hy; cases hy; exact hb
   ·exact hj j y (by omega) hy
  | false =>
   simp [zcm]
   intros
   exact ⟨x, List.mem_of_getElem? hx, hb⟩
 ·simp at h
  have hall : (c.sg.all fun n => zaj n (-1) 1) = true := by
   rw [List.all_eq_true]
   intro x hx
   obtain ⟨j, hj'⟩ := List.getElem?_of_mem hx
   exact hj j x (by have := (List.getElem?_eq_some_iff.mp hj').1; omega) hj'
  simp [h1', hS, za9, -zay]
  cases h5 : zaj c.dn 1 1000 <;> simp [h1', hS, h5, za9, -zay]
  ·simp [zcm, h5]
  cases h6 : zaj c.nu 1 c.dn <;> simp [h1', hS, h6, za9, -zay]
  ·simp [zcm, h6]
  simp [zcm, h0, h1, h2, h3, h4, h5, h6, hall]
def fdv (a b : Int) : Int × Bool := if b = 0 ∨ (b = -1 ∧ a = -9223372036854775808) then (0, false) else (a.fdiv b, true)
theorem yay {a b : Int} (ha : inI a) (hb : b ≠ 0) (h : ¬ (b = -1 ∧ a = -9223372036854775808)) : -9223372036854775808 ≤ a.tdiv b ∧ a.tdiv b ≤ 9223372036854775807 ∧ (b ≠ 1 → -9223372036854775808 ≤ a.tdiv b - 1) := by
 obtain ⟨h1, h2⟩ := ha
 have h3 : (a.tdiv b).natAbs = a.natAbs / b.natAbs := Int.natAbs_tdiv a b
 have h4 : a.natAbs / b.natAbs ≤ a.natAbs := Nat.div_le_self _ _
 by_cases c : b = 1
 ·subst c; simp; omega
 by_cases c2 : b = -1
 ·subst c2; simp; omega
 have h5 : a.natAbs / b.natAbs ≤ a.natAbs / 2 := Nat.div_le_div_left (by omega) (by omega)
 omega
theorem yat (a b : Int) (hb : b ≠ 0) : a.fdiv b = if a.tmod b ≠ 0 ∧ ¬ (a < 0 ↔ b < 0) then a.tdiv b - 1 else a.tdiv b := by
 rw [Int.fdiv_eq_tdiv]
 have hd : b ∣ a ↔ a.tmod b = 0 := Int.dvd_iff_tmod_eq_zero
 by_cases c : b ∣ a
 ·rw [if_pos c, if_neg (by rw [hd.mp c]; simp)]; simp
 ·have hc : a.tmod b ≠ 0 := fun e => c (hd.mpr e)
  have ha : a ≠ 0 := fun e => c (by subst e; exact ⟨0, by simp⟩)
  rw [if_neg c]
  rcases Int.lt_or_gt_of_ne hb with s2 | s2
  ·rw [if_neg (by omega : ¬ 0 ≤ b), if_neg (by omega : ¬ 0 ≤ b), Int.sign_eq_neg_one_of_neg s2]
   by_cases s1 : 0 ≤ a
   ·rw [if_pos s1, if_pos ⟨hc, by omega⟩]
   ·rw [if_neg s1, if_neg (fun h => h.2 (by omega))]; omega
  ·rw [if_pos (by omega : 0 ≤ b), if_pos (by omega : 0 ≤ b), Int.sign_eq_one_of_pos s2]
   by_cases s1 : 0 ≤ a
   ·rw [if_pos s1, if_neg (fun h => h.2 (by omega))]; omega
   ·rw [if_neg s1, if_pos ⟨hc, by omega⟩]
theorem ymy (a b : Int) (ha : inI a) : RUN T znw [iv a, iv b] = some ([iv (fdv a b).1, bv (fdv a b).2], []) := by
 refine zai z4l rfl ?_
 simp [zu1, zu2]
 by_cases h0 : b = 0
 ·subst h0; simp [fdv]
 by_cases hbad : b = -1 ∧ a = -9223372036854775808
 ·obtain ⟨rfl, rfl⟩ := hbad; simp [fdv]
 have hr := yay ha h0 hbad
 have hq := w64 hr.1 hr.2.1
 have hf := yat a b h0
 have e1 : fdv a b = (a.fdiv b, true) := by unfold fdv; rw [if_neg (by simp [h0]; intro h; exact fun h2 => hbad ⟨h, h2⟩)]
 rw [e1]
 have hq2 : a.tmod b ≠ 0 → IntKind.i64.wrap (a.tdiv b - 1) = a.tdiv b - 1 := fun h => w64 (hr.2.2 (by rintro rfl; simp at h)) (by omega)
 have f0 := eq_false h0
 obtain ⟨p1, hp1⟩ : ∃ p, (b = -1) = p := ⟨_, rfl⟩
 obtain ⟨p2, hp2⟩ : ∃ p, (a = -9223372036854775808) = p := ⟨_, rfl⟩
 rw [hp1, hp2] at hbad
 by_cases c1 : p1 <;> by_cases c2 : p2
 ·exact (hbad ⟨c1, c2⟩).elim
 all_goals
  simp only [c1, c2] at hp1 hp2
  simp [f0, hp1, hp2, hq]
  by_cases d0 : a.tmod b = 0
  ·rw [if_neg (by simp [d0])] at hf
   simp [d0, hf]
  ·have hq3 := hq2 d0
   have d1 := eq_false d0
   by_cases d2 : a < 0 <;> by_cases d3 : b < 0
   all_goals
    simp only [d2, d3, ne_eq, d1, not_false_eq_true, iff_self, not_true_eq_false, and_false, if_false, iff_true, iff_false, and_true, if_true, true_iff, false_iff] at hf
    simp [d1, d2, d3, hq3, hf]
theorem ymz (a b : Int) (ha : inI a) : RUN T zoh [iv a, iv b] = some ([iv (fdv a b).1, bv (fdv a b).2], []) := by
 refine zai z5l rfl ?_
 simp [zwj, zwk]
 by_cases h0 : b = 0
 ·subst h0; simp [fdv]
 by_cases hbad : b = -1 ∧ a = -9223372036854775808
 ·obtain ⟨rfl, rfl⟩ := hbad; simp [fdv]
 have hr := yay ha h0 hbad
 have hq := w64 hr.1 hr.2.1
 have hf := yat a b h0
 have e1 : fdv a b = (a.fdiv b, true) := by unfold fdv; rw [if_neg (by simp [h0]; intro h; exact fun h2 => hbad ⟨h, h2⟩)]
 rw [e1]
 have hq2 : a.tmod b ≠ 0 → IntKind.i64.wrap (a.tdiv b - 1) = a.tdiv b - 1 := fun h => w64 (hr.2.2 (by rintro rfl; simp at h)) (by omega)
 have f0 := eq_false h0
 obtain ⟨p1, hp1⟩ : ∃ p, (b = -1) = p := ⟨_, rfl⟩
 obtain ⟨p2, hp2⟩ : ∃ p, (a = -9223372036854775808) = p := ⟨_, rfl⟩
 rw [hp1, hp2] at hbad
 by_cases c1 : p1 <;> by_cases c2 : p2
 ·exact (hbad ⟨c1, c2⟩).elim
 all_goals
  simp only [c1, c2] at hp1 hp2
  simp [f0, hp1, hp2, hq]
  by_cases d0 : a.tmod b = 0
  ·rw [if_neg (by simp [d0])] at hf
   simp [d0, hf]
  ·have hq3 := hq2 d0
   have d1 := eq_false d0
   by_cases d2 : a < 0 <;> by_cases d3 : b < 0
   all_goals
    simp only [d2, d3, ne_eq, d1, not_false_eq_true, iff_self, not_true_eq_false, and_false, if_false, iff_true, iff_false, and_true, if_true, true_iff, false_iff] at hf
    simp [d1, d2, d3, hq3, hf]
abbrev zgg (c : Cfg) : PV := .agg [iv c.ro, iv c.de, iv c.bi, iv c.la, iv c.rw, iv c.nu, iv c.dn, .sl 1 (zac c.sg)]
abbrev zit (c : Cfg) : PV := .agg [iv c.ro, iv c.de, iv c.bi, iv c.la, iv c.rw, iv c.nu, iv c.dn, .own 1 (zac c.sg)]
theorem zbe {n a b : Int} : zaj n a b = true ↔ a ≤ n ∧ n ≤ b := by simp [zaj]
def zg5 (v : Int) : Bool := zaj v (-1099511627776) 1099511627776
@[simp] theorem z7h (v : Int) : RUN T zk4 [iv v] = some ([bv (zg5 v)], []) := by
 refine zai z5n rfl ?_
 simp [zwl, zwm, zg5, zaj]
@[simp] theorem z7i (v : Int) : RUN T zk8 [iv v] = some ([bv (zg5 v)], []) := by
 refine zai z57 rfl ?_
 simp [zxd, zxe, zg5, zaj]
def shr (v : Int) (c : Cfg) : Int × Bool := if zcm c && zg5 v then (( v * c.nu).fdiv c.dn, true) else (0, false)
def zbk (n : Int) : Bool := zaj n (-2147483647) 2147483647
@[simp] theorem zmd (v : Int) : RUN T zjo [iv v] = some ([bv (zbk v)], []) := by
 refine zai z55 rfl ?_
 simp [zw9, zxa, zbk, zaj]
@[simp] theorem yzm (v : Int) : RUN T zo2 [iv v] = some ([bv (zbk v)], []) := by
 refine zai z6t rfl ?_
 simp [zx4, zx5, zbk, zaj]
def adj (p : Int → Int → Bool) : List Int → Bool
 | a :: b :: r => p a b || adj p (b :: r)
 | _ => false
theorem z13 {p : Int → Int → Bool} : ∀ {l : List Int}, adj p l = true ↔ ∃ (i : Nat) (a b : Int), l[i]? = some a ∧ l[i + 1]? = some b ∧ p a b = true
 | [] => by simp [adj]
 | [x] => by simp [adj]
 | x :: y :: r => by
  simp only [adj, Bool.or_eq_true]
  rw [z13 (l := y :: r)]
  constructor
  ·rintro (h | ⟨i, a, b, h1, h2, h3⟩)
   ·exact ⟨0, x, y, rfl, rfl, h⟩
   ·exact ⟨i + 1, a, b, by simpa using h1, by simpa using h2, h3⟩
  ·rintro ⟨i, a, b, h1, h2, h3⟩
   cases i with
   | zero => simp at h1 h2; subst h1; subst h2; exact .inl h3
   | succ i => exact .inr ⟨i, a, b, by simpa using h1, by simpa using h2, h3⟩
theorem zmo {α : Type} {P : Nat → α → Prop} {l : List α} {i : Nat} {x : α} (h : ∀ (j : Nat) (x : α), j < i → l[j]? = some x → P j x) (hi : l[i]? = some x) (hp : P i x) : ∀ (j : Nat) (x : α), j < i + 1 → l[j]? = some x → P j x := by
 intro j y hj hy
 by_cases e : j = i
 ·subst e; rw [hi] at hy; cases hy; exact hp
 ·exact h j y (by omega) hy
def cel (q : Bool) (l : List Int) : PV := if q then .own 1 (zac l) else .sl 1 (zac l)
@[simp] theorem y5i (q : Bool) (l : List Int) : fz (cel q l) = .sl 1 (zac l) := by cases q <;> simp [cel]
def rws (q : Bool) (L : List (List Int)) : List (List PV) := L.map fun l => [cel q l]
@[simp] theorem y5g (q : Bool) (L : List (List Int)) : (rws q L).length = L.length := by simp [rws]
theorem zfa {q : Bool} {L : List (List Int)} {i : Nat} {l : List Int} (h : L[i]? = some l) : (rws q L)[i]? = some [cel q l] := by simp [rws, h]
@[simp] theorem yzn (n : Int) : RUN T zlg [iv n] = some ([bv (!zbk n)], []) := by
 refine zai z6s rfl ?_
 simp [zx2, zx3]
theorem ym0 (l : List Int) (hl : l.length ≤ 9223372036854775807) : RUN T zos [.sl 1 (zac l)] = some ([bv (l.all zbk)], []) := by
 refine zai z56 rfl ?_
 have e := z0e (f := zlg) (p := fun n => !zbk n) l hl (by simp) (fun n _ => by simp)
 simp [zxb, zxc, e]
 simp [List.any_eq_not_all_not]
def zfn (l : List Int) : Bool := !adj (fun a b => decide (b ≤ a)) l && l.all zbk && decide ((l.length : Int) ≤ 7)
theorem z95 {p : Int → Int → Bool} {l : List Int} (h : ∀ (j : Nat) (a b : Int), l[j]? = some a → l[j + 1]? = some b → p a b = false) : adj p l = false := by
 cases e : adj p l with
 | false => rfl
 | true =>
  obtain ⟨j, a, b, h1, h2, h3⟩ := z13.mp e
  rw [h j a b h1 h2] at h3; cases h3
theorem yeh {p : Int → Int → Bool} {l : List Int} {j : Nat} {a b : Int} (h1 : l[j]? = some a) (h2 : l[j + 1]? = some b) (h3 : p a b = true) : adj p l = true := z13.mpr ⟨j, a, b, h1, h2, h3⟩
theorem zso {l : List Int} {p : Int → Bool} {j : Nat} {a : Int} (h1 : l[j]? = some a) (h2 : p a = false) : l.all p = false := by
 cases e : l.all p with
 | false => rfl
 | true => rw [List.all_eq_true.mp e a (List.mem_of_getElem? h1)] at h2; cases h2
theorem ztl {l : List Int} {p : Int → Bool} (h : ∀ (j : Nat) (a : Int), j < l.length → l[j]? = some a → p a = true) : l.all p = true := by
 rw [List.all_eq_true]
 intro x hx
 obtain ⟨j, hj⟩ := List.getElem?_of_mem hx
 exact h j x (List.getElem?_eq_some_iff.mp hj).1 hj
theorem ym1 (l : List Int) (hl : l.length ≤ 9223372036854775807) : RUN T zof [.sl 1 (zac l)] = some ([bv (zfn l)], []) := by
 refine zai z5h rfl ?_
 have hd := ym0 l hl
 simp [zwb, zwc]
 refine za3 (fun n st => ∃ i : Nat, i + n = l.length + 1 ∧ 1 ≤ i ∧ st.V 0 = .sl 1 (zac l) ∧ st.V 3 = iv i ∧ ∀ (j : Nat) (a b : Int), j + 1 < i → l[j]? = some a → l[j + 1]? = some b → decide (b ≤ a) = false) ?_ l.length _ ⟨1, by omega, by omega, by simp, by simp, fun j a b h => by omega⟩
 rintro n st ⟨i, hi, h1, v0, v3, hj⟩
 simp [z3f, v0, v3]
 refine zdi (fun h => ?_) (fun h => ?_)
 ·simp at h
  obtain ⟨k, rfl⟩ : ∃ k, i = k + 1 := ⟨i - 1, by omega⟩
  obtain ⟨a, ha⟩ : ∃ a, l[k]? = some a := ⟨_, List.getElem?_eq_getElem (by omega)⟩
  obtain ⟨b, hb⟩ : ∃ b, l[k + 1]? = some b := ⟨_, List.getElem?_eq_getElem h⟩
  have ha' := zbi ha
  have hb' := zbi hb
  have hw : IntKind.i64.wrap ((k : Int) + 1 + 1) = (k : Int) + 1 + 1 := w64 (by omega) (by omega)
  have hw1 : IntKind.i64.wrap (k : Int) = k := w64 (by omega) (by omega)
  have hkl : k < l.length := by omega
  simp [-getElem?_pos, v0, v3, ha', hb', hw1, h, hkl]
  refine zdi (fun h2 => ?_) (fun h2 => ?_)
  ·simp at h2
   have : zfn l = false := by unfold zfn; rw [yeh ha hb (by simpa using h2)]; rfl
   simp [this]
  ·simp at h2
   simp [-getElem?_pos, v0, v3, hw]
   refine zaq (n - 1) (by omega) ⟨k + 2, by omega, by omega, by simp [v0], by simp; omega, fun j x y hjk hx hy => ?_⟩
   by_cases e : j = k
   ·subst e; rw [ha] at hx; rw [hb] at hy; cases hx; cases hy; simp; omega
   ·exact hj j x y (by omega) hx hy
 ·simp at h
  have e : adj (fun a b => decide (b ≤ a)) l = false := z95 fun j a b h1 h2 => hj j a b (by have := (List.getElem?_eq_some_iff.mp h2).1; omega) h1 h2
  unfold zfn
  rw [e]
  by_cases c : (l.length : Int) ≤ 7
  ·simp [v0, hd, c]
  ·simp [v0, c]
theorem ym2 (l : List Int) (hl : l.length ≤ 9223372036854775807) : RUN T zob [.sl 1 (zac l)] = some ([bv (zfn l)], []) := by
 refine zai z5d rfl ?_
 simp [zv3, zv4]
 refine za3 (fun n st => ∃ i : Nat, i + n = l.length ∧ st.V 0 = .sl 1 (zac l) ∧ st.V 3 = iv i ∧ (∀ (j : Nat) (a : Int), j < i → l[j]? = some a → zbk a = true) ∧ ∀ (j : Nat) (a b : Int), j + 1 < i → l[j]? = some a → l[j + 1]? = some b → decide (b ≤ a) = false) ?_ l.length _ ⟨0, by simp⟩
 rintro n st ⟨i, hi, v0, v3, hd, hj⟩
 simp [z3e, v0, v3]
 refine zdi (fun h => ?_) (fun h => ?_)
 ·simp at h
  obtain ⟨b, hb⟩ : ∃ b, l[i]? = some b := ⟨_, List.getElem?_eq_getElem h⟩
  have hb' := zbi hb
  have hw := wS h hl
  rcases Bool.eq_false_or_eq_true (zbk b) with d | d
  ·have hd' := zmo (P := fun _ a => zbk a = true) hd hb d
   rcases i with _ | k
   ·simp [-getElem?_pos, v0, v3, hb', d, h, hw]
    exact zaq (n - 1) (by omega) ⟨1, by omega, by simp [v0], by simp, by simpa using hd', fun j x y hjk hx hy => by omega⟩
   ·obtain ⟨a, ha⟩ : ∃ a, l[k]? = some a := ⟨_, List.getElem?_eq_getElem (by omega)⟩
    have ha' := zbi ha
    have hw : IntKind.i64.wrap ((k : Int) + 1 + 1) = (k : Int) + 1 + 1 := w64 (by omega) (by omega)
    have hw1 : IntKind.i64.wrap (k : Int) = k := w64 (by omega) (by omega)
    have hkl : k < l.length := by omega
    have hk0 : (0 : Int) < ((k + 1 : Nat) : Int) := by omega
    rcases Classical.propComplete (b ≤ a) with c | c
    ·have : zfn l = false := by unfold zfn; rw [yeh ha hb (by simp [c])]; rfl
     simp [-getElem?_pos, v0, v3, ha', hb', d, h, hw, hw1, hkl, hk0, c, this]
    ·simp [-getElem?_pos, v0, v3, ha', hb', d, h, hw, hw1, hkl, hk0, c]
     refine zaq (n - 1) (by omega) ⟨k + 2, by omega, by simp [v0], by simp; omega, hd', fun j x y hjk hx hy => ?_⟩
     by_cases e : j = k
     ·subst e; rw [ha] at hx; rw [hb] at hy; cases hx; cases hy; simp [c]
     ·exact hj j x y (by omega) hx hy
  ·have : zfn l = false := by unfold zfn; rw [zso hb d]; simp
   simp [-getElem?_pos, v0, v3, hb', d, h, this]
 ·simp at h
  have e : adj (fun a b => decide (b ≤ a)) l = false := z95 fun j a b h1 h2 => hj j a b (by have := (List.getElem?_eq_some_iff.mp h2).1; omega) h1 h2
  have e2 : l.all zbk = true := ztl fun j a h1 h2 => hd j a (by omega) h2
  unfold zfn
  rw [e, e2]
  simp [v0]
def zdq : List (List Int) → Nat
 | [] => 0
 | l :: _ => l.length
theorem z0f (q : Bool) (c v : List (List Int)) : RUN T zh5 [.agg [.sl 1 (rws q c), .sl 1 (rws q v)]] = some ([iv (zdq v)], []) := by
 refine zai z4e rfl ?_
 cases v with
 | nil => simp [zq9, zra, zdq]
 | cons l L =>
  have h : rws q (l :: L) = [cel q l] :: rws q L := rfl
  have h0 : ((L.length : Int) + 1 = 0) = False := eq_false (by omega)
  simp [h0, zq9, zra, zdq, h]
theorem z7j (q : Bool) (c v : List (List Int)) : RUN T zjf [.agg [.sl 1 (rws q c), .sl 1 (rws q v)]] = some ([iv (zdq v)], []) := by
 refine zai z4g rfl ?_
 cases v with
 | nil => simp [zrb, zrc, zdq]
 | cons l L =>
  have h : rws q (l :: L) = [cel q l] :: rws q L := rfl
  have h0 : ((L.length : Int) + 1 = 0) = False := eq_false (by omega)
  simp [h0, zrb, zrc, zdq, h]
theorem ym3 {f : Nat} {c : PV} {p : Int → Bool} (l : List Int) (hl : l.length ≤ 9223372036854775807) (hm : zad T f = []) (hp : ∀ n ∈ l, RUN T f [iv n, .fptr [c] 0] = some ([bv (p n)], [])) :
  RUN T zk2 [.sl 1 (zac l), .fn f [.fptr [c] 0]] = some ([iv (zjd p l)], []) := by
 refine zai z0c rfl ?_
 simp [zrr, zrs]
 refine za3 (fun n st => ∃ i : Nat, i + n = l.length ∧ st.V 0 = .sl 1 (zac l) ∧ st.V 1 = .fn f [.fptr [c] 0] ∧ st.V 8 = iv i ∧ st.V 7 = iv l.length ∧ ∀ (j : Nat) (x : Int), j < i → l[j]? = some x → p x = false) ?_ l.length _ ⟨0, by simp⟩
 rintro n st ⟨i, hi, h0, h1, h8, h7, hj⟩
 simp [zz8, h0, h1, h8, h7]
 refine zdi (fun h => ?_) (fun h => ?_)
 ·simp at h
  obtain ⟨x, hx⟩ : ∃ x, l[i]? = some x := ⟨_, List.getElem?_eq_getElem h⟩
  have hw := wS h hl
  have hx' := zbi hx
  have hpx := hp x (List.mem_of_getElem? hx)
  simp [-getElem?_pos, h0, h1, h8, h7, hx', hw, hm, hpx, h]
  refine zdi (fun b0 => ?_) (fun b0 => ?_) <;> (try simp at b0) <;> simp [-getElem?_pos, b0, h0, h1, h8, h7, hx', hw]
  all_goals first
   | exact (z8f hx b0 hj).symm
   | exact zaq (n - 1) (by omega) ⟨i + 1, by omega, by simp [h0], by simp [h1], by simp, by simp [h7], yag hj hx b0⟩
 ·simp at h
  simp [h]
  exact (yd2 fun j x hl hx => hj j x (by omega) hx).symm
theorem ym4 {f : Nat} {c : PV} {p : Int → Bool} (l : List Int) (hl : l.length ≤ 9223372036854775807) (hm : zad T f = []) (hp : ∀ n ∈ l, RUN T f [iv n, .fptr [c] 0] = some ([bv (p n)], [])) :
  RUN T zhk [.sl 1 (zac l), .fn f [.fptr [c] 0]] = some ([bv (l.any p)], []) := by
 refine zai z0b rfl ?_
 have e := ym3 l hl hm hp
 simp [zrd, zre, e, z88]
@[simp] theorem yzo (n : Int) (a : List Int) : RUN T zk1 [iv n, .fptr [.sl 1 (zac a)] 0] = some ([bv (!zaj n 0 a.length)], []) := by
 refine zai z5i rfl ?_
 simp [zwd, zwe, zdw, -zc0]
theorem ya7 {s : St} {d : Option Dst} {op : IOp} {g : Opd} {v : Bool} {x : PV} : (yv s ⟨d, op, some (g, v)⟩ = some x) = (Ob' (zhb v (g.get s)) fun t => Br t (WI (fun _ => []) (fun _ _ => none) op s (fun y _ => y = x)) (PV.v Go.undef = x)) := by
 simp only [yv, ycl, WI, Ob', Br, Option.map_eq_some_iff, Option.bind_eq_some_iff, eq_iff_iff]
 constructor
 ·rintro ⟨⟨y, s'⟩, ⟨t, h1, h2⟩, h3⟩
  refine ⟨t, h1, fun ht => ?_, fun ht => ?_⟩ <;> subst ht
  ·exact ⟨y, s', by simpa using h2, h3⟩
  ·simp at h2; obtain ⟨rfl, rfl⟩ := h2; exact h3
 ·rintro ⟨t, h1, h2, h3⟩
  cases t with
  | true => obtain ⟨y, s', h4, h5⟩ := h2 rfl; exact ⟨(y, s'), ⟨true, h1, by simpa using h4⟩, h5⟩
  | false => exact ⟨_, ⟨false, h1, rfl⟩, h3 rfl⟩
@[simp] theorem y68 {s : St} {d : Option Dst} {op : IOp} {g : Opd} {v : Bool} {x : PV} {n : Nat} {r : List (zab × PV × Nat)} : zbz s ((⟨d, op, some (g, v)⟩, x, n + 1) :: r) = ((Ob' (zhb v (g.get s)) fun t => Br t (WI (fun _ => []) (fun _ _ => none) op s (fun y _ => y = x)) (PV.v Go.undef = x)) ∧ zbz s r) := by
 simp only [zbz, ya7]
@[simp] theorem y91 {V E : Nat → PV} {d : Option Dst} {op : IOp} {g : Opd} {v : Bool} {x : PV} {n : Nat} {s : St} {ms : List St} : zaz V E ⟨d, op, some (g, v)⟩ x (n + 1) (s :: ms) = ((Ob' (zhb v (g.get { s with V := V, E := E })) fun t => Br t (WI (fun _ => []) (fun _ _ => none) op { s with V := V, E := E } (fun y _ => y = x)) (PV.v Go.undef = x)) ∧ zaz V E ⟨d, op, some (g, v)⟩ x n ms) := by
 simp only [zaz, ya7]
def ze9 (c v : List (List Int)) (f : Nat) : Bool := match c[f]?, v[f]? with
 | some a, some b => zfn a && decide ((b.length : Int) = zdq v) && b.all fun x => zaj x 0 a.length
 | _, _ => true
def zds (c v : List (List Int)) : Bool := zaj c.length 1 4 && decide ((v.length : Int) = c.length) && zaj (zdq v) 1 40 && (List.range c.length).all (ze9 c v)
theorem z8t {c v : List (List Int)} (h1 : zaj c.length 1 4 = true) (h2 : (v.length : Int) = c.length) (h3 : zaj (zdq v) 1 40 = true) : zds c v = (List.range c.length).all (ze9 c v) := by
 simp [zds, h1, h2, h3]
theorem zzi {p : Nat → Bool} {n : Nat} (h : ∀ i, i < n → p i = true) : (List.range n).all p = true := by
 rw [List.all_eq_true]
 intro x hx
 exact h x (by simpa using hx)
theorem zh1 {p : Nat → Bool} {n i : Nat} (hi : i < n) (h : p i = false) : (List.range n).all p = false := by
 cases e : (List.range n).all p with
 | false => rfl
 | true => rw [List.all_eq_true.mp e i (by simpa using hi)] at h; cases h
theorem z9h {c v : List (List Int)} {f : Nat} {a b : List Int} (ha : c[f]? = some a) (hb : v[f]? = some b) : ze9 c v f = (zfn a && decide ((b.length : Int) = zdq v) && b.all fun x => zaj x 0 a.length) := by
 simp [ze9, ha, hb]
theorem zsr {P : Nat → Prop} {i : Nat} (h : ∀ j, j < i → P j) (hi : P i) : ∀ j, j < i + 1 → P j := by
 intro j hj
 by_cases e : j = i
 ·subst e; exact hi
 ·exact h j (by omega)
set_option maxHeartbeats 1000000 in
theorem z7k (q : Bool) (c v : List (List Int)) (hc : ∀ l ∈ c, l.length ≤ 9223372036854775807) (hv : ∀ l ∈ v, l.length ≤ 9223372036854775807) : RUN T zks [.agg [.sl 1 (rws q c), .sl 1 (rws q v)]] = some ([bv (zds c v)], []) := by
 refine zai z4f rfl ?_
 have hR := z7j q c v
 by_cases h1 : zaj c.length 1 4 = true
 case neg => simp [zl1, zl2, zdw, -zc0, h1, zds]
 by_cases h2 : (v.length : Int) = c.length
 case neg => simp [zl1, zl2, zdw, -zc0, h1, h2, zds]
 by_cases h3 : zaj (zdq v) 1 40 = true
 case neg => simp [zl1, zl2, zdw, -zc0, h1, h2, h3, hR, zds]
 have h1' := zbe.mp h1
 rw [z8t h1 h2 h3]
 simp [zl1, zl2, zdw, -zc0, h1, h2, h3, hR]
 refine za3 (fun n st => ∃ i : Nat, i + n = c.length ∧ (∀ j, j < i → ze9 c v j = true) ∧ st.V 1 = .ptr 0 none 0 0 0 ∧ st.V 26 = .sl 1 (rws q c) ∧ st.V 27 = iv c.length ∧ st.V 28 = iv i ∧ 0 < st.nx ∧ st.S 0 = some (.box [.sl 1 (rws q c), .sl 1 (rws q v)])) ?_ c.length _ ⟨0, by simp⟩
 rintro n st ⟨i, hi, hk, v1, v26, v27, v28, hnx, hS⟩
 simp [z3c, v26, v27, v28]
 have z := fr hnx
 refine zdi (fun h => ?_) (fun h => ?_)
 ·simp at h
  obtain ⟨a, ha⟩ : ∃ a, c[i]? = some a := ⟨_, List.getElem?_eq_getElem h⟩
  obtain ⟨b, hb⟩ : ∃ b, v[i]? = some b := ⟨_, List.getElem?_eq_getElem (by omega)⟩
  have ha' := zfa (q := q) ha
  have hb' := zfa (q := q) hb
  have hal := hc a (List.mem_of_getElem? ha)
  have hbl := hv b (List.mem_of_getElem? hb)
  have hC := ym1 a hal
  have hF := ym4 (f := zk1) (c := .sl 1 (zac a)) (p := fun n => !zaj n 0 a.length) b hbl (by simp) (fun n _ => by simp)
  have hw := wS h (by omega : c.length ≤ 9223372036854775807)
  have hiv : i < v.length := by omega
  have hfe := z9h ha hb
  by_cases d1 : zfn a = true
  ·rcases Classical.propComplete ((b.length : Int) = zdq v) with d2 | d2
   ·by_cases d3 : (b.all fun x => zaj x 0 a.length) = true
    ·have d3' : (b.any fun n => !zaj n 0 a.length) = false := by simpa [List.any_eq_not_all_not] using d3
     simp [-getElem?_pos, v1, v26, v27, v28, hS, z, ha', hb', hC, hF, hR, hw, h, hiv, d1, d2, d3']
     exact zaq (n - 1) (by omega) ⟨i + 1, by omega, zsr hk (by rw [hfe, d1, d3]; simp [d2]), by simp [v1], by simp [v26], by simp [v27], by simp, by simp, by simp [z, hS]⟩
    ·have d3' : (b.any fun n => !zaj n 0 a.length) = true := by simpa [List.any_eq_not_all_not] using d3
     have no := zh1 h (by rw [hfe, d1]; simp [d3] : ze9 c v i = false)
     simp [-getElem?_pos, v1, v26, v27, v28, hS, z, ha', hb', hC, hF, hR, hw, h, hiv, d1, d2, d3', no]
   ·have no := zh1 h (by rw [hfe, d1]; simp [d2] : ze9 c v i = false)
    simp [-getElem?_pos, v1, v26, v27, v28, hS, z, ha', hb', hC, hF, hR, hw, h, hiv, d1, d2, no]
  ·have no := zh1 h (by rw [hfe]; simp [d1] : ze9 c v i = false)
   simp [-getElem?_pos, v1, v26, v27, v28, hS, z, ha', hb', hC, hF, hR, hw, h, hiv, d1, no]
 ·simp at h
  have := zzi (p := ze9 c v) (n := c.length) fun j hj => hk j (by omega)
  simp [this]
set_option maxHeartbeats 1000000 in
theorem z7l (q : Bool) (c v : List (List Int)) (hc : ∀ l ∈ c, l.length ≤ 9223372036854775807) (hv : ∀ l ∈ v, l.length ≤ 9223372036854775807) : RUN T zkq [.agg [.sl 1 (rws q c), .sl 1 (rws q v)]] = some ([bv (zds c v)], []) := by
 refine zai z4c rfl ?_
 have hR := z0f q c v
 by_cases h1 : zaj c.length 1 4 = true
 case neg => simp [zly, zlz, za9, -zay, h1, zds]
 by_cases h2 : (v.length : Int) = c.length
 case neg => simp [zly, zlz, za9, -zay, h1, h2, zds]
 by_cases h3 : zaj (zdq v) 1 40 = true
 case neg => simp [zly, zlz, za9, -zay, h1, h2, h3, hR, zds]
 have h1' := zbe.mp h1
 rw [z8t h1 h2 h3]
 simp [zly, zlz, za9, -zay, h1, h2, h3, hR]
 refine za3 (fun n st => ∃ i : Nat, i + n = c.length ∧ (∀ j, j < i → ze9 c v j = true) ∧ st.V 1 = .ptr 0 none 0 0 0 ∧ st.V 3 = iv i ∧ 0 < st.nx ∧ st.S 0 = some (.box [.sl 1 (rws q c), .sl 1 (rws q v)])) ?_ c.length _ ⟨0, by simp⟩
 rintro n st ⟨i, hi, hk, v1, v3, hnx, hS⟩
 simp [z3a, v1, v3, hS]
 have z := fr hnx
 refine zdi (fun h => ?_) (fun h => ?_)
 ·simp at h
  obtain ⟨a, ha⟩ : ∃ a, c[i]? = some a := ⟨_, List.getElem?_eq_getElem h⟩
  obtain ⟨b, hb⟩ : ∃ b, v[i]? = some b := ⟨_, List.getElem?_eq_getElem (by omega)⟩
  have ha' := zfa (q := q) ha
  have hb' := zfa (q := q) hb
  have hal := hc a (List.mem_of_getElem? ha)
  have hbl := hv b (List.mem_of_getElem? hb)
  have hC := ym2 a hal
  have hw := wS h (by omega : c.length ≤ 9223372036854775807)
  have hiv : i < v.length := by omega
  have hfe := z9h ha hb
  by_cases d1 : zfn a = true
  case neg =>
   have no := zh1 h (by rw [hfe]; simp [d1] : ze9 c v i = false)
   simp [-getElem?_pos, v1, v3, hS, z, ha', hb', hC, hR, hw, h, hiv, d1, no]
  rcases Classical.propComplete ((b.length : Int) = zdq v) with d2 | d2
  case inr =>
   have no := zh1 h (by rw [hfe, d1]; simp [d2] : ze9 c v i = false)
   simp [-getElem?_pos, v1, v3, hS, z, ha', hb', hC, hR, hw, h, hiv, d1, d2, no]
  simp [-getElem?_pos, v1, v3, hS, z, ha', hb', hC, hR, hw, h, hiv, d1, d2]
  refine za3 (fun n st => ∃ j : Nat, j + n = b.length ∧ (∀ (k : Nat) (x : Int), k < j → b[k]? = some x → zaj x 0 a.length = true) ∧ st.V 1 = .ptr 0 none 0 0 0 ∧ st.V 3 = iv i ∧ st.V 4 = iv j ∧ 0 < st.nx ∧ st.S 0 = some (.box [.sl 1 (rws q c), .sl 1 (rws q v)])) ?_ b.length _ ⟨0, by omega, fun _ _ h => by omega, by simp [v1], by simp [v3], by simp, by simp [hnx], by simp [hS]⟩
  clear v1 v3 hnx hS z
  rintro n' st ⟨j, hj, hjk, v1, v3, v4, hnx, hS⟩
  simp [-getElem?_pos, z29, v1, v3, v4, hS, hb', hiv]
  refine zdi (fun h4 => ?_) (fun h4 => ?_)
  ·simp at h4
   obtain ⟨x, hx⟩ : ∃ x, b[j]? = some x := ⟨_, List.getElem?_eq_getElem h4⟩
   have hx' := zbi hx
   have hwj := wS h4 hbl
   rcases Bool.eq_false_or_eq_true (zaj x 0 a.length) with d3 | d3
   ·simp [-getElem?_pos, v1, v3, v4, hS, ha', hb', hx', hiv, h, h4, d3, hwj, za9, -zay]
    exact zaq (n' - 1) (by omega) ⟨j + 1, by omega, zmo (P := fun _ x => zaj x 0 a.length = true) hjk hx d3, by simp [v1], by simp [v3], by simp, by simp [hnx], by simp [hS]⟩
   ·have no := zh1 h (by rw [hfe, zso hx d3]; simp : ze9 c v i = false)
    simp [-getElem?_pos, v1, v3, v4, hS, ha', hb', hx', hiv, h, h4, d3, hwj, no, za9, -zay]
  ·simp at h4
   have ok : ze9 c v i = true := by
    rw [hfe, d1, ztl fun k x hk hx => hjk k x (by omega) hx]; simp [d2]
   simp [-getElem?_pos, v1, v3, v4, hS, hw]
   exact zaq (n - 1) (by omega) ⟨i + 1, by omega, zsr hk ok, by simp [v1], by simp, by simp [hnx], by simp [hS]⟩
 ·simp at h
  have := zzi (p := ze9 c v) (n := c.length) fun j hj => hk j (by omega)
  simp [this]
def zgx (x : Int) : Bool := zaj x (-2199023255552) 2199023255552
def zil (c v : List (List Int)) (lab : List Int) (g : Cfg) : Bool := zds c v && zcm g && decide ((lab.length : Int) = zdq v) && lab.all zgx
@[simp] theorem yzp (n : Int) : RUN T zkt [iv n] = some ([bv (!zgx n)], []) := by
 refine zai z4h rfl ?_
 simp [zuv, zuw, zdw, -zc0, zgx]
theorem ym5 (q : Bool) (c v : List (List Int)) (lab : List Int) (g : Cfg) (hc : ∀ l ∈ c, l.length ≤ 9223372036854775807) (hv : ∀ l ∈ v, l.length ≤ 9223372036854775807) (hlab : lab.length ≤ 9223372036854775807) (hg : g.sg.length ≤ 9223372036854775807) : RUN T znh [.agg [.sl 1 (rws q c), .sl 1 (rws q v)], .sl 1 (zac lab), zgg g] = some ([bv (zil c v lab g)], []) := by
 refine zai z3t rfl ?_
 have e1 := z7k q c v hc hv
 have e2 := z7f g hg
 have e3 := z7j q c v
 have e4 := z0e (f := zkt) (p := fun n => !zgx n) lab hlab (by simp) (fun n _ => by simp)
 unfold zil
 cases d1 : zds c v with
 | false => simp [zlu, zlv, zgg, e1, d1]
 | true =>
  cases d2 : zcm g with
  | false => simp [zlu, zlv, zgg, e1, d1, e2, d2]
  | true =>
   rcases Classical.propComplete ((lab.length : Int) = zdq v) with d3 | d3
   ·have d4 : (!(lab.any fun n => !zgx n)) = lab.all zgx := by simp [List.any_eq_not_all_not]
    simp [zlu, zlv, zgg, e1, d1, e2, d2, e3, d3, e4, d4]
   ·simp [zlu, zlv, zgg, e1, d1, e2, d2, e3, d3]
theorem ym6 (q : Bool) (c v : List (List Int)) (lab : List Int) (g : Cfg) (hc : ∀ l ∈ c, l.length ≤ 9223372036854775807) (hv : ∀ l ∈ v, l.length ≤ 9223372036854775807) (hlab : lab.length ≤ 9223372036854775807) (hg : g.sg.length ≤ 9223372036854775807) : RUN T zng [.agg [.sl 1 (rws q c), .sl 1 (rws q v)], .sl 1 (zac lab), zgg g] = some ([bv (zil c v lab g)], []) := by
 refine zai z3s rfl ?_
 have e1 := z7l q c v hc hv
 have e2 := z7g g hg
 have e3 := z0f q c v
 unfold zil
 cases d1 : zds c v with
 | false => simp [zlr, zls, zgg, e1, d1]
 | true =>
  cases d2 : zcm g with
  | false => simp [zlr, zls, zgg, e1, d1, e2, d2]
  | true =>
   rcases Classical.propComplete ((lab.length : Int) = zdq v) with d3 | d3
   ·simp [zlr, zls, zgg, e1, d1, e2, d2, e3, d3]
    refine za3 (fun n st => ∃ i : Nat, i + n = lab.length ∧ (∀ (j : Nat) (x : Int), j < i → lab[j]? = some x → zgx x = true) ∧ st.V 1 = .sl 1 (zac lab) ∧ st.V 7 = iv i) ?_ lab.length _ ⟨0, by omega, fun _ _ h => by omega, by simp, by simp⟩
    rintro n st ⟨i, hi, hj, v1, v7⟩
    simp [z28, v1, v7]
    refine zdi (fun h => ?_) (fun h => ?_)
    ·simp at h
     obtain ⟨x, hx⟩ : ∃ x, lab[i]? = some x := ⟨_, List.getElem?_eq_getElem h⟩
     have hx' := zbi hx
     have hw := wS h hlab
     have hlb : zgx x = zaj x (-2199023255552) 2199023255552 := rfl
     cases d4 : zgx x with
     | true =>
      have d5 := hlb.symm.trans d4
      simp [-getElem?_pos, v1, v7, hx', hw, h, d5, za9, -zay]
      exact zaq (n - 1) (by omega) ⟨i + 1, by omega, zmo (P := fun _ x => zgx x = true) hj hx d4, by simp [v1], by simp⟩
     | false =>
      have d5 := hlb.symm.trans d4
      have no := zso hx d4
      simp [-getElem?_pos, v1, v7, hx', hw, h, d5, no, za9, -zay]
    ·simp at h
     have := ztl (p := zgx) fun j a h1 h2 => hj j a (by omega) h2
     simp [this, d3]
   ·simp [zlr, zls, zgg, e1, d1, e2, d2, e3, d3]
theorem ydm {α : Type} {f : α → List PV} {p : α → Prop} {tys : List TY} (h : ∀ cs, zch tys cs → ∃ a, f a = cs ∧ p a) : ∀ {es : List (List PV)}, (∀ cs ∈ es, zch tys cs) → ∃ l : List α, l.map f = es ∧ ∀ a ∈ l, p a
 | [], _ => ⟨[], rfl, by simp⟩
 | e :: es, hs => by
  obtain ⟨a, ha, hp⟩ := h e (hs e (by simp))
  obtain ⟨l, hl, hq⟩ := ydm h (es := es) (fun cs hc => hs cs (by simp [hc]))
  refine ⟨a :: l, by simp [ha, hl], fun b hb => ?_⟩
  rcases List.mem_cons.mp hb with e | e
  ·subst e; exact hp
  ·exact hq b e
theorem yq8 {P : Program} {l : List TypeId} (h : (l.all fun t => P.readableRec t && decide (t < P.types.size)) = true) : ∀ t ∈ l, P.readableRec t = true ∧ t < P.types.size := by
 intro t ht
 have := List.all_eq_true.mp h t ht
 simpa using this
theorem ys2 {p : Bool × List TY} {pvs : List PV} (h : zd3 (fun p c => zkb p.1 p.2 c) [p] pvs) : ∃ a, pvs = [a] ∧ zkb p.1 p.2 a := by
 cases h with
 | cons h1 t => cases t with
  | nil => exact ⟨_, rfl, h1⟩
def za8 (B : List Int) : List (List PV) := B.map fun n => [.v (.int .u8 n)]
@[simp] theorem yt5 (B : List Int) : (za8 B).length = B.length := by simp [za8]
theorem yd3 {B : List Int} {i : Nat} {x : Int} (h : B[i]? = some x) : (za8 B)[i]? = some [.v (.int .u8 x)] := by simp [za8, h]
def zhn (rv : List RV) (io : Nat) (G : List PV × List PV → Prop) (_ : Dm rv) (_ : Dm G) (e : Ex) (s : St) : Prop := (e = .normal ∨ e = .ret) ∧ ∃ r, ze3 ⟨[], rv, .skip⟩ io s = some r ∧ G r
@[simp] theorem yzx {rv : List RV} {io : Nat} {G : List PV × List PV → Prop} {s : St} : zhn rv io G ⟨⟩ ⟨⟩ .normal s = ∃ r, ze3 ⟨[], rv, .skip⟩ io s = some r ∧ G r := by simp [zhn]
@[simp] theorem y5a {rv : List RV} {io : Nat} {G : List PV × List PV → Prop} {s : St} : zhn rv io G ⟨⟩ ⟨⟩ .ret s = ∃ r, ze3 ⟨[], rv, .skip⟩ io s = some r ∧ G r := by simp [zhn]
theorem zc6 {T : zb4} {f : Nat} {ms : List Bool} {rv : List RV} {ic : IC} {G : List PV × List PV → Prop} (hT : T f = some (.code ⟨ms, rv, ic⟩)) {args : List PV} {st : St} (hi : zi0 args = some st) (h : W (zad T) (RUN T) ic st (zhn rv st.nx G ⟨⟩ ⟨⟩)) : ∃ r, RUN T f args = some r ∧ G r := by
 unfold W at h
 obtain ⟨e, s, h1, h2, r, h3, hG⟩ := h
 refine ⟨r, yc6 hT ?_, hG⟩
 unfold zsn
 rw [hi]
 simp only [Option.bind_some, h1]
 rcases h2 with rfl | rfl <;> exact h3
attribute [irreducible] zhn
theorem zzh (X : Nat) : 0 ≤ IntKind.i64.wrap ((X &&& 255 % 2 ^ IntKind.i64.bits : Nat) : Int) ∧ IntKind.i64.wrap ((X &&& 255 % 2 ^ IntKind.i64.bits : Nat) : Int) ≤ 255 := by
 have h : X &&& 255 % 2 ^ IntKind.i64.bits ≤ 255 := Nat.le_trans Nat.and_le_right (by decide)
 rw [w64 (by omega) (by omega)]
 omega
def zet (B : List Int) (P : PV → Prop) (r : List PV × List PV) : Prop := ∃ (v : PV) (p : Nat) (s : Int), P v ∧ p ≤ B.length ∧ r = ([v], [.bx [.sl 1 (za8 B), iv p, iv s]])
def PB (v : PV) : Prop := ∃ b, v = bv b
def PM (l : List Int) (v : PV) : Prop := ∃ n, v = iv n ∧ n ∈ l
def PI (v : PV) : Prop := ∃ n, v = iv n ∧ inI n
def PN (n : Int) (v : PV) : Prop := ∃ m, v = iv m ∧ 0 ≤ m ∧ (0 < n → m < n)
theorem zse (B : List Int) (p : Nat) (s : Int) (hp : p ≤ B.length) (hB : B.length ≤ 9223372036854775807) : ∃ r, RUN T zgo [.bx [.sl 1 (za8 B), iv p, iv s]] = some r ∧ zet B (fun v => ∃ n, v = iv n ∧ 0 ≤ n ∧ n ≤ 255) r := by
 refine zc6 z5r rfl ?_
 by_cases h : p < B.length
 ·obtain ⟨x, hx⟩ : ∃ x, B[p]? = some x := ⟨_, List.getElem?_eq_getElem h⟩
  have hx' := yd3 hx
  have hw := wS h hB
  simp [-getElem?_pos, zrx, zry, h, hx', hw]
  exact ⟨_, p + 1, _, ⟨_, rfl, (zzh _).1, (zzh _).2⟩, h, rfl⟩
 ·have h' : ¬ ((p : Int) < B.length) := by omega
  simp [-getElem?_pos, zrx, zry, h, h']
  exact ⟨_, p, _, ⟨_, rfl, (zzh _).1, (zzh _).2⟩, hp, rfl⟩
theorem zbd (B : List Int) (p : Nat) (s : Int) (hp : p ≤ B.length) (hB : B.length ≤ 9223372036854775807) (n : Int) (hn : n ≤ 9223372036854775807) : ∃ r, RUN T zbc [.bx [.sl 1 (za8 B), iv p, iv s], iv n] = some r ∧ zet B (PN n) r := by
 refine zc6 z4r rfl ?_
 obtain ⟨r1, h1, v1, p1, s1, ⟨a1, rfl, a10, a11⟩, hp1, rfl⟩ := zse B p s hp hB
 by_cases c1 : n ≤ 0
 ·simp [-getElem?_pos, zpg, zph, c1]
  exact ⟨_, p, s, ⟨0, rfl, by omega, by omega⟩, hp, rfl⟩
 have c0 : ¬ (n = 0) := by omega
 by_cases c2 : n ≤ 256
 ·simp [-getElem?_pos, zpg, zph, c0, c1, c2, h1]
  refine ⟨_, p1, s1, ⟨_, rfl, ?_, fun _ => ?_⟩, hp1, rfl⟩
  ·exact Int.tmod_nonneg _ a10
  ·exact Int.tmod_lt_of_pos _ (by omega)
 obtain ⟨r2, h2, v2, p2, s2, ⟨a2, rfl, a20, a21⟩, hp2, rfl⟩ := zse B p1 s1 hp1 hB
 obtain ⟨r3, h3, v3, p3, s3, ⟨a3, rfl, a30, a31⟩, hp3, rfl⟩ := zse B p2 s2 hp2 hB
 obtain ⟨r4, h4, v4, p4, s4, ⟨a4, rfl, a40, a41⟩, hp4, rfl⟩ := zse B p3 s3 hp3 hB
 have w1 := w64 (x := a1 * 16777216) (by omega) (by omega)
 have w2 := w64 (x := a2 * 65536) (by omega) (by omega)
 have w3 := w64 (x := a1 * 16777216 + a2 * 65536) (by omega) (by omega)
 have w4 := w64 (x := a3 * 256) (by omega) (by omega)
 have w5 := w64 (x := a1 * 16777216 + a2 * 65536 + a3 * 256) (by omega) (by omega)
 have w6 := w64 (x := a1 * 16777216 + a2 * 65536 + a3 * 256 + a4) (by omega) (by omega)
 simp [-getElem?_pos, zpg, zph, c0, c1, c2, h1, h2, h3, h4, w1, w2, w3, w4, w5, w6]
 refine ⟨_, p4, s4, ⟨_, rfl, ?_, fun _ => ?_⟩, hp4, rfl⟩
 ·exact Int.tmod_nonneg _ (by omega)
 ·exact Int.tmod_lt_of_pos _ (by omega)
theorem zdm (B : List Int) (p : Nat) (s : Int) (hp : p ≤ B.length) (hB : B.length ≤ 9223372036854775807) (n : Int) (hn : n ≤ 9223372036854775807) : ∃ r, RUN T zda [.bx [.sl 1 (za8 B), iv p, iv s], iv n] = some r ∧ zet B PB r := by
 refine zc6 z3x rfl ?_
 obtain ⟨r1, h1, v1, p1, s1, ⟨a1, rfl, a10, a11⟩, hp1, rfl⟩ := zbd B p s hp hB n hn
 simp [-getElem?_pos, zt4, zt5, h1]
 exact ⟨_, p1, s1, ⟨_, rfl⟩, hp1, rfl⟩
def ysq (B : List Int) (l : List Int) (P : PV → Prop) (r : List PV × List PV) : Prop := ∃ (v : PV) (p : Nat) (s : Int), P v ∧ p ≤ B.length ∧ r = ([v], [.bx [.sl 1 (za8 B), iv p, iv s], .own 1 (zac l)])
theorem zfo (B : List Int) (p : Nat) (s : Int) (hp : p ≤ B.length) (hB : B.length ≤ 9223372036854775807) (l : List Int) (hl : 0 < l.length ∧ l.length ≤ 9223372036854775807) : ∃ r, RUN T zd5 [.bx [.sl 1 (za8 B), iv p, iv s], .own 1 (zac l)] = some r ∧ ysq B l (PM l) r := by
 refine zc6 z4t rfl ?_
 obtain ⟨r1, h1, v1, p1, s1, ⟨a1, rfl, a10, a11⟩, hp1, rfl⟩ := zbd B p s hp hB l.length (by omega)
 obtain ⟨i, rfl⟩ : ∃ i : Nat, a1 = i := ⟨a1.toNat, by omega⟩
 have hi : i < l.length := by have := a11 (by omega); omega
 obtain ⟨x, hx⟩ : ∃ x, l[i]? = some x := ⟨_, List.getElem?_eq_getElem hi⟩
 have hx' := zbi hx
 simp [-getElem?_pos, zvd, zve, h1, hx', hi]
 exact ⟨_, p1, s1, ⟨x, rfl, List.mem_of_getElem? hx⟩, hp1, rfl⟩
theorem yu5 (x : Int) : inI (IntKind.i64.wrap x) := by
 unfold inI IntKind.wrap
 simp [IntKind.bits, IntKind.signed]
 omega
theorem z0g (B : List Int) (p : Nat) (s : Int) (hp : p ≤ B.length) (hB : B.length ≤ 9223372036854775807) : ∃ r, RUN T zjg [.bx [.sl 1 (za8 B), iv p, iv s]] = some r ∧ zet B PI r := by
 refine zc6 z4x rfl ?_
 obtain ⟨r1, h1, v1, p1, s1, ⟨a1, rfl, a10, a11⟩, hp1, rfl⟩ := zbd B p s hp hB 4 (by omega)
 by_cases c0 : a1 = 0
 ·obtain ⟨r2, h2, v2, p2, s2, ⟨a2, rfl, hm⟩, hp2, rfl⟩ := zfo B p1 s1 hp1 hB [0, 1, -1, 9, 10, 999, 1000, 2147483647, -2147483648, 3037000499, 3037000500, 9223372036854775807, -9223372036854775807, -9223372036854775808] (by simp)
  simp only [zac, List.map] at h2
  simp [-getElem?_pos, zl5, zl6, h1, c0, h2]
  refine ⟨_, p2, s2, ⟨a2, rfl, ?_⟩, hp2, rfl⟩
  simp at hm
  unfold inI
  omega
 by_cases c1 : a1 = 1
 ·simp [-getElem?_pos, zl5, zl6, h1, c0, c1]
  refine za3 (fun n st => ∃ (i p : Nat) (x s : Int), i + n = 8 ∧ p ≤ B.length ∧ inI x ∧ st.V 0 = .ptr 0 none 0 0 0 ∧ st.V 3 = iv x ∧ st.V 4 = iv i ∧ 0 < st.nx ∧ st.ep = 0 ∧ st.S 0 = some (.box [.sl 1 (za8 B), iv p, iv s])) ?_ 8 _ ⟨0, p1, 0, s1, by omega, hp1, by unfold inI; omega, by simp⟩
  clear h1
  rintro n st ⟨i, p, x, s, hi, hp, hx, v0, v3, v4, hnx, hep, hS⟩
  simp [z3d, v4]
  refine zdi (fun h => ?_) (fun h => ?_)
  ·simp at h
   obtain ⟨r2, h2, v2, p2, s2, ⟨a2, rfl, a20, a21⟩, hp2, rfl⟩ := zse B p s hp hB
   have w := w64 (x := (i : Int) + 1) (by omega) (by omega)
   simp [-getElem?_pos, v0, v3, v4, hep, hS, h2, w]
   exact zaq (n - 1) (by omega) ⟨i + 1, p2, _, s2, by omega, hp2, yu5 _, by simp [v0], by simp; rfl, by simp, by simp [hnx], by simp [hep], by simp⟩
  ·simp [-getElem?_pos, v3, v0, hS]
   exact ⟨_, p, s, ⟨x, rfl, hx⟩, hp, rfl⟩
 by_cases c2 : a1 = 2
 ·obtain ⟨r2, h2, v2, p2, s2, ⟨a2, rfl, a20, a21⟩, hp2, rfl⟩ := zbd B p1 s1 hp1 hB 1000000 (by omega)
  have a22 := a21 (by omega)
  have w := w64 (x := a2 - 500000) (by omega) (by omega)
  simp [-getElem?_pos, zl5, zl6, h1, c0, c1, c2, h2, w]
  exact ⟨_, p2, s2, ⟨_, rfl, by unfold inI; omega⟩, hp2, rfl⟩
 ·obtain ⟨r2, h2, v2, p2, s2, ⟨a2, rfl, a20, a21⟩, hp2, rfl⟩ := zbd B p1 s1 hp1 hB 41 (by omega)
  have a22 := a21 (by omega)
  have w := w64 (x := a2 - 20) (by omega) (by omega)
  simp [-getElem?_pos, zl5, zl6, h1, c0, c1, c2, h2, w]
  exact ⟨_, p2, s2, ⟨_, rfl, by unfold inI; omega⟩, hp2, rfl⟩
theorem ym7 (B : List Int) (hB : B.length ≤ 9223372036854775807) : ∃ r, RUN T zn0 [.sl 1 (za8 B)] = some r ∧ ∃ s : Int, r = ([.bx [.sl 1 (za8 B), iv (0 : Nat), iv s]], []) := by
 refine zc6 z4p rfl ?_
 simp [-getElem?_pos, zu6, zu7]
 refine za3 (fun n st => ∃ (i : Nat) (x : Int), i + n = B.length ∧ st.V 0 = .sl 1 (za8 B) ∧ st.V 3 = iv x ∧ st.V 4 = iv i) ?_ B.length _ ⟨0, _, by omega, by simp, by simp; rfl, by simp⟩
 rintro n st ⟨i, x, hi, v0, v3, v4⟩
 by_cases h : i < B.length
 ·obtain ⟨b, hx⟩ : ∃ b, B[i]? = some b := ⟨_, List.getElem?_eq_getElem h⟩
  have hx' := yd3 hx
  have hw := wS h hB
  by_cases h2 : (i : Int) < 4000
  ·have h2' := eq_true h2
   simp [-getElem?_pos, zu5, v0, v3, v4, h, h2', hx', hw]
   exact zaq (n - 1) (by omega) ⟨i + 1, _, by omega, by simp [v0], by simp; rfl, by simp⟩
  ·have h2' := eq_false h2
   simp [-getElem?_pos, zu5, v0, v3, v4, h, h2']
 ·simp [-getElem?_pos, zu5, v0, v3, v4, h]
def adi (a b : Int) : Int × Bool := if -9223372036854775808 ≤ a + b ∧ a + b ≤ 9223372036854775807 then (a + b, true) else (0, false)
theorem yct {a b : Int} (ha : inI a) (hb : inI b) : IntKind.i64.wrap (a + b) = if 9223372036854775807 < a + b then a + b - 18446744073709551616 else if a + b < -9223372036854775808 then a + b + 18446744073709551616 else a + b := by
 unfold inI at ha hb
 unfold IntKind.wrap
 simp [IntKind.bits, IntKind.signed]
 omega
theorem z7m (a b : Int) (ha : inI a) (hb : inI b) : RUN T zla [iv a, iv b] = some ([iv (adi a b).1, bv (adi a b).2], []) := by
 refine zai z6f rfl ?_
 have hw := yct ha hb
 unfold inI at ha hb
 unfold adi
 by_cases c1 : 9223372036854775807 < a + b
 ·rw [if_pos c1] at hw
  rw [if_neg (by omega)]
  have d1 := eq_false (by omega : ¬ a < 0)
  have d2 := eq_false (by omega : ¬ b < 0)
  have d3 := eq_true (by omega : a + b - 18446744073709551616 < 0)
  simp [-getElem?_pos, zie, zif, hw, d1, d2, d3]
 ·rw [if_neg c1] at hw
  by_cases c2 : a + b < -9223372036854775808
  ·rw [if_pos c2] at hw
   rw [if_neg (by omega)]
   have d1 := eq_true (by omega : a < 0)
   have d2 := eq_true (by omega : b < 0)
   have d3 := eq_false (by omega : ¬ a + b + 18446744073709551616 < 0)
   simp [-getElem?_pos, zie, zif, hw, d1, d2, d3]
  ·rw [if_neg c2] at hw
   rw [if_pos (by omega)]
   rcases Classical.propComplete (a < 0) with d1 | d1
   all_goals rcases Classical.propComplete (b < 0) with d2 | d2
   all_goals simp at d1 d2
   ·have d3 := eq_true (by omega : a + b < 0)
    simp [-getElem?_pos, zie, zif, hw, eq_true d1, eq_true d2, d3]
   ·have d2' := eq_false (by omega : ¬ b < 0)
    simp [-getElem?_pos, zie, zif, hw, eq_true d1, d2']
   ·have d1' := eq_false (by omega : ¬ a < 0)
    simp [-getElem?_pos, zie, zif, hw, eq_true d2, d1']
   ·have d1' := eq_false (by omega : ¬ a < 0)
    have d2' := eq_false (by omega : ¬ b < 0)
    have d3 := eq_false (by omega : ¬ a + b < 0)
    simp [-getElem?_pos, zie, zif, hw, d1', d2', d3]
theorem z7n (a b : Int) (ha : inI a) (hb : inI b) : RUN T zld [iv a, iv b] = some ([iv (adi a b).1, bv (adi a b).2], []) := by
 refine zai z6i rfl ?_
 have hw := yct ha hb
 unfold inI at ha hb
 unfold adi
 rcases Int.lt_trichotomy b 0 with c | c | c
 ·have d1 := eq_false (by omega : ¬ 0 < b)
  have d2 := eq_true c
  have w := w64 (x := -9223372036854775808 - b) (by omega) (by omega)
  by_cases e : a < -9223372036854775808 - b
  ·rw [if_neg (by omega)]
   simp [-getElem?_pos, zj1, zj2, d1, d2, w, e]
  ·rw [if_neg (by omega), if_neg (by omega)] at hw
   rw [if_pos (by omega)]
   simp [-getElem?_pos, zj1, zj2, d1, d2, w, e, hw]
 ·subst c
  rw [if_neg (by omega), if_neg (by omega)] at hw
  rw [if_pos (by omega)]
  simp at hw
  simp [zj1, zj2, hw]
 ·have d1 := eq_true c
  have d2 := eq_false (by omega : ¬ b < 0)
  have w := w64 (x := 9223372036854775807 - b) (by omega) (by omega)
  by_cases e : 9223372036854775807 - b < a
  ·rw [if_neg (by omega)]
   simp [-getElem?_pos, zj1, zj2, d1, d2, w, e]
  ·rw [if_neg (by omega), if_neg (by omega)] at hw
   rw [if_pos (by omega)]
   simp [-getElem?_pos, zj1, zj2, d1, d2, w, e, hw]
theorem ya1 {a b : Int} (ha : inI a) : inI (adi a b).1 := by
 unfold adi
 split
 ·rename_i h; exact h
 ·unfold inI; omega
theorem ym8 (es : List (List PV)) : RUN T zna [.sl 1 es] = some ([bv (decide ((1048576 : Int) < es.length))], []) := by
 refine zai z3k rfl ?_
 simp [-getElem?_pos, ztp, ztq]
def sbi (a b : Int) : Int × Bool := if -9223372036854775808 ≤ a - b ∧ a - b ≤ 9223372036854775807 then (a - b, true) else (0, false)
theorem ycw {a b : Int} (ha : inI a) (hb : inI b) : IntKind.i64.wrap (a - b) = if 9223372036854775807 < a - b then a - b - 18446744073709551616 else if a - b < -9223372036854775808 then a - b + 18446744073709551616 else a - b := by
 unfold inI at ha hb
 unfold IntKind.wrap
 simp [IntKind.bits, IntKind.signed]
 omega
theorem z7o (a b : Int) (ha : inI a) (hb : inI b) : RUN T zk6 [iv a, iv b] = some ([iv (sbi a b).1, bv (sbi a b).2], []) := by
 refine zai z5v rfl ?_
 have hw := ycw ha hb
 unfold inI at ha hb
 unfold sbi
 by_cases c1 : 9223372036854775807 < a - b
 ·rw [if_pos c1] at hw
  rw [if_neg (by omega)]
  have d1 := eq_false (by omega : ¬ a < 0)
  have d2 := eq_true (by omega : b < 0)
  have d3 := eq_true (by omega : a - b - 18446744073709551616 < 0)
  simp [-getElem?_pos, zia, zib, hw, d1, d2, d3]
 ·rw [if_neg c1] at hw
  by_cases c2 : a - b < -9223372036854775808
  ·rw [if_pos c2] at hw
   rw [if_neg (by omega)]
   have d1 := eq_true (by omega : a < 0)
   have d2 := eq_false (by omega : ¬ b < 0)
   have d3 := eq_false (by omega : ¬ a - b + 18446744073709551616 < 0)
   simp [-getElem?_pos, zia, zib, hw, d1, d2, d3]
  ·rw [if_neg c2] at hw
   rw [if_pos (by omega)]
   rcases Classical.propComplete (a < 0) with d1 | d1
   all_goals rcases Classical.propComplete (b < 0) with d2 | d2
   all_goals simp at d1 d2
   ·simp [-getElem?_pos, zia, zib, hw, eq_true d1, eq_true d2]
   ·have d2' := eq_false (by omega : ¬ b < 0)
    have d3 := eq_true (by omega : a - b < 0)
    simp [-getElem?_pos, zia, zib, hw, eq_true d1, d2', d3]
   ·have d1' := eq_false (by omega : ¬ a < 0)
    have d3 := eq_false (by omega : ¬ a - b < 0)
    simp [-getElem?_pos, zia, zib, hw, eq_true d2, d1', d3]
   ·have d1' := eq_false (by omega : ¬ a < 0)
    have d2' := eq_false (by omega : ¬ b < 0)
    simp [-getElem?_pos, zia, zib, hw, d1', d2']
theorem z7p (a b : Int) (ha : inI a) (hb : inI b) : RUN T zky [iv a, iv b] = some ([iv (sbi a b).1, bv (sbi a b).2], []) := by
 refine zai z46 rfl ?_
 have hw := ycw ha hb
 unfold inI at ha hb
 unfold sbi
 rcases Int.lt_trichotomy b 0 with c | c | c
 ·have d1 := eq_false (by omega : ¬ 0 < b)
  have d2 := eq_true c
  have w := w64 (x := 9223372036854775807 + b) (by omega) (by omega)
  by_cases e : 9223372036854775807 + b < a
  ·rw [if_neg (by omega)]
   simp [-getElem?_pos, zjy, zjz, d1, d2, w, e]
  ·rw [if_neg (by omega), if_neg (by omega)] at hw
   rw [if_pos (by omega)]
   simp [-getElem?_pos, zjy, zjz, d1, d2, w, e, hw]
 ·subst c
  rw [if_neg (by omega), if_neg (by omega)] at hw
  rw [if_pos (by omega)]
  simp at hw
  simp [zjy, zjz, hw]
 ·have d1 := eq_true c
  have d2 := eq_false (by omega : ¬ b < 0)
  have w := w64 (x := -9223372036854775808 + b) (by omega) (by omega)
  by_cases e : a < -9223372036854775808 + b
  ·rw [if_neg (by omega)]
   simp [-getElem?_pos, zjy, zjz, d1, d2, w, e]
  ·rw [if_neg (by omega), if_neg (by omega)] at hw
   rw [if_pos (by omega)]
   simp [-getElem?_pos, zjy, zjz, d1, d2, w, e, hw]
def PC (n : Nat) (v : PV) : Prop := ∃ c : Cfg, v = zit c ∧ c.sg.length ≤ n
def LC (S : Nat → Option Ob) (nx : Nat) (lo : Nat) (m : List Int) (x : PV) : Prop := (x = .e0 ∧ m = []) ∨ ∃ o e, x = .ref o none e 0 m.length ∧ lo < o ∧ o < nx ∧ S o = some (.row 1 (zac m))
theorem z7q (B : List Int) (p : Nat) (s : Int) (hp : p ≤ B.length) (hB : B.length ≤ 9223372036854775807) : ∃ r, RUN T zkw [.bx [.sl 1 (za8 B), iv p, iv s]] = some r ∧ zet B (PC 60) r := by
 refine zc6 z4u rfl ?_
 obtain ⟨r1, h1, v1, p1, s1, ⟨a1, rfl, a10, a11⟩, hp1, rfl⟩ := zbd B p s hp hB 4 (by omega)
 obtain ⟨r2, h2, v2, p2, s2, ⟨a2, rfl, a20, a21⟩, hp2, rfl⟩ := zbd B p1 s1 hp1 hB 4 (by omega)
 obtain ⟨r3, h3, v3, p3, s3, ⟨a3, rfl, a30, a31⟩, hp3, rfl⟩ := zbd B p2 s2 hp2 hB 5 (by omega)
 obtain ⟨r4, h4, v4, p4, s4, ⟨a4, rfl, a40, a41⟩, hp4, rfl⟩ := zbd B p3 s3 hp3 hB 3 (by omega)
 obtain ⟨r5, h5, v5, p5, s5, ⟨a5, rfl, a50, a51⟩, hp5, rfl⟩ := zbd B p4 s4 hp4 hB 3 (by omega)
 obtain ⟨r6, h6, v6, p6, s6, ⟨a6, rfl, a60, a61⟩, hp6, rfl⟩ := zbd B p5 s5 hp5 hB 3 (by omega)
 obtain ⟨r7, h7, v7, p7, s7, ⟨b1, rfl⟩, hp7, rfl⟩ := zdm B p6 s6 hp6 hB 8 (by omega)
 have w6 : IntKind.i64.wrap (1 + a6) = 1 + a6 := by have := a61 (by omega); exact w64 (by omega) (by omega)
 have key : ∀ (k : Int) (x0 x1 x2 x3 x4 x5 x6 : Int) (st : St) (p : Nat) (s : Int), 0 ≤ k → k ≤ 60 → p ≤ B.length → st.V 0 = .ptr 0 none 0 0 0 → st.V 2 = .ptr 1 none 0 0 0 → st.V 3 = .ptr 2 none 0 0 0 → st.V 4 = iv k → st.V 5 = iv (0 : Nat) → st.nx = 3 → st.S 0 = some (.box [.sl 1 (za8 B), iv p, iv s]) → st.S 1 = some (.box [iv 0, iv 0, iv 0, iv 0, iv 0, iv 0, iv 0, .e0]) → st.S 2 = some (.box [iv x0, iv x1, iv x2, iv x3, iv x4, iv x5, iv x6, .e0]) → W (zad T) (RUN T) (.loop zz7) st (Bl 0 (Nx (fun s => W (zad T) (RUN T) (.seq (.reg [⟨some (.E 53), .load true 8 (.V 3), none⟩, ⟨none, .store [0, 0, 0, 0, 0, 0, 0, 1] (.V 2) (.E 53), none⟩]) .ret) s (zhn [.cell [0, 0, 0, 0, 0, 0, 0, 1] 2 true] 1 (zet B (PC 60)) ⟨⟩ ⟨⟩)) (zhn [.cell [0, 0, 0, 0, 0, 0, 0, 1] 2 true] 1 (zet B (PC 60)) ⟨⟩ ⟨⟩) ⟨⟩ ⟨⟩) ⟨⟩) := by
  intro k x0 x1 x2 x3 x4 x5 x6 st p s hk0 hk hp v0 v2 v3 v4 v5 hnx hS hS1 hS2
  obtain ⟨kn, rfl⟩ : ∃ n : Nat, k = n := ⟨k.toNat, by omega⟩
  refine za3 (fun n st => ∃ (i p : Nat) (s : Int) (m : List Int) (x : PV), i + n = kn ∧ m.length = i ∧ p ≤ B.length ∧ st.V 0 = .ptr 0 none 0 0 0 ∧ st.V 2 = .ptr 1 none 0 0 0 ∧ st.V 3 = .ptr 2 none 0 0 0 ∧ st.V 4 = iv kn ∧ st.V 5 = iv i ∧ 2 < st.nx ∧ LC st.S st.nx 2 m x ∧ st.S 0 = some (.box [.sl 1 (za8 B), iv p, iv s]) ∧ st.S 1 = some (.box [iv 0, iv 0, iv 0, iv 0, iv 0, iv 0, iv 0, .e0]) ∧ st.S 2 = some (.box [iv x0, iv x1, iv x2, iv x3, iv x4, iv x5, iv x6, x])) ?_ kn _ ⟨0, p, s, [], .e0, by omega, rfl, hp, v0, v2, v3, v4, v5, by omega, .inl ⟨rfl, rfl⟩, hS, hS1, hS2⟩
  clear v0 v2 v3 v4 v5 hnx hS hS1 hS2 hp
  rintro n st ⟨i, p, s, m, x, hi, hm, hp, v0, v2, v3, v4, v5, hnx, hx, hS, hS1, hS2⟩
  have z1 := fr hnx
  have z2 := fr (by omega : 0 < st.nx)
  have z3 := fr (by omega : 1 < st.nx)
  simp [zz7, v4, v5]
  refine zdi (fun h => ?_) (fun h => ?_)
  ·simp at h
   have hw := w64 (x := (i : Int) + 1) (by omega) (by omega)
   obtain ⟨r1, h1, v1, p1, s1, ⟨a, rfl, a0, a1⟩, hp1, rfl⟩ := zbd B p s hp hB 3 (by omega)
   have a2 := a1 (by omega)
   have w := w64 (x := a - 1) (by omega) (by omega)
   rcases hx with ⟨rfl, rfl⟩ | ⟨o, e, rfl, ho, hox, hSo⟩
   ·have hr8 : zam 8 1 = true := by decide
    have hone : [[iv (a - 1)]] = zac [a - 1] := rfl
    simp [-getElem?_pos, v0, v2, v3, v4, v5, hS, hS1, hS2, z1, z2, z3, h1, w, hw, hr8]
    exact zaq (n - 1) (by omega) ⟨i + 1, p1, s1, [a - 1], .ref (st.nx + 1) none st.ep 0 1, by omega, by simp at hm; simp; omega, hp1, by simp [v0], by simp [v2], by simp [v3], by simp [v4], by simp, by simp; omega, .inr ⟨st.nx + 1, st.ep, rfl, by omega, by simp, by
     have n2 : ¬ st.nx + 1 = 2 := by omega
     simp [n2, zac]⟩, by simp [z1, z2, z3], by simp [z1, z2, z3, hS1], by simp⟩
   ·have hr8 := zd4 (n := m.length + 1) (by omega)
    have y1 := fr hox
    have y2 := fr ho
    have y3 := fr (by omega : 0 < o)
    have y4 := fr (by omega : 1 < o)
    simp [-getElem?_pos, v0, v2, v3, v4, v5, hS, hS1, hS2, hSo, z1, z2, z3, y1, y2, y3, y4, h1, w, hw, hr8, zc9]
    exact zaq (n - 1) (by omega) ⟨i + 1, p1, s1, m ++ [a - 1], .ref (st.nx + 1) none st.ep 0 (m.length + 1), by omega, by simp [hm], hp1, by simp [v0], by simp [v2], by simp [v3], by simp [v4], by simp, by simp; omega, .inr ⟨st.nx + 1, st.ep, by simp, by omega, by simp, by
     have n2 : ¬ st.nx + 1 = 2 := by omega
     simp [n2]⟩, by simp [z1, z2, z3, y1, y2, y3, y4], by simp [z1, z2, z3, y1, y2, y3, y4, hS1], by simp⟩
  ·simp at h
   rcases hx with ⟨rfl, rfl⟩ | ⟨o, e, rfl, ho, hox, hSo⟩
   ·simp [-getElem?_pos, v0, v2, v3, hS, hS1, hS2]
    exact ⟨_, p, s, ⟨⟨x0, x1, x2, x3, x4, x5, x6, []⟩, rfl, by simp⟩, hp, rfl⟩
   ·have y2 := fr ho
    have y3 := fr (by omega : 0 < o)
    have y4 := fr (by omega : 1 < o)
    have y5 : 1 ≤ o := by omega
    simp [-getElem?_pos, v0, v2, v3, hS, hS1, hS2, hSo, y2, y3, y4, y5]
    exact ⟨_, p, s, ⟨⟨x0, x1, x2, x3, x4, x5, x6, m⟩, rfl, by simp only; omega⟩, hp, rfl⟩
 cases b1 with
 | true =>
  obtain ⟨r8, h8, v8, p8, s8, ⟨a8, rfl, a80, a81⟩, hp8, rfl⟩ := zbd B p7 s7 hp7 hB 100 (by omega)
  obtain ⟨r9, h9, v9, p9, s9, ⟨b2, rfl⟩, hp9, rfl⟩ := zdm B p8 s8 hp8 hB 4 (by omega)
  cases b2 with
  | true =>
   obtain ⟨r10, h10, v10, p10, s10, ⟨a10', rfl, _, _⟩, hp10, rfl⟩ := zbd B p9 s9 hp9 hB (1 + a6) (by have := a61 (by omega); omega)
   obtain ⟨r11, h11, v11, p11, s11, ⟨k, rfl, k0, k1⟩, hp11, rfl⟩ := zbd B p10 s10 hp10 hB 5 (by omega)
   have k2 := k1 (by omega)
   simp [-getElem?_pos, zl3, zl4, h1, h2, h3, h4, h5, h6, h7, h8, h9, h10, h11, w6]
   exact key k _ _ _ _ _ _ _ _ p11 s11 k0 (by omega) hp11 (by simp) (by simp) (by simp) (by simp) (by simp) (by simp) (by simp) (by simp) (by simp; exact ⟨rfl, rfl, rfl, rfl, rfl, rfl, rfl⟩)
  | false =>
   obtain ⟨r11, h11, v11, p11, s11, ⟨k, rfl, k0, k1⟩, hp11, rfl⟩ := zbd B p9 s9 hp9 hB 5 (by omega)
   have k2 := k1 (by omega)
   simp [-getElem?_pos, zl3, zl4, h1, h2, h3, h4, h5, h6, h7, h8, h9, h11, w6]
   exact key k _ _ _ _ _ _ _ _ p11 s11 k0 (by omega) hp11 (by simp) (by simp) (by simp) (by simp) (by simp) (by simp) (by simp) (by simp) (by simp; exact ⟨rfl, rfl, rfl, rfl, rfl, rfl, rfl⟩)
 | false =>
  obtain ⟨r9, h9, v9, p9, s9, ⟨b2, rfl⟩, hp9, rfl⟩ := zdm B p7 s7 hp7 hB 4 (by omega)
  cases b2 with
  | true =>
   obtain ⟨r10, h10, v10, p10, s10, ⟨a10', rfl, _, _⟩, hp10, rfl⟩ := zbd B p9 s9 hp9 hB (1 + a6) (by have := a61 (by omega); omega)
   obtain ⟨r11, h11, v11, p11, s11, ⟨k, rfl, k0, k1⟩, hp11, rfl⟩ := zbd B p10 s10 hp10 hB 5 (by omega)
   have k2 := k1 (by omega)
   simp [-getElem?_pos, zl3, zl4, h1, h2, h3, h4, h5, h6, h7, h9, h10, h11, w6]
   exact key k _ _ _ _ _ _ _ _ p11 s11 k0 (by omega) hp11 (by simp) (by simp) (by simp) (by simp) (by simp) (by simp) (by simp) (by simp) (by simp; exact ⟨rfl, rfl, rfl, rfl, rfl, rfl, rfl⟩)
  | false =>
   obtain ⟨r11, h11, v11, p11, s11, ⟨k, rfl, k0, k1⟩, hp11, rfl⟩ := zbd B p9 s9 hp9 hB 5 (by omega)
   have k2 := k1 (by omega)
   simp [-getElem?_pos, zl3, zl4, h1, h2, h3, h4, h5, h6, h7, h9, h11, w6]
   exact key k _ _ _ _ _ _ _ _ p11 s11 k0 (by omega) hp11 (by simp) (by simp) (by simp) (by simp) (by simp) (by simp) (by simp) (by simp) (by simp; exact ⟨rfl, rfl, rfl, rfl, rfl, rfl, rfl⟩)
theorem ym9 (B : List Int) (p : Nat) (s : Int) (hp : p ≤ B.length) (hB : B.length ≤ 9223372036854775807) : ∃ r, RUN T zn2 [.bx [.sl 1 (za8 B), iv p, iv s]] = some r ∧ zet B (PC 64) r := by
 refine zc6 z4v rfl ?_
 obtain ⟨r1, h1, v1, p1, s1, ⟨c, rfl, hc⟩, hp1, rfl⟩ := z7q B p s hp hB
 obtain ⟨r2, h2, v2, p2, s2, ⟨a, rfl, a0, a1⟩, hp2, rfl⟩ := zbd B p1 s1 hp1 hB 12 (by omega)
 have hr8 : zam 8 1 = true := by decide
 by_cases c0 : a = 0
 ·obtain ⟨r3, h3, v, p3, s3, ⟨x, rfl, hx⟩, hp3, rfl⟩ := zfo B p2 s2 hp2 hB [0, 1, 8, 9, -1] (by simp)
  simp only [zac, List.map] at h3
  simp [-getElem?_pos, zf6, zf7, hr8, h1, h2, c0, h3]
  exact ⟨_, p3, s3, ⟨⟨x, c.de, c.bi, c.la, c.rw, c.nu, c.dn, c.sg⟩, rfl, by simp only; omega⟩, hp3, rfl⟩
 by_cases c1 : a = 1
 ·obtain ⟨r3, h3, v, p3, s3, ⟨x, rfl, hx⟩, hp3, rfl⟩ := zfo B p2 s2 hp2 hB [-1, 0, 4, 5] (by simp)
  simp only [zac, List.map] at h3
  simp [-getElem?_pos, zf6, zf7, hr8, h1, h2, c0, c1, h3]
  exact ⟨_, p3, s3, ⟨⟨c.ro, x, c.bi, c.la, c.rw, c.nu, c.dn, c.sg⟩, rfl, by simp only; omega⟩, hp3, rfl⟩
 by_cases c2 : a = 2
 ·obtain ⟨r3, h3, v, p3, s3, ⟨x, rfl, hx⟩, hp3, rfl⟩ := zfo B p2 s2 hp2 hB [1, 2, 8, 9] (by simp)
  simp only [zac, List.map] at h3
  simp [-getElem?_pos, zf6, zf7, hr8, h1, h2, c0, c1, c2, h3]
  exact ⟨_, p3, s3, ⟨⟨c.ro, c.de, x, c.la, c.rw, c.nu, c.dn, c.sg⟩, rfl, by simp only; omega⟩, hp3, rfl⟩
 by_cases c3 : a = 3
 ·obtain ⟨r3, h3, v, p3, s3, ⟨x, rfl, hx⟩, hp3, rfl⟩ := zfo B p2 s2 hp2 hB [0, 1, 100, 101, 9223372036854775807] (by simp)
  simp only [zac, List.map] at h3
  simp [-getElem?_pos, zf6, zf7, hr8, h1, h2, c0, c1, c2, c3, h3]
  exact ⟨_, p3, s3, ⟨⟨c.ro, c.de, c.bi, x, c.rw, c.nu, c.dn, c.sg⟩, rfl, by simp only; omega⟩, hp3, rfl⟩
 by_cases c4 : a = 4
 ·obtain ⟨r3, h3, v, p3, s3, ⟨x, rfl, hx⟩, hp3, rfl⟩ := zfo B p2 s2 hp2 hB [0, 1, 20, 21] (by simp)
  simp only [zac, List.map] at h3
  simp [-getElem?_pos, zf6, zf7, hr8, h1, h2, c0, c1, c2, c3, c4, h3]
  exact ⟨_, p3, s3, ⟨⟨c.ro, c.de, c.bi, c.la, x, c.nu, c.dn, c.sg⟩, rfl, by simp only; omega⟩, hp3, rfl⟩
 by_cases c5 : a = 5
 ·obtain ⟨r3, h3, v, p3, s3, ⟨x, rfl, hx⟩, hp3, rfl⟩ := zfo B p2 s2 hp2 hB [0, 1, c.dn, IntKind.i64.wrap (c.dn + 1), -1] (by simp)
  simp only [zac, List.map] at h3
  simp [-getElem?_pos, zf6, zf7, hr8, h1, h2, c0, c1, c2, c3, c4, c5, h3]
  exact ⟨_, p3, s3, ⟨⟨c.ro, c.de, c.bi, c.la, c.rw, x, c.dn, c.sg⟩, rfl, by simp only; omega⟩, hp3, rfl⟩
 by_cases c6 : a = 6
 ·obtain ⟨r3, h3, v, p3, s3, ⟨x, rfl, hx⟩, hp3, rfl⟩ := zfo B p2 s2 hp2 hB [0, 1, 1000, 1001, 9223372036854775807] (by simp)
  simp only [zac, List.map] at h3
  simp [-getElem?_pos, zf6, zf7, hr8, h1, h2, c0, c1, c2, c3, c4, c5, c6, h3]
  exact ⟨_, p3, s3, ⟨⟨c.ro, c.de, c.bi, c.la, c.rw, c.nu, x, c.sg⟩, rfl, by simp only; omega⟩, hp3, rfl⟩
 by_cases c7 : a = 7
 ·obtain ⟨r3, h3, v, p3, s3, ⟨x, rfl, x0, x1⟩, hp3, rfl⟩ := zbd B p2 s2 hp2 hB 5 (by omega)
  have x2 := x1 (by omega)
  have w := w64 (x := x - 2) (by omega) (by omega)
  have hr9 := zd4 (n := c.sg.length + 1) (by omega)
  simp [-getElem?_pos, zf6, zf7, hr8, hr9, h1, h2, c0, c1, c2, c3, c4, c5, c6, c7, h3, w, zc9]
  exact ⟨_, p3, s3, ⟨⟨c.ro, c.de, c.bi, c.la, c.rw, c.nu, c.dn, c.sg ++ [x - 2]⟩, rfl, by simp; omega⟩, hp3, rfl⟩
 ·simp [-getElem?_pos, zf6, zf7, hr8, h1, h2, c0, c1, c2, c3, c4, c5, c6, c7]
  exact ⟨_, p2, s2, ⟨c, rfl, by omega⟩, hp2, rfl⟩
def zc8 (l : List ByteArray) : List (List PV) := l.map fun s => [.v (.string s)]
@[simp] theorem qew (l : List ByteArray) : (zc8 l).length = l.length := by simp [zc8]
theorem yel {l : List ByteArray} {i : Nat} {x : ByteArray} (h : l[i]? = some x) : (zc8 l)[i]? = some [.v (.string x)] := by simp [zc8, h]
def z0w (q : Bool) (t : List Nd) : PV := if q then .own 5 (t.map nd) else .sl 5 (t.map nd)
@[simp] theorem qe2 (q : Bool) (t : List Nd) : fz (z0w q t) = .sl 5 (t.map nd) := by cases q <;> simp [z0w]
def trs (q : Bool) (M : List (List Nd)) : List (List PV) := M.map fun t => [z0w q t]
@[simp] theorem y84 (q : Bool) (M : List (List Nd)) : (trs q M).length = M.length := by simp [trs]
structure Mo where
 ns : List ByteArray
 ix : List Int
 b : Int
 ts : List (List Nd)
structure MoL (n : Nat) (m : Mo) : Prop where
 ns : m.ns.length ≤ n
 ss : ∀ x ∈ m.ns, x.size ≤ n
 ix : m.ix.length ≤ n
 ts : m.ts.length ≤ n
 tl : ∀ l ∈ m.ts, l.length ≤ n
theorem MoL.mono {n k : Nat} {m : Mo} (h : MoL n m) (hk : n ≤ k) : MoL k m := ⟨Nat.le_trans h.ns hk, fun x hx => Nat.le_trans (h.ss x hx) hk, Nat.le_trans h.ix hk, Nat.le_trans h.ts hk, fun x hx => Nat.le_trans (h.tl x hx) hk⟩
theorem yst (s : ByteArray) : ∀ (n i : Nat) (r : List UInt8), s.size - i ≤ n → ByteArray.toList.loop s i r = r.reverse ++ s.data.toList.drop i := by
 have hs : s.data.toList.length = s.size := by cases s; rfl
 intro n
 induction n with
 | zero =>
  intro i r h
  rw [ByteArray.toList.loop, if_neg (by omega), List.drop_eq_nil_of_le (by omega)]
  simp
 | succ n ih =>
  intro i r h
  rw [ByteArray.toList.loop]
  split
  ·rename_i hi
   rw [ih _ _ (by omega)]
   have hi' : i < s.data.toList.length := by omega
   rw [List.drop_eq_getElem_cons hi']
   have : s.get! i = s.data.toList[i] := by
    cases s with
    | mk d =>
     show d[i]! = _
     rw [getElem!_pos d i (by simpa using hi')]
     simp
   simp [this]
  ·rename_i hi
   rw [List.drop_eq_nil_of_le (by omega)]
   simp
theorem yba (s : ByteArray) : s.toList = s.data.toList := by
 unfold ByteArray.toList
 rw [yst s s.size 0 [] (by omega)]
 simp
theorem yuh {x y : ByteArray} (h : x.toList = y.toList) : x = y := by
 rw [yba, yba] at h
 cases x; cases y
 simp at h
 simp [h]
theorem yrz {x y : ByteArray} (h : ¬ x = y) : (x.toList == y.toList) = false := by
 simp only [beq_eq_false_iff_ne, ne_eq]
 exact fun e => h (yuh e)
def rwS (q : Bool) (l : List ByteArray) : PV := if q then .own 1 (zc8 l) else .sl 1 (zc8 l)
@[simp] theorem qd2 (q : Bool) (l : List ByteArray) : fz (rwS q l) = .sl 1 (zc8 l) := by cases q <;> simp [rwS]
def z9d (q : Bool) (L : List (List ByteArray)) : List (List PV) := L.map fun l => [rwS q l]
@[simp] theorem y6g (q : Bool) (L : List (List ByteArray)) : (z9d q L).length = L.length := by simp [z9d]
def ltr (n : Int) : Bool := decide (97 ≤ n) && decide (n ≤ 122)
def dgt (n : Int) : Bool := decide (48 ≤ n) && decide (n ≤ 57)
def chB (s : ByteArray) (i : Nat) : Bool := match s[i]? with
 | none => true
 | some b => ltr b.toNat || (decide (i ≠ 0) && dgt b.toNat)
def ze2 (s : ByteArray) : Bool := zaj s.size 1 12 && (List.range s.size).all (chB s)
theorem yex {s : ByteArray} {i : Nat} {b : UInt8} (h : s[i]? = some b) : chB s i = (ltr b.toNat || (decide (i ≠ 0) && dgt b.toNat)) := by simp [chB, h]
theorem z7r (s : ByteArray) (hs : s.size ≤ 9223372036854775807) : RUN T zli [.v (.string s)] = some ([bv (ze2 s)], []) := by
 refine zai z60 rfl ?_
 rcases Bool.eq_false_or_eq_true (zaj s.size 1 12) with h0 | h0
 case inr =>
  have no : ze2 s = false := by unfold ze2; rw [h0]; rfl
  simp [-getElem?_pos, zps, zpt, za9, -zay, h0, no]
 have hr := zbe.mp h0
 obtain ⟨b0, hb0⟩ : ∃ b, s[0]? = some b := ⟨_, getElem?_pos s 0 (by omega)⟩
 have hn0 : zbm (.v (.int .i64 0)) = some 0 := rfl
 rcases Classical.propComplete (((b0.toNat : Nat) : Int) < 97) with f | f
 case inl =>
  have hc : chB s 0 = false := by
   rw [yex hb0]
   have : ¬ (97 ≤ (b0.toNat : Int)) := by have := of_eq_true f; omega
   simp [ltr, this]
  have no : ze2 s = false := by unfold ze2; rw [zh1 (by omega) hc]; simp
  simp [-getElem?_pos, zps, zpt, za9, -zay, h0, no, hb0, f]
 simp [-getElem?_pos, zps, zpt, za9, -zay, h0, hb0, f]
 refine za3 (fun n st => ∃ i : Nat, i + n = s.size ∧ (∀ j, j < i → chB s j = true) ∧ st.V 0 = .v (.string s) ∧ st.V 3 = iv i) ?_ s.size _ ⟨0, by simp⟩
 rintro n st ⟨i, hi, hj, v0, v3⟩
 simp [z3h, v0, v3]
 refine zdi (fun h => ?_) (fun h => ?_)
 ·simp at h
  obtain ⟨b, hb⟩ : ∃ b, s[i]? = some b := ⟨_, getElem?_pos s i h⟩
  have hw := wS h hs
  have hc := yex hb
  have hcv : IntKind.i64.wrap (b.toNat : Int) = b.toNat := w64 (by omega) (by have := b.toNat_lt; omega)
  have e1 : zaj (b.toNat : Int) 97 122 = ltr b.toNat := rfl
  have e2 : zaj (b.toNat : Int) 48 57 = dgt b.toNat := rfl
  cases a1 : ltr b.toNat with
  | true =>
   have e3 := e1.trans a1
   simp [-getElem?_pos, v0, v3, hb, hcv, e3, hw, za9, -zay]
   exact zaq (n - 1) (by omega) ⟨i + 1, by omega, zsr hj (by rw [hc, a1]; rfl), by simp [v0], by simp⟩
  | false =>
   have e3 := e1.trans a1
   cases a2 : dgt b.toNat with
   | true =>
    have e4 := e2.trans a2
    have hi0 : i ≠ 0 := by
     rintro rfl
     rw [hb0] at hb
     cases hb
     simp [dgt] at a2
     have := of_eq_false f
     omega
    simp [-getElem?_pos, v0, v3, hb, hcv, e3, e4, hw, za9, -zay]
    exact zaq (n - 1) (by omega) ⟨i + 1, by omega, zsr hj (by rw [hc, a1, a2]; simp [hi0]), by simp [v0], by simp⟩
   | false =>
    have e4 := e2.trans a2
    have no : ze2 s = false := by unfold ze2; rw [zh1 h (by rw [hc, a1, a2]; simp : chB s i = false)]; simp
    simp [-getElem?_pos, v0, v3, hb, hcv, e3, e4, hw, no, za9, -zay]
 ·simp at h
  have := zzi (p := chB s) (n := s.size) fun j hj' => hj j (by omega)
  have ok : ze2 s = true := by unfold ze2; rw [this, h0]; rfl
  simp [ok]
theorem z8r (l : List ByteArray) (i : Nat) : List.take i (zc8 l) = zc8 (l.take i) := by simp [zc8]
def zgh (l : List ByteArray) (x : ByteArray) : Bool := l.any fun y => decide (y = x)
theorem z7s (l : List ByteArray) (x : ByteArray) (hl : l.length ≤ 9223372036854775807) : RUN T zlj [.sl 1 (zc8 l), .v (.string x)] = some ([bv (zgh l x)], []) := by
 refine zai z61 rfl ?_
 simp [-getElem?_pos, zya, zyb]
 refine za3 (fun n st => ∃ i : Nat, i + n = l.length ∧ (∀ (j : Nat) (y : ByteArray), j < i → l[j]? = some y → ¬ y = x) ∧ st.V 0 = .sl 1 (zc8 l) ∧ st.V 1 = .v (.string x) ∧ st.V 5 = iv i) ?_ l.length _ ⟨0, by simp⟩
 rintro n st ⟨i, hi, hj, v0, v1, v5⟩
 simp [z3i, v0, v5]
 refine zdi (fun h => ?_) (fun h => ?_)
 ·simp at h
  obtain ⟨y, hy⟩ : ∃ y, l[i]? = some y := ⟨_, List.getElem?_eq_getElem h⟩
  have hy' := yel hy
  have hw := wS h hl
  by_cases e : y = x
  ·subst e
   have : zgh l y = true := by
    unfold zgh; rw [List.any_eq_true]; exact ⟨y, List.mem_of_getElem? hy, by simp⟩
   simp [-getElem?_pos, v0, v1, v5, hy', h, this]
  ·simp [-getElem?_pos, v0, v1, v5, hy', h, hw, yrz e]
   exact zaq (n - 1) (by omega) ⟨i + 1, by omega, zmo (P := fun _ y => ¬ y = x) hj hy e, by simp [v0], by simp [v1], by simp⟩
 ·simp at h
  have : zgh l x = false := by
   unfold zgh
   rw [List.any_eq_false]
   intro y hy
   obtain ⟨j, hjy⟩ := List.getElem?_of_mem hy
   simpa using hj j y (by have := (List.getElem?_eq_some_iff.mp hjy).1; omega) hjy
  simp [this]
def nmB (L : List ByteArray) (i : Nat) : Bool := match L[i]? with
 | none => true
 | some x => ze2 x && !zgh (L.take i) x
def zi9 (L : List ByteArray) : Bool := (List.range L.length).all (nmB L)
theorem zzr {L : List ByteArray} {i : Nat} {x : ByteArray} (h : L[i]? = some x) : nmB L i = (ze2 x && !zgh (L.take i) x) := by simp [nmB, h]
def yo8 (p : Nat → Bool) (i : Nat) : List Int := ((List.range i).filter p).map fun (j : Nat) => (j : Int)
@[simp] theorem y04 (p : Nat → Bool) : yo8 p 0 = [] := rfl
theorem zhq (x : Int) : IntKind.u64.wrap x = x % 18446744073709551616 := IntKind.wrap_u64 x
theorem ydt (a b : Int) : za5 .mul (.int .u64 a) (.int .u64 b) = some (.int .u64 (a * b % 18446744073709551616)) := by rw [z10, zhq]
theorem yan (a b : Int) : za5 .add (.int .u64 a) (.int .u64 b) = some (.int .u64 ((a + b) % 18446744073709551616)) := by rw [z08, zhq]
theorem ybz (x : Int) : za5 .shr (.int .u64 x) (.int .u64 32) = some (.int .u64 (x / 4294967296)) := by
 rw [z0y, if_pos (by decide)]
 have : (2 : Int) ^ min (32 : Int).toNat IntKind.u64.bits = 4294967296 := by decide
 rw [this, Int.fdiv_eq_ediv_of_nonneg _ (by decide)]
theorem yul (x : Int) : za5 .shl (.int .u64 x) (.int .u64 32) = some (.int .u64 (x * 4294967296 % 18446744073709551616)) := by
 rw [ybv, if_pos (by decide), zhq]
 have : (2 : Int) ^ min (32 : Int).toNat IntKind.u64.bits = 4294967296 := by decide
 rw [this]
theorem zm0 {x : Int} (h0 : 0 ≤ x) (h1 : x < 18446744073709551616) : za5 .and (.int .u64 x) (.int .u64 4294967295) = some (.int .u64 (x % 4294967296)) := by
 rw [z1k, zhq]
 have e : ((BitVec.ofInt IntKind.u64.bits x &&& BitVec.ofInt IntKind.u64.bits 4294967295).toNat : Int) = x % 4294967296 := by
  obtain ⟨n, rfl⟩ := Int.eq_ofNat_of_zero_le h0
  have hn : n < 2 ^ 64 := by omega
  have e2 : (BitVec.ofInt 64 (n : Int) &&& BitVec.ofInt 64 4294967295).toNat = n % 4294967296 := by
   rw [BitVec.toNat_and]
   have e3 : (BitVec.ofInt 64 (n : Int)).toNat = n := by
    rw [BitVec.ofInt_natCast, BitVec.toNat_ofNat, Nat.mod_eq_of_lt hn]
   have e4 : (BitVec.ofInt 64 4294967295).toNat = 2 ^ 32 - 1 := by decide
   rw [e3, e4, Nat.and_two_pow_sub_one_eq_mod]
  show (((BitVec.ofInt 64 (n : Int) &&& BitVec.ofInt 64 4294967295).toNat : Nat) : Int) = _
  rw [e2]; omega
 rw [e]; congr 2; omega
theorem parts {x y : Int} (hx : 0 ≤ x) (hx1 : x < 18446744073709551616) (hy : 0 ≤ y) (hy1 : y < 18446744073709551616) :
  ∃ a b c d : Int, a = x % 4294967296 * (y % 4294967296) ∧ b = x / 4294967296 * (y % 4294967296) ∧ c = x % 4294967296 * (y / 4294967296) ∧ d = x / 4294967296 * (y / 4294967296) ∧ 0 ≤ a ∧ a ≤ 18446744065119617025 ∧ 0 ≤ b ∧ b ≤ 18446744065119617025 ∧ 0 ≤ c ∧ c ≤ 18446744065119617025 ∧ 0 ≤ d ∧ d ≤ 18446744065119617025 ∧ x * y = d * 18446744073709551616 + (b + c) * 4294967296 + a := by
 have bd : ∀ u v : Int, 0 ≤ u → u ≤ 4294967295 → 0 ≤ v → v ≤ 4294967295 → 0 ≤ u * v ∧ u * v ≤ 18446744065119617025 := fun u v h1 h2 h3 h4 =>
  ⟨Int.mul_nonneg h1 h3, Int.le_trans (Int.mul_le_mul h2 h4 h3 (by decide)) (by decide)⟩
 have x0 : 0 ≤ x % 4294967296 ∧ x % 4294967296 ≤ 4294967295 := by omega
 have x1 : 0 ≤ x / 4294967296 ∧ x / 4294967296 ≤ 4294967295 := by omega
 have y0 : 0 ≤ y % 4294967296 ∧ y % 4294967296 ≤ 4294967295 := by omega
 have y1 : 0 ≤ y / 4294967296 ∧ y / 4294967296 ≤ 4294967295 := by omega
 refine ⟨_, _, _, _, rfl, rfl, rfl, rfl, (bd _ _ x0.1 x0.2 y0.1 y0.2).1, (bd _ _ x0.1 x0.2 y0.1 y0.2).2, (bd _ _ x1.1 x1.2 y0.1 y0.2).1, (bd _ _ x1.1 x1.2 y0.1 y0.2).2, (bd _ _ x0.1 x0.2 y1.1 y1.2).1, (bd _ _ x0.1 x0.2 y1.1 y1.2).2, (bd _ _ x1.1 x1.2 y1.1 y1.2).1, (bd _ _ x1.1 x1.2 y1.1 y1.2).2, ?_⟩
 have ex : x = x / 4294967296 * 4294967296 + x % 4294967296 := by omega
 have ey : y = y / 4294967296 * 4294967296 + y % 4294967296 := by omega
 generalize x / 4294967296 = p at *
 generalize x % 4294967296 = q at *
 generalize y / 4294967296 = r at *
 generalize y % 4294967296 = s at *
 rw [ex, ey, Int.add_mul, Int.mul_add, Int.mul_add]
 have e1 : p * 4294967296 * (r * 4294967296) = p * r * 18446744073709551616 := by
  rw [show (18446744073709551616 : Int) = 4294967296 * 4294967296 by decide, Int.mul_assoc, Int.mul_comm 4294967296 (r * 4294967296), Int.mul_assoc r, ← Int.mul_assoc p r]
 have e2 : p * 4294967296 * s = p * s * 4294967296 := by rw [Int.mul_assoc, Int.mul_comm 4294967296 s, ← Int.mul_assoc]
 have e3 : q * (r * 4294967296) = q * r * 4294967296 := by rw [← Int.mul_assoc]
 rw [e1, e2, e3, Int.add_mul]
 omega
theorem z0h (x y : Int) (hx : 0 ≤ x) (hx1 : x < 18446744073709551616) (hy : 0 ≤ y) (hy1 : y < 18446744073709551616) : RUN T zju [.v (.int .u64 x), .v (.int .u64 y)] = some ([.v (.int .u64 (x * y / 18446744073709551616)), .v (.int .u64 (x * y % 18446744073709551616))], []) := by
 refine zai z67 rfl ?_
 obtain ⟨a, b, c, d, ea, eb, ec, ed, a0, a1, b0, b1, c0, c1, d0, d1, hp⟩ := parts hx hx1 hy hy1
 have f1 := zm0 hx hx1
 have f2 := zm0 hy hy1
 have g1 : a % 18446744073709551616 = a := by omega
 have g2 : b % 18446744073709551616 = b := by omega
 have g3 : c % 18446744073709551616 = c := by omega
 have g4 : d % 18446744073709551616 = d := by omega
 have g5 : (b + a / 4294967296) % 18446744073709551616 = b + a / 4294967296 := by omega
 have f3 := zm0 (x := b + a / 4294967296) (by omega) (by omega)
 simp [-z10, -z08, -z1k, -z0y, ydt, yan, ybz, f1, f2, f3, zyj, zyk, ← ea, ← eb, ← ec, ← ed, g1, g2, g3, g4, g5]
 omega
theorem z0i (x y : Int) (hx : 0 ≤ x) (hx1 : x < 18446744073709551616) (hy : 0 ≤ y) (hy1 : y < 18446744073709551616) : RUN T zjx [.v (.int .u64 x), .v (.int .u64 y)] = some ([.v (.int .u64 (x * y / 18446744073709551616)), .v (.int .u64 (x * y % 18446744073709551616))], []) := by
 refine zai z7d rfl ?_
 obtain ⟨a, b, c, d, ea, eb, ec, ed, a0, a1, b0, b1, c0, c1, d0, d1, hp⟩ := parts hx hx1 hy hy1
 have f1 := zm0 hx hx1
 have f2 := zm0 hy hy1
 have g1 : a % 18446744073709551616 = a := by omega
 have g2 : b % 18446744073709551616 = b := by omega
 have g3 : c % 18446744073709551616 = c := by omega
 have g4 : d % 18446744073709551616 = d := by omega
 have g5 : (b + a / 4294967296) % 18446744073709551616 = b + a / 4294967296 := by omega
 have f3 := zm0 (x := b + a / 4294967296) (by omega) (by omega)
 have f4 := zm0 (x := a) (by omega) (by omega)
 simp [-z10, -z08, -z1k, -z0y, -ybv, ydt, yan, ybz, yul, f1, f2, f3, f4, zyr, zys, ← ea, ← eb, ← ec, ← ed, g1, g2, g3, g4, g5]
 omega
structure Wd where
 n : Bool
 h : Int
 l : Int
deriving DecidableEq
abbrev uv (x : Int) : PV := .v (.int .u64 x)
def wd (w : Wd) : List PV := [bv w.n, uv w.h, uv w.l]
def wfU (w : Wd) : Prop := 0 ≤ w.h ∧ w.h < 18446744073709551616 ∧ 0 ≤ w.l ∧ w.l < 18446744073709551616
def wok (w : Wd) : Bool := decide (w.h < 9223372036854775808) && (!w.n || decide (0 < w.h) || decide (0 < w.l))
def mag (w : Wd) : Int := w.h * 18446744073709551616 + w.l
def mkW (n : Bool) (m : Int) : Wd := ⟨n && decide (0 < m), m / 18446744073709551616, m % 18446744073709551616⟩
def za1 : Wd := ⟨false, 0, 0⟩
theorem z2v {n : Bool} {m : Int} (h0 : 0 ≤ m) (h1 : m < 340282366920938463463374607431768211456) : wfU (mkW n m) := by
 unfold wfU mkW; simp only; omega
theorem z0x {n : Bool} {m : Int} (h0 : 0 ≤ m) : wok (mkW n m) = decide (m < 170141183460469231731687303715884105728) := by
 unfold wok mkW
 simp only
 by_cases h : m < 170141183460469231731687303715884105728
 ·have e : m / 18446744073709551616 < 9223372036854775808 := by omega
  rw [decide_eq_true h, decide_eq_true e]
  by_cases hz : 0 < m
  ·by_cases h2 : 0 < m / 18446744073709551616
   ·simp [h2]
   ·have : 0 < m % 18446744073709551616 := by omega
    simp [this]
  ·simp [hz]
 ·have e : ¬ m / 18446744073709551616 < 9223372036854775808 := by omega
  rw [decide_eq_false h, decide_eq_false e]; rfl
theorem z0j (n : Int) (h : inI n) : RUN T zjv [iv n] = some ([uv n.natAbs], []) := by
 refine zai z68 rfl ?_
 obtain ⟨h0, h1⟩ := h
 simp [zyl, zym]
 refine zdi (fun h => ?_) (fun h => ?_) <;> simp at h <;> simp [zhq] <;> omega
theorem z0k (n : Int) (h : inI n) : RUN T zjw [iv n] = some ([uv n.natAbs], []) := by
 refine zai z7c rfl ?_
 obtain ⟨h0, h1⟩ := h
 have e1 : n < 0 → IntKind.i64.wrap (n + 1) = n + 1 := fun h => w64 (by omega) (by omega)
 have e2 : n < 0 → IntKind.i64.wrap (0 - (n + 1)) = 0 - (n + 1) := fun h => w64 (by omega) (by omega)
 simp [zyp, zyq]
 refine zdi (fun h => ?_) (fun h => ?_) <;> simp at h
 ·have e1 := e1 h
  have e2 := e2 h
  simp at e2
  simp [e1, e2, zhq]; omega
 ·simp [zhq]; omega
theorem zsf (n : Bool) (h l : Int) : RUN T zf5 [bv n, uv h, uv l] = some ([.agg (wd ⟨n && (decide (0 < h) || decide (0 < l)), h, l⟩)], []) := by
 refine zai z6q rfl ?_
 cases n with
 | false => simp [zpq, zpr, wd]
 | true =>
  by_cases h1 : 0 < h
  ·simp [zpq, zpr, wd, h1]
  ·simp [zpq, zpr, wd, h1]
theorem zpx (w : Wd) : RUN T zgp [.agg (wd w)] = some ([bv (wok w)], []) := by
 refine zai z65 rfl ?_
 obtain ⟨n, h, l⟩ := w
 unfold wok
 by_cases h1 : h < 9223372036854775808
 ·cases n with
  | false => simp [zl9, zma, wd, h1]
  | true =>
   by_cases h2 : 0 < h
   ·simp [zl9, zma, wd, h1, h2]
   ·simp [zl9, zma, wd, h1, h2]
 ·simp [zl9, zma, wd, h1]
theorem zpy (w : Wd) : RUN T zgq [.agg (wd w)] = some ([bv (wok w)], []) := by
 refine zai z7a rfl ?_
 obtain ⟨n, h, l⟩ := w
 unfold wok
 by_cases h1 : h < 9223372036854775808
 ·cases n with
  | false => simp [zmb, zmc, wd, h1]
  | true =>
   by_cases h2 : 0 < h
   ·simp [zmb, zmc, wd, h1, h2]
   ·simp [zmb, zmc, wd, h1, h2]
 ·simp [zmb, zmc, wd, h1]
theorem zsg (w : Wd) : RUN T zh8 [.agg (wd w)] = some ([bv (decide (w.h = 0) && decide (w.l = 0))], []) := by
 refine zai z6y rfl ?_
 by_cases h1 : w.h = 0
 ·simp [zr9, zsa, wd, h1]
 ·simp [zr9, zsa, wd, h1]
def zb2 (a b : Int) : Int := if a < b then -1 else if b < a then 1 else 0
theorem z7t (x : Int) : RUN T zln [uv x] = some ([bv false], []) := by
 refine zai z7e rfl ?_
 simp [zyt, zyu]
theorem z7u (x y : Int) : RUN T zlm [uv x, uv y] = some ([iv (zb2 x y)], []) := by
 refine zai z69 rfl ?_
 have e1 := z7t x
 have e2 := z7t y
 unfold zb2
 by_cases h1 : x < y
 ·simp [zpu, zpv, e1, e2, h1]
 ·by_cases h2 : y < x
  ·simp [zpu, zpv, e1, e2, h1, h2]
  ·simp [zpu, zpv, e1, e2, h1, h2]
theorem z7v (x y : Int) : RUN T zlb [.sl 1 [[iv x], [iv y]]] = some ([iv (if x = 0 then y else x)], []) := by
 refine zai z6g rfl ?_
 simp [zxq, zxr]
 refine za3 (fun n st => ∃ i : Nat, i + n = 2 ∧ (1 ≤ i → x = 0) ∧ (2 ≤ i → y = 0) ∧ st.V 3 = iv 0 ∧ st.V 6 = .sl 1 [[iv x], [iv y]] ∧ st.V 7 = iv 2 ∧ st.V 8 = iv i) ?_ 2 _ ⟨0, by simp⟩
 rintro n st ⟨i, hi, hx, hy, v3, v6, v7, v8⟩
 simp [z3g, v7, v8]
 have h3 : i = 0 ∨ i = 1 ∨ i = 2 := by omega
 rcases h3 with rfl | rfl | rfl
 ·have hw : IntKind.i64.wrap 1 = 1 := w64 (by omega) (by omega)
  by_cases h : x = 0
  ·simp [v3, v6, v7, v8, h, hw]
   exact zaq (n - 1) (by omega) ⟨1, by omega, fun _ => h, by simp, by simp [v3], by simp [v6, h], by simp [v7], by simp⟩
  ·simp [v3, v6, v7, v8, h]
 ·have hx := hx (by omega)
  have hw : IntKind.i64.wrap 2 = 2 := w64 (by omega) (by omega)
  by_cases h : y = 0
  ·simp [v3, v6, v7, v8, h, hx, hw]
   exact zaq (n - 1) (by omega) ⟨2, by omega, fun _ => hx, fun _ => h, by simp [v3], by simp [v6, h, hx], by simp [v7], by simp⟩
  ·simp [v3, v6, v7, v8, h, hx]
 ·have hx := hx (by omega)
  have hy := hy (by omega)
  simp [v3, hx, hy]
def zee (a b : Wd) : Int := if zb2 a.h b.h = 0 then zb2 a.l b.l else zb2 a.h b.h
theorem z9p {a b : Wd} (ha : wfU a) (hb : wfU b) : zee a b = zb2 (mag a) (mag b) := by
 obtain ⟨_, _, _, _⟩ := ha
 obtain ⟨_, _, _, _⟩ := hb
 unfold zee zb2 mag
 split <;> split <;> split <;> (try split) <;> (try split) <;> omega
theorem z0l (a b : Wd) : RUN T zjr [.agg (wd a), .agg (wd b)] = some ([iv (zee a b)], []) := by
 refine zai z6r rfl ?_
 have e1 := z7u a.h b.h
 have e2 := z7u a.l b.l
 have e3 := z7v (zb2 a.h b.h) (zb2 a.l b.l)
 simp [zx0, zx1, wd, e1, e2, e3, zee]
theorem z0m (a b : Wd) : RUN T zjs [.agg (wd a), .agg (wd b)] = some ([iv (zee a b)], []) := by
 refine zai z6z rfl ?_
 unfold zee zb2
 by_cases h1 : a.h < b.h
 ·simp [zj3, zj4, wd, h1]
 ·by_cases h2 : b.h < a.h
  ·have h3 : ¬ a.h = b.h := by omega
   simp [zj3, zj4, wd, h1, h2, h3]
  ·have h3 : a.h = b.h := by omega
   by_cases h4 : a.l < b.l
   ·simp [zj3, zj4, wd, h3, h4]
   ·by_cases h5 : b.l < a.l
    ·simp [zj3, zj4, wd, h3, h4, h5]
    ·simp [zj3, zj4, wd, h3, h4, h5]
def zdz (a b : Int) : Wd := mkW (decide (a < 0) != decide (b < 0)) ((a.natAbs : Int) * b.natAbs)
theorem zip {a : Int} (h : inI a) : 0 ≤ (a.natAbs : Int) ∧ (a.natAbs : Int) ≤ 9223372036854775808 := by
 obtain ⟨h0, h1⟩ := h; omega
theorem z89 {a b : Int} (ha : inI a) (hb : inI b) : 0 ≤ (a.natAbs : Int) * b.natAbs ∧ (a.natAbs : Int) * b.natAbs ≤ 85070591730234615865843651857942052864 := by
 obtain ⟨a0, a1⟩ := zip ha
 obtain ⟨b0, b1⟩ := zip hb
 exact ⟨Int.mul_nonneg a0 b0, Int.le_trans (Int.mul_le_mul a1 b1 b0 (by decide)) (by decide)⟩
theorem yna (a b : Int) (ha : inI a) (hb : inI b) : RUN T zo1 [iv a, iv b] = some ([.agg (wd (zdz a b))], []) := by
 refine zai z6n rfl ?_
 obtain ⟨a0, a1⟩ := zip ha
 obtain ⟨b0, b1⟩ := zip hb
 have e1 := z0j a ha
 have e2 := z0j b hb
 have e3 := z0h a.natAbs b.natAbs a0 (by omega) b0 (by omega)
 have e4 := zsf (decide (a < 0) != decide (b < 0)) ((a.natAbs : Int) * b.natAbs / 18446744073709551616) ((a.natAbs : Int) * b.natAbs % 18446744073709551616)
 obtain ⟨m0, m1⟩ := z89 ha hb
 have e5 : (⟨(decide (a < 0) != decide (b < 0)) && (decide (0 < (a.natAbs : Int) * b.natAbs / 18446744073709551616) || decide (0 < (a.natAbs : Int) * b.natAbs % 18446744073709551616)), (a.natAbs : Int) * b.natAbs / 18446744073709551616, (a.natAbs : Int) * b.natAbs % 18446744073709551616⟩ : Wd) = zdz a b := by
  unfold zdz mkW
  congr 2
  generalize (a.natAbs : Int) * b.natAbs = m at *
  rw [Bool.eq_iff_iff]; simp; omega
 rw [e5] at e4
 generalize zdz a b = w at *
 obtain ⟨wn, wh, wl⟩ := w
 simp only [wd] at e4 ⊢
 by_cases sa : a < 0 <;> by_cases sb : b < 0 <;> simp [sa, sb] at e4 <;> simp [zxw, zxx, e1, e2, e3, sa, sb, e4]
theorem ynb (a b : Int) (ha : inI a) (hb : inI b) : RUN T zo6 [iv a, iv b] = some ([.agg (wd (zdz a b))], []) := by
 refine zai z7b rfl ?_
 obtain ⟨a0, a1⟩ := zip ha
 obtain ⟨b0, b1⟩ := zip hb
 have e1 := z0k a ha
 have e2 := z0k b hb
 have e3 := z0i a.natAbs b.natAbs a0 (by omega) b0 (by omega)
 have hpos : (0 < (a.natAbs : Int) * b.natAbs) ↔ (a ≠ 0 ∧ b ≠ 0) := by
  constructor
  ·intro h
   refine ⟨?_, ?_⟩ <;> rintro rfl <;> simp at h
  ·rintro ⟨h1, h2⟩
   exact Int.mul_pos (by omega) (by omega)
 have e5 : zdz a b = ⟨((decide (a < 0) != decide (b < 0)) && !decide (a = 0)) && !decide (b = 0), (a.natAbs : Int) * b.natAbs / 18446744073709551616, (a.natAbs : Int) * b.natAbs % 18446744073709551616⟩ := by
  unfold zdz mkW
  congr 1
  rw [Bool.eq_iff_iff]; simp [hpos, and_assoc]
 rw [e5]
 by_cases sa : a < 0 <;> by_cases sb : b < 0 <;> rcases Classical.propComplete (a = 0) with h0 | h0 <;> simp [zyn, zyo, e1, e2, e3, sa, sb, wd, h0]
def zd8 (w : Wd) : Int := if w.n then -mag w else mag w
def zb7 (a b : Wd) : Wd × Bool :=
 if wok a && wok b then
  if ((zd8 a + zd8 b).natAbs : Int) < 170141183460469231731687303715884105728 then (mkW (decide (zd8 a + zd8 b < 0)) (zd8 a + zd8 b).natAbs, true) else (za1, false)
 else (za1, false)
theorem yp2 (a b : Wd) : wfU (zb7 a b).1 := by
 unfold zb7
 split
 ·split
  ·exact z2v (by omega) (by omega)
  ·exact ⟨by decide, by decide, by decide, by decide⟩
 ·exact ⟨by decide, by decide, by decide, by decide⟩
theorem zj7 {w : Wd} (h : wfU w) (hk : wok w = true) : 0 ≤ mag w ∧ mag w < 170141183460469231731687303715884105728 ∧ (w.n = true → 0 < mag w) := by
 obtain ⟨h0, h1, h2, h3⟩ := h
 unfold wok at hk
 simp only [Bool.and_eq_true, Bool.or_eq_true, Bool.not_eq_true', decide_eq_true_eq] at hk
 unfold mag
 obtain ⟨k1, k2⟩ := hk
 refine ⟨by omega, by omega, fun hn => ?_⟩
 rw [hn] at k2
 rcases k2 with (k2 | k2) | k2
 ·cases k2
 ·omega
 ·omega
theorem yve (a b : Wd) (ha : wfU a) (hb : wfU b) (h : mag a + mag b < 340282366920938463463374607431768211456) : ∃ c d : Int,
  RUN T zh9 [uv a.l, uv b.l, uv 0] = some ([uv ((mag a + mag b) % 18446744073709551616), uv c], []) ∧ RUN T zh9 [uv a.h, uv b.h, uv c] = some ([uv ((mag a + mag b) / 18446744073709551616), uv d], []) := by
 obtain ⟨a0, a1, a2, a3⟩ := ha
 obtain ⟨b0, b1, b2, b3⟩ := hb
 have e1 := z1h z0d (x := a.l) (y := b.l) (c := 0) a2 b2 (by decide) (by decide)
 have e2 := z1h z0d (x := a.h) (y := b.h) (c := (a.l + b.l + 0) / 18446744073709551616) a0 b0 (by omega) (by omega)
 have f1 : (a.l + b.l + 0) % 18446744073709551616 = (mag a + mag b) % 18446744073709551616 := by unfold mag; omega
 have f2 : (a.h + b.h + (a.l + b.l + 0) / 18446744073709551616) % 18446744073709551616 = (mag a + mag b) / 18446744073709551616 := by unfold mag at *; omega
 rw [f1] at e1
 rw [f2] at e2
 exact ⟨_, _, e1, e2⟩
theorem yec (a b : Wd) (ha : wfU a) (hb : wfU b) (h : mag b ≤ mag a) : ∃ c d : Int,
  RUN T zjt [uv a.l, uv b.l, uv 0] = some ([uv ((mag a - mag b) % 18446744073709551616), uv c], []) ∧ RUN T zjt [uv a.h, uv b.h, uv c] = some ([uv ((mag a - mag b) / 18446744073709551616), uv d], []) := by
 obtain ⟨a0, a1, a2, a3⟩ := ha
 obtain ⟨b0, b1, b2, b3⟩ := hb
 have e1 := ycn z66 (x := a.l) (y := b.l) (c := 0) a2 b2 a3 b3 (by decide) (by decide)
 have e2 := ycn z66 (x := a.h) (y := b.h) (c := if a.l < b.l + 0 then 1 else 0) a0 b0 a1 b1 (by split <;> omega) (by split <;> omega)
 have f1 : (a.l - b.l - 0) % 18446744073709551616 = (mag a - mag b) % 18446744073709551616 := by unfold mag; omega
 have f2 : (a.h - b.h - (if a.l < b.l + 0 then 1 else 0)) % 18446744073709551616 = (mag a - mag b) / 18446744073709551616 := by
  unfold mag at *
  split <;> omega
 rw [f1] at e1
 rw [f2] at e2
 exact ⟨_, _, e1, e2⟩
theorem z18 {n : Bool} {m : Int} (h : 0 ≤ m) : RUN T zf5 [bv n, uv (m / 18446744073709551616), uv (m % 18446744073709551616)] = some ([.agg (wd (mkW n m))], []) := by
 rw [zsf]
 have : (⟨n && (decide (0 < m / 18446744073709551616) || decide (0 < m % 18446744073709551616)), m / 18446744073709551616, m % 18446744073709551616⟩ : Wd) = mkW n m := by
  unfold mkW
  congr 2
  rw [Bool.eq_iff_iff]; simp; omega
 rw [this]
theorem ync (a b : Wd) (ha : wfU a) (hb : wfU b) : RUN T zo0 [.agg (wd a), .agg (wd b)] = some ([.agg (wd (zb7 a b).1), bv (zb7 a b).2], []) := by
 refine zai z6l rfl ?_
 have ea := zpx a
 have eb := zpx b
 cases ka : wok a with
 | false =>
  have es : zb7 a b = (za1, false) := by unfold zb7; simp [ka]
  rw [es]; rw [ka] at ea
  simp only [wd] at ea
  simp [zig, zih, wd, ea, za1]
 | true =>
  cases kb : wok b with
  | false =>
   have es : zb7 a b = (za1, false) := by unfold zb7; simp [kb]
   rw [es]; rw [ka] at ea; rw [kb] at eb
   simp only [wd] at ea eb
   simp [zig, zih, wd, ea, eb, za1]
  | true =>
   obtain ⟨ma0, ma1, ma2⟩ := zj7 ha ka
   obtain ⟨mb0, mb1, mb2⟩ := zj7 hb kb
   rw [ka] at ea; rw [kb] at eb
   by_cases hn : a.n = b.n
   ·obtain ⟨c, d, f1, f2⟩ := yve a b ha hb (by omega)
    have f3 := z18 (n := a.n) (m := mag a + mag b) (by omega)
    have f4 := zpx (mkW a.n (mag a + mag b))
    rw [z0x (by omega)] at f4
    have es : zb7 a b = if mag a + mag b < 170141183460469231731687303715884105728 then (mkW a.n (mag a + mag b), true) else (za1, false) := by
     unfold zb7 zd8
     rw [ka, kb, ← hn]
     simp only [Bool.and_self, if_true]
     cases h : a.n with
     | true =>
      have e1 : (-mag a + -mag b).natAbs = mag a + mag b := by omega
      have e2 : -mag a + -mag b < 0 := by have := ma2 h; omega
      simp only [if_true, e1, decide_eq_true e2]
     | false =>
      have e1 : ((mag a + mag b).natAbs : Int) = mag a + mag b := by omega
      have e2 : ¬ mag a + mag b < 0 := by omega
      simp only [Bool.false_eq_true, if_false, e1, decide_eq_false e2]
    rw [es]
    generalize hm : mag a + mag b = m at *
    generalize mkW a.n m = w at *
    generalize m / 18446744073709551616 = hi at *
    generalize m % 18446744073709551616 = lo at *
    simp only [wd] at ea eb f3 f4 ⊢
    rw [hn] at ea f3
    by_cases hk : m < 170141183460469231731687303715884105728
    ·rw [decide_eq_true hk] at f4
     rw [if_pos hk]
     simp [zig, zih, ea, eb, hn, f1, f2, f3, f4]
    ·rw [decide_eq_false hk] at f4
     rw [if_neg hk]
     simp [zig, zih, ea, eb, hn, f1, f2, f3, f4, za1]
   ·have ho := z0l a b
    rw [z9p ha hb] at ho
    have es : zb7 a b = (mkW (if mag a < mag b then b.n else a.n) (if mag a < mag b then mag b - mag a else mag a - mag b), true) := by
     have gen : ∀ (n : Bool) (m : Int), ((zd8 a + zd8 b).natAbs : Int) = m → m < 170141183460469231731687303715884105728 → (decide (zd8 a + zd8 b < 0) && decide (0 < m)) = (n && decide (0 < m)) → zb7 a b = (mkW n m, true) := by
      intro n m h1 h2 h3
      unfold zb7
      rw [ka, kb, h1]
      simp only [Bool.and_self, if_true, if_pos h2]
      unfold mkW
      rw [h3]
     unfold zd8 at gen
     cases h : a.n <;> cases h' : b.n <;> simp only [h, h'] at gen hn ⊢
     ·exact (hn trivial).elim
     ·by_cases hl : mag a < mag b
      ·rw [if_pos hl, if_pos hl]
       exact gen _ _ (by simp; omega) (by omega) (by rw [Bool.eq_iff_iff]; simp; omega)
      ·rw [if_neg hl, if_neg hl]
       exact gen _ _ (by simp; omega) (by omega) (by rw [Bool.eq_iff_iff]; simp; omega)
     ·by_cases hl : mag a < mag b
      ·rw [if_pos hl, if_pos hl]
       exact gen _ _ (by simp; omega) (by omega) (by rw [Bool.eq_iff_iff]; simp; omega)
      ·rw [if_neg hl, if_neg hl]
       exact gen _ _ (by simp; omega) (by omega) (by rw [Bool.eq_iff_iff]; simp; omega)
     ·exact (hn trivial).elim
    rw [es]
    have hnb : (a.n == b.n) = false := by cases h : a.n <;> cases h' : b.n <;> simp [h, h'] at hn ⊢
    by_cases hl : mag a < mag b
    ·obtain ⟨c, d, f1, f2⟩ := yec b a hb ha (by omega)
     have f3 := z18 (n := b.n) (m := mag b - mag a) (by omega)
     have hs : zb2 (mag a) (mag b) = -1 := by unfold zb2; rw [if_pos hl]
     rw [hs] at ho
     rw [if_pos hl, if_pos hl]
     generalize mag b - mag a = m at *
     generalize mkW b.n m = w at *
     generalize m / 18446744073709551616 = hi at *
     generalize m % 18446744073709551616 = lo at *
     simp only [wd] at ea eb f3 ho ⊢
     simp [zig, zih, ea, eb, hnb, ho, f1, f2, f3]
    ·obtain ⟨c, d, f1, f2⟩ := yec a b ha hb (by omega)
     have f3 := z18 (n := a.n) (m := mag a - mag b) (by omega)
     have hs : ¬ zb2 (mag a) (mag b) < 0 := by unfold zb2; rw [if_neg hl]; split <;> omega
     rw [if_neg hl, if_neg hl]
     generalize mag a - mag b = m at *
     generalize mkW a.n m = w at *
     generalize m / 18446744073709551616 = hi at *
     generalize m % 18446744073709551616 = lo at *
     generalize zb2 (mag a) (mag b) = sg at *
     simp only [wd] at ea eb f3 ho ⊢
     simp [zig, zih, ea, eb, hnb, ho, hs, f1, f2, f3]
theorem ytc {a b : Wd} (ha : wfU a) (hb : wfU b) (ka : wok a = true) (kb : wok b = true) (hn : a.n = b.n) : zb7 a b = if mag a + mag b < 170141183460469231731687303715884105728 then (mkW a.n (mag a + mag b), true) else (za1, false) := by
 obtain ⟨ma0, ma1, ma2⟩ := zj7 ha ka
 obtain ⟨mb0, mb1, mb2⟩ := zj7 hb kb
 unfold zb7 zd8
 rw [ka, kb, ← hn]
 simp only [Bool.and_self, if_true]
 cases h : a.n with
 | true =>
  have e1 : (-mag a + -mag b).natAbs = mag a + mag b := by omega
  have e2 : -mag a + -mag b < 0 := by have := ma2 h; omega
  simp only [if_true, e1, decide_eq_true e2]
 | false =>
  have e1 : ((mag a + mag b).natAbs : Int) = mag a + mag b := by omega
  have e2 : ¬ mag a + mag b < 0 := by omega
  simp only [Bool.false_eq_true, if_false, e1, decide_eq_false e2]
theorem yqu {a b : Wd} (ha : wfU a) (hb : wfU b) (ka : wok a = true) (kb : wok b = true) (hn : ¬ a.n = b.n) : zb7 a b = (mkW (if mag a < mag b then b.n else a.n) (if mag a < mag b then mag b - mag a else mag a - mag b), true) := by
 obtain ⟨ma0, ma1, ma2⟩ := zj7 ha ka
 obtain ⟨mb0, mb1, mb2⟩ := zj7 hb kb
 have gen : ∀ (n : Bool) (m : Int), ((zd8 a + zd8 b).natAbs : Int) = m → m < 170141183460469231731687303715884105728 → (decide (zd8 a + zd8 b < 0) && decide (0 < m)) = (n && decide (0 < m)) → zb7 a b = (mkW n m, true) := by
  intro n m h1 h2 h3
  unfold zb7
  rw [ka, kb, h1]
  simp only [Bool.and_self, if_true, if_pos h2]
  unfold mkW
  rw [h3]
 unfold zd8 at gen
 cases h : a.n <;> cases h' : b.n <;> simp only [h, h'] at gen hn ⊢
 ·exact (hn trivial).elim
 ·by_cases hl : mag a < mag b
  ·rw [if_pos hl, if_pos hl]
   exact gen _ _ (by simp; omega) (by omega) (by rw [Bool.eq_iff_iff]; simp; omega)
  ·rw [if_neg hl, if_neg hl]
   exact gen _ _ (by simp; omega) (by omega) (by rw [Bool.eq_iff_iff]; simp; omega)
 ·by_cases hl : mag a < mag b
  ·rw [if_pos hl, if_pos hl]
   exact gen _ _ (by simp; omega) (by omega) (by rw [Bool.eq_iff_iff]; simp; omega)
  ·rw [if_neg hl, if_neg hl]
   exact gen _ _ (by simp; omega) (by omega) (by rw [Bool.eq_iff_iff]; simp; omega)
 ·exact (hn trivial).elim
theorem yqt (a b : Wd) (ha : wfU a) (hb : wfU b) (h : mag a + mag b < 340282366920938463463374607431768211456) :
  IntKind.u64.wrap (a.l + b.l) = (mag a + mag b) % 18446744073709551616 ∧ ((mag a + mag b) % 18446744073709551616 < a.l → IntKind.u64.wrap (IntKind.u64.wrap (a.h + b.h) + 1) = (mag a + mag b) / 18446744073709551616) ∧ (¬ (mag a + mag b) % 18446744073709551616 < a.l → IntKind.u64.wrap (a.h + b.h) = (mag a + mag b) / 18446744073709551616) := by
 obtain ⟨a0, a1, a2, a3⟩ := ha
 obtain ⟨b0, b1, b2, b3⟩ := hb
 unfold mag at *
 refine ⟨?_, fun h => ?_, fun h => ?_⟩ <;> simp only [zhq] at * <;> omega
theorem yda (a b : Wd) (ha : wfU a) (hb : wfU b) (h : mag b ≤ mag a) :
  IntKind.u64.wrap (a.l - b.l) = (mag a - mag b) % 18446744073709551616 ∧ (a.l < b.l → IntKind.u64.wrap (IntKind.u64.wrap (a.h - b.h) - 1) = (mag a - mag b) / 18446744073709551616) ∧ (¬ a.l < b.l → IntKind.u64.wrap (a.h - b.h) = (mag a - mag b) / 18446744073709551616) := by
 obtain ⟨a0, a1, a2, a3⟩ := ha
 obtain ⟨b0, b1, b2, b3⟩ := hb
 unfold mag at *
 refine ⟨?_, fun h => ?_, fun h => ?_⟩ <;> simp only [zhq] at * <;> omega
theorem ynd (a b : Wd) (ha : wfU a) (hb : wfU b) : RUN T zo3 [.agg (wd a), .agg (wd b)] = some ([.agg (wd (zb7 a b).1), bv (zb7 a b).2], []) := by
 refine zai z6u rfl ?_
 have ea := zpy a
 have eb := zpy b
 cases ka : wok a with
 | false =>
  have es : zb7 a b = (za1, false) := by unfold zb7; simp [ka]
  rw [es]; rw [ka] at ea
  simp only [wd] at ea
  simp [ze5, ze6, wd, ea, za1]
 | true =>
  cases kb : wok b with
  | false =>
   have es : zb7 a b = (za1, false) := by unfold zb7; simp [kb]
   rw [es]; rw [ka] at ea; rw [kb] at eb
   simp only [wd] at ea eb
   simp [ze5, ze6, wd, ea, eb, za1]
  | true =>
   obtain ⟨ma0, ma1, ma2⟩ := zj7 ha ka
   obtain ⟨mb0, mb1, mb2⟩ := zj7 hb kb
   rw [ka] at ea; rw [kb] at eb
   by_cases hn : a.n = b.n
   ·obtain ⟨f1, f2, f3⟩ := yqt a b ha hb (by omega)
    have f4 := zpy (mkW a.n (mag a + mag b))
    rw [z0x (by omega)] at f4
    rw [ytc ha hb ka kb hn]
    have e6 : mkW a.n (mag a + mag b) = ⟨a.n, (mag a + mag b) / 18446744073709551616, (mag a + mag b) % 18446744073709551616⟩ := by
     unfold mkW
     congr 1
     cases h : a.n with
     | false => rfl
     | true => have := ma2 h; simp; omega
    rw [e6] at f4 ⊢
    generalize hm : mag a + mag b = m at *
    generalize m / 18446744073709551616 = hi at *
    generalize m % 18446744073709551616 = lo at *
    simp only [wd] at ea eb f4 ⊢
    rw [hn] at ea f4
    by_cases hc : lo < a.l
    ·have f2 := f2 hc
     by_cases hk : m < 170141183460469231731687303715884105728
     ·rw [decide_eq_true hk] at f4
      rw [if_pos hk]
      simp [ze5, ze6, ea, eb, hn, hc, f1, f2, f4]
     ·rw [decide_eq_false hk] at f4
      rw [if_neg hk]
      simp [ze5, ze6, ea, eb, hn, hc, f1, f2, f4, za1]
    ·have f3 := f3 hc
     by_cases hk : m < 170141183460469231731687303715884105728
     ·rw [decide_eq_true hk] at f4
      rw [if_pos hk]
      simp [ze5, ze6, ea, eb, hn, hc, f1, f3, f4]
     ·rw [decide_eq_false hk] at f4
      rw [if_neg hk]
      simp [ze5, ze6, ea, eb, hn, hc, f1, f3, f4, za1]
   ·have ho := z0m a b
    rw [z9p ha hb] at ho
    rw [yqu ha hb ka kb hn]
    have hnb : (a.n == b.n) = false := by cases h : a.n <;> cases h' : b.n <;> simp [h, h'] at hn ⊢
    by_cases hl : mag a < mag b
    ·obtain ⟨f1, f2, f3⟩ := yda b a hb ha (by omega)
     have hz := zsg ⟨b.n, (mag b - mag a) / 18446744073709551616, (mag b - mag a) % 18446744073709551616⟩
     have hs : zb2 (mag a) (mag b) = -1 := by unfold zb2; rw [if_pos hl]
     rw [hs] at ho
     rw [if_pos hl, if_pos hl]
     have e6 : mkW b.n (mag b - mag a) = ⟨b.n, (mag b - mag a) / 18446744073709551616, (mag b - mag a) % 18446744073709551616⟩ := by
      unfold mkW
      congr 1
      rw [decide_eq_true (show 0 < mag b - mag a by omega), Bool.and_true]
     have e7 : (decide ((mag b - mag a) / 18446744073709551616 = 0) && decide ((mag b - mag a) % 18446744073709551616 = 0)) = false := by
      rw [Bool.eq_false_iff]; simp; omega
     simp only at hz
     rw [e7] at hz
     rw [e6]
     clear e6 e7
     generalize mag b - mag a = m at *
     generalize m / 18446744073709551616 = hi at *
     generalize m % 18446744073709551616 = lo at *
     simp only [wd] at ea eb ho hz ⊢
     by_cases hc : b.l < a.l
     ·have f2 := f2 hc
      simp [ze5, ze6, ea, eb, hnb, ho, hc, f1, f2, hz]
     ·have f3 := f3 hc
      simp [ze5, ze6, ea, eb, hnb, ho, hc, f1, f3, hz]
    ·obtain ⟨f1, f2, f3⟩ := yda a b ha hb (by omega)
     have hz := zsg ⟨a.n, (mag a - mag b) / 18446744073709551616, (mag a - mag b) % 18446744073709551616⟩
     have hs : ¬ zb2 (mag a) (mag b) < 0 := by unfold zb2; rw [if_neg hl]; split <;> omega
     rw [if_neg hl, if_neg hl]
     generalize zb2 (mag a) (mag b) = sg at *
     by_cases h0 : mag a - mag b = 0
     ·have e6 : mkW a.n (mag a - mag b) = ⟨false, (mag a - mag b) / 18446744073709551616, (mag a - mag b) % 18446744073709551616⟩ := by
       unfold mkW
       congr 1
       simp [h0]
      have e7 : (decide ((mag a - mag b) / 18446744073709551616 = 0) && decide ((mag a - mag b) % 18446744073709551616 = 0)) = true := by
       simp; omega
      simp only at hz
      rw [e7] at hz
      rw [e6]
      clear e6 e7 h0
      generalize mag a - mag b = m at *
      generalize m / 18446744073709551616 = hi at *
      generalize m % 18446744073709551616 = lo at *
      simp only [wd] at ea eb ho hz ⊢
      by_cases hc : a.l < b.l
      ·have f2 := f2 hc
       simp [ze5, ze6, ea, eb, hnb, ho, hs, hc, f1, f2, hz]
      ·have f3 := f3 hc
       simp [ze5, ze6, ea, eb, hnb, ho, hs, hc, f1, f3, hz]
     ·have e6 : mkW a.n (mag a - mag b) = ⟨a.n, (mag a - mag b) / 18446744073709551616, (mag a - mag b) % 18446744073709551616⟩ := by
       unfold mkW
       congr 1
       rw [decide_eq_true (show 0 < mag a - mag b by omega), Bool.and_true]
      have e7 : (decide ((mag a - mag b) / 18446744073709551616 = 0) && decide ((mag a - mag b) % 18446744073709551616 = 0)) = false := by
       rw [Bool.eq_false_iff]; simp; omega
      simp only at hz
      rw [e7] at hz
      rw [e6]
      clear e6 e7 h0
      generalize mag a - mag b = m at *
      generalize m / 18446744073709551616 = hi at *
      generalize m % 18446744073709551616 = lo at *
      simp only [wd] at ea eb ho hz ⊢
      by_cases hc : a.l < b.l
      ·have f2 := f2 hc
       simp [ze5, ze6, ea, eb, hnb, ho, hs, hc, f1, f2, hz]
      ·have f3 := f3 hc
       simp [ze5, ze6, ea, eb, hnb, ho, hs, hc, f1, f3, hz]
theorem ypu {a b : Int} (ha : inI a) (hb : inI b) : wfU (zdz a b) := by
 obtain ⟨m0, m1⟩ := z89 ha hb
 exact z2v m0 (by omega)
def zcy (w : Wd) (k : Int) : Wd × Bool := if wok w = true ∧ mag w * k.natAbs < 170141183460469231731687303715884105728 then (mkW (w.n != decide (k < 0)) (mag w * k.natAbs), true) else (za1, false)
theorem yc9 (w : Wd) (k : Int) (hw : wfU w) (hk : inI k) : ∃ p q : Int, w.h * k.natAbs = p ∧ w.l * k.natAbs = q ∧ 0 ≤ p ∧ 0 ≤ q ∧ q ≤ 170141183460469231722463931679029329920 ∧ mag w * k.natAbs = p * 18446744073709551616 + q := by
 obtain ⟨a0, a1, a2, a3⟩ := hw
 obtain ⟨k0, k1⟩ := zip hk
 refine ⟨_, _, rfl, rfl, Int.mul_nonneg a0 k0, Int.mul_nonneg a2 k0, Int.le_trans (Int.mul_le_mul (show w.l ≤ 18446744073709551615 by omega) k1 k0 (by decide)) (by decide), ?_⟩
 unfold mag
 rw [Int.add_mul, Int.mul_assoc, Int.mul_comm 18446744073709551616, ← Int.mul_assoc]
theorem z9u (w : Wd) (k : Int) (ka : wok w = true) (p q : Int) (p0 : 0 ≤ p) (q0 : 0 ≤ q) (q1 : q ≤ 170141183460469231722463931679029329920) (hP : mag w * k.natAbs = p * 18446744073709551616 + q) :
  (zcy w k = (za1, false) ∧ (0 < p / 18446744073709551616 ∨ 0 < (p % 18446744073709551616 + q / 18446744073709551616) / 18446744073709551616 ∨ wok ⟨(w.n != decide (k < 0)) && (decide (0 < (p % 18446744073709551616 + q / 18446744073709551616) % 18446744073709551616) || decide (0 < q % 18446744073709551616)), (p % 18446744073709551616 + q / 18446744073709551616) % 18446744073709551616, q % 18446744073709551616⟩ = false)) ∨
  (zcy w k = (⟨(w.n != decide (k < 0)) && (decide (0 < (p % 18446744073709551616 + q / 18446744073709551616) % 18446744073709551616) || decide (0 < q % 18446744073709551616)), (p % 18446744073709551616 + q / 18446744073709551616) % 18446744073709551616, q % 18446744073709551616⟩, true) ∧ ¬ 0 < p / 18446744073709551616 ∧ ¬ 0 < (p % 18446744073709551616 + q / 18446744073709551616) / 18446744073709551616 ∧ wok ⟨(w.n != decide (k < 0)) && (decide (0 < (p % 18446744073709551616 + q / 18446744073709551616) % 18446744073709551616) || decide (0 < q % 18446744073709551616)), (p % 18446744073709551616 + q / 18446744073709551616) % 18446744073709551616, q % 18446744073709551616⟩ = true) := by
 by_cases hk : p * 18446744073709551616 + q < 170141183460469231731687303715884105728
 ·right
  have e : (⟨(w.n != decide (k < 0)) && (decide (0 < (p % 18446744073709551616 + q / 18446744073709551616) % 18446744073709551616) || decide (0 < q % 18446744073709551616)), (p % 18446744073709551616 + q / 18446744073709551616) % 18446744073709551616, q % 18446744073709551616⟩ : Wd) = mkW (w.n != decide (k < 0)) (p * 18446744073709551616 + q) := by
   unfold mkW
   congr 1
   ·congr 1
    rw [Bool.eq_iff_iff]; simp; omega
   ·omega
   ·omega
  rw [e, z0x (by omega)]
  refine ⟨?_, by omega, by omega, decide_eq_true hk⟩
  unfold zcy
  rw [hP, if_pos ⟨ka, hk⟩]
 ·left
  refine ⟨?_, ?_⟩
  ·unfold zcy
   rw [hP, if_neg (fun h => hk h.2)]
  ·by_cases h1 : 0 < p / 18446744073709551616
   ·exact .inl h1
   ·by_cases h2 : 0 < (p % 18446744073709551616 + q / 18446744073709551616) / 18446744073709551616
    ·exact .inr (.inl h2)
    ·refine .inr (.inr ?_)
     unfold wok
     rw [decide_eq_false (show ¬ (p % 18446744073709551616 + q / 18446744073709551616) % 18446744073709551616 < 9223372036854775808 by omega)]
     rfl
set_option maxHeartbeats 1000000 in
theorem z7w (w : Wd) (k : Int) (hw : wfU w) (hk : inI k) : RUN T zlf [.agg (wd w), iv k] = some ([.agg (wd (zcy w k).1), bv (zcy w k).2], []) := by
 refine zai z6p rfl ?_
 have ea := zpx w
 cases ka : wok w with
 | false =>
  have es : zcy w k = (za1, false) := by unfold zcy; simp [ka]
  rw [es]; rw [ka] at ea
  simp only [wd] at ea
  simp [zgt, zgu, wd, ea, za1]
 | true =>
  rw [ka] at ea
  obtain ⟨a0, a1, a2, a3⟩ := hw
  obtain ⟨k0, k1⟩ := zip hk
  have e1 := z0j k hk
  have e2 := z0h w.h k.natAbs a0 a1 k0 (by omega)
  have e3 := z0h w.l k.natAbs a2 a3 k0 (by omega)
  obtain ⟨p, q, hp, hq, p0, q0, q1, hP⟩ := yc9 w k ⟨a0, a1, a2, a3⟩ hk
  rw [hp] at e2
  rw [hq] at e3
  have e4 := z1h z0d (x := p % 18446744073709551616) (y := q / 18446744073709551616) (c := 0) (by omega) (by omega) (by decide) (by decide)
  rw [Int.add_zero] at e4
  have e5 := zsf (w.n != decide (k < 0)) ((p % 18446744073709551616 + q / 18446744073709551616) % 18446744073709551616) (q % 18446744073709551616)
  have e6 := zpx ⟨(w.n != decide (k < 0)) && (decide (0 < (p % 18446744073709551616 + q / 18446744073709551616) % 18446744073709551616) || decide (0 < q % 18446744073709551616)), (p % 18446744073709551616 + q / 18446744073709551616) % 18446744073709551616, q % 18446744073709551616⟩
  have key := z9u w k ka p q p0 q0 q1 hP
  generalize ((w.n != decide (k < 0)) && (decide (0 < (p % 18446744073709551616 + q / 18446744073709551616) % 18446744073709551616) || decide (0 < q % 18446744073709551616))) = sn at *
  generalize p / 18446744073709551616 = P1 at *
  generalize p % 18446744073709551616 = P2 at *
  generalize q / 18446744073709551616 = Q1 at *
  generalize q % 18446744073709551616 = Q2 at *
  generalize (P2 + Q1) / 18446744073709551616 = S1 at *
  generalize (P2 + Q1) % 18446744073709551616 = S2 at *
  generalize zcy w k = r at *
  generalize wok ⟨sn, S2, Q2⟩ = o at *
  obtain ⟨wn, wh, wl⟩ := w
  simp only [wd] at ea e5 e6 ⊢
  simp only at e2 e3
  rcases key with ⟨rfl, c | c | rfl⟩ | ⟨rfl, c1, c2, rfl⟩
  ·cases wn <;> by_cases sb : k < 0 <;> simp [sb] at e5 <;> simp [zgt, zgu, ea, e1, e2, e3, e4, e5, sb, c, za1]
  ·by_cases c' : 0 < P1
   ·cases wn <;> by_cases sb : k < 0 <;> simp [sb] at e5 <;> simp [zgt, zgu, ea, e1, e2, e3, e4, e5, sb, c', za1]
   ·cases wn <;> by_cases sb : k < 0 <;> simp [sb] at e5 <;> simp [zgt, zgu, ea, e1, e2, e3, e4, e5, sb, c', c, za1]
  ·by_cases c' : 0 < P1
   ·cases wn <;> by_cases sb : k < 0 <;> simp [sb] at e5 <;> simp [zgt, zgu, ea, e1, e2, e3, e4, e5, sb, c', za1]
   ·by_cases c : 0 < S1
    ·cases wn <;> by_cases sb : k < 0 <;> simp [sb] at e5 <;> simp [zgt, zgu, ea, e1, e2, e3, e4, e5, sb, c', c, za1]
    ·cases wn <;> by_cases sb : k < 0 <;> simp [sb] at e5 <;> simp [zgt, zgu, ea, e1, e2, e3, e4, e5, e6, sb, c', c, za1]
  ·cases wn <;> by_cases sb : k < 0 <;> simp [sb] at e5 <;> simp [zgt, zgu, ea, e1, e2, e3, e4, e5, e6, sb, c1, c2]
set_option maxHeartbeats 1000000 in
theorem z7x (w : Wd) (k : Int) (hw : wfU w) (hk : inI k) : RUN T zlh [.agg (wd w), iv k] = some ([.agg (wd (zcy w k).1), bv (zcy w k).2], []) := by
 refine zai z6x rfl ?_
 have ea := zpy w
 cases ka : wok w with
 | false =>
  have es : zcy w k = (za1, false) := by unfold zcy; simp [ka]
  rw [es]; rw [ka] at ea
  simp only [wd] at ea
  simp [zgv, zgw, wd, ea, za1]
 | true =>
  rw [ka] at ea
  obtain ⟨a0, a1, a2, a3⟩ := hw
  obtain ⟨k0, k1⟩ := zip hk
  have e1 := z0k k hk
  have e2 := z0i w.h k.natAbs a0 a1 k0 (by omega)
  have e3 := z0i w.l k.natAbs a2 a3 k0 (by omega)
  obtain ⟨p, q, hp, hq, p0, q0, q1, hP⟩ := yc9 w k ⟨a0, a1, a2, a3⟩ hk
  rw [hp] at e2
  rw [hq] at e3
  have e4 := zsg ⟨w.n != decide (k < 0), (p % 18446744073709551616 + q / 18446744073709551616) % 18446744073709551616, q % 18446744073709551616⟩
  have e5 : (decide (0 < (p % 18446744073709551616 + q / 18446744073709551616) % 18446744073709551616) || decide (0 < q % 18446744073709551616)) = !(decide ((p % 18446744073709551616 + q / 18446744073709551616) % 18446744073709551616 = 0) && decide (q % 18446744073709551616 = 0)) := by
   rw [Bool.eq_iff_iff]; simp; omega
  have e6 := zpy ⟨(w.n != decide (k < 0)) && (decide (0 < (p % 18446744073709551616 + q / 18446744073709551616) % 18446744073709551616) || decide (0 < q % 18446744073709551616)), (p % 18446744073709551616 + q / 18446744073709551616) % 18446744073709551616, q % 18446744073709551616⟩
  have e7 : 0 < (p % 18446744073709551616 + q / 18446744073709551616) / 18446744073709551616 ↔ (p % 18446744073709551616 + q / 18446744073709551616) % 18446744073709551616 < p % 18446744073709551616 := by omega
  have e8 := zhq (p % 18446744073709551616 + q / 18446744073709551616)
  have key := z9u w k ka p q p0 q0 q1 hP
  rw [e7] at key
  rw [e5] at key e6
  clear e7 e5
  simp only at e4
  generalize (decide ((p % 18446744073709551616 + q / 18446744073709551616) % 18446744073709551616 = 0) && decide (q % 18446744073709551616 = 0)) = z at *
  generalize p / 18446744073709551616 = P1 at *
  generalize p % 18446744073709551616 = P2 at *
  generalize q / 18446744073709551616 = Q1 at *
  generalize q % 18446744073709551616 = Q2 at *
  generalize (P2 + Q1) % 18446744073709551616 = S2 at *
  generalize zcy w k = r at *
  generalize hsn : ((w.n != decide (k < 0)) && !z) = sn at *
  generalize wok ⟨sn, S2, Q2⟩ = o at *
  obtain ⟨wn, wh, wl⟩ := w
  simp only [wd] at ea e4 e6 ⊢
  simp only at e2 e3 hsn
  rcases key with ⟨rfl, c | c | rfl⟩ | ⟨rfl, c1, c2, rfl⟩
  ·cases wn <;> by_cases sb : k < 0 <;> cases z <;> simp [sb] at e4 <;> simp [zgv, zgw, ea, e1, e2, e3, e4, e8, sb, c, za1]
  ·by_cases c' : 0 < P1
   ·cases wn <;> by_cases sb : k < 0 <;> cases z <;> simp [sb] at e4 <;> simp [zgv, zgw, ea, e1, e2, e3, e4, e8, sb, c', za1]
   ·cases wn <;> by_cases sb : k < 0 <;> cases z <;> simp [sb] at e4 <;> simp [zgv, zgw, ea, e1, e2, e3, e4, e8, sb, c', c, za1]
  ·by_cases c' : 0 < P1
   ·cases wn <;> by_cases sb : k < 0 <;> cases z <;> simp [sb] at e4 <;> simp [zgv, zgw, ea, e1, e2, e3, e4, e8, sb, c', za1]
   ·by_cases c : S2 < P2
    ·cases wn <;> by_cases sb : k < 0 <;> cases z <;> simp [sb] at e4 <;> simp [zgv, zgw, ea, e1, e2, e3, e4, e8, sb, c', c, za1]
    ·cases wn <;> by_cases sb : k < 0 <;> cases z <;> simp [sb] at e4 hsn <;> subst hsn <;> simp [zgv, zgw, ea, e1, e2, e3, e4, e6, e8, sb, c', c, za1]
  ·cases wn <;> by_cases sb : k < 0 <;> cases z <;> simp [sb] at e4 hsn <;> subst hsn <;> simp [zgv, zgw, ea, e1, e2, e3, e4, e6, e8, sb, c1, c2]
def zed (w : Wd) : Bool := w.n && !(decide (w.h = 0) && decide (w.l = 0))
def zi7 (a b : Wd) : Int := if zed a = true then (if zed b = true then zee b a else -1) else (if zed b = true then 1 else zee a b)
theorem yne (a b : Wd) : RUN T zou [.agg (wd a), .agg (wd b)] = some ([iv (zi7 a b)], []) := by
 refine zai z6a rfl ?_
 have e1 := zsg a
 have e2 := zsg b
 have e3 := z0m a b
 have e4 := z0m b a
 unfold zi7 zed
 generalize zee a b = x at *
 generalize zee b a = y at *
 generalize (decide (a.h = 0) && decide (a.l = 0)) = z at *
 generalize (decide (b.h = 0) && decide (b.l = 0)) = z' at *
 obtain ⟨an, ah, al⟩ := a
 obtain ⟨bn, bh, bl⟩ := b
 simp only [wd] at e1 e2 e3 e4 ⊢
 cases an <;> cases bn <;> cases z <;> cases z' <;> simp [zxh, zxi, e1, e2, e3, e4]
def yru (t : List Nd) (k : Nat) (f c a b : Int) : List Nd := t.set k ⟨f, c, t.length, t.length + 1, 0⟩ ++ [⟨-1, 0, 0, 0, a⟩, ⟨-1, 0, 0, 0, b⟩]
def PRw (n : Nat) (v : PV) : Prop := ∃ l : List Int, v = .own 1 (zac l) ∧ l.length = n ∧ ∀ x ∈ l, inI x
theorem z9o (l : List ByteArray) : zct (zc8 l) = true := by simp [zct, zc8]
theorem zs2 (L : List (List Int)) (r : List Int) : rws true L ++ [[.own 1 (zac r)]] = rws true (L ++ [r]) := by simp [rws, cel]
theorem zy8 (L : List (List Int)) (i : Nat) (r : List Int) : (rws true L).set i [.own 1 (zac r)] = rws true (L.set i r) := by simp [rws, cel]
def pos (x : Int) (l : List Int) : Nat → Nat
 | 0 => 0
 | k + 1 => if x < l.getD k 0 then pos x l k else k + 1
def ins (l : List Int) (x : Int) : List Int := l.take (pos x l l.length) ++ x :: l.drop (pos x l l.length)
def zqr (l : List Int) : List Int := l.foldl ins []
theorem z9a (x : Int) (l : List Int) : ∀ k, pos x l k ≤ k
 | 0 => by simp [pos]
 | k + 1 => by
  have := z9a x l k
  simp only [pos]; split <;> omega
theorem yvl (l : List Int) (x : Int) : (ins l x).length = l.length + 1 := by
 have := z9a x l l.length
 unfold ins
 simp; omega
theorem yt2 {l : List Int} {i : Nat} {x : Int} (h : l[i]? = some x) : (l.take (i + 1)).foldl ins [] = ins ((l.take i).foldl ins []) x := by
 rw [List.take_succ, h]
 simp [List.foldl_append]
theorem yti (l : List Int) : ∀ a : List Int, (l.foldl ins a).length = a.length + l.length := by
 induction l with
 | nil => intro a; rfl
 | cons x l ih => intro a; simp only [List.foldl_cons, ih, yvl, List.length_cons]; omega
theorem ysi (a : List Int) (p : Nat) : List.take (a.length - p) (List.drop p (zac a)) = zac (a.drop p) := by
 rw [List.take_of_length_le (by simp)]
 simp [zac, List.map_drop]
theorem yuo (a : List Int) (p : Nat) (h : p ≤ a.length) : (if p = a.length then zac a else List.take p (zac a)) = zac (a.take p) := by
 split
 ·rename_i e; subst e; rw [List.take_length]
 ·simp [zac, List.map_take]
theorem yb3 (x : Int) (l : List Int) (k : Nat) : pos x l (k + 1) = if x < l.getD k 0 then pos x l k else k + 1 := rfl
def zer (x : Int) (l : List Int) (k P : Nat) : Prop := pos x l k = P
theorem zer.on {x y : Int} {l : List Int} {k P : Nat} (h : zer x l (k + 1) P) (hy : l[k]? = some y) (hc : x < y) : zer x l k P := by
 unfold zer at *
 rw [yb3] at h
 simp only [List.getD, hy, Option.getD_some, if_pos hc] at h
 exact h
theorem zer.off {x y : Int} {l : List Int} {k P : Nat} (h : zer x l (k + 1) P) (hy : l[k]? = some y) (hc : ¬ x < y) : k + 1 = P := by
 unfold zer at *
 rw [yb3] at h
 simp only [List.getD, hy, Option.getD_some, if_neg hc] at h
 exact h
theorem zer.ex (x : Int) (l : List Int) (k : Nat) : ∃ P, zer x l k P := ⟨_, rfl⟩
theorem zer.z {x : Int} {l : List Int} {P : Nat} (h : zer x l 0 P) : 0 = P := h
theorem ydy {x : Int} {l : List Int} {P : Nat} (h : zer x l l.length P) : ins l x = l.take P ++ x :: l.drop P := by unfold zer at h; unfold ins; rw [h]
attribute [irreducible] pos ins zer
set_option maxHeartbeats 800000 in
theorem z7y (l : List Int) (hl : l.length ≤ 1048576) : RUN T zlk [.sl 1 (zac l)] = some ([.own 1 (zac (zqr l))], []) := by
 refine zai z62 rfl ?_
 have hr0 : zam 8 0 = true := by decide
 simp [-getElem?_pos, zyd, zye, hr0]
 refine za3 (fun n st => ∃ (i o e : Nat) (a : List Int), i + n = l.length ∧ a = (l.take i).foldl ins [] ∧ a.length = i ∧ st.V 0 = .sl 1 (zac l) ∧ st.V 3 = .ref o none e 0 a.length ∧ st.V 4 = iv i ∧ o < st.nx ∧ st.S o = some (.row 1 (zac a))) ?_ l.length _ ⟨0, 0, 0, [], by simp [zac]⟩
 rintro n st ⟨i, o, e, a, hi, ha, hal, v0, v3, v4, hox, hSo⟩
 simp [z3j, v0, v4]
 obtain ⟨f1, f2, f3, f4⟩ := fr hox
 refine zdi (fun h => ?_) (fun h => ?_)
 ·simp at h
  obtain ⟨x, hx⟩ : ∃ x, l[i]? = some x := ⟨_, List.getElem?_eq_getElem h⟩
  have hx' := zbi hx
  have hws := wS h (by omega : l.length ≤ 9223372036854775807)
  have hft := yt2 hx
  rw [← ha] at hft
  obtain ⟨P, hP⟩ : ∃ P, zer x a a.length P := zer.ex x a a.length
  simp [-getElem?_pos, v0, v3, v4, hSo]
  refine za3 (fun n' s => ∃ j : Nat, n' = j ∧ j ≤ a.length ∧ zer x a j P ∧ s.V 0 = .sl 1 (zac l) ∧ s.V 3 = .ref o none e 0 a.length ∧ s.V 4 = iv i ∧ s.V 5 = iv j ∧ s.nx = st.nx ∧ s.S o = some (.row 1 (zac a))) ?_ a.length _ ⟨a.length, by omega, by omega, hP, by simp [v0], by simp [v3], by simp [v4], by simp, by simp, by simp [hSo]⟩
  rintro n' s ⟨j, hjn, hj, hp, u0, u3, u4, u5, unx, hSo'⟩
  clear v0 v3 v4 hSo
  obtain ⟨g1, g2, g3, g4⟩ := fr (show o < s.nx by omega)
  obtain ⟨_, _, g5, g6⟩ := fr (show o < s.nx + 1 by omega)
  obtain ⟨_, _, g7, g8⟩ := fr (show o < s.nx + 2 by omega)
  have hcr : ∀ c : Nat, c ≤ a.length + 1 → zam 8 c = true := fun c hc => zd4 (by omega)
  have hr1 : zam 8 1 = true := by decide
  by_cases h0 : 0 < j
  ·obtain ⟨q, rfl⟩ : ∃ q : Nat, j = q + 1 := ⟨j - 1, by omega⟩
   have hw := w64 (x := (q : Int)) (by omega) (by omega)
   obtain ⟨y, hy⟩ : ∃ y, a[q]? = some y := ⟨_, List.getElem?_eq_getElem (by omega)⟩
   have hy' := zbi hy
   have hqa : q < a.length := by omega
   by_cases hc : x < y
   ·have hp' := hp.on hy hc
    simp [-getElem?_pos, zyc, u0, u3, u4, u5, hSo', hx', h, h0, hw, hy', hqa, hc]
    exact zaq q (by omega) ⟨q, rfl, by omega, hp', by simp [u0], by simp [u3], by simp [u4], by simp, by simp [unx], by simp [hSo']⟩
   ·have hp' := hp.off hy hc
    have hk1 := hcr (q + 1) (by omega)
    have hk2 := zd4 (n := q + 1 + 1) (by omega)
    have hk3 := hcr (a.length + 1) (by omega)
    have hcut := yuo a (q + 1) (by omega)
    have hal2 : ∀ b : List Int, zct (zac b) = true := z9j
    have hmin : (a.take (q + 1)).length = q + 1 := by simp; omega
    have hdr := ysi a (q + 1)
    have hmd : (a.drop (q + 1)).length = a.length - (q + 1) := by simp
    have hsn := zc9 (a.take (q + 1)) x
    have hap := ypx (a.take (q + 1) ++ [x]) (a.drop (q + 1))
    have hk4 := zd4 (n := q + 2 + (a.length - (q + 1))) (by omega)
    have hin := ydy hP
    rw [← hp'] at hin
    have hlen2 : q + 2 + (a.length - (q + 1)) = a.length + 1 := by omega
    simp [-getElem?_pos, zyc, u0, u3, u4, u5, hSo', hx', h, h0, hw, hy', hqa, hc, hj, g1, g2, g3, g4, g5, g6, g7, g8, hr1, hk1, hk2, hk3, hcut, hal2, hmin, hdr, hmd, hsn, hap, hk4, hlen2]
    refine zaq (n - 1) (by omega) ⟨i + 1, s.nx + 2 + 2, s.ep, a.take (q + 1) ++ x :: a.drop (q + 1), by omega, by rw [hft, hin], by simp; omega, by simp [u0], by simp; omega, by simp [hws], by simp, by simp⟩
  ·have h0' : j = 0 := by omega
   subst h0'
   have hp' := hp.z
   have hk0 := hcr 0 (by omega)
   have hk3 := hcr (a.length + 1) (by omega)
   have hcut : (if 0 = a.length then zac a else []) = ([] : List (List PV)) := by
    split
    ·rename_i e
     have : a = [] := List.length_eq_zero_iff.mp e.symm
     subst this; rfl
    ·rfl
   have hal2 : ∀ b : List Int, zct (zac b) = true := z9j
   have hin := ydy hP
   rw [← hp'] at hin
   have hcons : [iv x] :: zac a = zac (x :: a) := rfl
   have hk4 := hcr (1 + a.length) (by omega)
   have hk5 := hcr (a.length + 1) (by omega)
   simp [-getElem?_pos, zyc, u0, u3, u4, u5, hSo', hx', h, g1, g2, g3, g4, g5, g6, g7, g8, hr1, hk0, hk3, hcut, hal2, hcons, hk4, hk5]
   refine zaq (n - 1) (by omega) ⟨i + 1, s.nx + 2 + 2, s.ep, x :: a, by omega, by rw [hft, hin]; simp, by (try simp); try omega, by simp [u0], by (try simp); try omega, by simp [hws], by simp, by simp⟩
 ·simp at h
  have e1 : i = l.length := by omega
  rw [e1, List.take_length] at ha
  simp [-getElem?_pos, v3, hSo, zqr, ← ha]
structure Ta where
 ns : List ByteArray
 nm : ByteArray
 rw : List (List Int)
 lb : List Int
abbrev taS (q : Bool) (t : Ta) : PV := .agg [.sl 1 (zc8 t.ns), .v (.string t.nm), .sl 1 (rws q t.rw), .sl 1 (zac t.lb)]
abbrev taO (t : Ta) : PV := .agg [.own 1 (zc8 t.ns), .v (.string t.nm), .own 1 (rws true t.rw), .own 1 (zac t.lb)]
structure TaL (n : Nat) (t : Ta) : Prop where
 ns : t.ns.length ≤ n
 ss : ∀ x ∈ t.ns, x.size ≤ n
 nm : t.nm.size ≤ n
 rw : t.rw.length ≤ n
 rr : ∀ l ∈ t.rw, l.length ≤ n
 lb : t.lb.length ≤ n
structure Sl where
 n : Int
 g : Int
deriving DecidableEq
def slc (x : Sl) : List PV := [iv x.n, iv x.g]
def za7 (l : List Sl) : List (List PV) := l.map slc
@[simp] theorem y9f (l : List Sl) : (za7 l).length = l.length := by simp [za7]
theorem zkj {l : List Sl} {i : Nat} {x : Sl} (h : l[i]? = some x) : (za7 l)[i]? = some [iv x.n, iv x.g] := by simp [za7, h, slc]
theorem yd1 (l : List Sl) (i : Nat) (a b : Int) : (za7 l).set i [iv a, iv b] = za7 (l.set i ⟨a, b⟩) := by simp [za7, List.map_set, slc]
def slI (x : Sl) : Prop := inI x.n ∧ inI x.g
def zba (a b : Sl) : Sl × Bool := if ((adi a.n b.n).2 && (adi a.g b.g).2) = true then (⟨(adi a.n b.n).1, (adi a.g b.g).1⟩, true) else (⟨0, 0⟩, false)
theorem zj5 {a b : Sl} (h : slI a) : slI (zba a b).1 := by
 unfold zba
 split
 ·exact ⟨ya1 h.1, ya1 h.2⟩
 ·unfold slI inI; simp
theorem z0n (a b : Sl) (ha : slI a) (hb : slI b) : RUN T zjl [.agg (slc a), .agg (slc b)] = some ([.agg (slc (zba a b).1), bv (zba a b).2], []) := by
 refine zai z5t rfl ?_
 have e1 := z7m a.n b.n ha.1 hb.1
 have e2 := z7m a.g b.g ha.2 hb.2
 unfold zba
 generalize adi a.n b.n = x at *
 generalize adi a.g b.g = y at *
 obtain ⟨x, xb⟩ := x
 obtain ⟨y, yb⟩ := y
 simp only at e1 e2 ⊢
 cases xb <;> cases yb <;> simp [zwt, zwu, e1, e2, slc]
theorem z0o (a b : Sl) (ha : slI a) (hb : slI b) : RUN T zjm [.agg (slc a), .agg (slc b)] = some ([.agg (slc (zba a b).1), bv (zba a b).2], []) := by
 refine zai z5w rfl ?_
 have e1 := z7n a.n b.n ha.1 hb.1
 have e2 := z7n a.g b.g ha.2 hb.2
 unfold zba
 generalize adi a.n b.n = x at *
 generalize adi a.g b.g = y at *
 obtain ⟨x, xb⟩ := x
 obtain ⟨y, yb⟩ := y
 simp only at e1 e2 ⊢
 cases xb <;> cases yb <;> simp [zwx, zwy, e1, e2, slc]
def atI {α : Type} (l : List α) (i : Int) : Option α := if 0 ≤ i then l[i.toNat]? else none
theorem zfr {α : Type} {l : List α} {i : Int} {x : α} (h : atI l i = some x) : ∃ j : Nat, i = j ∧ l[j]? = some x ∧ j < l.length := by
 unfold atI at h
 split at h
 ·refine ⟨i.toNat, by omega, h, ?_⟩
  rcases Nat.lt_or_ge i.toNat l.length with h' | h'
  ·exact h'
  ·rw [List.getElem?_eq_none (by omega)] at h; cases h
 ·cases h
theorem ziy {α : Type} {l : List α} {i : Int} (h : atI l i = none) : i < 0 ∨ (l.length : Int) ≤ i := by
 unfold atI at h
 split at h
 ·right
  rcases Nat.lt_or_ge i.toNat l.length with h' | h'
  ·rw [List.getElem?_eq_getElem h'] at h; cases h
  ·omega
 ·omega
def zb3 (b g : List Int) : List Int → List Sl → Option (List Sl)
 | [], h => some h
 | r :: rs, h => match atI b r, atI g r with
  | some x, some y => match atI h x with
   | some s => if (zba s ⟨1, y⟩).2 = true then zb3 b g rs (h.set x.toNat (zba s ⟨1, y⟩).1) else none
   | none => none
  | _, _ => none
def zb8 (b g rows : List Int) (k : Int) : List Sl × Bool := if zaj k 1 8 = true then match zb3 b g rows (List.replicate k.toNat ⟨0, 0⟩) with
  | some h => (h, true)
  | none => ([], false)
 else ([], false)
theorem ycb (n : Nat) : za7 (List.replicate n ⟨0, 0⟩) = List.replicate n [iv 0, iv 0] := by simp [za7, slc]
set_option maxHeartbeats 2000000 in
theorem ynf (b g rows : List Int) (k : Int) (hb : b.length ≤ 1048576) (hg : g.length ≤ 1048576) (hr : rows.length ≤ 1048576) (hgi : ∀ x ∈ g, inI x) : RUN T zn4 [.sl 1 (zac b), .sl 1 (zac g), .sl 1 (zac rows), iv k] = some ([.own 2 (za7 (zb8 b g rows k).1), bv (zb8 b g rows k).2], []) := by
 refine zai z4y rfl ?_
 cases hk : zaj k 1 8 with
 | false =>
  have e := zdw k 1 8
  rw [hk] at e
  have e2 : zb8 b g rows k = ([], false) := by unfold zb8; rw [hk]; rfl
  rw [e2]
  simp [-getElem?_pos, zrl, zrm, -zc0, e, za7]
 | true =>
  have e := zdw k 1 8
  rw [hk] at e
  have hk' := zbe.mp hk
  obtain ⟨kn, rfl⟩ : ∃ n : Nat, k = n := ⟨k.toNat, by omega⟩
  have hro : zam 16 kn = true := by simp [zam]; omega
  obtain ⟨R, hR⟩ : ∃ R, R = zb8 b g rows kn := ⟨_, rfl⟩
  have hR' : R = match zb3 b g rows (List.replicate kn ⟨0, 0⟩) with
   | some h => (h, true)
   | none => ([], false) := by rw [hR]; unfold zb8; rw [if_pos hk]; simp
  rw [← hR]
  clear hR
  simp [-getElem?_pos, zrl, zrm, -zc0, e, hro]
  refine za3 (fun n st => ∃ (i : Nat) (h : List Sl), i + n = rows.length ∧ h.length = kn ∧ (∀ s ∈ h, slI s) ∧ zb3 b g (rows.drop i) h = zb3 b g rows (List.replicate kn ⟨0, 0⟩) ∧ st.V 0 = .sl 1 (zac b) ∧ st.V 1 = .sl 1 (zac g) ∧ st.V 3 = iv kn ∧ st.V 10 = .ref 0 none 0 0 kn ∧ st.V 20 = .sl 1 (zac rows) ∧ st.V 21 = iv rows.length ∧ st.V 22 = iv i ∧ 0 < st.nx ∧ st.S 0 = some (.row 2 (za7 h))) ?_ rows.length _ ⟨0, List.replicate kn ⟨0, 0⟩, by omega, by simp, ?_, by simp, by simp, by simp, by simp, by simp, by simp, by simp, by simp, by simp, by simp [ycb]⟩
  ·rintro n st ⟨i, h, hi, hhl, hhi, hh, v0, v1, v3, v10, v20, v21, v22, hnx, hS⟩
   obtain ⟨z1, z2, z3, z4⟩ := fr hnx
   by_cases hlt : i < rows.length
   ·obtain ⟨r, hrr⟩ : ∃ r, rows[i]? = some r := ⟨_, List.getElem?_eq_getElem hlt⟩
    have hr' := zbi hrr
    have hws := wS hlt (by omega : rows.length ≤ 9223372036854775807)
    have w1 := w64 (x := min (b.length : Int) g.length - 1) (by omega) (by omega)
    have w2 := w64 (x := (kn : Int) - 1) (by omega) (by omega)
    have e1 := zdw r 0 (min (b.length : Int) g.length - 1)
    rw [zfx hrr, zb3] at hh
    cases hbx : atI b r with
    | none =>
     rw [hbx] at hh
     have hn := ziy hbx
     have : zaj r 0 (min (b.length : Int) g.length - 1) = false := by
      cases hw : zaj r 0 (min (b.length : Int) g.length - 1) with
      | false => rfl
      | true => have := zbe.mp hw; omega
     rw [this] at e1
     rw [← hh] at hR'
     subst hR'
     simp [-getElem?_pos, zl7, -zc0, v0, v1, v3, v10, v20, v21, v22, hS, hlt, hr', w1, e1, za7]
    | some x =>
     obtain ⟨rn, rfl, hbr, hbl⟩ := zfr hbx
     cases hgy : atI g rn with
     | none =>
      rw [hbx, hgy] at hh
      have hn := ziy hgy
      have : zaj rn 0 (min (b.length : Int) g.length - 1) = false := by
       cases hw : zaj rn 0 (min (b.length : Int) g.length - 1) with
       | false => rfl
       | true => have := zbe.mp hw; omega
      rw [this] at e1
      rw [← hh] at hR'
      subst hR'
      simp [-getElem?_pos, zl7, -zc0, v0, v1, v3, v10, v20, v21, v22, hS, hlt, hr', w1, e1, za7]
     | some y =>
      obtain ⟨rn', hrn, hgr, hgl⟩ := zfr hgy
      have : rn' = rn := by omega
      subst this
      have : zaj rn' 0 (min (b.length : Int) g.length - 1) = true := zbe.mpr (by omega)
      rw [this] at e1
      rw [hbx, hgy] at hh
      simp only at hh
      have hb' := zbi hbr
      have hg' := zbi hgr
      have e2 := zdw x 0 ((kn : Int) - 1)
      cases hhx : atI h x with
      | none =>
       rw [hhx] at hh
       have hn := ziy hhx
       have : zaj x 0 ((kn : Int) - 1) = false := by
        cases hw : zaj x 0 ((kn : Int) - 1) with
        | false => rfl
        | true => have := zbe.mp hw; omega
       rw [this] at e2
       simp only at hh
       rw [← hh] at hR'
       subst hR'
       simp [-getElem?_pos, zl7, -zc0, v0, v1, v3, v10, v20, v21, v22, hS, hlt, hr', hb', hbl, w1, w2, e1, e2, za7]
      | some s =>
       obtain ⟨xn, rfl, hhs, hhl2⟩ := zfr hhx
       have : zaj xn 0 ((kn : Int) - 1) = true := zbe.mpr (by omega)
       rw [this] at e2
       rw [hhx] at hh
       have hs' := zkj hhs
       have hsi := hhi s (List.mem_of_getElem? hhs)
       have hyi := hgi y (List.mem_of_getElem? hgr)
       have hpi := zj5 (b := ⟨1, y⟩) hsi
       have e3 := z0n s ⟨1, y⟩ hsi ⟨by unfold inI; simp, hyi⟩
       simp only [Int.toNat_natCast] at hh
       have hxk : xn < kn := by omega
       generalize zba s ⟨1, y⟩ = p at *
       obtain ⟨⟨pn, pg⟩, pb⟩ := p
       simp only [slc] at e3 hh
       cases pb with
       | false =>
        rw [if_neg (by simp)] at hh
        rw [← hh] at hR'
        subst hR'
        simp [-getElem?_pos, zl7, -zc0, v0, v1, v3, v10, v20, v21, v22, hS, hlt, hr', hb', hbl, hg', hgl, hs', hxk, hhl, w1, w2, e1, e2, e3, z1, z2, z3, z4]
        simp [za7]
       | true =>
        rw [if_pos rfl] at hh
        have hset := yd1 h xn pn pg
        simp [-getElem?_pos, zl7, -zc0, v0, v1, v3, v10, v20, v21, v22, hS, hlt, hr', hb', hbl, hg', hgl, hs', hxk, hhl, w1, w2, e1, e2, e3, hws, hset, z1, z2, z3, z4]
        refine zaq (n - 1) (by omega) ⟨i + 1, h.set xn ⟨pn, pg⟩, by omega, by simp [hhl], fun q hq => ?_, hh, by simp [v0], by simp [v1], by simp [v3], by simp [v10], by simp [v20], by simp [v21], by simp, by simp, by simp⟩
        rcases List.mem_or_eq_of_mem_set hq with h' | h'
        ·exact hhi q h'
        ·subst h'; exact hpi
   ·rw [List.drop_eq_nil_of_le (by omega), zb3] at hh
    rw [← hh] at hR'
    subst hR'
    simp [-getElem?_pos, zl7, v10, v21, v22, hS, hlt, hhl]
  ·intro s hs
   have := List.eq_of_mem_replicate hs
   subst this
   exact ⟨by unfold inI; simp, by unfold inI; simp⟩
set_option maxHeartbeats 2000000 in
theorem yng (b g rows : List Int) (k : Int) (hb : b.length ≤ 1048576) (hg : g.length ≤ 1048576) (hr : rows.length ≤ 1048576) (hgi : ∀ x ∈ g, inI x) : RUN T zn7 [.sl 1 (zac b), .sl 1 (zac g), .sl 1 (zac rows), iv k] = some ([.own 2 (za7 (zb8 b g rows k).1), bv (zb8 b g rows k).2], []) := by
 refine zai z42 rfl ?_
 cases hk : zaj k 1 8 with
 | false =>
  have e := za9 k 1 8
  rw [hk] at e
  have e2 : zb8 b g rows k = ([], false) := by unfold zb8; rw [hk]; rfl
  rw [e2]
  simp [-getElem?_pos, zrn, zro, -zay, e, za7]
 | true =>
  have e := za9 k 1 8
  rw [hk] at e
  have hk' := zbe.mp hk
  obtain ⟨kn, rfl⟩ : ∃ n : Nat, k = n := ⟨k.toNat, by omega⟩
  have hro : zam 16 kn = true := by simp [zam]; omega
  have hr0 : zam 16 0 = true := by decide
  obtain ⟨R, hR⟩ : ∃ R, R = zb8 b g rows kn := ⟨_, rfl⟩
  have hR' : R = match zb3 b g rows (List.replicate kn ⟨0, 0⟩) with
   | some h => (h, true)
   | none => ([], false) := by rw [hR]; unfold zb8; rw [if_pos hk]; simp
  rw [← hR]
  clear hR
  simp [-getElem?_pos, zrn, zro, -zay, e, hro, hr0]
  refine za3 (fun n st => ∃ (i : Nat) (h : List Sl), i + n = rows.length ∧ h.length = kn ∧ (∀ s ∈ h, slI s) ∧ zb3 b g (rows.drop i) h = zb3 b g rows (List.replicate kn ⟨0, 0⟩) ∧ st.V 0 = .sl 1 (zac b) ∧ st.V 1 = .sl 1 (zac g) ∧ st.V 2 = .sl 1 (zac rows) ∧ st.V 3 = iv kn ∧ st.V 10 = .ref 0 none 0 0 0 ∧ st.V 11 = .ref 1 none 0 0 kn ∧ st.V 12 = iv i ∧ 1 < st.nx ∧ st.S 0 = some (.row 2 []) ∧ st.S 1 = some (.row 2 (za7 h))) ?_ rows.length _ ⟨0, List.replicate kn ⟨0, 0⟩, by omega, by simp, ?_, by simp, by simp, by simp, by simp, by simp, by simp, by simp, by simp, by simp, by simp, by simp [ycb]⟩
  ·rintro n st ⟨i, h, hi, hhl, hhi, hh, v0, v1, v2, v3, v10, v11, v12, hnx, hS0, hS⟩
   obtain ⟨z1, z2, z3, z4⟩ := fr hnx
   obtain ⟨y1, y2, y3, y4⟩ := fr (show 0 < st.nx by omega)
   by_cases hlt : i < rows.length
   ·obtain ⟨r, hrr⟩ : ∃ r, rows[i]? = some r := ⟨_, List.getElem?_eq_getElem hlt⟩
    have hr' := zbi hrr
    have hws := wS hlt (by omega : rows.length ≤ 9223372036854775807)
    have w1 := w64 (x := (b.length : Int) - 1) (by omega) (by omega)
    have w1' := w64 (x := (g.length : Int) - 1) (by omega) (by omega)
    have w2 := w64 (x := (kn : Int) - 1) (by omega) (by omega)
    have e1 := za9 r 0 ((b.length : Int) - 1)
    have e1' := za9 r 0 ((g.length : Int) - 1)
    rw [zfx hrr, zb3] at hh
    cases hbx : atI b r with
    | none =>
     rw [hbx] at hh
     have hn := ziy hbx
     have : zaj r 0 ((b.length : Int) - 1) = false := by
      cases hw : zaj r 0 ((b.length : Int) - 1) with
      | false => rfl
      | true => have := zbe.mp hw; omega
     rw [this] at e1
     rw [← hh] at hR'
     subst hR'
     simp [-getElem?_pos, zl8, -zay, v0, v1, v2, v3, v10, v11, v12, hS0, hS, hlt, hr', w1, e1, za7]
    | some x =>
     obtain ⟨rn, rfl, hbr, hbl⟩ := zfr hbx
     cases hgy : atI g rn with
     | none =>
      rw [hbx, hgy] at hh
      have hn := ziy hgy
      have : zaj rn 0 ((g.length : Int) - 1) = false := by
       cases hw : zaj rn 0 ((g.length : Int) - 1) with
       | false => rfl
       | true => have := zbe.mp hw; omega
      rw [this] at e1'
      rw [show zaj rn 0 ((b.length : Int) - 1) = true from zbe.mpr (by omega)] at e1
      rw [← hh] at hR'
      subst hR'
      simp [-getElem?_pos, zl8, -zay, v0, v1, v2, v3, v10, v11, v12, hS0, hS, hlt, hr', w1, w1', e1, e1', za7]
     | some y =>
      obtain ⟨rn', hrn, hgr, hgl⟩ := zfr hgy
      have : rn' = rn := by omega
      subst this
      rw [show zaj rn' 0 ((b.length : Int) - 1) = true from zbe.mpr (by omega)] at e1
      rw [show zaj rn' 0 ((g.length : Int) - 1) = true from zbe.mpr (by omega)] at e1'
      rw [hbx, hgy] at hh
      simp only at hh
      have hb' := zbi hbr
      have hg' := zbi hgr
      have e2 := za9 x 0 ((kn : Int) - 1)
      cases hhx : atI h x with
      | none =>
       rw [hhx] at hh
       have hn := ziy hhx
       have : zaj x 0 ((kn : Int) - 1) = false := by
        cases hw : zaj x 0 ((kn : Int) - 1) with
        | false => rfl
        | true => have := zbe.mp hw; omega
       rw [this] at e2
       simp only at hh
       rw [← hh] at hR'
       subst hR'
       simp [-getElem?_pos, zl8, -zay, v0, v1, v2, v3, v10, v11, v12, hS0, hS, hlt, hr', hb', hbl, w1, w1', w2, e1, e1', e2, za7]
      | some s =>
       obtain ⟨xn, rfl, hhs, hhl2⟩ := zfr hhx
       have : zaj xn 0 ((kn : Int) - 1) = true := zbe.mpr (by omega)
       rw [this] at e2
       rw [hhx] at hh
       have hs' := zkj hhs
       have hsi := hhi s (List.mem_of_getElem? hhs)
       have hyi := hgi y (List.mem_of_getElem? hgr)
       have hpi := zj5 (b := ⟨1, y⟩) hsi
       have e3 := z0o s ⟨1, y⟩ hsi ⟨by unfold inI; simp, hyi⟩
       simp only [Int.toNat_natCast] at hh
       have hxk : xn < kn := by omega
       generalize zba s ⟨1, y⟩ = p at *
       obtain ⟨⟨pn, pg⟩, pb⟩ := p
       simp only [slc] at e3 hh
       cases pb with
       | false =>
        rw [if_neg (by simp)] at hh
        rw [← hh] at hR'
        subst hR'
        simp [-getElem?_pos, zl8, -zay, v0, v1, v2, v3, v10, v11, v12, hS0, hS, hlt, hr', hb', hbl, hg', hgl, hs', hxk, hhl, w1, w1', w2, e1, e1', e2, e3, z1, z2, z3, z4, y1, y2, y3, y4]
        simp [za7]
       | true =>
        rw [if_pos rfl] at hh
        have hset := yd1 h xn pn pg
        simp [-getElem?_pos, zl8, -zay, v0, v1, v2, v3, v10, v11, v12, hS0, hS, hlt, hr', hb', hbl, hg', hgl, hs', hxk, hhl, w1, w1', w2, e1, e1', e2, e3, hws, hset, z1, z2, z3, z4, y1, y2, y3, y4]
        refine zaq (n - 1) (by omega) ⟨i + 1, h.set xn ⟨pn, pg⟩, by omega, by simp [hhl], fun q hq => ?_, hh, by simp [v0], by simp [v1], by simp [v2], by simp [v3], by simp [v10], by simp [v11], by simp, by simp; omega, by simp [y1, y2, y3, y4, z1, z2, z3, z4, hS0], by simp⟩
        rcases List.mem_or_eq_of_mem_set hq with h' | h'
        ·exact hhi q h'
        ·subst h'; exact hpi
   ·rw [List.drop_eq_nil_of_le (by omega), zb3] at hh
    rw [← hh] at hR'
    subst hR'
    simp [-getElem?_pos, zl8, v2, v11, v12, hS, hlt, hhl]
  ·intro s hs
   have := List.eq_of_mem_replicate hs
   subst this
   exact ⟨by unfold inI; simp, by unfold inI; simp⟩
def zta (q : Bool) (l : List Sl) : PV := if q then .own 2 (za7 l) else .sl 2 (za7 l)
@[simp] theorem y7m (q : Bool) (l : List Sl) : fz (zta q l) = .sl 2 (za7 l) := by cases q <;> simp [zta]
def rss (q : Bool) (H : List (List Sl)) : List (List PV) := H.map fun l => [zta q l]
@[simp] theorem y9r (q : Bool) (H : List (List Sl)) : (rss q H).length = H.length := by simp [rss]
theorem yav {q : Bool} {H : List (List Sl)} {i : Nat} {l : List Sl} (h : H[i]? = some l) : (rss q H)[i]? = some [zta q l] := by simp [rss, h]
theorem ycz (H : List (List Sl)) (l : List Sl) : rss true H ++ [[.own 2 (za7 l)]] = rss true (H ++ [l]) := by simp [rss, zta]
def zb0 (g rows : List Int) : List (List Int) → List (List Int) → Option (List (List Sl))
 | x :: c, y :: v => if (zb8 y g rows (x.length + 1)).2 = true then (zb0 g rows c v).map ((zb8 y g rows (x.length + 1)).1 :: ·) else none
 | _, _ => some []
def zbu (c v : List (List Int)) (g rows : List Int) : List (List Sl) × Bool := if zds c v = true then match zb0 g rows c v with
  | some h => (h, true)
  | none => ([], false)
 else ([], false)
theorem ybs {g rows : List Int} {c v : List (List Int)} {i : Nat} {x y : List Int} (hx : c[i]? = some x) (hy : v[i]? = some y) : zb0 g rows (c.drop i) (v.drop i) = if (zb8 y g rows (x.length + 1)).2 = true then (zb0 g rows (c.drop (i + 1)) (v.drop (i + 1))).map ((zb8 y g rows (x.length + 1)).1 :: ·) else none := by
 rw [zfx hx, zfx hy, zb0]
theorem ydh {g rows : List Int} {v : List (List Int)} : zb0 g rows [] v = some [] := by simp [zb0]
theorem ydk {b g : List Int} : ∀ (rows : List Int) (h h' : List Sl), zb3 b g rows h = some h' → h'.length = h.length
 | [], h, h', e => by simp [zb3] at e; subst e; rfl
 | r :: rs, h, h', e => by
  simp only [zb3] at e
  split at e
  ·split at e
   ·split at e
    ·have := ydk rs _ _ e
     simpa using this
    ·cases e
   ·cases e
  ·cases e
theorem yq0 (b g rows : List Int) (k : Int) : (zb8 b g rows k).1.length ≤ 8 := by
 unfold zb8
 split
 ·rename_i hk
  have := zbe.mp hk
  cases h : zb3 b g rows (List.replicate k.toNat ⟨0, 0⟩) with
  | none => simp
  | some h' => have := ydk _ _ _ h; simp at this; simp; omega
 ·simp
theorem yem {g rows : List Int} : ∀ (c v : List (List Int)) (H : List (List Sl)), zb0 g rows c v = some H → H.length ≤ c.length ∧ ∀ l ∈ H, l.length ≤ 8
 | [], v, H, h => by simp [zb0] at h; subst h; simp
 | x :: c, [], H, h => by simp [zb0] at h; subst h; simp
 | x :: c, y :: v, H, h => by
  simp only [zb0] at h
  split at h
  ·simp only [Option.map_eq_some_iff] at h
   obtain ⟨H', h1, rfl⟩ := h
   obtain ⟨h2, h3⟩ := yem c v H' h1
   refine ⟨by simp; omega, fun l hl => ?_⟩
   rcases List.mem_cons.mp hl with e | e
   ·subst e; exact yq0 _ _ _ _
   ·exact h3 l e
  ·cases h
theorem zp8 (c v : List (List Int)) (g rows : List Int) : (zbu c v g rows).1.length ≤ c.length ∧ ∀ l ∈ (zbu c v g rows).1, l.length ≤ 8 := by
 unfold zbu
 split
 ·cases h : zb0 g rows c v with
  | none => simp
  | some H => exact yem c v H h
 ·simp
theorem z2t {c v : List (List Int)} (h : zds c v = true) : v.length = c.length ∧ c.length ≤ 4 := by
 unfold zds at h
 simp only [Bool.and_eq_true, decide_eq_true_eq] at h
 have := zbe.mp h.1.1.1
 omega
set_option maxHeartbeats 2000000 in
theorem ynh (q : Bool) (c v : List (List Int)) (g rows : List Int) (hc : ∀ l ∈ c, l.length ≤ 1048576) (hv : ∀ l ∈ v, l.length ≤ 1048576) (hg : g.length ≤ 1048576) (hr : rows.length ≤ 1048576) (hgi : ∀ x ∈ g, inI x) : RUN T znl [.agg [.sl 1 (rws q c), .sl 1 (rws q v)], .sl 1 (zac g), .sl 1 (zac rows)] = some ([.own 1 (rss true (zbu c v g rows).1), bv (zbu c v g rows).2], []) := by
 refine zai z30 rfl ?_
 have e := z7k q c v (fun l hl => Nat.le_trans (hc l hl) (by omega)) (fun l hl => Nat.le_trans (hv l hl) (by omega))
 cases hk : zds c v with
 | false =>
  rw [hk] at e
  have e2 : zbu c v g rows = ([], false) := by unfold zbu; rw [hk]; rfl
  rw [e2]
  simp [-getElem?_pos, zq0, zq1, e, rss]
 | true =>
  rw [hk] at e
  obtain ⟨hvc, hc4⟩ := z2t hk
  obtain ⟨R, hR⟩ : ∃ R, R = zbu c v g rows := ⟨_, rfl⟩
  have hR' : R = match zb0 g rows c v with
   | some h => (h, true)
   | none => ([], false) := by rw [hR]; unfold zbu; rw [if_pos hk]
  rw [← hR]
  clear hR
  have hr0 : zam 24 0 = true := by decide
  have hr1 : zam 24 1 = true := by decide
  simp [-getElem?_pos, zq0, zq1, e, hr0]
  refine za3 (fun n st => ∃ (i o e : Nat) (H : List (List Sl)), i + n = c.length ∧ H.length = i ∧ zb0 g rows c v = (zb0 g rows (c.drop i) (v.drop i)).map (H ++ ·) ∧ st.V 1 = .sl 1 (zac g) ∧ st.V 2 = .sl 1 (zac rows) ∧ st.V 3 = .ptr 0 none 0 0 0 ∧ st.V 8 = .ref o none e 0 H.length ∧ st.V 18 = .sl 1 (rws q c) ∧ st.V 19 = iv c.length ∧ st.V 20 = iv i ∧ 0 < o ∧ o < st.nx ∧ st.S 0 = some (.box [.sl 1 (rws q c), .sl 1 (rws q v)]) ∧ st.S o = some (.row 1 (rss true H))) ?_ c.length _ ⟨0, 1, 0, [], by simp [rss]⟩
  rintro n st ⟨i, o, ep, H, hi, hH, hL, v1, v2, v3, v8, v18, v19, v20, ho, hox, hS, hSo⟩
  obtain ⟨x1, x2, x3, x4⟩ := fr hox
  obtain ⟨g1, g2, g3, g4⟩ := fr ho
  obtain ⟨z1, z2, z3, z4⟩ := fr (show 0 < st.nx by omega)
  by_cases hlt : i < c.length
  ·obtain ⟨x, hx⟩ : ∃ x, c[i]? = some x := ⟨_, List.getElem?_eq_getElem hlt⟩
   obtain ⟨y, hy⟩ : ∃ y, v[i]? = some y := ⟨_, List.getElem?_eq_getElem (by omega)⟩
   have hx' := zfa (q := q) hx
   have hy' := zfa (q := q) hy
   have hiv : i < v.length := by omega
   have hxl := hc x (List.mem_of_getElem? hx)
   have hws := wS hlt (by omega : c.length ≤ 9223372036854775807)
   have hwl := w64 (x := (x.length : Int) + 1) (by omega) (by omega)
   have hh := ynf y g rows (x.length + 1) (hv y (List.mem_of_getElem? hy)) hg hr hgi
   have hr24 : zam 24 (H.length + 1) = true := by simp [zam]; omega
   rw [ybs hx hy] at hL
   generalize zb8 y g rows (x.length + 1) = p at *
   obtain ⟨ph, pb⟩ := p
   simp only at hh hL
   cases pb with
   | false =>
    rw [if_neg (by simp)] at hL
    rw [hL] at hR'
    subst hR'
    simp [-getElem?_pos, zt8, v1, v2, v3, v8, v18, v19, v20, hS, hSo, hlt, hiv, hx', hy', hwl, hh, rss, x1, x2, x3, x4, g1, g2, g3, g4, z1, z2, z3, z4]
   | true =>
    rw [if_pos rfl] at hL
    have hsn := ycz H ph
    simp [-getElem?_pos, zt8, v1, v2, v3, v8, v18, v19, v20, hS, hSo, hlt, hiv, hx', hy', hwl, hws, hh, hr1, hr24, hsn, x1, x2, x3, x4, g1, g2, g3, g4, z1, z2, z3, z4]
    exact zaq (n - 1) (by omega) ⟨i + 1, st.nx + 2, st.ep, H ++ [ph], by omega, by simp [hH], by rw [hL]; cases zb0 g rows (c.drop (i + 1)) (v.drop (i + 1)) <;> simp, by simp [v1], by simp [v2], by simp [v3], by simp, by simp [v18], by simp [v19], by simp, by omega, by simp, by simp [x1, x2, x3, x4, g1, g2, g3, g4, z1, z2, z3, z4, hS], by simp⟩
  ·have h0 : c.drop i = [] := List.drop_eq_nil_of_le (by omega)
   rw [h0, ydh] at hL
   rw [hL] at hR'
   simp only [Option.map_some, List.append_nil] at hR'
   subst hR'
   simp [-getElem?_pos, zt8, v8, v19, v20, hSo, hlt]
set_option maxHeartbeats 2000000 in
theorem yni (q : Bool) (c v : List (List Int)) (g rows : List Int) (hc : ∀ l ∈ c, l.length ≤ 1048576) (hv : ∀ l ∈ v, l.length ≤ 1048576) (hg : g.length ≤ 1048576) (hr : rows.length ≤ 1048576) (hgi : ∀ x ∈ g, inI x) : RUN T zno [.agg [.sl 1 (rws q c), .sl 1 (rws q v)], .sl 1 (zac g), .sl 1 (zac rows)] = some ([.own 1 (rss true (zbu c v g rows).1), bv (zbu c v g rows).2], []) := by
 refine zai z33 rfl ?_
 have e := z7l q c v (fun l hl => Nat.le_trans (hc l hl) (by omega)) (fun l hl => Nat.le_trans (hv l hl) (by omega))
 cases hk : zds c v with
 | false =>
  rw [hk] at e
  have e2 : zbu c v g rows = ([], false) := by unfold zbu; rw [hk]; rfl
  rw [e2]
  have hr0 : zam 24 0 = true := by decide
  simp [-getElem?_pos, zq2, zq3, e, hr0, rss]
 | true =>
  rw [hk] at e
  obtain ⟨hvc, hc4⟩ := z2t hk
  obtain ⟨R, hR⟩ : ∃ R, R = zbu c v g rows := ⟨_, rfl⟩
  have hR' : R = match zb0 g rows c v with
   | some h => (h, true)
   | none => ([], false) := by rw [hR]; unfold zbu; rw [if_pos hk]
  rw [← hR]
  clear hR
  have hr0 : zam 24 0 = true := by decide
  have hr1 : zam 24 1 = true := by decide
  simp [-getElem?_pos, zq2, zq3, e, hr0]
  refine za3 (fun n st => ∃ (i o e : Nat) (H : List (List Sl)), i + n = c.length ∧ H.length = i ∧ zb0 g rows c v = (zb0 g rows (c.drop i) (v.drop i)).map (H ++ ·) ∧ st.V 1 = .sl 1 (zac g) ∧ st.V 2 = .sl 1 (zac rows) ∧ st.V 3 = .ptr 0 none 0 0 0 ∧ st.V 8 = .ref o none e 0 H.length ∧ st.V 9 = iv i ∧ 0 < o ∧ o < st.nx ∧ st.S 0 = some (.box [.sl 1 (rws q c), .sl 1 (rws q v)]) ∧ st.S o = some (.row 1 (rss true H))) ?_ c.length _ ⟨0, 1, 0, [], by simp [rss]⟩
  rintro n st ⟨i, o, ep, H, hi, hH, hL, v1, v2, v3, v8, v9, ho, hox, hS, hSo⟩
  obtain ⟨x1, x2, x3, x4⟩ := fr hox
  obtain ⟨g1, g2, g3, g4⟩ := fr ho
  obtain ⟨z1, z2, z3, z4⟩ := fr (show 0 < st.nx by omega)
  by_cases hlt : i < c.length
  ·obtain ⟨x, hx⟩ : ∃ x, c[i]? = some x := ⟨_, List.getElem?_eq_getElem hlt⟩
   obtain ⟨y, hy⟩ : ∃ y, v[i]? = some y := ⟨_, List.getElem?_eq_getElem (by omega)⟩
   have hx' := zfa (q := q) hx
   have hy' := zfa (q := q) hy
   have hiv : i < v.length := by omega
   have hxl := hc x (List.mem_of_getElem? hx)
   have hws := wS hlt (by omega : c.length ≤ 9223372036854775807)
   have hwl := w64 (x := (x.length : Int) + 1) (by omega) (by omega)
   have hh := yng y g rows (x.length + 1) (hv y (List.mem_of_getElem? hy)) hg hr hgi
   have hr24 : zam 24 (H.length + 1) = true := by simp [zam]; omega
   rw [ybs hx hy] at hL
   generalize zb8 y g rows (x.length + 1) = p at *
   obtain ⟨ph, pb⟩ := p
   simp only at hh hL
   cases pb with
   | false =>
    rw [if_neg (by simp)] at hL
    rw [hL] at hR'
    subst hR'
    simp [-getElem?_pos, zuf, v1, v2, v3, v8, v9, hr0, hS, hSo, hlt, hiv, hx', hy', hwl, hh, rss, x1, x2, x3, x4, g1, g2, g3, g4, z1, z2, z3, z4]
   | true =>
    rw [if_pos rfl] at hL
    have hsn := ycz H ph
    simp [-getElem?_pos, zuf, v1, v2, v3, v8, v9, hr0, hS, hSo, hlt, hiv, hx', hy', hwl, hws, hh, hr1, hr24, hsn, x1, x2, x3, x4, g1, g2, g3, g4, z1, z2, z3, z4]
    exact zaq (n - 1) (by omega) ⟨i + 1, st.nx + 2, st.ep, H ++ [ph], by omega, by simp [hH], by rw [hL]; cases zb0 g rows (c.drop (i + 1)) (v.drop (i + 1)) <;> simp, by simp [v1], by simp [v2], by simp [v3], by simp, by simp, by omega, by simp, by simp [x1, x2, x3, x4, g1, g2, g3, g4, z1, z2, z3, z4, hS], by simp⟩
  ·have h0 : c.drop i = [] := List.drop_eq_nil_of_le (by omega)
   rw [h0, ydh] at hL
   rw [hL] at hR'
   simp only [Option.map_some, List.append_nil] at hR'
   subst hR'
   simp [-getElem?_pos, zuf, v3, v8, v9, hS, hSo, hlt]
def z8x (k : Int) (n : Nat) : List Sl := (List.range n).map fun (i : Nat) => ⟨k + 2 * (i : Int), k + 2 * (i : Int) + 1⟩
@[simp] theorem y6b (k : Int) (n : Nat) : (z8x k n).length = n := by simp [z8x]
theorem z7z (x : Int) : RUN T zll [iv x] = some ([bv false], []) := by
 refine zai z64 rfl ?_
 simp [zyh, zyi]
theorem z70 (x y : Int) : RUN T zlc [iv x, iv y] = some ([iv (zb2 x y)], []) := by
 refine zai z6h rfl ?_
 have e1 := z7z x
 have e2 := z7z y
 unfold zb2
 by_cases h1 : x < y
 ·simp [zpm, zpn, e1, e2, h1]
 ·by_cases h2 : y < x
  ·simp [zpm, zpn, e1, e2, h1, h2]
  ·simp [zpm, zpn, e1, e2, h1, h2]
theorem ynj (a b : Wd) (ha : wfU a) (hb : wfU b) : RUN T zor [.agg (wd a), .agg (wd b)] = some ([iv (zi7 a b)], []) := by
 refine zai z54 rfl ?_
 have n1 : (a.n && (decide (0 < a.h) || decide (0 < a.l))) = zed a := by
  obtain ⟨h0, _, h1, _⟩ := ha
  unfold zed
  congr 1
  rw [Bool.eq_iff_iff]; simp; omega
 have n2 : (b.n && (decide (0 < b.h) || decide (0 < b.l))) = zed b := by
  obtain ⟨h0, _, h1, _⟩ := hb
  unfold zed
  congr 1
  rw [Bool.eq_iff_iff]; simp; omega
 have e1 := zsf a.n a.h a.l
 have e2 := zsf b.n b.h b.l
 rw [n1] at e1
 rw [n2] at e2
 have e3 := z0l ⟨zed a, a.h, a.l⟩ ⟨zed b, b.h, b.l⟩
 have e4 := z0l ⟨zed b, b.h, b.l⟩ ⟨zed a, a.h, a.l⟩
 have o1 : zee ⟨zed a, a.h, a.l⟩ ⟨zed b, b.h, b.l⟩ = zee a b := rfl
 have o2 : zee ⟨zed b, b.h, b.l⟩ ⟨zed a, a.h, a.l⟩ = zee b a := rfl
 rw [o1] at e3
 rw [o2] at e4
 clear o1 o2 n1 n2 ha hb
 unfold zi7
 generalize zee a b = x at *
 generalize zee b a = y at *
 generalize zed a = p at *
 generalize zed b = q at *
 obtain ⟨an, ah, al⟩ := a
 obtain ⟨bn, bh, bl⟩ := b
 simp only [wd] at e1 e2 e3 e4 ⊢
 cases p <;> cases q <;> simp [zw7, zw8, e1, e2, e3, e4]
structure Fr where
 w : Wd
 d : Int
def frc (f : Fr) : List PV := [bv f.w.n, uv f.w.h, uv f.w.l, iv f.d]
def frB (f : Fr) : Bool := wok f.w && zaj f.d 1 1000000
def zdy : Fr := ⟨za1, 0⟩
def zem (w : Wd) (d : Int) : Fr × Bool := if frB ⟨w, d⟩ = true then (⟨w, d⟩, true) else (zdy, false)
theorem z0p (f : Fr) : RUN T zjq [.agg (frc f)] = some ([bv (frB f)], []) := by
 refine zai z6o rfl ?_
 have e1 := zpx f.w
 have e2 := zdw f.d 1 1000000
 unfold frB
 generalize wok f.w = x at *
 generalize zaj f.d 1 1000000 = y at *
 simp only [wd] at e1
 cases x <;> simp [zxy, zxz, -zc0, frc, e1, e2]
theorem zyv (f : Fr) : RUN T zh7 [.agg (frc f)] = some ([bv (frB f)], []) := by
 refine zai z6v rfl ?_
 have e1 := zpy f.w
 have e2 := za9 f.d 1 1000000
 unfold frB
 generalize wok f.w = x at *
 generalize zaj f.d 1 1000000 = y at *
 simp only [wd] at e1
 cases x <;> simp [zx6, zx7, -zay, frc, e1, e2]
theorem z71 (w : Wd) (d : Int) : RUN T zle [.agg (wd w), iv d] = some ([.agg (frc (zem w d).1), bv (zem w d).2], []) := by
 refine zai z6m rfl ?_
 have e1 := z0p ⟨w, d⟩
 unfold zem
 generalize frB ⟨w, d⟩ = x at *
 simp only [frc] at e1
 cases x <;> simp [zxu, zxv, wd, frc, zdy, za1, e1]
theorem ynk (a d : Int) (ha : inI a) : RUN T zoq [iv a, iv d] = some ([.agg (frc (zem (zdz a a) d).1), bv (zem (zdz a a) d).2], []) := by
 refine zai z52 rfl ?_
 have e1 := yna a a ha ha
 have e2 := z71 (zdz a a) d
 generalize zdz a a = m at *
 generalize zem m d = f at *
 obtain ⟨⟨fw, fd⟩, fb⟩ := f
 simp only [wd, frc] at e1 e2 ⊢
 simp [zw3, zw4, e1, e2]
theorem ynl (a d : Int) (ha : inI a) : RUN T zo4 [iv a, iv d] = some ([.agg (frc (zem (zdz a a) d).1), bv (zem (zdz a a) d).2], []) := by
 refine zai z6w rfl ?_
 have e1 := ynb a a ha ha
 have e2 := zyv ⟨zdz a a, d⟩
 unfold zem
 generalize zdz a a = m at *
 generalize frB ⟨m, d⟩ = x at *
 simp only [wd, frc] at e1 e2
 cases x <;> simp [zx8, zx9, frc, zdy, za1, e1, e2]
def frI (f : Fr) : Prop := wfU f.w ∧ inI f.d
theorem zs5 : wfU za1 := ⟨by decide, by decide, by decide, by decide⟩
theorem yc4 (w : Wd) (k : Int) (h : wfU w) : wfU (zcy w k).1 := by
 unfold zcy
 split
 ·rename_i hc
  refine z2v ?_ (by omega)
  obtain ⟨h0, h1, h2, h3⟩ := h
  exact Int.mul_nonneg (by unfold mag; omega) (by omega)
 ·exact zs5
def zbh (a b : Fr) : Wd × Wd × Bool := if (frB a && frB b) = true then ((zcy a.w b.d).1, (zcy b.w a.d).1, (zcy a.w b.d).2 && (zcy b.w a.d).2) else (za1, za1, false)
theorem z23 (a b : Fr) (ha : wfU a.w) (hb : wfU b.w) : wfU (zbh a b).1 ∧ wfU (zbh a b).2.1 := by
 unfold zbh
 split
 ·exact ⟨yc4 _ _ ha, yc4 _ _ hb⟩
 ·exact ⟨zs5, zs5⟩
theorem ydd {a b : Fr} (h : (zbh a b).2.2 = true) : (1 ≤ a.d ∧ a.d ≤ 1000000) ∧ 1 ≤ b.d ∧ b.d ≤ 1000000 := by
 unfold zbh at h
 split at h
 ·rename_i hc
  simp only [frB, Bool.and_eq_true] at hc
  exact ⟨zbe.mp hc.1.2, zbe.mp hc.2.2⟩
 ·cases h
theorem z72 (a b : Fr) (ha : frI a) (hb : frI b) : RUN T zk7 [.agg (frc a), .agg (frc b)] = some ([.agg (wd (zbh a b).1), .agg (wd (zbh a b).2.1), bv (zbh a b).2.2], []) := by
 refine zai z53 rfl ?_
 have e1 := z0p a
 have e2 := z0p b
 have e3 := z7w a.w b.d ha.1 hb.2
 have e4 := z7w b.w a.d hb.1 ha.2
 unfold zbh
 generalize zcy a.w b.d = x at *
 generalize zcy b.w a.d = y at *
 generalize frB a = p at *
 generalize frB b = q at *
 obtain ⟨⟨an, ah, al⟩, ad⟩ := a
 obtain ⟨⟨bn, bh, bl⟩, bd⟩ := b
 obtain ⟨x, xb⟩ := x
 obtain ⟨y, yb⟩ := y
 simp only [frc, wd] at e1 e2 e3 e4 ⊢
 cases p <;> cases q <;> cases xb <;> simp [zw5, zw6, e1, e2, e3, e4, za1]
theorem z73 (a b : Fr) (ha : frI a) (hb : frI b) : RUN T zk9 [.agg (frc a), .agg (frc b)] = some ([.agg (wd (zbh a b).1), .agg (wd (zbh a b).2.1), bv (zbh a b).2.2], []) := by
 refine zai z59 rfl ?_
 have e1 := zyv a
 have e2 := zyv b
 have e3 := z7x a.w b.d ha.1 hb.2
 have e4 := z7x b.w a.d hb.1 ha.2
 unfold zbh
 generalize zcy a.w b.d = x at *
 generalize zcy b.w a.d = y at *
 generalize frB a = p at *
 generalize frB b = q at *
 obtain ⟨⟨an, ah, al⟩, ad⟩ := a
 obtain ⟨⟨bn, bh, bl⟩, bd⟩ := b
 obtain ⟨x, xb⟩ := x
 obtain ⟨y, yb⟩ := y
 simp only [frc, wd] at e1 e2 e3 e4 ⊢
 cases p <;> cases q <;> cases xb <;> simp [zxf, zxg, e1, e2, e3, e4, za1]
def zek (a b : Fr) : Int × Bool := if (zbh a b).2.2 = true then (zi7 (zbh a b).1 (zbh a b).2.1, true) else (0, false)
theorem z74 (a b : Fr) (ha : frI a) (hb : frI b) : RUN T zk0 [.agg (frc a), .agg (frc b)] = some ([iv (zek a b).1, bv (zek a b).2], []) := by
 refine zai z5c rfl ?_
 have e1 := z72 a b ha hb
 obtain ⟨w1, w2⟩ := z23 a b ha.1 hb.1
 have e2 := ynj (zbh a b).1 (zbh a b).2.1 w1 w2
 unfold zek
 generalize zbh a b = r at *
 obtain ⟨x, y, o⟩ := r
 simp only at e2 ⊢
 generalize zi7 x y = z at *
 simp only [frc, wd] at e1 e2 ⊢
 cases o <;> simp [zv1, zv2, e1, e2]
theorem z75 (a b : Fr) (ha : frI a) (hb : frI b) : RUN T zk5 [.agg (frc a), .agg (frc b)] = some ([iv (zek a b).1, bv (zek a b).2], []) := by
 refine zai z5o rfl ?_
 have e1 := z73 a b ha hb
 have e2 := yne (zbh a b).1 (zbh a b).2.1
 unfold zek
 generalize zbh a b = r at *
 obtain ⟨x, y, o⟩ := r
 simp only at e2 ⊢
 generalize zi7 x y = z at *
 simp only [frc, wd] at e1 e2 ⊢
 cases o <;> simp [zwn, zwo, e1, e2]
def zhg (a b : Fr) : Fr × Bool := if (zbh a b).2.2 = true then (if (zb7 (zbh a b).1 (zbh a b).2.1).2 = true then zem (zb7 (zbh a b).1 (zbh a b).2.1).1 (a.d * b.d) else (zdy, false)) else (zdy, false)
theorem ybu {a b : Int} (h : (1 ≤ a ∧ a ≤ 1000000) ∧ 1 ≤ b ∧ b ≤ 1000000) : IntKind.i64.wrap (a * b) = a * b := by
 have h1 : a * b ≤ 1000000 * 1000000 := Int.mul_le_mul h.1.2 h.2.2 (by omega) (by decide)
 have h2 : 0 ≤ a * b := Int.mul_nonneg (by omega) (by omega)
 exact w64 (by omega) (by omega)
theorem ynm (a b : Fr) (ha : frI a) (hb : frI b) : RUN T zop [.agg (frc a), .agg (frc b)] = some ([.agg (frc (zhg a b).1), bv (zhg a b).2], []) := by
 refine zai z51 rfl ?_
 have e1 := z72 a b ha hb
 obtain ⟨w1, w2⟩ := z23 a b ha.1 hb.1
 have e2 := ync (zbh a b).1 (zbh a b).2.1 w1 w2
 have hok := @ydd a b
 have e3 := z71 (zb7 (zbh a b).1 (zbh a b).2.1).1 (a.d * b.d)
 unfold zhg
 generalize zbh a b = r at *
 obtain ⟨x, y, o⟩ := r
 simp only at e2 e3 hok ⊢
 generalize zb7 x y = s at *
 obtain ⟨s, so⟩ := s
 simp only at e2 e3 ⊢
 cases o with
 | false =>
  simp only [frc, wd] at e1 ⊢
  simp [zr3, zr4, e1, zdy, za1]
 | true =>
  have hm := ybu (hok rfl)
  generalize zem s (a.d * b.d) = f at *
  obtain ⟨f, fo⟩ := f
  simp only [frc, wd] at e1 e2 e3 ⊢
  cases so <;> simp [zr3, zr4, e1, e2, e3, hm, zdy, za1]
theorem ynn (a b : Fr) (ha : frI a) (hb : frI b) : RUN T zot [.agg (frc a), .agg (frc b)] = some ([.agg (frc (zhg a b).1), bv (zhg a b).2], []) := by
 refine zai z58 rfl ?_
 have e1 := z73 a b ha hb
 obtain ⟨w1, w2⟩ := z23 a b ha.1 hb.1
 have e2 := ynd (zbh a b).1 (zbh a b).2.1 w1 w2
 have hok := @ydd a b
 have e3 := zyv ⟨(zb7 (zbh a b).1 (zbh a b).2.1).1, a.d * b.d⟩
 unfold zhg zem
 generalize zbh a b = r at *
 obtain ⟨x, y, o⟩ := r
 simp only at e2 e3 hok ⊢
 generalize zb7 x y = s at *
 obtain ⟨s, so⟩ := s
 simp only at e2 e3 ⊢
 cases o with
 | false =>
  simp only [frc, wd] at e1 ⊢
  simp [zr5, zr6, e1, zdy, za1]
 | true =>
  have hm := ybu (hok rfl)
  generalize frB ⟨s, a.d * b.d⟩ = fo at *
  simp only [frc, wd] at e1 e2 e3 ⊢
  cases so <;> cases fo <;> simp [zr5, zr6, e1, e2, e3, hm, frc, zdy, za1]
structure Cnd where
 f : Int
 b : Int
 a : Sl
 z : Sl
deriving DecidableEq
def cnd (c : Cnd) : List PV := [iv c.f, iv c.b, iv c.a.n, iv c.a.g, iv c.z.n, iv c.z.g]
def zd2 (c : Cnd) : Prop := inI c.f ∧ inI c.b ∧ slI c.a ∧ slI c.z
structure Bd where
 lo : Int
 hi : Int
def bnd (b : Bd) : List PV := [iv b.lo, iv b.hi]
def zmu (b : Bd) : Bool := decide (b.lo ≤ b.hi) && zg5 b.lo && zg5 b.hi
def zs9 (x lo hi : Int) : Int := if x < lo then lo else if hi < x then hi else x
def zhu (n l : Int) : Bool := zaj n 0 40 && zaj l 1 100
def zfh (s : Sl) (l : Int) (b : Bd) : Int × Bool := if (zhu s.n l && zmu b) = true then (zs9 (fdv s.g (s.n + l)).1 b.lo b.hi, true) else (0, false)
def zci (s : Sl) (l : Int) : Fr × Bool := if zhu s.n l = true then zem (zdz s.g s.g) (s.n + l) else (zdy, false)
def zby (c : Cnd) (l : Int) : Fr × Bool := if ((zci c.a l).2 && (zci c.z l).2) = true then zhg (zci c.a l).1 (zci c.z l).1 else (zdy, false)
theorem z76 (n l : Int) : RUN T zk3 [iv n, iv l] = some ([bv (zhu n l)], []) := by
 refine zai z5j rfl ?_
 have e1 := zdw n 0 40
 have e2 := zdw l 1 100
 unfold zhu
 generalize zaj n 0 40 = x at *
 cases x <;> simp [zwf, zwg, -zc0, e1, e2]
theorem yno (b : Bd) : RUN T zog [.agg (bnd b)] = some ([bv (zmu b)], []) := by
 refine zai z5k rfl ?_
 have e1 := z7i b.lo
 have e2 := z7i b.hi
 unfold zmu
 generalize zg5 b.lo = x at *
 generalize zg5 b.hi = y at *
 by_cases h : b.lo ≤ b.hi <;> cases x <;> simp [zwh, zwi, bnd, e1, e2, h]
theorem ynp (b : Bd) : RUN T znv [.agg (bnd b)] = some ([bv (zmu b)], []) := by
 refine zai z4k rfl ?_
 have e1 := z7h b.lo
 have e2 := z7h b.hi
 unfold zmu
 generalize zg5 b.lo = x at *
 generalize zg5 b.hi = y at *
 by_cases h : b.lo ≤ b.hi <;> cases x <;> simp [zuz, zu0, bnd, e1, e2, h]
theorem ynq (x lo hi : Int) : RUN T zoi [iv x, iv lo, iv hi] = some ([iv (zs9 x lo hi)], []) := by
 refine zai z5m rfl ?_
 unfold zs9
 by_cases h1 : x < lo
 ·simp [zrt, zru, h1]
 ·by_cases h2 : hi < x <;> simp [zrt, zru, h1, h2]
theorem ynr (x lo hi : Int) : RUN T znx [iv x, iv lo, iv hi] = some ([iv (zs9 x lo hi)], []) := by
 refine zai z4m rfl ?_
 unfold zs9
 by_cases h1 : x < lo
 ·simp [zrh, zri, h1]
 ·by_cases h2 : hi < x <;> simp [zrh, zri, h1, h2]
theorem zza {n l : Int} (h : zhu n l = true) : IntKind.i64.wrap (n + l) = n + l := by
 unfold zhu at h
 simp only [Bool.and_eq_true] at h
 have h1 := zbe.mp h.1
 have h2 := zbe.mp h.2
 exact w64 (by omega) (by omega)
theorem z77 (s : Sl) (l : Int) (b : Bd) (hs : slI s) : RUN T zku [.agg (slc s), iv l, .agg (bnd b)] = some ([iv (zfh s l b).1, bv (zfh s l b).2], []) := by
 refine zai z4j rfl ?_
 have e1 := z76 s.n l
 have e2 := yno b
 have e3 := ymz s.g (s.n + l) hs.2
 have e4 := ynq (fdv s.g (s.n + l)).1 b.lo b.hi
 have hw := @zza s.n l
 unfold zfh
 generalize zhu s.n l = x at *
 generalize zmu b = y at *
 generalize fdv s.g (s.n + l) = q at *
 obtain ⟨q, qo⟩ := q
 simp only [bnd] at e2
 cases x with
 | false => simp [zrf, zrg, slc, bnd, e1]
 | true =>
  have hw := hw rfl
  cases y <;> simp [zrf, zrg, slc, bnd, e1, e2, e3, e4, hw]
theorem z78 (s : Sl) (l : Int) (b : Bd) (hs : slI s) : RUN T zkn [.agg (slc s), iv l, .agg (bnd b)] = some ([iv (zfh s l b).1, bv (zfh s l b).2], []) := by
 refine zai z3u rfl ?_
 have e1 := za9 s.n 0 40
 have e1' := za9 l 1 100
 have e2 := ynp b
 have e3 := ymy s.g (s.n + l) hs.2
 have e4 := ynr (fdv s.g (s.n + l)).1 b.lo b.hi
 have hw := @zza s.n l
 unfold zfh
 unfold zhu at *
 generalize zaj s.n 0 40 = x at *
 generalize zaj l 1 100 = x' at *
 generalize zmu b = y at *
 generalize fdv s.g (s.n + l) = q at *
 obtain ⟨q, qo⟩ := q
 simp only [bnd] at e2
 cases x with
 | false => simp [zpb, zpc, -zay, slc, bnd, e1]
 | true =>
  cases x' with
  | false => simp [zpb, zpc, -zay, slc, bnd, e1, e1']
  | true =>
   have hw := hw rfl
   cases y <;> simp [zpb, zpc, -zay, slc, bnd, e1, e1', e2, e3, e4, hw]
theorem yns (c : Cnd) (h : zd2 c) : RUN T zoa [.agg (cnd c)] = some ([.agg (slc (zba c.a c.z).1), bv (zba c.a c.z).2], []) := by
 refine zai z5a rfl ?_
 have e1 := z0n c.a c.z h.2.2.1 h.2.2.2
 generalize zba c.a c.z = p at *
 obtain ⟨⟨pn, pg⟩, pb⟩ := p
 simp only [slc] at e1 ⊢
 simp [zvz, zv0, cnd, e1]
theorem ynt (c : Cnd) (h : zd2 c) : RUN T zoz [.agg (cnd c)] = some ([.agg (slc (zba c.a c.z).1), bv (zba c.a c.z).2], []) := by
 refine zai z6j rfl ?_
 have e1 := z0o c.a c.z h.2.2.1 h.2.2.2
 generalize zba c.a c.z = p at *
 obtain ⟨⟨pn, pg⟩, pb⟩ := p
 simp only [slc] at e1 ⊢
 simp [zxs, zxt, cnd, e1]
theorem z0q (s : Sl) (l : Int) (hs : slI s) : RUN T zjj [.agg (slc s), iv l] = some ([.agg (frc (zci s l).1), bv (zci s l).2], []) := by
 refine zai z5b rfl ?_
 have e1 := z76 s.n l
 have e2 := ynk s.g (s.n + l) hs.2
 have hw := @zza s.n l
 unfold zci
 generalize zhu s.n l = x at *
 generalize zem (zdz s.g s.g) (s.n + l) = f at *
 obtain ⟨⟨fw, fd⟩, fb⟩ := f
 simp only [frc] at e2 ⊢
 cases x with
 | false => simp [zrp, zrq, slc, e1, zdy, za1]
 | true =>
  have hw := hw rfl
  simp [zrp, zrq, slc, e1, e2, hw]
theorem z0r (s : Sl) (l : Int) (hs : slI s) : RUN T zjp [.agg (slc s), iv l] = some ([.agg (frc (zci s l).1), bv (zci s l).2], []) := by
 refine zai z6k rfl ?_
 have e1 := za9 s.n 0 40
 have e1' := za9 l 1 100
 have e2 := ynl s.g (s.n + l) hs.2
 have hw := @zza s.n l
 unfold zci
 unfold zhu at *
 generalize zaj s.n 0 40 = x at *
 generalize zaj l 1 100 = x' at *
 generalize zem (zdz s.g s.g) (s.n + l) = f at *
 obtain ⟨⟨fw, fd⟩, fb⟩ := f
 simp only [frc] at e2 ⊢
 cases x with
 | false => simp [zpo, zpp, -zay, slc, e1, zdy, za1]
 | true =>
  cases x' with
  | false => simp [zpo, zpp, -zay, slc, e1, e1', zdy, za1]
  | true =>
   have hw := hw rfl
   simp [zpo, zpp, -zay, slc, e1, e1', e2, hw]
theorem z9e (w : Wd) (d : Int) (hw : wfU w) : frI (zem w d).1 := by
 unfold zem
 split
 ·rename_i h
  simp only [frB, Bool.and_eq_true] at h
  have := zbe.mp h.2
  exact ⟨hw, by unfold inI; simp only; omega⟩
 ·exact ⟨zs5, by unfold inI zdy; simp⟩
theorem zzb : frI zdy := ⟨zs5, by unfold inI zdy; simp⟩
theorem zqa (s : Sl) (l : Int) (hs : slI s) : frI (zci s l).1 := by
 unfold zci
 split
 ·exact z9e _ _ (ypu hs.2 hs.2)
 ·exact zzb
theorem yt0 (a b : Fr) : frI (zhg a b).1 := by
 unfold zhg
 split
 ·split
  ·exact z9e _ _ (yp2 _ _)
  ·exact zzb
 ·exact zzb
theorem zqo (c : Cnd) (l : Int) : frI (zby c l).1 := by
 unfold zby
 split
 ·exact yt0 _ _
 ·exact zzb
theorem z0s (c : Cnd) (l : Int) (h : zd2 c) : RUN T zji [.agg (cnd c), iv l] = some ([.agg (frc (zby c l).1), bv (zby c l).2], []) := by
 refine zai z49 rfl ?_
 have e1 := z0q c.a l h.2.2.1
 have e2 := z0q c.z l h.2.2.2
 have e3 := ynm (zci c.a l).1 (zci c.z l).1 (zqa _ _ h.2.2.1) (zqa _ _ h.2.2.2)
 unfold zby
 generalize zci c.a l = p at *
 generalize zci c.z l = q at *
 obtain ⟨p, pb⟩ := p
 obtain ⟨q, qb⟩ := q
 simp only at e1 e2 e3 ⊢
 generalize zhg p q = r at *
 obtain ⟨r, rb⟩ := r
 simp only [frc, slc] at e1 e2 e3 ⊢
 cases pb <;> cases qb <;> simp [zvx, zvy, cnd, e1, e2, e3, zdy, za1]
theorem z0t (c : Cnd) (l : Int) (h : zd2 c) : RUN T zjn [.agg (cnd c), iv l] = some ([.agg (frc (zby c l).1), bv (zby c l).2], []) := by
 refine zai z5z rfl ?_
 have e1 := z0r c.a l h.2.2.1
 have e2 := z0r c.z l h.2.2.2
 have e3 := ynn (zci c.a l).1 (zci c.z l).1 (zqa _ _ h.2.2.1) (zqa _ _ h.2.2.2)
 unfold zby
 generalize zci c.a l = p at *
 generalize zci c.z l = q at *
 obtain ⟨p, pb⟩ := p
 obtain ⟨q, qb⟩ := q
 simp only at e1 e2 e3 ⊢
 generalize zhg p q = r at *
 obtain ⟨r, rb⟩ := r
 simp only [frc, slc] at e1 e2 e3 ⊢
 cases pb <;> cases qb <;> simp [zw1, zw2, cnd, e1, e2, e3, zdy, za1]
abbrev cfS (c : Cfg) : PV := .agg [iv c.ro, iv c.de, iv c.bi, iv c.la, iv c.rw, iv c.nu, iv c.dn, .sl 1 (zac c.sg)]
def zfq (c : Cfg) (b : Bd) (x : Cnd) : Int × Int × Bool := if ((zfh x.a c.la b).2 && (zfh x.z c.la b).2) = true then ((zfh x.a c.la b).1, (zfh x.z c.la b).1, true) else (0, 0, false)
def zi5 (c : Cfg) (f : Int) : Int := (atI c.sg f).getD 0
def zms (s l r : Int) : Bool := if s = 1 then decide (l ≤ r) else if s = -1 then decide (r ≤ l) else true
def zm4 (x : Cnd) (l : Int) : Bool := (zby x l).2 && ((zba x.a x.z).2 && ((zci (zba x.a x.z).1 l).2 && ((zek (zby x l).1 (zci (zba x.a x.z).1 l).1).2 && decide (0 < (zek (zby x l).1 (zci (zba x.a x.z).1 l).1).1))))
def zh3 (a b : Cnd) : Bool := decide (a.f < b.f) || (decide (a.f = b.f) && decide (a.b < b.b))
def zdf (a b : Cnd) (l : Int) : Bool := (zby a l).2 && ((zby b l).2 && ((zek (zby a l).1 (zby b l).1).2 && (decide (0 < (zek (zby a l).1 (zby b l).1).1) || (decide ((zek (zby a l).1 (zby b l).1).1 = 0) && zh3 a b))))
theorem ynu (c : Cfg) (b : Bd) (x : Cnd) (h : zd2 x) : RUN T znr [cfS c, .agg (bnd b), .agg (cnd x)] = some ([iv (zfq c b x).1, iv (zfq c b x).2.1, bv (zfq c b x).2.2], []) := by
 have e1 := z77 x.a c.la b h.2.2.1
 have e2 := z77 x.z c.la b h.2.2.2
 unfold zfq
 generalize zfh x.a c.la b = p at *
 generalize zfh x.z c.la b = q at *
 obtain ⟨p, pb⟩ := p
 obtain ⟨q, qb⟩ := q
 simp only [slc, bnd] at e1 e2 ⊢
 refine zai z37 rfl ?_
 cases pb <;> cases qb <;> simp [zun, zuo, cnd, e1, e2]
theorem ynv (c : Cfg) (b : Bd) (x : Cnd) (h : zd2 x) : RUN T zny [cfS c, .agg (bnd b), .agg (cnd x)] = some ([iv (zfq c b x).1, iv (zfq c b x).2.1, bv (zfq c b x).2.2], []) := by
 have e1 := z78 x.a c.la b h.2.2.1
 have e2 := z78 x.z c.la b h.2.2.2
 unfold zfq
 generalize zfh x.a c.la b = p at *
 generalize zfh x.z c.la b = q at *
 obtain ⟨p, pb⟩ := p
 obtain ⟨q, qb⟩ := q
 simp only [slc, bnd] at e1 e2 ⊢
 refine zai z4n rfl ?_
 cases pb <;> cases qb <;> simp [zu3, zu4, cnd, e1, e2]
theorem ynw (c : Cfg) (f : Int) (hl : c.sg.length ≤ 9223372036854775807) : RUN T znt [cfS c, iv f] = some ([iv (zi5 c f)], []) := by
 refine zai z4a rfl ?_
 have hw := w64 (x := (c.sg.length : Int) - 1) (by omega) (by omega)
 have e1 := zdw f 0 ((c.sg.length : Int) - 1)
 unfold zi5
 cases hs : atI c.sg f with
 | none =>
  have hn := ziy hs
  have : zaj f 0 ((c.sg.length : Int) - 1) = false := by
   cases hw : zaj f 0 ((c.sg.length : Int) - 1) with
   | false => rfl
   | true => have := zbe.mp hw; omega
  rw [this] at e1
  simp [zq7, zq8, -zc0, e1, hw]
 | some x =>
  obtain ⟨j, rfl, hj, hjl⟩ := zfr hs
  rw [show zaj j 0 ((c.sg.length : Int) - 1) = true from zbe.mpr (by omega)] at e1
  have hj' := zbi hj
  simp [-getElem?_pos, zq7, zq8, -zc0, e1, hw, hj', hjl]
theorem ynx (c : Cfg) (f : Int) (hl : c.sg.length ≤ 9223372036854775807) : RUN T znz [cfS c, iv f] = some ([iv (zi5 c f)], []) := by
 refine zai z4o rfl ?_
 have hw := w64 (x := (c.sg.length : Int) - 1) (by omega) (by omega)
 have e1 := za9 f 0 ((c.sg.length : Int) - 1)
 unfold zi5
 cases hs : atI c.sg f with
 | none =>
  have hn := ziy hs
  have : zaj f 0 ((c.sg.length : Int) - 1) = false := by
   cases hw : zaj f 0 ((c.sg.length : Int) - 1) with
   | false => rfl
   | true => have := zbe.mp hw; omega
  rw [this] at e1
  simp [zrj, zrk, -zay, e1, hw]
 | some x =>
  obtain ⟨j, rfl, hj, hjl⟩ := zfr hs
  rw [show zaj j 0 ((c.sg.length : Int) - 1) = true from zbe.mpr (by omega)] at e1
  have hj' := zbi hj
  simp [-getElem?_pos, zrj, zrk, -zay, e1, hw, hj', hjl]
theorem yny (s l r : Int) : RUN T zns [iv s, iv l, iv r] = some ([bv (zms s l r)], []) := by
 refine zai z39 rfl ?_
 unfold zms
 by_cases h1 : s = 1
 ·simp [zq5, zq6, h1]
 ·by_cases h2 : s = -1 <;> simp [zq5, zq6, h1, h2]
theorem ynz (s l r : Int) : RUN T zom [iv s, iv l, iv r] = some ([bv (zms s l r)], []) := by
 refine zai z5x rfl ?_
 unfold zms
 by_cases h1 : s = 1
 ·by_cases h3 : l ≤ r <;> simp [zrz, zr0, h1, h3]
 ·by_cases h2 : s = -1 <;> simp [zrz, zr0, h1, h2]
theorem yn0 (x : Cnd) (l : Int) (h : zd2 x) : RUN T znu [.agg (cnd x), iv l] = some ([bv (zm4 x l)], []) := by
 refine zai z4b rfl ?_
 have hp := zj5 (b := x.z) h.2.2.1
 have e1 := z0s x l h
 have e2 := yns x h
 have e3 := z0q (zba x.a x.z).1 l hp
 have e4 := z74 (zby x l).1 (zci (zba x.a x.z).1 l).1 (zqo _ _) (zqa _ _ hp)
 unfold zm4
 generalize zby x l = g at *
 generalize zba x.a x.z = p at *
 obtain ⟨p, pb⟩ := p
 simp only at e2 e3 e4 ⊢
 generalize zci p l = q at *
 obtain ⟨g, gb⟩ := g
 obtain ⟨q, qb⟩ := q
 simp only at e1 e3 e4 ⊢
 generalize zek g q = m at *
 obtain ⟨m, mb⟩ := m
 simp only [frc, slc, cnd] at e1 e2 e3 e4 ⊢
 cases gb <;> cases pb <;> cases qb <;> cases mb <;> simp [zur, zus, e1, e2, e3, e4]
theorem yn1 (x : Cnd) (l : Int) (h : zd2 x) : RUN T zon [.agg (cnd x), iv l] = some ([bv (zm4 x l)], []) := by
 refine zai z5y rfl ?_
 have hp := zj5 (b := x.z) h.2.2.1
 have e1 := z0t x l h
 have e2 := ynt x h
 have e3 := z0r (zba x.a x.z).1 l hp
 have e4 := z75 (zby x l).1 (zci (zba x.a x.z).1 l).1 (zqo _ _) (zqa _ _ hp)
 unfold zm4
 generalize zby x l = g at *
 generalize zba x.a x.z = p at *
 obtain ⟨p, pb⟩ := p
 simp only at e2 e3 e4 ⊢
 generalize zci p l = q at *
 obtain ⟨g, gb⟩ := g
 obtain ⟨q, qb⟩ := q
 simp only at e1 e3 e4 ⊢
 generalize zek g q = m at *
 obtain ⟨m, mb⟩ := m
 simp only [frc, slc, cnd] at e1 e2 e3 e4 ⊢
 cases gb <;> cases pb <;> cases qb <;> cases mb <;> simp [zwz, zw0, e1, e2, e3, e4]
theorem yn2 (a b : Cnd) : RUN T zol [.agg (cnd a), .agg (cnd b)] = some ([bv (zh3 a b)], []) := by
 refine zai z5u rfl ?_
 have e1 := z70 a.f b.f
 have e2 := z70 a.b b.b
 have e3 := z7v (zb2 a.f b.f) (zb2 a.b b.b)
 have hr : zam 8 2 = true := by decide
 have e4 : zh3 a b = decide ((if zb2 a.f b.f = 0 then zb2 a.b b.b else zb2 a.f b.f) < 0) := by
  unfold zh3 zb2
  rw [Bool.eq_iff_iff]
  simp only [Bool.or_eq_true, Bool.and_eq_true, decide_eq_true_eq]
  split <;> split <;> (try split) <;> (try split) <;> (try split) <;> (try split) <;> omega
 rw [e4]
 simp [zwv, zww, cnd, e1, e2, e3, hr]
theorem yn3 (a b : Cnd) : RUN T zoo [.agg (cnd a), .agg (cnd b)] = some ([bv (zh3 a b)], []) := by
 refine zai z50 rfl ?_
 unfold zh3
 by_cases h1 : a.f < b.f
 ·simp [zr1, zr2, cnd, h1]
 ·by_cases h2 : a.f = b.f <;> simp [zr1, zr2, cnd, h1, h2]
theorem yn4 (a b : Cnd) (l : Int) (ha : zd2 a) (hb : zd2 b) : RUN T zkx [.agg (cnd a), .agg (cnd b), iv l] = some ([bv (zdf a b l)], []) := by
 have e1 := z0s a l ha
 have e2 := z0s b l hb
 have e3 := z74 (zby a l).1 (zby b l).1 (zqo _ _) (zqo _ _)
 have e4 := yn2 a b
 unfold zdf
 generalize zby a l = g at *
 generalize zby b l = q at *
 generalize zh3 a b = le at *
 obtain ⟨g, gb⟩ := g
 obtain ⟨q, qb⟩ := q
 simp only at e1 e2 e3 ⊢
 generalize zek g q = m at *
 obtain ⟨m, mb⟩ := m
 simp only [frc, cnd] at e1 e2 e3 e4 ⊢
 refine zai z4z rfl ?_
 cases gb <;> cases qb <;> cases mb <;> by_cases h1 : 0 < m <;> by_cases h2 : m = 0 <;> simp [zvf, zvg, e1, e2, e3, e4, h1, h2]
theorem yn5 (a b : Cnd) (l : Int) (ha : zd2 a) (hb : zd2 b) : RUN T zjh [.agg (cnd a), .agg (cnd b), iv l] = some ([bv (zdf a b l)], []) := by
 have e1 := z0t a l ha
 have e2 := z0t b l hb
 have e3 := z75 (zby a l).1 (zby b l).1 (zqo _ _) (zqo _ _)
 have e4 := yn3 a b
 unfold zdf
 generalize zby a l = g at *
 generalize zby b l = q at *
 generalize zh3 a b = le at *
 obtain ⟨g, gb⟩ := g
 obtain ⟨q, qb⟩ := q
 simp only at e1 e2 e3 ⊢
 generalize zek g q = m at *
 obtain ⟨m, mb⟩ := m
 simp only [frc, cnd] at e1 e2 e3 e4 ⊢
 refine zai z44 rfl ?_
 cases gb <;> cases qb <;> cases mb <;> by_cases h1 : 0 < m <;> by_cases h2 : m = 0 <;> simp [zvo, zvp, e1, e2, e3, e4, h1, h2]
def zc2 (c : Cfg) (b : Bd) (x : Cnd) : Bool := zcm c && ((zfq c b x).2.2 && (decide (c.rw ≤ x.a.n) && (decide (c.rw ≤ x.z.n) && (zms (zi5 c x.f) (zfq c b x).1 (zfq c b x).2.1 && zm4 x c.la))))
theorem z79 (c : Cfg) (b : Bd) (x : Cnd) (h : zd2 x) (hl : c.sg.length ≤ 9223372036854775807) : RUN T zje [cfS c, .agg (bnd b), .agg (cnd x)] = some ([bv (zc2 c b x)], []) := by
 have e1 := ynu c b x h
 have e2 := z7f c hl
 have e3 := ynw c x.f hl
 have e5 := yn0 x c.la h
 unfold zc2
 generalize zfq c b x = p at *
 obtain ⟨p1, p2, pb⟩ := p
 have e4 := yny (zi5 c x.f) p1 p2
 simp only at e1 ⊢
 generalize zi5 c x.f = s at *
 generalize zms s p1 p2 = ab at *
 generalize zm4 x c.la = ib at *
 generalize zcm c = cb at *
 simp only [cnd, bnd] at e1 e5 ⊢
 refine zai z3q rfl ?_
 cases cb <;> cases pb <;> by_cases h1 : c.rw ≤ x.a.n <;> by_cases h2 : c.rw ≤ x.z.n <;> cases ab <;> simp [ztv, ztw, e1, e2, e3, e4, e5, h1, h2]
theorem yn6 (c : Cfg) (b : Bd) (x : Cnd) (h : zd2 x) (hl : c.sg.length ≤ 9223372036854775807) : RUN T zh6 [cfS c, .agg (bnd b), .agg (cnd x)] = some ([bv (zc2 c b x)], []) := by
 have e1 := ynv c b x h
 have e2 := z7g c hl
 have e3 := ynx c x.f hl
 have e5 := yn1 x c.la h
 unfold zc2
 generalize zfq c b x = p at *
 obtain ⟨p1, p2, pb⟩ := p
 have e4 := ynz (zi5 c x.f) p1 p2
 simp only at e1 ⊢
 generalize zi5 c x.f = s at *
 generalize zms s p1 p2 = ab at *
 generalize zm4 x c.la = ib at *
 generalize zcm c = cb at *
 simp only [cnd, bnd] at e1 e5 ⊢
 refine zai z43 rfl ?_
 cases cb <;> cases pb <;> by_cases h1 : c.rw ≤ x.a.n <;> by_cases h2 : c.rw ≤ x.z.n <;> cases ab <;> simp [zvm, zvn, e1, e2, e3, e4, e5, h1, h2]
def zbx (l : List Cnd) : List (List PV) := l.map cnd
@[simp] theorem y1e (l : List Cnd) : (zbx l).length = l.length := by simp [zbx]
theorem zs7 {l : List Cnd} {i : Nat} {x : Cnd} (h : l[i]? = some x) : (zbx l)[i]? = some (cnd x) := by simp [zbx, h]
def noB (c : Cfg) (b : Bd) (x y : Cnd) : Bool := !zc2 c b y || !zdf y x c.la
def zj9 (c : Cfg) (b : Bd) (l : List Cnd) (x : Cnd) : Bool := zc2 c b x && l.all (noB c b x)
def ziw : Cnd := ⟨0, 0, ⟨0, 0⟩, ⟨0, 0⟩⟩
def zeg (c : Cfg) (b : Bd) (l : List Cnd) : Cnd × Bool := match l.find? (zj9 c b l) with
 | some x => (x, true)
 | none => (ziw, false)
set_option maxHeartbeats 1000000 in
theorem yn7 (c : Cfg) (b : Bd) (l : List Cnd) (hl : l.length ≤ 1048576) (hc : c.sg.length ≤ 1048576) (hi : ∀ x ∈ l, zd2 x) : RUN T znp [cfS c, .agg (bnd b), .sl 6 (zbx l)] = some ([.agg (cnd (zeg c b l).1), bv (zeg c b l).2], []) := by
 have eM : ∀ x ∈ l, RUN T zh6 [cfS c, .agg (bnd b), .agg (cnd x)] = some ([bv (zc2 c b x)], []) := fun x hx => yn6 c b x (hi x hx) (by omega)
 have eB : ∀ x ∈ l, ∀ y ∈ l, RUN T zjh [.agg (cnd x), .agg (cnd y), iv c.la] = some ([bv (zdf x y c.la)], []) := fun x hx y hy => yn5 x y c.la (hi x hx) (hi y hy)
 obtain ⟨R, hR⟩ : ∃ R, R = zeg c b l := ⟨_, rfl⟩
 unfold zeg at hR
 rw [show zeg c b l = R by rw [hR]; rfl]
 simp only [bnd] at eM ⊢
 refine zai z34 rfl ?_
 simp [-getElem?_pos, zug, zuh]
 refine za3 (fun n st => ∃ i : Nat, i + n = l.length ∧ (l.drop i).find? (zj9 c b l) = l.find? (zj9 c b l) ∧ st.V 2 = .sl 6 (zbx l) ∧ st.V 3 = .ptr 0 none 0 0 0 ∧ st.V 4 = .ptr 1 none 0 0 0 ∧ st.V 6 = .ptr 2 none 0 0 0 ∧ st.V 8 = iv i ∧ st.S 0 = some (.box [iv c.ro, iv c.de, iv c.bi, iv c.la, iv c.rw, iv c.nu, iv c.dn, .sl 1 (zac c.sg)]) ∧ st.S 1 = some (.box [iv b.lo, iv b.hi]) ∧ st.S 2 = some (.box [iv 0, iv 0, iv 0, iv 0, iv 0, iv 0])) ?_ l.length _ ⟨0, by simp⟩
 rintro n st ⟨i, hin, hf, v2, v3, v4, v6, v8, hS0, hS1, hS2⟩
 by_cases h : i < l.length
 ·obtain ⟨x, hx⟩ : ∃ x, l[i]? = some x := ⟨_, List.getElem?_eq_getElem h⟩
  have hx' := zs7 hx
  have hxm := List.mem_of_getElem? hx
  have hws := wS h (by omega : l.length ≤ 9223372036854775807)
  rw [zfx hx, List.find?_cons] at hf
  have e1 := eM x hxm
  simp only [cnd] at e1
  have eB' : ∀ y ∈ l, RUN T zjh [.agg [iv y.f, iv y.b, iv y.a.n, iv y.a.g, iv y.z.n, iv y.z.g], .agg [iv x.f, iv x.b, iv x.a.n, iv x.a.g, iv x.z.n, iv x.z.g], iv c.la] = some ([bv (zdf y x c.la)], []) := fun y hy => eB y hy x hxm
  have eM' : ∀ y ∈ l, RUN T zh6 [cfS c, .agg [iv b.lo, iv b.hi], .agg [iv y.f, iv y.b, iv y.a.n, iv y.a.g, iv y.z.n, iv y.z.g]] = some ([bv (zc2 c b y)], []) := fun y hy => eM y hy
  clear eM eB
  obtain ⟨kb0, hkb⟩ : ∃ k, k = zj9 c b l x := ⟨_, rfl⟩
  rw [← hkb] at hf
  have hkb2 : kb0 = (zc2 c b x && (l.drop 0).all (noB c b x)) := by rw [hkb]; rfl
  clear hkb
  generalize hmx : zc2 c b x = mx at *
  simp [-getElem?_pos, zz6, v2, v3, v4, v6, v8, hS0, hS1, hS2, h, hx', cnd, e1]
  refine za3 (fun n' s => ∃ (j : Nat) (k : Bool), j + n' = l.length ∧ (k && (l.drop j).all (noB c b x)) = kb0 ∧ s.V 2 = .sl 6 (zbx l) ∧ s.V 3 = .ptr 0 none 0 0 0 ∧ s.V 4 = .ptr 1 none 0 0 0 ∧ s.V 6 = .ptr 2 none 0 0 0 ∧ s.V 8 = iv i ∧ s.V 9 = bv k ∧ s.V 10 = iv j ∧ s.S 0 = some (.box [iv c.ro, iv c.de, iv c.bi, iv c.la, iv c.rw, iv c.nu, iv c.dn, .sl 1 (zac c.sg)]) ∧ s.S 1 = some (.box [iv b.lo, iv b.hi]) ∧ s.S 2 = some (.box [iv 0, iv 0, iv 0, iv 0, iv 0, iv 0])) ?_ l.length _ ⟨0, mx, by omega, hkb2.symm, by simp [v2], by simp [v3], by simp [v4], by simp [v6], by simp [v8], by simp, by simp, by simp [hS0], by simp [hS1], by simp [hS2]⟩
  clear v2 v3 v4 v6 v8 hS0 hS1 hS2
  rintro n' s ⟨j, k, hj, hk, v2, v3, v4, v6, v8, v9, v10, hS0, hS1, hS2⟩
  by_cases hjl : j < l.length
  ·cases k with
   | true =>
    obtain ⟨y, hy⟩ : ∃ y, l[j]? = some y := ⟨_, List.getElem?_eq_getElem hjl⟩
    have hy' := zs7 hy
    have hym := List.mem_of_getElem? hy
    have hwj := wS hjl (by omega : l.length ≤ 9223372036854775807)
    have e2 := eM' y hym
    have e3 := eB' y hym
    rw [zfx hy, List.all_cons] at hk
    have hno : noB c b x y = (!zc2 c b y || !zdf y x c.la) := rfl
    rw [hno] at hk
    clear eM' eB' e1 hno
    generalize zc2 c b y = my at *
    generalize zdf y x c.la = by' at *
    cases my <;> cases by' <;> simp [-getElem?_pos, zq4, v2, v3, v4, v6, v8, hS0, hS1, hS2, v9, v10, hjl, h, hx', hy', cnd, e2, e3, hwj]
    all_goals first
     | exact zaq (n' - 1) (by omega) ⟨j + 1, true, by omega, (by simpa using hk), by simp [v2], by simp [v3], by simp [v4], by simp [v6], by simp [v8], by simp, by simp, by simp [hS0], by simp [hS1], by simp [hS2]⟩
     | exact zaq (n' - 1) (by omega) ⟨j + 1, false, by omega, (by simpa using hk), by simp [v2], by simp [v3], by simp [v4], by simp [v6], by simp [v8], by simp, by simp, by simp [hS0], by simp [hS1], by simp [hS2]⟩
   | false =>
    have hk0 : kb0 = false := by rw [← hk]; rfl
    subst hk0
    simp only at hf
    simp [-getElem?_pos, zq4, v2, v3, v4, v6, v8, hS0, hS1, hS2, v9, v10, hjl, hws]
    exact zaq (n - 1) (by omega) ⟨i + 1, by omega, hf, by simp [v2], by simp [v3], by simp [v4], by simp [v6], by simp, by simp [hS0], by simp [hS1], by simp [hS2]⟩
  ·rw [List.drop_eq_nil_of_le (by omega)] at hk
   simp only [List.all_nil, Bool.and_true] at hk
   subst hk
   cases k with
   | true =>
    simp only at hf
    rw [← hf] at hR
    simp only at hR
    subst hR
    simp [-getElem?_pos, zq4, v2, v3, v4, v6, v8, hS0, hS1, hS2, v9, v10, hjl, h, hx', cnd]
   | false =>
    simp only at hf
    simp [-getElem?_pos, zq4, v2, v3, v4, v6, v8, hS0, hS1, hS2, v9, v10, hjl, hws]
    exact zaq (n - 1) (by omega) ⟨i + 1, by omega, hf, by simp [v2], by simp [v3], by simp [v4], by simp [v6], by simp, by simp [hS0], by simp [hS1], by simp [hS2]⟩
 ·rw [List.drop_eq_nil_of_le (by omega)] at hf
  rw [← hf] at hR
  simp only [List.find?_nil] at hR
  subst hR
  simp [-getElem?_pos, zz6, v2, v6, v8, hS2, h, ziw, cnd]
theorem ysw (a : Wd) : zee a a = 0 := by
 have h : ∀ x, zb2 x x = 0 := fun x => by
  unfold zb2
  rw [if_neg (by omega), if_neg (by omega)]
 unfold zee
 rw [h, h, if_pos rfl]
theorem ytl (a : Wd) : zi7 a a = 0 := by
 unfold zi7
 rw [ysw]
 split <;> simp_all
theorem yqo (a : Fr) : (zek a a).1 = 0 := by
 unfold zek
 split
 ·rename_i h
  have : (zbh a a).1 = (zbh a a).2.1 := by
   unfold zbh
   split <;> rfl
  simp only
  rw [this, ytl]
 ·rfl
theorem yt8 (x : Cnd) (l : Int) : zdf x x l = false := by
 have h1 := yqo (zby x l).1
 have h2 : zh3 x x = false := by
  unfold zh3
  rw [decide_eq_false (show ¬ x.f < x.f by omega), decide_eq_false (show ¬ x.b < x.b by omega)]
  simp
 unfold zdf
 rw [h1, h2]
 simp
theorem ytk {p q : Cnd → Bool} (l : List Cnd) : (l.filter p).all q = l.all fun y => !p y || q y := by
 induction l with
 | nil => rfl
 | cons y l ih =>
  simp only [List.filter_cons, List.all_cons]
  cases h : p y with
  | true => simp [ih]
  | false => simp [ih]
theorem ysp {p q : Cnd → Bool} (l : List Cnd) : (l.filter p).find? q = l.find? fun x => p x && q x := by
 induction l with
 | nil => rfl
 | cons y l ih =>
  simp only [List.filter_cons, List.find?_cons]
  cases h : p y with
  | true =>
   simp only [if_true, List.find?_cons, Bool.true_and]
   cases q y <;> simp [ih]
  | false => simp [ih]
theorem ysc (c : Cfg) (b : Bd) (l : List Cnd) : l.find? (zj9 c b l) = (l.filter (zc2 c b)).find? fun x => (l.filter (zc2 c b)).all fun y => !zdf y x c.la := by
 rw [ysp]
 congr 1
 funext x
 unfold zj9
 rw [ytk]
 rfl
set_option maxHeartbeats 2000000 in
theorem yn8 (c : Cfg) (b : Bd) (l : List Cnd) (hl : l.length ≤ 1048576) (hc : c.sg.length ≤ 1048576) (hi : ∀ x ∈ l, zd2 x) : RUN T znm [cfS c, .agg (bnd b), .sl 6 (zbx l)] = some ([.agg (cnd (zeg c b l).1), bv (zeg c b l).2], []) := by
 have eM : ∀ x ∈ l, RUN T zje [cfS c, .agg [iv b.lo, iv b.hi], .agg [iv x.f, iv x.b, iv x.a.n, iv x.a.g, iv x.z.n, iv x.z.g]] = some ([bv (zc2 c b x)], []) := fun x hx => z79 c b x (hi x hx) (by omega)
 have eB : ∀ x ∈ l, ∀ y ∈ l, RUN T zkx [.agg [iv x.f, iv x.b, iv x.a.n, iv x.a.g, iv x.z.n, iv x.z.g], .agg [iv y.f, iv y.b, iv y.a.n, iv y.a.g, iv y.z.n, iv y.z.g], iv c.la] = some ([bv (zdf x y c.la)], []) := fun x hx y hy => yn4 x y c.la (hi x hx) (hi y hy)
 obtain ⟨R, hR⟩ : ∃ R, R = zeg c b l := ⟨_, rfl⟩
 unfold zeg at hR
 rw [show zeg c b l = R by rw [hR]; rfl]
 rw [ysc] at hR
 simp only [bnd]
 refine zai z31 rfl ?_
 have hr0 : zam 48 0 = true := by decide
 have hr1 : zam 48 1 = true := by decide
 simp [-getElem?_pos, zua, zub, hr0]
 refine za3 (fun n st => ∃ (i o e : Nat) (m : List Cnd), i + n = l.length ∧ m = (l.take i).filter (zc2 c b) ∧ st.V 3 = .ptr 0 none 0 0 0 ∧ st.V 4 = .ptr 1 none 0 0 0 ∧ st.V 6 = .ptr 2 none 0 0 0 ∧ st.V 8 = .ref o none e 0 m.length ∧ st.V 17 = .sl 6 (zbx l) ∧ st.V 18 = iv l.length ∧ st.V 19 = iv i ∧ 2 < o ∧ o < st.nx ∧ st.S 0 = some (.box [iv c.ro, iv c.de, iv c.bi, iv c.la, iv c.rw, iv c.nu, iv c.dn, .sl 1 (zac c.sg)]) ∧ st.S 1 = some (.box [iv b.lo, iv b.hi]) ∧ st.S 2 = some (.box [iv 0, iv 0, iv 0, iv 0, iv 0, iv 0]) ∧ st.S o = some (.row 6 (zbx m))) ?_ l.length _ ⟨0, 3, 0, [], by simp [zbx]⟩
 rintro n st ⟨i, o, e, m, hin, hm, v3, v4, v6, v8, v17, v18, v19, ho, hox, hS0, hS1, hS2, hSo⟩
 obtain ⟨a01, a02, a03, a04⟩ := fr (show 0 < st.nx by omega)
 obtain ⟨a11, a12, a13, a14⟩ := fr (show 1 < st.nx by omega)
 obtain ⟨a21, a22, a23, a24⟩ := fr (show 2 < st.nx by omega)
 obtain ⟨a31, a32, a33, a34⟩ := fr (show 0 < o by omega)
 obtain ⟨a41, a42, a43, a44⟩ := fr (show 1 < o by omega)
 obtain ⟨a51, a52, a53, a54⟩ := fr (show 2 < o by omega)
 obtain ⟨a61, a62, a63, a64⟩ := fr (show o < st.nx by omega)
 obtain ⟨a71, a72, a73, a74⟩ := fr (show o < st.nx + 1 by omega)
 by_cases h : i < l.length
 ·obtain ⟨x, hx⟩ : ∃ x, l[i]? = some x := ⟨_, List.getElem?_eq_getElem h⟩
  have hx' := zs7 hx
  have hxm := List.mem_of_getElem? hx
  have hws := wS h (by omega : l.length ≤ 9223372036854775807)
  have e1 := eM x hxm
  have hml : m.length ≤ i := by rw [hm]; exact Nat.le_trans (List.length_filter_le _ _) (by simp; omega)
  have hr48 : zam 48 (m.length + 1) = true := by simp [zam]; omega
  have htk : (l.take (i + 1)).filter (zc2 c b) = if zc2 c b x = true then m ++ [x] else m := by
   rw [List.take_succ, hx, List.filter_append, ← hm]
   by_cases c' : zc2 c b x = true <;> simp [c']
  have hsn : zbx m ++ [[iv x.f, iv x.b, iv x.a.n, iv x.a.g, iv x.z.n, iv x.z.g]] = zbx (m ++ [x]) := by simp [zbx, cnd]
  clear eM eB hm
  cases hmx : zc2 c b x with
  | true =>
   rw [hmx] at e1
   rw [if_pos hmx] at htk
   simp [-getElem?_pos, zt9, v3, v4, v6, v8, v17, v18, v19, hS0, hS1, hS2, hSo, h, hx', cnd, e1, hws, hr1, hr48, hsn, a01, a02, a03, a04, a11, a12, a13, a14, a21, a22, a23, a24, a31, a32, a33, a34, a41, a42, a43, a44, a51, a52, a53, a54, a61, a62, a63, a64, a71, a72, a73, a74]
   exact zaq (n - 1) (by omega) ⟨i + 1, st.nx + 2, st.ep, m ++ [x], by omega, htk.symm, by simp [v3], by simp [v4], by simp [v6], by simp, by simp [v17], by simp [v18], by simp, by omega, by simp, by simp [a01, a02, a03, a04, a11, a12, a13, a14, a21, a22, a23, a24, a31, a32, a33, a34, a41, a42, a43, a44, a51, a52, a53, a54, a61, a62, a63, a64, a71, a72, a73, a74, hS0], by simp [a01, a02, a03, a04, a11, a12, a13, a14, a21, a22, a23, a24, a31, a32, a33, a34, a41, a42, a43, a44, a51, a52, a53, a54, a61, a62, a63, a64, a71, a72, a73, a74, hS1], by simp [a01, a02, a03, a04, a11, a12, a13, a14, a21, a22, a23, a24, a31, a32, a33, a34, a41, a42, a43, a44, a51, a52, a53, a54, a61, a62, a63, a64, a71, a72, a73, a74, hS2], by simp⟩
  | false =>
   rw [hmx] at e1
   rw [if_neg (by simp [hmx])] at htk
   simp [-getElem?_pos, zt9, v3, v4, v6, v8, v17, v18, v19, hS0, hS1, hS2, hSo, h, hx', cnd, e1, hws, a01, a02, a03, a04, a11, a12, a13, a14, a21, a22, a23, a24, a31, a32, a33, a34, a41, a42, a43, a44, a51, a52, a53, a54, a61, a62, a63, a64, a71, a72, a73, a74]
   exact zaq (n - 1) (by omega) ⟨i + 1, o, e, m, by omega, htk.symm, by simp [v3], by simp [v4], by simp [v6], by simp [v8], by simp [v17], by simp [v18], by simp, by omega, by simp; omega, by simp [a01, a02, a03, a04, a11, a12, a13, a14, a21, a22, a23, a24, a31, a32, a33, a34, a41, a42, a43, a44, a51, a52, a53, a54, a61, a62, a63, a64, a71, a72, a73, a74, hS0], by simp [a01, a02, a03, a04, a11, a12, a13, a14, a21, a22, a23, a24, a31, a32, a33, a34, a41, a42, a43, a44, a51, a52, a53, a54, a61, a62, a63, a64, a71, a72, a73, a74, hS1], by simp [a01, a02, a03, a04, a11, a12, a13, a14, a21, a22, a23, a24, a31, a32, a33, a34, a41, a42, a43, a44, a51, a52, a53, a54, a61, a62, a63, a64, a71, a72, a73, a74, hS2], by simp [a01, a02, a03, a04, a11, a12, a13, a14, a21, a22, a23, a24, a31, a32, a33, a34, a41, a42, a43, a44, a51, a52, a53, a54, a61, a62, a63, a64, a71, a72, a73, a74, hSo]⟩
 ·rw [List.take_of_length_le (by omega)] at hm
  rw [← hm] at hR
  have hmem : ∀ y ∈ m, y ∈ l := fun y hy => by rw [hm] at hy; exact (List.mem_filter.mp hy).1
  have hml : m.length ≤ 1048576 := by rw [hm]; exact Nat.le_trans (List.length_filter_le _ _) hl
  simp [-getElem?_pos, zt9, v8, v18, v19, hSo, h]
  obtain ⟨q, hq⟩ : ∃ q : Cnd → Bool, q = fun x => m.all fun y => !zdf y x c.la := ⟨_, rfl⟩
  rw [← hq] at hR
  clear eM hm hin
  refine za3 (fun n st => ∃ i : Nat, i + n = m.length ∧ (m.drop i).find? q = m.find? q ∧ st.V 3 = .ptr 0 none 0 0 0 ∧ st.V 4 = .ptr 1 none 0 0 0 ∧ st.V 6 = .ptr 2 none 0 0 0 ∧ st.V 8 = .ref o none e 0 m.length ∧ st.V 32 = .ref o none e 0 m.length ∧ st.V 33 = iv m.length ∧ st.V 34 = iv i ∧ 2 < o ∧ o < st.nx ∧ st.S 0 = some (.box [iv c.ro, iv c.de, iv c.bi, iv c.la, iv c.rw, iv c.nu, iv c.dn, .sl 1 (zac c.sg)]) ∧ st.S 1 = some (.box [iv b.lo, iv b.hi]) ∧ st.S 2 = some (.box [iv 0, iv 0, iv 0, iv 0, iv 0, iv 0]) ∧ st.S o = some (.row 6 (zbx m))) ?_ m.length _ ⟨0, by simp, by simp, by simp [v3], by simp [v4], by simp [v6], by simp [v8], by simp, by simp, by simp, ho, by simp [hox], by simp [hS0], by simp [hS1], by simp [hS2], by simp [hSo]⟩
  clear v3 v4 v6 v8 v17 v18 v19 hS0 hS1 hS2 hSo hox ho
  clear a01 a02 a03 a04 a11 a12 a13 a14 a21 a22 a23 a24 a31 a32 a33 a34 a41 a42 a43 a44 a51 a52 a53 a54 a61 a62 a63 a64 a71 a72 a73 a74
  rintro n st ⟨i, hin, hf, v3, v4, v6, v8, v32, v33, v34, ho, hox, hS0, hS1, hS2, hSo⟩
  obtain ⟨b01, b02, b03, b04⟩ := fr (show 0 < st.nx by omega)
  obtain ⟨b11, b12, b13, b14⟩ := fr (show 1 < st.nx by omega)
  obtain ⟨b21, b22, b23, b24⟩ := fr (show 2 < st.nx by omega)
  obtain ⟨b31, b32, b33, b34⟩ := fr (show 0 < o by omega)
  obtain ⟨b41, b42, b43, b44⟩ := fr (show 1 < o by omega)
  obtain ⟨b51, b52, b53, b54⟩ := fr (show 2 < o by omega)
  obtain ⟨b61, b62, b63, b64⟩ := fr (show o < st.nx by omega)
  by_cases h : i < m.length
  ·obtain ⟨x, hx⟩ : ∃ x, m[i]? = some x := ⟨_, List.getElem?_eq_getElem h⟩
   have hx' := zs7 hx
   have hxm := List.mem_of_getElem? hx
   have hws := wS h (by omega : m.length ≤ 9223372036854775807)
   rw [zfx hx, List.find?_cons] at hf
   obtain ⟨kb0, hkb⟩ : ∃ k, k = q x := ⟨_, rfl⟩
   rw [← hkb] at hf
   have hkb2 : kb0 = (true && (m.drop 0).all fun y => !zdf y x c.la) := by rw [hkb, hq]; rfl
   clear hkb hq
   simp [-getElem?_pos, zz5, v3, v4, v6, v8, v32, v33, v34, hS0, hS1, hS2, hSo, h, hx', cnd, b01, b02, b03, b04, b11, b12, b13, b14, b21, b22, b23, b24, b31, b32, b33, b34, b41, b42, b43, b44, b51, b52, b53, b54, b61, b62, b63, b64]
   generalize hpp : st.nx = pp at *
   refine za3 (fun n' s => ∃ (j : Nat) (k : Bool), j + n' = m.length ∧ (k && (m.drop j).all fun y => !zdf y x c.la) = kb0 ∧ s.V 3 = .ptr 0 none 0 0 0 ∧ s.V 4 = .ptr 1 none 0 0 0 ∧ s.V 6 = .ptr 2 none 0 0 0 ∧ s.V 8 = .ref o none e 0 m.length ∧ s.V 32 = .ref o none e 0 m.length ∧ s.V 33 = iv m.length ∧ s.V 34 = iv i ∧ s.V 11 = iv i ∧ s.V 12 = .ptr pp none st.ep 0 0 ∧ s.V 13 = bv k ∧ s.V 39 = .ref o none e 0 m.length ∧ s.V 40 = iv m.length ∧ s.V 41 = iv j ∧ pp < s.nx ∧ s.S 0 = some (.box [iv c.ro, iv c.de, iv c.bi, iv c.la, iv c.rw, iv c.nu, iv c.dn, .sl 1 (zac c.sg)]) ∧ s.S 1 = some (.box [iv b.lo, iv b.hi]) ∧ s.S 2 = some (.box [iv 0, iv 0, iv 0, iv 0, iv 0, iv 0]) ∧ s.S o = some (.row 6 (zbx m)) ∧ s.S pp = some (.box [iv x.f, iv x.b, iv x.a.n, iv x.a.g, iv x.z.n, iv x.z.g])) ?_ m.length _ ⟨0, true, by omega, hkb2.symm, by simp [v3], by simp [v4], by simp [v6], by simp [v8], by simp [v32], by simp [v33], by simp [v34], by simp, by simp, by simp, by simp, by simp, by simp, by simp, by simp [b01, b02, b03, b04, b11, b12, b13, b14, b21, b22, b23, b24, b31, b32, b33, b34, b41, b42, b43, b44, b51, b52, b53, b54, b61, b62, b63, b64, hS0], by simp [b01, b02, b03, b04, b11, b12, b13, b14, b21, b22, b23, b24, b31, b32, b33, b34, b41, b42, b43, b44, b51, b52, b53, b54, b61, b62, b63, b64, hS1], by simp [b01, b02, b03, b04, b11, b12, b13, b14, b21, b22, b23, b24, b31, b32, b33, b34, b41, b42, b43, b44, b51, b52, b53, b54, b61, b62, b63, b64, hS2], by simp [b01, b02, b03, b04, b11, b12, b13, b14, b21, b22, b23, b24, b31, b32, b33, b34, b41, b42, b43, b44, b51, b52, b53, b54, b61, b62, b63, b64, hSo], by simp [b01, b02, b03, b04, b11, b12, b13, b14, b21, b22, b23, b24, b31, b32, b33, b34, b41, b42, b43, b44, b51, b52, b53, b54, b61, b62, b63, b64]⟩
   clear v3 v4 v6 v8 v32 v33 v34 hS0 hS1 hS2 hSo
   rintro n' s ⟨j, k, hj, hk, v3, v4, v6, v8, v32, v33, v34, v11, v12, v13, v39, v40, v41, hpn, hS0, hS1, hS2, hSo, hSp⟩
   obtain ⟨d01, d02, d03, d04⟩ := fr (show 0 < s.nx by omega)
   obtain ⟨d11, d12, d13, d14⟩ := fr (show 1 < s.nx by omega)
   obtain ⟨d21, d22, d23, d24⟩ := fr (show 2 < s.nx by omega)
   obtain ⟨d31, d32, d33, d34⟩ := fr (show 0 < o by omega)
   obtain ⟨d41, d42, d43, d44⟩ := fr (show 1 < o by omega)
   obtain ⟨d51, d52, d53, d54⟩ := fr (show 2 < o by omega)
   obtain ⟨d61, d62, d63, d64⟩ := fr (show o < s.nx by omega)
   obtain ⟨d71, d72, d73, d74⟩ := fr (show 0 < pp by omega)
   obtain ⟨d81, d82, d83, d84⟩ := fr (show 1 < pp by omega)
   obtain ⟨d91, d92, d93, d94⟩ := fr (show 2 < pp by omega)
   obtain ⟨d101, d102, d103, d104⟩ := fr (show o < pp by omega)
   obtain ⟨d111, d112, d113, d114⟩ := fr (show pp < s.nx by omega)
   by_cases hjl : j < m.length
   ·obtain ⟨y, hy⟩ : ∃ y, m[j]? = some y := ⟨_, List.getElem?_eq_getElem hjl⟩
    have hy' := zs7 hy
    have hym := List.mem_of_getElem? hy
    have hwj := wS hjl (by omega : m.length ≤ 9223372036854775807)
    have e3 := eB y (hmem y hym) x (hmem x hxm)
    rw [zfx hy, List.all_cons] at hk
    clear eB
    cases k with
    | false =>
     have hk' : (false && (m.drop (j + 1)).all fun y => !zdf y x c.la) = kb0 := by rw [← hk]; rfl
     simp [-getElem?_pos, zlw, v3, v4, v6, v8, v11, v12, v13, v39, v40, v41, hS0, hS1, hS2, hSo, hSp, hjl, hy', cnd, hwj, d01, d02, d03, d04, d11, d12, d13, d14, d21, d22, d23, d24, d31, d32, d33, d34, d41, d42, d43, d44, d51, d52, d53, d54, d61, d62, d63, d64, d71, d72, d73, d74, d81, d82, d83, d84, d91, d92, d93, d94, d101, d102, d103, d104, d111, d112, d113, d114]
     exact zaq (n' - 1) (by omega) ⟨j + 1, false, by omega, hk', by simp [v3], by simp [v4], by simp [v6], by simp [v8], by simp [v32], by simp [v33], by simp [v34], by simp [v11], by simp [v12], by simp [v13], by simp [v39], by simp [v40], by simp, by simp; omega, by simp [d01, d02, d03, d04, d11, d12, d13, d14, d21, d22, d23, d24, d31, d32, d33, d34, d41, d42, d43, d44, d51, d52, d53, d54, d61, d62, d63, d64, d71, d72, d73, d74, d81, d82, d83, d84, d91, d92, d93, d94, d101, d102, d103, d104, d111, d112, d113, d114, hS0], by simp [d01, d02, d03, d04, d11, d12, d13, d14, d21, d22, d23, d24, d31, d32, d33, d34, d41, d42, d43, d44, d51, d52, d53, d54, d61, d62, d63, d64, d71, d72, d73, d74, d81, d82, d83, d84, d91, d92, d93, d94, d101, d102, d103, d104, d111, d112, d113, d114, hS1], by simp [d01, d02, d03, d04, d11, d12, d13, d14, d21, d22, d23, d24, d31, d32, d33, d34, d41, d42, d43, d44, d51, d52, d53, d54, d61, d62, d63, d64, d71, d72, d73, d74, d81, d82, d83, d84, d91, d92, d93, d94, d101, d102, d103, d104, d111, d112, d113, d114, hS2], by simp [d01, d02, d03, d04, d11, d12, d13, d14, d21, d22, d23, d24, d31, d32, d33, d34, d41, d42, d43, d44, d51, d52, d53, d54, d61, d62, d63, d64, d71, d72, d73, d74, d81, d82, d83, d84, d91, d92, d93, d94, d101, d102, d103, d104, d111, d112, d113, d114, hSo], by simp [d01, d02, d03, d04, d11, d12, d13, d14, d21, d22, d23, d24, d31, d32, d33, d34, d41, d42, d43, d44, d51, d52, d53, d54, d61, d62, d63, d64, d71, d72, d73, d74, d81, d82, d83, d84, d91, d92, d93, d94, d101, d102, d103, d104, d111, d112, d113, d114, hSp]⟩
    | true =>
     by_cases hij : j = i
     ·have hyx : y = x := by
       subst hij
       rw [hx] at hy; exact (Option.some.inj hy).symm
      subst hyx
      rw [yt8] at hk
      have hk' : (true && (m.drop (j + 1)).all fun z => !zdf z y c.la) = kb0 := by rw [← hk]; rfl
      subst hij
      simp [-getElem?_pos, zlw, v3, v4, v6, v8, v11, v12, v13, v39, v40, v41, hS0, hS1, hS2, hSo, hSp, hjl, hy', cnd, hwj, d01, d02, d03, d04, d11, d12, d13, d14, d21, d22, d23, d24, d31, d32, d33, d34, d41, d42, d43, d44, d51, d52, d53, d54, d61, d62, d63, d64, d71, d72, d73, d74, d81, d82, d83, d84, d91, d92, d93, d94, d101, d102, d103, d104, d111, d112, d113, d114]
      exact zaq (n' - 1) (by omega) ⟨j + 1, true, by omega, hk', by simp [v3], by simp [v4], by simp [v6], by simp [v8], by simp [v32], by simp [v33], by simp [v34], by simp [v11], by simp [v12], by simp [v13], by simp [v39], by simp [v40], by simp, by simp; omega, by simp [d01, d02, d03, d04, d11, d12, d13, d14, d21, d22, d23, d24, d31, d32, d33, d34, d41, d42, d43, d44, d51, d52, d53, d54, d61, d62, d63, d64, d71, d72, d73, d74, d81, d82, d83, d84, d91, d92, d93, d94, d101, d102, d103, d104, d111, d112, d113, d114, hS0], by simp [d01, d02, d03, d04, d11, d12, d13, d14, d21, d22, d23, d24, d31, d32, d33, d34, d41, d42, d43, d44, d51, d52, d53, d54, d61, d62, d63, d64, d71, d72, d73, d74, d81, d82, d83, d84, d91, d92, d93, d94, d101, d102, d103, d104, d111, d112, d113, d114, hS1], by simp [d01, d02, d03, d04, d11, d12, d13, d14, d21, d22, d23, d24, d31, d32, d33, d34, d41, d42, d43, d44, d51, d52, d53, d54, d61, d62, d63, d64, d71, d72, d73, d74, d81, d82, d83, d84, d91, d92, d93, d94, d101, d102, d103, d104, d111, d112, d113, d114, hS2], by simp [d01, d02, d03, d04, d11, d12, d13, d14, d21, d22, d23, d24, d31, d32, d33, d34, d41, d42, d43, d44, d51, d52, d53, d54, d61, d62, d63, d64, d71, d72, d73, d74, d81, d82, d83, d84, d91, d92, d93, d94, d101, d102, d103, d104, d111, d112, d113, d114, hSo], by simp [d01, d02, d03, d04, d11, d12, d13, d14, d21, d22, d23, d24, d31, d32, d33, d34, d41, d42, d43, d44, d51, d52, d53, d54, d61, d62, d63, d64, d71, d72, d73, d74, d81, d82, d83, d84, d91, d92, d93, d94, d101, d102, d103, d104, d111, d112, d113, d114, hSp]⟩
     ·have h1 : ((j : Int) = i) = False := eq_false (by omega)
      have h2 : ((i : Int) = j) = False := eq_false (by omega)
      have hji : ¬ i = j := fun e => hij e.symm
      generalize zdf y x c.la = bb at *
      cases bb with
      | true =>
       have hk' : (false && (m.drop (j + 1)).all fun y => !zdf y x c.la) = kb0 := by rw [← hk]; rfl
       simp [-getElem?_pos, zlw, v3, v4, v6, v8, v11, v12, v13, v39, v40, v41, hS0, hS1, hS2, hSo, hSp, hjl, hy', cnd, hwj, d01, d02, d03, d04, d11, d12, d13, d14, d21, d22, d23, d24, d31, d32, d33, d34, d41, d42, d43, d44, d51, d52, d53, d54, d61, d62, d63, d64, d71, d72, d73, d74, d81, d82, d83, d84, d91, d92, d93, d94, d101, d102, d103, d104, d111, d112, d113, d114, h1, h2, hij, hji, e3]
       exact zaq (n' - 1) (by omega) ⟨j + 1, false, by omega, hk', by simp [v3], by simp [v4], by simp [v6], by simp [v8], by simp [v32], by simp [v33], by simp [v34], by simp [v11], by simp [v12], by simp [v13], by simp [v39], by simp [v40], by simp, by simp; omega, by simp [d01, d02, d03, d04, d11, d12, d13, d14, d21, d22, d23, d24, d31, d32, d33, d34, d41, d42, d43, d44, d51, d52, d53, d54, d61, d62, d63, d64, d71, d72, d73, d74, d81, d82, d83, d84, d91, d92, d93, d94, d101, d102, d103, d104, d111, d112, d113, d114, hS0], by simp [d01, d02, d03, d04, d11, d12, d13, d14, d21, d22, d23, d24, d31, d32, d33, d34, d41, d42, d43, d44, d51, d52, d53, d54, d61, d62, d63, d64, d71, d72, d73, d74, d81, d82, d83, d84, d91, d92, d93, d94, d101, d102, d103, d104, d111, d112, d113, d114, hS1], by simp [d01, d02, d03, d04, d11, d12, d13, d14, d21, d22, d23, d24, d31, d32, d33, d34, d41, d42, d43, d44, d51, d52, d53, d54, d61, d62, d63, d64, d71, d72, d73, d74, d81, d82, d83, d84, d91, d92, d93, d94, d101, d102, d103, d104, d111, d112, d113, d114, hS2], by simp [d01, d02, d03, d04, d11, d12, d13, d14, d21, d22, d23, d24, d31, d32, d33, d34, d41, d42, d43, d44, d51, d52, d53, d54, d61, d62, d63, d64, d71, d72, d73, d74, d81, d82, d83, d84, d91, d92, d93, d94, d101, d102, d103, d104, d111, d112, d113, d114, hSo], by simp [d01, d02, d03, d04, d11, d12, d13, d14, d21, d22, d23, d24, d31, d32, d33, d34, d41, d42, d43, d44, d51, d52, d53, d54, d61, d62, d63, d64, d71, d72, d73, d74, d81, d82, d83, d84, d91, d92, d93, d94, d101, d102, d103, d104, d111, d112, d113, d114, hSp]⟩
      | false =>
       have hk' : (true && (m.drop (j + 1)).all fun y => !zdf y x c.la) = kb0 := by rw [← hk]; rfl
       simp [-getElem?_pos, zlw, v3, v4, v6, v8, v11, v12, v13, v39, v40, v41, hS0, hS1, hS2, hSo, hSp, hjl, hy', cnd, hwj, d01, d02, d03, d04, d11, d12, d13, d14, d21, d22, d23, d24, d31, d32, d33, d34, d41, d42, d43, d44, d51, d52, d53, d54, d61, d62, d63, d64, d71, d72, d73, d74, d81, d82, d83, d84, d91, d92, d93, d94, d101, d102, d103, d104, d111, d112, d113, d114, h1, h2, hij, hji, e3]
       exact zaq (n' - 1) (by omega) ⟨j + 1, true, by omega, hk', by simp [v3], by simp [v4], by simp [v6], by simp [v8], by simp [v32], by simp [v33], by simp [v34], by simp [v11], by simp [v12], by simp [v13], by simp [v39], by simp [v40], by simp, by simp; omega, by simp [d01, d02, d03, d04, d11, d12, d13, d14, d21, d22, d23, d24, d31, d32, d33, d34, d41, d42, d43, d44, d51, d52, d53, d54, d61, d62, d63, d64, d71, d72, d73, d74, d81, d82, d83, d84, d91, d92, d93, d94, d101, d102, d103, d104, d111, d112, d113, d114, hS0], by simp [d01, d02, d03, d04, d11, d12, d13, d14, d21, d22, d23, d24, d31, d32, d33, d34, d41, d42, d43, d44, d51, d52, d53, d54, d61, d62, d63, d64, d71, d72, d73, d74, d81, d82, d83, d84, d91, d92, d93, d94, d101, d102, d103, d104, d111, d112, d113, d114, hS1], by simp [d01, d02, d03, d04, d11, d12, d13, d14, d21, d22, d23, d24, d31, d32, d33, d34, d41, d42, d43, d44, d51, d52, d53, d54, d61, d62, d63, d64, d71, d72, d73, d74, d81, d82, d83, d84, d91, d92, d93, d94, d101, d102, d103, d104, d111, d112, d113, d114, hS2], by simp [d01, d02, d03, d04, d11, d12, d13, d14, d21, d22, d23, d24, d31, d32, d33, d34, d41, d42, d43, d44, d51, d52, d53, d54, d61, d62, d63, d64, d71, d72, d73, d74, d81, d82, d83, d84, d91, d92, d93, d94, d101, d102, d103, d104, d111, d112, d113, d114, hSo], by simp [d01, d02, d03, d04, d11, d12, d13, d14, d21, d22, d23, d24, d31, d32, d33, d34, d41, d42, d43, d44, d51, d52, d53, d54, d61, d62, d63, d64, d71, d72, d73, d74, d81, d82, d83, d84, d91, d92, d93, d94, d101, d102, d103, d104, d111, d112, d113, d114, hSp]⟩
   ·rw [List.drop_eq_nil_of_le (by omega)] at hk
    simp only [List.all_nil, Bool.and_true] at hk
    subst hk
    cases k with
    | true =>
     simp only at hf
     rw [← hf] at hR
     simp only at hR
     subst hR
     simp [-getElem?_pos, zlw, v3, v4, v6, v8, v11, v12, v13, v39, v40, v41, hS0, hS1, hS2, hSo, hSp, hjl, cnd, d01, d02, d03, d04, d11, d12, d13, d14, d21, d22, d23, d24, d31, d32, d33, d34, d41, d42, d43, d44, d51, d52, d53, d54, d61, d62, d63, d64, d71, d72, d73, d74, d81, d82, d83, d84, d91, d92, d93, d94, d101, d102, d103, d104, d111, d112, d113, d114]
    | false =>
     simp only at hf
     simp [-getElem?_pos, zlw, v3, v4, v6, v8, v11, v12, v13, v34, v39, v40, v41, hS0, hS1, hS2, hSo, hSp, hjl, hws, d01, d02, d03, d04, d11, d12, d13, d14, d21, d22, d23, d24, d31, d32, d33, d34, d41, d42, d43, d44, d51, d52, d53, d54, d61, d62, d63, d64, d71, d72, d73, d74, d81, d82, d83, d84, d91, d92, d93, d94, d101, d102, d103, d104, d111, d112, d113, d114]
     exact zaq (n - 1) (by omega) ⟨i + 1, by omega, hf, by simp [v3], by simp [v4], by simp [v6], by simp [v8], by simp [v32], by simp [v33], by simp, ho, by simp; omega, by simp [hS0], by simp [hS1], by simp [hS2], by simp [hSo]⟩
  ·rw [List.drop_eq_nil_of_le (by omega)] at hf
   rw [← hf] at hR
   simp only [List.find?_nil] at hR
   subst hR
   simp [-getElem?_pos, zz5, v6, v33, v34, hS2, h, ziw, cnd]
def zdk (a b : Sl) : Sl × Bool := if ((sbi a.n b.n).2 && (sbi a.g b.g).2) = true then (⟨(sbi a.n b.n).1, (sbi a.g b.g).1⟩, true) else (⟨0, 0⟩, false)
theorem ya9 {a b : Int} : inI (sbi a b).1 := by
 unfold sbi inI
 split
 ·rename_i h; simpa using h
 ·simp
theorem ys6 (a b : Sl) : slI (zdk a b).1 := by
 unfold zdk
 split
 ·exact ⟨ya9, ya9⟩
 ·unfold slI inI; simp
def zcl (s : Sl) : List Sl → Option (List Sl)
 | [] => some []
 | x :: xs => if (zba s x).2 = true then (zcl (zba s x).1 xs).map ((zba s x).1 :: ·) else none
def zb5 (h : List Sl) : List Sl × Bool := match zcl ⟨0, 0⟩ h with
 | some l => (l, true)
 | none => ([], false)
theorem z9w : ∀ (h : List Sl) (s : Sl) (l : List Sl), slI s → zcl s h = some l → l.length = h.length ∧ ∀ x ∈ l, slI x
 | [], s, l, _, e => by simp [zcl] at e; subst e; simp
 | x :: xs, s, l, hs, e => by
  simp only [zcl] at e
  split at e
  ·simp only [Option.map_eq_some_iff] at e
   obtain ⟨l', h1, rfl⟩ := e
   have hp := zj5 (b := x) hs
   obtain ⟨h2, h3⟩ := z9w xs _ _ hp h1
   refine ⟨by simp [h2], fun y hy => ?_⟩
   rcases List.mem_cons.mp hy with e | e
   ·subst e; exact hp
   ·exact h3 y e
  ·cases e
theorem zy4 : slI ⟨0, 0⟩ := ⟨by unfold inI; simp, by unfold inI; simp⟩
theorem z17 (h : List Sl) : (zb5 h).1.length ≤ h.length ∧ (∀ x ∈ (zb5 h).1, slI x) ∧ ((zb5 h).2 = true → (zb5 h).1.length = h.length) := by
 unfold zb5
 cases e : zcl ⟨0, 0⟩ h with
 | none => simp
 | some l =>
  obtain ⟨h1, h2⟩ := z9w h _ l zy4 e
  exact ⟨by simp [h1], h2, fun _ => h1⟩
def zes (f : Int) (all : Sl) (least : Int) : Int → List Sl → List Cnd → Option (List Cnd)
 | b, x :: y :: xs, acc => if (zdk all x).2 = true then zes f all least (b + 1) (y :: xs) (if least ≤ x.n ∧ least ≤ (zdk all x).1.n then acc ++ [⟨f, b, x, (zdk all x).1⟩] else acc) else none
 | _, _, acc => some acc
def zf3 (l : List Sl) : Sl := l.getLast?.getD ⟨0, 0⟩
def zdl (least : Int) : Int → List (List Sl) → List Cnd → Option (List Cnd)
 | _, [], acc => some acc
 | f, h :: hs, acc => if (zb5 h).2 = true then match zes f (zf3 (zb5 h).1) least 0 (zb5 h).1 acc with
  | some a => zdl least (f + 1) hs a
  | none => none
  else none
def zd1 (H : List (List Sl)) (least : Int) : List Cnd := (zdl least 0 H []).getD []
theorem zzf {f : Int} {all : Sl} {least : Int} {l : List Sl} {i : Nat} {x : Sl} (acc : List Cnd) (hx : l[i]? = some x) (hi : i + 1 < l.length) : zes f all least i (l.drop i) acc = if (zdk all x).2 = true then zes f all least (i + 1 : Nat) (l.drop (i + 1)) (if least ≤ x.n ∧ least ≤ (zdk all x).1.n then acc ++ [⟨f, i, x, (zdk all x).1⟩] else acc) else none := by
 rw [zfx hx, zfx (List.getElem?_eq_getElem hi), zes]
 simp
theorem zqi {f : Int} {all : Sl} {least : Int} {l : List Sl} {i : Nat} (acc : List Cnd) (hi : ¬ i + 1 < l.length) : zes f all least i (l.drop i) acc = some acc := by
 match h : l.drop i with
 | [] => rw [zes]; simp
 | [x] => rw [zes]; simp
 | x :: y :: xs =>
  have := congrArg List.length h
  simp at this; omega
theorem z8j {l : List Sl} {x : Sl} (h : l[l.length - 1]? = some x) : zf3 l = x := by
 unfold zf3; rw [List.getLast?_eq_getElem?, h]; rfl
def zqn (H : List (List Sl)) (x : Cnd) : Prop := ∃ (f b : Nat) (h : List Sl), x.f = f ∧ x.b = b ∧ H[f]? = some h ∧ b + 1 < h.length ∧ slI x.a ∧ slI x.z
theorem z1s {f : Int} {all : Sl} {least : Int} {p : Cnd → Prop} {l : List Sl} (hl : ∀ x ∈ l, slI x) (hp : ∀ (b : Nat) (x z : Sl), b + 1 < l.length → slI x → slI z → p ⟨f, b, x, z⟩) : ∀ (k i : Nat) (acc a : List Cnd), i + k = l.length → (∀ x ∈ acc, p x) → zes f all least i (l.drop i) acc = some a → a.length ≤ acc.length + k ∧ ∀ x ∈ a, p x
 | 0, i, acc, a, hk, ha, h => by
  rw [zqi acc (by omega)] at h
  cases h
  exact ⟨by omega, ha⟩
 | k + 1, i, acc, a, hk, ha, h => by
  by_cases hi : i + 1 < l.length
  ·obtain ⟨x, hx⟩ : ∃ x, l[i]? = some x := ⟨_, List.getElem?_eq_getElem (by omega)⟩
   rw [zzf acc hx hi] at h
   have hxi := hl x (List.mem_of_getElem? hx)
   split at h
   ·split at h
    ·obtain ⟨h1, h2⟩ := z1s hl hp k (i + 1) _ _ (by omega) (fun y hy => by
      rcases List.mem_append.mp hy with e | e
      ·exact ha y e
      ·simp only [List.mem_singleton] at e; subst e; exact hp i x _ hi hxi (ys6 _ _)) h
     exact ⟨by simp at h1; omega, h2⟩
    ·obtain ⟨h1, h2⟩ := z1s hl hp k (i + 1) _ _ (by omega) ha h
     exact ⟨by omega, h2⟩
   ·cases h
  ·rw [zqi acc hi] at h
   cases h
   exact ⟨by omega, ha⟩
theorem zze {least : Int} {H : List (List Sl)} {i : Nat} {h : List Sl} (acc : List Cnd) (hx : H[i]? = some h) : zdl least i (H.drop i) acc = if (zb5 h).2 = true then match zes i (zf3 (zb5 h).1) least 0 (zb5 h).1 acc with
  | some a => zdl least (i + 1 : Nat) (H.drop (i + 1)) a
  | none => none
  else none := by
 rw [zfx hx, zdl]
 simp
theorem yev {least : Int} {H : List (List Sl)} {m : Nat} (hm : ∀ l ∈ H, l.length ≤ m) : ∀ (k i : Nat) (acc a : List Cnd), i + k = H.length → (∀ x ∈ acc, zqn H x) → zdl least i (H.drop i) acc = some a → a.length ≤ acc.length + m * k ∧ ∀ x ∈ a, zqn H x
 | 0, i, acc, a, hk, ha, h => by
  rw [List.drop_eq_nil_of_le (by omega), zdl] at h
  cases h
  exact ⟨by omega, ha⟩
 | k + 1, i, acc, a, hk, ha, h => by
  obtain ⟨l, hx⟩ : ∃ x, H[i]? = some x := ⟨_, List.getElem?_eq_getElem (by omega)⟩
  rw [zze acc hx] at h
  obtain ⟨p1, p2, p3⟩ := z17 l
  split at h
  ·rename_i hp
   split at h
   ·rename_i a' h'
    have h'' : zes i (zf3 (zb5 l).1) least ((0 : Nat) : Int) ((zb5 l).1.drop 0) acc = some a' := by simpa using h'
    obtain ⟨q1, q2⟩ := z1s (p := zqn H) p2 (fun b x z hb hx' hz' => ⟨i, b, l, rfl, rfl, hx, by omega, hx', hz'⟩) (zb5 l).1.length 0 acc a' (by omega) ha h''
    obtain ⟨r1, r2⟩ := yev hm k (i + 1) a' a (by omega) q2 h
    have := hm l (List.mem_of_getElem? hx)
    refine ⟨?_, r2⟩
    rw [Nat.mul_add]
    omega
   ·cases h
  ·cases h
theorem yd8 {least : Int} {H : List (List Sl)} {m : Nat} (hm : ∀ l ∈ H, l.length ≤ m) : (zd1 H least).length ≤ m * H.length ∧ ∀ x ∈ zd1 H least, zqn H x := by
 unfold zd1
 cases h : zdl least 0 H [] with
 | none => simp
 | some a =>
  have h' : zdl least ((0 : Nat) : Int) (H.drop 0) [] = some a := by simpa using h
  obtain ⟨h1, h2⟩ := yev hm H.length 0 [] a (by omega) (fun x hx => by cases hx) h'
  exact ⟨by simpa using h1, h2⟩
theorem ybk {H : List (List Sl)} {x : Cnd} (hH : H.length ≤ 1048576) (hl : ∀ l ∈ H, l.length ≤ 1048576) (h : zqn H x) : zd2 x := by
 obtain ⟨f, b, l, h1, h2, h3, h4, h5, h6⟩ := h
 have := (List.getElem?_eq_some_iff.mp h3).1
 have := hl l (List.mem_of_getElem? h3)
 exact ⟨by unfold inI; omega, by unfold inI; omega, h5, h6⟩
theorem z2y {c : Cfg} {b : Bd} {l : List Cnd} (h : (zeg c b l).2 = true) : (zeg c b l).1 ∈ l ∧ zc2 c b (zeg c b l).1 = true ∧ ∀ y ∈ l, zc2 c b y = true → zdf y (zeg c b l).1 c.la = false := by
 unfold zeg at h ⊢
 cases e : l.find? (zj9 c b l) with
 | none => rw [e] at h; cases h
 | some x =>
  simp only
  have h1 := List.mem_of_find?_eq_some e
  have h2 := List.find?_some e
  unfold zj9 at h2
  simp only [Bool.and_eq_true] at h2
  refine ⟨h1, h2.1, fun y hy hm => ?_⟩
  have := List.all_eq_true.mp h2.2 y hy
  unfold noB at this
  rw [hm] at this
  simpa using this
theorem yn9 (a b : Sl) (ha : slI a) (hb : slI b) : RUN T zn6 [.agg (slc a), .agg (slc b)] = some ([.agg (slc (zdk a b).1), bv (zdk a b).2], []) := by
 have e1 := z7o a.n b.n ha.1 hb.1
 have e2 := z7o a.g b.g ha.2 hb.2
 unfold zdk
 generalize sbi a.n b.n = x at *
 generalize sbi a.g b.g = y at *
 obtain ⟨x, xb⟩ := x
 obtain ⟨y, yb⟩ := y
 simp only at e1 e2 ⊢
 refine zai z41 rfl ?_
 cases xb <;> cases yb <;> simp [zvk, zvl, e1, e2, slc]
theorem yed (m : List Sl) (x : Sl) : za7 m ++ [[iv x.n, iv x.g]] = za7 (m ++ [x]) := by simp [za7, slc]
theorem ybt {s x : Sl} {h : List Sl} {i : Nat} (hx : h[i]? = some x) : zcl s (h.drop i) = if (zba s x).2 = true then (zcl (zba s x).1 (h.drop (i + 1))).map ((zba s x).1 :: ·) else none := by
 rw [zfx hx, zcl]
set_option maxHeartbeats 1000000 in
theorem yoa (h : List Sl) (hl : h.length ≤ 1048576) (hi : ∀ x ∈ h, slI x) : RUN T zn5 [.sl 2 (za7 h)] = some ([.own 2 (za7 (zb5 h).1), bv (zb5 h).2], []) := by
 obtain ⟨R, hR⟩ : ∃ R, R = zb5 h := ⟨_, rfl⟩
 have hR' : R = match zcl ⟨0, 0⟩ h with
  | some l => (l, true)
  | none => ([], false) := by rw [hR]; rfl
 rw [← hR]
 clear hR
 have hr0 : zam 16 0 = true := by decide
 have hr1 : zam 16 1 = true := by decide
 refine zai z40 rfl ?_
 simp [-getElem?_pos, zvi, zvj, hr0]
 refine za3 (fun n st => ∃ (i o e : Nat) (m : List Sl) (s : Sl), i + n = h.length ∧ m.length = i ∧ slI s ∧ zcl ⟨0, 0⟩ h = (zcl s (h.drop i)).map (m ++ ·) ∧ st.V 4 = .ref o none e 0 m.length ∧ st.V 5 = .ptr 1 none 0 0 0 ∧ st.V 12 = .sl 2 (za7 h) ∧ st.V 13 = iv h.length ∧ st.V 14 = iv i ∧ ¬ o = 1 ∧ o < st.nx ∧ 1 < st.nx ∧ st.S o = some (.row 2 (za7 m)) ∧ st.S 1 = some (.box [iv s.n, iv s.g])) ?_ h.length _ ⟨0, 0, 0, [], ⟨0, 0⟩, by omega, rfl, zy4, by simp, by simp, by simp, by simp, by simp, by simp, by simp, by simp, by simp, by simp [za7], by simp⟩
 rintro n st ⟨i, o, ep, m, s, hin, hm, hs, hp, v4, v5, v12, v13, v14, ho1, hox, h1x, hSo, hS1⟩
 obtain ⟨x1, x2, x3, x4⟩ := fr hox
 obtain ⟨z1, z2, z3, z4⟩ := fr h1x
 obtain ⟨a1, a2, a3, a4⟩ := fr (show o < st.nx + 1 by omega)
 obtain ⟨b1, b2, b3, b4⟩ := fr (show o < st.nx + 2 by omega)
 obtain ⟨c1, c2, c3, c4⟩ := fr (show 1 < st.nx + 1 by omega)
 obtain ⟨d1, d2, d3, d4⟩ := fr (show 1 < st.nx + 2 by omega)
 have ho2 : ¬ 1 = o := fun e => ho1 e.symm
 have hn0 : ¬ st.nx = 0 := by omega
 have hn1 : ¬ 1 = st.nx + 1 := by omega
 by_cases hlt : i < h.length
 ·obtain ⟨x, hx⟩ : ∃ x, h[i]? = some x := ⟨_, List.getElem?_eq_getElem hlt⟩
  have hx' := zkj hx
  have hws := wS hlt (by omega : h.length ≤ 9223372036854775807)
  have hr16 : zam 16 (m.length + 1) = true := by simp [zam]; omega
  have e1 := z0n s x hs (hi x (List.mem_of_getElem? hx))
  have hpi := zj5 (b := x) hs
  rw [ybt hx] at hp
  generalize zba s x = p at *
  obtain ⟨⟨pn, pg⟩, pb⟩ := p
  simp only [slc] at e1 hp hpi
  cases pb with
  | false =>
   rw [if_neg (by simp)] at hp
   rw [hp] at hR'
   subst hR'
   simp [-getElem?_pos, zvh, v4, v5, v12, v13, v14, hlt, hx', hSo, hS1, e1, ho1, ho2, hn0, x1, x2, x3, x4, z1, z2, z3, z4, a1, a2, a3, a4, b1, b2, b3, b4, c1, c2, c3, c4, d1, d2, d3, d4]
   simp [za7]
  | true =>
   rw [if_pos rfl] at hp
   have hsn := yed m ⟨pn, pg⟩
   simp only at hsn
   simp [-getElem?_pos, zvh, v4, v5, v12, v13, v14, hlt, hx', hSo, hS1, hr1, hr16, hws, hsn, e1, ho1, ho2, hn0, x1, x2, x3, x4, z1, z2, z3, z4, a1, a2, a3, a4, b1, b2, b3, b4, c1, c2, c3, c4, d1, d2, d3, d4]
   exact zaq (n - 1) (by omega) ⟨i + 1, st.nx + 1 + 2, st.ep, m ++ [⟨pn, pg⟩], ⟨pn, pg⟩, by omega, by simp [hm], hpi, by rw [hp]; cases zcl ⟨pn, pg⟩ (h.drop (i + 1)) <;> simp, by simp, by simp [v5], by simp [v12], by simp [v13], by simp, by omega, by simp, by simp <;> omega, by simp [hn0], by simp [hn0]⟩
 ·rw [List.drop_eq_nil_of_le (by omega), zcl] at hp
  simp only [Option.map_some, List.append_nil] at hp
  rw [hp] at hR'
  subst hR'
  simp [-getElem?_pos, zvh, v4, v13, v14, hlt, hSo]
set_option maxHeartbeats 1000000 in
theorem yob (h : List Sl) (hl : h.length ≤ 1048576) (hi : ∀ x ∈ h, slI x) : RUN T zn8 [.sl 2 (za7 h)] = some ([.own 2 (za7 (zb5 h).1), bv (zb5 h).2], []) := by
 obtain ⟨R, hR⟩ : ∃ R, R = zb5 h := ⟨_, rfl⟩
 have hR' : R = match zcl ⟨0, 0⟩ h with
  | some l => (l, true)
  | none => ([], false) := by rw [hR]; rfl
 rw [← hR]
 clear hR
 have hr0 : zam 16 0 = true := by decide
 have hr1 : zam 16 1 = true := by decide
 refine zai z45 rfl ?_
 simp [-getElem?_pos, zvr, zvs, hr0]
 refine za3 (fun n st => ∃ (i o e : Nat) (m : List Sl) (s : Sl), i + n = h.length ∧ m.length = i ∧ slI s ∧ zcl ⟨0, 0⟩ h = (zcl s (h.drop i)).map (m ++ ·) ∧ st.V 0 = .sl 2 (za7 h) ∧ st.V 4 = .ref o none e 0 m.length ∧ st.V 5 = .ptr 1 none 0 0 0 ∧ st.V 6 = iv i ∧ ¬ o = 1 ∧ o < st.nx ∧ 1 < st.nx ∧ st.S o = some (.row 2 (za7 m)) ∧ st.S 1 = some (.box [iv s.n, iv s.g])) ?_ h.length _ ⟨0, 0, 0, [], ⟨0, 0⟩, by omega, rfl, zy4, by simp, by simp, by simp, by simp, by simp, by simp, by simp, by simp, by simp [za7], by simp⟩
 rintro n st ⟨i, o, ep, m, s, hin, hm, hs, hp, v0, v4, v5, v6, ho1, hox, h1x, hSo, hS1⟩
 obtain ⟨x1, x2, x3, x4⟩ := fr hox
 obtain ⟨z1, z2, z3, z4⟩ := fr h1x
 obtain ⟨a1, a2, a3, a4⟩ := fr (show o < st.nx + 1 by omega)
 obtain ⟨c1, c2, c3, c4⟩ := fr (show 1 < st.nx + 1 by omega)
 have ho2 : ¬ 1 = o := fun e => ho1 e.symm
 have hn0 : ¬ st.nx = 0 := by omega
 have hn1 : ¬ 1 = st.nx + 1 := by omega
 by_cases hlt : i < h.length
 ·obtain ⟨x, hx⟩ : ∃ x, h[i]? = some x := ⟨_, List.getElem?_eq_getElem hlt⟩
  have hx' := zkj hx
  have hws := wS hlt (by omega : h.length ≤ 9223372036854775807)
  have hr16 : zam 16 (m.length + 1) = true := by simp [zam]; omega
  have e1 := z0o s x hs (hi x (List.mem_of_getElem? hx))
  have hpi := zj5 (b := x) hs
  rw [ybt hx] at hp
  generalize zba s x = p at *
  obtain ⟨⟨pn, pg⟩, pb⟩ := p
  simp only [slc] at e1 hp hpi
  cases pb with
  | false =>
   rw [if_neg (by simp)] at hp
   rw [hp] at hR'
   subst hR'
   simp [-getElem?_pos, zvq, v0, v4, v5, v6, hlt, hx', hSo, hS1, hr0, e1, ho1, ho2, hn0, x1, x2, x3, x4, z1, z2, z3, z4, a1, a2, a3, a4, c1, c2, c3, c4]
   simp [za7]
  | true =>
   rw [if_pos rfl] at hp
   have hsn := yed m ⟨pn, pg⟩
   simp only at hsn
   simp [-getElem?_pos, zvq, v0, v4, v5, v6, hlt, hx', hSo, hS1, hr1, hr16, hws, hsn, e1, ho1, ho2, hn0, x1, x2, x3, x4, z1, z2, z3, z4, a1, a2, a3, a4, c1, c2, c3, c4]
   exact zaq (n - 1) (by omega) ⟨i + 1, st.nx + 2, st.ep, m ++ [⟨pn, pg⟩], ⟨pn, pg⟩, by omega, by simp [hm], hpi, by rw [hp]; cases zcl ⟨pn, pg⟩ (h.drop (i + 1)) <;> simp, by simp [v0], by simp, by simp [v5], by simp, by omega, by simp, by simp <;> omega, by simp [hn0], by simp [hn0, ho1, ho2]⟩
 ·rw [List.drop_eq_nil_of_le (by omega), zcl] at hp
  simp only [Option.map_some, List.append_nil] at hp
  rw [hp] at hR'
  subst hR'
  simp [-getElem?_pos, zvq, v0, v4, v6, hlt, hSo]
theorem z9b (m : List Cnd) (x : Cnd) : zbx m ++ [[iv x.f, iv x.b, iv x.a.n, iv x.a.g, iv x.z.n, iv x.z.g]] = zbx (m ++ [x]) := by simp [zbx, cnd]
set_option maxHeartbeats 4000000 in
set_option maxRecDepth 4000 in
theorem yoc (q : Bool) (H : List (List Sl)) (least : Int) (hH : H.length ≤ 16) (hl : ∀ l ∈ H, l.length ≤ 16) (hi : ∀ l ∈ H, ∀ x ∈ l, slI x) : RUN T znn [.sl 1 (rss q H), iv least] = some ([.own 6 (zbx (zd1 H least))], []) := by
 obtain ⟨R, hR⟩ : ∃ R, R = zd1 H least := ⟨_, rfl⟩
 have hR' : R = (zdl least 0 H []).getD [] := hR
 rw [← hR]
 clear hR
 have hr0 : zam 48 0 = true := by decide
 have hr1 : zam 48 1 = true := by decide
 refine zai z32 rfl ?_
 simp [-getElem?_pos, zud, zue, hr0]
 refine za3 (fun n st => ∃ (i o e : Nat) (acc : List Cnd), i + n = H.length ∧ acc.length ≤ 16 * i ∧ zdl least i (H.drop i) acc = zdl least 0 H [] ∧ st.V 1 = iv least ∧ st.V 5 = .ref o none e 0 acc.length ∧ st.V 14 = .sl 1 (rss q H) ∧ st.V 15 = iv H.length ∧ st.V 16 = iv i ∧ o < st.nx ∧ st.S o = some (.row 6 (zbx acc))) ?_ H.length _ ⟨0, 0, 0, [], by omega, by simp, by simp, by simp, by simp, by simp, by simp, by simp, by simp, by simp [zbx]⟩
 rintro n st ⟨i, o, ep, acc, hin, hacc, hF, v1, v5, v14, v15, v16, hox, hSo⟩
 obtain ⟨x1, x2, x3, x4⟩ := fr hox
 by_cases hlt : i < H.length
 ·obtain ⟨l, hx⟩ : ∃ x, H[i]? = some x := ⟨_, List.getElem?_eq_getElem hlt⟩
  have hx' := yav (q := q) hx
  have hlm := List.mem_of_getElem? hx
  have hws := wS hlt (by omega : H.length ≤ 9223372036854775807)
  have hll := hl l hlm
  have e1 := yoa l (by omega) (hi l hlm)
  obtain ⟨p1, p2, p3⟩ := z17 l
  rw [zze acc hx] at hF
  generalize zb5 l = p at *
  obtain ⟨sums, pb⟩ := p
  simp only at e1 p1 p2 p3 hF
  cases pb with
  | false =>
   rw [if_neg (by simp)] at hF
   rw [← hF] at hR'
   subst hR'
   simp [-getElem?_pos, zuc, v1, v5, v14, v15, v16, hlt, hx', hSo, e1, x1, x2, x3, x4]
   simp [zbx]
  | true =>
   rw [if_pos rfl] at hF
   have p3 := p3 rfl
   simp [-getElem?_pos, zuc, v1, v5, v14, v15, v16, hlt, hx', hSo, e1, x1, x2, x3, x4]
   obtain ⟨tgt, htgt⟩ : ∃ t, t = zes i (zf3 sums) least 0 sums acc := ⟨_, rfl⟩
   rw [← htgt] at hF
   obtain ⟨p, hpe⟩ : ∃ p, p = st.nx := ⟨_, rfl⟩
   refine za3 (fun n' s => ∃ (b o' e' : Nat) (acc' : List Cnd), b + n' = sums.length ∧ acc'.length ≤ 16 * i + b ∧ zes i (zf3 sums) least b (sums.drop b) acc' = tgt ∧ s.V 1 = iv least ∧ s.V 5 = .ref o' none e' 0 acc'.length ∧ s.V 6 = iv i ∧ s.V 8 = .ref p none st.ep 0 sums.length ∧ s.V 10 = iv b ∧ s.V 14 = .sl 1 (rss q H) ∧ s.V 15 = iv H.length ∧ s.V 16 = iv i ∧ ¬ o' = p ∧ o' < s.nx ∧ p < s.nx ∧ s.S o' = some (.row 6 (zbx acc')) ∧ s.S p = some (.row 2 (za7 sums))) ?_ sums.length _ ⟨0, o, ep, acc, by omega, by omega, by rw [htgt]; simp, by simp [v1], by simp [v5], by simp, by simp [hpe], by simp, by simp [v14], by simp [v15], by simp [v16], by omega, by simp; omega, by simp; omega, by simp [x1, x2, x3, x4, hSo], by simp [hpe]⟩
   clear v1 v5 v14 v15 v16 hox hSo x1 x2 x3 x4
   generalize st.ep = ep2
   rintro n' s ⟨b, o', e', acc', hbn, hacc', hB, v1, v5, v6, v8, v10, v14, v15, v16, hop, hox, hpx, hSo, hSp⟩
   obtain ⟨x1, x2, x3, x4⟩ := fr hox
   obtain ⟨z1, z2, z3, z4⟩ := fr hpx
   obtain ⟨a1, a2, a3, a4⟩ := fr (show o' < s.nx + 1 by omega)
   obtain ⟨c1, c2, c3, c4⟩ := fr (show p < s.nx + 1 by omega)
   have hpo : ¬ p = o' := fun e => hop e.symm
   by_cases hb : b + 1 < sums.length
   ·obtain ⟨x, hx⟩ : ∃ x, sums[b]? = some x := ⟨_, List.getElem?_eq_getElem (by omega)⟩
    obtain ⟨y, hy⟩ : ∃ x, sums[sums.length - 1]? = some x := ⟨_, List.getElem?_eq_getElem (by omega)⟩
    have hxs := zkj hx
    have hys := zkj hy
    have hly := z8j hy
    have w1 : IntKind.i64.wrap ((sums.length : Int) - 1) = ((sums.length - 1 : Nat) : Int) := by rw [w64 (by omega) (by omega)]; omega
    have w2 := w64 (x := (b : Int) + 1) (by omega) (by omega)
    have k1 : b < sums.length - 1 := by omega
    have k2 : b < sums.length := by omega
    have k3 : sums.length - 1 < sums.length := by omega
    have hr48 : zam 48 (acc'.length + 1) = true := by simp [zam]; omega
    have e2 := yn9 y x (p2 y (List.mem_of_getElem? hy)) (p2 x (List.mem_of_getElem? hx))
    rw [zzf acc' hx hb, hly] at hB
    generalize zdk y x = d at *
    obtain ⟨⟨dn, dg⟩, db⟩ := d
    simp only [slc] at e2 hB
    cases db with
    | false =>
     rw [if_neg (by simp)] at hB
     rw [← hB] at hF
     simp only at hF
     rw [← hF] at hR'
     simp only [Option.getD_none] at hR'
     subst hR'
     simp [-getElem?_pos, zpf, v1, v5, v6, v8, v10, v14, v15, v16, hSo, hSp, hxs, hys, w1, k1, k2, k3, e2, hop, hpo, x1, x2, x3, x4, z1, z2, z3, z4]
     simp [zbx]
    | true =>
     rw [if_pos rfl] at hB
     by_cases g1 : least ≤ x.n
     ·by_cases g2 : least ≤ dn
      ·rw [if_pos ⟨g1, g2⟩] at hB
       have hsn := z9b acc' ⟨i, b, x, ⟨dn, dg⟩⟩
       simp only at hsn
       simp [-getElem?_pos, zpf, v1, v5, v6, v8, v10, v14, v15, v16, hSo, hSp, hxs, hys, w1, w2, k1, k2, k3, e2, g1, g2, hr1, hr48, hsn, hop, hpo, x1, x2, x3, x4, z1, z2, z3, z4, a1, a2, a3, a4, c1, c2, c3, c4]
       refine zaq (n' - 1) (by omega) ⟨b + 1, s.nx + 2, s.ep, acc' ++ [⟨i, b, x, ⟨dn, dg⟩⟩], by omega, by simp; omega, by rw [hly]; exact hB, by simp [v1], by simp, by simp [v6], by simp [v8], by simp, by simp [v14], by simp [v15], by simp [v16], by omega, by simp, by simp; omega, by simp, by simp [hop, hpo, x1, x2, x3, x4, z1, z2, z3, z4, hSp]⟩
      ·rw [if_neg (fun h => g2 h.2)] at hB
       simp [-getElem?_pos, zpf, v1, v5, v6, v8, v10, v14, v15, v16, hSo, hSp, hxs, hys, w1, w2, k1, k2, k3, e2, g1, g2, hop, hpo, x1, x2, x3, x4, z1, z2, z3, z4]
       refine zaq (n' - 1) (by omega) ⟨b + 1, o', e', acc', by omega, by omega, by rw [hly]; exact hB, by simp [v1], by simp [v5], by simp [v6], by simp [v8], by simp, by simp [v14], by simp [v15], by simp [v16], hop, by simp; omega, by simp; omega, by simp [x1, x2, x3, x4, hSo], by simp [z1, z2, z3, z4, hSp]⟩
     ·rw [if_neg (fun h => g1 h.1)] at hB
      simp [-getElem?_pos, zpf, v1, v5, v6, v8, v10, v14, v15, v16, hSo, hSp, hxs, hys, w1, w2, k1, k2, k3, e2, g1, hop, hpo, x1, x2, x3, x4, z1, z2, z3, z4]
      refine zaq (n' - 1) (by omega) ⟨b + 1, o', e', acc', by omega, by omega, by rw [hly]; exact hB, by simp [v1], by simp [v5], by simp [v6], by simp [v8], by simp, by simp [v14], by simp [v15], by simp [v16], hop, by simp; omega, by simp; omega, by simp [x1, x2, x3, x4, hSo], by simp [z1, z2, z3, z4, hSp]⟩
   ·rw [zqi acc' hb] at hB
    rw [← hB] at hF
    simp only at hF
    have w1 : IntKind.i64.wrap ((sums.length : Int) - 1) = (sums.length : Int) - 1 := w64 (by omega) (by omega)
    have k1 : ¬ (b : Int) < (sums.length : Int) - 1 := by omega
    simp [-getElem?_pos, zpf, v8, v10, v16, hSp, w1, k1, hws]
    exact zaq (n - 1) (by omega) ⟨i + 1, o', e', acc', by omega, by omega, hF, by simp [v1], by simp [v5], by simp [v14], by simp [v15], by simp, by simp [hox], by simp [hSo]⟩
 ·rw [List.drop_eq_nil_of_le (by omega), zdl] at hF
  rw [← hF] at hR'
  simp only [Option.getD_some] at hR'
  subst hR'
  simp [-getElem?_pos, zuc, v5, v15, v16, hlt, hSo]
set_option maxHeartbeats 4000000 in
set_option maxRecDepth 4000 in
theorem yod (q : Bool) (H : List (List Sl)) (least : Int) (hH : H.length ≤ 16) (hl : ∀ l ∈ H, l.length ≤ 16) (hi : ∀ l ∈ H, ∀ x ∈ l, slI x) : RUN T znq [.sl 1 (rss q H), iv least] = some ([.own 6 (zbx (zd1 H least))], []) := by
 obtain ⟨R, hR⟩ : ∃ R, R = zd1 H least := ⟨_, rfl⟩
 have hR' : R = (zdl least 0 H []).getD [] := hR
 rw [← hR]
 clear hR
 have hr0 : zam 48 0 = true := by decide
 have hr1 : zam 48 1 = true := by decide
 refine zai z35 rfl ?_
 simp [-getElem?_pos, zuj, zuk, hr0]
 refine za3 (fun n st => ∃ (i o e : Nat) (acc : List Cnd), i + n = H.length ∧ acc.length ≤ 16 * i ∧ zdl least i (H.drop i) acc = zdl least 0 H [] ∧ st.V 1 = iv least ∧ st.V 5 = .ref o none e 0 acc.length ∧ st.V 0 = .sl 1 (rss q H) ∧ st.V 6 = iv i ∧ o < st.nx ∧ st.S o = some (.row 6 (zbx acc))) ?_ H.length _ ⟨0, 0, 0, [], by omega, by simp, by simp, by simp, by simp, by simp, by simp, by simp, by simp [zbx]⟩
 rintro n st ⟨i, o, ep, acc, hin, hacc, hF, v1, v5, v0, v6, hox, hSo⟩
 obtain ⟨x1, x2, x3, x4⟩ := fr hox
 by_cases hlt : i < H.length
 ·obtain ⟨l, hx⟩ : ∃ x, H[i]? = some x := ⟨_, List.getElem?_eq_getElem hlt⟩
  have hx' := yav (q := q) hx
  have hlm := List.mem_of_getElem? hx
  have hws := wS hlt (by omega : H.length ≤ 9223372036854775807)
  have hll := hl l hlm
  have e1 := yob l (by omega) (hi l hlm)
  obtain ⟨p1, p2, p3⟩ := z17 l
  rw [zze acc hx] at hF
  generalize zb5 l = p at *
  obtain ⟨sums, pb⟩ := p
  simp only at e1 p1 p2 p3 hF
  cases pb with
  | false =>
   rw [if_neg (by simp)] at hF
   rw [← hF] at hR'
   subst hR'
   simp [-getElem?_pos, zui, v0, v1, v5, v6, hlt, hx', hSo, e1, hr0, x1, x2, x3, x4]
   simp [zbx]
  | true =>
   rw [if_pos rfl] at hF
   have p3 := p3 rfl
   simp [-getElem?_pos, zui, v0, v1, v5, v6, hlt, hx', hSo, e1, hr0, x1, x2, x3, x4]
   obtain ⟨tgt, htgt⟩ : ∃ t, t = zes i (zf3 sums) least 0 sums acc := ⟨_, rfl⟩
   rw [← htgt] at hF
   obtain ⟨p, hpe⟩ : ∃ p, p = st.nx := ⟨_, rfl⟩
   refine za3 (fun n' s => ∃ (b o' e' : Nat) (acc' : List Cnd), b + n' = sums.length ∧ acc'.length ≤ 16 * i + b ∧ zes i (zf3 sums) least b (sums.drop b) acc' = tgt ∧ s.V 0 = .sl 1 (rss q H) ∧ s.V 1 = iv least ∧ s.V 5 = .ref o' none e' 0 acc'.length ∧ s.V 6 = iv i ∧ s.V 7 = .ref p none st.ep 0 sums.length ∧ s.V 9 = iv b ∧ ¬ o' = p ∧ o' < s.nx ∧ p < s.nx ∧ s.S o' = some (.row 6 (zbx acc')) ∧ s.S p = some (.row 2 (za7 sums))) ?_ sums.length _ ⟨0, o, ep, acc, by omega, by omega, by rw [htgt]; simp, by simp [v0], by simp [v1], by simp [v5], by simp [v6], by simp [hpe], by simp, by omega, by simp; omega, by simp; omega, by simp [x1, x2, x3, x4, hSo], by simp [hpe]⟩
   clear v0 v1 v5 v6 hox hSo x1 x2 x3 x4
   generalize st.ep = ep2
   rintro n' s ⟨b, o', e', acc', hbn, hacc', hB, v0, v1, v5, v6, v7, v9, hop, hox, hpx, hSo, hSp⟩
   obtain ⟨x1, x2, x3, x4⟩ := fr hox
   obtain ⟨z1, z2, z3, z4⟩ := fr hpx
   obtain ⟨a1, a2, a3, a4⟩ := fr (show o' < s.nx + 1 by omega)
   obtain ⟨c1, c2, c3, c4⟩ := fr (show p < s.nx + 1 by omega)
   have hpo : ¬ p = o' := fun e => hop e.symm
   by_cases hb : b + 1 < sums.length
   ·obtain ⟨x, hx⟩ : ∃ x, sums[b]? = some x := ⟨_, List.getElem?_eq_getElem (by omega)⟩
    obtain ⟨y, hy⟩ : ∃ x, sums[sums.length - 1]? = some x := ⟨_, List.getElem?_eq_getElem (by omega)⟩
    have hxs := zkj hx
    have hys := zkj hy
    have hly := z8j hy
    have w1 : IntKind.i64.wrap ((sums.length : Int) - 1) = ((sums.length - 1 : Nat) : Int) := by rw [w64 (by omega) (by omega)]; omega
    have w2 := w64 (x := (b : Int) + 1) (by omega) (by omega)
    have k1 : (b : Int) + 1 < (sums.length : Int) := by omega
    have k2 : b < sums.length := by omega
    have k3 : sums.length - 1 < sums.length := by omega
    have hr48 : zam 48 (acc'.length + 1) = true := by simp [zam]; omega
    have e2 := z7p y.n x.n (p2 y (List.mem_of_getElem? hy)).1 (p2 x (List.mem_of_getElem? hx)).1
    have e3 := z7p y.g x.g (p2 y (List.mem_of_getElem? hy)).2 (p2 x (List.mem_of_getElem? hx)).2
    rw [zzf acc' hx hb, hly] at hB
    unfold zdk at hB
    generalize sbi y.n x.n = d at *
    generalize sbi y.g x.g = d' at *
    obtain ⟨dn, db⟩ := d
    obtain ⟨dg, db'⟩ := d'
    simp only at e2 e3 hB
    obtain ⟨dd, hdd⟩ : ∃ dd, dd = (db && db') := ⟨_, rfl⟩
    rw [← hdd] at hB
    cases dd with
    | false =>
     simp only [Bool.false_eq_true, if_false] at hB
     rw [← hB] at hF
     simp only at hF
     rw [← hF] at hR'
     simp only [Option.getD_none] at hR'
     subst hR'
     cases db with
     | false =>
      simp [-getElem?_pos, zlx, v0, v1, v5, v6, v7, v9, hSo, hSp, hxs, hys, w1, w2, k1, k2, k3, e2, e3, hr0, hop, hpo, x1, x2, x3, x4, z1, z2, z3, z4, a1, a2, a3, a4, c1, c2, c3, c4]
      simp [zbx]
     | true =>
      have hd2 : db' = false := by simpa using hdd.symm
      subst hd2
      simp [-getElem?_pos, zlx, v0, v1, v5, v6, v7, v9, hSo, hSp, hxs, hys, w1, w2, k1, k2, k3, e2, e3, hr0, hop, hpo, x1, x2, x3, x4, z1, z2, z3, z4, a1, a2, a3, a4, c1, c2, c3, c4]
      simp [zbx]
    | true =>
     obtain ⟨hd1, hd2⟩ : db = true ∧ db' = true := by simpa using hdd.symm
     subst hd1 hd2
     simp only [if_true] at hB
     by_cases g1 : least ≤ x.n
     ·by_cases g2 : least ≤ dn
      ·rw [if_pos ⟨g1, g2⟩] at hB
       have hsn := z9b acc' ⟨i, b, x, ⟨dn, dg⟩⟩
       simp only at hsn
       simp [-getElem?_pos, zlx, v0, v1, v5, v6, v7, v9, hSo, hSp, hxs, hys, w1, w2, k1, k2, k3, e2, e3, hr0, hop, hpo, x1, x2, x3, x4, z1, z2, z3, z4, a1, a2, a3, a4, c1, c2, c3, c4, g1, g2, hr1, hr48, hsn]
       refine zaq (n' - 1) (by omega) ⟨b + 1, s.nx + 2, s.ep, acc' ++ [⟨i, b, x, ⟨dn, dg⟩⟩], by omega, by simp; omega, by rw [hly]; exact hB, by simp [v0], by simp [v1], by simp, by simp [v6], by simp [v7], by simp, by omega, by simp, by simp; omega, by simp, by simp [hop, hpo, x1, x2, x3, x4, z1, z2, z3, z4, hSp]⟩
      ·rw [if_neg (fun h => g2 h.2)] at hB
       simp [-getElem?_pos, zlx, v0, v1, v5, v6, v7, v9, hSo, hSp, hxs, hys, w1, w2, k1, k2, k3, e2, e3, hr0, hop, hpo, x1, x2, x3, x4, z1, z2, z3, z4, a1, a2, a3, a4, c1, c2, c3, c4, g1, g2]
       refine zaq (n' - 1) (by omega) ⟨b + 1, o', e', acc', by omega, by omega, by rw [hly]; exact hB, by simp [v0], by simp [v1], by simp [v5], by simp [v6], by simp [v7], by simp, hop, by simp; omega, by simp; omega, by simp [x1, x2, x3, x4, hSo], by simp [z1, z2, z3, z4, hSp]⟩
     ·rw [if_neg (fun h => g1 h.1)] at hB
      simp [-getElem?_pos, zlx, v0, v1, v5, v6, v7, v9, hSo, hSp, hxs, hys, w1, w2, k1, k2, k3, e2, e3, hr0, hop, hpo, x1, x2, x3, x4, z1, z2, z3, z4, a1, a2, a3, a4, c1, c2, c3, c4, g1]
      refine zaq (n' - 1) (by omega) ⟨b + 1, o', e', acc', by omega, by omega, by rw [hly]; exact hB, by simp [v0], by simp [v1], by simp [v5], by simp [v6], by simp [v7], by simp, hop, by simp; omega, by simp; omega, by simp [x1, x2, x3, x4, hSo], by simp [z1, z2, z3, z4, hSp]⟩
   ·rw [zqi acc' hb] at hB
    rw [← hB] at hF
    simp only at hF
    have w1 : IntKind.i64.wrap ((sums.length : Int) - 1) = (sums.length : Int) - 1 := w64 (by omega) (by omega)
    have w2 := w64 (x := (b : Int) + 1) (by omega) (by omega)
    have k1 : ¬ (b : Int) + 1 < (sums.length : Int) := by omega
    simp [-getElem?_pos, zlx, v6, v7, v9, hSp, w2, k1, hws]
    exact zaq (n - 1) (by omega) ⟨i + 1, o', e', acc', by omega, by omega, hF, by simp [v1], by simp [v5], by simp [v0], by simp, by simp [hox], by simp [hSo]⟩
 ·rw [List.drop_eq_nil_of_le (by omega), zdl] at hF
  rw [← hF] at hR'
  simp only [Option.getD_some] at hR'
  subst hR'
  simp [-getElem?_pos, zui, v0, v5, v6, hlt, hSo]
def zcu (c v : List (List Int)) (g : List Int) (cfg : Cfg) (rows : List Int) (b : Bd) : Cnd × Bool := if zil c v g cfg = true then (if (zbu c v g rows).2 = true then zeg cfg b (zd1 (zbu c v g rows).1 cfg.rw) else (ziw, false)) else (ziw, false)
theorem ydf {b g : List Int} : ∀ (rows : List Int) (h h' : List Sl), (∀ x ∈ h, slI x) → zb3 b g rows h = some h' → ∀ x ∈ h', slI x
 | [], h, h', hh, e => by simp [zb3] at e; subst e; exact hh
 | r :: rs, h, h', hh, e => by
  simp only [zb3] at e
  split at e
  ·split at e
   ·rename_i s hs
    split at e
    ·refine ydf rs _ _ (fun x hx => ?_) e
     rcases List.mem_or_eq_of_mem_set hx with h1 | h1
     ·exact hh x h1
     ·subst h1
      obtain ⟨_, _, h3, _⟩ := zfr hs
      exact zj5 (hh _ (List.mem_of_getElem? h3))
    ·cases e
   ·cases e
  ·cases e
theorem yt7 (b g rows : List Int) (k : Int) : ∀ x ∈ (zb8 b g rows k).1, slI x := by
 unfold zb8
 split
 ·cases h : zb3 b g rows (List.replicate k.toNat ⟨0, 0⟩) with
  | none => simp
  | some h' => exact ydf _ _ _ (fun x hx => by rw [List.eq_of_mem_replicate hx]; exact zy4) h
 ·simp
theorem ydp {g rows : List Int} : ∀ (c v : List (List Int)) (H : List (List Sl)), zb0 g rows c v = some H → ∀ l ∈ H, ∀ x ∈ l, slI x
 | [], v, H, h => by simp [zb0] at h; subst h; simp
 | x :: c, [], H, h => by simp [zb0] at h; subst h; simp
 | x :: c, y :: v, H, h => by
  simp only [zb0] at h
  split at h
  ·simp only [Option.map_eq_some_iff] at h
   obtain ⟨H', h1, rfl⟩ := h
   intro l hl
   rcases List.mem_cons.mp hl with e | e
   ·subst e; exact yt7 _ _ _ _
   ·exact ydp c v H' h1 l e
  ·cases h
theorem yey (c v : List (List Int)) (g rows : List Int) : ∀ l ∈ (zbu c v g rows).1, ∀ x ∈ l, slI x := by
 unfold zbu
 split
 ·cases h : zb0 g rows c v with
  | none => simp
  | some H => exact ydp c v H h
 ·simp
theorem zy0 (c v : List (List Int)) (g rows : List Int) : (zbu c v g rows).1.length ≤ 4 := by
 by_cases h : zds c v = true
 ·have := (zp8 c v g rows).1
  have := z2t h
  omega
 ·unfold zbu
  rw [if_neg h]; simp
theorem ydl (c v : List (List Int)) (g rows : List Int) (least : Int) : (zd1 (zbu c v g rows).1 least).length ≤ 1048576 ∧ ∀ x ∈ zd1 (zbu c v g rows).1 least, zd2 x := by
 have h1 := zy0 c v g rows
 have h2 := (zp8 c v g rows).2
 obtain ⟨h3, h4⟩ := yd8 (least := least) h2
 exact ⟨by omega, fun x hx => ybk (by omega) (fun l hl => Nat.le_trans (h2 l hl) (by omega)) (h4 x hx)⟩
set_option maxHeartbeats 1000000 in
theorem yoe (q : Bool) (c v : List (List Int)) (g : List Int) (cfg : Cfg) (rows : List Int) (b : Bd) (hc : ∀ l ∈ c, l.length ≤ 1048576) (hv : ∀ l ∈ v, l.length ≤ 1048576) (hg : g.length ≤ 1048576) (hr : rows.length ≤ 1048576) (hs : cfg.sg.length ≤ 1048576) (hgi : ∀ x ∈ g, inI x) : RUN T znc [.agg [.sl 1 (rws q c), .sl 1 (rws q v)], .sl 1 (zac g), cfS cfg, .sl 1 (zac rows), .agg (bnd b)] = some ([.agg (cnd (zcu c v g cfg rows b).1), bv (zcu c v g cfg rows b).2], []) := by
 have e1 := ym5 q c v g cfg (fun l hl => Nat.le_trans (hc l hl) (by omega)) (fun l hl => Nat.le_trans (hv l hl) (by omega)) (by omega) (by omega)
 have e2 := ynh q c v g rows hc hv hg hr hgi
 obtain ⟨f1, f2⟩ := ydl c v g rows cfg.rw
 have e3 := yoc true (zbu c v g rows).1 cfg.rw (by have := zy0 c v g rows; omega) (fun l hl => by have := (zp8 c v g rows).2 l hl; omega) (yey c v g rows)
 have e4 := yn8 cfg b (zd1 (zbu c v g rows).1 cfg.rw) f1 hs f2
 unfold zcu
 simp only [zgg, bnd] at e1 e4
 generalize zil c v g cfg = t at *
 generalize zbu c v g rows = H at *
 obtain ⟨H, hb⟩ := H
 simp only at e2 e3 e4 ⊢
 generalize zeg cfg b (zd1 H cfg.rw) = r at *
 generalize zd1 H cfg.rw = L at *
 obtain ⟨r, rb⟩ := r
 simp only [cnd] at e4 ⊢
 refine zai z3m rfl ?_
 cases t with
 | false => simp [-getElem?_pos, zo7, zo8, bnd, e1, ziw]
 | true =>
  cases hb with
  | false => simp [-getElem?_pos, zo7, zo8, bnd, e1, e2, ziw]
  | true =>
   simp [-getElem?_pos, zo7, zo8, bnd, e1, e2, e3, e4]
set_option maxHeartbeats 1000000 in
theorem yof (q : Bool) (c v : List (List Int)) (g : List Int) (cfg : Cfg) (rows : List Int) (b : Bd) (hc : ∀ l ∈ c, l.length ≤ 1048576) (hv : ∀ l ∈ v, l.length ≤ 1048576) (hg : g.length ≤ 1048576) (hr : rows.length ≤ 1048576) (hs : cfg.sg.length ≤ 1048576) (hgi : ∀ x ∈ g, inI x) : RUN T znd [.agg [.sl 1 (rws q c), .sl 1 (rws q v)], .sl 1 (zac g), cfS cfg, .sl 1 (zac rows), .agg (bnd b)] = some ([.agg (cnd (zcu c v g cfg rows b).1), bv (zcu c v g cfg rows b).2], []) := by
 have e1 := ym6 q c v g cfg (fun l hl => Nat.le_trans (hc l hl) (by omega)) (fun l hl => Nat.le_trans (hv l hl) (by omega)) (by omega) (by omega)
 have e2 := yni q c v g rows hc hv hg hr hgi
 obtain ⟨f1, f2⟩ := ydl c v g rows cfg.rw
 have e3 := yod true (zbu c v g rows).1 cfg.rw (by have := zy0 c v g rows; omega) (fun l hl => by have := (zp8 c v g rows).2 l hl; omega) (yey c v g rows)
 have e4 := yn7 cfg b (zd1 (zbu c v g rows).1 cfg.rw) f1 hs f2
 unfold zcu
 simp only [zgg, bnd] at e1 e4
 generalize zil c v g cfg = t at *
 generalize zbu c v g rows = H at *
 obtain ⟨H, hb⟩ := H
 simp only at e2 e3 e4 ⊢
 generalize zeg cfg b (zd1 H cfg.rw) = r at *
 generalize zd1 H cfg.rw = L at *
 obtain ⟨r, rb⟩ := r
 simp only [cnd] at e4 ⊢
 refine zai z3n rfl ?_
 cases t with
 | false => simp [-getElem?_pos, zo9, zpa, bnd, e1, ziw]
 | true =>
  cases hb with
  | false => simp [-getElem?_pos, zo9, zpa, bnd, e1, e2, ziw]
  | true =>
   simp [-getElem?_pos, zo9, zpa, bnd, e1, e2, e3, e4]
def zqh (g : List Int) (rows : List Int) : Sl := ⟨rows.length, (rows.map fun r => (atI g r).getD 0).sum⟩
def zim (bins : List Int) (b r : Int) : Bool := match atI bins r with
 | some x => decide (x ≤ b)
 | none => false
def zsl (bins : List Int) (b r : Int) : Bool := match atI bins r with
 | some x => !decide (x ≤ b)
 | none => false
def zdv (bins rows : List Int) (b : Int) : List Int := rows.filter (zim bins b)
def zg4 (bins rows : List Int) (b : Int) : List Int := rows.filter (zsl bins b)
structure Pnd where
 r : List Int
 b : Bd
 l : Int
def goes (c v : List (List Int)) (g : List Int) (cfg : Cfg) (x : Pnd) : Bool := decide (x.l < cfg.de) && (zcu c v g cfg x.r x.b).2
def zz1 : Bd := ⟨-1099511627776, 1099511627776⟩
theorem ycu {bins rows : List Int} {b r : Int} : (r ∈ zdv bins rows b → r ∈ rows) ∧ (r ∈ zg4 bins rows b → r ∈ rows) := ⟨fun h => (List.mem_filter.mp h).1, fun h => (List.mem_filter.mp h).1⟩
theorem yva {c v : List (List Int)} {g : List Int} {cfg : Cfg} (h : zil c v g cfg = true) : zds c v = true ∧ zcm cfg = true ∧ g.length = zdq v ∧ (∀ x ∈ g, -2199023255552 ≤ x ∧ x ≤ 2199023255552) := by
 unfold zil at h
 simp only [Bool.and_eq_true, decide_eq_true_eq] at h
 exact ⟨h.1.1.1, h.1.1.2, by omega, fun x hx => zbe.mp (List.all_eq_true.mp h.2 x hx)⟩
theorem ydv {c v : List (List Int)} {g : List Int} {cfg : Cfg} {rows : List Int} {b : Bd} (h : (zcu c v g cfg rows b).2 = true) : zqn (zbu c v g rows).1 (zcu c v g cfg rows b).1 ∧ (zbu c v g rows).2 = true := by
 unfold zcu at h ⊢
 split
 ·rename_i h1
  rw [if_pos h1] at h
  split
  ·rename_i h2
   rw [if_pos h2] at h
   obtain ⟨h3, _, _⟩ := z2y h
   exact ⟨(yd8 (zp8 c v g rows).2).2 _ h3, h2⟩
  ·rename_i h2
   rw [if_neg h2] at h; cases h
 ·rename_i h1
  rw [if_neg h1] at h; cases h
theorem z8a : RUN T zko [] = some ([.agg (bnd zz1)], []) := by
 refine zai z3v rfl ?_
 simp [ztz, zt0, bnd, zz1]
def upl (n : Nat) : List Int := (List.range n).map fun (i : Nat) => (i : Int)
@[simp] theorem qd7 (n : Nat) : (upl n).length = n := by simp [upl]
@[simp] theorem y8j : upl 0 = [] := rfl
def zfc (g rows : List Int) (i : Nat) : Int := ((rows.take i).map fun r => (atI g r).getD 0).sum
theorem yud {g rows : List Int} {i : Nat} {r x : Int} (hr : rows[i]? = some r) (hx : atI g r = some x) : zfc g rows (i + 1) = zfc g rows i + x := by
 unfold zfc
 rw [List.take_succ, hr]
 simp [hx]
end Go.Pe
