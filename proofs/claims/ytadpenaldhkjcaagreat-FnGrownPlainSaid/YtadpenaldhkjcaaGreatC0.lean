/- What each function answers by the evaluator, and the law; for each answer its own conditions stand ahead of it. -/
import Derived.Test.YtadpenaldhkjcaaGreatK0
import Derived.Test.YtadpenaldhkjcaaGreatEvB2
import Derived.IntWalk
set_option linter.all false
namespace Go.Pe
open Go
theorem w64 {x : Int} (h1 : -9223372036854775808 ≤ x) (h2 : x ≤ 9223372036854775807) : IntKind.i64.wrap x = x := IntWalk.i64_in x ⟨h1, h2⟩
@[simp] theorem y1y {x : Int} (h1 : -9223372036854775808 ≤ x) (h2 : x ≤ 9223372036854775807) : IntKind.i64.wrap x = x := w64 h1 h2
structure Nd where
 f : Int
 c : Int
 l : Int
 r : Int
 v : Int
deriving DecidableEq
def nd (n : Nd) : List PV := [iv n.f, iv n.c, iv n.l, iv n.r, iv n.v]
@[simp] theorem zb8 (a b c : Int) : RUN T zbx [iv a, iv b, iv c] = some ([bv (decide (b ≤ a) && decide (a ≤ c))], []) := by
 refine zal z1y rfl ?_
 simp [zs2, zs3]
 refine zdc (fun h => ?_) (fun h => ?_) <;> simp [h]
@[simp] theorem zbd (a b c : Int) : RUN T zb7 [iv a, iv b, iv c] = some ([bv (decide (b ≤ a) && decide (a ≤ c))], []) := by
 refine zal z1m rfl ?_
 simp [zsq, zsr]
 refine zdc (fun h => ?_) (fun h => ?_) <;> simp [h]
def zi1 {α : Type} (p : α → Bool) (l : List α) : Int := match l.findIdx? p with
 | some i => (i : Int)
 | none => -1
theorem z9k {α : Type} {p : α → Bool} {l : List α} (h : ∀ (j : Nat) (x : α), j < l.length → l[j]? = some x → p x = false) : zi1 p l = -1 := by
 unfold zi1
 have : l.findIdx? p = none := by
  rw [List.findIdx?_eq_none_iff]
  intro x hx
  obtain ⟨j, hj⟩ := List.getElem?_of_mem hx
  exact h j x (List.getElem?_eq_some_iff.mp hj).1 hj
 rw [this]
theorem z5i {α : Type} {p : α → Bool} {l : List α} {i : Nat} {x : α} (hi : l[i]? = some x) (hp : p x = true) (h : ∀ (j : Nat) (x : α), j < i → l[j]? = some x → p x = false) : zi1 p l = i := by
 unfold zi1
 have : l.findIdx? p = some i := by
  rw [List.findIdx?_eq_some_iff_getElem]
  obtain ⟨h1, h2⟩ := List.getElem?_eq_some_iff.mp hi
  refine ⟨h1, by rw [h2]; exact hp, fun j hj => ?_⟩
  have := h j l[j] hj (List.getElem?_eq_getElem (by omega))
  simp [this]
 rw [this]
theorem z44 {α : Type} {p : α → Bool} {l : List α} {i : Nat} {x : α} (h : ∀ (j : Nat) (x : α), j < i → l[j]? = some x → p x = false) (hi : l[i]? = some x) (hp : p x = false) : ∀ (j : Nat) (x : α), j < i + 1 → l[j]? = some x → p x = false := by
 intro j y hj hy
 by_cases e : j = i
 ·subst e; rw [hi] at hy; cases hy; exact hp
 ·exact h j y (by omega) hy
def z76 (k : Int) (n : Nd) : Bool := !decide (n.f = -1) && (decide (n.l = k) || decide (n.r = k))
def par (t : List Nd) (k : Int) : Int := zi1 (z76 k) t
theorem wS {i n : Nat} (h : i < n) (hn : n ≤ 9223372036854775807) : IntKind.i64.wrap ((i : Int) + 1) = (i : Int) + 1 := w64 (by omega) (by omega)
def zac (l : List Int) : List (List PV) := l.map fun n => [iv n]
@[simp] theorem y2w (l : List Int) : (zac l).length = l.length := by simp [zac]
theorem zbj {l : List Int} {i : Nat} {x : Int} (h : l[i]? = some x) : (zac l)[i]? = some [iv x] := by simp [zac, h]
@[simp] theorem y27 : zac [] = [] := rfl
theorem zrt (x : Int) (l : List Int) : zac (x :: l) = [iv x] :: zac l := rfl
theorem z86 (l : List Int) (i : Nat) (x : Int) : (zac l).set i [iv x] = zac (l.set i x) := by simp [zac, List.map_set]
theorem yo5 (l m : List Int) : zac l ++ zac m = zac (l ++ m) := by simp [zac]
theorem zc3 (l : List Int) (x : Int) : zac l ++ [[iv x]] = zac (l ++ [x]) := by simp [zac]
theorem z8x (l : List Int) : zcn (zac l) = true := by simp [zcn, zac]
def anc (t : List Nd) : Nat → Int → Option (List Int)
 | 0, _ => none
 | n + 1, k => if par t k < 0 then some [] else (anc t n (par t k)).map (par t k :: ·)
def way (t : List Nd) (k : Int) : List Int := if 0 ≤ k ∧ k ≤ t.length - 1 then match anc t 32 k with
  | some l => (k :: l).reverse
  | none => []
 else []
theorem zdd {n : Nat} (h : n ≤ 17592186044416) : zan 8 n = true := by simp [zan]; omega
def upto (k : Int) (n : Nat) : List Int := (List.range n).map fun (i : Nat) => k + (i : Int)
@[simp] theorem y2j (k : Int) (n : Nat) : (upto k n).length = n := by simp [upto]
theorem zf4 {α : Type} {l : List α} {i : Nat} {x : α} (h : l[i]? = some x) : l.drop i = x :: l.drop (i + 1) := by
 obtain ⟨h1, h2⟩ := List.getElem?_eq_some_iff.mp h
 rw [List.drop_eq_getElem_cons h1, h2]
def inI (n : Int) : Prop := -9223372036854775808 ≤ n ∧ n ≤ 9223372036854775807
def box (t : List Nd) (f : Int) : List Int → Int → Int → Int × Int
 | a :: b :: r, lo, hi => match t[a.toNat]? with
  | none => (lo, hi)
  | some x => if x.f = f then (if x.l = b then box t f (b :: r) lo (min hi x.c) else if x.c = 9223372036854775807 then box t f (b :: r) lo hi else box t f (b :: r) (max lo (x.c + 1)) hi) else box t f (b :: r) lo hi
 | _, lo, hi => (lo, hi)
theorem yhl {f : Nat} {p : Int → Bool} (l : List Int) (hl : l.length ≤ 9223372036854775807) (hm : zae T f = []) (hp : ∀ n ∈ l, RUN T f [iv n] = some ([bv (p n)], [])) :
  RUN T zkf [.sl 1 (zac l), .fn f []] = some ([iv (zi1 p l)], []) := by
 refine zal zxv rfl ?_
 simp [zp9, zqa]
 refine za3 (fun n st => ∃ i : Nat, i + n = l.length ∧ st.V 0 = .sl 1 (zac l) ∧ st.V 1 = .fn f [] ∧ st.V 8 = iv i ∧ st.V 7 = iv l.length ∧ ∀ (j : Nat) (x : Int), j < i → l[j]? = some x → p x = false) ?_ l.length _ ⟨0, by simp⟩
 rintro n st ⟨i, hi, h0, h1, h8, h7, hj⟩
 simp [zxq, h0, h1, h8, h7]
 refine zdc (fun h => ?_) (fun h => ?_)
 ·simp at h
  obtain ⟨x, hx⟩ : ∃ x, l[i]? = some x := ⟨_, List.getElem?_eq_getElem h⟩
  have hw := wS h hl
  have hx' := zbj hx
  have hpx := hp x (List.mem_of_getElem? hx)
  simp [-getElem?_pos, h0, h1, h8, h7, hx', hw, hm, hpx, h]
  refine zdc (fun b0 => ?_) (fun b0 => ?_) <;> (try simp at b0) <;> simp [-getElem?_pos, b0, h0, h1, h8, h7, hx', hw]
  all_goals first
   | exact (z5i hx b0 hj).symm
   | exact zaq (n - 1) (by omega) ⟨i + 1, by omega, by simp [h0], by simp [h1], by simp, by simp [h7], z44 hj hx b0⟩
 ·simp at h
  simp [h]
  exact (z9k fun j x hl hx => hj j x (by omega) hx).symm
theorem z77 {α : Type} {p : α → Bool} {l : List α} : decide (0 ≤ zi1 p l) = l.any p := by
 unfold zi1
 cases h : l.findIdx? p with
 | none =>
  rw [List.findIdx?_eq_none_iff] at h
  simp
  exact fun x hx => h x hx
 | some i =>
  obtain ⟨h1, h2, _⟩ := List.findIdx?_eq_some_iff_getElem.mp h
  simp
  exact ⟨_, List.getElem_mem h1, h2⟩
theorem zxx {f : Nat} {p : Int → Bool} (l : List Int) (hl : l.length ≤ 9223372036854775807) (hm : zae T f = []) (hp : ∀ n ∈ l, RUN T f [iv n] = some ([bv (p n)], [])) :
  RUN T zhi [.sl 1 (zac l), .fn f []] = some ([bv (l.any p)], []) := by
 refine zal zxu rfl ?_
 have e := yhl l hl hm hp
 simp [zpy, zpz, e, z77]
structure Cfg where
 ro : Int
 de : Int
 bi : Int
 la : Int
 rw : Int
 nu : Int
 dn : Int
 sg : List Int
def zak (n a b : Int) : Bool := decide (a ≤ n) && decide (n ≤ b)
def zbw (c : Cfg) : Bool := zak c.ro 1 8 && zak c.de 0 4 && zak c.bi 2 8 && zak c.la 1 100 && zak c.rw 1 20 && zak c.dn 1 1000 && zak c.nu 1 c.dn && decide ((c.sg.length : Int) ≤ 4) && c.sg.all fun n => zak n (-1) 1
@[simp] theorem yt8 (n : Int) : RUN T znb [iv n] = some ([bv (zak n (-1) 1)], []) := by
 refine zal z2m rfl ?_
 simp [ztz, zt0, zak]
@[simp] theorem yhm (n : Int) : RUN T zkc [iv n] = some ([bv (!zak n (-1) 1)], []) := by
 refine zal z2l rfl ?_
 simp [ztx, zty]
theorem zda (a b c : Int) : RUN T zbx [iv a, iv b, iv c] = some ([bv (zak a b c)], []) := zb8 a b c
theorem zbq (a b c : Int) : RUN T zb7 [iv a, iv b, iv c] = some ([bv (zak a b c)], []) := zbd a b c
theorem z38 (c : Cfg) (hl : c.sg.length ≤ 9223372036854775807) : RUN T zj5 [.agg [iv c.ro, iv c.de, iv c.bi, iv c.la, iv c.rw, iv c.nu, iv c.dn, .sl 1 (zac c.sg)]] = some ([bv (zbw c)], []) := by
 refine zal z1o rfl ?_
 have e := zxx (f := zkc) (p := fun n => !zak n (-1) 1) c.sg hl (by simp) (fun n _ => yhm n)
 have e2 : ∀ l : List Int, (l.any fun n => !zak n (-1) 1) = !(l.all fun n => zak n (-1) 1) := by intro l; induction l <;> simp_all
 rw [e2] at e
 simp [zsu, zsv, zda, -zb8]
 cases h0 : zak c.ro 1 8 <;> cases h1 : zak c.de 0 4 <;> simp [h0, h1, zda, -zb8]
 all_goals try (simp [zbw, h0, h1]; done)
 cases h2 : zak c.bi 2 8 <;> cases h3 : zak c.la 1 100 <;> simp [h2, h3, zda, -zb8]
 all_goals try (simp [zbw, h2, h3]; done)
 cases h4 : zak c.rw 1 20 <;> cases h5 : zak c.dn 1 1000 <;> simp [h4, h5, zda, -zb8]
 all_goals try (simp [zbw, h4, h5]; done)
 cases h6 : zak c.nu 1 c.dn <;> simp [h6, zda, -zb8]
 all_goals try (simp [zbw, h6]; done)
 by_cases h7 : (c.sg.length : Int) ≤ 4
 ·simp [h7, e, zbw, h0, h1, h2, h3, h4, h5, h6]
 ·simp [h7, zbw]
theorem zo9 {m : Nat → List Bool} {R : zaf} {c : IC} {st : St} {Q : Ex → St → Prop} (h : W m R c st (Nx (fun s => W m R (.loop c) s Q) Q ⟨⟩ ⟨⟩)) : W m R (.loop c) st Q := yjx ▸ h
theorem yhn (a b c d e f g : Int) (x : PV) (sg : List (List PV)) : RUN T zne [.agg [iv a, iv b, iv c, iv d, iv e, iv f, iv g, .sl 1 sg]] = some ([.own 1 (zac [a, b, c, d, e])], []) := by
 refine zal z2s rfl ?_
 simp [zt9, zua, zac]
theorem zqn : RUN T znf [] = some ([.own 1 (zac [1, 0, 2, 1, 1])], []) := by
 refine zal z2t rfl ?_
 simp [zub, zuc, zac]
theorem zqo : RUN T zng [] = some ([.own 1 (zac [8, 4, 8, 100, 20])], []) := by
 refine zal z2u rfl ?_
 simp [zud, zue, zac]
theorem yho (c : Cfg) (hl : c.sg.length ≤ 9223372036854775807) : RUN T zmu [.agg [iv c.ro, iv c.de, iv c.bi, iv c.la, iv c.rw, iv c.nu, iv c.dn, .sl 1 (zac c.sg)]] = some ([bv (zbw c)], []) := by
 refine zal z1t rfl ?_
 have e1 := yhn c.ro c.de c.bi c.la c.rw c.nu c.dn .undef (zac c.sg)
 simp [zsy, zsz, e1]
 refine zo9 ?_
 simp [zk6, zqn, zqo, zbq, -zbd, zrt]
 cases h0 : zak c.ro 1 8 <;> simp [h0]
 ·simp [zbw, h0]
 refine zo9 ?_
 simp [zk6, zqn, zqo, zbq, -zbd, zrt]
 cases h1 : zak c.de 0 4 <;> simp [h1]
 ·simp [zbw, h1]
 refine zo9 ?_
 simp [zk6, zqn, zqo, zbq, -zbd, zrt]
 cases h2 : zak c.bi 2 8 <;> simp [h2]
 ·simp [zbw, h2]
 refine zo9 ?_
 simp [zk6, zqn, zqo, zbq, -zbd, zrt]
 cases h3 : zak c.la 1 100 <;> simp [h3]
 ·simp [zbw, h3]
 refine zo9 ?_
 simp [zk6, zqn, zqo, zbq, -zbd, zrt]
 cases h4 : zak c.rw 1 20 <;> simp [h4]
 ·simp [zbw, h4]
 refine zo9 ?_
 simp [zk6]
 refine za3 (fun n st => ∃ i : Nat, i + n = c.sg.length ∧ st.V 1 = .ptr 0 none 0 0 0 ∧ st.V 5 = iv i ∧ st.S 0 = some (.box [iv c.ro, iv c.de, iv c.bi, iv c.la, iv c.rw, iv c.nu, iv c.dn, .sl 1 (zac c.sg)]) ∧ ∀ (j : Nat) (x : Int), j < i → c.sg[j]? = some x → zak x (-1) 1 = true) ?_ c.sg.length _ ⟨0, by simp⟩
 rintro n st ⟨i, hi, h1', h5, hS, hj⟩
 simp [z0w, h1', h5, hS]
 refine zdc (fun h => ?_) (fun h => ?_)
 ·simp at h
  obtain ⟨x, hx⟩ : ∃ x, c.sg[i]? = some x := ⟨_, List.getElem?_eq_getElem h⟩
  have hw := wS h hl
  have hx' := zbj hx
  simp [-getElem?_pos, h1', h5, hS, hx', hw, h, zbq, -zbd]
  cases hb : zak x (-1) 1 with
  | true =>
   simp [-getElem?_pos, h1', h5, hS, hw]
   refine zaq (n - 1) (by omega) ⟨i + 1, by omega, by simp [h1'], by simp, by simp [hS], fun j y hj' hy => ?_⟩
   by_cases e : j = i
   ·subst e; rw [hx] at hy; cases hy; exact hb
   ·exact hj j y (by omega) hy
  | false =>
   simp [zbw]
   intros
   exact ⟨x, List.mem_of_getElem? hx, hb⟩
 ·simp at h
  have hall : (c.sg.all fun n => zak n (-1) 1) = true := by
   rw [List.all_eq_true]
   intro x hx
   obtain ⟨j, hj'⟩ := List.getElem?_of_mem hx
   exact hj j x (by have := (List.getElem?_eq_some_iff.mp hj').1; omega) hj'
  simp [h1', hS, zbq, -zbd]
  cases h5 : zak c.dn 1 1000 <;> simp [h1', hS, h5, zbq, -zbd]
  ·simp [zbw, h5]
  cases h6 : zak c.nu 1 c.dn <;> simp [h1', hS, h6, zbq, -zbd]
  ·simp [zbw, h6]
  simp [zbw, h0, h1, h2, h3, h4, h5, h6, hall]
def fdv (a b : Int) : Int × Bool := if b = 0 ∨ (b = -1 ∧ a = -9223372036854775808) then (0, false) else (a.fdiv b, true)
theorem z5t {a b : Int} (ha : inI a) (hb : b ≠ 0) (h : ¬ (b = -1 ∧ a = -9223372036854775808)) : -9223372036854775808 ≤ a.tdiv b ∧ a.tdiv b ≤ 9223372036854775807 ∧ (b ≠ 1 → -9223372036854775808 ≤ a.tdiv b - 1) := by
 obtain ⟨h1, h2⟩ := ha
 have h3 : (a.tdiv b).natAbs = a.natAbs / b.natAbs := Int.natAbs_tdiv a b
 have h4 : a.natAbs / b.natAbs ≤ a.natAbs := Nat.div_le_self _ _
 by_cases c : b = 1
 ·subst c; simp; omega
 by_cases c2 : b = -1
 ·subst c2; simp; omega
 have h5 : a.natAbs / b.natAbs ≤ a.natAbs / 2 := Nat.div_le_div_left (by omega) (by omega)
 omega
theorem z4z (a b : Int) (hb : b ≠ 0) : a.fdiv b = if a.tmod b ≠ 0 ∧ ¬ (a < 0 ↔ b < 0) then a.tdiv b - 1 else a.tdiv b := by
 rw [Int.fdiv_eq_tdiv]
 have hd : b ∣ a ↔ a.tmod b = 0 := Int.dvd_iff_tmod_eq_zero
 by_cases c : b ∣ a
 ·rw [if_pos c, if_neg (by rw [hd.mp c]; simp)]; simp
 ·have hc : a.tmod b ≠ 0 := fun e => c (hd.mpr e)
  have ha : a ≠ 0 := fun e => c (by subst e; exact ⟨0, by simp⟩)
  rw [if_neg c]
  rcases Int.lt_or_gt_of_ne hb with s2 | s2
  ·rw [if_neg (by omega : ¬ 0 ≤ b), if_neg (by omega : ¬ 0 ≤ b), Int.sign_eq_neg_one_of_neg s2]
   by_cases s1 : 0 ≤ a
   ·rw [if_pos s1, if_pos ⟨hc, by omega⟩]
   ·rw [if_neg s1, if_neg (fun h => h.2 (by omega))]; omega
  ·rw [if_pos (by omega : 0 ≤ b), if_pos (by omega : 0 ≤ b), Int.sign_eq_one_of_pos s2]
   by_cases s1 : 0 ≤ a
   ·rw [if_pos s1, if_neg (fun h => h.2 (by omega))]; omega
   ·rw [if_neg s1, if_pos ⟨hc, by omega⟩]
theorem yhp (a b : Int) (ha : inI a) : RUN T zm1 [iv a, iv b] = some ([iv (fdv a b).1, bv (fdv a b).2], []) := by
 refine zal z16 rfl ?_
 simp [zte, ztf]
 by_cases h0 : b = 0
 ·subst h0; simp [fdv]
 by_cases hbad : b = -1 ∧ a = -9223372036854775808
 ·obtain ⟨rfl, rfl⟩ := hbad; simp [fdv]
 have hr := z5t ha h0 hbad
 have hq := w64 hr.1 hr.2.1
 have hf := z4z a b h0
 have e1 : fdv a b = (a.fdiv b, true) := by unfold fdv; rw [if_neg (by simp [h0]; intro h; exact fun h2 => hbad ⟨h, h2⟩)]
 rw [e1]
 have hq2 : a.tmod b ≠ 0 → IntKind.i64.wrap (a.tdiv b - 1) = a.tdiv b - 1 := fun h => w64 (hr.2.2 (by rintro rfl; simp at h)) (by omega)
 have f0 := eq_false h0
 obtain ⟨p1, hp1⟩ : ∃ p, (b = -1) = p := ⟨_, rfl⟩
 obtain ⟨p2, hp2⟩ : ∃ p, (a = -9223372036854775808) = p := ⟨_, rfl⟩
 rw [hp1, hp2] at hbad
 by_cases c1 : p1 <;> by_cases c2 : p2
 ·exact (hbad ⟨c1, c2⟩).elim
 all_goals
  simp only [c1, c2] at hp1 hp2
  simp [f0, hp1, hp2, hq]
  by_cases d0 : a.tmod b = 0
  ·rw [if_neg (by simp [d0])] at hf
   simp [d0, hf]
  ·have hq3 := hq2 d0
   have d1 := eq_false d0
   by_cases d2 : a < 0 <;> by_cases d3 : b < 0
   all_goals
    simp only [d2, d3, ne_eq, d1, not_false_eq_true, iff_self, not_true_eq_false, and_false, if_false, iff_true, iff_false, and_true, if_true, true_iff, false_iff] at hf
    simp [d1, d2, d3, hq3, hf]
theorem yhq (a b : Int) (ha : inI a) : RUN T zni [iv a, iv b] = some ([iv (fdv a b).1, bv (fdv a b).2], []) := by
 refine zal z2z rfl ?_
 simp [zun, zuo]
 by_cases h0 : b = 0
 ·subst h0; simp [fdv]
 by_cases hbad : b = -1 ∧ a = -9223372036854775808
 ·obtain ⟨rfl, rfl⟩ := hbad; simp [fdv]
 have hr := z5t ha h0 hbad
 have hq := w64 hr.1 hr.2.1
 have hf := z4z a b h0
 have e1 : fdv a b = (a.fdiv b, true) := by unfold fdv; rw [if_neg (by simp [h0]; intro h; exact fun h2 => hbad ⟨h, h2⟩)]
 rw [e1]
 have hq2 : a.tmod b ≠ 0 → IntKind.i64.wrap (a.tdiv b - 1) = a.tdiv b - 1 := fun h => w64 (hr.2.2 (by rintro rfl; simp at h)) (by omega)
 have f0 := eq_false h0
 obtain ⟨p1, hp1⟩ : ∃ p, (b = -1) = p := ⟨_, rfl⟩
 obtain ⟨p2, hp2⟩ : ∃ p, (a = -9223372036854775808) = p := ⟨_, rfl⟩
 rw [hp1, hp2] at hbad
 by_cases c1 : p1 <;> by_cases c2 : p2
 ·exact (hbad ⟨c1, c2⟩).elim
 all_goals
  simp only [c1, c2] at hp1 hp2
  simp [f0, hp1, hp2, hq]
  by_cases d0 : a.tmod b = 0
  ·rw [if_neg (by simp [d0])] at hf
   simp [d0, hf]
  ·have hq3 := hq2 d0
   have d1 := eq_false d0
   by_cases d2 : a < 0 <;> by_cases d3 : b < 0
   all_goals
    simp only [d2, d3, ne_eq, d1, not_false_eq_true, iff_self, not_true_eq_false, and_false, if_false, iff_true, iff_false, and_true, if_true, true_iff, false_iff] at hf
    simp [d1, d2, d3, hq3, hf]
abbrev zfb (c : Cfg) : PV := .agg [iv c.ro, iv c.de, iv c.bi, iv c.la, iv c.rw, iv c.nu, iv c.dn, .sl 1 (zac c.sg)]
abbrev zjm (c : Cfg) : PV := .agg [iv c.ro, iv c.de, iv c.bi, iv c.la, iv c.rw, iv c.nu, iv c.dn, .own 1 (zac c.sg)]
theorem za6 {n a b : Int} : zak n a b = true ↔ a ≤ n ∧ n ≤ b := by simp [zak]
def zf9 (v : Int) : Bool := zak v (-1099511627776) 1099511627776
@[simp] theorem z39 (v : Int) : RUN T zkj [iv v] = some ([bv (zf9 v)], []) := by
 refine zal z22 rfl ?_
 simp [zur, zus, zf9, zak]
@[simp] theorem z4a (v : Int) : RUN T zkm [iv v] = some ([bv (zf9 v)], []) := by
 refine zal z3g rfl ?_
 simp [zvb, zvc, zf9, zak]
def shr (v : Int) (c : Cfg) : Int × Bool := if zbw c && zf9 v then (( v * c.nu).fdiv c.dn, true) else (0, false)
theorem z52 (a b c d e a' b' c' d' e' : Int) : eqP [.i .i64, .i .i64, .i .i64, .i .i64, .i .i64] (.agg [iv a, iv b, iv c, iv d, iv e]) (.agg [iv a', iv b', iv c', iv d', iv e']) = some (decide (a = a' ∧ b = b' ∧ c = c' ∧ d = d' ∧ e = e')) := by
 simp only [eqP, zbn, ylc, Option.bind_some]
 by_cases h1 : a = a' <;> by_cases h2 : b = b' <;> by_cases h3 : c = c' <;> by_cases h4 : d = d' <;> by_cases h5 : e = e' <;> simp [h1, h2, h3, h4, h5]
def zbb (n : Int) : Bool := zak n (-2147483647) 2147483647
@[simp] theorem zlg (v : Int) : RUN T zjc [iv v] = some ([bv (zbb v)], []) := by
 refine zal z3e rfl ?_
 simp [zu7, zu8, zbb, zak]
@[simp] theorem yt9 (v : Int) : RUN T znx [iv v] = some ([bv (zbb v)], []) := by
 refine zal z3w rfl ?_
 simp [zvw, zvx, zbb, zak]
def adj (p : Int → Int → Bool) : List Int → Bool
 | a :: b :: r => p a b || adj p (b :: r)
 | _ => false
theorem zy1 {p : Int → Int → Bool} : ∀ {l : List Int}, adj p l = true ↔ ∃ (i : Nat) (a b : Int), l[i]? = some a ∧ l[i + 1]? = some b ∧ p a b = true
 | [] => by simp [adj]
 | [x] => by simp [adj]
 | x :: y :: r => by
  simp only [adj, Bool.or_eq_true]
  rw [zy1 (l := y :: r)]
  constructor
  ·rintro (h | ⟨i, a, b, h1, h2, h3⟩)
   ·exact ⟨0, x, y, rfl, rfl, h⟩
   ·exact ⟨i + 1, a, b, by simpa using h1, by simpa using h2, h3⟩
  ·rintro ⟨i, a, b, h1, h2, h3⟩
   cases i with
   | zero => simp at h1 h2; subst h1; subst h2; exact .inl h3
   | succ i => exact .inr ⟨i, a, b, by simpa using h1, by simpa using h2, h3⟩
theorem zo4 {α : Type} {P : Nat → α → Prop} {l : List α} {i : Nat} {x : α} (h : ∀ (j : Nat) (x : α), j < i → l[j]? = some x → P j x) (hi : l[i]? = some x) (hp : P i x) : ∀ (j : Nat) (x : α), j < i + 1 → l[j]? = some x → P j x := by
 intro j y hj hy
 by_cases e : j = i
 ·subst e; rw [hi] at hy; cases hy; exact hp
 ·exact h j y (by omega) hy
def cel (q : Bool) (l : List Int) : PV := if q then .own 1 (zac l) else .sl 1 (zac l)
@[simp] theorem y07 (q : Bool) (l : List Int) : fz (cel q l) = .sl 1 (zac l) := by cases q <;> simp [cel]
def rws (q : Bool) (L : List (List Int)) : List (List PV) := L.map fun l => [cel q l]
@[simp] theorem y1x (q : Bool) (L : List (List Int)) : (rws q L).length = L.length := by simp [rws]
theorem ze3 {q : Bool} {L : List (List Int)} {i : Nat} {l : List Int} (h : L[i]? = some l) : (rws q L)[i]? = some [cel q l] := by simp [rws, h]
@[simp] theorem yua (n : Int) : RUN T zks [iv n] = some ([bv (!zbb n)], []) := by
 refine zal z3v rfl ?_
 simp [zvu, zvv]
theorem yhr (l : List Int) (hl : l.length ≤ 9223372036854775807) : RUN T znq [.sl 1 (zac l)] = some ([bv (l.all zbb)], []) := by
 refine zal z3f rfl ?_
 have e := zxx (f := zks) (p := fun n => !zbb n) l hl (by simp) (fun n _ => by simp)
 simp [zu9, zva, e]
 simp [List.any_eq_not_all_not]
def ze5 (l : List Int) : Bool := !adj (fun a b => decide (b ≤ a)) l && l.all zbb && decide ((l.length : Int) ≤ 7)
theorem z53 {p : Int → Int → Bool} {l : List Int} (h : ∀ (j : Nat) (a b : Int), l[j]? = some a → l[j + 1]? = some b → p a b = false) : adj p l = false := by
 cases e : adj p l with
 | false => rfl
 | true =>
  obtain ⟨j, a, b, h1, h2, h3⟩ := zy1.mp e
  rw [h j a b h1 h2] at h3; cases h3
theorem z42 {p : Int → Int → Bool} {l : List Int} {j : Nat} {a b : Int} (h1 : l[j]? = some a) (h2 : l[j + 1]? = some b) (h3 : p a b = true) : adj p l = true := zy1.mpr ⟨j, a, b, h1, h2, h3⟩
theorem zrm {l : List Int} {p : Int → Bool} {j : Nat} {a : Int} (h1 : l[j]? = some a) (h2 : p a = false) : l.all p = false := by
 cases e : l.all p with
 | false => rfl
 | true => rw [List.all_eq_true.mp e a (List.mem_of_getElem? h1)] at h2; cases h2
theorem zri {l : List Int} {p : Int → Bool} (h : ∀ (j : Nat) (a : Int), j < l.length → l[j]? = some a → p a = true) : l.all p = true := by
 rw [List.all_eq_true]
 intro x hx
 obtain ⟨j, hj⟩ := List.getElem?_of_mem hx
 exact h j x (List.getElem?_eq_some_iff.mp hj).1 hj
theorem yhs (l : List Int) (hl : l.length ≤ 9223372036854775807) : RUN T znh [.sl 1 (zac l)] = some ([bv (ze5 l)], []) := by
 refine zal z2v rfl ?_
 have hd := yhr l hl
 simp [zuf, zug]
 refine za3 (fun n st => ∃ i : Nat, i + n = l.length + 1 ∧ 1 ≤ i ∧ st.V 0 = .sl 1 (zac l) ∧ st.V 3 = iv i ∧ ∀ (j : Nat) (a b : Int), j + 1 < i → l[j]? = some a → l[j + 1]? = some b → decide (b ≤ a) = false) ?_ l.length _ ⟨1, by omega, by omega, by simp, by simp, fun j a b h => by omega⟩
 rintro n st ⟨i, hi, h1, v0, v3, hj⟩
 simp [z00, v0, v3]
 refine zdc (fun h => ?_) (fun h => ?_)
 ·simp at h
  obtain ⟨k, rfl⟩ : ∃ k, i = k + 1 := ⟨i - 1, by omega⟩
  obtain ⟨a, ha⟩ : ∃ a, l[k]? = some a := ⟨_, List.getElem?_eq_getElem (by omega)⟩
  obtain ⟨b, hb⟩ : ∃ b, l[k + 1]? = some b := ⟨_, List.getElem?_eq_getElem h⟩
  have ha' := zbj ha
  have hb' := zbj hb
  have hw : IntKind.i64.wrap ((k : Int) + 1 + 1) = (k : Int) + 1 + 1 := w64 (by omega) (by omega)
  have hw1 : IntKind.i64.wrap (k : Int) = k := w64 (by omega) (by omega)
  have hkl : k < l.length := by omega
  simp [-getElem?_pos, v0, v3, ha', hb', hw1, h, hkl]
  refine zdc (fun h2 => ?_) (fun h2 => ?_)
  ·simp at h2
   have : ze5 l = false := by unfold ze5; rw [z42 ha hb (by simpa using h2)]; rfl
   simp [this]
  ·simp at h2
   simp [-getElem?_pos, v0, v3, hw]
   refine zaq (n - 1) (by omega) ⟨k + 2, by omega, by omega, by simp [v0], by simp; omega, fun j x y hjk hx hy => ?_⟩
   by_cases e : j = k
   ·subst e; rw [ha] at hx; rw [hb] at hy; cases hx; cases hy; simp; omega
   ·exact hj j x y (by omega) hx hy
 ·simp at h
  have e : adj (fun a b => decide (b ≤ a)) l = false := z53 fun j a b h1 h2 => hj j a b (by have := (List.getElem?_eq_some_iff.mp h2).1; omega) h1 h2
  unfold ze5
  rw [e]
  by_cases c : (l.length : Int) ≤ 7
  ·simp [v0, hd, c]
  ·simp [v0, c]
theorem yht (l : List Int) (hl : l.length ≤ 9223372036854775807) : RUN T znd [.sl 1 (zac l)] = some ([bv (ze5 l)], []) := by
 refine zal z2r rfl ?_
 simp [zt7, zt8]
 refine za3 (fun n st => ∃ i : Nat, i + n = l.length ∧ st.V 0 = .sl 1 (zac l) ∧ st.V 3 = iv i ∧ (∀ (j : Nat) (a : Int), j < i → l[j]? = some a → zbb a = true) ∧ ∀ (j : Nat) (a b : Int), j + 1 < i → l[j]? = some a → l[j + 1]? = some b → decide (b ≤ a) = false) ?_ l.length _ ⟨0, by simp⟩
 rintro n st ⟨i, hi, v0, v3, hd, hj⟩
 simp [z0z, v0, v3]
 refine zdc (fun h => ?_) (fun h => ?_)
 ·simp at h
  obtain ⟨b, hb⟩ : ∃ b, l[i]? = some b := ⟨_, List.getElem?_eq_getElem h⟩
  have hb' := zbj hb
  have hw := wS h hl
  rcases Bool.eq_false_or_eq_true (zbb b) with d | d
  ·have hd' := zo4 (P := fun _ a => zbb a = true) hd hb d
   rcases i with _ | k
   ·simp [-getElem?_pos, v0, v3, hb', d, h, hw]
    exact zaq (n - 1) (by omega) ⟨1, by omega, by simp [v0], by simp, by simpa using hd', fun j x y hjk hx hy => by omega⟩
   ·obtain ⟨a, ha⟩ : ∃ a, l[k]? = some a := ⟨_, List.getElem?_eq_getElem (by omega)⟩
    have ha' := zbj ha
    have hw : IntKind.i64.wrap ((k : Int) + 1 + 1) = (k : Int) + 1 + 1 := w64 (by omega) (by omega)
    have hw1 : IntKind.i64.wrap (k : Int) = k := w64 (by omega) (by omega)
    have hkl : k < l.length := by omega
    have hk0 : (0 : Int) < ((k + 1 : Nat) : Int) := by omega
    rcases Classical.propComplete (b ≤ a) with c | c
    ·have : ze5 l = false := by unfold ze5; rw [z42 ha hb (by simp [c])]; rfl
     simp [-getElem?_pos, v0, v3, ha', hb', d, h, hw, hw1, hkl, hk0, c, this]
    ·simp [-getElem?_pos, v0, v3, ha', hb', d, h, hw, hw1, hkl, hk0, c]
     refine zaq (n - 1) (by omega) ⟨k + 2, by omega, by simp [v0], by simp; omega, hd', fun j x y hjk hx hy => ?_⟩
     by_cases e : j = k
     ·subst e; rw [ha] at hx; rw [hb] at hy; cases hx; cases hy; simp [c]
     ·exact hj j x y (by omega) hx hy
  ·have : ze5 l = false := by unfold ze5; rw [zrm hb d]; simp
   simp [-getElem?_pos, v0, v3, hb', d, h, this]
 ·simp at h
  have e : adj (fun a b => decide (b ≤ a)) l = false := z53 fun j a b h1 h2 => hj j a b (by have := (List.getElem?_eq_some_iff.mp h2).1; omega) h1 h2
  have e2 : l.all zbb = true := zri fun j a h1 h2 => hd j a (by omega) h2
  unfold ze5
  rw [e, e2]
  simp [v0]
def zcq : List (List Int) → Nat
 | [] => 0
 | l :: _ => l.length
theorem zxy (q : Bool) (c v : List (List Int)) : RUN T zh4 [.agg [.sl 1 (rws q c), .sl 1 (rws q v)]] = some ([iv (zcq v)], []) := by
 refine zal z1u rfl ?_
 cases v with
 | nil => simp [zpu, zpv, zcq]
 | cons l L =>
  have h : rws q (l :: L) = [cel q l] :: rws q L := rfl
  have h0 : ((L.length : Int) + 1 = 0) = False := eq_false (by omega)
  simp [h0, zpu, zpv, zcq, h]
theorem zxz (q : Bool) (c v : List (List Int)) : RUN T zh5 [.agg [.sl 1 (rws q c), .sl 1 (rws q v)]] = some ([iv (zcq v)], []) := by
 refine zal z1w rfl ?_
 cases v with
 | nil => simp [zpw, zpx, zcq]
 | cons l L =>
  have h : rws q (l :: L) = [cel q l] :: rws q L := rfl
  have h0 : ((L.length : Int) + 1 = 0) = False := eq_false (by omega)
  simp [h0, zpw, zpx, zcq, h]
theorem yhu {f : Nat} {c : PV} {p : Int → Bool} (l : List Int) (hl : l.length ≤ 9223372036854775807) (hm : zae T f = []) (hp : ∀ n ∈ l, RUN T f [iv n, .fptr [c] 0] = some ([bv (p n)], [])) :
  RUN T zkf [.sl 1 (zac l), .fn f [.fptr [c] 0]] = some ([iv (zi1 p l)], []) := by
 refine zal zxv rfl ?_
 simp [zp9, zqa]
 refine za3 (fun n st => ∃ i : Nat, i + n = l.length ∧ st.V 0 = .sl 1 (zac l) ∧ st.V 1 = .fn f [.fptr [c] 0] ∧ st.V 8 = iv i ∧ st.V 7 = iv l.length ∧ ∀ (j : Nat) (x : Int), j < i → l[j]? = some x → p x = false) ?_ l.length _ ⟨0, by simp⟩
 rintro n st ⟨i, hi, h0, h1, h8, h7, hj⟩
 simp [zxq, h0, h1, h8, h7]
 refine zdc (fun h => ?_) (fun h => ?_)
 ·simp at h
  obtain ⟨x, hx⟩ : ∃ x, l[i]? = some x := ⟨_, List.getElem?_eq_getElem h⟩
  have hw := wS h hl
  have hx' := zbj hx
  have hpx := hp x (List.mem_of_getElem? hx)
  simp [-getElem?_pos, h0, h1, h8, h7, hx', hw, hm, hpx, h]
  refine zdc (fun b0 => ?_) (fun b0 => ?_) <;> (try simp at b0) <;> simp [-getElem?_pos, b0, h0, h1, h8, h7, hx', hw]
  all_goals first
   | exact (z5i hx b0 hj).symm
   | exact zaq (n - 1) (by omega) ⟨i + 1, by omega, by simp [h0], by simp [h1], by simp, by simp [h7], z44 hj hx b0⟩
 ·simp at h
  simp [h]
  exact (z9k fun j x hl hx => hj j x (by omega) hx).symm
theorem yhv {f : Nat} {c : PV} {p : Int → Bool} (l : List Int) (hl : l.length ≤ 9223372036854775807) (hm : zae T f = []) (hp : ∀ n ∈ l, RUN T f [iv n, .fptr [c] 0] = some ([bv (p n)], [])) :
  RUN T zhi [.sl 1 (zac l), .fn f [.fptr [c] 0]] = some ([bv (l.any p)], []) := by
 refine zal zxu rfl ?_
 have e := yhu l hl hm hp
 simp [zpy, zpz, e, z77]
@[simp] theorem yub (n : Int) (a : List Int) : RUN T zke [iv n, .fptr [.sl 1 (zac a)] 0] = some ([bv (!zak n 0 a.length)], []) := by
 refine zal z2w rfl ?_
 simp [zuh, zui, zda, -zb8]
theorem z6b {s : St} {d : Option Dst} {op : IOp} {g : Opd} {v : Bool} {x : PV} : (yv s ⟨d, op, some (g, v)⟩ = some x) = (Ob' (zhh v (g.get s)) fun t => Br t (WI (fun _ => []) (fun _ _ => none) op s (fun y _ => y = x)) (PV.v Go.undef = x)) := by
 simp only [yv, z8k, WI, Ob', Br, Option.map_eq_some_iff, Option.bind_eq_some_iff, eq_iff_iff]
 constructor
 ·rintro ⟨⟨y, s'⟩, ⟨t, h1, h2⟩, h3⟩
  refine ⟨t, h1, fun ht => ?_, fun ht => ?_⟩ <;> subst ht
  ·exact ⟨y, s', by simpa using h2, h3⟩
  ·simp at h2; obtain ⟨rfl, rfl⟩ := h2; exact h3
 ·rintro ⟨t, h1, h2, h3⟩
  cases t with
  | true => obtain ⟨y, s', h4, h5⟩ := h2 rfl; exact ⟨(y, s'), ⟨true, h1, by simpa using h4⟩, h5⟩
  | false => exact ⟨_, ⟨false, h1, rfl⟩, h3 rfl⟩
@[simp] theorem y8y {s : St} {d : Option Dst} {op : IOp} {g : Opd} {v : Bool} {x : PV} {n : Nat} {r : List (zab × PV × Nat)} : zbr s ((⟨d, op, some (g, v)⟩, x, n + 1) :: r) = ((Ob' (zhh v (g.get s)) fun t => Br t (WI (fun _ => []) (fun _ _ => none) op s (fun y _ => y = x)) (PV.v Go.undef = x)) ∧ zbr s r) := by
 simp only [zbr, z6b]
@[simp] theorem y2a {V E : Nat → PV} {d : Option Dst} {op : IOp} {g : Opd} {v : Bool} {x : PV} {n : Nat} {s : St} {ms : List St} : zay V E ⟨d, op, some (g, v)⟩ x (n + 1) (s :: ms) = ((Ob' (zhh v (g.get { s with V := V, E := E })) fun t => Br t (WI (fun _ => []) (fun _ _ => none) op { s with V := V, E := E } (fun y _ => y = x)) (PV.v Go.undef = x)) ∧ zay V E ⟨d, op, some (g, v)⟩ x n ms) := by
 simp only [zay, z6b]
def ze2 (c v : List (List Int)) (f : Nat) : Bool := match c[f]?, v[f]? with
 | some a, some b => ze5 a && decide ((b.length : Int) = zcq v) && b.all fun x => zak x 0 a.length
 | _, _ => true
def zdf (c v : List (List Int)) : Bool := zak c.length 1 4 && decide ((v.length : Int) = c.length) && zak (zcq v) 1 40 && (List.range c.length).all (ze2 c v)
theorem z5m {c v : List (List Int)} (h1 : zak c.length 1 4 = true) (h2 : (v.length : Int) = c.length) (h3 : zak (zcq v) 1 40 = true) : zdf c v = (List.range c.length).all (ze2 c v) := by
 simp [zdf, h1, h2, h3]
theorem zwf {p : Nat → Bool} {n : Nat} (h : ∀ i, i < n → p i = true) : (List.range n).all p = true := by
 rw [List.all_eq_true]
 intro x hx
 exact h x (by simpa using hx)
theorem zht {p : Nat → Bool} {n i : Nat} (hi : i < n) (h : p i = false) : (List.range n).all p = false := by
 cases e : (List.range n).all p with
 | false => rfl
 | true => rw [List.all_eq_true.mp e i (by simpa using hi)] at h; cases h
theorem z6h {c v : List (List Int)} {f : Nat} {a b : List Int} (ha : c[f]? = some a) (hb : v[f]? = some b) : ze2 c v f = (ze5 a && decide ((b.length : Int) = zcq v) && b.all fun x => zak x 0 a.length) := by
 simp [ze2, ha, hb]
theorem zo3 {P : Nat → Prop} {i : Nat} (h : ∀ j, j < i → P j) (hi : P i) : ∀ j, j < i + 1 → P j := by
 intro j hj
 by_cases e : j = i
 ·subst e; exact hi
 ·exact h j (by omega)
set_option maxHeartbeats 1000000 in
theorem z4b (q : Bool) (c v : List (List Int)) (hc : ∀ l ∈ c, l.length ≤ 9223372036854775807) (hv : ∀ l ∈ v, l.length ≤ 9223372036854775807) : RUN T zj7 [.agg [.sl 1 (rws q c), .sl 1 (rws q v)]] = some ([bv (zdf c v)], []) := by
 refine zal z1v rfl ?_
 have hR := zxz q c v
 by_cases h1 : zak c.length 1 4 = true
 case neg => simp [zk7, zk8, zda, -zb8, h1, zdf]
 by_cases h2 : (v.length : Int) = c.length
 case neg => simp [zk7, zk8, zda, -zb8, h1, h2, zdf]
 by_cases h3 : zak (zcq v) 1 40 = true
 case neg => simp [zk7, zk8, zda, -zb8, h1, h2, h3, hR, zdf]
 have h1' := za6.mp h1
 rw [z5m h1 h2 h3]
 simp [zk7, zk8, zda, -zb8, h1, h2, h3, hR]
 refine za3 (fun n st => ∃ i : Nat, i + n = c.length ∧ (∀ j, j < i → ze2 c v j = true) ∧ st.V 1 = .ptr 0 none 0 0 0 ∧ st.V 26 = .sl 1 (rws q c) ∧ st.V 27 = iv c.length ∧ st.V 28 = iv i ∧ 0 < st.nx ∧ st.S 0 = some (.box [.sl 1 (rws q c), .sl 1 (rws q v)])) ?_ c.length _ ⟨0, by simp⟩
 rintro n st ⟨i, hi, hk, v1, v26, v27, v28, hnx, hS⟩
 simp [z0x, v26, v27, v28]
 have z := fr hnx
 refine zdc (fun h => ?_) (fun h => ?_)
 ·simp at h
  obtain ⟨a, ha⟩ : ∃ a, c[i]? = some a := ⟨_, List.getElem?_eq_getElem h⟩
  obtain ⟨b, hb⟩ : ∃ b, v[i]? = some b := ⟨_, List.getElem?_eq_getElem (by omega)⟩
  have ha' := ze3 (q := q) ha
  have hb' := ze3 (q := q) hb
  have hal := hc a (List.mem_of_getElem? ha)
  have hbl := hv b (List.mem_of_getElem? hb)
  have hC := yhs a hal
  have hF := yhv (f := zke) (c := .sl 1 (zac a)) (p := fun n => !zak n 0 a.length) b hbl (by simp) (fun n _ => by simp)
  have hw := wS h (by omega : c.length ≤ 9223372036854775807)
  have hiv : i < v.length := by omega
  have hfe := z6h ha hb
  by_cases d1 : ze5 a = true
  ·rcases Classical.propComplete ((b.length : Int) = zcq v) with d2 | d2
   ·by_cases d3 : (b.all fun x => zak x 0 a.length) = true
    ·have d3' : (b.any fun n => !zak n 0 a.length) = false := by simpa [List.any_eq_not_all_not] using d3
     simp [-getElem?_pos, v1, v26, v27, v28, hS, z, ha', hb', hC, hF, hR, hw, h, hiv, d1, d2, d3']
     exact zaq (n - 1) (by omega) ⟨i + 1, by omega, zo3 hk (by rw [hfe, d1, d3]; simp [d2]), by simp [v1], by simp [v26], by simp [v27], by simp, by simp, by simp [z, hS]⟩
    ·have d3' : (b.any fun n => !zak n 0 a.length) = true := by simpa [List.any_eq_not_all_not] using d3
     have no := zht h (by rw [hfe, d1]; simp [d3] : ze2 c v i = false)
     simp [-getElem?_pos, v1, v26, v27, v28, hS, z, ha', hb', hC, hF, hR, hw, h, hiv, d1, d2, d3', no]
   ·have no := zht h (by rw [hfe, d1]; simp [d2] : ze2 c v i = false)
    simp [-getElem?_pos, v1, v26, v27, v28, hS, z, ha', hb', hC, hF, hR, hw, h, hiv, d1, d2, no]
  ·have no := zht h (by rw [hfe]; simp [d1] : ze2 c v i = false)
   simp [-getElem?_pos, v1, v26, v27, v28, hS, z, ha', hb', hC, hF, hR, hw, h, hiv, d1, no]
 ·simp at h
  have := zwf (p := ze2 c v) (n := c.length) fun j hj => hk j (by omega)
  simp [this]
set_option maxHeartbeats 1000000 in
theorem yhw (q : Bool) (c v : List (List Int)) (hc : ∀ l ∈ c, l.length ≤ 9223372036854775807) (hv : ∀ l ∈ v, l.length ≤ 9223372036854775807) : RUN T zmt [.agg [.sl 1 (rws q c), .sl 1 (rws q v)]] = some ([bv (zdf c v)], []) := by
 refine zal z1s rfl ?_
 have hR := zxy q c v
 by_cases h1 : zak c.length 1 4 = true
 case neg => simp [zk4, zk5, zbq, -zbd, h1, zdf]
 by_cases h2 : (v.length : Int) = c.length
 case neg => simp [zk4, zk5, zbq, -zbd, h1, h2, zdf]
 by_cases h3 : zak (zcq v) 1 40 = true
 case neg => simp [zk4, zk5, zbq, -zbd, h1, h2, h3, hR, zdf]
 have h1' := za6.mp h1
 rw [z5m h1 h2 h3]
 simp [zk4, zk5, zbq, -zbd, h1, h2, h3, hR]
 refine za3 (fun n st => ∃ i : Nat, i + n = c.length ∧ (∀ j, j < i → ze2 c v j = true) ∧ st.V 1 = .ptr 0 none 0 0 0 ∧ st.V 3 = iv i ∧ 0 < st.nx ∧ st.S 0 = some (.box [.sl 1 (rws q c), .sl 1 (rws q v)])) ?_ c.length _ ⟨0, by simp⟩
 rintro n st ⟨i, hi, hk, v1, v3, hnx, hS⟩
 simp [z0v, v1, v3, hS]
 have z := fr hnx
 refine zdc (fun h => ?_) (fun h => ?_)
 ·simp at h
  obtain ⟨a, ha⟩ : ∃ a, c[i]? = some a := ⟨_, List.getElem?_eq_getElem h⟩
  obtain ⟨b, hb⟩ : ∃ b, v[i]? = some b := ⟨_, List.getElem?_eq_getElem (by omega)⟩
  have ha' := ze3 (q := q) ha
  have hb' := ze3 (q := q) hb
  have hal := hc a (List.mem_of_getElem? ha)
  have hbl := hv b (List.mem_of_getElem? hb)
  have hC := yht a hal
  have hw := wS h (by omega : c.length ≤ 9223372036854775807)
  have hiv : i < v.length := by omega
  have hfe := z6h ha hb
  by_cases d1 : ze5 a = true
  case neg =>
   have no := zht h (by rw [hfe]; simp [d1] : ze2 c v i = false)
   simp [-getElem?_pos, v1, v3, hS, z, ha', hb', hC, hR, hw, h, hiv, d1, no]
  rcases Classical.propComplete ((b.length : Int) = zcq v) with d2 | d2
  case inr =>
   have no := zht h (by rw [hfe, d1]; simp [d2] : ze2 c v i = false)
   simp [-getElem?_pos, v1, v3, hS, z, ha', hb', hC, hR, hw, h, hiv, d1, d2, no]
  simp [-getElem?_pos, v1, v3, hS, z, ha', hb', hC, hR, hw, h, hiv, d1, d2]
  refine za3 (fun n st => ∃ j : Nat, j + n = b.length ∧ (∀ (k : Nat) (x : Int), k < j → b[k]? = some x → zak x 0 a.length = true) ∧ st.V 1 = .ptr 0 none 0 0 0 ∧ st.V 3 = iv i ∧ st.V 4 = iv j ∧ 0 < st.nx ∧ st.S 0 = some (.box [.sl 1 (rws q c), .sl 1 (rws q v)])) ?_ b.length _ ⟨0, by omega, fun _ _ h => by omega, by simp [v1], by simp [v3], by simp, by simp [hnx], by simp [hS]⟩
  clear v1 v3 hnx hS z
  rintro n' st ⟨j, hj, hjk, v1, v3, v4, hnx, hS⟩
  simp [-getElem?_pos, z0u, v1, v3, v4, hS, hb', hiv]
  refine zdc (fun h4 => ?_) (fun h4 => ?_)
  ·simp at h4
   obtain ⟨x, hx⟩ : ∃ x, b[j]? = some x := ⟨_, List.getElem?_eq_getElem h4⟩
   have hx' := zbj hx
   have hwj := wS h4 hbl
   rcases Bool.eq_false_or_eq_true (zak x 0 a.length) with d3 | d3
   ·simp [-getElem?_pos, v1, v3, v4, hS, ha', hb', hx', hiv, h, h4, d3, hwj, zbq, -zbd]
    exact zaq (n' - 1) (by omega) ⟨j + 1, by omega, zo4 (P := fun _ x => zak x 0 a.length = true) hjk hx d3, by simp [v1], by simp [v3], by simp, by simp [hnx], by simp [hS]⟩
   ·have no := zht h (by rw [hfe, zrm hx d3]; simp : ze2 c v i = false)
    simp [-getElem?_pos, v1, v3, v4, hS, ha', hb', hx', hiv, h, h4, d3, hwj, no, zbq, -zbd]
  ·simp at h4
   have ok : ze2 c v i = true := by
    rw [hfe, d1, zri fun k x hk hx => hjk k x (by omega) hx]; simp [d2]
   simp [-getElem?_pos, v1, v3, v4, hS, hw]
   exact zaq (n - 1) (by omega) ⟨i + 1, by omega, zo3 hk ok, by simp [v1], by simp, by simp [hnx], by simp [hS]⟩
 ·simp at h
  have := zwf (p := ze2 c v) (n := c.length) fun j hj => hk j (by omega)
  simp [this]
def zhc (x : Int) : Bool := zak x (-2199023255552) 2199023255552
def zcz (c v : List (List Int)) (lab : List Int) (g : Cfg) : Bool := zdf c v && zbw g && decide ((lab.length : Int) = zcq v) && lab.all zhc
@[simp] theorem yuc (n : Int) : RUN T zj8 [iv n] = some ([bv (!zhc n)], []) := by
 refine zal z1x rfl ?_
 simp [zs0, zs1, zda, -zb8, zhc]
theorem zx0 (q : Bool) (c v : List (List Int)) (lab : List Int) (g : Cfg) (hc : ∀ l ∈ c, l.length ≤ 9223372036854775807) (hv : ∀ l ∈ v, l.length ≤ 9223372036854775807) (hlab : lab.length ≤ 9223372036854775807) (hg : g.sg.length ≤ 9223372036854775807) : RUN T zi5 [.agg [.sl 1 (rws q c), .sl 1 (rws q v)], .sl 1 (zac lab), zfb g] = some ([bv (zcz c v lab g)], []) := by
 refine zal z1b rfl ?_
 have e1 := z4b q c v hc hv
 have e2 := z38 g hg
 have e3 := zxz q c v
 have e4 := zxx (f := zj8) (p := fun n => !zhc n) lab hlab (by simp) (fun n _ => by simp)
 unfold zcz
 cases d1 : zdf c v with
 | false => simp [zk1, zk2, zfb, e1, d1]
 | true =>
  cases d2 : zbw g with
  | false => simp [zk1, zk2, zfb, e1, d1, e2, d2]
  | true =>
   rcases Classical.propComplete ((lab.length : Int) = zcq v) with d3 | d3
   ·have d4 : (!(lab.any fun n => !zhc n)) = lab.all zhc := by simp [List.any_eq_not_all_not]
    simp [zk1, zk2, zfb, e1, d1, e2, d2, e3, d3, e4, d4]
   ·simp [zk1, zk2, zfb, e1, d1, e2, d2, e3, d3]
theorem yhx (q : Bool) (c v : List (List Int)) (lab : List Int) (g : Cfg) (hc : ∀ l ∈ c, l.length ≤ 9223372036854775807) (hv : ∀ l ∈ v, l.length ≤ 9223372036854775807) (hlab : lab.length ≤ 9223372036854775807) (hg : g.sg.length ≤ 9223372036854775807) : RUN T zmi [.agg [.sl 1 (rws q c), .sl 1 (rws q v)], .sl 1 (zac lab), zfb g] = some ([bv (zcz c v lab g)], []) := by
 refine zal z1a rfl ?_
 have e1 := yhw q c v hc hv
 have e2 := yho g hg
 have e3 := zxy q c v
 unfold zcz
 cases d1 : zdf c v with
 | false => simp [zkz, zk0, zfb, e1, d1]
 | true =>
  cases d2 : zbw g with
  | false => simp [zkz, zk0, zfb, e1, d1, e2, d2]
  | true =>
   rcases Classical.propComplete ((lab.length : Int) = zcq v) with d3 | d3
   ·simp [zkz, zk0, zfb, e1, d1, e2, d2, e3, d3]
    refine za3 (fun n st => ∃ i : Nat, i + n = lab.length ∧ (∀ (j : Nat) (x : Int), j < i → lab[j]? = some x → zhc x = true) ∧ st.V 1 = .sl 1 (zac lab) ∧ st.V 7 = iv i) ?_ lab.length _ ⟨0, by omega, fun _ _ h => by omega, by simp, by simp⟩
    rintro n st ⟨i, hi, hj, v1, v7⟩
    simp [z0s, v1, v7]
    refine zdc (fun h => ?_) (fun h => ?_)
    ·simp at h
     obtain ⟨x, hx⟩ : ∃ x, lab[i]? = some x := ⟨_, List.getElem?_eq_getElem h⟩
     have hx' := zbj hx
     have hw := wS h hlab
     have hlb : zhc x = zak x (-2199023255552) 2199023255552 := rfl
     cases d4 : zhc x with
     | true =>
      have d5 := hlb.symm.trans d4
      simp [-getElem?_pos, v1, v7, hx', hw, h, d5, zbq, -zbd]
      exact zaq (n - 1) (by omega) ⟨i + 1, by omega, zo4 (P := fun _ x => zhc x = true) hj hx d4, by simp [v1], by simp⟩
     | false =>
      have d5 := hlb.symm.trans d4
      have no := zrm hx d4
      simp [-getElem?_pos, v1, v7, hx', hw, h, d5, no, zbq, -zbd]
    ·simp at h
     have := zri (p := zhc) fun j a h1 h2 => hj j a (by omega) h2
     simp [this, d3]
   ·simp [zkz, zk0, zfb, e1, d1, e2, d2, e3, d3]
theorem yal {α : Type} {f : α → List PV} {p : α → Prop} {tys : List TY} (h : ∀ cs, zca tys cs → ∃ a, f a = cs ∧ p a) : ∀ {es : List (List PV)}, (∀ cs ∈ es, zca tys cs) → ∃ l : List α, l.map f = es ∧ ∀ a ∈ l, p a
 | [], _ => ⟨[], rfl, by simp⟩
 | e :: es, hs => by
  obtain ⟨a, ha, hp⟩ := h e (hs e (by simp))
  obtain ⟨l, hl, hq⟩ := yal h (es := es) (fun cs hc => hs cs (by simp [hc]))
  refine ⟨a :: l, by simp [ha, hl], fun b hb => ?_⟩
  rcases List.mem_cons.mp hb with e | e
  ·subst e; exact hp
  ·exact hq b e
theorem yp2 {P : Program} {l : List TypeId} (h : (l.all fun t => P.readableRec t && decide (t < P.types.size)) = true) : ∀ t ∈ l, P.readableRec t = true ∧ t < P.types.size := by
 intro t ht
 have := List.all_eq_true.mp h t ht
 simpa using this
theorem yoa {p : Bool × List TY} {pvs : List PV} (h : zdr (fun p c => zjq p.1 p.2 c) [p] pvs) : ∃ a, pvs = [a] ∧ zjq p.1 p.2 a := by
 cases h with
 | cons h1 t => cases t with
  | nil => exact ⟨_, rfl, h1⟩
def za9 (B : List Int) : List (List PV) := B.map fun n => [.v (.int .u8 n)]
@[simp] theorem yna (B : List Int) : (za9 B).length = B.length := by simp [za9]
theorem z8y {B : List Int} {i : Nat} {x : Int} (h : B[i]? = some x) : (za9 B)[i]? = some [.v (.int .u8 x)] := by simp [za9, h]
def zhv (rv : List RV) (io : Nat) (G : List PV × List PV → Prop) (_ : Dm rv) (_ : Dm G) (e : Ex) (s : St) : Prop := (e = .normal ∨ e = .ret) ∧ ∃ r, zel ⟨[], rv, .skip⟩ io s = some r ∧ G r
@[simp] theorem yul {rv : List RV} {io : Nat} {G : List PV × List PV → Prop} {s : St} : zhv rv io G ⟨⟩ ⟨⟩ .normal s = ∃ r, zel ⟨[], rv, .skip⟩ io s = some r ∧ G r := by simp [zhv]
@[simp] theorem yz6 {rv : List RV} {io : Nat} {G : List PV × List PV → Prop} {s : St} : zhv rv io G ⟨⟩ ⟨⟩ .ret s = ∃ r, zel ⟨[], rv, .skip⟩ io s = some r ∧ G r := by simp [zhv]
theorem zdj {T : zbu} {f : Nat} {ms : List Bool} {rv : List RV} {ic : IC} {G : List PV × List PV → Prop} (hT : T f = some (.code ⟨ms, rv, ic⟩)) {args : List PV} {st : St} (hi : zip args = some st) (h : W (zae T) (RUN T) ic st (zhv rv st.nx G ⟨⟩ ⟨⟩)) : ∃ r, RUN T f args = some r ∧ G r := by
 unfold W at h
 obtain ⟨e, s, h1, h2, r, h3, hG⟩ := h
 refine ⟨r, z57 hT ?_, hG⟩
 unfold zq2
 rw [hi]
 simp only [Option.bind_some, h1]
 rcases h2 with rfl | rfl <;> exact h3
attribute [irreducible] zhv
theorem zw1 (X : Nat) : 0 ≤ IntKind.i64.wrap ((X &&& 255 % 2 ^ IntKind.i64.bits : Nat) : Int) ∧ IntKind.i64.wrap ((X &&& 255 % 2 ^ IntKind.i64.bits : Nat) : Int) ≤ 255 := by
 have h : X &&& 255 % 2 ^ IntKind.i64.bits ≤ 255 := Nat.le_trans Nat.and_le_right (by decide)
 rw [w64 (by omega) (by omega)]
 omega
def zez (B : List Int) (P : PV → Prop) (r : List PV × List PV) : Prop := ∃ (v : PV) (p : Nat) (s : Int), P v ∧ p ≤ B.length ∧ r = ([v], [.bx [.sl 1 (za9 B), iv p, iv s]])
def PB (v : PV) : Prop := ∃ b, v = bv b
def PM (l : List Int) (v : PV) : Prop := ∃ n, v = iv n ∧ n ∈ l
def PI (v : PV) : Prop := ∃ n, v = iv n ∧ inI n
def PN (n : Int) (v : PV) : Prop := ∃ m, v = iv m ∧ 0 ≤ m ∧ (0 < n → m < n)
theorem zqp (B : List Int) (p : Nat) (s : Int) (hp : p ≤ B.length) (hB : B.length ≤ 9223372036854775807) : ∃ r, RUN T zgm [.bx [.sl 1 (za9 B), iv p, iv s]] = some r ∧ zez B (fun v => ∃ n, v = iv n ∧ 0 ≤ n ∧ n ≤ 255) r := by
 refine zdj z25 rfl ?_
 by_cases h : p < B.length
 ·obtain ⟨x, hx⟩ : ∃ x, B[p]? = some x := ⟨_, List.getElem?_eq_getElem h⟩
  have hx' := z8y hx
  have hw := wS h hB
  simp [-getElem?_pos, zqf, zqg, h, hx', hw]
  exact ⟨_, p + 1, _, ⟨_, rfl, (zw1 _).1, (zw1 _).2⟩, h, rfl⟩
 ·have h' : ¬ ((p : Int) < B.length) := by omega
  simp [-getElem?_pos, zqf, zqg, h, h']
  exact ⟨_, p, _, ⟨_, rfl, (zw1 _).1, (zw1 _).2⟩, hp, rfl⟩
theorem zbe (B : List Int) (p : Nat) (s : Int) (hp : p ≤ B.length) (hB : B.length ≤ 9223372036854775807) (n : Int) (hn : n ≤ 9223372036854775807) : ∃ r, RUN T zbc [.bx [.sl 1 (za9 B), iv p, iv s], iv n] = some r ∧ zez B (PN n) r := by
 refine zdj z2a rfl ?_
 obtain ⟨r1, h1, v1, p1, s1, ⟨a1, rfl, a10, a11⟩, hp1, rfl⟩ := zqp B p s hp hB
 by_cases c1 : n ≤ 0
 ·simp [-getElem?_pos, zn8, zn9, c1]
  exact ⟨_, p, s, ⟨0, rfl, by omega, by omega⟩, hp, rfl⟩
 have c0 : ¬ (n = 0) := by omega
 by_cases c2 : n ≤ 256
 ·simp [-getElem?_pos, zn8, zn9, c0, c1, c2, h1]
  refine ⟨_, p1, s1, ⟨_, rfl, ?_, fun _ => ?_⟩, hp1, rfl⟩
  ·exact Int.tmod_nonneg _ a10
  ·exact Int.tmod_lt_of_pos _ (by omega)
 obtain ⟨r2, h2, v2, p2, s2, ⟨a2, rfl, a20, a21⟩, hp2, rfl⟩ := zqp B p1 s1 hp1 hB
 obtain ⟨r3, h3, v3, p3, s3, ⟨a3, rfl, a30, a31⟩, hp3, rfl⟩ := zqp B p2 s2 hp2 hB
 obtain ⟨r4, h4, v4, p4, s4, ⟨a4, rfl, a40, a41⟩, hp4, rfl⟩ := zqp B p3 s3 hp3 hB
 have w1 := w64 (x := a1 * 16777216) (by omega) (by omega)
 have w2 := w64 (x := a2 * 65536) (by omega) (by omega)
 have w3 := w64 (x := a1 * 16777216 + a2 * 65536) (by omega) (by omega)
 have w4 := w64 (x := a3 * 256) (by omega) (by omega)
 have w5 := w64 (x := a1 * 16777216 + a2 * 65536 + a3 * 256) (by omega) (by omega)
 have w6 := w64 (x := a1 * 16777216 + a2 * 65536 + a3 * 256 + a4) (by omega) (by omega)
 simp [-getElem?_pos, zn8, zn9, c0, c1, c2, h1, h2, h3, h4, w1, w2, w3, w4, w5, w6]
 refine ⟨_, p4, s4, ⟨_, rfl, ?_, fun _ => ?_⟩, hp4, rfl⟩
 ·exact Int.tmod_nonneg _ (by omega)
 ·exact Int.tmod_lt_of_pos _ (by omega)
theorem zd4 (B : List Int) (p : Nat) (s : Int) (hp : p ≤ B.length) (hB : B.length ≤ 9223372036854775807) (n : Int) (hn : n ≤ 9223372036854775807) : ∃ r, RUN T zdn [.bx [.sl 1 (za9 B), iv p, iv s], iv n] = some r ∧ zez B PB r := by
 refine zdj z1i rfl ?_
 obtain ⟨r1, h1, v1, p1, s1, ⟨a1, rfl, a10, a11⟩, hp1, rfl⟩ := zbe B p s hp hB n hn
 simp [-getElem?_pos, zsh, zsi, h1]
 exact ⟨_, p1, s1, ⟨_, rfl⟩, hp1, rfl⟩
def yo4 (B : List Int) (l : List Int) (P : PV → Prop) (r : List PV × List PV) : Prop := ∃ (v : PV) (p : Nat) (s : Int), P v ∧ p ≤ B.length ∧ r = ([v], [.bx [.sl 1 (za9 B), iv p, iv s], .own 1 (zac l)])
theorem zf0 (B : List Int) (p : Nat) (s : Int) (hp : p ≤ B.length) (hB : B.length ≤ 9223372036854775807) (l : List Int) (hl : 0 < l.length ∧ l.length ≤ 9223372036854775807) : ∃ r, RUN T zd3 [.bx [.sl 1 (za9 B), iv p, iv s], .own 1 (zac l)] = some r ∧ yo4 B l (PM l) r := by
 refine zdj z2c rfl ?_
 obtain ⟨r1, h1, v1, p1, s1, ⟨a1, rfl, a10, a11⟩, hp1, rfl⟩ := zbe B p s hp hB l.length (by omega)
 obtain ⟨i, rfl⟩ : ∃ i : Nat, a1 = i := ⟨a1.toNat, by omega⟩
 have hi : i < l.length := by have := a11 (by omega); omega
 obtain ⟨x, hx⟩ : ∃ x, l[i]? = some x := ⟨_, List.getElem?_eq_getElem hi⟩
 have hx' := zbj hx
 simp [-getElem?_pos, zto, ztp, h1, hx', hi]
 exact ⟨_, p1, s1, ⟨x, rfl, List.mem_of_getElem? hx⟩, hp1, rfl⟩
theorem yk3 (x : Int) : inI (IntKind.i64.wrap x) := by
 unfold inI IntKind.wrap
 simp [IntKind.bits, IntKind.signed]
 omega
theorem yhy (B : List Int) (p : Nat) (s : Int) (hp : p ≤ B.length) (hB : B.length ≤ 9223372036854775807) : ∃ r, RUN T zm7 [.bx [.sl 1 (za9 B), iv p, iv s]] = some r ∧ zez B PI r := by
 refine zdj z2g rfl ?_
 obtain ⟨r1, h1, v1, p1, s1, ⟨a1, rfl, a10, a11⟩, hp1, rfl⟩ := zbe B p s hp hB 4 (by omega)
 by_cases c0 : a1 = 0
 ·obtain ⟨r2, h2, v2, p2, s2, ⟨a2, rfl, hm⟩, hp2, rfl⟩ := zf0 B p1 s1 hp1 hB [0, 1, -1, 9, 10, 999, 1000, 2147483647, -2147483648, 3037000499, 3037000500, 9223372036854775807, -9223372036854775807, -9223372036854775808] (by simp)
  simp only [zac, List.map] at h2
  simp [-getElem?_pos, zlb, zlc, h1, c0, h2]
  refine ⟨_, p2, s2, ⟨a2, rfl, ?_⟩, hp2, rfl⟩
  simp at hm
  unfold inI
  omega
 by_cases c1 : a1 = 1
 ·simp [-getElem?_pos, zlb, zlc, h1, c0, c1]
  refine za3 (fun n st => ∃ (i p : Nat) (x s : Int), i + n = 8 ∧ p ≤ B.length ∧ inI x ∧ st.V 0 = .ptr 0 none 0 0 0 ∧ st.V 3 = iv x ∧ st.V 4 = iv i ∧ 0 < st.nx ∧ st.ep = 0 ∧ st.S 0 = some (.box [.sl 1 (za9 B), iv p, iv s])) ?_ 8 _ ⟨0, p1, 0, s1, by omega, hp1, by unfold inI; omega, by simp⟩
  clear h1
  rintro n st ⟨i, p, x, s, hi, hp, hx, v0, v3, v4, hnx, hep, hS⟩
  simp [z0y, v4]
  refine zdc (fun h => ?_) (fun h => ?_)
  ·simp at h
   obtain ⟨r2, h2, v2, p2, s2, ⟨a2, rfl, a20, a21⟩, hp2, rfl⟩ := zqp B p s hp hB
   have w := w64 (x := (i : Int) + 1) (by omega) (by omega)
   simp [-getElem?_pos, v0, v3, v4, hep, hS, h2, w]
   exact zaq (n - 1) (by omega) ⟨i + 1, p2, _, s2, by omega, hp2, yk3 _, by simp [v0], by simp; rfl, by simp, by simp [hnx], by simp [hep], by simp⟩
  ·simp [-getElem?_pos, v3, v0, hS]
   exact ⟨_, p, s, ⟨x, rfl, hx⟩, hp, rfl⟩
 by_cases c2 : a1 = 2
 ·obtain ⟨r2, h2, v2, p2, s2, ⟨a2, rfl, a20, a21⟩, hp2, rfl⟩ := zbe B p1 s1 hp1 hB 1000000 (by omega)
  have a22 := a21 (by omega)
  have w := w64 (x := a2 - 500000) (by omega) (by omega)
  simp [-getElem?_pos, zlb, zlc, h1, c0, c1, c2, h2, w]
  exact ⟨_, p2, s2, ⟨_, rfl, by unfold inI; omega⟩, hp2, rfl⟩
 ·obtain ⟨r2, h2, v2, p2, s2, ⟨a2, rfl, a20, a21⟩, hp2, rfl⟩ := zbe B p1 s1 hp1 hB 41 (by omega)
  have a22 := a21 (by omega)
  have w := w64 (x := a2 - 20) (by omega) (by omega)
  simp [-getElem?_pos, zlb, zlc, h1, c0, c1, c2, h2, w]
  exact ⟨_, p2, s2, ⟨_, rfl, by unfold inI; omega⟩, hp2, rfl⟩
theorem yhz (B : List Int) (hB : B.length ≤ 9223372036854775807) : ∃ r, RUN T zm3 [.sl 1 (za9 B)] = some r ∧ ∃ s : Int, r = ([.bx [.sl 1 (za9 B), iv (0 : Nat), iv s]], []) := by
 refine zdj z18 rfl ?_
 simp [-getElem?_pos, zth, zti]
 refine za3 (fun n st => ∃ (i : Nat) (x : Int), i + n = B.length ∧ st.V 0 = .sl 1 (za9 B) ∧ st.V 3 = iv x ∧ st.V 4 = iv i) ?_ B.length _ ⟨0, _, by omega, by simp, by simp; rfl, by simp⟩
 rintro n st ⟨i, x, hi, v0, v3, v4⟩
 by_cases h : i < B.length
 ·obtain ⟨b, hx⟩ : ∃ b, B[i]? = some b := ⟨_, List.getElem?_eq_getElem h⟩
  have hx' := z8y hx
  have hw := wS h hB
  by_cases h2 : (i : Int) < 4000
  ·have h2' := eq_true h2
   simp [-getElem?_pos, ztg, v0, v3, v4, h, h2', hx', hw]
   exact zaq (n - 1) (by omega) ⟨i + 1, _, by omega, by simp [v0], by simp; rfl, by simp⟩
  ·have h2' := eq_false h2
   simp [-getElem?_pos, ztg, v0, v3, v4, h, h2']
 ·simp [-getElem?_pos, ztg, v0, v3, v4, h]
def adi (a b : Int) : Int × Bool := if -9223372036854775808 ≤ a + b ∧ a + b ≤ 9223372036854775807 then (a + b, true) else (0, false)
theorem ynz {a b : Int} (ha : inI a) (hb : inI b) : IntKind.i64.wrap (a + b) = if 9223372036854775807 < a + b then a + b - 18446744073709551616 else if a + b < -9223372036854775808 then a + b + 18446744073709551616 else a + b := by
 unfold inI at ha hb
 unfold IntKind.wrap
 simp [IntKind.bits, IntKind.signed]
 omega
theorem z4c (a b : Int) (ha : inI a) (hb : inI b) : RUN T zkn [iv a, iv b] = some ([iv (adi a b).1, bv (adi a b).2], []) := by
 refine zal z3l rfl ?_
 have hw := ynz ha hb
 unfold inI at ha hb
 unfold adi
 by_cases c1 : 9223372036854775807 < a + b
 ·rw [if_pos c1] at hw
  rw [if_neg (by omega)]
  have d1 := eq_false (by omega : ¬ a < 0)
  have d2 := eq_false (by omega : ¬ b < 0)
  have d3 := eq_true (by omega : a + b - 18446744073709551616 < 0)
  simp [-getElem?_pos, zic, zid, hw, d1, d2, d3]
 ·rw [if_neg c1] at hw
  by_cases c2 : a + b < -9223372036854775808
  ·rw [if_pos c2] at hw
   rw [if_neg (by omega)]
   have d1 := eq_true (by omega : a < 0)
   have d2 := eq_true (by omega : b < 0)
   have d3 := eq_false (by omega : ¬ a + b + 18446744073709551616 < 0)
   simp [-getElem?_pos, zic, zid, hw, d1, d2, d3]
  ·rw [if_neg c2] at hw
   rw [if_pos (by omega)]
   rcases Classical.propComplete (a < 0) with d1 | d1
   all_goals rcases Classical.propComplete (b < 0) with d2 | d2
   all_goals simp at d1 d2
   ·have d3 := eq_true (by omega : a + b < 0)
    simp [-getElem?_pos, zic, zid, hw, eq_true d1, eq_true d2, d3]
   ·have d2' := eq_false (by omega : ¬ b < 0)
    simp [-getElem?_pos, zic, zid, hw, eq_true d1, d2']
   ·have d1' := eq_false (by omega : ¬ a < 0)
    simp [-getElem?_pos, zic, zid, hw, eq_true d2, d1']
   ·have d1' := eq_false (by omega : ¬ a < 0)
    have d2' := eq_false (by omega : ¬ b < 0)
    have d3 := eq_false (by omega : ¬ a + b < 0)
    simp [-getElem?_pos, zic, zid, hw, d1', d2', d3]
theorem z7e {a b : Int} (ha : inI a) : inI (adi a b).1 := by
 unfold adi
 split
 ·rename_i h; exact h
 ·unfold inI; omega
theorem yh0 (es : List (List PV)) : RUN T zme [.sl 1 es] = some ([bv (decide ((1048576 : Int) < es.length))], []) := by
 refine zal z05 rfl ?_
 simp [-getElem?_pos, zr0, zr1]
def zro (v : Int) : Nd := ⟨-1, 0, 0, 0, v⟩
theorem yh1 (v : Int) : RUN T zmm [iv v] = some ([.agg [.own 5 ([zro v].map nd)]], []) := by
 refine zal z1g rfl ?_
 have hr : zan 40 1 = true := by decide
 simp [-getElem?_pos, zsc, zsd, hr, zro, nd]
theorem yj6 {x y : Nd} : x = y ↔ x.f = y.f ∧ x.c = y.c ∧ x.l = y.l ∧ x.r = y.r ∧ x.v = y.v := by
 cases x; cases y; simp
open Classical in
theorem z4d (t u : List Nd) (ht : t.length ≤ 9223372036854775807) (hu : u.length ≤ 9223372036854775807) : RUN T zj3 [.agg [.sl 5 (t.map nd)], .agg [.sl 5 (u.map nd)]] = some ([bv (decide (t = u))], []) := by
 refine zal z1f rfl ?_
 rcases Classical.propComplete ((t.length : Int) = u.length) with hl | hl
 case inr =>
  have : decide (t = u) = false := by simp; rintro rfl; simp at hl
  simp [-getElem?_pos, zpm, zpn, hl, this]
 simp [-getElem?_pos, zpm, zpn, hl]
 have hlen : t.length = u.length := by simp at hl; omega
 refine za3 (fun n st => ∃ i : Nat, i + n = t.length ∧ (∀ j, j < i → t[j]? = u[j]?) ∧ st.V 2 = .ptr 0 none 0 0 0 ∧ st.V 3 = .ptr 1 none 0 0 0 ∧ st.V 5 = iv i ∧ st.S 0 = some (.box [.sl 5 (t.map nd)]) ∧ st.S 1 = some (.box [.sl 5 (u.map nd)])) ?_ t.length _ ⟨0, by simp⟩
 rintro n st ⟨i, hi, hj, v2, v3, v5, hS, hS1⟩
 simp [z0t, v2, v3, v5, hS]
 refine zdc (fun h => ?_) (fun h => ?_)
 ·simp at h
  obtain ⟨x, hx⟩ : ∃ x, t[i]? = some x := ⟨_, List.getElem?_eq_getElem h⟩
  obtain ⟨y, hy⟩ : ∃ y, u[i]? = some y := ⟨_, List.getElem?_eq_getElem (by omega)⟩
  have hw := wS h ht
  have hiu : i < u.length := by omega
  rcases Classical.propComplete (x.f = y.f ∧ x.c = y.c ∧ x.l = y.l ∧ x.r = y.r ∧ x.v = y.v) with e | e
  ·simp [-getElem?_pos, v2, v3, v5, hS, hS1, hx, hy, nd, h, hiu, hw, z52, e]
   refine zaq (n - 1) (by omega) ⟨i + 1, by omega, zo3 hj ?_, by simp [v2], by simp [v3], by simp, by simp [hS], by simp [hS1]⟩
   rw [hx, hy, yj6.mpr (of_eq_true e)]
  ·have : decide (t = u) = false := by
    simp
    rintro rfl
    rw [hx] at hy
    cases hy
    simp at e
   simp [-getElem?_pos, v2, v3, v5, hS, hS1, hx, hy, nd, h, hiu, hw, z52, e, this]
 ·simp at h
  have : t = u := by
   apply List.ext_getElem?
   intro j
   by_cases c : j < i
   ·exact hj j c
   ·rw [List.getElem?_eq_none (by omega), List.getElem?_eq_none (by omega)]
  simp [this]
def sbi (a b : Int) : Int × Bool := if -9223372036854775808 ≤ a - b ∧ a - b ≤ 9223372036854775807 then (a - b, true) else (0, false)
theorem yn2 {a b : Int} (ha : inI a) (hb : inI b) : IntKind.i64.wrap (a - b) = if 9223372036854775807 < a - b then a - b - 18446744073709551616 else if a - b < -9223372036854775808 then a - b + 18446744073709551616 else a - b := by
 unfold inI at ha hb
 unfold IntKind.wrap
 simp [IntKind.bits, IntKind.signed]
 omega
theorem z4e (a b : Int) (ha : inI a) (hb : inI b) : RUN T zkk [iv a, iv b] = some ([iv (sbi a b).1, bv (sbi a b).2], []) := by
 refine zal z29 rfl ?_
 have hw := yn2 ha hb
 unfold inI at ha hb
 unfold sbi
 by_cases c1 : 9223372036854775807 < a - b
 ·rw [if_pos c1] at hw
  rw [if_neg (by omega)]
  have d1 := eq_false (by omega : ¬ a < 0)
  have d2 := eq_true (by omega : b < 0)
  have d3 := eq_true (by omega : a - b - 18446744073709551616 < 0)
  simp [-getElem?_pos, zh8, zh9, hw, d1, d2, d3]
 ·rw [if_neg c1] at hw
  by_cases c2 : a - b < -9223372036854775808
  ·rw [if_pos c2] at hw
   rw [if_neg (by omega)]
   have d1 := eq_true (by omega : a < 0)
   have d2 := eq_false (by omega : ¬ b < 0)
   have d3 := eq_false (by omega : ¬ a - b + 18446744073709551616 < 0)
   simp [-getElem?_pos, zh8, zh9, hw, d1, d2, d3]
  ·rw [if_neg c2] at hw
   rw [if_pos (by omega)]
   rcases Classical.propComplete (a < 0) with d1 | d1
   all_goals rcases Classical.propComplete (b < 0) with d2 | d2
   all_goals simp at d1 d2
   ·simp [-getElem?_pos, zh8, zh9, hw, eq_true d1, eq_true d2]
   ·have d2' := eq_false (by omega : ¬ b < 0)
    have d3 := eq_true (by omega : a - b < 0)
    simp [-getElem?_pos, zh8, zh9, hw, eq_true d1, d2', d3]
   ·have d1' := eq_false (by omega : ¬ a < 0)
    have d3 := eq_false (by omega : ¬ a - b < 0)
    simp [-getElem?_pos, zh8, zh9, hw, eq_true d2, d1', d3]
   ·have d1' := eq_false (by omega : ¬ a < 0)
    have d2' := eq_false (by omega : ¬ b < 0)
    simp [-getElem?_pos, zh8, zh9, hw, d1', d2']
def PC (n : Nat) (v : PV) : Prop := ∃ c : Cfg, v = zjm c ∧ c.sg.length ≤ n
def LC (S : Nat → Option Ob) (nx : Nat) (lo : Nat) (m : List Int) (x : PV) : Prop := (x = .e0 ∧ m = []) ∨ ∃ o e, x = .ref o none e 0 m.length ∧ lo < o ∧ o < nx ∧ S o = some (.row 1 (zac m))
theorem z4f (B : List Int) (p : Nat) (s : Int) (hp : p ≤ B.length) (hB : B.length ≤ 9223372036854775807) : ∃ r, RUN T zka [.bx [.sl 1 (za9 B), iv p, iv s]] = some r ∧ zez B (PC 60) r := by
 refine zdj z2d rfl ?_
 obtain ⟨r1, h1, v1, p1, s1, ⟨a1, rfl, a10, a11⟩, hp1, rfl⟩ := zbe B p s hp hB 4 (by omega)
 obtain ⟨r2, h2, v2, p2, s2, ⟨a2, rfl, a20, a21⟩, hp2, rfl⟩ := zbe B p1 s1 hp1 hB 4 (by omega)
 obtain ⟨r3, h3, v3, p3, s3, ⟨a3, rfl, a30, a31⟩, hp3, rfl⟩ := zbe B p2 s2 hp2 hB 5 (by omega)
 obtain ⟨r4, h4, v4, p4, s4, ⟨a4, rfl, a40, a41⟩, hp4, rfl⟩ := zbe B p3 s3 hp3 hB 3 (by omega)
 obtain ⟨r5, h5, v5, p5, s5, ⟨a5, rfl, a50, a51⟩, hp5, rfl⟩ := zbe B p4 s4 hp4 hB 3 (by omega)
 obtain ⟨r6, h6, v6, p6, s6, ⟨a6, rfl, a60, a61⟩, hp6, rfl⟩ := zbe B p5 s5 hp5 hB 3 (by omega)
 obtain ⟨r7, h7, v7, p7, s7, ⟨b1, rfl⟩, hp7, rfl⟩ := zd4 B p6 s6 hp6 hB 8 (by omega)
 have w6 : IntKind.i64.wrap (1 + a6) = 1 + a6 := by have := a61 (by omega); exact w64 (by omega) (by omega)
 have key : ∀ (k : Int) (x0 x1 x2 x3 x4 x5 x6 : Int) (st : St) (p : Nat) (s : Int), 0 ≤ k → k ≤ 60 → p ≤ B.length → st.V 0 = .ptr 0 none 0 0 0 → st.V 2 = .ptr 1 none 0 0 0 → st.V 3 = .ptr 2 none 0 0 0 → st.V 4 = iv k → st.V 5 = iv (0 : Nat) → st.nx = 3 → st.S 0 = some (.box [.sl 1 (za9 B), iv p, iv s]) → st.S 1 = some (.box [iv 0, iv 0, iv 0, iv 0, iv 0, iv 0, iv 0, .e0]) → st.S 2 = some (.box [iv x0, iv x1, iv x2, iv x3, iv x4, iv x5, iv x6, .e0]) → W (zae T) (RUN T) (.loop zxp) st (Bl 0 (Nx (fun s => W (zae T) (RUN T) (.seq (.reg [⟨some (.E 53), .load true 8 (.V 3), none⟩, ⟨none, .store [0, 0, 0, 0, 0, 0, 0, 1] (.V 2) (.E 53), none⟩]) .ret) s (zhv [.cell [0, 0, 0, 0, 0, 0, 0, 1] 2 true] 1 (zez B (PC 60)) ⟨⟩ ⟨⟩)) (zhv [.cell [0, 0, 0, 0, 0, 0, 0, 1] 2 true] 1 (zez B (PC 60)) ⟨⟩ ⟨⟩) ⟨⟩ ⟨⟩) ⟨⟩) := by
  intro k x0 x1 x2 x3 x4 x5 x6 st p s hk0 hk hp v0 v2 v3 v4 v5 hnx hS hS1 hS2
  obtain ⟨kn, rfl⟩ : ∃ n : Nat, k = n := ⟨k.toNat, by omega⟩
  refine za3 (fun n st => ∃ (i p : Nat) (s : Int) (m : List Int) (x : PV), i + n = kn ∧ m.length = i ∧ p ≤ B.length ∧ st.V 0 = .ptr 0 none 0 0 0 ∧ st.V 2 = .ptr 1 none 0 0 0 ∧ st.V 3 = .ptr 2 none 0 0 0 ∧ st.V 4 = iv kn ∧ st.V 5 = iv i ∧ 2 < st.nx ∧ LC st.S st.nx 2 m x ∧ st.S 0 = some (.box [.sl 1 (za9 B), iv p, iv s]) ∧ st.S 1 = some (.box [iv 0, iv 0, iv 0, iv 0, iv 0, iv 0, iv 0, .e0]) ∧ st.S 2 = some (.box [iv x0, iv x1, iv x2, iv x3, iv x4, iv x5, iv x6, x])) ?_ kn _ ⟨0, p, s, [], .e0, by omega, rfl, hp, v0, v2, v3, v4, v5, by omega, .inl ⟨rfl, rfl⟩, hS, hS1, hS2⟩
  clear v0 v2 v3 v4 v5 hnx hS hS1 hS2 hp
  rintro n st ⟨i, p, s, m, x, hi, hm, hp, v0, v2, v3, v4, v5, hnx, hx, hS, hS1, hS2⟩
  have z1 := fr hnx
  have z2 := fr (by omega : 0 < st.nx)
  have z3 := fr (by omega : 1 < st.nx)
  simp [zxp, v4, v5]
  refine zdc (fun h => ?_) (fun h => ?_)
  ·simp at h
   have hw := w64 (x := (i : Int) + 1) (by omega) (by omega)
   obtain ⟨r1, h1, v1, p1, s1, ⟨a, rfl, a0, a1⟩, hp1, rfl⟩ := zbe B p s hp hB 3 (by omega)
   have a2 := a1 (by omega)
   have w := w64 (x := a - 1) (by omega) (by omega)
   rcases hx with ⟨rfl, rfl⟩ | ⟨o, e, rfl, ho, hox, hSo⟩
   ·have hr8 : zan 8 1 = true := by decide
    have hone : [[iv (a - 1)]] = zac [a - 1] := rfl
    simp [-getElem?_pos, v0, v2, v3, v4, v5, hS, hS1, hS2, z1, z2, z3, h1, w, hw, hr8]
    exact zaq (n - 1) (by omega) ⟨i + 1, p1, s1, [a - 1], .ref (st.nx + 1) none st.ep 0 1, by omega, by simp at hm; simp; omega, hp1, by simp [v0], by simp [v2], by simp [v3], by simp [v4], by simp, by simp; omega, .inr ⟨st.nx + 1, st.ep, rfl, by omega, by simp, by
     have n2 : ¬ st.nx + 1 = 2 := by omega
     simp [n2, zac]⟩, by simp [z1, z2, z3], by simp [z1, z2, z3, hS1], by simp⟩
   ·have hr8 := zdd (n := m.length + 1) (by omega)
    have y1 := fr hox
    have y2 := fr ho
    have y3 := fr (by omega : 0 < o)
    have y4 := fr (by omega : 1 < o)
    simp [-getElem?_pos, v0, v2, v3, v4, v5, hS, hS1, hS2, hSo, z1, z2, z3, y1, y2, y3, y4, h1, w, hw, hr8, zc3]
    exact zaq (n - 1) (by omega) ⟨i + 1, p1, s1, m ++ [a - 1], .ref (st.nx + 1) none st.ep 0 (m.length + 1), by omega, by simp [hm], hp1, by simp [v0], by simp [v2], by simp [v3], by simp [v4], by simp, by simp; omega, .inr ⟨st.nx + 1, st.ep, by simp, by omega, by simp, by
     have n2 : ¬ st.nx + 1 = 2 := by omega
     simp [n2]⟩, by simp [z1, z2, z3, y1, y2, y3, y4], by simp [z1, z2, z3, y1, y2, y3, y4, hS1], by simp⟩
  ·simp at h
   rcases hx with ⟨rfl, rfl⟩ | ⟨o, e, rfl, ho, hox, hSo⟩
   ·simp [-getElem?_pos, v0, v2, v3, hS, hS1, hS2]
    exact ⟨_, p, s, ⟨⟨x0, x1, x2, x3, x4, x5, x6, []⟩, rfl, by simp⟩, hp, rfl⟩
   ·have y2 := fr ho
    have y3 := fr (by omega : 0 < o)
    have y4 := fr (by omega : 1 < o)
    have y5 : 1 ≤ o := by omega
    simp [-getElem?_pos, v0, v2, v3, hS, hS1, hS2, hSo, y2, y3, y4, y5]
    exact ⟨_, p, s, ⟨⟨x0, x1, x2, x3, x4, x5, x6, m⟩, rfl, by simp only; omega⟩, hp, rfl⟩
 cases b1 with
 | true =>
  obtain ⟨r8, h8, v8, p8, s8, ⟨a8, rfl, a80, a81⟩, hp8, rfl⟩ := zbe B p7 s7 hp7 hB 100 (by omega)
  obtain ⟨r9, h9, v9, p9, s9, ⟨b2, rfl⟩, hp9, rfl⟩ := zd4 B p8 s8 hp8 hB 4 (by omega)
  cases b2 with
  | true =>
   obtain ⟨r10, h10, v10, p10, s10, ⟨a10', rfl, _, _⟩, hp10, rfl⟩ := zbe B p9 s9 hp9 hB (1 + a6) (by have := a61 (by omega); omega)
   obtain ⟨r11, h11, v11, p11, s11, ⟨k, rfl, k0, k1⟩, hp11, rfl⟩ := zbe B p10 s10 hp10 hB 5 (by omega)
   have k2 := k1 (by omega)
   simp [-getElem?_pos, zk9, zla, h1, h2, h3, h4, h5, h6, h7, h8, h9, h10, h11, w6]
   exact key k _ _ _ _ _ _ _ _ p11 s11 k0 (by omega) hp11 (by simp) (by simp) (by simp) (by simp) (by simp) (by simp) (by simp) (by simp) (by simp; exact ⟨rfl, rfl, rfl, rfl, rfl, rfl, rfl⟩)
  | false =>
   obtain ⟨r11, h11, v11, p11, s11, ⟨k, rfl, k0, k1⟩, hp11, rfl⟩ := zbe B p9 s9 hp9 hB 5 (by omega)
   have k2 := k1 (by omega)
   simp [-getElem?_pos, zk9, zla, h1, h2, h3, h4, h5, h6, h7, h8, h9, h11, w6]
   exact key k _ _ _ _ _ _ _ _ p11 s11 k0 (by omega) hp11 (by simp) (by simp) (by simp) (by simp) (by simp) (by simp) (by simp) (by simp) (by simp; exact ⟨rfl, rfl, rfl, rfl, rfl, rfl, rfl⟩)
 | false =>
  obtain ⟨r9, h9, v9, p9, s9, ⟨b2, rfl⟩, hp9, rfl⟩ := zd4 B p7 s7 hp7 hB 4 (by omega)
  cases b2 with
  | true =>
   obtain ⟨r10, h10, v10, p10, s10, ⟨a10', rfl, _, _⟩, hp10, rfl⟩ := zbe B p9 s9 hp9 hB (1 + a6) (by have := a61 (by omega); omega)
   obtain ⟨r11, h11, v11, p11, s11, ⟨k, rfl, k0, k1⟩, hp11, rfl⟩ := zbe B p10 s10 hp10 hB 5 (by omega)
   have k2 := k1 (by omega)
   simp [-getElem?_pos, zk9, zla, h1, h2, h3, h4, h5, h6, h7, h9, h10, h11, w6]
   exact key k _ _ _ _ _ _ _ _ p11 s11 k0 (by omega) hp11 (by simp) (by simp) (by simp) (by simp) (by simp) (by simp) (by simp) (by simp) (by simp; exact ⟨rfl, rfl, rfl, rfl, rfl, rfl, rfl⟩)
  | false =>
   obtain ⟨r11, h11, v11, p11, s11, ⟨k, rfl, k0, k1⟩, hp11, rfl⟩ := zbe B p9 s9 hp9 hB 5 (by omega)
   have k2 := k1 (by omega)
   simp [-getElem?_pos, zk9, zla, h1, h2, h3, h4, h5, h6, h7, h9, h11, w6]
   exact key k _ _ _ _ _ _ _ _ p11 s11 k0 (by omega) hp11 (by simp) (by simp) (by simp) (by simp) (by simp) (by simp) (by simp) (by simp) (by simp; exact ⟨rfl, rfl, rfl, rfl, rfl, rfl, rfl⟩)
theorem yh2 (B : List Int) (p : Nat) (s : Int) (hp : p ≤ B.length) (hB : B.length ≤ 9223372036854775807) : ∃ r, RUN T zm5 [.bx [.sl 1 (za9 B), iv p, iv s]] = some r ∧ zez B (PC 64) r := by
 refine zdj z2e rfl ?_
 obtain ⟨r1, h1, v1, p1, s1, ⟨c, rfl, hc⟩, hp1, rfl⟩ := z4f B p s hp hB
 obtain ⟨r2, h2, v2, p2, s2, ⟨a, rfl, a0, a1⟩, hp2, rfl⟩ := zbe B p1 s1 hp1 hB 12 (by omega)
 have hr8 : zan 8 1 = true := by decide
 by_cases c0 : a = 0
 ·obtain ⟨r3, h3, v, p3, s3, ⟨x, rfl, hx⟩, hp3, rfl⟩ := zf0 B p2 s2 hp2 hB [0, 1, 8, 9, -1] (by simp)
  simp only [zac, List.map] at h3
  simp [-getElem?_pos, zfy, zfz, hr8, h1, h2, c0, h3]
  exact ⟨_, p3, s3, ⟨⟨x, c.de, c.bi, c.la, c.rw, c.nu, c.dn, c.sg⟩, rfl, by simp only; omega⟩, hp3, rfl⟩
 by_cases c1 : a = 1
 ·obtain ⟨r3, h3, v, p3, s3, ⟨x, rfl, hx⟩, hp3, rfl⟩ := zf0 B p2 s2 hp2 hB [-1, 0, 4, 5] (by simp)
  simp only [zac, List.map] at h3
  simp [-getElem?_pos, zfy, zfz, hr8, h1, h2, c0, c1, h3]
  exact ⟨_, p3, s3, ⟨⟨c.ro, x, c.bi, c.la, c.rw, c.nu, c.dn, c.sg⟩, rfl, by simp only; omega⟩, hp3, rfl⟩
 by_cases c2 : a = 2
 ·obtain ⟨r3, h3, v, p3, s3, ⟨x, rfl, hx⟩, hp3, rfl⟩ := zf0 B p2 s2 hp2 hB [1, 2, 8, 9] (by simp)
  simp only [zac, List.map] at h3
  simp [-getElem?_pos, zfy, zfz, hr8, h1, h2, c0, c1, c2, h3]
  exact ⟨_, p3, s3, ⟨⟨c.ro, c.de, x, c.la, c.rw, c.nu, c.dn, c.sg⟩, rfl, by simp only; omega⟩, hp3, rfl⟩
 by_cases c3 : a = 3
 ·obtain ⟨r3, h3, v, p3, s3, ⟨x, rfl, hx⟩, hp3, rfl⟩ := zf0 B p2 s2 hp2 hB [0, 1, 100, 101, 9223372036854775807] (by simp)
  simp only [zac, List.map] at h3
  simp [-getElem?_pos, zfy, zfz, hr8, h1, h2, c0, c1, c2, c3, h3]
  exact ⟨_, p3, s3, ⟨⟨c.ro, c.de, c.bi, x, c.rw, c.nu, c.dn, c.sg⟩, rfl, by simp only; omega⟩, hp3, rfl⟩
 by_cases c4 : a = 4
 ·obtain ⟨r3, h3, v, p3, s3, ⟨x, rfl, hx⟩, hp3, rfl⟩ := zf0 B p2 s2 hp2 hB [0, 1, 20, 21] (by simp)
  simp only [zac, List.map] at h3
  simp [-getElem?_pos, zfy, zfz, hr8, h1, h2, c0, c1, c2, c3, c4, h3]
  exact ⟨_, p3, s3, ⟨⟨c.ro, c.de, c.bi, c.la, x, c.nu, c.dn, c.sg⟩, rfl, by simp only; omega⟩, hp3, rfl⟩
 by_cases c5 : a = 5
 ·obtain ⟨r3, h3, v, p3, s3, ⟨x, rfl, hx⟩, hp3, rfl⟩ := zf0 B p2 s2 hp2 hB [0, 1, c.dn, IntKind.i64.wrap (c.dn + 1), -1] (by simp)
  simp only [zac, List.map] at h3
  simp [-getElem?_pos, zfy, zfz, hr8, h1, h2, c0, c1, c2, c3, c4, c5, h3]
  exact ⟨_, p3, s3, ⟨⟨c.ro, c.de, c.bi, c.la, c.rw, x, c.dn, c.sg⟩, rfl, by simp only; omega⟩, hp3, rfl⟩
 by_cases c6 : a = 6
 ·obtain ⟨r3, h3, v, p3, s3, ⟨x, rfl, hx⟩, hp3, rfl⟩ := zf0 B p2 s2 hp2 hB [0, 1, 1000, 1001, 9223372036854775807] (by simp)
  simp only [zac, List.map] at h3
  simp [-getElem?_pos, zfy, zfz, hr8, h1, h2, c0, c1, c2, c3, c4, c5, c6, h3]
  exact ⟨_, p3, s3, ⟨⟨c.ro, c.de, c.bi, c.la, c.rw, c.nu, x, c.sg⟩, rfl, by simp only; omega⟩, hp3, rfl⟩
 by_cases c7 : a = 7
 ·obtain ⟨r3, h3, v, p3, s3, ⟨x, rfl, x0, x1⟩, hp3, rfl⟩ := zbe B p2 s2 hp2 hB 5 (by omega)
  have x2 := x1 (by omega)
  have w := w64 (x := x - 2) (by omega) (by omega)
  have hr9 := zdd (n := c.sg.length + 1) (by omega)
  simp [-getElem?_pos, zfy, zfz, hr8, hr9, h1, h2, c0, c1, c2, c3, c4, c5, c6, c7, h3, w, zc3]
  exact ⟨_, p3, s3, ⟨⟨c.ro, c.de, c.bi, c.la, c.rw, c.nu, c.dn, c.sg ++ [x - 2]⟩, rfl, by simp; omega⟩, hp3, rfl⟩
 ·simp [-getElem?_pos, zfy, zfz, hr8, h1, h2, c0, c1, c2, c3, c4, c5, c6, c7]
  exact ⟨_, p2, s2, ⟨c, rfl, by omega⟩, hp2, rfl⟩
def sv (s : ByteArray) : PV := .v (.string s)
def zcx (l : List ByteArray) : List (List PV) := l.map fun s => [.v (.string s)]
@[simp] theorem y4a (l : List ByteArray) : (zcx l).length = l.length := by simp [zcx]
theorem z6k {l : List ByteArray} {i : Nat} {x : ByteArray} (h : l[i]? = some x) : (zcx l)[i]? = some [.v (.string x)] := by simp [zcx, h]
def zym (q : Bool) (t : List Nd) : PV := if q then .own 5 (t.map nd) else .sl 5 (t.map nd)
@[simp] theorem y0b (q : Bool) (t : List Nd) : fz (zym q t) = .sl 5 (t.map nd) := by cases q <;> simp [zym]
def trs (q : Bool) (M : List (List Nd)) : List (List PV) := M.map fun t => [zym q t]
@[simp] theorem yu0 (q : Bool) (M : List (List Nd)) : (trs q M).length = M.length := by simp [trs]
structure Mo where
 ns : List ByteArray
 ix : List Int
 b : Int
 ts : List (List Nd)
structure MoL (n : Nat) (m : Mo) : Prop where
 ns : m.ns.length ≤ n
 ss : ∀ x ∈ m.ns, x.size ≤ n
 ix : m.ix.length ≤ n
 ts : m.ts.length ≤ n
 tl : ∀ l ∈ m.ts, l.length ≤ n
theorem MoL.mono {n k : Nat} {m : Mo} (h : MoL n m) (hk : n ≤ k) : MoL k m := ⟨Nat.le_trans h.ns hk, fun x hx => Nat.le_trans (h.ss x hx) hk, Nat.le_trans h.ix hk, Nat.le_trans h.ts hk, fun x hx => Nat.le_trans (h.tl x hx) hk⟩
theorem yoh (s : ByteArray) : ∀ (n i : Nat) (r : List UInt8), s.size - i ≤ n → ByteArray.toList.loop s i r = r.reverse ++ s.data.toList.drop i := by
 have hs : s.data.toList.length = s.size := by cases s; rfl
 intro n
 induction n with
 | zero =>
  intro i r h
  rw [ByteArray.toList.loop, if_neg (by omega), List.drop_eq_nil_of_le (by omega)]
  simp
 | succ n ih =>
  intro i r h
  rw [ByteArray.toList.loop]
  split
  ·rename_i hi
   rw [ih _ _ (by omega)]
   have hi' : i < s.data.toList.length := by omega
   rw [List.drop_eq_getElem_cons hi']
   have : s.get! i = s.data.toList[i] := by
    cases s with
    | mk d =>
     show d[i]! = _
     rw [getElem!_pos d i (by simpa using hi')]
     simp
   simp [this]
  ·rename_i hi
   rw [List.drop_eq_nil_of_le (by omega)]
   simp
theorem z96 (s : ByteArray) : s.toList = s.data.toList := by
 unfold ByteArray.toList
 rw [yoh s s.size 0 [] (by omega)]
 simp
theorem yp0 {x y : ByteArray} (h : x.toList = y.toList) : x = y := by
 rw [z96, z96] at h
 cases x; cases y
 simp at h
 simp [h]
theorem ynr {x y : ByteArray} (h : ¬ x = y) : (x.toList == y.toList) = false := by
 simp only [beq_eq_false_iff_ne, ne_eq]
 exact fun e => h (yp0 e)
def rwS (q : Bool) (l : List ByteArray) : PV := if q then .own 1 (zcx l) else .sl 1 (zcx l)
@[simp] theorem qap (q : Bool) (l : List ByteArray) : fz (rwS q l) = .sl 1 (zcx l) := by cases q <;> simp [rwS]
def z7t (q : Bool) (L : List (List ByteArray)) : List (List PV) := L.map fun l => [rwS q l]
@[simp] theorem y0r (q : Bool) (L : List (List ByteArray)) : (z7t q L).length = L.length := by simp [z7t]
def ltr (n : Int) : Bool := decide (97 ≤ n) && decide (n ≤ 122)
def dgt (n : Int) : Bool := decide (48 ≤ n) && decide (n ≤ 57)
def chB (s : ByteArray) (i : Nat) : Bool := match s[i]? with
 | none => true
 | some b => ltr b.toNat || (decide (i ≠ 0) && dgt b.toNat)
def zeh (s : ByteArray) : Bool := zak s.size 1 12 && (List.range s.size).all (chB s)
theorem z65 {s : ByteArray} {i : Nat} {b : UInt8} (h : s[i]? = some b) : chB s i = (ltr b.toNat || (decide (i ≠ 0) && dgt b.toNat)) := by simp [chB, h]
theorem z4g (s : ByteArray) (hs : s.size ≤ 9223372036854775807) : RUN T zkt [.v (.string s)] = some ([bv (zeh s)], []) := by
 refine zal z3x rfl ?_
 rcases Bool.eq_false_or_eq_true (zak s.size 1 12) with h0 | h0
 case inr =>
  have no : zeh s = false := by unfold zeh; rw [h0]; rfl
  simp [-getElem?_pos, zoi, zoj, zbq, -zbd, h0, no]
 have hr := za6.mp h0
 obtain ⟨b0, hb0⟩ : ∃ b, s[0]? = some b := ⟨_, getElem?_pos s 0 (by omega)⟩
 have hn0 : zbg (.v (.int .i64 0)) = some 0 := rfl
 rcases Classical.propComplete (((b0.toNat : Nat) : Int) < 97) with f | f
 case inl =>
  have hc : chB s 0 = false := by
   rw [z65 hb0]
   have : ¬ (97 ≤ (b0.toNat : Int)) := by have := of_eq_true f; omega
   simp [ltr, this]
  have no : zeh s = false := by unfold zeh; rw [zht (by omega) hc]; simp
  simp [-getElem?_pos, zoi, zoj, zbq, -zbd, h0, no, hb0, f]
 simp [-getElem?_pos, zoi, zoj, zbq, -zbd, h0, hb0, f]
 refine za3 (fun n st => ∃ i : Nat, i + n = s.size ∧ (∀ j, j < i → chB s j = true) ∧ st.V 0 = .v (.string s) ∧ st.V 3 = iv i) ?_ s.size _ ⟨0, by simp⟩
 rintro n st ⟨i, hi, hj, v0, v3⟩
 simp [z02, v0, v3]
 refine zdc (fun h => ?_) (fun h => ?_)
 ·simp at h
  obtain ⟨b, hb⟩ : ∃ b, s[i]? = some b := ⟨_, getElem?_pos s i h⟩
  have hw := wS h hs
  have hc := z65 hb
  have hcv : IntKind.i64.wrap (b.toNat : Int) = b.toNat := w64 (by omega) (by have := b.toNat_lt; omega)
  have e1 : zak (b.toNat : Int) 97 122 = ltr b.toNat := rfl
  have e2 : zak (b.toNat : Int) 48 57 = dgt b.toNat := rfl
  cases a1 : ltr b.toNat with
  | true =>
   have e3 := e1.trans a1
   simp [-getElem?_pos, v0, v3, hb, hcv, e3, hw, zbq, -zbd]
   exact zaq (n - 1) (by omega) ⟨i + 1, by omega, zo3 hj (by rw [hc, a1]; rfl), by simp [v0], by simp⟩
  | false =>
   have e3 := e1.trans a1
   cases a2 : dgt b.toNat with
   | true =>
    have e4 := e2.trans a2
    have hi0 : i ≠ 0 := by
     rintro rfl
     rw [hb0] at hb
     cases hb
     simp [dgt] at a2
     have := of_eq_false f
     omega
    simp [-getElem?_pos, v0, v3, hb, hcv, e3, e4, hw, zbq, -zbd]
    exact zaq (n - 1) (by omega) ⟨i + 1, by omega, zo3 hj (by rw [hc, a1, a2]; simp [hi0]), by simp [v0], by simp⟩
   | false =>
    have e4 := e2.trans a2
    have no : zeh s = false := by unfold zeh; rw [zht h (by rw [hc, a1, a2]; simp : chB s i = false)]; simp
    simp [-getElem?_pos, v0, v3, hb, hcv, e3, e4, hw, no, zbq, -zbd]
 ·simp at h
  have := zwf (p := chB s) (n := s.size) fun j hj' => hj j (by omega)
  have ok : zeh s = true := by unfold zeh; rw [this, h0]; rfl
  simp [ok]
theorem z8w (l : List ByteArray) (i : Nat) : List.take i (zcx l) = zcx (l.take i) := by simp [zcx]
def zf1 (l : List ByteArray) (x : ByteArray) : Bool := l.any fun y => decide (y = x)
theorem z4h (l : List ByteArray) (x : ByteArray) (hl : l.length ≤ 9223372036854775807) : RUN T zku [.sl 1 (zcx l), .v (.string x)] = some ([bv (zf1 l x)], []) := by
 refine zal z3y rfl ?_
 simp [-getElem?_pos, zvy, zvz]
 refine za3 (fun n st => ∃ i : Nat, i + n = l.length ∧ (∀ (j : Nat) (y : ByteArray), j < i → l[j]? = some y → ¬ y = x) ∧ st.V 0 = .sl 1 (zcx l) ∧ st.V 1 = .v (.string x) ∧ st.V 5 = iv i) ?_ l.length _ ⟨0, by simp⟩
 rintro n st ⟨i, hi, hj, v0, v1, v5⟩
 simp [z03, v0, v5]
 refine zdc (fun h => ?_) (fun h => ?_)
 ·simp at h
  obtain ⟨y, hy⟩ : ∃ y, l[i]? = some y := ⟨_, List.getElem?_eq_getElem h⟩
  have hy' := z6k hy
  have hw := wS h hl
  by_cases e : y = x
  ·subst e
   have : zf1 l y = true := by
    unfold zf1; rw [List.any_eq_true]; exact ⟨y, List.mem_of_getElem? hy, by simp⟩
   simp [-getElem?_pos, v0, v1, v5, hy', h, this]
  ·simp [-getElem?_pos, v0, v1, v5, hy', h, hw, ynr e]
   exact zaq (n - 1) (by omega) ⟨i + 1, by omega, zo4 (P := fun _ y => ¬ y = x) hj hy e, by simp [v0], by simp [v1], by simp⟩
 ·simp at h
  have : zf1 l x = false := by
   unfold zf1
   rw [List.any_eq_false]
   intro y hy
   obtain ⟨j, hjy⟩ := List.getElem?_of_mem hy
   simpa using hj j y (by have := (List.getElem?_eq_some_iff.mp hjy).1; omega) hjy
  simp [this]
def nmB (L : List ByteArray) (i : Nat) : Bool := match L[i]? with
 | none => true
 | some x => zeh x && !zf1 (L.take i) x
def ziq (L : List ByteArray) : Bool := (List.range L.length).all (nmB L)
theorem zwz {L : List ByteArray} {i : Nat} {x : ByteArray} (h : L[i]? = some x) : nmB L i = (zeh x && !zf1 (L.take i) x) := by simp [nmB, h]
def ynx (p : Nat → Bool) (i : Nat) : List Int := ((List.range i).filter p).map fun (j : Nat) => (j : Int)
@[simp] theorem yuj (p : Nat → Bool) : ynx p 0 = [] := rfl
theorem zwj (x : Int) : IntKind.u64.wrap x = x % 18446744073709551616 := IntKind.wrap_u64 x
theorem yll (a b : Int) : za2 .mul (.int .u64 a) (.int .u64 b) = some (.int .u64 (a * b % 18446744073709551616)) := by rw [z7r, zwj]
theorem yno (a b : Int) : za2 .add (.int .u64 a) (.int .u64 b) = some (.int .u64 ((a + b) % 18446744073709551616)) := by rw [z87, zwj]
theorem yo9 (x : Int) : za2 .shr (.int .u64 x) (.int .u64 32) = some (.int .u64 (x / 4294967296)) := by
 rw [yat, if_pos (by decide)]
 have : (2 : Int) ^ min (32 : Int).toNat IntKind.u64.bits = 4294967296 := by decide
 rw [this, Int.fdiv_eq_ediv_of_nonneg _ (by decide)]
theorem zy9 {x : Int} (h0 : 0 ≤ x) (h1 : x < 18446744073709551616) : za2 .and (.int .u64 x) (.int .u64 4294967295) = some (.int .u64 (x % 4294967296)) := by
 rw [yaq, zwj]
 have e : ((BitVec.ofInt IntKind.u64.bits x &&& BitVec.ofInt IntKind.u64.bits 4294967295).toNat : Int) = x % 4294967296 := by
  obtain ⟨n, rfl⟩ := Int.eq_ofNat_of_zero_le h0
  have hn : n < 2 ^ 64 := by omega
  have e2 : (BitVec.ofInt 64 (n : Int) &&& BitVec.ofInt 64 4294967295).toNat = n % 4294967296 := by
   rw [BitVec.toNat_and]
   have e3 : (BitVec.ofInt 64 (n : Int)).toNat = n := by
    rw [BitVec.ofInt_natCast, BitVec.toNat_ofNat, Nat.mod_eq_of_lt hn]
   have e4 : (BitVec.ofInt 64 4294967295).toNat = 2 ^ 32 - 1 := by decide
   rw [e3, e4, Nat.and_two_pow_sub_one_eq_mod]
  show (((BitVec.ofInt 64 (n : Int) &&& BitVec.ofInt 64 4294967295).toNat : Nat) : Int) = _
  rw [e2]; omega
 rw [e]; congr 2; omega
theorem parts {x y : Int} (hx : 0 ≤ x) (hx1 : x < 18446744073709551616) (hy : 0 ≤ y) (hy1 : y < 18446744073709551616) :
  ∃ a b c d : Int, a = x % 4294967296 * (y % 4294967296) ∧ b = x / 4294967296 * (y % 4294967296) ∧ c = x % 4294967296 * (y / 4294967296) ∧ d = x / 4294967296 * (y / 4294967296) ∧ 0 ≤ a ∧ a ≤ 18446744065119617025 ∧ 0 ≤ b ∧ b ≤ 18446744065119617025 ∧ 0 ≤ c ∧ c ≤ 18446744065119617025 ∧ 0 ≤ d ∧ d ≤ 18446744065119617025 ∧ x * y = d * 18446744073709551616 + (b + c) * 4294967296 + a := by
 have bd : ∀ u v : Int, 0 ≤ u → u ≤ 4294967295 → 0 ≤ v → v ≤ 4294967295 → 0 ≤ u * v ∧ u * v ≤ 18446744065119617025 := fun u v h1 h2 h3 h4 =>
  ⟨Int.mul_nonneg h1 h3, Int.le_trans (Int.mul_le_mul h2 h4 h3 (by decide)) (by decide)⟩
 have x0 : 0 ≤ x % 4294967296 ∧ x % 4294967296 ≤ 4294967295 := by omega
 have x1 : 0 ≤ x / 4294967296 ∧ x / 4294967296 ≤ 4294967295 := by omega
 have y0 : 0 ≤ y % 4294967296 ∧ y % 4294967296 ≤ 4294967295 := by omega
 have y1 : 0 ≤ y / 4294967296 ∧ y / 4294967296 ≤ 4294967295 := by omega
 refine ⟨_, _, _, _, rfl, rfl, rfl, rfl, (bd _ _ x0.1 x0.2 y0.1 y0.2).1, (bd _ _ x0.1 x0.2 y0.1 y0.2).2, (bd _ _ x1.1 x1.2 y0.1 y0.2).1, (bd _ _ x1.1 x1.2 y0.1 y0.2).2, (bd _ _ x0.1 x0.2 y1.1 y1.2).1, (bd _ _ x0.1 x0.2 y1.1 y1.2).2, (bd _ _ x1.1 x1.2 y1.1 y1.2).1, (bd _ _ x1.1 x1.2 y1.1 y1.2).2, ?_⟩
 have ex : x = x / 4294967296 * 4294967296 + x % 4294967296 := by omega
 have ey : y = y / 4294967296 * 4294967296 + y % 4294967296 := by omega
 generalize x / 4294967296 = p at *
 generalize x % 4294967296 = q at *
 generalize y / 4294967296 = r at *
 generalize y % 4294967296 = s at *
 rw [ex, ey, Int.add_mul, Int.mul_add, Int.mul_add]
 have e1 : p * 4294967296 * (r * 4294967296) = p * r * 18446744073709551616 := by
  rw [show (18446744073709551616 : Int) = 4294967296 * 4294967296 by decide, Int.mul_assoc, Int.mul_comm 4294967296 (r * 4294967296), Int.mul_assoc r, ← Int.mul_assoc p r]
 have e2 : p * 4294967296 * s = p * s * 4294967296 := by rw [Int.mul_assoc, Int.mul_comm 4294967296 s, ← Int.mul_assoc]
 have e3 : q * (r * 4294967296) = q * r * 4294967296 := by rw [← Int.mul_assoc]
 rw [e1, e2, e3, Int.add_mul]
 omega
theorem zx1 (x y : Int) (hx : 0 ≤ x) (hx1 : x < 18446744073709551616) (hy : 0 ≤ y) (hy1 : y < 18446744073709551616) : RUN T zjg [.v (.int .u64 x), .v (.int .u64 y)] = some ([.v (.int .u64 (x * y / 18446744073709551616)), .v (.int .u64 (x * y % 18446744073709551616))], []) := by
 refine zal z34 rfl ?_
 obtain ⟨a, b, c, d, ea, eb, ec, ed, a0, a1, b0, b1, c0, c1, d0, d1, hp⟩ := parts hx hx1 hy hy1
 have f1 := zy9 hx hx1
 have f2 := zy9 hy hy1
 have g1 : a % 18446744073709551616 = a := by omega
 have g2 : b % 18446744073709551616 = b := by omega
 have g3 : c % 18446744073709551616 = c := by omega
 have g4 : d % 18446744073709551616 = d := by omega
 have g5 : (b + a / 4294967296) % 18446744073709551616 = b + a / 4294967296 := by omega
 have f3 := zy9 (x := b + a / 4294967296) (by omega) (by omega)
 simp [-z7r, -z87, -yaq, -yat, yll, yno, yo9, f1, f2, f3, zv7, zv8, ← ea, ← eb, ← ec, ← ed, g1, g2, g3, g4, g5]
 omega
structure Wd where
 n : Bool
 h : Int
 l : Int
deriving DecidableEq
abbrev uv (x : Int) : PV := .v (.int .u64 x)
def wd (w : Wd) : List PV := [bv w.n, uv w.h, uv w.l]
def wfU (w : Wd) : Prop := 0 ≤ w.h ∧ w.h < 18446744073709551616 ∧ 0 ≤ w.l ∧ w.l < 18446744073709551616
def wok (w : Wd) : Bool := decide (w.h < 9223372036854775808) && (!w.n || decide (0 < w.h) || decide (0 < w.l))
def mag (w : Wd) : Int := w.h * 18446744073709551616 + w.l
def mkW (n : Bool) (m : Int) : Wd := ⟨n && decide (0 < m), m / 18446744073709551616, m % 18446744073709551616⟩
def zb4 : Wd := ⟨false, 0, 0⟩
theorem zy7 {n : Bool} {m : Int} (h0 : 0 ≤ m) (h1 : m < 340282366920938463463374607431768211456) : wfU (mkW n m) := by
 unfold wfU mkW; simp only; omega
theorem z8u {n : Bool} {m : Int} (h0 : 0 ≤ m) : wok (mkW n m) = decide (m < 170141183460469231731687303715884105728) := by
 unfold wok mkW
 simp only
 by_cases h : m < 170141183460469231731687303715884105728
 ·have e : m / 18446744073709551616 < 9223372036854775808 := by omega
  rw [decide_eq_true h, decide_eq_true e]
  by_cases hz : 0 < m
  ·by_cases h2 : 0 < m / 18446744073709551616
   ·simp [h2]
   ·have : 0 < m % 18446744073709551616 := by omega
    simp [this]
  ·simp [hz]
 ·have e : ¬ m / 18446744073709551616 < 9223372036854775808 := by omega
  rw [decide_eq_false h, decide_eq_false e]; rfl
theorem zx2 (n : Int) (h : inI n) : RUN T zjh [iv n] = some ([uv n.natAbs], []) := by
 refine zal z35 rfl ?_
 obtain ⟨h0, h1⟩ := h
 simp [zv9, zwa]
 refine zdc (fun h => ?_) (fun h => ?_) <;> simp at h <;> simp [zwj] <;> omega
theorem zqq (n : Bool) (h l : Int) : RUN T zfx [bv n, uv h, uv l] = some ([.agg (wd ⟨n && (decide (0 < h) || decide (0 < l)), h, l⟩)], []) := by
 refine zal z3t rfl ?_
 cases n with
 | false => simp [zog, zoh, wd]
 | true =>
  by_cases h1 : 0 < h
  ·simp [zog, zoh, wd, h1]
  ·simp [zog, zoh, wd, h1]
theorem zom (w : Wd) : RUN T zgn [.agg (wd w)] = some ([bv (wok w)], []) := by
 refine zal z32 rfl ?_
 obtain ⟨n, h, l⟩ := w
 unfold wok
 by_cases h1 : h < 9223372036854775808
 ·cases n with
  | false => simp [zle, zlf, wd, h1]
  | true =>
   by_cases h2 : 0 < h
   ·simp [zle, zlf, wd, h1, h2]
   ·simp [zle, zlf, wd, h1, h2]
 ·simp [zle, zlf, wd, h1]
def zcs (a b : Int) : Int := if a < b then -1 else if b < a then 1 else 0
theorem z4i (x : Int) : RUN T zky [uv x] = some ([bv false], []) := by
 refine zal z37 rfl ?_
 simp [zwb, zwc]
theorem z4j (x y : Int) : RUN T zkx [uv x, uv y] = some ([iv (zcs x y)], []) := by
 refine zal z36 rfl ?_
 have e1 := z4i x
 have e2 := z4i y
 unfold zcs
 by_cases h1 : x < y
 ·simp [zok, zol, e1, e2, h1]
 ·by_cases h2 : y < x
  ·simp [zok, zol, e1, e2, h1, h2]
  ·simp [zok, zol, e1, e2, h1, h2]
theorem z4k (x y : Int) : RUN T zko [.sl 1 [[iv x], [iv y]]] = some ([iv (if x = 0 then y else x)], []) := by
 refine zal z3m rfl ?_
 simp [zvk, zvl]
 refine za3 (fun n st => ∃ i : Nat, i + n = 2 ∧ (1 ≤ i → x = 0) ∧ (2 ≤ i → y = 0) ∧ st.V 3 = iv 0 ∧ st.V 6 = .sl 1 [[iv x], [iv y]] ∧ st.V 7 = iv 2 ∧ st.V 8 = iv i) ?_ 2 _ ⟨0, by simp⟩
 rintro n st ⟨i, hi, hx, hy, v3, v6, v7, v8⟩
 simp [z01, v7, v8]
 have h3 : i = 0 ∨ i = 1 ∨ i = 2 := by omega
 rcases h3 with rfl | rfl | rfl
 ·have hw : IntKind.i64.wrap 1 = 1 := w64 (by omega) (by omega)
  by_cases h : x = 0
  ·simp [v3, v6, v7, v8, h, hw]
   exact zaq (n - 1) (by omega) ⟨1, by omega, fun _ => h, by simp, by simp [v3], by simp [v6, h], by simp [v7], by simp⟩
  ·simp [v3, v6, v7, v8, h]
 ·have hx := hx (by omega)
  have hw : IntKind.i64.wrap 2 = 2 := w64 (by omega) (by omega)
  by_cases h : y = 0
  ·simp [v3, v6, v7, v8, h, hx, hw]
   exact zaq (n - 1) (by omega) ⟨2, by omega, fun _ => hx, fun _ => h, by simp [v3], by simp [v6, h, hx], by simp [v7], by simp⟩
  ·simp [v3, v6, v7, v8, h, hx]
 ·have hx := hx (by omega)
  have hy := hy (by omega)
  simp [v3, hx, hy]
def zfd (a b : Wd) : Int := if zcs a.h b.h = 0 then zcs a.l b.l else zcs a.h b.h
theorem ynf {a b : Wd} (ha : wfU a) (hb : wfU b) : zfd a b = zcs (mag a) (mag b) := by
 obtain ⟨_, _, _, _⟩ := ha
 obtain ⟨_, _, _, _⟩ := hb
 unfold zfd zcs mag
 split <;> split <;> split <;> (try split) <;> (try split) <;> omega
theorem zx3 (a b : Wd) : RUN T zje [.agg (wd a), .agg (wd b)] = some ([iv (zfd a b)], []) := by
 refine zal z3u rfl ?_
 have e1 := z4j a.h b.h
 have e2 := z4j a.l b.l
 have e3 := z4k (zcs a.h b.h) (zcs a.l b.l)
 simp [zvs, zvt, wd, e1, e2, e3, zfd]
def zgx (a b : Int) : Wd := mkW (decide (a < 0) != decide (b < 0)) ((a.natAbs : Int) * b.natAbs)
theorem zoz {a : Int} (h : inI a) : 0 ≤ (a.natAbs : Int) ∧ (a.natAbs : Int) ≤ 9223372036854775808 := by
 obtain ⟨h0, h1⟩ := h; omega
theorem yax {a b : Int} (ha : inI a) (hb : inI b) : 0 ≤ (a.natAbs : Int) * b.natAbs ∧ (a.natAbs : Int) * b.natAbs ≤ 85070591730234615865843651857942052864 := by
 obtain ⟨a0, a1⟩ := zoz ha
 obtain ⟨b0, b1⟩ := zoz hb
 exact ⟨Int.mul_nonneg a0 b0, Int.le_trans (Int.mul_le_mul a1 b1 b0 (by decide)) (by decide)⟩
theorem yh3 (a b : Int) (ha : inI a) (hb : inI b) : RUN T znw [iv a, iv b] = some ([.agg (wd (zgx a b))], []) := by
 refine zal z3q rfl ?_
 obtain ⟨a0, a1⟩ := zoz ha
 obtain ⟨b0, b1⟩ := zoz hb
 have e1 := zx2 a ha
 have e2 := zx2 b hb
 have e3 := zx1 a.natAbs b.natAbs a0 (by omega) b0 (by omega)
 have e4 := zqq (decide (a < 0) != decide (b < 0)) ((a.natAbs : Int) * b.natAbs / 18446744073709551616) ((a.natAbs : Int) * b.natAbs % 18446744073709551616)
 obtain ⟨m0, m1⟩ := yax ha hb
 have e5 : (⟨(decide (a < 0) != decide (b < 0)) && (decide (0 < (a.natAbs : Int) * b.natAbs / 18446744073709551616) || decide (0 < (a.natAbs : Int) * b.natAbs % 18446744073709551616)), (a.natAbs : Int) * b.natAbs / 18446744073709551616, (a.natAbs : Int) * b.natAbs % 18446744073709551616⟩ : Wd) = zgx a b := by
  unfold zgx mkW
  congr 2
  generalize (a.natAbs : Int) * b.natAbs = m at *
  rw [Bool.eq_iff_iff]; simp; omega
 rw [e5] at e4
 generalize zgx a b = w at *
 obtain ⟨wn, wh, wl⟩ := w
 simp only [wd] at e4 ⊢
 by_cases sa : a < 0 <;> by_cases sb : b < 0 <;> simp [sa, sb] at e4 <;> simp [zvo, zvp, e1, e2, e3, sa, sb, e4]
def zgc (w : Wd) : Int := if w.n then -mag w else mag w
def zeb (a b : Wd) : Wd × Bool :=
 if wok a && wok b then
  if ((zgc a + zgc b).natAbs : Int) < 170141183460469231731687303715884105728 then (mkW (decide (zgc a + zgc b < 0)) (zgc a + zgc b).natAbs, true) else (zb4, false)
 else (zb4, false)
theorem ypa (a b : Wd) : wfU (zeb a b).1 := by
 unfold zeb
 split
 ·split
  ·exact zy7 (by omega) (by omega)
  ·exact ⟨by decide, by decide, by decide, by decide⟩
 ·exact ⟨by decide, by decide, by decide, by decide⟩
theorem z5h {w : Wd} (h : wfU w) (hk : wok w = true) : 0 ≤ mag w ∧ mag w < 170141183460469231731687303715884105728 ∧ (w.n = true → 0 < mag w) := by
 obtain ⟨h0, h1, h2, h3⟩ := h
 unfold wok at hk
 simp only [Bool.and_eq_true, Bool.or_eq_true, Bool.not_eq_true', decide_eq_true_eq] at hk
 unfold mag
 obtain ⟨k1, k2⟩ := hk
 refine ⟨by omega, by omega, fun hn => ?_⟩
 rw [hn] at k2
 rcases k2 with (k2 | k2) | k2
 ·cases k2
 ·omega
 ·omega
theorem ypp (a b : Wd) (ha : wfU a) (hb : wfU b) (h : mag a + mag b < 340282366920938463463374607431768211456) : ∃ c d : Int,
  RUN T zh6 [uv a.l, uv b.l, uv 0] = some ([uv ((mag a + mag b) % 18446744073709551616), uv c], []) ∧ RUN T zh6 [uv a.h, uv b.h, uv c] = some ([uv ((mag a + mag b) / 18446744073709551616), uv d], []) := by
 obtain ⟨a0, a1, a2, a3⟩ := ha
 obtain ⟨b0, b1, b2, b3⟩ := hb
 have e1 := zzm zxw (x := a.l) (y := b.l) (c := 0) a2 b2 (by decide) (by decide)
 have e2 := zzm zxw (x := a.h) (y := b.h) (c := (a.l + b.l + 0) / 18446744073709551616) a0 b0 (by omega) (by omega)
 have f1 : (a.l + b.l + 0) % 18446744073709551616 = (mag a + mag b) % 18446744073709551616 := by unfold mag; omega
 have f2 : (a.h + b.h + (a.l + b.l + 0) / 18446744073709551616) % 18446744073709551616 = (mag a + mag b) / 18446744073709551616 := by unfold mag at *; omega
 rw [f1] at e1
 rw [f2] at e2
 exact ⟨_, _, e1, e2⟩
theorem z6r (a b : Wd) (ha : wfU a) (hb : wfU b) (h : mag b ≤ mag a) : ∃ c d : Int,
  RUN T zjf [uv a.l, uv b.l, uv 0] = some ([uv ((mag a - mag b) % 18446744073709551616), uv c], []) ∧ RUN T zjf [uv a.h, uv b.h, uv c] = some ([uv ((mag a - mag b) / 18446744073709551616), uv d], []) := by
 obtain ⟨a0, a1, a2, a3⟩ := ha
 obtain ⟨b0, b1, b2, b3⟩ := hb
 have e1 := z67 z33 (x := a.l) (y := b.l) (c := 0) a2 b2 a3 b3 (by decide) (by decide)
 have e2 := z67 z33 (x := a.h) (y := b.h) (c := if a.l < b.l + 0 then 1 else 0) a0 b0 a1 b1 (by split <;> omega) (by split <;> omega)
 have f1 : (a.l - b.l - 0) % 18446744073709551616 = (mag a - mag b) % 18446744073709551616 := by unfold mag; omega
 have f2 : (a.h - b.h - (if a.l < b.l + 0 then 1 else 0)) % 18446744073709551616 = (mag a - mag b) / 18446744073709551616 := by
  unfold mag at *
  split <;> omega
 rw [f1] at e1
 rw [f2] at e2
 exact ⟨_, _, e1, e2⟩
theorem zzh {n : Bool} {m : Int} (h : 0 ≤ m) : RUN T zfx [bv n, uv (m / 18446744073709551616), uv (m % 18446744073709551616)] = some ([.agg (wd (mkW n m))], []) := by
 rw [zqq]
 have : (⟨n && (decide (0 < m / 18446744073709551616) || decide (0 < m % 18446744073709551616)), m / 18446744073709551616, m % 18446744073709551616⟩ : Wd) = mkW n m := by
  unfold mkW
  congr 2
  rw [Bool.eq_iff_iff]; simp; omega
 rw [this]
theorem yh4 (a b : Wd) (ha : wfU a) (hb : wfU b) : RUN T znv [.agg (wd a), .agg (wd b)] = some ([.agg (wd (zeb a b).1), bv (zeb a b).2], []) := by
 refine zal z3o rfl ?_
 have ea := zom a
 have eb := zom b
 cases ka : wok a with
 | false =>
  have es : zeb a b = (zb4, false) := by unfold zeb; simp [ka]
  rw [es]; rw [ka] at ea
  simp only [wd] at ea
  simp [zie, zif, wd, ea, zb4]
 | true =>
  cases kb : wok b with
  | false =>
   have es : zeb a b = (zb4, false) := by unfold zeb; simp [kb]
   rw [es]; rw [ka] at ea; rw [kb] at eb
   simp only [wd] at ea eb
   simp [zie, zif, wd, ea, eb, zb4]
  | true =>
   obtain ⟨ma0, ma1, ma2⟩ := z5h ha ka
   obtain ⟨mb0, mb1, mb2⟩ := z5h hb kb
   rw [ka] at ea; rw [kb] at eb
   by_cases hn : a.n = b.n
   ·obtain ⟨c, d, f1, f2⟩ := ypp a b ha hb (by omega)
    have f3 := zzh (n := a.n) (m := mag a + mag b) (by omega)
    have f4 := zom (mkW a.n (mag a + mag b))
    rw [z8u (by omega)] at f4
    have es : zeb a b = if mag a + mag b < 170141183460469231731687303715884105728 then (mkW a.n (mag a + mag b), true) else (zb4, false) := by
     unfold zeb zgc
     rw [ka, kb, ← hn]
     simp only [Bool.and_self, if_true]
     cases h : a.n with
     | true =>
      have e1 : (-mag a + -mag b).natAbs = mag a + mag b := by omega
      have e2 : -mag a + -mag b < 0 := by have := ma2 h; omega
      simp only [if_true, e1, decide_eq_true e2]
     | false =>
      have e1 : ((mag a + mag b).natAbs : Int) = mag a + mag b := by omega
      have e2 : ¬ mag a + mag b < 0 := by omega
      simp only [Bool.false_eq_true, if_false, e1, decide_eq_false e2]
    rw [es]
    generalize hm : mag a + mag b = m at *
    generalize mkW a.n m = w at *
    generalize m / 18446744073709551616 = hi at *
    generalize m % 18446744073709551616 = lo at *
    simp only [wd] at ea eb f3 f4 ⊢
    rw [hn] at ea f3
    by_cases hk : m < 170141183460469231731687303715884105728
    ·rw [decide_eq_true hk] at f4
     rw [if_pos hk]
     simp [zie, zif, ea, eb, hn, f1, f2, f3, f4]
    ·rw [decide_eq_false hk] at f4
     rw [if_neg hk]
     simp [zie, zif, ea, eb, hn, f1, f2, f3, f4, zb4]
   ·have ho := zx3 a b
    rw [ynf ha hb] at ho
    have es : zeb a b = (mkW (if mag a < mag b then b.n else a.n) (if mag a < mag b then mag b - mag a else mag a - mag b), true) := by
     have gen : ∀ (n : Bool) (m : Int), ((zgc a + zgc b).natAbs : Int) = m → m < 170141183460469231731687303715884105728 → (decide (zgc a + zgc b < 0) && decide (0 < m)) = (n && decide (0 < m)) → zeb a b = (mkW n m, true) := by
      intro n m h1 h2 h3
      unfold zeb
      rw [ka, kb, h1]
      simp only [Bool.and_self, if_true, if_pos h2]
      unfold mkW
      rw [h3]
     unfold zgc at gen
     cases h : a.n <;> cases h' : b.n <;> simp only [h, h'] at gen hn ⊢
     ·exact (hn trivial).elim
     ·by_cases hl : mag a < mag b
      ·rw [if_pos hl, if_pos hl]
       exact gen _ _ (by simp; omega) (by omega) (by rw [Bool.eq_iff_iff]; simp; omega)
      ·rw [if_neg hl, if_neg hl]
       exact gen _ _ (by simp; omega) (by omega) (by rw [Bool.eq_iff_iff]; simp; omega)
     ·by_cases hl : mag a < mag b
      ·rw [if_pos hl, if_pos hl]
       exact gen _ _ (by simp; omega) (by omega) (by rw [Bool.eq_iff_iff]; simp; omega)
      ·rw [if_neg hl, if_neg hl]
       exact gen _ _ (by simp; omega) (by omega) (by rw [Bool.eq_iff_iff]; simp; omega)
     ·exact (hn trivial).elim
    rw [es]
    have hnb : (a.n == b.n) = false := by cases h : a.n <;> cases h' : b.n <;> simp [h, h'] at hn ⊢
    by_cases hl : mag a < mag b
    ·obtain ⟨c, d, f1, f2⟩ := z6r b a hb ha (by omega)
     have f3 := zzh (n := b.n) (m := mag b - mag a) (by omega)
     have hs : zcs (mag a) (mag b) = -1 := by unfold zcs; rw [if_pos hl]
     rw [hs] at ho
     rw [if_pos hl, if_pos hl]
     generalize mag b - mag a = m at *
     generalize mkW b.n m = w at *
     generalize m / 18446744073709551616 = hi at *
     generalize m % 18446744073709551616 = lo at *
     simp only [wd] at ea eb f3 ho ⊢
     simp [zie, zif, ea, eb, hnb, ho, f1, f2, f3]
    ·obtain ⟨c, d, f1, f2⟩ := z6r a b ha hb (by omega)
     have f3 := zzh (n := a.n) (m := mag a - mag b) (by omega)
     have hs : ¬ zcs (mag a) (mag b) < 0 := by unfold zcs; rw [if_neg hl]; split <;> omega
     rw [if_neg hl, if_neg hl]
     generalize mag a - mag b = m at *
     generalize mkW a.n m = w at *
     generalize m / 18446744073709551616 = hi at *
     generalize m % 18446744073709551616 = lo at *
     generalize zcs (mag a) (mag b) = sg at *
     simp only [wd] at ea eb f3 ho ⊢
     simp [zie, zif, ea, eb, hnb, ho, hs, f1, f2, f3]
theorem yqg {a b : Int} (ha : inI a) (hb : inI b) : wfU (zgx a b) := by
 obtain ⟨m0, m1⟩ := yax ha hb
 exact zy7 m0 (by omega)
def zd5 (w : Wd) (k : Int) : Wd × Bool := if wok w = true ∧ mag w * k.natAbs < 170141183460469231731687303715884105728 then (mkW (w.n != decide (k < 0)) (mag w * k.natAbs), true) else (zb4, false)
theorem yly (w : Wd) (k : Int) (hw : wfU w) (hk : inI k) : ∃ p q : Int, w.h * k.natAbs = p ∧ w.l * k.natAbs = q ∧ 0 ≤ p ∧ 0 ≤ q ∧ q ≤ 170141183460469231722463931679029329920 ∧ mag w * k.natAbs = p * 18446744073709551616 + q := by
 obtain ⟨a0, a1, a2, a3⟩ := hw
 obtain ⟨k0, k1⟩ := zoz hk
 refine ⟨_, _, rfl, rfl, Int.mul_nonneg a0 k0, Int.mul_nonneg a2 k0, Int.le_trans (Int.mul_le_mul (show w.l ≤ 18446744073709551615 by omega) k1 k0 (by decide)) (by decide), ?_⟩
 unfold mag
 rw [Int.add_mul, Int.mul_assoc, Int.mul_comm 18446744073709551616, ← Int.mul_assoc]
theorem ymu (w : Wd) (k : Int) (ka : wok w = true) (p q : Int) (p0 : 0 ≤ p) (q0 : 0 ≤ q) (q1 : q ≤ 170141183460469231722463931679029329920) (hP : mag w * k.natAbs = p * 18446744073709551616 + q) :
  (zd5 w k = (zb4, false) ∧ (0 < p / 18446744073709551616 ∨ 0 < (p % 18446744073709551616 + q / 18446744073709551616) / 18446744073709551616 ∨ wok ⟨(w.n != decide (k < 0)) && (decide (0 < (p % 18446744073709551616 + q / 18446744073709551616) % 18446744073709551616) || decide (0 < q % 18446744073709551616)), (p % 18446744073709551616 + q / 18446744073709551616) % 18446744073709551616, q % 18446744073709551616⟩ = false)) ∨
  (zd5 w k = (⟨(w.n != decide (k < 0)) && (decide (0 < (p % 18446744073709551616 + q / 18446744073709551616) % 18446744073709551616) || decide (0 < q % 18446744073709551616)), (p % 18446744073709551616 + q / 18446744073709551616) % 18446744073709551616, q % 18446744073709551616⟩, true) ∧ ¬ 0 < p / 18446744073709551616 ∧ ¬ 0 < (p % 18446744073709551616 + q / 18446744073709551616) / 18446744073709551616 ∧ wok ⟨(w.n != decide (k < 0)) && (decide (0 < (p % 18446744073709551616 + q / 18446744073709551616) % 18446744073709551616) || decide (0 < q % 18446744073709551616)), (p % 18446744073709551616 + q / 18446744073709551616) % 18446744073709551616, q % 18446744073709551616⟩ = true) := by
 by_cases hk : p * 18446744073709551616 + q < 170141183460469231731687303715884105728
 ·right
  have e : (⟨(w.n != decide (k < 0)) && (decide (0 < (p % 18446744073709551616 + q / 18446744073709551616) % 18446744073709551616) || decide (0 < q % 18446744073709551616)), (p % 18446744073709551616 + q / 18446744073709551616) % 18446744073709551616, q % 18446744073709551616⟩ : Wd) = mkW (w.n != decide (k < 0)) (p * 18446744073709551616 + q) := by
   unfold mkW
   congr 1
   ·congr 1
    rw [Bool.eq_iff_iff]; simp; omega
   ·omega
   ·omega
  rw [e, z8u (by omega)]
  refine ⟨?_, by omega, by omega, decide_eq_true hk⟩
  unfold zd5
  rw [hP, if_pos ⟨ka, hk⟩]
 ·left
  refine ⟨?_, ?_⟩
  ·unfold zd5
   rw [hP, if_neg (fun h => hk h.2)]
  ·by_cases h1 : 0 < p / 18446744073709551616
   ·exact .inl h1
   ·by_cases h2 : 0 < (p % 18446744073709551616 + q / 18446744073709551616) / 18446744073709551616
    ·exact .inr (.inl h2)
    ·refine .inr (.inr ?_)
     unfold wok
     rw [decide_eq_false (show ¬ (p % 18446744073709551616 + q / 18446744073709551616) % 18446744073709551616 < 9223372036854775808 by omega)]
     rfl
set_option maxHeartbeats 1000000 in
theorem z4l (w : Wd) (k : Int) (hw : wfU w) (hk : inI k) : RUN T zkr [.agg (wd w), iv k] = some ([.agg (wd (zd5 w k).1), bv (zd5 w k).2], []) := by
 refine zal z3s rfl ?_
 have ea := zom w
 cases ka : wok w with
 | false =>
  have es : zd5 w k = (zb4, false) := by unfold zd5; simp [ka]
  rw [es]; rw [ka] at ea
  simp only [wd] at ea
  simp [zgq, zgr, wd, ea, zb4]
 | true =>
  rw [ka] at ea
  obtain ⟨a0, a1, a2, a3⟩ := hw
  obtain ⟨k0, k1⟩ := zoz hk
  have e1 := zx2 k hk
  have e2 := zx1 w.h k.natAbs a0 a1 k0 (by omega)
  have e3 := zx1 w.l k.natAbs a2 a3 k0 (by omega)
  obtain ⟨p, q, hp, hq, p0, q0, q1, hP⟩ := yly w k ⟨a0, a1, a2, a3⟩ hk
  rw [hp] at e2
  rw [hq] at e3
  have e4 := zzm zxw (x := p % 18446744073709551616) (y := q / 18446744073709551616) (c := 0) (by omega) (by omega) (by decide) (by decide)
  rw [Int.add_zero] at e4
  have e5 := zqq (w.n != decide (k < 0)) ((p % 18446744073709551616 + q / 18446744073709551616) % 18446744073709551616) (q % 18446744073709551616)
  have e6 := zom ⟨(w.n != decide (k < 0)) && (decide (0 < (p % 18446744073709551616 + q / 18446744073709551616) % 18446744073709551616) || decide (0 < q % 18446744073709551616)), (p % 18446744073709551616 + q / 18446744073709551616) % 18446744073709551616, q % 18446744073709551616⟩
  have key := ymu w k ka p q p0 q0 q1 hP
  generalize ((w.n != decide (k < 0)) && (decide (0 < (p % 18446744073709551616 + q / 18446744073709551616) % 18446744073709551616) || decide (0 < q % 18446744073709551616))) = sn at *
  generalize p / 18446744073709551616 = P1 at *
  generalize p % 18446744073709551616 = P2 at *
  generalize q / 18446744073709551616 = Q1 at *
  generalize q % 18446744073709551616 = Q2 at *
  generalize (P2 + Q1) / 18446744073709551616 = S1 at *
  generalize (P2 + Q1) % 18446744073709551616 = S2 at *
  generalize zd5 w k = r at *
  generalize wok ⟨sn, S2, Q2⟩ = o at *
  obtain ⟨wn, wh, wl⟩ := w
  simp only [wd] at ea e5 e6 ⊢
  simp only at e2 e3
  rcases key with ⟨rfl, c | c | rfl⟩ | ⟨rfl, c1, c2, rfl⟩
  ·cases wn <;> by_cases sb : k < 0 <;> simp [sb] at e5 <;> simp [zgq, zgr, ea, e1, e2, e3, e4, e5, sb, c, zb4]
  ·by_cases c' : 0 < P1
   ·cases wn <;> by_cases sb : k < 0 <;> simp [sb] at e5 <;> simp [zgq, zgr, ea, e1, e2, e3, e4, e5, sb, c', zb4]
   ·cases wn <;> by_cases sb : k < 0 <;> simp [sb] at e5 <;> simp [zgq, zgr, ea, e1, e2, e3, e4, e5, sb, c', c, zb4]
  ·by_cases c' : 0 < P1
   ·cases wn <;> by_cases sb : k < 0 <;> simp [sb] at e5 <;> simp [zgq, zgr, ea, e1, e2, e3, e4, e5, sb, c', zb4]
   ·by_cases c : 0 < S1
    ·cases wn <;> by_cases sb : k < 0 <;> simp [sb] at e5 <;> simp [zgq, zgr, ea, e1, e2, e3, e4, e5, sb, c', c, zb4]
    ·cases wn <;> by_cases sb : k < 0 <;> simp [sb] at e5 <;> simp [zgq, zgr, ea, e1, e2, e3, e4, e5, e6, sb, c', c, zb4]
  ·cases wn <;> by_cases sb : k < 0 <;> simp [sb] at e5 <;> simp [zgq, zgr, ea, e1, e2, e3, e4, e5, e6, sb, c1, c2]
def zd8 (w : Wd) : Bool := w.n && !(decide (w.h = 0) && decide (w.l = 0))
def zpf (a b : Wd) : Int := if zd8 a = true then (if zd8 b = true then zfd b a else -1) else (if zd8 b = true then 1 else zfd a b)
theorem z7m (l : List Nd) (x : Nd) : l.map nd ++ [[iv x.f, iv x.c, iv x.l, iv x.r, iv x.v]] = (l ++ [x]).map nd := by simp [nd]
def ylf (t : List Nd) (k : Nat) (f c a b : Int) : List Nd := t.set k ⟨f, c, t.length, t.length + 1, 0⟩ ++ [⟨-1, 0, 0, 0, a⟩, ⟨-1, 0, 0, 0, b⟩]
def PRw (n : Nat) (v : PV) : Prop := ∃ l : List Int, v = .own 1 (zac l) ∧ l.length = n ∧ ∀ x ∈ l, inI x
theorem z9p (l : List ByteArray) : zcn (zcx l) = true := by simp [zcn, zcx]
theorem zq7 (L : List (List Int)) (r : List Int) : rws true L ++ [[.own 1 (zac r)]] = rws true (L ++ [r]) := by simp [rws, cel]
theorem zwy (L : List (List Int)) (i : Nat) (r : List Int) : (rws true L).set i [.own 1 (zac r)] = rws true (L.set i r) := by simp [rws, cel]
def pos (x : Int) (l : List Int) : Nat → Nat
 | 0 => 0
 | k + 1 => if x < l.getD k 0 then pos x l k else k + 1
def ins (l : List Int) (x : Int) : List Int := l.take (pos x l l.length) ++ x :: l.drop (pos x l l.length)
def zo1 (l : List Int) : List Int := l.foldl ins []
theorem z41 (x : Int) (l : List Int) : ∀ k, pos x l k ≤ k
 | 0 => by simp [pos]
 | k + 1 => by
  have := z41 x l k
  simp only [pos]; split <;> omega
theorem yqn (l : List Int) (x : Int) : (ins l x).length = l.length + 1 := by
 have := z41 x l l.length
 unfold ins
 simp; omega
theorem ykp {l : List Int} {i : Nat} {x : Int} (h : l[i]? = some x) : (l.take (i + 1)).foldl ins [] = ins ((l.take i).foldl ins []) x := by
 rw [List.take_succ, h]
 simp [List.foldl_append]
theorem ylh (l : List Int) : ∀ a : List Int, (l.foldl ins a).length = a.length + l.length := by
 induction l with
 | nil => intro a; rfl
 | cons x l ih => intro a; simp only [List.foldl_cons, ih, yqn, List.length_cons]; omega
theorem yn9 (a : List Int) (p : Nat) : List.take (a.length - p) (List.drop p (zac a)) = zac (a.drop p) := by
 rw [List.take_of_length_le (by simp)]
 simp [zac, List.map_drop]
theorem ykc (a : List Int) (p : Nat) (h : p ≤ a.length) : (if p = a.length then zac a else List.take p (zac a)) = zac (a.take p) := by
 split
 ·rename_i e; subst e; rw [List.take_length]
 ·simp [zac, List.map_take]
theorem z82 (x : Int) (l : List Int) (k : Nat) : pos x l (k + 1) = if x < l.getD k 0 then pos x l k else k + 1 := rfl
def zee (x : Int) (l : List Int) (k P : Nat) : Prop := pos x l k = P
theorem zee.on {x y : Int} {l : List Int} {k P : Nat} (h : zee x l (k + 1) P) (hy : l[k]? = some y) (hc : x < y) : zee x l k P := by
 unfold zee at *
 rw [z82] at h
 simp only [List.getD, hy, Option.getD_some, if_pos hc] at h
 exact h
theorem zee.off {x y : Int} {l : List Int} {k P : Nat} (h : zee x l (k + 1) P) (hy : l[k]? = some y) (hc : ¬ x < y) : k + 1 = P := by
 unfold zee at *
 rw [z82] at h
 simp only [List.getD, hy, Option.getD_some, if_neg hc] at h
 exact h
theorem zee.ex (x : Int) (l : List Int) (k : Nat) : ∃ P, zee x l k P := ⟨_, rfl⟩
theorem zee.z {x : Int} {l : List Int} {P : Nat} (h : zee x l 0 P) : 0 = P := h
theorem z9u {x : Int} {l : List Int} {P : Nat} (h : zee x l l.length P) : ins l x = l.take P ++ x :: l.drop P := by unfold zee at h; unfold ins; rw [h]
attribute [irreducible] pos ins zee
set_option maxHeartbeats 800000 in
theorem z4m (l : List Int) (hl : l.length ≤ 1048576) : RUN T zkv [.sl 1 (zac l)] = some ([.own 1 (zac (zo1 l))], []) := by
 refine zal z3z rfl ?_
 have hr0 : zan 8 0 = true := by decide
 simp [-getElem?_pos, zv1, zv2, hr0]
 refine za3 (fun n st => ∃ (i o e : Nat) (a : List Int), i + n = l.length ∧ a = (l.take i).foldl ins [] ∧ a.length = i ∧ st.V 0 = .sl 1 (zac l) ∧ st.V 3 = .ref o none e 0 a.length ∧ st.V 4 = iv i ∧ o < st.nx ∧ st.S o = some (.row 1 (zac a))) ?_ l.length _ ⟨0, 0, 0, [], by simp [zac]⟩
 rintro n st ⟨i, o, e, a, hi, ha, hal, v0, v3, v4, hox, hSo⟩
 simp [z04, v0, v4]
 obtain ⟨f1, f2, f3, f4⟩ := fr hox
 refine zdc (fun h => ?_) (fun h => ?_)
 ·simp at h
  obtain ⟨x, hx⟩ : ∃ x, l[i]? = some x := ⟨_, List.getElem?_eq_getElem h⟩
  have hx' := zbj hx
  have hws := wS h (by omega : l.length ≤ 9223372036854775807)
  have hft := ykp hx
  rw [← ha] at hft
  obtain ⟨P, hP⟩ : ∃ P, zee x a a.length P := zee.ex x a a.length
  simp [-getElem?_pos, v0, v3, v4, hSo]
  refine za3 (fun n' s => ∃ j : Nat, n' = j ∧ j ≤ a.length ∧ zee x a j P ∧ s.V 0 = .sl 1 (zac l) ∧ s.V 3 = .ref o none e 0 a.length ∧ s.V 4 = iv i ∧ s.V 5 = iv j ∧ s.nx = st.nx ∧ s.S o = some (.row 1 (zac a))) ?_ a.length _ ⟨a.length, by omega, by omega, hP, by simp [v0], by simp [v3], by simp [v4], by simp, by simp, by simp [hSo]⟩
  rintro n' s ⟨j, hjn, hj, hp, u0, u3, u4, u5, unx, hSo'⟩
  clear v0 v3 v4 hSo
  obtain ⟨g1, g2, g3, g4⟩ := fr (show o < s.nx by omega)
  obtain ⟨_, _, g5, g6⟩ := fr (show o < s.nx + 1 by omega)
  obtain ⟨_, _, g7, g8⟩ := fr (show o < s.nx + 2 by omega)
  have hcr : ∀ c : Nat, c ≤ a.length + 1 → zan 8 c = true := fun c hc => zdd (by omega)
  have hr1 : zan 8 1 = true := by decide
  by_cases h0 : 0 < j
  ·obtain ⟨q, rfl⟩ : ∃ q : Nat, j = q + 1 := ⟨j - 1, by omega⟩
   have hw := w64 (x := (q : Int)) (by omega) (by omega)
   obtain ⟨y, hy⟩ : ∃ y, a[q]? = some y := ⟨_, List.getElem?_eq_getElem (by omega)⟩
   have hy' := zbj hy
   have hqa : q < a.length := by omega
   by_cases hc : x < y
   ·have hp' := hp.on hy hc
    simp [-getElem?_pos, zv0, u0, u3, u4, u5, hSo', hx', h, h0, hw, hy', hqa, hc]
    exact zaq q (by omega) ⟨q, rfl, by omega, hp', by simp [u0], by simp [u3], by simp [u4], by simp, by simp [unx], by simp [hSo']⟩
   ·have hp' := hp.off hy hc
    have hk1 := hcr (q + 1) (by omega)
    have hk2 := zdd (n := q + 1 + 1) (by omega)
    have hk3 := hcr (a.length + 1) (by omega)
    have hcut := ykc a (q + 1) (by omega)
    have hal2 : ∀ b : List Int, zcn (zac b) = true := z8x
    have hmin : (a.take (q + 1)).length = q + 1 := by simp; omega
    have hdr := yn9 a (q + 1)
    have hmd : (a.drop (q + 1)).length = a.length - (q + 1) := by simp
    have hsn := zc3 (a.take (q + 1)) x
    have hap := yo5 (a.take (q + 1) ++ [x]) (a.drop (q + 1))
    have hk4 := zdd (n := q + 2 + (a.length - (q + 1))) (by omega)
    have hin := z9u hP
    rw [← hp'] at hin
    have hlen2 : q + 2 + (a.length - (q + 1)) = a.length + 1 := by omega
    simp [-getElem?_pos, zv0, u0, u3, u4, u5, hSo', hx', h, h0, hw, hy', hqa, hc, hj, g1, g2, g3, g4, g5, g6, g7, g8, hr1, hk1, hk2, hk3, hcut, hal2, hmin, hdr, hmd, hsn, hap, hk4, hlen2]
    refine zaq (n - 1) (by omega) ⟨i + 1, s.nx + 2 + 2, s.ep, a.take (q + 1) ++ x :: a.drop (q + 1), by omega, by rw [hft, hin], by simp; omega, by simp [u0], by simp; omega, by simp [hws], by simp, by simp⟩
  ·have h0' : j = 0 := by omega
   subst h0'
   have hp' := hp.z
   have hk0 := hcr 0 (by omega)
   have hk3 := hcr (a.length + 1) (by omega)
   have hcut : (if 0 = a.length then zac a else []) = ([] : List (List PV)) := by
    split
    ·rename_i e
     have : a = [] := List.length_eq_zero_iff.mp e.symm
     subst this; rfl
    ·rfl
   have hal2 : ∀ b : List Int, zcn (zac b) = true := z8x
   have hin := z9u hP
   rw [← hp'] at hin
   have hcons : [iv x] :: zac a = zac (x :: a) := rfl
   have hk4 := hcr (1 + a.length) (by omega)
   have hk5 := hcr (a.length + 1) (by omega)
   simp [-getElem?_pos, zv0, u0, u3, u4, u5, hSo', hx', h, g1, g2, g3, g4, g5, g6, g7, g8, hr1, hk0, hk3, hcut, hal2, hcons, hk4, hk5]
   refine zaq (n - 1) (by omega) ⟨i + 1, s.nx + 2 + 2, s.ep, x :: a, by omega, by rw [hft, hin]; simp, by (try simp); try omega, by simp [u0], by (try simp); try omega, by simp [hws], by simp, by simp⟩
 ·simp at h
  have e1 : i = l.length := by omega
  rw [e1, List.take_length] at ha
  simp [-getElem?_pos, v3, hSo, zo1, ← ha]
structure Ta where
 ns : List ByteArray
 nm : ByteArray
 rw : List (List Int)
 lb : List Int
abbrev taS (q : Bool) (t : Ta) : PV := .agg [.sl 1 (zcx t.ns), .v (.string t.nm), .sl 1 (rws q t.rw), .sl 1 (zac t.lb)]
abbrev taO (t : Ta) : PV := .agg [.own 1 (zcx t.ns), .v (.string t.nm), .own 1 (rws true t.rw), .own 1 (zac t.lb)]
structure TaL (n : Nat) (t : Ta) : Prop where
 ns : t.ns.length ≤ n
 ss : ∀ x ∈ t.ns, x.size ≤ n
 nm : t.nm.size ≤ n
 rw : t.rw.length ≤ n
 rr : ∀ l ∈ t.rw, l.length ≤ n
 lb : t.lb.length ≤ n
structure Sl where
 n : Int
 g : Int
deriving DecidableEq
def slc (x : Sl) : List PV := [iv x.n, iv x.g]
def zbt (l : List Sl) : List (List PV) := l.map slc
@[simp] theorem y5u (l : List Sl) : (zbt l).length = l.length := by simp [zbt]
theorem zwn {l : List Sl} {i : Nat} {x : Sl} (h : l[i]? = some x) : (zbt l)[i]? = some [iv x.n, iv x.g] := by simp [zbt, h, slc]
theorem yn8 (l : List Sl) (i : Nat) (a b : Int) : (zbt l).set i [iv a, iv b] = zbt (l.set i ⟨a, b⟩) := by simp [zbt, List.map_set, slc]
def slI (x : Sl) : Prop := inI x.n ∧ inI x.g
def zcg (a b : Sl) : Sl × Bool := if ((adi a.n b.n).2 && (adi a.g b.g).2) = true then (⟨(adi a.n b.n).1, (adi a.g b.g).1⟩, true) else (⟨0, 0⟩, false)
theorem zq3 {a b : Sl} (h : slI a) : slI (zcg a b).1 := by
 unfold zcg
 split
 ·exact ⟨z7e h.1, z7e h.2⟩
 ·unfold slI inI; simp
theorem zx4 (a b : Sl) (ha : slI a) (hb : slI b) : RUN T zjb [.agg (slc a), .agg (slc b)] = some ([.agg (slc (zcg a b).1), bv (zcg a b).2], []) := by
 refine zal z27 rfl ?_
 have e1 := z4c a.n b.n ha.1 hb.1
 have e2 := z4c a.g b.g ha.2 hb.2
 unfold zcg
 generalize adi a.n b.n = x at *
 generalize adi a.g b.g = y at *
 obtain ⟨x, xb⟩ := x
 obtain ⟨y, yb⟩ := y
 simp only at e1 e2 ⊢
 cases xb <;> cases yb <;> simp [zux, zuy, e1, e2, slc]
def atI {α : Type} (l : List α) (i : Int) : Option α := if 0 ≤ i then l[i.toNat]? else none
theorem zjk {α : Type} {l : List α} {i : Int} {x : α} (h : atI l i = some x) : ∃ j : Nat, i = j ∧ l[j]? = some x ∧ j < l.length := by
 unfold atI at h
 split at h
 ·refine ⟨i.toNat, by omega, h, ?_⟩
  rcases Nat.lt_or_ge i.toNat l.length with h' | h'
  ·exact h'
  ·rw [List.getElem?_eq_none (by omega)] at h; cases h
 ·cases h
theorem zrz {α : Type} {l : List α} {i : Int} (h : atI l i = none) : i < 0 ∨ (l.length : Int) ≤ i := by
 unfold atI at h
 split at h
 ·right
  rcases Nat.lt_or_ge i.toNat l.length with h' | h'
  ·rw [List.getElem?_eq_getElem h'] at h; cases h
  ·omega
 ·omega
def zep (b g : List Int) : List Int → List Sl → Option (List Sl)
 | [], h => some h
 | r :: rs, h => match atI b r, atI g r with
  | some x, some y => match atI h x with
   | some s => if (zcg s ⟨1, y⟩).2 = true then zep b g rs (h.set x.toNat (zcg s ⟨1, y⟩).1) else none
   | none => none
  | _, _ => none
def zdu (b g rows : List Int) (k : Int) : List Sl × Bool := if zak k 1 8 = true then match zep b g rows (List.replicate k.toNat ⟨0, 0⟩) with
  | some h => (h, true)
  | none => ([], false)
 else ([], false)
theorem ymh (n : Nat) : zbt (List.replicate n ⟨0, 0⟩) = List.replicate n [iv 0, iv 0] := by simp [zbt, slc]
set_option maxHeartbeats 2000000 in
theorem yh5 (b g rows : List Int) (k : Int) (hb : b.length ≤ 1048576) (hg : g.length ≤ 1048576) (hr : rows.length ≤ 1048576) (hgi : ∀ x ∈ g, inI x) : RUN T zm8 [.sl 1 (zac b), .sl 1 (zac g), .sl 1 (zac rows), iv k] = some ([.own 2 (zbt (zdu b g rows k).1), bv (zdu b g rows k).2], []) := by
 refine zal z2h rfl ?_
 cases hk : zak k 1 8 with
 | false =>
  have e := zda k 1 8
  rw [hk] at e
  have e2 : zdu b g rows k = ([], false) := by unfold zdu; rw [hk]; rfl
  rw [e2]
  simp [-getElem?_pos, zp5, zp6, -zb8, e, zbt]
 | true =>
  have e := zda k 1 8
  rw [hk] at e
  have hk' := za6.mp hk
  obtain ⟨kn, rfl⟩ : ∃ n : Nat, k = n := ⟨k.toNat, by omega⟩
  have hro : zan 16 kn = true := by simp [zan]; omega
  obtain ⟨R, hR⟩ : ∃ R, R = zdu b g rows kn := ⟨_, rfl⟩
  have hR' : R = match zep b g rows (List.replicate kn ⟨0, 0⟩) with
   | some h => (h, true)
   | none => ([], false) := by rw [hR]; unfold zdu; rw [if_pos hk]; simp
  rw [← hR]
  clear hR
  simp [-getElem?_pos, zp5, zp6, -zb8, e, hro]
  refine za3 (fun n st => ∃ (i : Nat) (h : List Sl), i + n = rows.length ∧ h.length = kn ∧ (∀ s ∈ h, slI s) ∧ zep b g (rows.drop i) h = zep b g rows (List.replicate kn ⟨0, 0⟩) ∧ st.V 0 = .sl 1 (zac b) ∧ st.V 1 = .sl 1 (zac g) ∧ st.V 3 = iv kn ∧ st.V 10 = .ref 0 none 0 0 kn ∧ st.V 20 = .sl 1 (zac rows) ∧ st.V 21 = iv rows.length ∧ st.V 22 = iv i ∧ 0 < st.nx ∧ st.S 0 = some (.row 2 (zbt h))) ?_ rows.length _ ⟨0, List.replicate kn ⟨0, 0⟩, by omega, by simp, ?_, by simp, by simp, by simp, by simp, by simp, by simp, by simp, by simp, by simp, by simp [ymh]⟩
  ·rintro n st ⟨i, h, hi, hhl, hhi, hh, v0, v1, v3, v10, v20, v21, v22, hnx, hS⟩
   obtain ⟨z1, z2, z3, z4⟩ := fr hnx
   by_cases hlt : i < rows.length
   ·obtain ⟨r, hrr⟩ : ∃ r, rows[i]? = some r := ⟨_, List.getElem?_eq_getElem hlt⟩
    have hr' := zbj hrr
    have hws := wS hlt (by omega : rows.length ≤ 9223372036854775807)
    have w1 := w64 (x := min (b.length : Int) g.length - 1) (by omega) (by omega)
    have w2 := w64 (x := (kn : Int) - 1) (by omega) (by omega)
    have e1 := zda r 0 (min (b.length : Int) g.length - 1)
    rw [zf4 hrr, zep] at hh
    cases hbx : atI b r with
    | none =>
     rw [hbx] at hh
     have hn := zrz hbx
     have : zak r 0 (min (b.length : Int) g.length - 1) = false := by
      cases hw : zak r 0 (min (b.length : Int) g.length - 1) with
      | false => rfl
      | true => have := za6.mp hw; omega
     rw [this] at e1
     rw [← hh] at hR'
     subst hR'
     simp [-getElem?_pos, zld, -zb8, v0, v1, v3, v10, v20, v21, v22, hS, hlt, hr', w1, e1, zbt]
    | some x =>
     obtain ⟨rn, rfl, hbr, hbl⟩ := zjk hbx
     cases hgy : atI g rn with
     | none =>
      rw [hbx, hgy] at hh
      have hn := zrz hgy
      have : zak rn 0 (min (b.length : Int) g.length - 1) = false := by
       cases hw : zak rn 0 (min (b.length : Int) g.length - 1) with
       | false => rfl
       | true => have := za6.mp hw; omega
      rw [this] at e1
      rw [← hh] at hR'
      subst hR'
      simp [-getElem?_pos, zld, -zb8, v0, v1, v3, v10, v20, v21, v22, hS, hlt, hr', w1, e1, zbt]
     | some y =>
      obtain ⟨rn', hrn, hgr, hgl⟩ := zjk hgy
      have : rn' = rn := by omega
      subst this
      have : zak rn' 0 (min (b.length : Int) g.length - 1) = true := za6.mpr (by omega)
      rw [this] at e1
      rw [hbx, hgy] at hh
      simp only at hh
      have hb' := zbj hbr
      have hg' := zbj hgr
      have e2 := zda x 0 ((kn : Int) - 1)
      cases hhx : atI h x with
      | none =>
       rw [hhx] at hh
       have hn := zrz hhx
       have : zak x 0 ((kn : Int) - 1) = false := by
        cases hw : zak x 0 ((kn : Int) - 1) with
        | false => rfl
        | true => have := za6.mp hw; omega
       rw [this] at e2
       simp only at hh
       rw [← hh] at hR'
       subst hR'
       simp [-getElem?_pos, zld, -zb8, v0, v1, v3, v10, v20, v21, v22, hS, hlt, hr', hb', hbl, w1, w2, e1, e2, zbt]
      | some s =>
       obtain ⟨xn, rfl, hhs, hhl2⟩ := zjk hhx
       have : zak xn 0 ((kn : Int) - 1) = true := za6.mpr (by omega)
       rw [this] at e2
       rw [hhx] at hh
       have hs' := zwn hhs
       have hsi := hhi s (List.mem_of_getElem? hhs)
       have hyi := hgi y (List.mem_of_getElem? hgr)
       have hpi := zq3 (b := ⟨1, y⟩) hsi
       have e3 := zx4 s ⟨1, y⟩ hsi ⟨by unfold inI; simp, hyi⟩
       simp only [Int.toNat_natCast] at hh
       have hxk : xn < kn := by omega
       generalize zcg s ⟨1, y⟩ = p at *
       obtain ⟨⟨pn, pg⟩, pb⟩ := p
       simp only [slc] at e3 hh
       cases pb with
       | false =>
        rw [if_neg (by simp)] at hh
        rw [← hh] at hR'
        subst hR'
        simp [-getElem?_pos, zld, -zb8, v0, v1, v3, v10, v20, v21, v22, hS, hlt, hr', hb', hbl, hg', hgl, hs', hxk, hhl, w1, w2, e1, e2, e3, z1, z2, z3, z4]
        simp [zbt]
       | true =>
        rw [if_pos rfl] at hh
        have hset := yn8 h xn pn pg
        simp [-getElem?_pos, zld, -zb8, v0, v1, v3, v10, v20, v21, v22, hS, hlt, hr', hb', hbl, hg', hgl, hs', hxk, hhl, w1, w2, e1, e2, e3, hws, hset, z1, z2, z3, z4]
        refine zaq (n - 1) (by omega) ⟨i + 1, h.set xn ⟨pn, pg⟩, by omega, by simp [hhl], fun q hq => ?_, hh, by simp [v0], by simp [v1], by simp [v3], by simp [v10], by simp [v20], by simp [v21], by simp, by simp, by simp⟩
        rcases List.mem_or_eq_of_mem_set hq with h' | h'
        ·exact hhi q h'
        ·subst h'; exact hpi
   ·rw [List.drop_eq_nil_of_le (by omega), zep] at hh
    rw [← hh] at hR'
    subst hR'
    simp [-getElem?_pos, zld, v10, v21, v22, hS, hlt, hhl]
  ·intro s hs
   have := List.eq_of_mem_replicate hs
   subst this
   exact ⟨by unfold inI; simp, by unfold inI; simp⟩
def zqw (q : Bool) (l : List Sl) : PV := if q then .own 2 (zbt l) else .sl 2 (zbt l)
@[simp] theorem yvr (q : Bool) (l : List Sl) : fz (zqw q l) = .sl 2 (zbt l) := by cases q <;> simp [zqw]
def rss (q : Bool) (H : List (List Sl)) : List (List PV) := H.map fun l => [zqw q l]
@[simp] theorem y09 (q : Bool) (H : List (List Sl)) : (rss q H).length = H.length := by simp [rss]
theorem ypg {q : Bool} {H : List (List Sl)} {i : Nat} {l : List Sl} (h : H[i]? = some l) : (rss q H)[i]? = some [zqw q l] := by simp [rss, h]
theorem yqa (H : List (List Sl)) (l : List Sl) : rss true H ++ [[.own 2 (zbt l)]] = rss true (H ++ [l]) := by simp [rss, zqw]
def zcc (g rows : List Int) : List (List Int) → List (List Int) → Option (List (List Sl))
 | x :: c, y :: v => if (zdu y g rows (x.length + 1)).2 = true then (zcc g rows c v).map ((zdu y g rows (x.length + 1)).1 :: ·) else none
 | _, _ => some []
def zck (c v : List (List Int)) (g rows : List Int) : List (List Sl) × Bool := if zdf c v = true then match zcc g rows c v with
  | some h => (h, true)
  | none => ([], false)
 else ([], false)
theorem ynn {g rows : List Int} {c v : List (List Int)} {i : Nat} {x y : List Int} (hx : c[i]? = some x) (hy : v[i]? = some y) : zcc g rows (c.drop i) (v.drop i) = if (zdu y g rows (x.length + 1)).2 = true then (zcc g rows (c.drop (i + 1)) (v.drop (i + 1))).map ((zdu y g rows (x.length + 1)).1 :: ·) else none := by
 rw [zf4 hx, zf4 hy, zcc]
theorem yks {g rows : List Int} {v : List (List Int)} : zcc g rows [] v = some [] := by simp [zcc]
theorem zz0 {b g : List Int} : ∀ (rows : List Int) (h h' : List Sl), zep b g rows h = some h' → h'.length = h.length
 | [], h, h', e => by simp [zep] at e; subst e; rfl
 | r :: rs, h, h', e => by
  simp only [zep] at e
  split at e
  ·split at e
   ·split at e
    ·have := zz0 rs _ _ e
     simpa using this
    ·cases e
   ·cases e
  ·cases e
theorem yl9 (b g rows : List Int) (k : Int) : (zdu b g rows k).1.length ≤ 8 := by
 unfold zdu
 split
 ·rename_i hk
  have := za6.mp hk
  cases h : zep b g rows (List.replicate k.toNat ⟨0, 0⟩) with
  | none => simp
  | some h' => have := zz0 _ _ _ h; simp at this; simp; omega
 ·simp
theorem z47 {g rows : List Int} : ∀ (c v : List (List Int)) (H : List (List Sl)), zcc g rows c v = some H → H.length ≤ c.length ∧ ∀ l ∈ H, l.length ≤ 8
 | [], v, H, h => by simp [zcc] at h; subst h; simp
 | x :: c, [], H, h => by simp [zcc] at h; subst h; simp
 | x :: c, y :: v, H, h => by
  simp only [zcc] at h
  split at h
  ·simp only [Option.map_eq_some_iff] at h
   obtain ⟨H', h1, rfl⟩ := h
   obtain ⟨h2, h3⟩ := z47 c v H' h1
   refine ⟨by simp; omega, fun l hl => ?_⟩
   rcases List.mem_cons.mp hl with e | e
   ·subst e; exact yl9 _ _ _ _
   ·exact h3 l e
  ·cases h
theorem zru (c v : List (List Int)) (g rows : List Int) : (zck c v g rows).1.length ≤ c.length ∧ ∀ l ∈ (zck c v g rows).1, l.length ≤ 8 := by
 unfold zck
 split
 ·cases h : zcc g rows c v with
  | none => simp
  | some H => exact z47 c v H h
 ·simp
theorem yak {c v : List (List Int)} (h : zdf c v = true) : v.length = c.length ∧ c.length ≤ 4 := by
 unfold zdf at h
 simp only [Bool.and_eq_true, decide_eq_true_eq] at h
 have := za6.mp h.1.1.1
 omega
set_option maxHeartbeats 2000000 in
theorem yh6 (q : Bool) (c v : List (List Int)) (g rows : List Int) (hc : ∀ l ∈ c, l.length ≤ 1048576) (hv : ∀ l ∈ v, l.length ≤ 1048576) (hg : g.length ≤ 1048576) (hr : rows.length ≤ 1048576) (hgi : ∀ x ∈ g, inI x) : RUN T zmo [.agg [.sl 1 (rws q c), .sl 1 (rws q v)], .sl 1 (zac g), .sl 1 (zac rows)] = some ([.own 1 (rss true (zck c v g rows).1), bv (zck c v g rows).2], []) := by
 refine zal z1j rfl ?_
 have e := z4b q c v (fun l hl => Nat.le_trans (hc l hl) (by omega)) (fun l hl => Nat.le_trans (hv l hl) (by omega))
 cases hk : zdf c v with
 | false =>
  rw [hk] at e
  have e2 : zck c v g rows = ([], false) := by unfold zck; rw [hk]; rfl
  rw [e2]
  simp [-getElem?_pos, zpo, zpp, e, rss]
 | true =>
  rw [hk] at e
  obtain ⟨hvc, hc4⟩ := yak hk
  obtain ⟨R, hR⟩ : ∃ R, R = zck c v g rows := ⟨_, rfl⟩
  have hR' : R = match zcc g rows c v with
   | some h => (h, true)
   | none => ([], false) := by rw [hR]; unfold zck; rw [if_pos hk]
  rw [← hR]
  clear hR
  have hr0 : zan 24 0 = true := by decide
  have hr1 : zan 24 1 = true := by decide
  simp [-getElem?_pos, zpo, zpp, e, hr0]
  refine za3 (fun n st => ∃ (i o e : Nat) (H : List (List Sl)), i + n = c.length ∧ H.length = i ∧ zcc g rows c v = (zcc g rows (c.drop i) (v.drop i)).map (H ++ ·) ∧ st.V 1 = .sl 1 (zac g) ∧ st.V 2 = .sl 1 (zac rows) ∧ st.V 3 = .ptr 0 none 0 0 0 ∧ st.V 8 = .ref o none e 0 H.length ∧ st.V 18 = .sl 1 (rws q c) ∧ st.V 19 = iv c.length ∧ st.V 20 = iv i ∧ 0 < o ∧ o < st.nx ∧ st.S 0 = some (.box [.sl 1 (rws q c), .sl 1 (rws q v)]) ∧ st.S o = some (.row 1 (rss true H))) ?_ c.length _ ⟨0, 1, 0, [], by simp [rss]⟩
  rintro n st ⟨i, o, ep, H, hi, hH, hL, v1, v2, v3, v8, v18, v19, v20, ho, hox, hS, hSo⟩
  obtain ⟨x1, x2, x3, x4⟩ := fr hox
  obtain ⟨g1, g2, g3, g4⟩ := fr ho
  obtain ⟨z1, z2, z3, z4⟩ := fr (show 0 < st.nx by omega)
  by_cases hlt : i < c.length
  ·obtain ⟨x, hx⟩ : ∃ x, c[i]? = some x := ⟨_, List.getElem?_eq_getElem hlt⟩
   obtain ⟨y, hy⟩ : ∃ y, v[i]? = some y := ⟨_, List.getElem?_eq_getElem (by omega)⟩
   have hx' := ze3 (q := q) hx
   have hy' := ze3 (q := q) hy
   have hiv : i < v.length := by omega
   have hxl := hc x (List.mem_of_getElem? hx)
   have hws := wS hlt (by omega : c.length ≤ 9223372036854775807)
   have hwl := w64 (x := (x.length : Int) + 1) (by omega) (by omega)
   have hh := yh5 y g rows (x.length + 1) (hv y (List.mem_of_getElem? hy)) hg hr hgi
   have hr24 : zan 24 (H.length + 1) = true := by simp [zan]; omega
   rw [ynn hx hy] at hL
   generalize zdu y g rows (x.length + 1) = p at *
   obtain ⟨ph, pb⟩ := p
   simp only at hh hL
   cases pb with
   | false =>
    rw [if_neg (by simp)] at hL
    rw [hL] at hR'
    subst hR'
    simp [-getElem?_pos, zsj, v1, v2, v3, v8, v18, v19, v20, hS, hSo, hlt, hiv, hx', hy', hwl, hh, rss, x1, x2, x3, x4, g1, g2, g3, g4, z1, z2, z3, z4]
   | true =>
    rw [if_pos rfl] at hL
    have hsn := yqa H ph
    simp [-getElem?_pos, zsj, v1, v2, v3, v8, v18, v19, v20, hS, hSo, hlt, hiv, hx', hy', hwl, hws, hh, hr1, hr24, hsn, x1, x2, x3, x4, g1, g2, g3, g4, z1, z2, z3, z4]
    exact zaq (n - 1) (by omega) ⟨i + 1, st.nx + 2, st.ep, H ++ [ph], by omega, by simp [hH], by rw [hL]; cases zcc g rows (c.drop (i + 1)) (v.drop (i + 1)) <;> simp, by simp [v1], by simp [v2], by simp [v3], by simp, by simp [v18], by simp [v19], by simp, by omega, by simp, by simp [x1, x2, x3, x4, g1, g2, g3, g4, z1, z2, z3, z4, hS], by simp⟩
  ·have h0 : c.drop i = [] := List.drop_eq_nil_of_le (by omega)
   rw [h0, yks] at hL
   rw [hL] at hR'
   simp only [Option.map_some, List.append_nil] at hR'
   subst hR'
   simp [-getElem?_pos, zsj, v8, v19, v20, hSo, hlt]
def z7a (k : Int) (n : Nat) : List Sl := (List.range n).map fun (i : Nat) => ⟨k + 2 * (i : Int), k + 2 * (i : Int) + 1⟩
@[simp] theorem y7o (k : Int) (n : Nat) : (z7a k n).length = n := by simp [z7a]
theorem z4n (x : Int) : RUN T zkw [iv x] = some ([bv false], []) := by
 refine zal z31 rfl ?_
 simp [zv5, zv6]
theorem z4o (x y : Int) : RUN T zkp [iv x, iv y] = some ([iv (zcs x y)], []) := by
 refine zal z3n rfl ?_
 have e1 := z4n x
 have e2 := z4n y
 unfold zcs
 by_cases h1 : x < y
 ·simp [zoe, zof, e1, e2, h1]
 ·by_cases h2 : y < x
  ·simp [zoe, zof, e1, e2, h1, h2]
  ·simp [zoe, zof, e1, e2, h1, h2]
theorem yh7 (a b : Wd) (ha : wfU a) (hb : wfU b) : RUN T znp [.agg (wd a), .agg (wd b)] = some ([iv (zpf a b)], []) := by
 refine zal z3d rfl ?_
 have n1 : (a.n && (decide (0 < a.h) || decide (0 < a.l))) = zd8 a := by
  obtain ⟨h0, _, h1, _⟩ := ha
  unfold zd8
  congr 1
  rw [Bool.eq_iff_iff]; simp; omega
 have n2 : (b.n && (decide (0 < b.h) || decide (0 < b.l))) = zd8 b := by
  obtain ⟨h0, _, h1, _⟩ := hb
  unfold zd8
  congr 1
  rw [Bool.eq_iff_iff]; simp; omega
 have e1 := zqq a.n a.h a.l
 have e2 := zqq b.n b.h b.l
 rw [n1] at e1
 rw [n2] at e2
 have e3 := zx3 ⟨zd8 a, a.h, a.l⟩ ⟨zd8 b, b.h, b.l⟩
 have e4 := zx3 ⟨zd8 b, b.h, b.l⟩ ⟨zd8 a, a.h, a.l⟩
 have o1 : zfd ⟨zd8 a, a.h, a.l⟩ ⟨zd8 b, b.h, b.l⟩ = zfd a b := rfl
 have o2 : zfd ⟨zd8 b, b.h, b.l⟩ ⟨zd8 a, a.h, a.l⟩ = zfd b a := rfl
 rw [o1] at e3
 rw [o2] at e4
 clear o1 o2 n1 n2 ha hb
 unfold zpf
 generalize zfd a b = x at *
 generalize zfd b a = y at *
 generalize zd8 a = p at *
 generalize zd8 b = q at *
 obtain ⟨an, ah, al⟩ := a
 obtain ⟨bn, bh, bl⟩ := b
 simp only [wd] at e1 e2 e3 e4 ⊢
 cases p <;> cases q <;> simp [zu5, zu6, e1, e2, e3, e4]
structure Fr where
 w : Wd
 d : Int
def frc (f : Fr) : List PV := [bv f.w.n, uv f.w.h, uv f.w.l, iv f.d]
def frB (f : Fr) : Bool := wok f.w && zak f.d 1 1000000
def zfr : Fr := ⟨zb4, 0⟩
def zgk (w : Wd) (d : Int) : Fr × Bool := if frB ⟨w, d⟩ = true then (⟨w, d⟩, true) else (zfr, false)
theorem zx5 (f : Fr) : RUN T zjd [.agg (frc f)] = some ([bv (frB f)], []) := by
 refine zal z3r rfl ?_
 have e1 := zom f.w
 have e2 := zda f.d 1 1000000
 unfold frB
 generalize wok f.w = x at *
 generalize zak f.d 1 1000000 = y at *
 simp only [wd] at e1
 cases x <;> simp [zvq, zvr, -zb8, frc, e1, e2]
theorem z4p (w : Wd) (d : Int) : RUN T zkq [.agg (wd w), iv d] = some ([.agg (frc (zgk w d).1), bv (zgk w d).2], []) := by
 refine zal z3p rfl ?_
 have e1 := zx5 ⟨w, d⟩
 unfold zgk
 generalize frB ⟨w, d⟩ = x at *
 simp only [frc] at e1
 cases x <;> simp [zvm, zvn, wd, frc, zfr, zb4, e1]
theorem yh8 (a d : Int) (ha : inI a) : RUN T zno [iv a, iv d] = some ([.agg (frc (zgk (zgx a a) d).1), bv (zgk (zgx a a) d).2], []) := by
 refine zal z3b rfl ?_
 have e1 := yh3 a a ha ha
 have e2 := z4p (zgx a a) d
 generalize zgx a a = m at *
 generalize zgk m d = f at *
 obtain ⟨⟨fw, fd⟩, fb⟩ := f
 simp only [wd, frc] at e1 e2 ⊢
 simp [zu1, zu2, e1, e2]
def frI (f : Fr) : Prop := wfU f.w ∧ inI f.d
theorem zra : wfU zb4 := ⟨by decide, by decide, by decide, by decide⟩
theorem z6s (w : Wd) (k : Int) (h : wfU w) : wfU (zd5 w k).1 := by
 unfold zd5
 split
 ·rename_i hc
  refine zy7 ?_ (by omega)
  obtain ⟨h0, h1, h2, h3⟩ := h
  exact Int.mul_nonneg (by unfold mag; omega) (by omega)
 ·exact zra
def zb1 (a b : Fr) : Wd × Wd × Bool := if (frB a && frB b) = true then ((zd5 a.w b.d).1, (zd5 b.w a.d).1, (zd5 a.w b.d).2 && (zd5 b.w a.d).2) else (zb4, zb4, false)
theorem z85 (a b : Fr) (ha : wfU a.w) (hb : wfU b.w) : wfU (zb1 a b).1 ∧ wfU (zb1 a b).2.1 := by
 unfold zb1
 split
 ·exact ⟨z6s _ _ ha, z6s _ _ hb⟩
 ·exact ⟨zra, zra⟩
theorem ynh {a b : Fr} (h : (zb1 a b).2.2 = true) : (1 ≤ a.d ∧ a.d ≤ 1000000) ∧ 1 ≤ b.d ∧ b.d ≤ 1000000 := by
 unfold zb1 at h
 split at h
 ·rename_i hc
  simp only [frB, Bool.and_eq_true] at hc
  exact ⟨za6.mp hc.1.2, za6.mp hc.2.2⟩
 ·cases h
theorem z4q (a b : Fr) (ha : frI a) (hb : frI b) : RUN T zkl [.agg (frc a), .agg (frc b)] = some ([.agg (wd (zb1 a b).1), .agg (wd (zb1 a b).2.1), bv (zb1 a b).2.2], []) := by
 refine zal z3c rfl ?_
 have e1 := zx5 a
 have e2 := zx5 b
 have e3 := z4l a.w b.d ha.1 hb.2
 have e4 := z4l b.w a.d hb.1 ha.2
 unfold zb1
 generalize zd5 a.w b.d = x at *
 generalize zd5 b.w a.d = y at *
 generalize frB a = p at *
 generalize frB b = q at *
 obtain ⟨⟨an, ah, al⟩, ad⟩ := a
 obtain ⟨⟨bn, bh, bl⟩, bd⟩ := b
 obtain ⟨x, xb⟩ := x
 obtain ⟨y, yb⟩ := y
 simp only [frc, wd] at e1 e2 e3 e4 ⊢
 cases p <;> cases q <;> cases xb <;> simp [zu3, zu4, e1, e2, e3, e4, zb4]
def zgg (a b : Fr) : Int × Bool := if (zb1 a b).2.2 = true then (zpf (zb1 a b).1 (zb1 a b).2.1, true) else (0, false)
theorem z4r (a b : Fr) (ha : frI a) (hb : frI b) : RUN T zkd [.agg (frc a), .agg (frc b)] = some ([iv (zgg a b).1, bv (zgg a b).2], []) := by
 refine zal z2q rfl ?_
 have e1 := z4q a b ha hb
 obtain ⟨w1, w2⟩ := z85 a b ha.1 hb.1
 have e2 := yh7 (zb1 a b).1 (zb1 a b).2.1 w1 w2
 unfold zgg
 generalize zb1 a b = r at *
 obtain ⟨x, y, o⟩ := r
 simp only at e2 ⊢
 generalize zpf x y = z at *
 simp only [frc, wd] at e1 e2 ⊢
 cases o <;> simp [zt5, zt6, e1, e2]
def zlv (a b : Fr) : Fr × Bool := if (zb1 a b).2.2 = true then (if (zeb (zb1 a b).1 (zb1 a b).2.1).2 = true then zgk (zeb (zb1 a b).1 (zb1 a b).2.1).1 (a.d * b.d) else (zfr, false)) else (zfr, false)
theorem ym7 {a b : Int} (h : (1 ≤ a ∧ a ≤ 1000000) ∧ 1 ≤ b ∧ b ≤ 1000000) : IntKind.i64.wrap (a * b) = a * b := by
 have h1 : a * b ≤ 1000000 * 1000000 := Int.mul_le_mul h.1.2 h.2.2 (by omega) (by decide)
 have h2 : 0 ≤ a * b := Int.mul_nonneg (by omega) (by omega)
 exact w64 (by omega) (by omega)
theorem yh9 (a b : Fr) (ha : frI a) (hb : frI b) : RUN T znn [.agg (frc a), .agg (frc b)] = some ([.agg (frc (zlv a b).1), bv (zlv a b).2], []) := by
 refine zal z3a rfl ?_
 have e1 := z4q a b ha hb
 obtain ⟨w1, w2⟩ := z85 a b ha.1 hb.1
 have e2 := yh4 (zb1 a b).1 (zb1 a b).2.1 w1 w2
 have hok := @ynh a b
 have e3 := z4p (zeb (zb1 a b).1 (zb1 a b).2.1).1 (a.d * b.d)
 unfold zlv
 generalize zb1 a b = r at *
 obtain ⟨x, y, o⟩ := r
 simp only at e2 e3 hok ⊢
 generalize zeb x y = s at *
 obtain ⟨s, so⟩ := s
 simp only at e2 e3 ⊢
 cases o with
 | false =>
  simp only [frc, wd] at e1 ⊢
  simp [zqh, zqi, e1, zfr, zb4]
 | true =>
  have hm := ym7 (hok rfl)
  generalize zgk s (a.d * b.d) = f at *
  obtain ⟨f, fo⟩ := f
  simp only [frc, wd] at e1 e2 e3 ⊢
  cases so <;> simp [zqh, zqi, e1, e2, e3, hm, zfr, zb4]
structure Cnd where
 f : Int
 b : Int
 a : Sl
 z : Sl
deriving DecidableEq
def cnd (c : Cnd) : List PV := [iv c.f, iv c.b, iv c.a.n, iv c.a.g, iv c.z.n, iv c.z.g]
def zg5 (c : Cnd) : Prop := inI c.f ∧ inI c.b ∧ slI c.a ∧ slI c.z
structure Bd where
 lo : Int
 hi : Int
def bnd (b : Bd) : List PV := [iv b.lo, iv b.hi]
def zg8 (b : Bd) : Bool := decide (b.lo ≤ b.hi) && zf9 b.lo && zf9 b.hi
def zfo (x lo hi : Int) : Int := if x < lo then lo else if hi < x then hi else x
def zit (n l : Int) : Bool := zak n 0 40 && zak l 1 100
def zdv (s : Sl) (l : Int) (b : Bd) : Int × Bool := if (zit s.n l && zg8 b) = true then (zfo (fdv s.g (s.n + l)).1 b.lo b.hi, true) else (0, false)
def zdw (s : Sl) (l : Int) : Fr × Bool := if zit s.n l = true then zgk (zgx s.g s.g) (s.n + l) else (zfr, false)
def zc2 (c : Cnd) (l : Int) : Fr × Bool := if ((zdw c.a l).2 && (zdw c.z l).2) = true then zlv (zdw c.a l).1 (zdw c.z l).1 else (zfr, false)
theorem z4s (n l : Int) : RUN T zkg [iv n, iv l] = some ([bv (zit n l)], []) := by
 refine zal z2x rfl ?_
 have e1 := zda n 0 40
 have e2 := zda l 1 100
 unfold zit
 generalize zak n 0 40 = x at *
 cases x <;> simp [zuj, zuk, -zb8, e1, e2]
theorem z4t (b : Bd) : RUN T zkh [.agg (bnd b)] = some ([bv (zg8 b)], []) := by
 refine zal z2y rfl ?_
 have e1 := z4a b.lo
 have e2 := z4a b.hi
 unfold zg8
 generalize zf9 b.lo = x at *
 generalize zf9 b.hi = y at *
 by_cases h : b.lo ≤ b.hi <;> cases x <;> simp [zul, zum, bnd, e1, e2, h]
theorem yia (b : Bd) : RUN T zm0 [.agg (bnd b)] = some ([bv (zg8 b)], []) := by
 refine zal z15 rfl ?_
 have e1 := z39 b.lo
 have e2 := z39 b.hi
 unfold zg8
 generalize zf9 b.lo = x at *
 generalize zf9 b.hi = y at *
 by_cases h : b.lo ≤ b.hi <;> cases x <;> simp [ztc, ztd, bnd, e1, e2, h]
theorem z4u (x lo hi : Int) : RUN T zki [iv x, iv lo, iv hi] = some ([iv (zfo x lo hi)], []) := by
 refine zal z20 rfl ?_
 unfold zfo
 by_cases h1 : x < lo
 ·simp [zqb, zqc, h1]
 ·by_cases h2 : hi < x <;> simp [zqb, zqc, h1, h2]
theorem yib (x lo hi : Int) : RUN T zm2 [iv x, iv lo, iv hi] = some ([iv (zfo x lo hi)], []) := by
 refine zal z17 rfl ?_
 unfold zfo
 by_cases h1 : x < lo
 ·simp [zp3, zp4, h1]
 ·by_cases h2 : hi < x <;> simp [zp3, zp4, h1, h2]
theorem zyp {n l : Int} (h : zit n l = true) : IntKind.i64.wrap (n + l) = n + l := by
 unfold zit at h
 simp only [Bool.and_eq_true] at h
 have h1 := za6.mp h.1
 have h2 := za6.mp h.2
 exact w64 (by omega) (by omega)
theorem zx6 (s : Sl) (l : Int) (b : Bd) (hs : slI s) : RUN T zi7 [.agg (slc s), iv l, .agg (bnd b)] = some ([iv (zdv s l b).1, bv (zdv s l b).2], []) := by
 refine zal z11 rfl ?_
 have e1 := z4s s.n l
 have e2 := z4t b
 have e3 := yhq s.g (s.n + l) hs.2
 have e4 := z4u (fdv s.g (s.n + l)).1 b.lo b.hi
 have hw := @zyp s.n l
 unfold zdv
 generalize zit s.n l = x at *
 generalize zg8 b = y at *
 generalize fdv s.g (s.n + l) = q at *
 obtain ⟨q, qo⟩ := q
 simp only [bnd] at e2
 cases x with
 | false => simp [zp0, zp1, slc, bnd, e1]
 | true =>
  have hw := hw rfl
  cases y <;> simp [zp0, zp1, slc, bnd, e1, e2, e3, e4, hw]
theorem yic (s : Sl) (l : Int) (b : Bd) (hs : slI s) : RUN T zmj [.agg (slc s), iv l, .agg (bnd b)] = some ([iv (zdv s l b).1, bv (zdv s l b).2], []) := by
 refine zal z1c rfl ?_
 have e1 := zbq s.n 0 40
 have e1' := zbq l 1 100
 have e2 := yia b
 have e3 := yhp s.g (s.n + l) hs.2
 have e4 := yib (fdv s.g (s.n + l)).1 b.lo b.hi
 have hw := @zyp s.n l
 unfold zdv
 unfold zit at *
 generalize zak s.n 0 40 = x at *
 generalize zak l 1 100 = x' at *
 generalize zg8 b = y at *
 generalize fdv s.g (s.n + l) = q at *
 obtain ⟨q, qo⟩ := q
 simp only [bnd] at e2
 cases x with
 | false => simp [zn3, zn4, -zbd, slc, bnd, e1]
 | true =>
  cases x' with
  | false => simp [zn3, zn4, -zbd, slc, bnd, e1, e1']
  | true =>
   have hw := hw rfl
   cases y <;> simp [zn3, zn4, -zbd, slc, bnd, e1, e1', e2, e3, e4, hw]
theorem yid (c : Cnd) (h : zg5 c) : RUN T znc [.agg (cnd c)] = some ([.agg (slc (zcg c.a c.z).1), bv (zcg c.a c.z).2], []) := by
 refine zal z2o rfl ?_
 have e1 := zx4 c.a c.z h.2.2.1 h.2.2.2
 generalize zcg c.a c.z = p at *
 obtain ⟨⟨pn, pg⟩, pb⟩ := p
 simp only [slc] at e1 ⊢
 simp [zt3, zt4, cnd, e1]
theorem zx7 (s : Sl) (l : Int) (hs : slI s) : RUN T zi9 [.agg (slc s), iv l] = some ([.agg (frc (zdw s l).1), bv (zdw s l).2], []) := by
 refine zal z2p rfl ?_
 have e1 := z4s s.n l
 have e2 := yh8 s.g (s.n + l) hs.2
 have hw := @zyp s.n l
 unfold zdw
 generalize zit s.n l = x at *
 generalize zgk (zgx s.g s.g) (s.n + l) = f at *
 obtain ⟨⟨fw, fd⟩, fb⟩ := f
 simp only [frc] at e2 ⊢
 cases x with
 | false => simp [zp7, zp8, slc, e1, zfr, zb4]
 | true =>
  have hw := hw rfl
  simp [zp7, zp8, slc, e1, e2, hw]
theorem z9m (w : Wd) (d : Int) (hw : wfU w) : frI (zgk w d).1 := by
 unfold zgk
 split
 ·rename_i h
  simp only [frB, Bool.and_eq_true] at h
  have := za6.mp h.2
  exact ⟨hw, by unfold inI; simp only; omega⟩
 ·exact ⟨zra, by unfold inI zfr; simp⟩
theorem zw2 : frI zfr := ⟨zra, by unfold inI zfr; simp⟩
theorem zzu (s : Sl) (l : Int) (hs : slI s) : frI (zdw s l).1 := by
 unfold zdw
 split
 ·exact z9m _ _ (yqg hs.2 hs.2)
 ·exact zw2
theorem ynb (a b : Fr) : frI (zlv a b).1 := by
 unfold zlv
 split
 ·split
  ·exact z9m _ _ (ypa _ _)
  ·exact zw2
 ·exact zw2
theorem z0d (c : Cnd) (l : Int) : frI (zc2 c l).1 := by
 unfold zc2
 split
 ·exact ynb _ _
 ·exact zw2
theorem zx8 (c : Cnd) (l : Int) (h : zg5 c) : RUN T zi8 [.agg (cnd c), iv l] = some ([.agg (frc (zc2 c l).1), bv (zc2 c l).2], []) := by
 refine zal z2n rfl ?_
 have e1 := zx7 c.a l h.2.2.1
 have e2 := zx7 c.z l h.2.2.2
 have e3 := yh9 (zdw c.a l).1 (zdw c.z l).1 (zzu _ _ h.2.2.1) (zzu _ _ h.2.2.2)
 unfold zc2
 generalize zdw c.a l = p at *
 generalize zdw c.z l = q at *
 obtain ⟨p, pb⟩ := p
 obtain ⟨q, qb⟩ := q
 simp only at e1 e2 e3 ⊢
 generalize zlv p q = r at *
 obtain ⟨r, rb⟩ := r
 simp only [frc, slc] at e1 e2 e3 ⊢
 cases pb <;> cases qb <;> simp [zt1, zt2, cnd, e1, e2, e3, zfr, zb4]
abbrev cfS (c : Cfg) : PV := .agg [iv c.ro, iv c.de, iv c.bi, iv c.la, iv c.rw, iv c.nu, iv c.dn, .sl 1 (zac c.sg)]
def zch (c : Cfg) (b : Bd) (x : Cnd) : Int × Int × Bool := if ((zdv x.a c.la b).2 && (zdv x.z c.la b).2) = true then ((zdv x.a c.la b).1, (zdv x.z c.la b).1, true) else (0, 0, false)
def zfa (c : Cfg) (f : Int) : Int := (atI c.sg f).getD 0
def zwt (s l r : Int) : Bool := if s = 1 then decide (l ≤ r) else if s = -1 then decide (r ≤ l) else true
def zw8 (x : Cnd) (l : Int) : Bool := (zc2 x l).2 && ((zcg x.a x.z).2 && ((zdw (zcg x.a x.z).1 l).2 && ((zgg (zc2 x l).1 (zdw (zcg x.a x.z).1 l).1).2 && decide (0 < (zgg (zc2 x l).1 (zdw (zcg x.a x.z).1 l).1).1))))
def zlk (a b : Cnd) : Bool := decide (a.f < b.f) || (decide (a.f = b.f) && decide (a.b < b.b))
def zeq (a b : Cnd) (l : Int) : Bool := (zc2 a l).2 && ((zc2 b l).2 && ((zgg (zc2 a l).1 (zc2 b l).1).2 && (decide (0 < (zgg (zc2 a l).1 (zc2 b l).1).1) || (decide ((zgg (zc2 a l).1 (zc2 b l).1).1 = 0) && zlk a b))))
theorem z4v (c : Cfg) (b : Bd) (x : Cnd) (h : zg5 x) : RUN T zj4 [cfS c, .agg (bnd b), .agg (cnd x)] = some ([iv (zch c b x).1, iv (zch c b x).2.1, bv (zch c b x).2.2], []) := by
 have e1 := zx6 x.a c.la b h.2.2.1
 have e2 := zx6 x.z c.la b h.2.2.2
 unfold zch
 generalize zdv x.a c.la b = p at *
 generalize zdv x.z c.la b = q at *
 obtain ⟨p, pb⟩ := p
 obtain ⟨q, qb⟩ := q
 simp only [slc, bnd] at e1 e2 ⊢
 refine zal z1n rfl ?_
 cases pb <;> cases qb <;> simp [zss, zst, cnd, e1, e2]
theorem z4w (c : Cfg) (f : Int) (hl : c.sg.length ≤ 9223372036854775807) : RUN T zj6 [cfS c, iv f] = some ([iv (zfa c f)], []) := by
 refine zal z1q rfl ?_
 have hw := w64 (x := (c.sg.length : Int) - 1) (by omega) (by omega)
 have e1 := zda f 0 ((c.sg.length : Int) - 1)
 unfold zfa
 cases hs : atI c.sg f with
 | none =>
  have hn := zrz hs
  have : zak f 0 ((c.sg.length : Int) - 1) = false := by
   cases hw : zak f 0 ((c.sg.length : Int) - 1) with
   | false => rfl
   | true => have := za6.mp hw; omega
  rw [this] at e1
  simp [zps, zpt, -zb8, e1, hw]
 | some x =>
  obtain ⟨j, rfl, hj, hjl⟩ := zjk hs
  rw [show zak j 0 ((c.sg.length : Int) - 1) = true from za6.mpr (by omega)] at e1
  have hj' := zbj hj
  simp [-getElem?_pos, zps, zpt, -zb8, e1, hw, hj', hjl]
theorem yie (s l r : Int) : RUN T zmr [iv s, iv l, iv r] = some ([bv (zwt s l r)], []) := by
 refine zal z1p rfl ?_
 unfold zwt
 by_cases h1 : s = 1
 ·simp [zpq, zpr, h1]
 ·by_cases h2 : s = -1 <;> simp [zpq, zpr, h1, h2]
theorem yif (x : Cnd) (l : Int) (h : zg5 x) : RUN T zms [.agg (cnd x), iv l] = some ([bv (zw8 x l)], []) := by
 refine zal z1r rfl ?_
 have hp := zq3 (b := x.z) h.2.2.1
 have e1 := zx8 x l h
 have e2 := yid x h
 have e3 := zx7 (zcg x.a x.z).1 l hp
 have e4 := z4r (zc2 x l).1 (zdw (zcg x.a x.z).1 l).1 (z0d _ _) (zzu _ _ hp)
 unfold zw8
 generalize zc2 x l = g at *
 generalize zcg x.a x.z = p at *
 obtain ⟨p, pb⟩ := p
 simp only at e2 e3 e4 ⊢
 generalize zdw p l = q at *
 obtain ⟨g, gb⟩ := g
 obtain ⟨q, qb⟩ := q
 simp only at e1 e3 e4 ⊢
 generalize zgg g q = m at *
 obtain ⟨m, mb⟩ := m
 simp only [frc, slc, cnd] at e1 e2 e3 e4 ⊢
 cases gb <;> cases pb <;> cases qb <;> cases mb <;> simp [zsw, zsx, e1, e2, e3, e4]
theorem yig (a b : Cnd) : RUN T znm [.agg (cnd a), .agg (cnd b)] = some ([bv (zlk a b)], []) := by
 refine zal z28 rfl ?_
 have e1 := z4o a.f b.f
 have e2 := z4o a.b b.b
 have e3 := z4k (zcs a.f b.f) (zcs a.b b.b)
 have hr : zan 8 2 = true := by decide
 have e4 : zlk a b = decide ((if zcs a.f b.f = 0 then zcs a.b b.b else zcs a.f b.f) < 0) := by
  unfold zlk zcs
  rw [Bool.eq_iff_iff]
  simp only [Bool.or_eq_true, Bool.and_eq_true, decide_eq_true_eq]
  split <;> split <;> (try split) <;> (try split) <;> (try split) <;> (try split) <;> omega
 rw [e4]
 simp [zuz, zu0, cnd, e1, e2, e3, hr]
theorem yih (a b : Cnd) (l : Int) (ha : zg5 a) (hb : zg5 b) : RUN T zkb [.agg (cnd a), .agg (cnd b), iv l] = some ([bv (zeq a b l)], []) := by
 have e1 := zx8 a l ha
 have e2 := zx8 b l hb
 have e3 := z4r (zc2 a l).1 (zc2 b l).1 (z0d _ _) (z0d _ _)
 have e4 := yig a b
 unfold zeq
 generalize zc2 a l = g at *
 generalize zc2 b l = q at *
 generalize zlk a b = le at *
 obtain ⟨g, gb⟩ := g
 obtain ⟨q, qb⟩ := q
 simp only at e1 e2 e3 ⊢
 generalize zgg g q = m at *
 obtain ⟨m, mb⟩ := m
 simp only [frc, cnd] at e1 e2 e3 e4 ⊢
 refine zal z2i rfl ?_
 cases gb <;> cases qb <;> cases mb <;> by_cases h1 : 0 < m <;> by_cases h2 : m = 0 <;> simp [ztq, ztr, e1, e2, e3, e4, h1, h2]
def zdq (c : Cfg) (b : Bd) (x : Cnd) : Bool := zbw c && ((zch c b x).2.2 && (decide (c.rw ≤ x.a.n) && (decide (c.rw ≤ x.z.n) && (zwt (zfa c x.f) (zch c b x).1 (zch c b x).2.1 && zw8 x c.la))))
theorem yii (c : Cfg) (b : Bd) (x : Cnd) (h : zg5 x) (hl : c.sg.length ≤ 9223372036854775807) : RUN T zj2 [cfS c, .agg (bnd b), .agg (cnd x)] = some ([bv (zdq c b x)], []) := by
 have e1 := z4v c b x h
 have e2 := z38 c hl
 have e3 := z4w c x.f hl
 have e5 := yif x c.la h
 unfold zdq
 generalize zch c b x = p at *
 obtain ⟨p1, p2, pb⟩ := p
 have e4 := yie (zfa c x.f) p1 p2
 simp only at e1 ⊢
 generalize zfa c x.f = s at *
 generalize zwt s p1 p2 = ab at *
 generalize zw8 x c.la = ib at *
 generalize zbw c = cb at *
 simp only [cnd, bnd] at e1 e5 ⊢
 refine zal z07 rfl ?_
 cases cb <;> cases pb <;> by_cases h1 : c.rw ≤ x.a.n <;> by_cases h2 : c.rw ≤ x.z.n <;> cases ab <;> simp [zr2, zr3, e1, e2, e3, e4, e5, h1, h2]
def zc7 (l : List Cnd) : List (List PV) := l.map cnd
@[simp] theorem ywd (l : List Cnd) : (zc7 l).length = l.length := by simp [zc7]
theorem zyo {l : List Cnd} {i : Nat} {x : Cnd} (h : l[i]? = some x) : (zc7 l)[i]? = some (cnd x) := by simp [zc7, h]
def noB (c : Cfg) (b : Bd) (x y : Cnd) : Bool := !zdq c b y || !zeq y x c.la
def zjs (c : Cfg) (b : Bd) (l : List Cnd) (x : Cnd) : Bool := zdq c b x && l.all (noB c b x)
def zoq : Cnd := ⟨0, 0, ⟨0, 0⟩, ⟨0, 0⟩⟩
def zex (c : Cfg) (b : Bd) (l : List Cnd) : Cnd × Bool := match l.find? (zjs c b l) with
 | some x => (x, true)
 | none => (zoq, false)
theorem yqi (a : Wd) : zfd a a = 0 := by
 have h : ∀ x, zcs x x = 0 := fun x => by
  unfold zcs
  rw [if_neg (by omega), if_neg (by omega)]
 unfold zfd
 rw [h, h, if_pos rfl]
theorem ypk (a : Wd) : zpf a a = 0 := by
 unfold zpf
 rw [yqi]
 split <;> simp_all
theorem ymd (a : Fr) : (zgg a a).1 = 0 := by
 unfold zgg
 split
 ·rename_i h
  have : (zb1 a a).1 = (zb1 a a).2.1 := by
   unfold zb1
   split <;> rfl
  simp only
  rw [this, ypk]
 ·rfl
theorem ynd (x : Cnd) (l : Int) : zeq x x l = false := by
 have h1 := ymd (zc2 x l).1
 have h2 : zlk x x = false := by
  unfold zlk
  rw [decide_eq_false (show ¬ x.f < x.f by omega), decide_eq_false (show ¬ x.b < x.b by omega)]
  simp
 unfold zeq
 rw [h1, h2]
 simp
theorem yod {p q : Cnd → Bool} (l : List Cnd) : (l.filter p).all q = l.all fun y => !p y || q y := by
 induction l with
 | nil => rfl
 | cons y l ih =>
  simp only [List.filter_cons, List.all_cons]
  cases h : p y with
  | true => simp [ih]
  | false => simp [ih]
theorem yko {p q : Cnd → Bool} (l : List Cnd) : (l.filter p).find? q = l.find? fun x => p x && q x := by
 induction l with
 | nil => rfl
 | cons y l ih =>
  simp only [List.filter_cons, List.find?_cons]
  cases h : p y with
  | true =>
   simp only [if_true, List.find?_cons, Bool.true_and]
   cases q y <;> simp [ih]
  | false => simp [ih]
theorem yla (c : Cfg) (b : Bd) (l : List Cnd) : l.find? (zjs c b l) = (l.filter (zdq c b)).find? fun x => (l.filter (zdq c b)).all fun y => !zeq y x c.la := by
 rw [yko]
 congr 1
 funext x
 unfold zjs
 rw [yod]
 rfl
set_option maxHeartbeats 2000000 in
theorem yij (c : Cfg) (b : Bd) (l : List Cnd) (hl : l.length ≤ 1048576) (hc : c.sg.length ≤ 1048576) (hi : ∀ x ∈ l, zg5 x) : RUN T zmp [cfS c, .agg (bnd b), .sl 6 (zc7 l)] = some ([.agg (cnd (zex c b l).1), bv (zex c b l).2], []) := by
 have eM : ∀ x ∈ l, RUN T zj2 [cfS c, .agg [iv b.lo, iv b.hi], .agg [iv x.f, iv x.b, iv x.a.n, iv x.a.g, iv x.z.n, iv x.z.g]] = some ([bv (zdq c b x)], []) := fun x hx => yii c b x (hi x hx) (by omega)
 have eB : ∀ x ∈ l, ∀ y ∈ l, RUN T zkb [.agg [iv x.f, iv x.b, iv x.a.n, iv x.a.g, iv x.z.n, iv x.z.g], .agg [iv y.f, iv y.b, iv y.a.n, iv y.a.g, iv y.z.n, iv y.z.g], iv c.la] = some ([bv (zeq x y c.la)], []) := fun x hx y hy => yih x y c.la (hi x hx) (hi y hy)
 obtain ⟨R, hR⟩ : ∃ R, R = zex c b l := ⟨_, rfl⟩
 unfold zex at hR
 rw [show zex c b l = R by rw [hR]; rfl]
 rw [yla] at hR
 simp only [bnd]
 refine zal z1k rfl ?_
 have hr0 : zan 48 0 = true := by decide
 have hr1 : zan 48 1 = true := by decide
 simp [-getElem?_pos, zsl, zsm, hr0]
 refine za3 (fun n st => ∃ (i o e : Nat) (m : List Cnd), i + n = l.length ∧ m = (l.take i).filter (zdq c b) ∧ st.V 3 = .ptr 0 none 0 0 0 ∧ st.V 4 = .ptr 1 none 0 0 0 ∧ st.V 6 = .ptr 2 none 0 0 0 ∧ st.V 8 = .ref o none e 0 m.length ∧ st.V 17 = .sl 6 (zc7 l) ∧ st.V 18 = iv l.length ∧ st.V 19 = iv i ∧ 2 < o ∧ o < st.nx ∧ st.S 0 = some (.box [iv c.ro, iv c.de, iv c.bi, iv c.la, iv c.rw, iv c.nu, iv c.dn, .sl 1 (zac c.sg)]) ∧ st.S 1 = some (.box [iv b.lo, iv b.hi]) ∧ st.S 2 = some (.box [iv 0, iv 0, iv 0, iv 0, iv 0, iv 0]) ∧ st.S o = some (.row 6 (zc7 m))) ?_ l.length _ ⟨0, 3, 0, [], by simp [zc7]⟩
 rintro n st ⟨i, o, e, m, hin, hm, v3, v4, v6, v8, v17, v18, v19, ho, hox, hS0, hS1, hS2, hSo⟩
 obtain ⟨a01, a02, a03, a04⟩ := fr (show 0 < st.nx by omega)
 obtain ⟨a11, a12, a13, a14⟩ := fr (show 1 < st.nx by omega)
 obtain ⟨a21, a22, a23, a24⟩ := fr (show 2 < st.nx by omega)
 obtain ⟨a31, a32, a33, a34⟩ := fr (show 0 < o by omega)
 obtain ⟨a41, a42, a43, a44⟩ := fr (show 1 < o by omega)
 obtain ⟨a51, a52, a53, a54⟩ := fr (show 2 < o by omega)
 obtain ⟨a61, a62, a63, a64⟩ := fr (show o < st.nx by omega)
 obtain ⟨a71, a72, a73, a74⟩ := fr (show o < st.nx + 1 by omega)
 by_cases h : i < l.length
 ·obtain ⟨x, hx⟩ : ∃ x, l[i]? = some x := ⟨_, List.getElem?_eq_getElem h⟩
  have hx' := zyo hx
  have hxm := List.mem_of_getElem? hx
  have hws := wS h (by omega : l.length ≤ 9223372036854775807)
  have e1 := eM x hxm
  have hml : m.length ≤ i := by rw [hm]; exact Nat.le_trans (List.length_filter_le _ _) (by simp; omega)
  have hr48 : zan 48 (m.length + 1) = true := by simp [zan]; omega
  have htk : (l.take (i + 1)).filter (zdq c b) = if zdq c b x = true then m ++ [x] else m := by
   rw [List.take_succ, hx, List.filter_append, ← hm]
   by_cases c' : zdq c b x = true <;> simp [c']
  have hsn : zc7 m ++ [[iv x.f, iv x.b, iv x.a.n, iv x.a.g, iv x.z.n, iv x.z.g]] = zc7 (m ++ [x]) := by simp [zc7, cnd]
  clear eM eB hm
  cases hmx : zdq c b x with
  | true =>
   rw [hmx] at e1
   rw [if_pos hmx] at htk
   simp [-getElem?_pos, zsk, v3, v4, v6, v8, v17, v18, v19, hS0, hS1, hS2, hSo, h, hx', cnd, e1, hws, hr1, hr48, hsn, a01, a02, a03, a04, a11, a12, a13, a14, a21, a22, a23, a24, a31, a32, a33, a34, a41, a42, a43, a44, a51, a52, a53, a54, a61, a62, a63, a64, a71, a72, a73, a74]
   exact zaq (n - 1) (by omega) ⟨i + 1, st.nx + 2, st.ep, m ++ [x], by omega, htk.symm, by simp [v3], by simp [v4], by simp [v6], by simp, by simp [v17], by simp [v18], by simp, by omega, by simp, by simp [a01, a02, a03, a04, a11, a12, a13, a14, a21, a22, a23, a24, a31, a32, a33, a34, a41, a42, a43, a44, a51, a52, a53, a54, a61, a62, a63, a64, a71, a72, a73, a74, hS0], by simp [a01, a02, a03, a04, a11, a12, a13, a14, a21, a22, a23, a24, a31, a32, a33, a34, a41, a42, a43, a44, a51, a52, a53, a54, a61, a62, a63, a64, a71, a72, a73, a74, hS1], by simp [a01, a02, a03, a04, a11, a12, a13, a14, a21, a22, a23, a24, a31, a32, a33, a34, a41, a42, a43, a44, a51, a52, a53, a54, a61, a62, a63, a64, a71, a72, a73, a74, hS2], by simp⟩
  | false =>
   rw [hmx] at e1
   rw [if_neg (by simp [hmx])] at htk
   simp [-getElem?_pos, zsk, v3, v4, v6, v8, v17, v18, v19, hS0, hS1, hS2, hSo, h, hx', cnd, e1, hws, a01, a02, a03, a04, a11, a12, a13, a14, a21, a22, a23, a24, a31, a32, a33, a34, a41, a42, a43, a44, a51, a52, a53, a54, a61, a62, a63, a64, a71, a72, a73, a74]
   exact zaq (n - 1) (by omega) ⟨i + 1, o, e, m, by omega, htk.symm, by simp [v3], by simp [v4], by simp [v6], by simp [v8], by simp [v17], by simp [v18], by simp, by omega, by simp; omega, by simp [a01, a02, a03, a04, a11, a12, a13, a14, a21, a22, a23, a24, a31, a32, a33, a34, a41, a42, a43, a44, a51, a52, a53, a54, a61, a62, a63, a64, a71, a72, a73, a74, hS0], by simp [a01, a02, a03, a04, a11, a12, a13, a14, a21, a22, a23, a24, a31, a32, a33, a34, a41, a42, a43, a44, a51, a52, a53, a54, a61, a62, a63, a64, a71, a72, a73, a74, hS1], by simp [a01, a02, a03, a04, a11, a12, a13, a14, a21, a22, a23, a24, a31, a32, a33, a34, a41, a42, a43, a44, a51, a52, a53, a54, a61, a62, a63, a64, a71, a72, a73, a74, hS2], by simp [a01, a02, a03, a04, a11, a12, a13, a14, a21, a22, a23, a24, a31, a32, a33, a34, a41, a42, a43, a44, a51, a52, a53, a54, a61, a62, a63, a64, a71, a72, a73, a74, hSo]⟩
 ·rw [List.take_of_length_le (by omega)] at hm
  rw [← hm] at hR
  have hmem : ∀ y ∈ m, y ∈ l := fun y hy => by rw [hm] at hy; exact (List.mem_filter.mp hy).1
  have hml : m.length ≤ 1048576 := by rw [hm]; exact Nat.le_trans (List.length_filter_le _ _) hl
  simp [-getElem?_pos, zsk, v8, v18, v19, hSo, h]
  obtain ⟨q, hq⟩ : ∃ q : Cnd → Bool, q = fun x => m.all fun y => !zeq y x c.la := ⟨_, rfl⟩
  rw [← hq] at hR
  clear eM hm hin
  refine za3 (fun n st => ∃ i : Nat, i + n = m.length ∧ (m.drop i).find? q = m.find? q ∧ st.V 3 = .ptr 0 none 0 0 0 ∧ st.V 4 = .ptr 1 none 0 0 0 ∧ st.V 6 = .ptr 2 none 0 0 0 ∧ st.V 8 = .ref o none e 0 m.length ∧ st.V 32 = .ref o none e 0 m.length ∧ st.V 33 = iv m.length ∧ st.V 34 = iv i ∧ 2 < o ∧ o < st.nx ∧ st.S 0 = some (.box [iv c.ro, iv c.de, iv c.bi, iv c.la, iv c.rw, iv c.nu, iv c.dn, .sl 1 (zac c.sg)]) ∧ st.S 1 = some (.box [iv b.lo, iv b.hi]) ∧ st.S 2 = some (.box [iv 0, iv 0, iv 0, iv 0, iv 0, iv 0]) ∧ st.S o = some (.row 6 (zc7 m))) ?_ m.length _ ⟨0, by simp, by simp, by simp [v3], by simp [v4], by simp [v6], by simp [v8], by simp, by simp, by simp, ho, by simp [hox], by simp [hS0], by simp [hS1], by simp [hS2], by simp [hSo]⟩
  clear v3 v4 v6 v8 v17 v18 v19 hS0 hS1 hS2 hSo hox ho
  clear a01 a02 a03 a04 a11 a12 a13 a14 a21 a22 a23 a24 a31 a32 a33 a34 a41 a42 a43 a44 a51 a52 a53 a54 a61 a62 a63 a64 a71 a72 a73 a74
  rintro n st ⟨i, hin, hf, v3, v4, v6, v8, v32, v33, v34, ho, hox, hS0, hS1, hS2, hSo⟩
  obtain ⟨b01, b02, b03, b04⟩ := fr (show 0 < st.nx by omega)
  obtain ⟨b11, b12, b13, b14⟩ := fr (show 1 < st.nx by omega)
  obtain ⟨b21, b22, b23, b24⟩ := fr (show 2 < st.nx by omega)
  obtain ⟨b31, b32, b33, b34⟩ := fr (show 0 < o by omega)
  obtain ⟨b41, b42, b43, b44⟩ := fr (show 1 < o by omega)
  obtain ⟨b51, b52, b53, b54⟩ := fr (show 2 < o by omega)
  obtain ⟨b61, b62, b63, b64⟩ := fr (show o < st.nx by omega)
  by_cases h : i < m.length
  ·obtain ⟨x, hx⟩ : ∃ x, m[i]? = some x := ⟨_, List.getElem?_eq_getElem h⟩
   have hx' := zyo hx
   have hxm := List.mem_of_getElem? hx
   have hws := wS h (by omega : m.length ≤ 9223372036854775807)
   rw [zf4 hx, List.find?_cons] at hf
   obtain ⟨kb0, hkb⟩ : ∃ k, k = q x := ⟨_, rfl⟩
   rw [← hkb] at hf
   have hkb2 : kb0 = (true && (m.drop 0).all fun y => !zeq y x c.la) := by rw [hkb, hq]; rfl
   clear hkb hq
   simp [-getElem?_pos, zxm, v3, v4, v6, v8, v32, v33, v34, hS0, hS1, hS2, hSo, h, hx', cnd, b01, b02, b03, b04, b11, b12, b13, b14, b21, b22, b23, b24, b31, b32, b33, b34, b41, b42, b43, b44, b51, b52, b53, b54, b61, b62, b63, b64]
   generalize hpp : st.nx = pp at *
   refine za3 (fun n' s => ∃ (j : Nat) (k : Bool), j + n' = m.length ∧ (k && (m.drop j).all fun y => !zeq y x c.la) = kb0 ∧ s.V 3 = .ptr 0 none 0 0 0 ∧ s.V 4 = .ptr 1 none 0 0 0 ∧ s.V 6 = .ptr 2 none 0 0 0 ∧ s.V 8 = .ref o none e 0 m.length ∧ s.V 32 = .ref o none e 0 m.length ∧ s.V 33 = iv m.length ∧ s.V 34 = iv i ∧ s.V 11 = iv i ∧ s.V 12 = .ptr pp none st.ep 0 0 ∧ s.V 13 = bv k ∧ s.V 39 = .ref o none e 0 m.length ∧ s.V 40 = iv m.length ∧ s.V 41 = iv j ∧ pp < s.nx ∧ s.S 0 = some (.box [iv c.ro, iv c.de, iv c.bi, iv c.la, iv c.rw, iv c.nu, iv c.dn, .sl 1 (zac c.sg)]) ∧ s.S 1 = some (.box [iv b.lo, iv b.hi]) ∧ s.S 2 = some (.box [iv 0, iv 0, iv 0, iv 0, iv 0, iv 0]) ∧ s.S o = some (.row 6 (zc7 m)) ∧ s.S pp = some (.box [iv x.f, iv x.b, iv x.a.n, iv x.a.g, iv x.z.n, iv x.z.g])) ?_ m.length _ ⟨0, true, by omega, hkb2.symm, by simp [v3], by simp [v4], by simp [v6], by simp [v8], by simp [v32], by simp [v33], by simp [v34], by simp, by simp, by simp, by simp, by simp, by simp, by simp, by simp [b01, b02, b03, b04, b11, b12, b13, b14, b21, b22, b23, b24, b31, b32, b33, b34, b41, b42, b43, b44, b51, b52, b53, b54, b61, b62, b63, b64, hS0], by simp [b01, b02, b03, b04, b11, b12, b13, b14, b21, b22, b23, b24, b31, b32, b33, b34, b41, b42, b43, b44, b51, b52, b53, b54, b61, b62, b63, b64, hS1], by simp [b01, b02, b03, b04, b11, b12, b13, b14, b21, b22, b23, b24, b31, b32, b33, b34, b41, b42, b43, b44, b51, b52, b53, b54, b61, b62, b63, b64, hS2], by simp [b01, b02, b03, b04, b11, b12, b13, b14, b21, b22, b23, b24, b31, b32, b33, b34, b41, b42, b43, b44, b51, b52, b53, b54, b61, b62, b63, b64, hSo], by simp [b01, b02, b03, b04, b11, b12, b13, b14, b21, b22, b23, b24, b31, b32, b33, b34, b41, b42, b43, b44, b51, b52, b53, b54, b61, b62, b63, b64]⟩
   clear v3 v4 v6 v8 v32 v33 v34 hS0 hS1 hS2 hSo
   rintro n' s ⟨j, k, hj, hk, v3, v4, v6, v8, v32, v33, v34, v11, v12, v13, v39, v40, v41, hpn, hS0, hS1, hS2, hSo, hSp⟩
   obtain ⟨d01, d02, d03, d04⟩ := fr (show 0 < s.nx by omega)
   obtain ⟨d11, d12, d13, d14⟩ := fr (show 1 < s.nx by omega)
   obtain ⟨d21, d22, d23, d24⟩ := fr (show 2 < s.nx by omega)
   obtain ⟨d31, d32, d33, d34⟩ := fr (show 0 < o by omega)
   obtain ⟨d41, d42, d43, d44⟩ := fr (show 1 < o by omega)
   obtain ⟨d51, d52, d53, d54⟩ := fr (show 2 < o by omega)
   obtain ⟨d61, d62, d63, d64⟩ := fr (show o < s.nx by omega)
   obtain ⟨d71, d72, d73, d74⟩ := fr (show 0 < pp by omega)
   obtain ⟨d81, d82, d83, d84⟩ := fr (show 1 < pp by omega)
   obtain ⟨d91, d92, d93, d94⟩ := fr (show 2 < pp by omega)
   obtain ⟨d101, d102, d103, d104⟩ := fr (show o < pp by omega)
   obtain ⟨d111, d112, d113, d114⟩ := fr (show pp < s.nx by omega)
   by_cases hjl : j < m.length
   ·obtain ⟨y, hy⟩ : ∃ y, m[j]? = some y := ⟨_, List.getElem?_eq_getElem hjl⟩
    have hy' := zyo hy
    have hym := List.mem_of_getElem? hy
    have hwj := wS hjl (by omega : m.length ≤ 9223372036854775807)
    have e3 := eB y (hmem y hym) x (hmem x hxm)
    rw [zf4 hy, List.all_cons] at hk
    clear eB
    cases k with
    | false =>
     have hk' : (false && (m.drop (j + 1)).all fun y => !zeq y x c.la) = kb0 := by rw [← hk]; rfl
     simp [-getElem?_pos, zk3, v3, v4, v6, v8, v11, v12, v13, v39, v40, v41, hS0, hS1, hS2, hSo, hSp, hjl, hy', cnd, hwj, d01, d02, d03, d04, d11, d12, d13, d14, d21, d22, d23, d24, d31, d32, d33, d34, d41, d42, d43, d44, d51, d52, d53, d54, d61, d62, d63, d64, d71, d72, d73, d74, d81, d82, d83, d84, d91, d92, d93, d94, d101, d102, d103, d104, d111, d112, d113, d114]
     exact zaq (n' - 1) (by omega) ⟨j + 1, false, by omega, hk', by simp [v3], by simp [v4], by simp [v6], by simp [v8], by simp [v32], by simp [v33], by simp [v34], by simp [v11], by simp [v12], by simp [v13], by simp [v39], by simp [v40], by simp, by simp; omega, by simp [d01, d02, d03, d04, d11, d12, d13, d14, d21, d22, d23, d24, d31, d32, d33, d34, d41, d42, d43, d44, d51, d52, d53, d54, d61, d62, d63, d64, d71, d72, d73, d74, d81, d82, d83, d84, d91, d92, d93, d94, d101, d102, d103, d104, d111, d112, d113, d114, hS0], by simp [d01, d02, d03, d04, d11, d12, d13, d14, d21, d22, d23, d24, d31, d32, d33, d34, d41, d42, d43, d44, d51, d52, d53, d54, d61, d62, d63, d64, d71, d72, d73, d74, d81, d82, d83, d84, d91, d92, d93, d94, d101, d102, d103, d104, d111, d112, d113, d114, hS1], by simp [d01, d02, d03, d04, d11, d12, d13, d14, d21, d22, d23, d24, d31, d32, d33, d34, d41, d42, d43, d44, d51, d52, d53, d54, d61, d62, d63, d64, d71, d72, d73, d74, d81, d82, d83, d84, d91, d92, d93, d94, d101, d102, d103, d104, d111, d112, d113, d114, hS2], by simp [d01, d02, d03, d04, d11, d12, d13, d14, d21, d22, d23, d24, d31, d32, d33, d34, d41, d42, d43, d44, d51, d52, d53, d54, d61, d62, d63, d64, d71, d72, d73, d74, d81, d82, d83, d84, d91, d92, d93, d94, d101, d102, d103, d104, d111, d112, d113, d114, hSo], by simp [d01, d02, d03, d04, d11, d12, d13, d14, d21, d22, d23, d24, d31, d32, d33, d34, d41, d42, d43, d44, d51, d52, d53, d54, d61, d62, d63, d64, d71, d72, d73, d74, d81, d82, d83, d84, d91, d92, d93, d94, d101, d102, d103, d104, d111, d112, d113, d114, hSp]⟩
    | true =>
     by_cases hij : j = i
     ·have hyx : y = x := by
       subst hij
       rw [hx] at hy; exact (Option.some.inj hy).symm
      subst hyx
      rw [ynd] at hk
      have hk' : (true && (m.drop (j + 1)).all fun z => !zeq z y c.la) = kb0 := by rw [← hk]; rfl
      subst hij
      simp [-getElem?_pos, zk3, v3, v4, v6, v8, v11, v12, v13, v39, v40, v41, hS0, hS1, hS2, hSo, hSp, hjl, hy', cnd, hwj, d01, d02, d03, d04, d11, d12, d13, d14, d21, d22, d23, d24, d31, d32, d33, d34, d41, d42, d43, d44, d51, d52, d53, d54, d61, d62, d63, d64, d71, d72, d73, d74, d81, d82, d83, d84, d91, d92, d93, d94, d101, d102, d103, d104, d111, d112, d113, d114]
      exact zaq (n' - 1) (by omega) ⟨j + 1, true, by omega, hk', by simp [v3], by simp [v4], by simp [v6], by simp [v8], by simp [v32], by simp [v33], by simp [v34], by simp [v11], by simp [v12], by simp [v13], by simp [v39], by simp [v40], by simp, by simp; omega, by simp [d01, d02, d03, d04, d11, d12, d13, d14, d21, d22, d23, d24, d31, d32, d33, d34, d41, d42, d43, d44, d51, d52, d53, d54, d61, d62, d63, d64, d71, d72, d73, d74, d81, d82, d83, d84, d91, d92, d93, d94, d101, d102, d103, d104, d111, d112, d113, d114, hS0], by simp [d01, d02, d03, d04, d11, d12, d13, d14, d21, d22, d23, d24, d31, d32, d33, d34, d41, d42, d43, d44, d51, d52, d53, d54, d61, d62, d63, d64, d71, d72, d73, d74, d81, d82, d83, d84, d91, d92, d93, d94, d101, d102, d103, d104, d111, d112, d113, d114, hS1], by simp [d01, d02, d03, d04, d11, d12, d13, d14, d21, d22, d23, d24, d31, d32, d33, d34, d41, d42, d43, d44, d51, d52, d53, d54, d61, d62, d63, d64, d71, d72, d73, d74, d81, d82, d83, d84, d91, d92, d93, d94, d101, d102, d103, d104, d111, d112, d113, d114, hS2], by simp [d01, d02, d03, d04, d11, d12, d13, d14, d21, d22, d23, d24, d31, d32, d33, d34, d41, d42, d43, d44, d51, d52, d53, d54, d61, d62, d63, d64, d71, d72, d73, d74, d81, d82, d83, d84, d91, d92, d93, d94, d101, d102, d103, d104, d111, d112, d113, d114, hSo], by simp [d01, d02, d03, d04, d11, d12, d13, d14, d21, d22, d23, d24, d31, d32, d33, d34, d41, d42, d43, d44, d51, d52, d53, d54, d61, d62, d63, d64, d71, d72, d73, d74, d81, d82, d83, d84, d91, d92, d93, d94, d101, d102, d103, d104, d111, d112, d113, d114, hSp]⟩
     ·have h1 : ((j : Int) = i) = False := eq_false (by omega)
      have h2 : ((i : Int) = j) = False := eq_false (by omega)
      have hji : ¬ i = j := fun e => hij e.symm
      generalize zeq y x c.la = bb at *
      cases bb with
      | true =>
       have hk' : (false && (m.drop (j + 1)).all fun y => !zeq y x c.la) = kb0 := by rw [← hk]; rfl
       simp [-getElem?_pos, zk3, v3, v4, v6, v8, v11, v12, v13, v39, v40, v41, hS0, hS1, hS2, hSo, hSp, hjl, hy', cnd, hwj, d01, d02, d03, d04, d11, d12, d13, d14, d21, d22, d23, d24, d31, d32, d33, d34, d41, d42, d43, d44, d51, d52, d53, d54, d61, d62, d63, d64, d71, d72, d73, d74, d81, d82, d83, d84, d91, d92, d93, d94, d101, d102, d103, d104, d111, d112, d113, d114, h1, h2, hij, hji, e3]
       exact zaq (n' - 1) (by omega) ⟨j + 1, false, by omega, hk', by simp [v3], by simp [v4], by simp [v6], by simp [v8], by simp [v32], by simp [v33], by simp [v34], by simp [v11], by simp [v12], by simp [v13], by simp [v39], by simp [v40], by simp, by simp; omega, by simp [d01, d02, d03, d04, d11, d12, d13, d14, d21, d22, d23, d24, d31, d32, d33, d34, d41, d42, d43, d44, d51, d52, d53, d54, d61, d62, d63, d64, d71, d72, d73, d74, d81, d82, d83, d84, d91, d92, d93, d94, d101, d102, d103, d104, d111, d112, d113, d114, hS0], by simp [d01, d02, d03, d04, d11, d12, d13, d14, d21, d22, d23, d24, d31, d32, d33, d34, d41, d42, d43, d44, d51, d52, d53, d54, d61, d62, d63, d64, d71, d72, d73, d74, d81, d82, d83, d84, d91, d92, d93, d94, d101, d102, d103, d104, d111, d112, d113, d114, hS1], by simp [d01, d02, d03, d04, d11, d12, d13, d14, d21, d22, d23, d24, d31, d32, d33, d34, d41, d42, d43, d44, d51, d52, d53, d54, d61, d62, d63, d64, d71, d72, d73, d74, d81, d82, d83, d84, d91, d92, d93, d94, d101, d102, d103, d104, d111, d112, d113, d114, hS2], by simp [d01, d02, d03, d04, d11, d12, d13, d14, d21, d22, d23, d24, d31, d32, d33, d34, d41, d42, d43, d44, d51, d52, d53, d54, d61, d62, d63, d64, d71, d72, d73, d74, d81, d82, d83, d84, d91, d92, d93, d94, d101, d102, d103, d104, d111, d112, d113, d114, hSo], by simp [d01, d02, d03, d04, d11, d12, d13, d14, d21, d22, d23, d24, d31, d32, d33, d34, d41, d42, d43, d44, d51, d52, d53, d54, d61, d62, d63, d64, d71, d72, d73, d74, d81, d82, d83, d84, d91, d92, d93, d94, d101, d102, d103, d104, d111, d112, d113, d114, hSp]⟩
      | false =>
       have hk' : (true && (m.drop (j + 1)).all fun y => !zeq y x c.la) = kb0 := by rw [← hk]; rfl
       simp [-getElem?_pos, zk3, v3, v4, v6, v8, v11, v12, v13, v39, v40, v41, hS0, hS1, hS2, hSo, hSp, hjl, hy', cnd, hwj, d01, d02, d03, d04, d11, d12, d13, d14, d21, d22, d23, d24, d31, d32, d33, d34, d41, d42, d43, d44, d51, d52, d53, d54, d61, d62, d63, d64, d71, d72, d73, d74, d81, d82, d83, d84, d91, d92, d93, d94, d101, d102, d103, d104, d111, d112, d113, d114, h1, h2, hij, hji, e3]
       exact zaq (n' - 1) (by omega) ⟨j + 1, true, by omega, hk', by simp [v3], by simp [v4], by simp [v6], by simp [v8], by simp [v32], by simp [v33], by simp [v34], by simp [v11], by simp [v12], by simp [v13], by simp [v39], by simp [v40], by simp, by simp; omega, by simp [d01, d02, d03, d04, d11, d12, d13, d14, d21, d22, d23, d24, d31, d32, d33, d34, d41, d42, d43, d44, d51, d52, d53, d54, d61, d62, d63, d64, d71, d72, d73, d74, d81, d82, d83, d84, d91, d92, d93, d94, d101, d102, d103, d104, d111, d112, d113, d114, hS0], by simp [d01, d02, d03, d04, d11, d12, d13, d14, d21, d22, d23, d24, d31, d32, d33, d34, d41, d42, d43, d44, d51, d52, d53, d54, d61, d62, d63, d64, d71, d72, d73, d74, d81, d82, d83, d84, d91, d92, d93, d94, d101, d102, d103, d104, d111, d112, d113, d114, hS1], by simp [d01, d02, d03, d04, d11, d12, d13, d14, d21, d22, d23, d24, d31, d32, d33, d34, d41, d42, d43, d44, d51, d52, d53, d54, d61, d62, d63, d64, d71, d72, d73, d74, d81, d82, d83, d84, d91, d92, d93, d94, d101, d102, d103, d104, d111, d112, d113, d114, hS2], by simp [d01, d02, d03, d04, d11, d12, d13, d14, d21, d22, d23, d24, d31, d32, d33, d34, d41, d42, d43, d44, d51, d52, d53, d54, d61, d62, d63, d64, d71, d72, d73, d74, d81, d82, d83, d84, d91, d92, d93, d94, d101, d102, d103, d104, d111, d112, d113, d114, hSo], by simp [d01, d02, d03, d04, d11, d12, d13, d14, d21, d22, d23, d24, d31, d32, d33, d34, d41, d42, d43, d44, d51, d52, d53, d54, d61, d62, d63, d64, d71, d72, d73, d74, d81, d82, d83, d84, d91, d92, d93, d94, d101, d102, d103, d104, d111, d112, d113, d114, hSp]⟩
   ·rw [List.drop_eq_nil_of_le (by omega)] at hk
    simp only [List.all_nil, Bool.and_true] at hk
    subst hk
    cases k with
    | true =>
     simp only at hf
     rw [← hf] at hR
     simp only at hR
     subst hR
     simp [-getElem?_pos, zk3, v3, v4, v6, v8, v11, v12, v13, v39, v40, v41, hS0, hS1, hS2, hSo, hSp, hjl, cnd, d01, d02, d03, d04, d11, d12, d13, d14, d21, d22, d23, d24, d31, d32, d33, d34, d41, d42, d43, d44, d51, d52, d53, d54, d61, d62, d63, d64, d71, d72, d73, d74, d81, d82, d83, d84, d91, d92, d93, d94, d101, d102, d103, d104, d111, d112, d113, d114]
    | false =>
     simp only at hf
     simp [-getElem?_pos, zk3, v3, v4, v6, v8, v11, v12, v13, v34, v39, v40, v41, hS0, hS1, hS2, hSo, hSp, hjl, hws, d01, d02, d03, d04, d11, d12, d13, d14, d21, d22, d23, d24, d31, d32, d33, d34, d41, d42, d43, d44, d51, d52, d53, d54, d61, d62, d63, d64, d71, d72, d73, d74, d81, d82, d83, d84, d91, d92, d93, d94, d101, d102, d103, d104, d111, d112, d113, d114]
     exact zaq (n - 1) (by omega) ⟨i + 1, by omega, hf, by simp [v3], by simp [v4], by simp [v6], by simp [v8], by simp [v32], by simp [v33], by simp, ho, by simp; omega, by simp [hS0], by simp [hS1], by simp [hS2], by simp [hSo]⟩
  ·rw [List.drop_eq_nil_of_le (by omega)] at hf
   rw [← hf] at hR
   simp only [List.find?_nil] at hR
   subst hR
   simp [-getElem?_pos, zxm, v6, v33, v34, hS2, h, zoq, cnd]
def zge (a b : Sl) : Sl × Bool := if ((sbi a.n b.n).2 && (sbi a.g b.g).2) = true then (⟨(sbi a.n b.n).1, (sbi a.g b.g).1⟩, true) else (⟨0, 0⟩, false)
theorem z8r {a b : Int} : inI (sbi a b).1 := by
 unfold sbi inI
 split
 ·rename_i h; simpa using h
 ·simp
theorem yma (a b : Sl) : slI (zge a b).1 := by
 unfold zge
 split
 ·exact ⟨z8r, z8r⟩
 ·unfold slI inI; simp
def zfh (s : Sl) : List Sl → Option (List Sl)
 | [] => some []
 | x :: xs => if (zcg s x).2 = true then (zfh (zcg s x).1 xs).map ((zcg s x).1 :: ·) else none
def zdx (h : List Sl) : List Sl × Bool := match zfh ⟨0, 0⟩ h with
 | some l => (l, true)
 | none => ([], false)
theorem z73 : ∀ (h : List Sl) (s : Sl) (l : List Sl), slI s → zfh s h = some l → l.length = h.length ∧ ∀ x ∈ l, slI x
 | [], s, l, _, e => by simp [zfh] at e; subst e; simp
 | x :: xs, s, l, hs, e => by
  simp only [zfh] at e
  split at e
  ·simp only [Option.map_eq_some_iff] at e
   obtain ⟨l', h1, rfl⟩ := e
   have hp := zq3 (b := x) hs
   obtain ⟨h2, h3⟩ := z73 xs _ _ hp h1
   refine ⟨by simp [h2], fun y hy => ?_⟩
   rcases List.mem_cons.mp hy with e | e
   ·subst e; exact hp
   ·exact h3 y e
  ·cases e
theorem zyt : slI ⟨0, 0⟩ := ⟨by unfold inI; simp, by unfold inI; simp⟩
theorem z7u (h : List Sl) : (zdx h).1.length ≤ h.length ∧ (∀ x ∈ (zdx h).1, slI x) ∧ ((zdx h).2 = true → (zdx h).1.length = h.length) := by
 unfold zdx
 cases e : zfh ⟨0, 0⟩ h with
 | none => simp
 | some l =>
  obtain ⟨h1, h2⟩ := z73 h _ l zyt e
  exact ⟨by simp [h1], h2, fun _ => h1⟩
def zfm (f : Int) (all : Sl) (least : Int) : Int → List Sl → List Cnd → Option (List Cnd)
 | b, x :: y :: xs, acc => if (zge all x).2 = true then zfm f all least (b + 1) (y :: xs) (if least ≤ x.n ∧ least ≤ (zge all x).1.n then acc ++ [⟨f, b, x, (zge all x).1⟩] else acc) else none
 | _, _, acc => some acc
def zl0 (l : List Sl) : Sl := l.getLast?.getD ⟨0, 0⟩
def zfn (least : Int) : Int → List (List Sl) → List Cnd → Option (List Cnd)
 | _, [], acc => some acc
 | f, h :: hs, acc => if (zdx h).2 = true then match zfm f (zl0 (zdx h).1) least 0 (zdx h).1 acc with
  | some a => zfn least (f + 1) hs a
  | none => none
  else none
def zg9 (H : List (List Sl)) (least : Int) : List Cnd := (zfn least 0 H []).getD []
theorem z9d {f : Int} {all : Sl} {least : Int} {l : List Sl} {i : Nat} {x : Sl} (acc : List Cnd) (hx : l[i]? = some x) (hi : i + 1 < l.length) : zfm f all least i (l.drop i) acc = if (zge all x).2 = true then zfm f all least (i + 1 : Nat) (l.drop (i + 1)) (if least ≤ x.n ∧ least ≤ (zge all x).1.n then acc ++ [⟨f, i, x, (zge all x).1⟩] else acc) else none := by
 rw [zf4 hx, zf4 (List.getElem?_eq_getElem hi), zfm]
 simp
theorem zys {f : Int} {all : Sl} {least : Int} {l : List Sl} {i : Nat} (acc : List Cnd) (hi : ¬ i + 1 < l.length) : zfm f all least i (l.drop i) acc = some acc := by
 match h : l.drop i with
 | [] => rw [zfm]; simp
 | [x] => rw [zfm]; simp
 | x :: y :: xs =>
  have := congrArg List.length h
  simp at this; omega
theorem yke {l : List Sl} {x : Sl} (h : l[l.length - 1]? = some x) : zl0 l = x := by
 unfold zl0; rw [List.getLast?_eq_getElem?, h]; rfl
def zor (H : List (List Sl)) (x : Cnd) : Prop := ∃ (f b : Nat) (h : List Sl), x.f = f ∧ x.b = b ∧ H[f]? = some h ∧ b + 1 < h.length ∧ slI x.a ∧ slI x.z
theorem z0h {f : Int} {all : Sl} {least : Int} {p : Cnd → Prop} {l : List Sl} (hl : ∀ x ∈ l, slI x) (hp : ∀ (b : Nat) (x z : Sl), b + 1 < l.length → slI x → slI z → p ⟨f, b, x, z⟩) : ∀ (k i : Nat) (acc a : List Cnd), i + k = l.length → (∀ x ∈ acc, p x) → zfm f all least i (l.drop i) acc = some a → a.length ≤ acc.length + k ∧ ∀ x ∈ a, p x
 | 0, i, acc, a, hk, ha, h => by
  rw [zys acc (by omega)] at h
  cases h
  exact ⟨by omega, ha⟩
 | k + 1, i, acc, a, hk, ha, h => by
  by_cases hi : i + 1 < l.length
  ·obtain ⟨x, hx⟩ : ∃ x, l[i]? = some x := ⟨_, List.getElem?_eq_getElem (by omega)⟩
   rw [z9d acc hx hi] at h
   have hxi := hl x (List.mem_of_getElem? hx)
   split at h
   ·split at h
    ·obtain ⟨h1, h2⟩ := z0h hl hp k (i + 1) _ _ (by omega) (fun y hy => by
      rcases List.mem_append.mp hy with e | e
      ·exact ha y e
      ·simp only [List.mem_singleton] at e; subst e; exact hp i x _ hi hxi (yma _ _)) h
     exact ⟨by simp at h1; omega, h2⟩
    ·obtain ⟨h1, h2⟩ := z0h hl hp k (i + 1) _ _ (by omega) ha h
     exact ⟨by omega, h2⟩
   ·cases h
  ·rw [zys acc hi] at h
   cases h
   exact ⟨by omega, ha⟩
theorem z63 {least : Int} {H : List (List Sl)} {i : Nat} {h : List Sl} (acc : List Cnd) (hx : H[i]? = some h) : zfn least i (H.drop i) acc = if (zdx h).2 = true then match zfm i (zl0 (zdx h).1) least 0 (zdx h).1 acc with
  | some a => zfn least (i + 1 : Nat) (H.drop (i + 1)) a
  | none => none
  else none := by
 rw [zf4 hx, zfn]
 simp
theorem z9a {least : Int} {H : List (List Sl)} {m : Nat} (hm : ∀ l ∈ H, l.length ≤ m) : ∀ (k i : Nat) (acc a : List Cnd), i + k = H.length → (∀ x ∈ acc, zor H x) → zfn least i (H.drop i) acc = some a → a.length ≤ acc.length + m * k ∧ ∀ x ∈ a, zor H x
 | 0, i, acc, a, hk, ha, h => by
  rw [List.drop_eq_nil_of_le (by omega), zfn] at h
  cases h
  exact ⟨by omega, ha⟩
 | k + 1, i, acc, a, hk, ha, h => by
  obtain ⟨l, hx⟩ : ∃ x, H[i]? = some x := ⟨_, List.getElem?_eq_getElem (by omega)⟩
  rw [z63 acc hx] at h
  obtain ⟨p1, p2, p3⟩ := z7u l
  split at h
  ·rename_i hp
   split at h
   ·rename_i a' h'
    have h'' : zfm i (zl0 (zdx l).1) least ((0 : Nat) : Int) ((zdx l).1.drop 0) acc = some a' := by simpa using h'
    obtain ⟨q1, q2⟩ := z0h (p := zor H) p2 (fun b x z hb hx' hz' => ⟨i, b, l, rfl, rfl, hx, by omega, hx', hz'⟩) (zdx l).1.length 0 acc a' (by omega) ha h''
    obtain ⟨r1, r2⟩ := z9a hm k (i + 1) a' a (by omega) q2 h
    have := hm l (List.mem_of_getElem? hx)
    refine ⟨?_, r2⟩
    rw [Nat.mul_add]
    omega
   ·cases h
  ·cases h
theorem z5g {least : Int} {H : List (List Sl)} {m : Nat} (hm : ∀ l ∈ H, l.length ≤ m) : (zg9 H least).length ≤ m * H.length ∧ ∀ x ∈ zg9 H least, zor H x := by
 unfold zg9
 cases h : zfn least 0 H [] with
 | none => simp
 | some a =>
  have h' : zfn least ((0 : Nat) : Int) (H.drop 0) [] = some a := by simpa using h
  obtain ⟨h1, h2⟩ := z9a hm H.length 0 [] a (by omega) (fun x hx => by cases hx) h'
  exact ⟨by simpa using h1, h2⟩
theorem z94 {H : List (List Sl)} {x : Cnd} (hH : H.length ≤ 1048576) (hl : ∀ l ∈ H, l.length ≤ 1048576) (h : zor H x) : zg5 x := by
 obtain ⟨f, b, l, h1, h2, h3, h4, h5, h6⟩ := h
 have := (List.getElem?_eq_some_iff.mp h3).1
 have := hl l (List.mem_of_getElem? h3)
 exact ⟨by unfold inI; omega, by unfold inI; omega, h5, h6⟩
theorem ylo {c : Cfg} {b : Bd} {l : List Cnd} (h : (zex c b l).2 = true) : (zex c b l).1 ∈ l ∧ zdq c b (zex c b l).1 = true ∧ ∀ y ∈ l, zdq c b y = true → zeq y (zex c b l).1 c.la = false := by
 unfold zex at h ⊢
 cases e : l.find? (zjs c b l) with
 | none => rw [e] at h; cases h
 | some x =>
  simp only
  have h1 := List.mem_of_find?_eq_some e
  have h2 := List.find?_some e
  unfold zjs at h2
  simp only [Bool.and_eq_true] at h2
  refine ⟨h1, h2.1, fun y hy hm => ?_⟩
  have := List.all_eq_true.mp h2.2 y hy
  unfold noB at this
  rw [hm] at this
  simpa using this
def zek (a : Int) : Nat := (a % 18446744073709551616).toNat
theorem z5a {a : Int} (h : inI a) : (zek a : Int) = if a < 0 then a + 18446744073709551616 else a := by
 unfold inI at h
 unfold zek
 split <;> omega
theorem z55 (a : Int) : zek a < 18446744073709551616 := by
 unfold zek; omega
theorem yo7 {n : Nat} (h : n < 18446744073709551616) : IntKind.i64.wrap n = if n < 9223372036854775808 then (n : Int) else n - 18446744073709551616 := by
 split
 ·exact w64 (by omega) (by omega)
 ·simp [IntKind.wrap, IntKind.signed, IntKind.bits]
  omega
theorem yo1 {x y : Nat} (hx : x < 18446744073709551616) : (x &&& y) < 18446744073709551616 := Nat.lt_of_le_of_lt Nat.and_le_left hx
theorem yps {a b : Int} (ha : inI a) (hb : inI b) : inI (IntKind.i64.wrap ((zek a &&& zek b : Nat) : Int)) ∧ (IntKind.i64.wrap ((zek a &&& zek b : Nat) : Int) % 2 = 1 ↔ a % 2 = 1 ∧ b % 2 = 1) := by
 have la := z55 a
 have lb := z55 b
 have ea := z5a ha
 have eb := z5a hb
 have h4 : (zek a &&& zek b) % 2 = 1 ↔ zek a % 2 = 1 ∧ zek b % 2 = 1 := Nat.and_mod_two_eq_one
 have hl := yo1 (y := zek b) la
 rw [yo7 hl]
 unfold inI at *
 generalize zek a &&& zek b = p at *
 split at ea <;> split at eb <;> split <;> omega
def zjp (a b : Int) : Int := (a + b) / 2
theorem yik (a b : Int) (ha : inI a) (hb : inI b) : RUN T znj [iv a, iv b] = some ([iv (zjp a b)], []) := by
 refine zal z21 rfl ?_
 obtain ⟨h1, h2⟩ := yps ha hb
 unfold zek at h1 h2
 unfold inI at ha hb h1
 have hb64 : IntKind.i64.bits = 64 := rfl
 simp [zup, zuq, hb64]
 rw [Int.fdiv_eq_ediv_of_nonneg _ (by omega), Int.fdiv_eq_ediv_of_nonneg _ (by omega)]
 unfold zjp
 generalize IntKind.i64.wrap (((a % 18446744073709551616).toNat &&& (b % 18446744073709551616).toNat : Nat) : Int) = p at *
 have h3 : max (p % 18446744073709551616) 0 % 2 = p % 2 := by omega
 rw [h3, w64 (x := p % 2) (by omega) (by omega), w64 (x := a / 2 + b / 2) (by omega) (by omega), w64 (by omega) (by omega)]
 omega
def zjz (s : Int) (b : Bd) (l r : Int) : Bd × Bd := if zg8 b = true then (if s = 1 then (⟨b.lo, zfo (zjp l r) b.lo b.hi⟩, ⟨zfo (zjp l r) b.lo b.hi, b.hi⟩) else if s = -1 then (⟨zfo (zjp l r) b.lo b.hi, b.hi⟩, ⟨b.lo, zfo (zjp l r) b.lo b.hi⟩) else (b, b)) else (b, b)
theorem yil (s : Int) (b : Bd) (l r : Int) (hl : inI l) (hr : inI r) : RUN T zmy [iv s, .agg (bnd b), iv l, iv r] = some ([.agg (bnd (zjz s b l r).1), .agg (bnd (zjz s b l r).2)], []) := by
 have e1 := z4t b
 have e2 := yik l r hl hr
 have e3 := z4u (zjp l r) b.lo b.hi
 refine zal z13 rfl ?_
 unfold zjz
 generalize zg8 b = q at *
 generalize zfo (zjp l r) b.lo b.hi = m at *
 obtain ⟨lo, hi⟩ := b
 simp only [bnd] at *
 cases q with
 | false => simp [zn6, zn7, e1, e2, e3]
 | true =>
  by_cases h1 : s = 1
  ·simp [zn6, zn7, e1, e2, e3, h1]
  ·by_cases h2 : s = -1 <;> simp [zn6, zn7, e1, e2, e3, h1, h2]
theorem yim (a b : Sl) (ha : slI a) (hb : slI b) : RUN T zna [.agg (slc a), .agg (slc b)] = some ([.agg (slc (zge a b).1), bv (zge a b).2], []) := by
 have e1 := z4e a.n b.n ha.1 hb.1
 have e2 := z4e a.g b.g ha.2 hb.2
 unfold zge
 generalize sbi a.n b.n = x at *
 generalize sbi a.g b.g = y at *
 obtain ⟨x, xb⟩ := x
 obtain ⟨y, yb⟩ := y
 simp only at e1 e2 ⊢
 refine zal z2k rfl ?_
 cases xb <;> cases yb <;> simp [ztv, ztw, e1, e2, slc]
theorem yof (m : List Sl) (x : Sl) : zbt m ++ [[iv x.n, iv x.g]] = zbt (m ++ [x]) := by simp [zbt, slc]
theorem yjy {s x : Sl} {h : List Sl} {i : Nat} (hx : h[i]? = some x) : zfh s (h.drop i) = if (zcg s x).2 = true then (zfh (zcg s x).1 (h.drop (i + 1))).map ((zcg s x).1 :: ·) else none := by
 rw [zf4 hx, zfh]
set_option maxHeartbeats 1000000 in
theorem yin (h : List Sl) (hl : h.length ≤ 1048576) (hi : ∀ x ∈ h, slI x) : RUN T zm9 [.sl 2 (zbt h)] = some ([.own 2 (zbt (zdx h).1), bv (zdx h).2], []) := by
 obtain ⟨R, hR⟩ : ∃ R, R = zdx h := ⟨_, rfl⟩
 have hR' : R = match zfh ⟨0, 0⟩ h with
  | some l => (l, true)
  | none => ([], false) := by rw [hR]; rfl
 rw [← hR]
 clear hR
 have hr0 : zan 16 0 = true := by decide
 have hr1 : zan 16 1 = true := by decide
 refine zal z2j rfl ?_
 simp [-getElem?_pos, ztt, ztu, hr0]
 refine za3 (fun n st => ∃ (i o e : Nat) (m : List Sl) (s : Sl), i + n = h.length ∧ m.length = i ∧ slI s ∧ zfh ⟨0, 0⟩ h = (zfh s (h.drop i)).map (m ++ ·) ∧ st.V 4 = .ref o none e 0 m.length ∧ st.V 5 = .ptr 1 none 0 0 0 ∧ st.V 12 = .sl 2 (zbt h) ∧ st.V 13 = iv h.length ∧ st.V 14 = iv i ∧ ¬ o = 1 ∧ o < st.nx ∧ 1 < st.nx ∧ st.S o = some (.row 2 (zbt m)) ∧ st.S 1 = some (.box [iv s.n, iv s.g])) ?_ h.length _ ⟨0, 0, 0, [], ⟨0, 0⟩, by omega, rfl, zyt, by simp, by simp, by simp, by simp, by simp, by simp, by simp, by simp, by simp, by simp [zbt], by simp⟩
 rintro n st ⟨i, o, ep, m, s, hin, hm, hs, hp, v4, v5, v12, v13, v14, ho1, hox, h1x, hSo, hS1⟩
 obtain ⟨x1, x2, x3, x4⟩ := fr hox
 obtain ⟨z1, z2, z3, z4⟩ := fr h1x
 obtain ⟨a1, a2, a3, a4⟩ := fr (show o < st.nx + 1 by omega)
 obtain ⟨b1, b2, b3, b4⟩ := fr (show o < st.nx + 2 by omega)
 obtain ⟨c1, c2, c3, c4⟩ := fr (show 1 < st.nx + 1 by omega)
 obtain ⟨d1, d2, d3, d4⟩ := fr (show 1 < st.nx + 2 by omega)
 have ho2 : ¬ 1 = o := fun e => ho1 e.symm
 have hn0 : ¬ st.nx = 0 := by omega
 have hn1 : ¬ 1 = st.nx + 1 := by omega
 by_cases hlt : i < h.length
 ·obtain ⟨x, hx⟩ : ∃ x, h[i]? = some x := ⟨_, List.getElem?_eq_getElem hlt⟩
  have hx' := zwn hx
  have hws := wS hlt (by omega : h.length ≤ 9223372036854775807)
  have hr16 : zan 16 (m.length + 1) = true := by simp [zan]; omega
  have e1 := zx4 s x hs (hi x (List.mem_of_getElem? hx))
  have hpi := zq3 (b := x) hs
  rw [yjy hx] at hp
  generalize zcg s x = p at *
  obtain ⟨⟨pn, pg⟩, pb⟩ := p
  simp only [slc] at e1 hp hpi
  cases pb with
  | false =>
   rw [if_neg (by simp)] at hp
   rw [hp] at hR'
   subst hR'
   simp [-getElem?_pos, zts, v4, v5, v12, v13, v14, hlt, hx', hSo, hS1, e1, ho1, ho2, hn0, x1, x2, x3, x4, z1, z2, z3, z4, a1, a2, a3, a4, b1, b2, b3, b4, c1, c2, c3, c4, d1, d2, d3, d4]
   simp [zbt]
  | true =>
   rw [if_pos rfl] at hp
   have hsn := yof m ⟨pn, pg⟩
   simp only at hsn
   simp [-getElem?_pos, zts, v4, v5, v12, v13, v14, hlt, hx', hSo, hS1, hr1, hr16, hws, hsn, e1, ho1, ho2, hn0, x1, x2, x3, x4, z1, z2, z3, z4, a1, a2, a3, a4, b1, b2, b3, b4, c1, c2, c3, c4, d1, d2, d3, d4]
   exact zaq (n - 1) (by omega) ⟨i + 1, st.nx + 1 + 2, st.ep, m ++ [⟨pn, pg⟩], ⟨pn, pg⟩, by omega, by simp [hm], hpi, by rw [hp]; cases zfh ⟨pn, pg⟩ (h.drop (i + 1)) <;> simp, by simp, by simp [v5], by simp [v12], by simp [v13], by simp, by omega, by simp, by simp <;> omega, by simp [hn0], by simp [hn0]⟩
 ·rw [List.drop_eq_nil_of_le (by omega), zfh] at hp
  simp only [Option.map_some, List.append_nil] at hp
  rw [hp] at hR'
  subst hR'
  simp [-getElem?_pos, zts, v4, v13, v14, hlt, hSo]
theorem yjl (m : List Cnd) (x : Cnd) : zc7 m ++ [[iv x.f, iv x.b, iv x.a.n, iv x.a.g, iv x.z.n, iv x.z.g]] = zc7 (m ++ [x]) := by simp [zc7, cnd]
set_option maxHeartbeats 4000000 in
set_option maxRecDepth 4000 in
theorem yio (q : Bool) (H : List (List Sl)) (least : Int) (hH : H.length ≤ 16) (hl : ∀ l ∈ H, l.length ≤ 16) (hi : ∀ l ∈ H, ∀ x ∈ l, slI x) : RUN T zmq [.sl 1 (rss q H), iv least] = some ([.own 6 (zc7 (zg9 H least))], []) := by
 obtain ⟨R, hR⟩ : ∃ R, R = zg9 H least := ⟨_, rfl⟩
 have hR' : R = (zfn least 0 H []).getD [] := hR
 rw [← hR]
 clear hR
 have hr0 : zan 48 0 = true := by decide
 have hr1 : zan 48 1 = true := by decide
 refine zal z1l rfl ?_
 simp [-getElem?_pos, zso, zsp, hr0]
 refine za3 (fun n st => ∃ (i o e : Nat) (acc : List Cnd), i + n = H.length ∧ acc.length ≤ 16 * i ∧ zfn least i (H.drop i) acc = zfn least 0 H [] ∧ st.V 1 = iv least ∧ st.V 5 = .ref o none e 0 acc.length ∧ st.V 14 = .sl 1 (rss q H) ∧ st.V 15 = iv H.length ∧ st.V 16 = iv i ∧ o < st.nx ∧ st.S o = some (.row 6 (zc7 acc))) ?_ H.length _ ⟨0, 0, 0, [], by omega, by simp, by simp, by simp, by simp, by simp, by simp, by simp, by simp, by simp [zc7]⟩
 rintro n st ⟨i, o, ep, acc, hin, hacc, hF, v1, v5, v14, v15, v16, hox, hSo⟩
 obtain ⟨x1, x2, x3, x4⟩ := fr hox
 by_cases hlt : i < H.length
 ·obtain ⟨l, hx⟩ : ∃ x, H[i]? = some x := ⟨_, List.getElem?_eq_getElem hlt⟩
  have hx' := ypg (q := q) hx
  have hlm := List.mem_of_getElem? hx
  have hws := wS hlt (by omega : H.length ≤ 9223372036854775807)
  have hll := hl l hlm
  have e1 := yin l (by omega) (hi l hlm)
  obtain ⟨p1, p2, p3⟩ := z7u l
  rw [z63 acc hx] at hF
  generalize zdx l = p at *
  obtain ⟨sums, pb⟩ := p
  simp only at e1 p1 p2 p3 hF
  cases pb with
  | false =>
   rw [if_neg (by simp)] at hF
   rw [← hF] at hR'
   subst hR'
   simp [-getElem?_pos, zsn, v1, v5, v14, v15, v16, hlt, hx', hSo, e1, x1, x2, x3, x4]
   simp [zc7]
  | true =>
   rw [if_pos rfl] at hF
   have p3 := p3 rfl
   simp [-getElem?_pos, zsn, v1, v5, v14, v15, v16, hlt, hx', hSo, e1, x1, x2, x3, x4]
   obtain ⟨tgt, htgt⟩ : ∃ t, t = zfm i (zl0 sums) least 0 sums acc := ⟨_, rfl⟩
   rw [← htgt] at hF
   obtain ⟨p, hpe⟩ : ∃ p, p = st.nx := ⟨_, rfl⟩
   refine za3 (fun n' s => ∃ (b o' e' : Nat) (acc' : List Cnd), b + n' = sums.length ∧ acc'.length ≤ 16 * i + b ∧ zfm i (zl0 sums) least b (sums.drop b) acc' = tgt ∧ s.V 1 = iv least ∧ s.V 5 = .ref o' none e' 0 acc'.length ∧ s.V 6 = iv i ∧ s.V 8 = .ref p none st.ep 0 sums.length ∧ s.V 10 = iv b ∧ s.V 14 = .sl 1 (rss q H) ∧ s.V 15 = iv H.length ∧ s.V 16 = iv i ∧ ¬ o' = p ∧ o' < s.nx ∧ p < s.nx ∧ s.S o' = some (.row 6 (zc7 acc')) ∧ s.S p = some (.row 2 (zbt sums))) ?_ sums.length _ ⟨0, o, ep, acc, by omega, by omega, by rw [htgt]; simp, by simp [v1], by simp [v5], by simp, by simp [hpe], by simp, by simp [v14], by simp [v15], by simp [v16], by omega, by simp; omega, by simp; omega, by simp [x1, x2, x3, x4, hSo], by simp [hpe]⟩
   clear v1 v5 v14 v15 v16 hox hSo x1 x2 x3 x4
   generalize st.ep = ep2
   rintro n' s ⟨b, o', e', acc', hbn, hacc', hB, v1, v5, v6, v8, v10, v14, v15, v16, hop, hox, hpx, hSo, hSp⟩
   obtain ⟨x1, x2, x3, x4⟩ := fr hox
   obtain ⟨z1, z2, z3, z4⟩ := fr hpx
   obtain ⟨a1, a2, a3, a4⟩ := fr (show o' < s.nx + 1 by omega)
   obtain ⟨c1, c2, c3, c4⟩ := fr (show p < s.nx + 1 by omega)
   have hpo : ¬ p = o' := fun e => hop e.symm
   by_cases hb : b + 1 < sums.length
   ·obtain ⟨x, hx⟩ : ∃ x, sums[b]? = some x := ⟨_, List.getElem?_eq_getElem (by omega)⟩
    obtain ⟨y, hy⟩ : ∃ x, sums[sums.length - 1]? = some x := ⟨_, List.getElem?_eq_getElem (by omega)⟩
    have hxs := zwn hx
    have hys := zwn hy
    have hly := yke hy
    have w1 : IntKind.i64.wrap ((sums.length : Int) - 1) = ((sums.length - 1 : Nat) : Int) := by rw [w64 (by omega) (by omega)]; omega
    have w2 := w64 (x := (b : Int) + 1) (by omega) (by omega)
    have k1 : b < sums.length - 1 := by omega
    have k2 : b < sums.length := by omega
    have k3 : sums.length - 1 < sums.length := by omega
    have hr48 : zan 48 (acc'.length + 1) = true := by simp [zan]; omega
    have e2 := yim y x (p2 y (List.mem_of_getElem? hy)) (p2 x (List.mem_of_getElem? hx))
    rw [z9d acc' hx hb, hly] at hB
    generalize zge y x = d at *
    obtain ⟨⟨dn, dg⟩, db⟩ := d
    simp only [slc] at e2 hB
    cases db with
    | false =>
     rw [if_neg (by simp)] at hB
     rw [← hB] at hF
     simp only at hF
     rw [← hF] at hR'
     simp only [Option.getD_none] at hR'
     subst hR'
     simp [-getElem?_pos, zn5, v1, v5, v6, v8, v10, v14, v15, v16, hSo, hSp, hxs, hys, w1, k1, k2, k3, e2, hop, hpo, x1, x2, x3, x4, z1, z2, z3, z4]
     simp [zc7]
    | true =>
     rw [if_pos rfl] at hB
     by_cases g1 : least ≤ x.n
     ·by_cases g2 : least ≤ dn
      ·rw [if_pos ⟨g1, g2⟩] at hB
       have hsn := yjl acc' ⟨i, b, x, ⟨dn, dg⟩⟩
       simp only at hsn
       simp [-getElem?_pos, zn5, v1, v5, v6, v8, v10, v14, v15, v16, hSo, hSp, hxs, hys, w1, w2, k1, k2, k3, e2, g1, g2, hr1, hr48, hsn, hop, hpo, x1, x2, x3, x4, z1, z2, z3, z4, a1, a2, a3, a4, c1, c2, c3, c4]
       refine zaq (n' - 1) (by omega) ⟨b + 1, s.nx + 2, s.ep, acc' ++ [⟨i, b, x, ⟨dn, dg⟩⟩], by omega, by simp; omega, by rw [hly]; exact hB, by simp [v1], by simp, by simp [v6], by simp [v8], by simp, by simp [v14], by simp [v15], by simp [v16], by omega, by simp, by simp; omega, by simp, by simp [hop, hpo, x1, x2, x3, x4, z1, z2, z3, z4, hSp]⟩
      ·rw [if_neg (fun h => g2 h.2)] at hB
       simp [-getElem?_pos, zn5, v1, v5, v6, v8, v10, v14, v15, v16, hSo, hSp, hxs, hys, w1, w2, k1, k2, k3, e2, g1, g2, hop, hpo, x1, x2, x3, x4, z1, z2, z3, z4]
       refine zaq (n' - 1) (by omega) ⟨b + 1, o', e', acc', by omega, by omega, by rw [hly]; exact hB, by simp [v1], by simp [v5], by simp [v6], by simp [v8], by simp, by simp [v14], by simp [v15], by simp [v16], hop, by simp; omega, by simp; omega, by simp [x1, x2, x3, x4, hSo], by simp [z1, z2, z3, z4, hSp]⟩
     ·rw [if_neg (fun h => g1 h.1)] at hB
      simp [-getElem?_pos, zn5, v1, v5, v6, v8, v10, v14, v15, v16, hSo, hSp, hxs, hys, w1, w2, k1, k2, k3, e2, g1, hop, hpo, x1, x2, x3, x4, z1, z2, z3, z4]
      refine zaq (n' - 1) (by omega) ⟨b + 1, o', e', acc', by omega, by omega, by rw [hly]; exact hB, by simp [v1], by simp [v5], by simp [v6], by simp [v8], by simp, by simp [v14], by simp [v15], by simp [v16], hop, by simp; omega, by simp; omega, by simp [x1, x2, x3, x4, hSo], by simp [z1, z2, z3, z4, hSp]⟩
   ·rw [zys acc' hb] at hB
    rw [← hB] at hF
    simp only at hF
    have w1 : IntKind.i64.wrap ((sums.length : Int) - 1) = (sums.length : Int) - 1 := w64 (by omega) (by omega)
    have k1 : ¬ (b : Int) < (sums.length : Int) - 1 := by omega
    simp [-getElem?_pos, zn5, v8, v10, v16, hSp, w1, k1, hws]
    exact zaq (n - 1) (by omega) ⟨i + 1, o', e', acc', by omega, by omega, hF, by simp [v1], by simp [v5], by simp [v14], by simp [v15], by simp, by simp [hox], by simp [hSo]⟩
 ·rw [List.drop_eq_nil_of_le (by omega), zfn] at hF
  rw [← hF] at hR'
  simp only [Option.getD_some] at hR'
  subst hR'
  simp [-getElem?_pos, zsn, v5, v15, v16, hlt, hSo]
def zb9 (c v : List (List Int)) (g : List Int) (cfg : Cfg) (rows : List Int) (b : Bd) : Cnd × Bool := if zcz c v g cfg = true then (if (zck c v g rows).2 = true then zex cfg b (zg9 (zck c v g rows).1 cfg.rw) else (zoq, false)) else (zoq, false)
theorem z7q {b g : List Int} : ∀ (rows : List Int) (h h' : List Sl), (∀ x ∈ h, slI x) → zep b g rows h = some h' → ∀ x ∈ h', slI x
 | [], h, h', hh, e => by simp [zep] at e; subst e; exact hh
 | r :: rs, h, h', hh, e => by
  simp only [zep] at e
  split at e
  ·split at e
   ·rename_i s hs
    split at e
    ·refine z7q rs _ _ (fun x hx => ?_) e
     rcases List.mem_or_eq_of_mem_set hx with h1 | h1
     ·exact hh x h1
     ·subst h1
      obtain ⟨_, _, h3, _⟩ := zjk hs
      exact zq3 (hh _ (List.mem_of_getElem? h3))
    ·cases e
   ·cases e
  ·cases e
theorem ym2 (b g rows : List Int) (k : Int) : ∀ x ∈ (zdu b g rows k).1, slI x := by
 unfold zdu
 split
 ·cases h : zep b g rows (List.replicate k.toNat ⟨0, 0⟩) with
  | none => simp
  | some h' => exact z7q _ _ _ (fun x hx => by rw [List.eq_of_mem_replicate hx]; exact zyt) h
 ·simp
theorem z79 {g rows : List Int} : ∀ (c v : List (List Int)) (H : List (List Sl)), zcc g rows c v = some H → ∀ l ∈ H, ∀ x ∈ l, slI x
 | [], v, H, h => by simp [zcc] at h; subst h; simp
 | x :: c, [], H, h => by simp [zcc] at h; subst h; simp
 | x :: c, y :: v, H, h => by
  simp only [zcc] at h
  split at h
  ·simp only [Option.map_eq_some_iff] at h
   obtain ⟨H', h1, rfl⟩ := h
   intro l hl
   rcases List.mem_cons.mp hl with e | e
   ·subst e; exact ym2 _ _ _ _
   ·exact z79 c v H' h1 l e
  ·cases h
theorem ykx (c v : List (List Int)) (g rows : List Int) : ∀ l ∈ (zck c v g rows).1, ∀ x ∈ l, slI x := by
 unfold zck
 split
 ·cases h : zcc g rows c v with
  | none => simp
  | some H => exact z79 c v H h
 ·simp
theorem zyr (c v : List (List Int)) (g rows : List Int) : (zck c v g rows).1.length ≤ 4 := by
 by_cases h : zdf c v = true
 ·have := (zru c v g rows).1
  have := yak h
  omega
 ·unfold zck
  rw [if_neg h]; simp
theorem yn5 (c v : List (List Int)) (g rows : List Int) (least : Int) : (zg9 (zck c v g rows).1 least).length ≤ 1048576 ∧ ∀ x ∈ zg9 (zck c v g rows).1 least, zg5 x := by
 have h1 := zyr c v g rows
 have h2 := (zru c v g rows).2
 obtain ⟨h3, h4⟩ := z5g (least := least) h2
 exact ⟨by omega, fun x hx => z94 (by omega) (fun l hl => Nat.le_trans (h2 l hl) (by omega)) (h4 x hx)⟩
set_option maxHeartbeats 1000000 in
theorem yip (q : Bool) (c v : List (List Int)) (g : List Int) (cfg : Cfg) (rows : List Int) (b : Bd) (hc : ∀ l ∈ c, l.length ≤ 1048576) (hv : ∀ l ∈ v, l.length ≤ 1048576) (hg : g.length ≤ 1048576) (hr : rows.length ≤ 1048576) (hs : cfg.sg.length ≤ 1048576) (hgi : ∀ x ∈ g, inI x) : RUN T zmf [.agg [.sl 1 (rws q c), .sl 1 (rws q v)], .sl 1 (zac g), cfS cfg, .sl 1 (zac rows), .agg (bnd b)] = some ([.agg (cnd (zb9 c v g cfg rows b).1), bv (zb9 c v g cfg rows b).2], []) := by
 have e1 := zx0 q c v g cfg (fun l hl => Nat.le_trans (hc l hl) (by omega)) (fun l hl => Nat.le_trans (hv l hl) (by omega)) (by omega) (by omega)
 have e2 := yh6 q c v g rows hc hv hg hr hgi
 obtain ⟨f1, f2⟩ := yn5 c v g rows cfg.rw
 have e3 := yio true (zck c v g rows).1 cfg.rw (by have := zyr c v g rows; omega) (fun l hl => by have := (zru c v g rows).2 l hl; omega) (ykx c v g rows)
 have e4 := yij cfg b (zg9 (zck c v g rows).1 cfg.rw) f1 hs f2
 unfold zb9
 simp only [zfb, bnd] at e1 e4
 generalize zcz c v g cfg = t at *
 generalize zck c v g rows = H at *
 obtain ⟨H, hb⟩ := H
 simp only at e2 e3 e4 ⊢
 generalize zex cfg b (zg9 H cfg.rw) = r at *
 generalize zg9 H cfg.rw = L at *
 obtain ⟨r, rb⟩ := r
 simp only [cnd] at e4 ⊢
 refine zal z06 rfl ?_
 cases t with
 | false => simp [-getElem?_pos, zn1, zn2, bnd, e1, zoq]
 | true =>
  cases hb with
  | false => simp [-getElem?_pos, zn1, zn2, bnd, e1, e2, zoq]
  | true =>
   simp [-getElem?_pos, zn1, zn2, bnd, e1, e2, e3, e4]
def zha (g : List Int) (rows : List Int) : Sl := ⟨rows.length, (rows.map fun r => (atI g r).getD 0).sum⟩
def zz5 (bins : List Int) (b r : Int) : Bool := match atI bins r with
 | some x => decide (x ≤ b)
 | none => false
def z0p (bins : List Int) (b r : Int) : Bool := match atI bins r with
 | some x => !decide (x ≤ b)
 | none => false
def zlu (bins rows : List Int) (b : Int) : List Int := rows.filter (zz5 bins b)
def zli (bins rows : List Int) (b : Int) : List Int := rows.filter (z0p bins b)
structure Pnd where
 r : List Int
 b : Bd
 l : Int
def zhp (c v : List (List Int)) (cfg : Cfg) (x : Pnd) (k : Cnd) : Pnd := ⟨zlu ((atI v k.f).getD []) x.r k.b, (zjz (zfa cfg k.f) x.b (zch cfg x.b k).1 (zch cfg x.b k).2.1).1, x.l + 1⟩
def zh3 (c v : List (List Int)) (cfg : Cfg) (x : Pnd) (k : Cnd) : Pnd := ⟨zli ((atI v k.f).getD []) x.r k.b, (zjz (zfa cfg k.f) x.b (zch cfg x.b k).1 (zch cfg x.b k).2.1).2, x.l + 1⟩
def zeo (g : List Int) (cfg : Cfg) (x : Pnd) : Nd := ⟨-1, 0, 0, 0, (zdv (zha g x.r) cfg.la x.b).1⟩
def zrp (c : List (List Int)) (k : Cnd) (n : Nat) : Nd := ⟨k.f, (atI ((atI c k.f).getD []) k.b).getD 0, n, n + 1, 0⟩
def goes (c v : List (List Int)) (g : List Int) (cfg : Cfg) (x : Pnd) : Bool := decide (x.l < cfg.de) && (zb9 c v g cfg x.r x.b).2
def zcv (c v : List (List Int)) (g : List Int) (cfg : Cfg) : Nat → List Pnd → Nat → List Nd → List Nd
 | 0, _, _, out => out
 | n + 1, q, i, out => match q[i]? with
  | none => out
  | some x => if goes c v g cfg x = true then zcv c v g cfg n (q ++ [zhp c v cfg x (zb9 c v g cfg x.r x.b).1, zh3 c v cfg x (zb9 c v g cfg x.r x.b).1]) (i + 1) (out ++ [zrp c (zb9 c v g cfg x.r x.b).1 q.length]) else zcv c v g cfg n q (i + 1) (out ++ [zeo g cfg x])
def zhm : Bd := ⟨-1099511627776, 1099511627776⟩
def zdz (g : List Int) : Pnd := ⟨(List.range g.length).map fun (i : Nat) => (i : Int), zhm, 0⟩
def zeu (c v : List (List Int)) (g : List Int) (cfg : Cfg) : List Nd × Bool := if zcz c v g cfg = true then (zcv c v g cfg 32 [zdz g] 0 [], true) else ([], false)
def pot (d : Int) (x : Pnd) : Nat := 2 ^ (d + 1 - x.l).toNat - 1
def zhy (d : Int) (l : List Pnd) : Nat := (l.map (pot d)).sum
theorem zw7 (d : Int) (x : Pnd) (l : List Pnd) : zhy d (x :: l) = pot d x + zhy d l := by simp [zhy]
theorem yji (d : Int) (l m : List Pnd) : zhy d (l ++ m) = zhy d l + zhy d m := by simp [zhy]
theorem yp4 {d : Int} {x : Pnd} (h : x.l ≤ d) : 1 ≤ pot d x := by
 unfold pot
 obtain ⟨k, hk⟩ : ∃ k, (d + 1 - x.l).toNat = k + 1 := ⟨(d - x.l).toNat, by omega⟩
 rw [hk, Nat.pow_succ]
 have := Nat.one_le_two_pow (n := k)
 omega
theorem yky {d : Int} {x y z : Pnd} (h : x.l < d) (hy : y.l = x.l + 1) (hz : z.l = x.l + 1) : pot d x = pot d y + pot d z + 1 := by
 unfold pot
 rw [hy, hz]
 obtain ⟨k, hk⟩ : ∃ k, (d + 1 - x.l).toNat = k + 1 := ⟨(d - x.l).toNat, by omega⟩
 have hk2 : (d + 1 - (x.l + 1)).toNat = k := by omega
 rw [hk, hk2, Nat.pow_succ]
 have := Nat.one_le_two_pow (n := k)
 omega
def zwu (n : Nat) (d : Int) (x : Pnd) : Prop := (∀ r ∈ x.r, 0 ≤ r ∧ r < n) ∧ x.r.length ≤ n ∧ 0 ≤ x.l ∧ x.l ≤ d
theorem z49 {bins rows : List Int} {b r : Int} : (r ∈ zlu bins rows b → r ∈ rows) ∧ (r ∈ zli bins rows b → r ∈ rows) := ⟨fun h => (List.mem_filter.mp h).1, fun h => (List.mem_filter.mp h).1⟩
theorem ypj {n : Nat} {c v : List (List Int)} {cfg : Cfg} {x : Pnd} {k : Cnd} (h : zwu n cfg.de x) (hl : x.l < cfg.de) : zwu n cfg.de (zhp c v cfg x k) ∧ zwu n cfg.de (zh3 c v cfg x k) := by
 obtain ⟨h1, h2, h3, h4⟩ := h
 refine ⟨⟨fun r hr => h1 r (z49.1 hr), Nat.le_trans (List.length_filter_le _ _) h2, ?_, ?_⟩, ⟨fun r hr => h1 r (z49.2 hr), Nat.le_trans (List.length_filter_le _ _) h2, ?_, ?_⟩⟩
 ·show 0 ≤ x.l + 1; omega
 ·show x.l + 1 ≤ cfg.de; omega
 ·show 0 ≤ x.l + 1; omega
 ·show x.l + 1 ≤ cfg.de; omega
theorem zy2 {c v : List (List Int)} {g : List Int} {cfg : Cfg} (h : zcz c v g cfg = true) : zdf c v = true ∧ zbw cfg = true ∧ g.length = zcq v ∧ (∀ x ∈ g, -2199023255552 ≤ x ∧ x ≤ 2199023255552) := by
 unfold zcz at h
 simp only [Bool.and_eq_true, decide_eq_true_eq] at h
 exact ⟨h.1.1.1, h.1.1.2, by omega, fun x hx => za6.mp (List.all_eq_true.mp h.2 x hx)⟩
theorem z8j {c v : List (List Int)} (h : zdf c v = true) : 1 ≤ zcq v ∧ zcq v ≤ 40 := by
 unfold zdf at h
 simp only [Bool.and_eq_true] at h
 have := za6.mp h.1.2
 omega
theorem yaw {cfg : Cfg} (h : zbw cfg = true) : (0 ≤ cfg.de ∧ cfg.de ≤ 4) ∧ cfg.sg.length ≤ 4 ∧ (1 ≤ cfg.la ∧ cfg.la ≤ 100) := by
 unfold zbw at h
 simp only [Bool.and_eq_true, decide_eq_true_eq] at h
 have h1 := za6.mp h.1.1.1.1.1.1.1.2
 have h2 := za6.mp h.1.1.1.1.1.2
 omega
theorem yp1 {c v : List (List Int)} {g : List Int} {cfg : Cfg} {rows : List Int} {b : Bd} (h : (zb9 c v g cfg rows b).2 = true) : zor (zck c v g rows).1 (zb9 c v g cfg rows b).1 ∧ (zck c v g rows).2 = true := by
 unfold zb9 at h ⊢
 split
 ·rename_i h1
  rw [if_pos h1] at h
  split
  ·rename_i h2
   rw [if_pos h2] at h
   obtain ⟨h3, _, _⟩ := ylo h
   exact ⟨(z5g (zru c v g rows).2).2 _ h3, h2⟩
  ·rename_i h2
   rw [if_neg h2] at h; cases h
 ·rename_i h1
  rw [if_neg h1] at h; cases h
theorem yiq : RUN T zml [] = some ([.agg (bnd zhm)], []) := by
 refine zal z1e rfl ?_
 simp [zsa, zsb, bnd, zhm]
theorem yir : RUN T zmw [] = some ([.agg (bnd zhm)], []) := by
 refine zal z10 rfl ?_
 simp [zs6, zs7, bnd, zhm]
def upl (n : Nat) : List Int := (List.range n).map fun (i : Nat) => (i : Int)
theorem z6i (n : Nat) : upl n ++ [(n : Int)] = upl (n + 1) := by simp [upl, List.range_succ]
@[simp] theorem y2f (n : Nat) : (upl n).length = n := by simp [upl]
@[simp] theorem y6n : upl 0 = [] := rfl
theorem yis (n : Nat) (h1 : 1 ≤ n) (h2 : n ≤ 40) : RUN T zmv [iv n] = some ([.own 1 (zac (upl n))], []) := by
 have e := zda n 1 40
 rw [za6.mpr (by omega)] at e
 have hr0 : zan 8 0 = true := by decide
 have hr1 : zan 8 1 = true := by decide
 refine zal z1z rfl ?_
 simp [-getElem?_pos, zs4, zs5, -zb8, e, hr0]
 refine za3 (fun k st => ∃ (i o e : Nat), i + k = n ∧ st.V 3 = .ref o none e 0 i ∧ st.V 10 = iv n ∧ st.V 11 = iv i ∧ o < st.nx ∧ st.S o = some (.row 1 (zac (upl i)))) ?_ n _ ⟨0, 0, 0, by omega, by simp⟩
 rintro k st ⟨i, o, ep, hi, v3, v10, v11, hox, hSo⟩
 obtain ⟨x1, x2, x3, x4⟩ := fr hox
 by_cases hlt : i < n
 ·have hws := wS hlt (by omega : n ≤ 9223372036854775807)
  have hr8 := zdd (n := i + 1) (by omega)
  have hsn : zac (upl i) ++ [[iv (i : Int)]] = zac (upl (i + 1)) := by rw [zc3, z6i]
  simp [-getElem?_pos, zxn, v3, v10, v11, hSo, hlt, hws, hr1, hr8, hsn, x1, x2, x3, x4]
  exact zaq (k - 1) (by omega) ⟨i + 1, st.nx + 1, st.ep, by omega, by simp, by simp [v10], by simp, by simp, by simp⟩
 ·have hin : i = n := by omega
  subst hin
  simp [-getElem?_pos, zxn, v3, v10, v11, hSo, hlt]
theorem yit (n : Nat) (h2 : n ≤ 40) : RUN T zmk [iv n] = some ([.own 1 (zac (upl n))], []) := by
 have hr0 : zan 8 0 = true := by decide
 have hr1 : zan 8 1 = true := by decide
 refine zal z1d rfl ?_
 simp [-getElem?_pos, zr8, zr9, hr0]
 refine za3 (fun k st => ∃ (i o e : Nat), i + k = n ∧ st.V 0 = iv n ∧ st.V 3 = .ref o none e 0 i ∧ st.V 4 = iv i ∧ o < st.nx ∧ st.S o = some (.row 1 (zac (upl i)))) ?_ n _ ⟨0, 0, 0, by omega, by simp⟩
 rintro k st ⟨i, o, ep, hi, v0, v3, v4, hox, hSo⟩
 obtain ⟨x1, x2, x3, x4⟩ := fr hox
 have h3 : (n : Int) ≤ 40 := by omega
 by_cases hlt : i < n
 ·have hws := wS hlt (by omega : n ≤ 9223372036854775807)
  have hr8 := zdd (n := i + 1) (by omega)
  have hsn : zac (upl i) ++ [[iv (i : Int)]] = zac (upl (i + 1)) := by rw [zc3, z6i]
  simp [-getElem?_pos, zxl, v0, v3, v4, hSo, hlt, h3, hws, hr1, hr8, hsn, x1, x2, x3, x4]
  exact zaq (k - 1) (by omega) ⟨i + 1, st.nx + 1, st.ep, by omega, by simp [v0], by simp, by simp, by simp, by simp⟩
 ·have hin : i = n := by omega
  subst hin
  simp [-getElem?_pos, zxl, v0, v3, v4, hSo, hlt]
def zeg (g rows : List Int) (i : Nat) : Int := ((rows.take i).map fun r => (atI g r).getD 0).sum
theorem z7f {g rows : List Int} {i : Nat} {r x : Int} (hr : rows[i]? = some r) (hx : atI g r = some x) : zeg g rows (i + 1) = zeg g rows i + x := by
 unfold zeg
 rw [List.take_succ, hr]
 simp [hx]
theorem zwr {g rows : List Int} (hg : ∀ x ∈ g, -2199023255552 ≤ x ∧ x ≤ 2199023255552) : ∀ i : Nat, i ≤ rows.length → -2199023255552 * (i : Int) ≤ zeg g rows i ∧ zeg g rows i ≤ 2199023255552 * (i : Int)
 | 0, _ => by simp [zeg]
 | i + 1, h => by
  have ih := zwr (rows := rows) hg i (by omega)
  obtain ⟨r, hr⟩ : ∃ r, rows[i]? = some r := ⟨_, List.getElem?_eq_getElem (by omega)⟩
  have e : zeg g rows (i + 1) = zeg g rows i + (atI g r).getD 0 := by
   unfold zeg
   rw [List.take_succ, hr]
   simp
  rw [e]
  cases hx : atI g r with
  | none => simp only [Option.getD_none]; omega
  | some x =>
   obtain ⟨_, _, h3, _⟩ := zjk hx
   have := hg x (List.mem_of_getElem? h3)
   simp only [Option.getD_some]; omega
theorem zy8 (g rows : List Int) : zha g rows = ⟨rows.length, zeg g rows rows.length⟩ := by simp [zha, zeg]
theorem z7c {g rows : List Int} (hg : ∀ x ∈ g, -2199023255552 ≤ x ∧ x ≤ 2199023255552) (hl : rows.length ≤ 1048576) : slI (zha g rows) := by
 rw [zy8]
 have := zwr (rows := rows) hg rows.length (by omega)
 exact ⟨by unfold inI; simp only; omega, by unfold inI; simp only; omega⟩
theorem yiu (g rows : List Int) (hg : ∀ x ∈ g, -2199023255552 ≤ x ∧ x ≤ 2199023255552) (hr : ∀ r ∈ rows, 0 ≤ r ∧ r < g.length) (hl : rows.length ≤ 1048576) : RUN T zmx [.sl 1 (zac g), .sl 1 (zac rows)] = some ([.agg (slc (zha g rows))], []) := by
 rw [zy8]
 refine zal z12 rfl ?_
 simp [-getElem?_pos, zs8, zs9]
 refine za3 (fun k st => ∃ i : Nat, i + k = rows.length ∧ st.V 0 = .sl 1 (zac g) ∧ st.V 4 = .ptr 0 none 0 0 0 ∧ st.V 5 = .ptr 1 none 0 0 0 ∧ st.V 11 = .sl 1 (zac rows) ∧ st.V 12 = iv rows.length ∧ st.V 13 = iv i ∧ 1 < st.nx ∧ st.S 1 = some (.box [iv rows.length, iv (zeg g rows i)]) ∧ st.S 0 = some (.box [iv 0, iv 0])) ?_ rows.length _ ⟨0, by omega, by simp, by simp, by simp, by simp, by simp, by simp, by simp, by simp [zeg], by simp⟩
 rintro k st ⟨i, hi, v0, v4, v5, v11, v12, v13, h1x, hS1, hS0⟩
 obtain ⟨z1, z2, z3, z4⟩ := fr h1x
 by_cases hlt : i < rows.length
 ·obtain ⟨r, hrr⟩ : ∃ r, rows[i]? = some r := ⟨_, List.getElem?_eq_getElem hlt⟩
  obtain ⟨r0, r1⟩ := hr r (List.mem_of_getElem? hrr)
  obtain ⟨rn, rfl⟩ : ∃ n : Nat, r = n := ⟨r.toNat, by omega⟩
  obtain ⟨x, hx⟩ : ∃ x, g[rn]? = some x := ⟨_, List.getElem?_eq_getElem (by omega)⟩
  have hrn : rn < g.length := by omega
  have hr' := zbj hrr
  have hx' := zbj hx
  have hws := wS hlt (by omega : rows.length ≤ 9223372036854775807)
  have hs := z7f (g := g) hrr (x := x) (by unfold atI; rw [if_pos r0]; simpa using hx)
  have b1 := zwr (rows := rows) hg (i + 1) (by omega)
  rw [hs] at b1
  have hw := w64 (x := zeg g rows i + x) (by omega) (by omega)
  simp [-getElem?_pos, zxo, v0, v4, v5, v11, v12, v13, hS1, hS0, hlt, hr', hx', hrn, hw, hws, z1, z2, z3, z4]
  exact zaq (k - 1) (by omega) ⟨i + 1, by omega, by simp [v0], by simp [v4], by simp [v5], by simp [v11], by simp [v12], by simp, by simp [h1x], by simp [hs], by simp [hS0]⟩
 ·have hin : i = rows.length := by omega
  subst hin
  simp [-getElem?_pos, zxo, v4, v5, v12, v13, hS1, hS0, slc]
set_option maxHeartbeats 1000000 in
theorem yiv (bins rows : List Int) (b : Int) (hb : bins.length ≤ 1048576) (hl : rows.length ≤ 1048576) : RUN T zmz [.sl 1 (zac bins), .sl 1 (zac rows), iv b] = some ([.own 1 (zac (zlu bins rows b)), .own 1 (zac (zli bins rows b))], []) := by
 have hr0 : zan 8 0 = true := by decide
 have hr1 : zan 8 1 = true := by decide
 have w1 := w64 (x := (bins.length : Int) - 1) (by omega) (by omega)
 refine zal z14 rfl ?_
 simp [-getElem?_pos, zta, ztb, hr0]
 refine za3 (fun k st => ∃ (i o e p e2 : Nat) (m l : List Int), i + k = rows.length ∧ m.length ≤ i ∧ l.length ≤ i ∧ m ++ (rows.drop i).filter (zz5 bins b) = zlu bins rows b ∧ l ++ (rows.drop i).filter (z0p bins b) = zli bins rows b ∧ st.V 0 = .sl 1 (zac bins) ∧ st.V 2 = iv b ∧ st.V 8 = .ref o none e 0 m.length ∧ st.V 9 = .ref p none e2 0 l.length ∧ st.V 14 = .sl 1 (zac rows) ∧ st.V 15 = iv rows.length ∧ st.V 16 = iv i ∧ ¬ o = p ∧ o < st.nx ∧ p < st.nx ∧ st.S o = some (.row 1 (zac m)) ∧ st.S p = some (.row 1 (zac l))) ?_ rows.length _ ⟨0, 0, 0, 1, 0, [], [], by omega, by simp, by simp, by simp [zlu], by simp [zli], by simp⟩
 rintro k st ⟨i, o, e, p, e2, m, l, hi, hml, hll, hm, hl2, v0, v2, v8, v9, v14, v15, v16, hop, hox, hpx, hSo, hSp⟩
 obtain ⟨x1, x2, x3, x4⟩ := fr hox
 obtain ⟨z1, z2, z3, z4⟩ := fr hpx
 have hpo : ¬ p = o := fun e => hop e.symm
 by_cases hlt : i < rows.length
 ·obtain ⟨r, hrr⟩ : ∃ r, rows[i]? = some r := ⟨_, List.getElem?_eq_getElem hlt⟩
  have hr' := zbj hrr
  have hws := wS hlt (by omega : rows.length ≤ 9223372036854775807)
  have e1 := zda r 0 ((bins.length : Int) - 1)
  rw [zf4 hrr, List.filter_cons] at hm hl2
  have hB : zz5 bins b r = match atI bins r with
   | some x => decide (x ≤ b)
   | none => false := rfl
  have hC : z0p bins b r = match atI bins r with
   | some x => !decide (x ≤ b)
   | none => false := rfl
  have r1 := zdd (n := m.length + 1) (by omega)
  have r2 := zdd (n := l.length + 1) (by omega)
  have s1 := zc3 m r
  have s2 := zc3 l r
  cases hx : atI bins r with
  | none =>
   have hn := zrz hx
   rw [show zak r 0 ((bins.length : Int) - 1) = false from by
    cases hw : zak r 0 ((bins.length : Int) - 1) with
    | false => rfl
    | true => have := za6.mp hw; omega] at e1
   rw [hx] at hB hC
   rw [hB] at hm
   rw [hC] at hl2
   simp [-getElem?_pos, zp2, -zb8, v0, v2, v8, v9, v14, v15, v16, hSo, hSp, hlt, hr', hws, w1, e1]
   exact zaq (k - 1) (by omega) ⟨i + 1, o, e, p, e2, m, l, by omega, by omega, by omega, by simpa using hm, by simpa using hl2, by simp [v0], by simp [v2], by simp [v8], by simp [v9], by simp [v14], by simp [v15], by simp, hop, by simp [hox], by simp [hpx], by simp [hSo], by simp [hSp]⟩
  | some x =>
   obtain ⟨rn, rfl, hbr, hbl⟩ := zjk hx
   rw [show zak rn 0 ((bins.length : Int) - 1) = true from za6.mpr (by omega)] at e1
   rw [hx] at hB hC
   rw [hB] at hm
   rw [hC] at hl2
   have hb' := zbj hbr
   by_cases hc : x ≤ b
   ·have d1 : decide (x ≤ b) = true := decide_eq_true hc
    simp only [d1, if_true, Bool.not_true, Bool.false_eq_true, if_false] at hm hl2
    simp [-getElem?_pos, zp2, -zb8, v0, v2, v8, v9, v14, v15, v16, hSo, hSp, hlt, hr', hws, w1, e1, hb', hbl, hc, hr1, r1, s1, hop, hpo, x1, x2, x3, x4, z1, z2, z3, z4]
    exact zaq (k - 1) (by omega) ⟨i + 1, st.nx + 1, st.ep, p, e2, m ++ [(rn : Int)], l, by omega, by simp; omega, by omega, by simpa using hm, hl2, by simp [v0], by simp [v2], by simp, by simp [v9], by simp [v14], by simp [v15], by simp, by omega, by simp, by simp; omega, by simp, by simp [hop, hpo, x1, x2, x3, x4, z1, z2, z3, z4, hSp]⟩
   ·have d1 : decide (x ≤ b) = false := decide_eq_false hc
    simp only [d1, if_true, Bool.not_false, Bool.false_eq_true, if_false] at hm hl2
    simp [-getElem?_pos, zp2, -zb8, v0, v2, v8, v9, v14, v15, v16, hSo, hSp, hlt, hr', hws, w1, e1, hb', hbl, hc, hr1, r2, s2, hop, hpo, x1, x2, x3, x4, z1, z2, z3, z4]
    exact zaq (k - 1) (by omega) ⟨i + 1, o, e, st.nx + 1, st.ep, m, l ++ [(rn : Int)], by omega, by omega, by simp; omega, hm, by simpa using hl2, by simp [v0], by simp [v2], by simp [v8], by simp, by simp [v14], by simp [v15], by simp, by omega, by simp; omega, by simp, by simp [hop, hpo, x1, x2, x3, x4, z1, z2, z3, z4, hSo], by simp⟩
 ·rw [List.drop_eq_nil_of_le (by omega)] at hm hl2
  simp only [List.filter_nil, List.append_nil] at hm hl2
  subst hm hl2
  simp [-getElem?_pos, zp2, v8, v9, v14, v15, v16, hSo, hSp, hlt, hop, hpo]
def pnd (x : Pnd) : List PV := [.own 1 (zac x.r), iv x.b.lo, iv x.b.hi, iv x.l]
def zgu (l : List Pnd) : List (List PV) := l.map pnd
@[simp] theorem yzz (l : List Pnd) : (zgu l).length = l.length := by simp [zgu]
theorem z9e {l : List Pnd} {i : Nat} {x : Pnd} (h : l[i]? = some x) : (zgu l)[i]? = some [.own 1 (zac x.r), iv x.b.lo, iv x.b.hi, iv x.l] := by simp [zgu, h, pnd]
theorem yjd {l : List Pnd} {i : Nat} {x : Pnd} (h : l[i]? = some x) : zbk (zgu l) i 0 = some (1, zac x.r) := by simp [zbk, z9e h]
theorem yl2 (l : List Pnd) (x y : Pnd) : zgu l ++ [[.own 1 (zac x.r), iv x.b.lo, iv x.b.hi, iv x.l], [.own 1 (zac y.r), iv y.b.lo, iv y.b.hi, iv y.l]] = zgu (l ++ [x, y]) := by simp [zgu, pnd]
theorem zw3 {α : Type} {l : List α} {i : Nat} {x : α} (h : l[i]? = some x) : atI l (i : Int) = some x := by
 unfold atI
 rw [if_pos (by omega)]
 simpa using h
theorem yo0 {b g rows : List Int} {k : Int} (h : (zdu b g rows k).2 = true) : ((zdu b g rows k).1.length : Int) = k := by
 unfold zdu at h ⊢
 split
 ·rename_i hk
  rw [if_pos hk] at h
  have hk' := za6.mp hk
  cases e : zep b g rows (List.replicate k.toNat ⟨0, 0⟩) with
  | none => rw [e] at h; cases h
  | some h' => have := zz0 _ _ _ e; simp at this; simp only; omega
 ·rename_i hk
  rw [if_neg hk] at h; cases h
theorem z5d {g rows : List Int} : ∀ (c v : List (List Int)) (H : List (List Sl)) (f : Nat) (h : List Sl), zcc g rows c v = some H → H[f]? = some h → ∃ x y, c[f]? = some x ∧ v[f]? = some y ∧ h.length = x.length + 1
 | [], v, H, f, h, e, hf => by simp [zcc] at e; subst e; simp at hf
 | x :: c, [], H, f, h, e, hf => by simp [zcc] at e; subst e; simp at hf
 | x :: c, y :: v, H, f, h, e, hf => by
  simp only [zcc] at e
  split at e
  ·rename_i hp
   simp only [Option.map_eq_some_iff] at e
   obtain ⟨H', h1, rfl⟩ := e
   cases f with
   | zero =>
    simp at hf
    subst hf
    have := yo0 hp
    exact ⟨x, y, rfl, rfl, by omega⟩
   | succ f =>
    simp at hf
    obtain ⟨x', y', h2, h3, h4⟩ := z5d c v H' f h h1 hf
    exact ⟨x', y', by simpa using h2, by simpa using h3, h4⟩
  ·cases e
theorem ypv {c v : List (List Int)} {g rows : List Int} {f : Nat} {h : List Sl} (hb : (zck c v g rows).2 = true) (hf : (zck c v g rows).1[f]? = some h) : ∃ x y, c[f]? = some x ∧ v[f]? = some y ∧ h.length = x.length + 1 := by
 unfold zck at hb hf
 split at hb
 ·rename_i hg
  rw [if_pos hg] at hf
  cases e : zcc g rows c v with
  | none => rw [e] at hb; cases hb
  | some H => rw [e] at hf; exact z5d c v H f h e hf
 ·cases hb
theorem yjq {c v : List (List Int)} {g : List Int} {cfg : Cfg} {rows : List Int} {b : Bd} (h : (zb9 c v g cfg rows b).2 = true) : ∃ (f k : Nat) (x y : List Int) (z : Int), (zb9 c v g cfg rows b).1.f = f ∧ (zb9 c v g cfg rows b).1.b = k ∧ c[f]? = some x ∧ v[f]? = some y ∧ x[k]? = some z ∧ zg5 (zb9 c v g cfg rows b).1 := by
 obtain ⟨h1, h2⟩ := yp1 h
 have hI := z94 (by have := zyr c v g rows; omega) (fun l hl => Nat.le_trans ((zru c v g rows).2 l hl) (by omega)) h1
 obtain ⟨f, k, l, e1, e2, e3, e4, _, _⟩ := h1
 obtain ⟨x, y, hx, hy, hl⟩ := ypv h2 e3
 exact ⟨f, k, x, y, x[k]'(by omega), e1, e2, hx, hy, List.getElem?_eq_getElem (by omega), hI⟩
theorem yk4 {x lo hi : Int} (h : lo ≤ hi) : lo ≤ zfo x lo hi ∧ zfo x lo hi ≤ hi := by
 unfold zfo
 split
 ·omega
 ·split <;> omega
theorem yja {b : Bd} (h : zg8 b = true) : b.lo ≤ b.hi ∧ -1099511627776 ≤ b.lo ∧ b.hi ≤ 1099511627776 := by
 unfold zg8 at h
 simp only [Bool.and_eq_true, decide_eq_true_eq] at h
 have h1 := h.1.2
 have h2 := h.2
 unfold zf9 at h1 h2
 have := za6.mp h1
 have := za6.mp h2
 omega
theorem z8e (s : Sl) (l : Int) (b : Bd) : -1099511627776 ≤ (zdv s l b).1 ∧ (zdv s l b).1 ≤ 1099511627776 := by
 unfold zdv
 split
 ·rename_i h
  simp only [Bool.and_eq_true] at h
  obtain ⟨h1, h2, h3⟩ := yja h.2
  have := yk4 (x := (fdv s.g (s.n + l)).1) h1
  simp only; omega
 ·simp
theorem z40 (c : Cfg) (b : Bd) (x : Cnd) : inI (zch c b x).1 ∧ inI (zch c b x).2.1 := by
 have h1 := z8e x.a c.la b
 have h2 := z8e x.z c.la b
 unfold zch inI
 split
 ·simp only; omega
 ·simp
def NC (S : Nat → Option Ob) (nx oq : Nat) (m : List Nd) (x : PV) : Prop := (x = .e0 ∧ m = []) ∨ ∃ o e, x = .ref o none e 0 m.length ∧ 5 < o ∧ o < nx ∧ ¬ o = oq ∧ S o = some (.row 5 (m.map nd))
theorem yn0 {c v : List (List Int)} {g : List Int} {cfg : Cfg} {n : Nat} {q : List Pnd} {i : Nat} {out : List Nd} (h : q[i]? = none) : zcv c v g cfg n q i out = out := by
 cases n with
 | zero => rfl
 | succ n => rw [zcv, h]
theorem yni {c v : List (List Int)} {g : List Int} {cfg : Cfg} {n : Nat} {q : List Pnd} {i : Nat} {out : List Nd} {x : Pnd} (h : q[i]? = some x) (hg : goes c v g cfg x = false) : zcv c v g cfg (n + 1) q i out = zcv c v g cfg n q (i + 1) (out ++ [zeo g cfg x]) := by
 rw [zcv, h]; simp [hg]
theorem ykq {c v : List (List Int)} {g : List Int} {cfg : Cfg} {n : Nat} {q : List Pnd} {i : Nat} {out : List Nd} {x : Pnd} (h : q[i]? = some x) (hg : goes c v g cfg x = true) : zcv c v g cfg (n + 1) q i out = zcv c v g cfg n (q ++ [zhp c v cfg x (zb9 c v g cfg x.r x.b).1, zh3 c v cfg x (zb9 c v g cfg x.r x.b).1]) (i + 1) (out ++ [zrp c (zb9 c v g cfg x.r x.b).1 q.length]) := by
 rw [zcv, h]; simp [hg]
structure GI (c v : List (List Int)) (g : List Int) (cfg : Cfg) (n : Nat) (q : List Pnd) (i : Nat) (out : List Nd) : Prop where
 n1 : i + n = 32
 le : i ≤ q.length
 ql : q.length ≤ 2 * i + 1
 ol : out.length = i
 po : zhy cfg.de (q.drop i) ≤ n
 ok : ∀ x ∈ q, zwu g.length cfg.de x
 go : zcv c v g cfg n q i out = zcv c v g cfg 32 [zdz g] 0 []
theorem GI.leaf {c v : List (List Int)} {g : List Int} {cfg : Cfg} {n : Nat} {q : List Pnd} {i : Nat} {out : List Nd} {x : Pnd} (h : GI c v g cfg n q i out) (hx : q[i]? = some x) (hg : goes c v g cfg x = false) : 1 ≤ n ∧ GI c v g cfg (n - 1) q (i + 1) (out ++ [zeo g cfg x]) := by
 have hp := h.po
 rw [zf4 hx, zw7] at hp
 have := yp4 (h.ok x (List.mem_of_getElem? hx)).2.2.2
 have hlt := (List.getElem?_eq_some_iff.mp hx).1
 obtain ⟨m, rfl⟩ : ∃ m, n = m + 1 := ⟨n - 1, by omega⟩
 have := h.n1
 have := h.ql
 exact ⟨by omega, by simp; omega, by omega, by omega, by simp [h.ol], by simp; omega, h.ok, by rw [← h.go, yni hx hg]; rfl⟩
theorem GI.cut {c v : List (List Int)} {g : List Int} {cfg : Cfg} {n : Nat} {q : List Pnd} {i : Nat} {out : List Nd} {x : Pnd} (h : GI c v g cfg n q i out) (hx : q[i]? = some x) (hg : goes c v g cfg x = true) : 1 ≤ n ∧ GI c v g cfg (n - 1) (q ++ [zhp c v cfg x (zb9 c v g cfg x.r x.b).1, zh3 c v cfg x (zb9 c v g cfg x.r x.b).1]) (i + 1) (out ++ [zrp c (zb9 c v g cfg x.r x.b).1 q.length]) := by
 have hp := h.po
 have hlt := (List.getElem?_eq_some_iff.mp hx).1
 have hxo := h.ok x (List.mem_of_getElem? hx)
 rw [zf4 hx, zw7] at hp
 have hlv : x.l < cfg.de := by
  unfold goes at hg
  simp only [Bool.and_eq_true, decide_eq_true_eq] at hg
  exact hg.1
 have hk := yky (y := zhp c v cfg x (zb9 c v g cfg x.r x.b).1) (z := zh3 c v cfg x (zb9 c v g cfg x.r x.b).1) hlv rfl rfl
 obtain ⟨m, rfl⟩ : ∃ m, n = m + 1 := ⟨n - 1, by omega⟩
 have := h.n1
 have := h.ql
 obtain ⟨ko1, ko2⟩ := ypj (c := c) (v := v) (k := (zb9 c v g cfg x.r x.b).1) hxo hlv
 refine ⟨by omega, by simp; omega, by simp; omega, by simp; omega, by simp [h.ol], ?_, fun y hy => ?_, by rw [← h.go, ykq hx hg]; rfl⟩
 ·rw [List.drop_append_of_le_length (by omega), yji, zw7, zw7]
  have : zhy cfg.de ([] : List Pnd) = 0 := rfl
  simp only [Nat.add_sub_cancel]
  omega
 ·rcases List.mem_append.mp hy with e | e
  ·exact h.ok y e
  ·simp only [List.mem_cons, List.not_mem_nil, or_false] at e
   rcases e with e | e
   ·subst e; exact ko1
   ·subst e; exact ko2
theorem GI.start {c v : List (List Int)} {g : List Int} {cfg : Cfg} (h : zcz c v g cfg = true) : GI c v g cfg 32 [zdz g] 0 [] := by
 obtain ⟨h1, h2, h3, h4⟩ := zy2 h
 obtain ⟨d1, d2⟩ := (yaw h2).1
 refine ⟨rfl, by simp, by simp, rfl, ?_, fun x hx => ?_, rfl⟩
 ·simp only [List.drop_zero, zhy, List.map_cons, List.map_nil, List.sum_cons, List.sum_nil, pot, zdz]
  have : (cfg.de + 1 - 0).toNat ≤ 5 := by omega
  have := Nat.pow_le_pow_right (n := 2) (by omega) this
  omega
 ·simp only [List.mem_singleton] at hx
  subst hx
  refine ⟨fun r hr => ?_, by simp [zdz], by simp [zdz], d1⟩
  simp only [zdz, List.mem_map, List.mem_range] at hr
  obtain ⟨j, hj, rfl⟩ := hr
  omega
set_option maxHeartbeats 8000000 in
set_option maxRecDepth 8000 in
theorem zx9 (q : Bool) (c v : List (List Int)) (g : List Int) (cfg : Cfg) (hc : ∀ l ∈ c, l.length ≤ 1048576) (hv : ∀ l ∈ v, l.length ≤ 1048576) (hg : g.length ≤ 1048576) (hs : cfg.sg.length ≤ 1048576) (hgi : ∀ x ∈ g, inI x) : RUN T zi6 [.agg [.sl 1 (rws q c), .sl 1 (rws q v)], .sl 1 (zac g), cfS cfg] = some ([.agg [.own 5 ((zeu c v g cfg).1.map nd)], bv (zeu c v g cfg).2], []) := by
 have e1 := zx0 q c v g cfg (fun l hl => Nat.le_trans (hc l hl) (by omega)) (fun l hl => Nat.le_trans (hv l hl) (by omega)) (by omega) (by omega)
 simp only [zfb] at e1
 cases ht : zcz c v g cfg with
 | false =>
  rw [ht] at e1
  have hR : zeu c v g cfg = ([], false) := by unfold zeu; rw [ht]; rfl
  rw [hR]
  refine zal zxt rfl ?_
  simp [-getElem?_pos, zpk, zpl, e1]
 | true =>
  rw [ht] at e1
  have hR : zeu c v g cfg = (zcv c v g cfg 32 [zdz g] 0 [], true) := by unfold zeu; rw [if_pos ht]
  rw [hR]
  obtain ⟨R, hR'⟩ : ∃ R, R = zcv c v g cfg 32 [zdz g] 0 [] := ⟨_, rfl⟩
  rw [← hR']
  obtain ⟨t1, t2, t3, t4⟩ := zy2 ht
  obtain ⟨t5, t6⟩ := z8j t1
  have e2 := zxz q c v
  have e3 := yis (zcq v) t5 t6
  have e4 := yir
  have hr48 : zan 48 1 = true := by decide
  have hG := GI.start ht
  have hroot : zgu [zdz g] = [[.own 1 (zac (upl (zcq v))), iv zhm.lo, iv zhm.hi, iv 0]] := by simp [zgu, pnd, zdz, t3, upl]
  simp only [bnd] at e4
  refine zal zxt rfl ?_
  simp [-getElem?_pos, zpk, zpl, e1, e2, e3, e4, hr48]
  refine za3 (fun n st => ∃ (i o e : Nat) (Q : List Pnd) (out : List Nd) (x : PV), GI c v g cfg n Q i out ∧ st.V 1 = .sl 1 (zac g) ∧ st.V 3 = .ptr 0 none 0 0 0 ∧ st.V 5 = .ptr 1 none 0 0 0 ∧ st.V 6 = .ptr 2 none 0 0 0 ∧ st.V 8 = .ref o none e 0 Q.length ∧ st.V 9 = .ptr 5 none 0 0 0 ∧ st.V 10 = iv i ∧ 3 < o ∧ ¬ o = 5 ∧ o < st.nx ∧ 5 < st.nx ∧ st.S 0 = some (.box [.sl 1 (rws q c), .sl 1 (rws q v)]) ∧ st.S 1 = some (.box [iv cfg.ro, iv cfg.de, iv cfg.bi, iv cfg.la, iv cfg.rw, iv cfg.nu, iv cfg.dn, .sl 1 (zac cfg.sg)]) ∧ st.S 2 = some (.box [.e0]) ∧ st.S 5 = some (.box [x]) ∧ st.S o = some (.row 4 (zgu Q)) ∧ NC st.S st.nx o out x) ?_ 32 _ ⟨0, 4, 0, [zdz g], [], .e0, hG, ?_⟩
  ·rintro n st ⟨i, o, ep, Q, out, x, hG, v1, v3, v5, v6, v8, v9, v10, ho3, ho5, hox, h5x, hS0, hS1, hS2, hS5, hSo, hN⟩
   obtain ⟨Fa01, Fa02, Fa03, Fa04⟩ := fr (show 0 < st.nx by omega)
   obtain ⟨Fb01, Fb02, Fb03, Fb04⟩ := fr (show 1 < st.nx by omega)
   obtain ⟨Fc01, Fc02, Fc03, Fc04⟩ := fr (show 2 < st.nx by omega)
   obtain ⟨Fd01, Fd02, Fd03, Fd04⟩ := fr (show 5 < st.nx by omega)
   obtain ⟨Fo01, Fo02, Fo03, Fo04⟩ := fr (show o < st.nx by omega)
   have N0a : (o = 0) = False := eq_false (by omega)
   have N0b : (0 = o) = False := eq_false (by omega)
   have N1a : (o = 1) = False := eq_false (by omega)
   have N1b : (1 = o) = False := eq_false (by omega)
   have N2a : (o = 2) = False := eq_false (by omega)
   have N2b : (2 = o) = False := eq_false (by omega)
   have N3a : (o = 5) = False := eq_false (by omega)
   have N3b : (5 = o) = False := eq_false (by omega)
   have y0 : (st.nx = 0) = False := eq_false (by omega)
   have y1 : (st.nx = 1) = False := eq_false (by omega)
   have y2 : (st.nx = 2) = False := eq_false (by omega)
   have y3 : (st.nx = 3) = False := eq_false (by omega)
   have y4 : (st.nx = 4) = False := eq_false (by omega)
   have y5 : (st.nx = 5) = False := eq_false (by omega)
   have na : ∀ a b : Nat, st.nx + a + b = st.nx + (a + b) := fun a b => Nat.add_assoc _ _ _
   by_cases hlt : i < Q.length
   ·obtain ⟨p, hp⟩ : ∃ p, Q[i]? = some p := ⟨_, List.getElem?_eq_getElem hlt⟩
    have hp' := z9e hp
    have hps := yjd hp
    have hpo := hG.ok p (List.mem_of_getElem? hp)
    obtain ⟨p1, p2, p3, p4⟩ := hpo
    have hn1 := hG.n1
    have hql := hG.ql
    have hws := wS hlt (by omega : Q.length ≤ 9223372036854775807)
    have f1 := yip q c v g cfg p.r p.b hc hv hg (by omega) hs hgi
    have f2 := yiu g p.r t4 p1 (by omega)
    have f3 := zx6 (zha g p.r) cfg.la p.b (z7c t4 (by omega))
    have hr40 : zan 40 1 = true := by decide
    have hr41 : zan 40 (out.length + 1) = true := by have := hG.ol; simp [zan]; omega
    have hsn := z7m out (zeo g cfg p)
    simp only [zeo] at hsn
    simp only [bnd] at f1 f3
    obtain ⟨K, hK⟩ : ∃ K, K = zb9 c v g cfg p.r p.b := ⟨_, rfl⟩
    obtain ⟨G, hGg⟩ : ∃ G, G = goes c v g cfg p := ⟨_, rfl⟩
    have hG2 : G = (decide (p.l < cfg.de) && K.2) := by rw [hGg, hK]; rfl
    cases G with
    | false =>
     obtain ⟨m1, hG'⟩ := hG.leaf hp hGg.symm
     rw [← hK] at f1
     simp only [slc] at f2 f3
     by_cases hlv : p.l < cfg.de
     ·have hK2 : K.2 = false := by simpa [hlv] using hG2.symm
      obtain ⟨K, Kb⟩ := K
      simp only at hK2 f1
      subst hK2
      simp only [cnd] at f1
      rcases hN with ⟨rfl, rfl⟩ | ⟨w, ew, rfl, hw5, hwx, hwo, hSw⟩
      ·simp [-getElem?_pos, zh7, v1, v3, v5, v6, v8, v9, v10, hS0, hS1, hS2, hS5, hSo, hlt, hp', hps, hlv, f1, f2, f3, hws, hr40, Fa01, Fa02, Fa03, Fa04, Fb01, Fb02, Fb03, Fb04, Fc01, Fc02, Fc03, Fc04, Fd01, Fd02, Fd03, Fd04, Fo01, Fo02, Fo03, Fo04, N0a, N0b, N1a, N1b, N2a, N2b, N3a, N3b, y0, y1, y2, y3, y4, y5, na]
       refine zaq (n - 1) (by omega) ⟨i + 1, o, ep, Q, [zeo g cfg p], .ref (st.nx + 3) none st.ep 0 1, hG', by simp [v1], by simp [v3], by simp [v5], by simp [v6], by simp [v8], by simp [v9], by simp, ho3, ho5, (by simp <;> omega), by simp <;> omega, by simp [Fa01, Fa02, Fa03, Fa04, Fb01, Fb02, Fb03, Fb04, Fc01, Fc02, Fc03, Fc04, Fd01, Fd02, Fd03, Fd04, Fo01, Fo02, Fo03, Fo04, N0a, N0b, N1a, N1b, N2a, N2b, N3a, N3b, y0, y1, y2, y3, y4, y5, na, hS0], by simp [Fa01, Fa02, Fa03, Fa04, Fb01, Fb02, Fb03, Fb04, Fc01, Fc02, Fc03, Fc04, Fd01, Fd02, Fd03, Fd04, Fo01, Fo02, Fo03, Fo04, N0a, N0b, N1a, N1b, N2a, N2b, N3a, N3b, y0, y1, y2, y3, y4, y5, na, hS1], by simp [Fa01, Fa02, Fa03, Fa04, Fb01, Fb02, Fb03, Fb04, Fc01, Fc02, Fc03, Fc04, Fd01, Fd02, Fd03, Fd04, Fo01, Fo02, Fo03, Fo04, N0a, N0b, N1a, N1b, N2a, N2b, N3a, N3b, y0, y1, y2, y3, y4, y5, na, hS2], by simp [Fa01, Fa02, Fa03, Fa04, Fb01, Fb02, Fb03, Fb04, Fc01, Fc02, Fc03, Fc04, Fd01, Fd02, Fd03, Fd04, Fo01, Fo02, Fo03, Fo04, N0a, N0b, N1a, N1b, N2a, N2b, N3a, N3b, y0, y1, y2, y3, y4, y5, na], by simp [Fa01, Fa02, Fa03, Fa04, Fb01, Fb02, Fb03, Fb04, Fc01, Fc02, Fc03, Fc04, Fd01, Fd02, Fd03, Fd04, Fo01, Fo02, Fo03, Fo04, N0a, N0b, N1a, N1b, N2a, N2b, N3a, N3b, y0, y1, y2, y3, y4, y5, na, hSo], .inr ⟨st.nx + 3, st.ep, by simp, by omega, by simp <;> omega, by omega, by simp [nd, zeo, y0, y1, y2, y3, y4, y5]⟩⟩
      ·obtain ⟨Fw01, Fw02, Fw03, Fw04⟩ := fr (show w < st.nx by omega)
       have M0a : (w = 0) = False := eq_false (by omega)
       have M0b : (0 = w) = False := eq_false (by omega)
       have M1a : (w = 1) = False := eq_false (by omega)
       have M1b : (1 = w) = False := eq_false (by omega)
       have M2a : (w = 2) = False := eq_false (by omega)
       have M2b : (2 = w) = False := eq_false (by omega)
       have M3a : (w = 5) = False := eq_false (by omega)
       have M3b : (5 = w) = False := eq_false (by omega)
       have M4a : (w = o) = False := eq_false (by omega)
       have M4b : (o = w) = False := eq_false (by omega)
       simp [-getElem?_pos, zh7, v1, v3, v5, v6, v8, v9, v10, hS0, hS1, hS2, hS5, hSo, hSw, hlt, hp', hps, hlv, f1, f2, f3, hws, hr40, hr41, hsn, Fa01, Fa02, Fa03, Fa04, Fb01, Fb02, Fb03, Fb04, Fc01, Fc02, Fc03, Fc04, Fd01, Fd02, Fd03, Fd04, Fo01, Fo02, Fo03, Fo04, N0a, N0b, N1a, N1b, N2a, N2b, N3a, N3b, y0, y1, y2, y3, y4, y5, na, Fw01, Fw02, Fw03, Fw04, M0a, M0b, M1a, M1b, M2a, M2b, M3a, M3b, M4a, M4b]
       refine zaq (n - 1) (by omega) ⟨i + 1, o, ep, Q, out ++ [zeo g cfg p], .ref (st.nx + 3) none st.ep 0 (out.length + 1), hG', by simp [v1], by simp [v3], by simp [v5], by simp [v6], by simp [v8], by simp [v9], by simp, ho3, ho5, (by simp <;> omega), by simp <;> omega, by simp [Fa01, Fa02, Fa03, Fa04, Fb01, Fb02, Fb03, Fb04, Fc01, Fc02, Fc03, Fc04, Fd01, Fd02, Fd03, Fd04, Fo01, Fo02, Fo03, Fo04, N0a, N0b, N1a, N1b, N2a, N2b, N3a, N3b, y0, y1, y2, y3, y4, y5, na, Fw01, Fw02, Fw03, Fw04, M0a, M0b, M1a, M1b, M2a, M2b, M3a, M3b, M4a, M4b, hS0], by simp [Fa01, Fa02, Fa03, Fa04, Fb01, Fb02, Fb03, Fb04, Fc01, Fc02, Fc03, Fc04, Fd01, Fd02, Fd03, Fd04, Fo01, Fo02, Fo03, Fo04, N0a, N0b, N1a, N1b, N2a, N2b, N3a, N3b, y0, y1, y2, y3, y4, y5, na, Fw01, Fw02, Fw03, Fw04, M0a, M0b, M1a, M1b, M2a, M2b, M3a, M3b, M4a, M4b, hS1], by simp [Fa01, Fa02, Fa03, Fa04, Fb01, Fb02, Fb03, Fb04, Fc01, Fc02, Fc03, Fc04, Fd01, Fd02, Fd03, Fd04, Fo01, Fo02, Fo03, Fo04, N0a, N0b, N1a, N1b, N2a, N2b, N3a, N3b, y0, y1, y2, y3, y4, y5, na, Fw01, Fw02, Fw03, Fw04, M0a, M0b, M1a, M1b, M2a, M2b, M3a, M3b, M4a, M4b, hS2], by simp [Fa01, Fa02, Fa03, Fa04, Fb01, Fb02, Fb03, Fb04, Fc01, Fc02, Fc03, Fc04, Fd01, Fd02, Fd03, Fd04, Fo01, Fo02, Fo03, Fo04, N0a, N0b, N1a, N1b, N2a, N2b, N3a, N3b, y0, y1, y2, y3, y4, y5, na, Fw01, Fw02, Fw03, Fw04, M0a, M0b, M1a, M1b, M2a, M2b, M3a, M3b, M4a, M4b], by simp [Fa01, Fa02, Fa03, Fa04, Fb01, Fb02, Fb03, Fb04, Fc01, Fc02, Fc03, Fc04, Fd01, Fd02, Fd03, Fd04, Fo01, Fo02, Fo03, Fo04, N0a, N0b, N1a, N1b, N2a, N2b, N3a, N3b, y0, y1, y2, y3, y4, y5, na, Fw01, Fw02, Fw03, Fw04, M0a, M0b, M1a, M1b, M2a, M2b, M3a, M3b, M4a, M4b, hSo], .inr ⟨st.nx + 3, st.ep, by simp, by omega, by simp <;> omega, by omega, by simp [nd, zeo, y0, y1, y2, y3, y4, y5]⟩⟩
     ·rcases hN with ⟨rfl, rfl⟩ | ⟨w, ew, rfl, hw5, hwx, hwo, hSw⟩
      ·simp [-getElem?_pos, zh7, v1, v3, v5, v6, v8, v9, v10, hS0, hS1, hS2, hS5, hSo, hlt, hp', hps, hlv, f2, f3, hws, hr40, Fa01, Fa02, Fa03, Fa04, Fb01, Fb02, Fb03, Fb04, Fc01, Fc02, Fc03, Fc04, Fd01, Fd02, Fd03, Fd04, Fo01, Fo02, Fo03, Fo04, N0a, N0b, N1a, N1b, N2a, N2b, N3a, N3b, y0, y1, y2, y3, y4, y5, na]
       refine zaq (n - 1) (by omega) ⟨i + 1, o, ep, Q, [zeo g cfg p], .ref (st.nx + 3) none st.ep 0 1, hG', by simp [v1], by simp [v3], by simp [v5], by simp [v6], by simp [v8], by simp [v9], by simp, ho3, ho5, (by simp <;> omega), by simp <;> omega, by simp [Fa01, Fa02, Fa03, Fa04, Fb01, Fb02, Fb03, Fb04, Fc01, Fc02, Fc03, Fc04, Fd01, Fd02, Fd03, Fd04, Fo01, Fo02, Fo03, Fo04, N0a, N0b, N1a, N1b, N2a, N2b, N3a, N3b, y0, y1, y2, y3, y4, y5, na, hS0], by simp [Fa01, Fa02, Fa03, Fa04, Fb01, Fb02, Fb03, Fb04, Fc01, Fc02, Fc03, Fc04, Fd01, Fd02, Fd03, Fd04, Fo01, Fo02, Fo03, Fo04, N0a, N0b, N1a, N1b, N2a, N2b, N3a, N3b, y0, y1, y2, y3, y4, y5, na, hS1], by simp [Fa01, Fa02, Fa03, Fa04, Fb01, Fb02, Fb03, Fb04, Fc01, Fc02, Fc03, Fc04, Fd01, Fd02, Fd03, Fd04, Fo01, Fo02, Fo03, Fo04, N0a, N0b, N1a, N1b, N2a, N2b, N3a, N3b, y0, y1, y2, y3, y4, y5, na, hS2], by simp [Fa01, Fa02, Fa03, Fa04, Fb01, Fb02, Fb03, Fb04, Fc01, Fc02, Fc03, Fc04, Fd01, Fd02, Fd03, Fd04, Fo01, Fo02, Fo03, Fo04, N0a, N0b, N1a, N1b, N2a, N2b, N3a, N3b, y0, y1, y2, y3, y4, y5, na], by simp [Fa01, Fa02, Fa03, Fa04, Fb01, Fb02, Fb03, Fb04, Fc01, Fc02, Fc03, Fc04, Fd01, Fd02, Fd03, Fd04, Fo01, Fo02, Fo03, Fo04, N0a, N0b, N1a, N1b, N2a, N2b, N3a, N3b, y0, y1, y2, y3, y4, y5, na, hSo], .inr ⟨st.nx + 3, st.ep, by simp, by omega, by simp <;> omega, by omega, by simp [nd, zeo, y0, y1, y2, y3, y4, y5]⟩⟩
      ·obtain ⟨Fw01, Fw02, Fw03, Fw04⟩ := fr (show w < st.nx by omega)
       have M0a : (w = 0) = False := eq_false (by omega)
       have M0b : (0 = w) = False := eq_false (by omega)
       have M1a : (w = 1) = False := eq_false (by omega)
       have M1b : (1 = w) = False := eq_false (by omega)
       have M2a : (w = 2) = False := eq_false (by omega)
       have M2b : (2 = w) = False := eq_false (by omega)
       have M3a : (w = 5) = False := eq_false (by omega)
       have M3b : (5 = w) = False := eq_false (by omega)
       have M4a : (w = o) = False := eq_false (by omega)
       have M4b : (o = w) = False := eq_false (by omega)
       simp [-getElem?_pos, zh7, v1, v3, v5, v6, v8, v9, v10, hS0, hS1, hS2, hS5, hSo, hSw, hlt, hp', hps, hlv, f2, f3, hws, hr40, hr41, hsn, Fa01, Fa02, Fa03, Fa04, Fb01, Fb02, Fb03, Fb04, Fc01, Fc02, Fc03, Fc04, Fd01, Fd02, Fd03, Fd04, Fo01, Fo02, Fo03, Fo04, N0a, N0b, N1a, N1b, N2a, N2b, N3a, N3b, y0, y1, y2, y3, y4, y5, na, Fw01, Fw02, Fw03, Fw04, M0a, M0b, M1a, M1b, M2a, M2b, M3a, M3b, M4a, M4b]
       refine zaq (n - 1) (by omega) ⟨i + 1, o, ep, Q, out ++ [zeo g cfg p], .ref (st.nx + 3) none st.ep 0 (out.length + 1), hG', by simp [v1], by simp [v3], by simp [v5], by simp [v6], by simp [v8], by simp [v9], by simp, ho3, ho5, (by simp <;> omega), by simp <;> omega, by simp [Fa01, Fa02, Fa03, Fa04, Fb01, Fb02, Fb03, Fb04, Fc01, Fc02, Fc03, Fc04, Fd01, Fd02, Fd03, Fd04, Fo01, Fo02, Fo03, Fo04, N0a, N0b, N1a, N1b, N2a, N2b, N3a, N3b, y0, y1, y2, y3, y4, y5, na, Fw01, Fw02, Fw03, Fw04, M0a, M0b, M1a, M1b, M2a, M2b, M3a, M3b, M4a, M4b, hS0], by simp [Fa01, Fa02, Fa03, Fa04, Fb01, Fb02, Fb03, Fb04, Fc01, Fc02, Fc03, Fc04, Fd01, Fd02, Fd03, Fd04, Fo01, Fo02, Fo03, Fo04, N0a, N0b, N1a, N1b, N2a, N2b, N3a, N3b, y0, y1, y2, y3, y4, y5, na, Fw01, Fw02, Fw03, Fw04, M0a, M0b, M1a, M1b, M2a, M2b, M3a, M3b, M4a, M4b, hS1], by simp [Fa01, Fa02, Fa03, Fa04, Fb01, Fb02, Fb03, Fb04, Fc01, Fc02, Fc03, Fc04, Fd01, Fd02, Fd03, Fd04, Fo01, Fo02, Fo03, Fo04, N0a, N0b, N1a, N1b, N2a, N2b, N3a, N3b, y0, y1, y2, y3, y4, y5, na, Fw01, Fw02, Fw03, Fw04, M0a, M0b, M1a, M1b, M2a, M2b, M3a, M3b, M4a, M4b, hS2], by simp [Fa01, Fa02, Fa03, Fa04, Fb01, Fb02, Fb03, Fb04, Fc01, Fc02, Fc03, Fc04, Fd01, Fd02, Fd03, Fd04, Fo01, Fo02, Fo03, Fo04, N0a, N0b, N1a, N1b, N2a, N2b, N3a, N3b, y0, y1, y2, y3, y4, y5, na, Fw01, Fw02, Fw03, Fw04, M0a, M0b, M1a, M1b, M2a, M2b, M3a, M3b, M4a, M4b], by simp [Fa01, Fa02, Fa03, Fa04, Fb01, Fb02, Fb03, Fb04, Fc01, Fc02, Fc03, Fc04, Fd01, Fd02, Fd03, Fd04, Fo01, Fo02, Fo03, Fo04, N0a, N0b, N1a, N1b, N2a, N2b, N3a, N3b, y0, y1, y2, y3, y4, y5, na, Fw01, Fw02, Fw03, Fw04, M0a, M0b, M1a, M1b, M2a, M2b, M3a, M3b, M4a, M4b, hSo], .inr ⟨st.nx + 3, st.ep, by simp, by omega, by simp <;> omega, by omega, by simp [nd, zeo, y0, y1, y2, y3, y4, y5]⟩⟩
    | true =>
     obtain ⟨m1, hG'⟩ := hG.cut hp hGg.symm
     have t7 := yaw t2
     have hlv : p.l < cfg.de := by
      have h9 := hG2.symm
      simp only [Bool.and_eq_true, decide_eq_true_eq] at h9
      exact h9.1
     have hK2 : K.2 = true := by
      have h9 := hG2.symm
      simp only [Bool.and_eq_true, decide_eq_true_eq] at h9
      exact h9.2
     obtain ⟨kf, kb, X, Y, z, k1, k2, hX, hY, hz, kI⟩ := yjq (c := c) (v := v) (g := g) (cfg := cfg) (rows := p.r) (b := p.b) (by rw [← hK]; exact hK2)
     rw [← hK] at f1 hG' k1 k2 kI
     obtain ⟨⟨kf', kb', ka, kz⟩, Kb⟩ := K
     simp only at hK2 k1 k2 kI f1 hG'
     subst hK2 k1 k2
     have hfc := (List.getElem?_eq_some_iff.mp hX).1
     have hfv := (List.getElem?_eq_some_iff.mp hY).1
     have hbx := (List.getElem?_eq_some_iff.mp hz).1
     have hX' := ze3 (q := q) hX
     have hY' := ze3 (q := q) hY
     have hz' := zbj hz
     have f4 := z4v cfg p.b ⟨kf, kb, ka, kz⟩ kI
     have f5 := z4w cfg kf (by omega)
     have f6 := yil (zfa cfg kf) p.b (zch cfg p.b ⟨kf, kb, ka, kz⟩).1 (zch cfg p.b ⟨kf, kb, ka, kz⟩).2.1 (z40 _ _ _).1 (z40 _ _ _).2
     have f7 := yiv Y p.r kb (hv Y (List.mem_of_getElem? hY)) (by omega)
     have hkl : zhp c v cfg p ⟨kf, kb, ka, kz⟩ = ⟨zlu Y p.r kb, (zjz (zfa cfg kf) p.b (zch cfg p.b ⟨kf, kb, ka, kz⟩).1 (zch cfg p.b ⟨kf, kb, ka, kz⟩).2.1).1, p.l + 1⟩ := by
      unfold zhp
      simp only [zw3 hY, Option.getD_some]
     have hkr : zh3 c v cfg p ⟨kf, kb, ka, kz⟩ = ⟨zli Y p.r kb, (zjz (zfa cfg kf) p.b (zch cfg p.b ⟨kf, kb, ka, kz⟩).1 (zch cfg p.b ⟨kf, kb, ka, kz⟩).2.1).2, p.l + 1⟩ := by
      unfold zh3
      simp only [zw3 hY, Option.getD_some]
     have hcn : zrp c ⟨kf, kb, ka, kz⟩ Q.length = ⟨kf, z, Q.length, Q.length + 1, 0⟩ := by
      unfold zrp
      simp only [zw3 hX, Option.getD_some, zw3 hz]
     rw [hkl, hkr, hcn] at hG'
     clear hkl hkr hcn
     generalize zch cfg p.b ⟨kf, kb, ka, kz⟩ = sv at *
     obtain ⟨sl, sr, sb⟩ := sv
     simp only at f4 f6 hG'
     generalize zfa cfg kf = sg at *
     generalize zjz sg p.b sl sr = bb at *
     obtain ⟨⟨ll, lh⟩, ⟨rl, rh⟩⟩ := bb
     generalize zlu Y p.r kb = L1 at *
     generalize zli Y p.r kb = R1 at *
     simp only [bnd, cnd] at f1 f4 f6 hG'
     have hQ := yl2 Q ⟨L1, ⟨ll, lh⟩, p.l + 1⟩ ⟨R1, ⟨rl, rh⟩, p.l + 1⟩
     have hsn2 := z7m out ⟨kf, z, Q.length, Q.length + 1, 0⟩
     simp only at hQ hsn2
     have wl := w64 (x := p.l + 1) (by omega) (by omega)
     have wq := w64 (x := (Q.length : Int) + 1) (by omega) (by omega)
     have hr482 : zan 48 2 = true := by decide
     have hr483 : zan 48 (Q.length + 2) = true := by simp [zan]; omega
     rcases hN with ⟨rfl, rfl⟩ | ⟨w, ew, rfl, hw5, hwx, hwo, hSw⟩
     ·simp [-getElem?_pos, zh7, v1, v3, v5, v6, v8, v9, v10, hS0, hS1, hS2, hS5, hSo, hlt, hp', hps, hlv, f1, f4, f5, f6, f7, hX', hY', hz', hfc, hfv, hbx, wl, wq, hr482, hr483, hQ, hws, hr40, Fa01, Fa02, Fa03, Fa04, Fb01, Fb02, Fb03, Fb04, Fc01, Fc02, Fc03, Fc04, Fd01, Fd02, Fd03, Fd04, Fo01, Fo02, Fo03, Fo04, N0a, N0b, N1a, N1b, N2a, N2b, N3a, N3b, y0, y1, y2, y3, y4, y5, na]
      refine zaq (n - 1) (by omega) ⟨i + 1, st.nx + 9, st.ep, (Q ++ [⟨L1, ⟨ll, lh⟩, p.l + 1⟩, ⟨R1, ⟨rl, rh⟩, p.l + 1⟩]), [⟨kf, z, Q.length, Q.length + 1, 0⟩], .ref (st.nx + 7) none st.ep 0 1, hG', by simp [v1], by simp [v3], by simp [v5], by simp [v6], by simp, by simp [v9], by simp, by omega, by omega, by simp, by simp <;> omega, by simp [Fa01, Fa02, Fa03, Fa04, Fb01, Fb02, Fb03, Fb04, Fc01, Fc02, Fc03, Fc04, Fd01, Fd02, Fd03, Fd04, Fo01, Fo02, Fo03, Fo04, N0a, N0b, N1a, N1b, N2a, N2b, N3a, N3b, y0, y1, y2, y3, y4, y5, na, hS0], by simp [Fa01, Fa02, Fa03, Fa04, Fb01, Fb02, Fb03, Fb04, Fc01, Fc02, Fc03, Fc04, Fd01, Fd02, Fd03, Fd04, Fo01, Fo02, Fo03, Fo04, N0a, N0b, N1a, N1b, N2a, N2b, N3a, N3b, y0, y1, y2, y3, y4, y5, na, hS1], by simp [Fa01, Fa02, Fa03, Fa04, Fb01, Fb02, Fb03, Fb04, Fc01, Fc02, Fc03, Fc04, Fd01, Fd02, Fd03, Fd04, Fo01, Fo02, Fo03, Fo04, N0a, N0b, N1a, N1b, N2a, N2b, N3a, N3b, y0, y1, y2, y3, y4, y5, na, hS2], by simp [Fa01, Fa02, Fa03, Fa04, Fb01, Fb02, Fb03, Fb04, Fc01, Fc02, Fc03, Fc04, Fd01, Fd02, Fd03, Fd04, Fo01, Fo02, Fo03, Fo04, N0a, N0b, N1a, N1b, N2a, N2b, N3a, N3b, y0, y1, y2, y3, y4, y5, na], by simp [Fa01, Fa02, Fa03, Fa04, Fb01, Fb02, Fb03, Fb04, Fc01, Fc02, Fc03, Fc04, Fd01, Fd02, Fd03, Fd04, Fo01, Fo02, Fo03, Fo04, N0a, N0b, N1a, N1b, N2a, N2b, N3a, N3b, y0, y1, y2, y3, y4, y5, na], .inr ⟨st.nx + 7, st.ep, by simp, by omega, by simp, by simp, by simp [nd, Fo03, Fo04, Fo01, Fo02, y0, y1, y2, y3, y4, y5]⟩⟩
     ·obtain ⟨Fw01, Fw02, Fw03, Fw04⟩ := fr (show w < st.nx by omega)
      have M0a : (w = 0) = False := eq_false (by omega)
      have M0b : (0 = w) = False := eq_false (by omega)
      have M1a : (w = 1) = False := eq_false (by omega)
      have M1b : (1 = w) = False := eq_false (by omega)
      have M2a : (w = 2) = False := eq_false (by omega)
      have M2b : (2 = w) = False := eq_false (by omega)
      have M3a : (w = 5) = False := eq_false (by omega)
      have M3b : (5 = w) = False := eq_false (by omega)
      have M4a : (w = o) = False := eq_false (by omega)
      have M4b : (o = w) = False := eq_false (by omega)
      simp [-getElem?_pos, zh7, v1, v3, v5, v6, v8, v9, v10, hS0, hS1, hS2, hS5, hSo, hSw, hlt, hp', hps, hlv, f1, f4, f5, f6, f7, hX', hY', hz', hfc, hfv, hbx, wl, wq, hr482, hr483, hQ, hws, hr40, hr41, hsn2, Fa01, Fa02, Fa03, Fa04, Fb01, Fb02, Fb03, Fb04, Fc01, Fc02, Fc03, Fc04, Fd01, Fd02, Fd03, Fd04, Fo01, Fo02, Fo03, Fo04, N0a, N0b, N1a, N1b, N2a, N2b, N3a, N3b, y0, y1, y2, y3, y4, y5, na, Fw01, Fw02, Fw03, Fw04, M0a, M0b, M1a, M1b, M2a, M2b, M3a, M3b, M4a, M4b]
      refine zaq (n - 1) (by omega) ⟨i + 1, st.nx + 9, st.ep, (Q ++ [⟨L1, ⟨ll, lh⟩, p.l + 1⟩, ⟨R1, ⟨rl, rh⟩, p.l + 1⟩]), (out ++ [⟨kf, z, Q.length, Q.length + 1, 0⟩]), .ref (st.nx + 7) none st.ep 0 (out.length + 1), hG', by simp [v1], by simp [v3], by simp [v5], by simp [v6], by simp, by simp [v9], by simp, by omega, by omega, by simp, by simp <;> omega, by simp [Fa01, Fa02, Fa03, Fa04, Fb01, Fb02, Fb03, Fb04, Fc01, Fc02, Fc03, Fc04, Fd01, Fd02, Fd03, Fd04, Fo01, Fo02, Fo03, Fo04, N0a, N0b, N1a, N1b, N2a, N2b, N3a, N3b, y0, y1, y2, y3, y4, y5, na, Fw01, Fw02, Fw03, Fw04, M0a, M0b, M1a, M1b, M2a, M2b, M3a, M3b, M4a, M4b, hS0], by simp [Fa01, Fa02, Fa03, Fa04, Fb01, Fb02, Fb03, Fb04, Fc01, Fc02, Fc03, Fc04, Fd01, Fd02, Fd03, Fd04, Fo01, Fo02, Fo03, Fo04, N0a, N0b, N1a, N1b, N2a, N2b, N3a, N3b, y0, y1, y2, y3, y4, y5, na, Fw01, Fw02, Fw03, Fw04, M0a, M0b, M1a, M1b, M2a, M2b, M3a, M3b, M4a, M4b, hS1], by simp [Fa01, Fa02, Fa03, Fa04, Fb01, Fb02, Fb03, Fb04, Fc01, Fc02, Fc03, Fc04, Fd01, Fd02, Fd03, Fd04, Fo01, Fo02, Fo03, Fo04, N0a, N0b, N1a, N1b, N2a, N2b, N3a, N3b, y0, y1, y2, y3, y4, y5, na, Fw01, Fw02, Fw03, Fw04, M0a, M0b, M1a, M1b, M2a, M2b, M3a, M3b, M4a, M4b, hS2], by simp [Fa01, Fa02, Fa03, Fa04, Fb01, Fb02, Fb03, Fb04, Fc01, Fc02, Fc03, Fc04, Fd01, Fd02, Fd03, Fd04, Fo01, Fo02, Fo03, Fo04, N0a, N0b, N1a, N1b, N2a, N2b, N3a, N3b, y0, y1, y2, y3, y4, y5, na, Fw01, Fw02, Fw03, Fw04, M0a, M0b, M1a, M1b, M2a, M2b, M3a, M3b, M4a, M4b], by simp [Fa01, Fa02, Fa03, Fa04, Fb01, Fb02, Fb03, Fb04, Fc01, Fc02, Fc03, Fc04, Fd01, Fd02, Fd03, Fd04, Fo01, Fo02, Fo03, Fo04, N0a, N0b, N1a, N1b, N2a, N2b, N3a, N3b, y0, y1, y2, y3, y4, y5, na, Fw01, Fw02, Fw03, Fw04, M0a, M0b, M1a, M1b, M2a, M2b, M3a, M3b, M4a, M4b], .inr ⟨st.nx + 7, st.ep, by simp, by omega, by simp, by simp, by simp [nd, Fo03, Fo04, Fo01, Fo02, y0, y1, y2, y3, y4, y5]⟩⟩
   ·have hiq : i = Q.length := by have := hG.le; omega
    have hgo := hG.go
    rw [yn0 (List.getElem?_eq_none (by omega)), ← hR'] at hgo
    subst hgo
    have hol := hG.ol
    rcases hN with ⟨rfl, rfl⟩ | ⟨w, ew, rfl, hw5, hwx, hwo, hSw⟩
    ·simp [-getElem?_pos, zh7, v1, v3, v5, v6, v8, v9, v10, hS0, hS1, hS2, hS5, hSo, hlt, Fa01, Fa02, Fa03, Fa04, Fb01, Fb02, Fb03, Fb04, Fc01, Fc02, Fc03, Fc04, Fd01, Fd02, Fd03, Fd04, Fo01, Fo02, Fo03, Fo04, N0a, N0b, N1a, N1b, N2a, N2b, N3a, N3b, y0, y1, y2, y3, y4, y5, na]
    ·obtain ⟨Fw01, Fw02, Fw03, Fw04⟩ := fr (show w < st.nx by omega)
     have M0a : (w = 0) = False := eq_false (by omega)
     have M0b : (0 = w) = False := eq_false (by omega)
     have M1a : (w = 1) = False := eq_false (by omega)
     have M1b : (1 = w) = False := eq_false (by omega)
     have M2a : (w = 2) = False := eq_false (by omega)
     have M2b : (2 = w) = False := eq_false (by omega)
     have M3a : (w = 5) = False := eq_false (by omega)
     have M3b : (5 = w) = False := eq_false (by omega)
     have M4a : (w = o) = False := eq_false (by omega)
     have M4b : (o = w) = False := eq_false (by omega)
     simp [-getElem?_pos, zh7, v1, v3, v5, v6, v8, v9, v10, hS0, hS1, hS2, hS5, hSo, hSw, hlt, Fa01, Fa02, Fa03, Fa04, Fb01, Fb02, Fb03, Fb04, Fc01, Fc02, Fc03, Fc04, Fd01, Fd02, Fd03, Fd04, Fo01, Fo02, Fo03, Fo04, N0a, N0b, N1a, N1b, N2a, N2b, N3a, N3b, y0, y1, y2, y3, y4, y5, na, Fw01, Fw02, Fw03, Fw04, M0a, M0b, M1a, M1b, M2a, M2b, M3a, M3b, M4a, M4b]
  ·refine ⟨by simp, by simp, by simp, by simp, by simp, by simp, by simp, by simp, by simp, by simp, by simp, by simp, by simp, by simp, by simp, by simp [hroot], .inl ⟨rfl, rfl⟩⟩
theorem z0a {c v : List (List Int)} {g : List Int} {cfg : Cfg} : ∀ (n : Nat) (q : List Pnd) (i : Nat) (out : List Nd), (zcv c v g cfg n q i out).length ≤ out.length + n
 | 0, q, i, out => by simp [zcv]
 | n + 1, q, i, out => by
  rw [zcv]
  split
  ·omega
  ·split
   ·refine Nat.le_trans (z0a n _ _ _) ?_
    simp; omega
   ·refine Nat.le_trans (z0a n _ _ _) ?_
    simp; omega
def zgd (n : Nat) (r : List Int) : Bool := decide ((r.length : Int) = n) && r.all zbb
def zjn (t : Ta) : Bool := zak t.ns.length 1 4 && ziq (t.ns ++ [t.nm]) && zak t.rw.length 1 40 && decide ((t.lb.length : Int) = t.rw.length) && t.lb.all zbb && t.rw.all (zgd t.ns.length)
theorem z6e {L : List ByteArray} {x : ByteArray} {i : Nat} (h : i < L.length) : nmB (L ++ [x]) i = nmB L i := by
 obtain ⟨y, hy⟩ : ∃ y, L[i]? = some y := ⟨_, List.getElem?_eq_getElem h⟩
 have hy2 : (L ++ [x])[i]? = some y := by rw [List.getElem?_append_left h]; exact hy
 rw [zwz hy, zwz hy2, List.take_append_of_le_length (by omega)]
theorem ylb {L : List ByteArray} {x : ByteArray} : nmB (L ++ [x]) L.length = (zeh x && !zf1 L x) := by
 rw [zwz (x := x) (by simp)]
 simp
theorem ymc (L : List ByteArray) (x : ByteArray) : ziq (L ++ [x]) = (ziq L && (zeh x && !zf1 L x)) := by
 unfold ziq
 rw [show (L ++ [x]).length = L.length + 1 by simp, List.range_succ, List.all_append]
 simp only [List.all_cons, List.all_nil, Bool.and_true]
 rw [ylb]
 congr 1
 rw [Bool.eq_iff_iff, List.all_eq_true, List.all_eq_true]
 constructor
 ·intro h j hj; rw [← z6e (x := x) (List.mem_range.mp hj)]; exact h j hj
 ·intro h j hj; rw [z6e (List.mem_range.mp hj)]; exact h j hj
abbrev taB (q : Bool) (t : Ta) : List PV := [.sl 1 (zcx t.ns), .v (.string t.nm), .sl 1 (rws q t.rw), .sl 1 (zac t.lb)]
theorem ymm (q : Bool) (t : Ta) (ht : TaL 9223372036854775807 t) {Q : Ex → St → Prop} {st : St} (h1 : st.V 1 = .ptr 0 none 0 0 0) (h3 : st.V 3 = iv t.ns.length) (h4 : st.V 4 = iv (0 : Nat)) (hS : st.S 0 = some (.box (taB q t)))
  (hr : ziq t.ns = false → ∀ s : St, s.V 2 = bv false → Q .ret s) (he : ziq t.ns = true → ∀ s : St, s.V 1 = .ptr 0 none 0 0 0 → s.V 3 = iv t.ns.length → s.S 0 = some (.box (taB q t)) → Q (.exit 0) s) : W (zae T) (RUN T) (.loop zoc) st Q := by
 refine za3 (fun n st => ∃ i : Nat, i + n = t.ns.length ∧ (∀ j, j < i → nmB t.ns j = true) ∧ st.V 1 = .ptr 0 none 0 0 0 ∧ st.V 3 = iv t.ns.length ∧ st.V 4 = iv i ∧ st.S 0 = some (.box (taB q t))) ?_ t.ns.length _ ⟨0, by omega, fun _ h => by omega, h1, h3, h4, hS⟩
 clear h1 h3 h4 hS
 rintro n st ⟨i, hi, hj, v1, v3, v4, hS⟩
 by_cases h : i < t.ns.length
 ·obtain ⟨x, hx⟩ : ∃ x, t.ns[i]? = some x := ⟨_, List.getElem?_eq_getElem h⟩
  have hx' := z6k hx
  have hw := wS h ht.ns
  have hml := ht.ns
  have hN := z4g x (ht.ss x (List.mem_of_getElem? hx))
  have hC := z4h (t.ns.take i) x (by simp; omega)
  have hc := zwz hx
  have hil : i ≤ t.ns.length := by omega
  cases a1 : zeh x with
  | false =>
   rw [a1] at hN hc
   simp [-getElem?_pos, zoc, v1, v3, v4, hS, hx', h, hw, hN]
   exact hr (zht h (by rw [hc]; rfl)) _ (by simp)
  | true =>
   rw [a1] at hN hc
   cases a2 : zf1 (t.ns.take i) x with
   | true =>
    rw [a2] at hC hc
    simp [-getElem?_pos, zoc, v1, v3, v4, hS, hx', h, hw, hN, hC, hil, z8w]
    exact hr (zht h (by rw [hc]; rfl)) _ (by simp)
   | false =>
    rw [a2] at hC hc
    simp [-getElem?_pos, zoc, v1, v3, v4, hS, hx', h, hw, hN, hC, hil, z8w]
    exact zaq (n - 1) (by omega) ⟨i + 1, by omega, zo3 hj (by rw [hc]; rfl), by simp [v1], by simp [v3], by simp, by simp [hS]⟩
 ·simp [-getElem?_pos, zoc, v3, v4, h]
  exact he (zwf fun j hj' => hj j (by omega)) _ (by simp [v1]) (by simp [v3]) (by simp [hS])
theorem ym4 (q : Bool) (t : Ta) (ht : TaL 9223372036854775807 t) {r : List Int} {j : Nat} (hj : t.rw[j]? = some r) (hl : r.length = t.ns.length) {Q : Ex → St → Prop} {st : St} (h1 : st.V 1 = .ptr 0 none 0 0 0) (h3 : st.V 3 = iv t.ns.length) (h5 : st.V 5 = iv j) (h6 : st.V 6 = iv (0 : Nat)) (hS : st.S 0 = some (.box (taB q t)))
  (hr : r.all zbb = false → ∀ s : St, s.V 2 = bv false → Q .ret s) (he : r.all zbb = true → ∀ s : St, s.V 1 = .ptr 0 none 0 0 0 → s.V 3 = iv t.ns.length → s.V 5 = iv j → s.S 0 = some (.box (taB q t)) → Q (.exit 4) s) : W (zae T) (RUN T) (.loop zqj) st Q := by
 have hj' := ze3 (q := q) hj
 have hjl := (List.getElem?_eq_some_iff.mp hj).1
 refine za3 (fun n st => ∃ i : Nat, i + n = r.length ∧ (∀ (k : Nat) (x : Int), k < i → r[k]? = some x → zbb x = true) ∧ st.V 1 = .ptr 0 none 0 0 0 ∧ st.V 3 = iv t.ns.length ∧ st.V 5 = iv j ∧ st.V 6 = iv i ∧ st.S 0 = some (.box (taB q t))) ?_ r.length _ ⟨0, by omega, fun _ _ h => by omega, h1, h3, h5, h6, hS⟩
 clear h1 h3 h5 h6 hS
 rintro n st ⟨i, hi, hk, v1, v3, v5, v6, hS⟩
 by_cases h : i < t.ns.length
 ·obtain ⟨x, hx⟩ : ∃ x, r[i]? = some x := ⟨_, List.getElem?_eq_getElem (by omega)⟩
  have hx' := zbj hx
  have hw := wS h ht.ns
  have hir : i < r.length := by omega
  have hD := zlg x
  cases a1 : zbb x with
  | false =>
   rw [a1] at hD
   simp [-getElem?_pos, zqj, -zlg, v1, v3, v5, v6, hS, hj', hjl, hir, hx', h, hw, hD]
   exact hr (zrm hx a1) _ (by simp)
  | true =>
   rw [a1] at hD
   simp [-getElem?_pos, zqj, -zlg, v1, v3, v5, v6, hS, hj', hjl, hir, hx', h, hw, hD]
   exact zaq (n - 1) (by omega) ⟨i + 1, by omega, zo4 (P := fun _ x => zbb x = true) hk hx a1, by simp [v1], by simp [v3], by simp [v5], by simp, by simp [hS]⟩
 ·simp [-getElem?_pos, zqj, v3, v6, h]
  exact he (zri fun k a h1 h2 => hk k a (by omega) h2) _ (by simp [v1]) (by simp [v3]) (by simp [v5]) (by simp [hS])
theorem z6o {M : List (List Int)} {p : List Int → Bool} {j : Nat} {a : List Int} (h1 : M[j]? = some a) (h2 : p a = false) : M.all p = false := by
 cases e : M.all p with
 | false => rfl
 | true => rw [List.all_eq_true.mp e a (List.mem_of_getElem? h1)] at h2; cases h2
theorem ypn {M : List (List Int)} {p : List Int → Bool} (h : ∀ (j : Nat) (a : List Int), j < M.length → M[j]? = some a → p a = true) : M.all p = true := by
 rw [List.all_eq_true]
 intro x hx
 obtain ⟨j, hj⟩ := List.getElem?_of_mem hx
 exact h j x (List.getElem?_eq_some_iff.mp hj).1 hj
end Go.Pe
