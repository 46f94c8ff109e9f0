/- What each function answers by the evaluator, and the law; for each answer its own conditions stand ahead of it. -/
import Derived.Test.YtadpenaldhkjcaaGreatK0
import Derived.Test.YtadpenaldhkjcaaGreatEvB2
import Derived.IntWalk
set_option linter.all false
namespace Go.Pe
open Go
theorem w64 {x : Int} (h1 : -9223372036854775808 ≤ x) (h2 : x ≤ 9223372036854775807) : IntKind.i64.wrap x = x := IntWalk.i64_in x ⟨h1, h2⟩
@[simp] theorem y3w {x : Int} (h1 : -9223372036854775808 ≤ x) (h2 : x ≤ 9223372036854775807) : IntKind.i64.wrap x = x := w64 h1 h2
structure Nd where
 f : Int
 c : Int
 l : Int
 r : Int
 v : Int
deriving DecidableEq
def nd (n : Nd) : List PV := [iv n.f, iv n.c, iv n.l, iv n.r, iv n.v]
@[simp] theorem zdd (a b c : Int) : RUN T zca [iv a, iv b, iv c] = some ([bv (decide (b ≤ a) && decide (a ≤ c))], []) := by
 refine zae z2k rfl ?_
 simp [zsj, zsk]
 refine zcl (fun h => ?_) (fun h => ?_) <;> simp [h]
@[simp] theorem zc8 (a b c : Int) : RUN T zdq [iv a, iv b, iv c] = some ([bv (decide (b ≤ a) && decide (a ≤ c))], []) := by
 refine zae z18 rfl ?_
 simp [zr7, zr8]
 refine zcl (fun h => ?_) (fun h => ?_) <;> simp [h]
def zhu {α : Type} (p : α → Bool) (l : List α) : Int := match l.findIdx? p with
 | some i => (i : Int)
 | none => -1
theorem z7i {α : Type} {p : α → Bool} {l : List α} (h : ∀ (j : Nat) (x : α), j < l.length → l[j]? = some x → p x = false) : zhu p l = -1 := by
 unfold zhu
 have : l.findIdx? p = none := by
  rw [List.findIdx?_eq_none_iff]
  intro x hx
  obtain ⟨j, hj⟩ := List.getElem?_of_mem hx
  exact h j x (List.getElem?_eq_some_iff.mp hj).1 hj
 rw [this]
theorem ybu {α : Type} {p : α → Bool} {l : List α} {i : Nat} {x : α} (hi : l[i]? = some x) (hp : p x = true) (h : ∀ (j : Nat) (x : α), j < i → l[j]? = some x → p x = false) : zhu p l = i := by
 unfold zhu
 have : l.findIdx? p = some i := by
  rw [List.findIdx?_eq_some_iff_getElem]
  obtain ⟨h1, h2⟩ := List.getElem?_eq_some_iff.mp hi
  refine ⟨h1, by rw [h2]; exact hp, fun j hj => ?_⟩
  have := h j l[j] hj (List.getElem?_eq_getElem (by omega))
  simp [this]
 rw [this]
theorem yac {α : Type} {p : α → Bool} {l : List α} {i : Nat} {x : α} (h : ∀ (j : Nat) (x : α), j < i → l[j]? = some x → p x = false) (hi : l[i]? = some x) (hp : p x = false) : ∀ (j : Nat) (x : α), j < i + 1 → l[j]? = some x → p x = false := by
 intro j y hj hy
 by_cases e : j = i
 ·subst e; rw [hi] at hy; cases hy; exact hp
 ·exact h j y (by omega) hy
def yay (k : Int) (n : Nd) : Bool := !decide (n.f = -1) && (decide (n.l = k) || decide (n.r = k))
def par (t : List Nd) (k : Int) : Int := zhu (yay k) t
theorem wS {i n : Nat} (h : i < n) (hn : n ≤ 9223372036854775807) : IntKind.i64.wrap ((i : Int) + 1) = (i : Int) + 1 := w64 (by omega) (by omega)
def fil {α β : Type} (f : α → β) (z : β) (l : List α) (i : Nat) : List β := (l.take i).map f ++ List.replicate (l.length - i) z
theorem z8h {α β : Type} {f : α → β} {l : List α} {z : β} {i : Nat} {x : α} (hx : l[i]? = some x) : (fil f z l i).set i (f x) = fil f z l (i + 1) := by
 unfold fil
 obtain ⟨h1, h2⟩ := List.getElem?_eq_some_iff.mp hx
 apply List.ext_getElem?
 intro j
 rw [List.getElem?_set]
 simp only [List.length_append, List.length_map, List.length_take, List.length_replicate]
 by_cases e : i = j
 ·subst e
  rw [if_pos rfl, if_pos (by omega), List.getElem?_append_left (by simp; omega)]
  simp [List.getElem?_take, hx]
 ·rw [if_neg e]
  by_cases hj : j < i
  ·rw [List.getElem?_append_left (by simp; omega), List.getElem?_append_left (by simp; omega)]
   simp [List.getElem?_take, hj, show j < i + 1 by omega]
  ·rw [List.getElem?_append_right (by simp; omega), List.getElem?_append_right (by simp; omega)]
   simp [List.getElem?_replicate]
   congr 1
   simp; omega
theorem z98 {α β : Type} {f : α → β} {l : List α} {z : β} {i : Nat} (h : i < l.length) : (fil f z l i)[i]? = some z := by
 unfold fil
 rw [List.getElem?_append_right (by simp; omega)]
 simp [List.getElem?_replicate]; omega
theorem z8c {α β : Type} {f : α → β} {l : List α} {z : β} {i : Nat} (h : i ≤ l.length) : (fil f z l i).length = l.length := by unfold fil; simp; omega
theorem z85 {α β : Type} {f : α → β} {l : List α} {z : β} : fil f z l 0 = List.replicate l.length z := by simp [fil]
theorem z97 {α β : Type} {f : α → β} {l : List α} {z : β} {i : Nat} (h : i = l.length) : fil f z l i = l.map f := by subst h; simp [fil]
def zaf (l : List Int) : List (List PV) := l.map fun n => [iv n]
@[simp] theorem z5t (l : List Int) : (zaf l).length = l.length := by simp [zaf]
theorem zcs {l : List Int} {i : Nat} {x : Int} (h : l[i]? = some x) : (zaf l)[i]? = some [iv x] := by simp [zaf, h]
@[simp] theorem yyu : zaf [] = [] := rfl
theorem zqo (x : Int) (l : List Int) : zaf (x :: l) = [iv x] :: zaf l := rfl
theorem zov (l : List Int) (x : Int) : zaf l ++ [[iv x]] = zaf (l ++ [x]) := by simp [zaf]
def anc (t : List Nd) : Nat → Int → Option (List Int)
 | 0, _ => none
 | n + 1, k => if par t k < 0 then some [] else (anc t n (par t k)).map (par t k :: ·)
def way (t : List Nd) (k : Int) : List Int := if 0 ≤ k ∧ k ≤ t.length - 1 then match anc t 32 k with
  | some l => (k :: l).reverse
  | none => []
 else []
theorem zlj {n : Nat} (h : n ≤ 17592186044416) : zb7 8 n = true := by simp [zb7]; omega
def mix {β : Type} (f : Nat → β) (l : List β) (i : Nat) : List β := (List.range i).map f ++ l.drop i
theorem zyp {β : Type} {f : Nat → β} {l : List β} : mix f l 0 = l := by simp [mix]
theorem zz8 {β : Type} {f : Nat → β} {l : List β} {i : Nat} (h : i = l.length) : mix f l i = (List.range i).map f := by subst h; simp [mix]
theorem zyi {β : Type} {f : Nat → β} {l : List β} {i : Nat} (h : i ≤ l.length) : (mix f l i).length = l.length := by simp [mix]; omega
theorem z0a {β : Type} {f : Nat → β} {l : List β} {i : Nat} : (mix f l i)[i]? = l[i]? := by
 unfold mix
 rw [List.getElem?_append_right (by simp)]
 simp
theorem zza {β : Type} {f : Nat → β} {l : List β} {i : Nat} (h : i < l.length) : (mix f l i).set i (f i) = mix f l (i + 1) := by
 unfold mix
 apply List.ext_getElem?
 intro j
 rw [List.getElem?_set]
 simp only [List.length_append, List.length_map, List.length_range, List.length_drop]
 by_cases e : i = j
 ·subst e
  rw [if_pos rfl, if_pos (by omega), List.getElem?_append_left (by simp)]
  simp
 ·rw [if_neg e]
  by_cases hj : j < i
  ·rw [List.getElem?_append_left (by simp; omega), List.getElem?_append_left (by simp; omega)]
   simp [hj, show j < i + 1 by omega]
  ·rw [List.getElem?_append_right (by simp; omega), List.getElem?_append_right (by simp; omega)]
   simp
   congr 1
   omega
theorem z4z (es : List (List PV)) (left : Int) (h0 : 0 ≤ left) (h1 : left ≤ 1048576) (hl : es.length ≤ 9223372036854775807) : RUN T zjy [.sl 1 es, iv left] = some ([iv (if left - es.length < 0 then -1 else left - es.length)], []) := by
 refine zae z2y rfl ?_
 have e := w64 (x := left - es.length) (by omega) (by omega)
 simp [zs2, zs3, e]
 refine zcl (fun h => ?_) (fun h => ?_) <;> simp at h <;> simp [h]
 omega
theorem zxz (l : List Int) (hl : l.length ≤ 1048576) : RUN T zf4 [.sl 1 (zaf l)] = some ([.own 1 (zaf l)], []) := by
 refine zae z1x rfl ?_
 have hr : zb7 8 l.length = true := zlj (by omega)
 simp [zrl, zrm, hr]
 refine zbs (fun n st => ∃ i : Nat, i + n = l.length ∧ st.V 0 = .sl 1 (zaf l) ∧ st.V 3 = .ref 0 none 0 0 l.length ∧ st.V 4 = iv i ∧ st.ep = 0 ∧ st.S 0 = some (.row 1 (fil (fun n => [iv n]) [iv 0] l i))) ?_ l.length _ ⟨0, by simp [z85]⟩
 rintro n st ⟨i, hi, h0, h3, h4, hep, hS⟩
 simp [z1b, h0, h3, h4, hS]
 refine zcl (fun h => ?_) (fun h => ?_)
 ·simp at h
  obtain ⟨x, hx⟩ : ∃ x, l[i]? = some x := ⟨_, List.getElem?_eq_getElem h⟩
  have hw := wS h (by omega : l.length ≤ 9223372036854775807)
  have hg := z98 (f := fun n => [iv n]) (z := [iv 0]) h
  have hs := z8h (f := fun n => [iv n]) (z := [iv 0]) hx
  have hx' := zcs hx
  simp [-getElem?_pos, h0, h3, h4, hS, hep, h, hx', hw, hg, hs, z8c (Nat.le_of_lt h)]
  exact za8 (n - 1) (by omega) ⟨i + 1, by omega, by simp [h0], by simp [h3], by simp, by simp, by simp⟩
 ·simp at h
  have e := z97 (f := fun n => [iv n]) (z := [iv 0]) (by omega : i = l.length)
  simp [h3, hS, e, zaf]
theorem zx0 (l : List Int) (hl : l.length ≤ 9223372036854775807) : RUN T zii [.sl 1 (zaf l), .sl 1 (zaf l)] = some ([bv true], []) := by
 refine zae z11 rfl ?_
 simp [zrt, zru]
 refine zbs (fun n st => ∃ i : Nat, i + n = l.length ∧ st.V 0 = .sl 1 (zaf l) ∧ st.V 1 = .sl 1 (zaf l) ∧ st.V 5 = iv i) ?_ l.length _ ⟨0, by simp⟩
 rintro n st ⟨i, hi, h0, h1, h5⟩
 simp [z1c, h0, h1, h5]
 refine zcl (fun h => ?_) (fun h => ?_)
 ·simp at h
  obtain ⟨x, hx⟩ : ∃ x, l[i]? = some x := ⟨_, List.getElem?_eq_getElem h⟩
  have hw := wS h hl
  have hx' := zcs hx
  simp [-getElem?_pos, h0, h1, h5, h, hx', hw]
  exact za8 (n - 1) (by omega) ⟨i + 1, by omega, by simp [h0], by simp [h1], by simp⟩
 ·simp
def upto (k : Int) (n : Nat) : List Int := (List.range n).map fun (i : Nat) => k + (i : Int)
@[simp] theorem yuz (k : Int) (n : Nat) : (upto k n).length = n := by simp [upto]
theorem zx1 (l : List Int) (k : Int) (h0 : 0 ≤ k) (hk : k + l.length ≤ 9223372036854775806) : RUN T zij [.own 1 (zaf l), iv k] = some ([iv (k + l.length)], [.own 1 (zaf (upto k l.length))]) := by
 refine zae z14 rfl ?_
 simp [zrz, zr0]
 refine zbs (fun n st => ∃ i : Nat, i + n = l.length ∧ st.V 0 = .ref 0 none 0 0 l.length ∧ st.V 1 = iv (k + i) ∧ st.V 5 = iv i ∧ st.ep = 0 ∧ st.S 0 = some (.row 1 (mix (fun j => [iv (k + (j : Int))]) (zaf l) i))) ?_ l.length _ ⟨0, by simp [zyp]⟩
 rintro n st ⟨i, hi, h0, h1, h5, hep, hS⟩
 simp [z1d, h0, h1, h5, hS]
 refine zcl (fun h => ?_) (fun h => ?_)
 ·simp at h
  obtain ⟨x, hx⟩ : ∃ x, l[i]? = some x := ⟨_, List.getElem?_eq_getElem h⟩
  have hw := wS h (by omega : l.length ≤ 9223372036854775807)
  have hw2 : IntKind.i64.wrap (k + (i : Int) + 1) = k + (i : Int) + 1 := w64 (by omega) (by omega)
  have hx' := zcs hx
  have hg := (z0a (f := fun (j : Nat) => [iv (k + (j : Int))]) (l := zaf l) (i := i)).trans hx'
  have hs := zza (f := fun (j : Nat) => [iv (k + (j : Int))]) (l := zaf l) (i := i) (by simpa using h)
  have hl := zyi (f := fun (j : Nat) => [iv (k + (j : Int))]) (l := zaf l) (i := i) (by simp; omega)
  simp at hl
  simp [-getElem?_pos, h0, h1, h5, hS, hep, h, hg, hs, hl, hw, hw2]
  exact za8 (n - 1) (by omega) ⟨i + 1, by omega, by simp [h0], by simp; omega, by simp, by simp, by simp⟩
 ·simp at h
  have e := zz8 (f := fun (j : Nat) => [iv (k + (j : Int))]) (l := zaf l) (i := i) (by simp; omega)
  have e2 : i = l.length := by omega
  subst e2
  simp [hS, e, h1]
  simp [zaf, upto, Function.comp_def]
theorem zw5 {α : Type} {l : List α} {i : Nat} {x : α} (h : l[i]? = some x) : l.drop i = x :: l.drop (i + 1) := by
 obtain ⟨h1, h2⟩ := List.getElem?_eq_some_iff.mp h
 rw [List.drop_eq_getElem_cons h1, h2]
def inI (n : Int) : Prop := -9223372036854775808 ≤ n ∧ n ≤ 9223372036854775807
def box (t : List Nd) (f : Int) : List Int → Int → Int → Int × Int
 | a :: b :: r, lo, hi => match t[a.toNat]? with
  | none => (lo, hi)
  | some x => if x.f = f then (if x.l = b then box t f (b :: r) lo (min hi x.c) else if x.c = 9223372036854775807 then box t f (b :: r) lo hi else box t f (b :: r) (max lo (x.c + 1)) hi) else box t f (b :: r) lo hi
 | _, lo, hi => (lo, hi)
def wfN (n : Nd) : Prop := inI n.f ∧ inI n.c ∧ inI n.l ∧ inI n.r ∧ inI n.v
theorem yiz {f : Nat} {p : Int → Bool} (l : List Int) (hl : l.length ≤ 9223372036854775807) (hm : zad T f = []) (hp : ∀ n ∈ l, RUN T f [iv n] = some ([bv (p n)], [])) :
  RUN T zj7 [.sl 1 (zaf l), .fn f []] = some ([iv (zhu p l)], []) := by
 refine zae zxx rfl ?_
 simp [zpw, zpx]
 refine zbs (fun n st => ∃ i : Nat, i + n = l.length ∧ st.V 0 = .sl 1 (zaf l) ∧ st.V 1 = .fn f [] ∧ st.V 8 = iv i ∧ st.V 7 = iv l.length ∧ ∀ (j : Nat) (x : Int), j < i → l[j]? = some x → p x = false) ?_ l.length _ ⟨0, by simp⟩
 rintro n st ⟨i, hi, h0, h1, h8, h7, hj⟩
 simp [zxr, h0, h1, h8, h7]
 refine zcl (fun h => ?_) (fun h => ?_)
 ·simp at h
  obtain ⟨x, hx⟩ : ∃ x, l[i]? = some x := ⟨_, List.getElem?_eq_getElem h⟩
  have hw := wS h hl
  have hx' := zcs hx
  have hpx := hp x (List.mem_of_getElem? hx)
  simp [-getElem?_pos, h0, h1, h8, h7, hx', hw, hm, hpx, h]
  refine zcl (fun b0 => ?_) (fun b0 => ?_) <;> (try simp at b0) <;> simp [-getElem?_pos, b0, h0, h1, h8, h7, hx', hw]
  all_goals first
   | exact (ybu hx b0 hj).symm
   | exact za8 (n - 1) (by omega) ⟨i + 1, by omega, by simp [h0], by simp [h1], by simp, by simp [h7], yac hj hx b0⟩
 ·simp at h
  simp [h]
  exact (z7i fun j x hl hx => hj j x (by omega) hx).symm
theorem z9v {α : Type} {p : α → Bool} {l : List α} : decide (0 ≤ zhu p l) = l.any p := by
 unfold zhu
 cases h : l.findIdx? p with
 | none =>
  rw [List.findIdx?_eq_none_iff] at h
  simp
  exact fun x hx => h x hx
 | some i =>
  obtain ⟨h1, h2, _⟩ := List.findIdx?_eq_some_iff_getElem.mp h
  simp
  exact ⟨_, List.getElem_mem h1, h2⟩
theorem zx2 {f : Nat} {p : Int → Bool} (l : List Int) (hl : l.length ≤ 9223372036854775807) (hm : zad T f = []) (hp : ∀ n ∈ l, RUN T f [iv n] = some ([bv (p n)], [])) :
  RUN T zg0 [.sl 1 (zaf l), .fn f []] = some ([bv (l.any p)], []) := by
 refine zae zxu rfl ?_
 have e := yiz l hl hm hp
 simp [zpg, zph, e, z9v]
structure Cfg where
 ro : Int
 de : Int
 bi : Int
 la : Int
 rw : Int
 nu : Int
 dn : Int
 sg : List Int
def zan (n a b : Int) : Bool := decide (a ≤ n) && decide (n ≤ b)
def zb8 (c : Cfg) : Bool := zan c.ro 1 8 && zan c.de 0 4 && zan c.bi 2 8 && zan c.la 1 100 && zan c.rw 1 20 && zan c.dn 1 1000 && zan c.nu 1 c.dn && decide ((c.sg.length : Int) ≤ 4) && c.sg.all fun n => zan n (-1) 1
@[simp] theorem yuo (n : Int) : RUN T zmu [iv n] = some ([bv (zan n (-1) 1)], []) := by
 refine zae z27 rfl ?_
 simp [ztk, ztl, zan]
@[simp] theorem yi0 (n : Int) : RUN T zj4 [iv n] = some ([bv (!zan n (-1) 1)], []) := by
 refine zae z26 rfl ?_
 simp [zti, ztj]
theorem zd0 (a b c : Int) : RUN T zca [iv a, iv b, iv c] = some ([bv (zan a b c)], []) := zdd a b c
theorem zdl (a b c : Int) : RUN T zdq [iv a, iv b, iv c] = some ([bv (zan a b c)], []) := zc8 a b c
theorem z40 (c : Cfg) (hl : c.sg.length ≤ 9223372036854775807) : RUN T zjr [.agg [iv c.ro, iv c.de, iv c.bi, iv c.la, iv c.rw, iv c.nu, iv c.dn, .sl 1 (zaf c.sg)]] = some ([bv (zb8 c)], []) := by
 refine zae z2a rfl ?_
 have e := zx2 (f := zj4) (p := fun n => !zan n (-1) 1) c.sg hl (by simp) (fun n _ => yi0 n)
 have e2 : ∀ l : List Int, (l.any fun n => !zan n (-1) 1) = !(l.all fun n => zan n (-1) 1) := by intro l; induction l <;> simp_all
 rw [e2] at e
 simp [zsb, zsc, zd0, -zdd]
 cases h0 : zan c.ro 1 8 <;> cases h1 : zan c.de 0 4 <;> simp [h0, h1, zd0, -zdd]
 all_goals try (simp [zb8, h0, h1]; done)
 cases h2 : zan c.bi 2 8 <;> cases h3 : zan c.la 1 100 <;> simp [h2, h3, zd0, -zdd]
 all_goals try (simp [zb8, h2, h3]; done)
 cases h4 : zan c.rw 1 20 <;> cases h5 : zan c.dn 1 1000 <;> simp [h4, h5, zd0, -zdd]
 all_goals try (simp [zb8, h4, h5]; done)
 cases h6 : zan c.nu 1 c.dn <;> simp [h6, zd0, -zdd]
 all_goals try (simp [zb8, h6]; done)
 by_cases h7 : (c.sg.length : Int) ≤ 4
 ·simp [h7, e, zb8, h0, h1, h2, h3, h4, h5, h6]
 ·simp [h7, zb8]
theorem zn4 {m : Nat → List Bool} {R : zai} {c : IC} {st : St} {Q : Ex → St → Prop} (h : W m R c st (Nx (fun s => W m R (.loop c) s Q) Q ⟨⟩ ⟨⟩)) : W m R (.loop c) st Q := yp5 ▸ h
theorem yi1 (a b c d e f g : Int) (x : PV) (sg : List (List PV)) : RUN T zmx [.agg [iv a, iv b, iv c, iv d, iv e, iv f, iv g, .sl 1 sg]] = some ([.own 1 (zaf [a, b, c, d, e])], []) := by
 refine zae z3d rfl ?_
 simp [ztu, ztv, zaf]
theorem zp8 : RUN T zmy [] = some ([.own 1 (zaf [1, 0, 2, 1, 1])], []) := by
 refine zae z3e rfl ?_
 simp [ztw, ztx, zaf]
theorem zp9 : RUN T zmz [] = some ([.own 1 (zaf [8, 4, 8, 100, 20])], []) := by
 refine zae z3f rfl ?_
 simp [zty, ztz, zaf]
theorem yi2 (c : Cfg) (hl : c.sg.length ≤ 9223372036854775807) : RUN T zmk [.agg [iv c.ro, iv c.de, iv c.bi, iv c.la, iv c.rw, iv c.nu, iv c.dn, .sl 1 (zaf c.sg)]] = some ([bv (zb8 c)], []) := by
 refine zae z2f rfl ?_
 have e1 := yi1 c.ro c.de c.bi c.la c.rw c.nu c.dn .undef (zaf c.sg)
 simp [zsf, zsg, e1]
 refine zn4 ?_
 simp [zky, zp8, zp9, zdl, -zc8, zqo]
 cases h0 : zan c.ro 1 8 <;> simp [h0]
 ·simp [zb8, h0]
 refine zn4 ?_
 simp [zky, zp8, zp9, zdl, -zc8, zqo]
 cases h1 : zan c.de 0 4 <;> simp [h1]
 ·simp [zb8, h1]
 refine zn4 ?_
 simp [zky, zp8, zp9, zdl, -zc8, zqo]
 cases h2 : zan c.bi 2 8 <;> simp [h2]
 ·simp [zb8, h2]
 refine zn4 ?_
 simp [zky, zp8, zp9, zdl, -zc8, zqo]
 cases h3 : zan c.la 1 100 <;> simp [h3]
 ·simp [zb8, h3]
 refine zn4 ?_
 simp [zky, zp8, zp9, zdl, -zc8, zqo]
 cases h4 : zan c.rw 1 20 <;> simp [h4]
 ·simp [zb8, h4]
 refine zn4 ?_
 simp [zky]
 refine zbs (fun n st => ∃ i : Nat, i + n = c.sg.length ∧ st.V 1 = .ptr 0 none 0 0 0 ∧ st.V 5 = iv i ∧ st.S 0 = some (.box [iv c.ro, iv c.de, iv c.bi, iv c.la, iv c.rw, iv c.nu, iv c.dn, .sl 1 (zaf c.sg)]) ∧ ∀ (j : Nat) (x : Int), j < i → c.sg[j]? = some x → zan x (-1) 1 = true) ?_ c.sg.length _ ⟨0, by simp⟩
 rintro n st ⟨i, hi, h1', h5, hS, hj⟩
 simp [z1g, h1', h5, hS]
 refine zcl (fun h => ?_) (fun h => ?_)
 ·simp at h
  obtain ⟨x, hx⟩ : ∃ x, c.sg[i]? = some x := ⟨_, List.getElem?_eq_getElem h⟩
  have hw := wS h hl
  have hx' := zcs hx
  simp [-getElem?_pos, h1', h5, hS, hx', hw, h, zdl, -zc8]
  cases hb : zan x (-1) 1 with
  | true =>
   simp [-getElem?_pos, h1', h5, hS, hw]
   refine za8 (n - 1) (by omega) ⟨i + 1, by omega, by simp [h1'], by simp, by simp [hS], fun j y hj' hy => ?_⟩
   by_cases e : j = i
   ·subst e; rw [hx] at hy; cases hy; exact hb
   ·exact hj j y (by omega) hy
  | false =>
   simp [zb8]
   intros
   exact ⟨x, List.mem_of_getElem? hx, hb⟩
 ·simp at h
  have hall : (c.sg.all fun n => zan n (-1) 1) = true := by
   rw [List.all_eq_true]
   intro x hx
   obtain ⟨j, hj'⟩ := List.getElem?_of_mem hx
   exact hj j x (by have := (List.getElem?_eq_some_iff.mp hj').1; omega) hj'
  simp [h1', hS, zdl, -zc8]
  cases h5 : zan c.dn 1 1000 <;> simp [h1', hS, h5, zdl, -zc8]
  ·simp [zb8, h5]
  cases h6 : zan c.nu 1 c.dn <;> simp [h1', hS, h6, zdl, -zc8]
  ·simp [zb8, h6]
  simp [zb8, h0, h1, h2, h3, h4, h5, h6, hall]
def fdv (a b : Int) : Int × Bool := if b = 0 ∨ (b = -1 ∧ a = -9223372036854775808) then (0, false) else (a.fdiv b, true)
theorem yab {a b : Int} (ha : inI a) (hb : b ≠ 0) (h : ¬ (b = -1 ∧ a = -9223372036854775808)) : -9223372036854775808 ≤ a.tdiv b ∧ a.tdiv b ≤ 9223372036854775807 ∧ (b ≠ 1 → -9223372036854775808 ≤ a.tdiv b - 1) := by
 obtain ⟨h1, h2⟩ := ha
 have h3 : (a.tdiv b).natAbs = a.natAbs / b.natAbs := Int.natAbs_tdiv a b
 have h4 : a.natAbs / b.natAbs ≤ a.natAbs := Nat.div_le_self _ _
 by_cases c : b = 1
 ·subst c; simp; omega
 by_cases c2 : b = -1
 ·subst c2; simp; omega
 have h5 : a.natAbs / b.natAbs ≤ a.natAbs / 2 := Nat.div_le_div_left (by omega) (by omega)
 omega
theorem z8q (a b : Int) (hb : b ≠ 0) : a.fdiv b = if a.tmod b ≠ 0 ∧ ¬ (a < 0 ↔ b < 0) then a.tdiv b - 1 else a.tdiv b := by
 rw [Int.fdiv_eq_tdiv]
 have hd : b ∣ a ↔ a.tmod b = 0 := Int.dvd_iff_tmod_eq_zero
 by_cases c : b ∣ a
 ·rw [if_pos c, if_neg (by rw [hd.mp c]; simp)]; simp
 ·have hc : a.tmod b ≠ 0 := fun e => c (hd.mpr e)
  have ha : a ≠ 0 := fun e => c (by subst e; exact ⟨0, by simp⟩)
  rw [if_neg c]
  rcases Int.lt_or_gt_of_ne hb with s2 | s2
  ·rw [if_neg (by omega : ¬ 0 ≤ b), if_neg (by omega : ¬ 0 ≤ b), Int.sign_eq_neg_one_of_neg s2]
   by_cases s1 : 0 ≤ a
   ·rw [if_pos s1, if_pos ⟨hc, by omega⟩]
   ·rw [if_neg s1, if_neg (fun h => h.2 (by omega))]; omega
  ·rw [if_pos (by omega : 0 ≤ b), if_pos (by omega : 0 ≤ b), Int.sign_eq_one_of_pos s2]
   by_cases s1 : 0 ≤ a
   ·rw [if_pos s1, if_neg (fun h => h.2 (by omega))]; omega
   ·rw [if_neg s1, if_pos ⟨hc, by omega⟩]
theorem yi3 (a b : Int) (ha : inI a) : RUN T zmq [iv a, iv b] = some ([iv (fdv a b).1, bv (fdv a b).2], []) := by
 refine zae z2s rfl ?_
 simp [zsv, zsw]
 by_cases h0 : b = 0
 ·subst h0; simp [fdv]
 by_cases hbad : b = -1 ∧ a = -9223372036854775808
 ·obtain ⟨rfl, rfl⟩ := hbad; simp [fdv]
 have hr := yab ha h0 hbad
 have hq := w64 hr.1 hr.2.1
 have hf := z8q a b h0
 have e1 : fdv a b = (a.fdiv b, true) := by unfold fdv; rw [if_neg (by simp [h0]; intro h; exact fun h2 => hbad ⟨h, h2⟩)]
 rw [e1]
 have hq2 : a.tmod b ≠ 0 → IntKind.i64.wrap (a.tdiv b - 1) = a.tdiv b - 1 := fun h => w64 (hr.2.2 (by rintro rfl; simp at h)) (by omega)
 have f0 := eq_false h0
 obtain ⟨p1, hp1⟩ : ∃ p, (b = -1) = p := ⟨_, rfl⟩
 obtain ⟨p2, hp2⟩ : ∃ p, (a = -9223372036854775808) = p := ⟨_, rfl⟩
 rw [hp1, hp2] at hbad
 by_cases c1 : p1 <;> by_cases c2 : p2
 ·exact (hbad ⟨c1, c2⟩).elim
 all_goals
  simp only [c1, c2] at hp1 hp2
  simp [f0, hp1, hp2, hq]
  by_cases d0 : a.tmod b = 0
  ·rw [if_neg (by simp [d0])] at hf
   simp [d0, hf]
  ·have hq3 := hq2 d0
   have d1 := eq_false d0
   by_cases d2 : a < 0 <;> by_cases d3 : b < 0
   all_goals
    simp only [d2, d3, ne_eq, d1, not_false_eq_true, iff_self, not_true_eq_false, and_false, if_false, iff_true, iff_false, and_true, if_true, true_iff, false_iff] at hf
    simp [d1, d2, d3, hq3, hf]
theorem yi4 (a b : Int) (ha : inI a) : RUN T zm1 [iv a, iv b] = some ([iv (fdv a b).1, bv (fdv a b).2], []) := by
 refine zae z3k rfl ?_
 simp [zt8, zt9]
 by_cases h0 : b = 0
 ·subst h0; simp [fdv]
 by_cases hbad : b = -1 ∧ a = -9223372036854775808
 ·obtain ⟨rfl, rfl⟩ := hbad; simp [fdv]
 have hr := yab ha h0 hbad
 have hq := w64 hr.1 hr.2.1
 have hf := z8q a b h0
 have e1 : fdv a b = (a.fdiv b, true) := by unfold fdv; rw [if_neg (by simp [h0]; intro h; exact fun h2 => hbad ⟨h, h2⟩)]
 rw [e1]
 have hq2 : a.tmod b ≠ 0 → IntKind.i64.wrap (a.tdiv b - 1) = a.tdiv b - 1 := fun h => w64 (hr.2.2 (by rintro rfl; simp at h)) (by omega)
 have f0 := eq_false h0
 obtain ⟨p1, hp1⟩ : ∃ p, (b = -1) = p := ⟨_, rfl⟩
 obtain ⟨p2, hp2⟩ : ∃ p, (a = -9223372036854775808) = p := ⟨_, rfl⟩
 rw [hp1, hp2] at hbad
 by_cases c1 : p1 <;> by_cases c2 : p2
 ·exact (hbad ⟨c1, c2⟩).elim
 all_goals
  simp only [c1, c2] at hp1 hp2
  simp [f0, hp1, hp2, hq]
  by_cases d0 : a.tmod b = 0
  ·rw [if_neg (by simp [d0])] at hf
   simp [d0, hf]
  ·have hq3 := hq2 d0
   have d1 := eq_false d0
   by_cases d2 : a < 0 <;> by_cases d3 : b < 0
   all_goals
    simp only [d2, d3, ne_eq, d1, not_false_eq_true, iff_self, not_true_eq_false, and_false, if_false, iff_true, iff_false, and_true, if_true, true_iff, false_iff] at hf
    simp [d1, d2, d3, hq3, hf]
abbrev zdo (c : Cfg) : PV := .agg [iv c.ro, iv c.de, iv c.bi, iv c.la, iv c.rw, iv c.nu, iv c.dn, .sl 1 (zaf c.sg)]
abbrev zwb (c : Cfg) : PV := .agg [iv c.ro, iv c.de, iv c.bi, iv c.la, iv c.rw, iv c.nu, iv c.dn, .own 1 (zaf c.sg)]
theorem zby {n a b : Int} : zan n a b = true ↔ a ≤ n ∧ n ≤ b := by simp [zan]
def zev (v : Int) : Bool := zan v (-1099511627776) 1099511627776
@[simp] theorem z41 (v : Int) : RUN T zkb [iv v] = some ([bv (zev v)], []) := by
 refine zae z3n rfl ?_
 simp [zuc, zud, zev, zan]
@[simp] theorem z42 (v : Int) : RUN T zke [iv v] = some ([bv (zev v)], []) := by
 refine zae z31 rfl ?_
 simp [zu0, zu1, zev, zan]
def shr (v : Int) (c : Cfg) : Int × Bool := if zb8 c && zev v then (( v * c.nu).fdiv c.dn, true) else (0, false)
theorem yi5 (c : Cfg) (left : Int) (h0 : 0 ≤ left) (h1 : left ≤ 1048576) (hl : c.sg.length ≤ 9223372036854775807) : RUN T zma [zdo c, iv left] = some ([iv (if left - c.sg.length < 0 then -1 else left - c.sg.length)], []) := by
 refine zae z1v rfl ?_
 have e := z4z (zaf c.sg) left h0 h1 (by simpa using hl)
 simp only [z5t] at e
 by_cases h : left - c.sg.length < 0
 ·simp only [h, if_true] at e ⊢
  simp [zo4, zo5, e]
  intro _; omega
 ·simp only [h, if_false] at e ⊢
  simp [zo4, zo5, e, h]
theorem yi6 (c : Cfg) (hl : c.sg.length ≤ 1048576) : RUN T zhk [zdo c] = some ([zwb c], []) := by
 refine zae z1y rfl ?_
 simp [zrn, zro, zxz c.sg hl]
theorem yi7 (c : Cfg) (hl : c.sg.length ≤ 9223372036854775807) : RUN T zmd [zdo c, zdo c] = some ([bv true], []) := by
 refine zae z12 rfl ?_
 simp [zrv, zrw, zx0 c.sg hl]
def zfd (n : Int) : Bool := zan n (-2147483647) 2147483647
@[simp] theorem yup (v : Int) : RUN T znb [iv v] = some ([bv (zfd v)], []) := by
 refine zae z3z rfl ?_
 simp [zuw, zux, zfd, zan]
@[simp] theorem yuq (v : Int) : RUN T znh [iv v] = some ([bv (zfd v)], []) := by
 refine zae z4h rfl ?_
 simp [zvk, zvl, zfd, zan]
structure yk4 (F : Int) (x : Nd) (i n m : Int) : Prop where
 lo : n ≤ x.l
 lt : i < x.l
 r : x.r = x.l + 1
 hi : x.r < m
 f : 0 ≤ x.f ∧ x.f ≤ F - 1
 c : zfd x.c = true
 v : x.v = 0
structure Shaped (t : List Nd) (F : Int) : Prop where
 leaf : ∀ (j : Nat) (x : Nd), t[j]? = some x → x.f = -1 → x.c = 0 ∧ x.l = 0 ∧ x.r = 0 ∧ zev x.v = true
 inner : ∀ (j : Nat) (x : Nd), t[j]? = some x → x.f ≠ -1 → yk4 F x j 1 t.length
 ord : ∀ (j j' : Nat) (x y : Nd), j < j' → t[j]? = some x → t[j']? = some y → x.f ≠ -1 → y.f ≠ -1 → x.r < y.l
 cover : ∀ k : Int, 1 ≤ k → k < t.length → ∃ (j : Nat) (x : Nd), t[j]? = some x ∧ x.f ≠ -1 ∧ (x.l = k ∨ x.r = k)
 pos : 1 ≤ t.length
def adj (p : Int → Int → Bool) : List Int → Bool
 | a :: b :: r => p a b || adj p (b :: r)
 | _ => false
theorem zy0 {p : Int → Int → Bool} : ∀ {l : List Int}, adj p l = true ↔ ∃ (i : Nat) (a b : Int), l[i]? = some a ∧ l[i + 1]? = some b ∧ p a b = true
 | [] => by simp [adj]
 | [x] => by simp [adj]
 | x :: y :: r => by
  simp only [adj, Bool.or_eq_true]
  rw [zy0 (l := y :: r)]
  constructor
  ·rintro (h | ⟨i, a, b, h1, h2, h3⟩)
   ·exact ⟨0, x, y, rfl, rfl, h⟩
   ·exact ⟨i + 1, a, b, by simpa using h1, by simpa using h2, h3⟩
  ·rintro ⟨i, a, b, h1, h2, h3⟩
   cases i with
   | zero => simp at h1 h2; subst h1; subst h2; exact .inl h3
   | succ i => exact .inr ⟨i, a, b, by simpa using h1, by simpa using h2, h3⟩
theorem zz7 {α : Type} {P : Nat → α → Prop} {l : List α} {i : Nat} {x : α} (h : ∀ (j : Nat) (x : α), j < i → l[j]? = some x → P j x) (hi : l[i]? = some x) (hp : P i x) : ∀ (j : Nat) (x : α), j < i + 1 → l[j]? = some x → P j x := by
 intro j y hj hy
 by_cases e : j = i
 ·subst e; rw [hi] at hy; cases hy; exact hp
 ·exact h j y (by omega) hy
def cel (q : Bool) (l : List Int) : PV := if q then .own 1 (zaf l) else .sl 1 (zaf l)
@[simp] theorem y6x (q : Bool) (l : List Int) : fz (cel q l) = .sl 1 (zaf l) := by cases q <;> simp [cel]
def rws (q : Bool) (L : List (List Int)) : List (List PV) := L.map fun l => [cel q l]
@[simp] theorem yzn (q : Bool) (L : List (List Int)) : (rws q L).length = L.length := by simp [rws]
theorem zeh {q : Bool} {L : List (List Int)} {i : Nat} {l : List Int} (h : L[i]? = some l) : (rws q L)[i]? = some [cel q l] := by simp [rws, h]
@[simp] theorem yur (n : Int) : RUN T zkl [iv n] = some ([bv (!zfd n)], []) := by
 refine zae z4g rfl ?_
 simp [zvi, zvj]
theorem yi8 (l : List Int) (hl : l.length ≤ 9223372036854775807) : RUN T znc [.sl 1 (zaf l)] = some ([bv (l.all zfd)], []) := by
 refine zae z30 rfl ?_
 have e := zx2 (f := zkl) (p := fun n => !zfd n) l hl (by simp) (fun n _ => by simp)
 simp [zuy, zuz, e]
 simp [List.any_eq_not_all_not]
def zew (l : List Int) : Bool := !adj (fun a b => decide (b ≤ a)) l && l.all zfd && decide ((l.length : Int) ≤ 7)
theorem z73 {p : Int → Int → Bool} {l : List Int} (h : ∀ (j : Nat) (a b : Int), l[j]? = some a → l[j + 1]? = some b → p a b = false) : adj p l = false := by
 cases e : adj p l with
 | false => rfl
 | true =>
  obtain ⟨j, a, b, h1, h2, h3⟩ := zy0.mp e
  rw [h j a b h1 h2] at h3; cases h3
theorem z5y {p : Int → Int → Bool} {l : List Int} {j : Nat} {a b : Int} (h1 : l[j]? = some a) (h2 : l[j + 1]? = some b) (h3 : p a b = true) : adj p l = true := zy0.mpr ⟨j, a, b, h1, h2, h3⟩
theorem z0e {l : List Int} {p : Int → Bool} {j : Nat} {a : Int} (h1 : l[j]? = some a) (h2 : p a = false) : l.all p = false := by
 cases e : l.all p with
 | false => rfl
 | true => rw [List.all_eq_true.mp e a (List.mem_of_getElem? h1)] at h2; cases h2
theorem zyg {l : List Int} {p : Int → Bool} (h : ∀ (j : Nat) (a : Int), j < l.length → l[j]? = some a → p a = true) : l.all p = true := by
 rw [List.all_eq_true]
 intro x hx
 obtain ⟨j, hj⟩ := List.getElem?_of_mem hx
 exact h j x (List.getElem?_eq_some_iff.mp hj).1 hj
theorem yi9 (l : List Int) (hl : l.length ≤ 9223372036854775807) : RUN T zm0 [.sl 1 (zaf l)] = some ([bv (zew l)], []) := by
 refine zae z3g rfl ?_
 have hd := yi8 l hl
 simp [zt0, zt1]
 refine zbs (fun n st => ∃ i : Nat, i + n = l.length + 1 ∧ 1 ≤ i ∧ st.V 0 = .sl 1 (zaf l) ∧ st.V 3 = iv i ∧ ∀ (j : Nat) (a b : Int), j + 1 < i → l[j]? = some a → l[j + 1]? = some b → decide (b ≤ a) = false) ?_ l.length _ ⟨1, by omega, by omega, by simp, by simp, fun j a b h => by omega⟩
 rintro n st ⟨i, hi, h1, v0, v3, hj⟩
 simp [z1n, v0, v3]
 refine zcl (fun h => ?_) (fun h => ?_)
 ·simp at h
  obtain ⟨k, rfl⟩ : ∃ k, i = k + 1 := ⟨i - 1, by omega⟩
  obtain ⟨a, ha⟩ : ∃ a, l[k]? = some a := ⟨_, List.getElem?_eq_getElem (by omega)⟩
  obtain ⟨b, hb⟩ : ∃ b, l[k + 1]? = some b := ⟨_, List.getElem?_eq_getElem h⟩
  have ha' := zcs ha
  have hb' := zcs hb
  have hw : IntKind.i64.wrap ((k : Int) + 1 + 1) = (k : Int) + 1 + 1 := w64 (by omega) (by omega)
  have hw1 : IntKind.i64.wrap (k : Int) = k := w64 (by omega) (by omega)
  have hkl : k < l.length := by omega
  simp [-getElem?_pos, v0, v3, ha', hb', hw1, h, hkl]
  refine zcl (fun h2 => ?_) (fun h2 => ?_)
  ·simp at h2
   have : zew l = false := by unfold zew; rw [z5y ha hb (by simpa using h2)]; rfl
   simp [this]
  ·simp at h2
   simp [-getElem?_pos, v0, v3, hw]
   refine za8 (n - 1) (by omega) ⟨k + 2, by omega, by omega, by simp [v0], by simp; omega, fun j x y hjk hx hy => ?_⟩
   by_cases e : j = k
   ·subst e; rw [ha] at hx; rw [hb] at hy; cases hx; cases hy; simp; omega
   ·exact hj j x y (by omega) hx hy
 ·simp at h
  have e : adj (fun a b => decide (b ≤ a)) l = false := z73 fun j a b h1 h2 => hj j a b (by have := (List.getElem?_eq_some_iff.mp h2).1; omega) h1 h2
  unfold zew
  rw [e]
  by_cases c : (l.length : Int) ≤ 7
  ·simp [v0, hd, c]
  ·simp [v0, c]
theorem yja (l : List Int) (hl : l.length ≤ 9223372036854775807) : RUN T zmw [.sl 1 (zaf l)] = some ([bv (zew l)], []) := by
 refine zae z3c rfl ?_
 simp [zts, ztt]
 refine zbs (fun n st => ∃ i : Nat, i + n = l.length ∧ st.V 0 = .sl 1 (zaf l) ∧ st.V 3 = iv i ∧ (∀ (j : Nat) (a : Int), j < i → l[j]? = some a → zfd a = true) ∧ ∀ (j : Nat) (a b : Int), j + 1 < i → l[j]? = some a → l[j + 1]? = some b → decide (b ≤ a) = false) ?_ l.length _ ⟨0, by simp⟩
 rintro n st ⟨i, hi, v0, v3, hd, hj⟩
 simp [z1m, v0, v3]
 refine zcl (fun h => ?_) (fun h => ?_)
 ·simp at h
  obtain ⟨b, hb⟩ : ∃ b, l[i]? = some b := ⟨_, List.getElem?_eq_getElem h⟩
  have hb' := zcs hb
  have hw := wS h hl
  rcases Bool.eq_false_or_eq_true (zfd b) with d | d
  ·have hd' := zz7 (P := fun _ a => zfd a = true) hd hb d
   rcases i with _ | k
   ·simp [-getElem?_pos, v0, v3, hb', d, h, hw]
    exact za8 (n - 1) (by omega) ⟨1, by omega, by simp [v0], by simp, by simpa using hd', fun j x y hjk hx hy => by omega⟩
   ·obtain ⟨a, ha⟩ : ∃ a, l[k]? = some a := ⟨_, List.getElem?_eq_getElem (by omega)⟩
    have ha' := zcs ha
    have hw : IntKind.i64.wrap ((k : Int) + 1 + 1) = (k : Int) + 1 + 1 := w64 (by omega) (by omega)
    have hw1 : IntKind.i64.wrap (k : Int) = k := w64 (by omega) (by omega)
    have hkl : k < l.length := by omega
    have hk0 : (0 : Int) < ((k + 1 : Nat) : Int) := by omega
    rcases Classical.propComplete (b ≤ a) with c | c
    ·have : zew l = false := by unfold zew; rw [z5y ha hb (by simp [c])]; rfl
     simp [-getElem?_pos, v0, v3, ha', hb', d, h, hw, hw1, hkl, hk0, c, this]
    ·simp [-getElem?_pos, v0, v3, ha', hb', d, h, hw, hw1, hkl, hk0, c]
     refine za8 (n - 1) (by omega) ⟨k + 2, by omega, by simp [v0], by simp; omega, hd', fun j x y hjk hx hy => ?_⟩
     by_cases e : j = k
     ·subst e; rw [ha] at hx; rw [hb] at hy; cases hx; cases hy; simp [c]
     ·exact hj j x y (by omega) hx hy
  ·have : zew l = false := by unfold zew; rw [z0e hb d]; simp
   simp [-getElem?_pos, v0, v3, hb', d, h, this]
 ·simp at h
  have e : adj (fun a b => decide (b ≤ a)) l = false := z73 fun j a b h1 h2 => hj j a b (by have := (List.getElem?_eq_some_iff.mp h2).1; omega) h1 h2
  have e2 : l.all zfd = true := zyg fun j a h1 h2 => hd j a (by omega) h2
  unfold zew
  rw [e, e2]
  simp [v0]
def zcd : List (List Int) → Nat
 | [] => 0
 | l :: _ => l.length
theorem z43 (q : Bool) (c v : List (List Int)) : RUN T zik [.agg [.sl 1 (rws q c), .sl 1 (rws q v)]] = some ([iv (zcd v)], []) := by
 refine zae z2g rfl ?_
 cases v with
 | nil => simp [zpc, zpd, zcd]
 | cons l L =>
  have h : rws q (l :: L) = [cel q l] :: rws q L := rfl
  have h0 : ((L.length : Int) + 1 = 0) = False := eq_false (by omega)
  simp [h0, zpc, zpd, zcd, h]
theorem zx3 (q : Bool) (c v : List (List Int)) : RUN T zhl [.agg [.sl 1 (rws q c), .sl 1 (rws q v)]] = some ([iv (zcd v)], []) := by
 refine zae z2i rfl ?_
 cases v with
 | nil => simp [zpe, zpf, zcd]
 | cons l L =>
  have h : rws q (l :: L) = [cel q l] :: rws q L := rfl
  have h0 : ((L.length : Int) + 1 = 0) = False := eq_false (by omega)
  simp [h0, zpe, zpf, zcd, h]
theorem yjb {f : Nat} {c : PV} {p : Int → Bool} (l : List Int) (hl : l.length ≤ 9223372036854775807) (hm : zad T f = []) (hp : ∀ n ∈ l, RUN T f [iv n, .fptr [c] 0] = some ([bv (p n)], [])) :
  RUN T zj7 [.sl 1 (zaf l), .fn f [.fptr [c] 0]] = some ([iv (zhu p l)], []) := by
 refine zae zxx rfl ?_
 simp [zpw, zpx]
 refine zbs (fun n st => ∃ i : Nat, i + n = l.length ∧ st.V 0 = .sl 1 (zaf l) ∧ st.V 1 = .fn f [.fptr [c] 0] ∧ st.V 8 = iv i ∧ st.V 7 = iv l.length ∧ ∀ (j : Nat) (x : Int), j < i → l[j]? = some x → p x = false) ?_ l.length _ ⟨0, by simp⟩
 rintro n st ⟨i, hi, h0, h1, h8, h7, hj⟩
 simp [zxr, h0, h1, h8, h7]
 refine zcl (fun h => ?_) (fun h => ?_)
 ·simp at h
  obtain ⟨x, hx⟩ : ∃ x, l[i]? = some x := ⟨_, List.getElem?_eq_getElem h⟩
  have hw := wS h hl
  have hx' := zcs hx
  have hpx := hp x (List.mem_of_getElem? hx)
  simp [-getElem?_pos, h0, h1, h8, h7, hx', hw, hm, hpx, h]
  refine zcl (fun b0 => ?_) (fun b0 => ?_) <;> (try simp at b0) <;> simp [-getElem?_pos, b0, h0, h1, h8, h7, hx', hw]
  all_goals first
   | exact (ybu hx b0 hj).symm
   | exact za8 (n - 1) (by omega) ⟨i + 1, by omega, by simp [h0], by simp [h1], by simp, by simp [h7], yac hj hx b0⟩
 ·simp at h
  simp [h]
  exact (z7i fun j x hl hx => hj j x (by omega) hx).symm
theorem yjc {f : Nat} {c : PV} {p : Int → Bool} (l : List Int) (hl : l.length ≤ 9223372036854775807) (hm : zad T f = []) (hp : ∀ n ∈ l, RUN T f [iv n, .fptr [c] 0] = some ([bv (p n)], [])) :
  RUN T zg0 [.sl 1 (zaf l), .fn f [.fptr [c] 0]] = some ([bv (l.any p)], []) := by
 refine zae zxu rfl ?_
 have e := yjb l hl hm hp
 simp [zpg, zph, e, z9v]
@[simp] theorem yus (n : Int) (a : List Int) : RUN T zj6 [iv n, .fptr [.sl 1 (zaf a)] 0] = some ([bv (!zan n 0 a.length)], []) := by
 refine zae z3h rfl ?_
 simp [zt2, zt3, zd0, -zdd]
theorem z90 {s : St} {d : Option Dst} {op : IOp} {g : Opd} {v : Bool} {x : PV} : (yv s ⟨d, op, some (g, v)⟩ = some x) = (Ob' (zgu v (g.get s)) fun t => Br t (WI (fun _ => []) (fun _ _ => none) op s (fun y _ => y = x)) (PV.v Go.undef = x)) := by
 simp only [yv, z8d, WI, Ob', Br, Option.map_eq_some_iff, Option.bind_eq_some_iff, eq_iff_iff]
 constructor
 ·rintro ⟨⟨y, s'⟩, ⟨t, h1, h2⟩, h3⟩
  refine ⟨t, h1, fun ht => ?_, fun ht => ?_⟩ <;> subst ht
  ·exact ⟨y, s', by simpa using h2, h3⟩
  ·simp at h2; obtain ⟨rfl, rfl⟩ := h2; exact h3
 ·rintro ⟨t, h1, h2, h3⟩
  cases t with
  | true => obtain ⟨y, s', h4, h5⟩ := h2 rfl; exact ⟨(y, s'), ⟨true, h1, by simpa using h4⟩, h5⟩
  | false => exact ⟨_, ⟨false, h1, rfl⟩, h3 rfl⟩
@[simp] theorem yvg {s : St} {d : Option Dst} {op : IOp} {g : Opd} {v : Bool} {x : PV} {n : Nat} {r : List (zab × PV × Nat)} : zbv s ((⟨d, op, some (g, v)⟩, x, n + 1) :: r) = ((Ob' (zgu v (g.get s)) fun t => Br t (WI (fun _ => []) (fun _ _ => none) op s (fun y _ => y = x)) (PV.v Go.undef = x)) ∧ zbv s r) := by
 simp only [zbv, z90]
@[simp] theorem qav {V E : Nat → PV} {d : Option Dst} {op : IOp} {g : Opd} {v : Bool} {x : PV} {n : Nat} {s : St} {ms : List St} : za0 V E ⟨d, op, some (g, v)⟩ x (n + 1) (s :: ms) = ((Ob' (zgu v (g.get { s with V := V, E := E })) fun t => Br t (WI (fun _ => []) (fun _ _ => none) op { s with V := V, E := E } (fun y _ => y = x)) (PV.v Go.undef = x)) ∧ za0 V E ⟨d, op, some (g, v)⟩ x n ms) := by
 simp only [za0, z90]
def zem (c v : List (List Int)) (f : Nat) : Bool := match c[f]?, v[f]? with
 | some a, some b => zew a && decide ((b.length : Int) = zcd v) && b.all fun x => zan x 0 a.length
 | _, _ => true
def zc3 (c v : List (List Int)) : Bool := zan c.length 1 4 && decide ((v.length : Int) = c.length) && zan (zcd v) 1 40 && (List.range c.length).all (zem c v)
theorem z5z {c v : List (List Int)} (h1 : zan c.length 1 4 = true) (h2 : (v.length : Int) = c.length) (h3 : zan (zcd v) 1 40 = true) : zc3 c v = (List.range c.length).all (zem c v) := by
 simp [zc3, h1, h2, h3]
theorem z6r {p : Nat → Bool} {n : Nat} (h : ∀ i, i < n → p i = true) : (List.range n).all p = true := by
 rw [List.all_eq_true]
 intro x hx
 exact h x (by simpa using hx)
theorem zof {p : Nat → Bool} {n i : Nat} (hi : i < n) (h : p i = false) : (List.range n).all p = false := by
 cases e : (List.range n).all p with
 | false => rfl
 | true => rw [List.all_eq_true.mp e i (by simpa using hi)] at h; cases h
theorem z6h {c v : List (List Int)} {f : Nat} {a b : List Int} (ha : c[f]? = some a) (hb : v[f]? = some b) : zem c v f = (zew a && decide ((b.length : Int) = zcd v) && b.all fun x => zan x 0 a.length) := by
 simp [zem, ha, hb]
theorem z8e {P : Nat → Prop} {i : Nat} (h : ∀ j, j < i → P j) (hi : P i) : ∀ j, j < i + 1 → P j := by
 intro j hj
 by_cases e : j = i
 ·subst e; exact hi
 ·exact h j (by omega)
set_option maxHeartbeats 1000000 in
theorem yjd (q : Bool) (c v : List (List Int)) (hc : ∀ l ∈ c, l.length ≤ 9223372036854775807) (hv : ∀ l ∈ v, l.length ≤ 9223372036854775807) : RUN T zml [.agg [.sl 1 (rws q c), .sl 1 (rws q v)]] = some ([bv (zc3 c v)], []) := by
 refine zae z2h rfl ?_
 have hR := zx3 q c v
 by_cases h1 : zan c.length 1 4 = true
 case neg => simp [zkz, zk0, zd0, -zdd, h1, zc3]
 by_cases h2 : (v.length : Int) = c.length
 case neg => simp [zkz, zk0, zd0, -zdd, h1, h2, zc3]
 by_cases h3 : zan (zcd v) 1 40 = true
 case neg => simp [zkz, zk0, zd0, -zdd, h1, h2, h3, hR, zc3]
 have h1' := zby.mp h1
 rw [z5z h1 h2 h3]
 simp [zkz, zk0, zd0, -zdd, h1, h2, h3, hR]
 refine zbs (fun n st => ∃ i : Nat, i + n = c.length ∧ (∀ j, j < i → zem c v j = true) ∧ st.V 1 = .ptr 0 none 0 0 0 ∧ st.V 26 = .sl 1 (rws q c) ∧ st.V 27 = iv c.length ∧ st.V 28 = iv i ∧ 0 < st.nx ∧ st.S 0 = some (.box [.sl 1 (rws q c), .sl 1 (rws q v)])) ?_ c.length _ ⟨0, by simp⟩
 rintro n st ⟨i, hi, hk, v1, v26, v27, v28, hnx, hS⟩
 simp [z1h, v26, v27, v28]
 have z := fr hnx
 refine zcl (fun h => ?_) (fun h => ?_)
 ·simp at h
  obtain ⟨a, ha⟩ : ∃ a, c[i]? = some a := ⟨_, List.getElem?_eq_getElem h⟩
  obtain ⟨b, hb⟩ : ∃ b, v[i]? = some b := ⟨_, List.getElem?_eq_getElem (by omega)⟩
  have ha' := zeh (q := q) ha
  have hb' := zeh (q := q) hb
  have hal := hc a (List.mem_of_getElem? ha)
  have hbl := hv b (List.mem_of_getElem? hb)
  have hC := yi9 a hal
  have hF := yjc (f := zj6) (c := .sl 1 (zaf a)) (p := fun n => !zan n 0 a.length) b hbl (by simp) (fun n _ => by simp)
  have hw := wS h (by omega : c.length ≤ 9223372036854775807)
  have hiv : i < v.length := by omega
  have hfe := z6h ha hb
  by_cases d1 : zew a = true
  ·rcases Classical.propComplete ((b.length : Int) = zcd v) with d2 | d2
   ·by_cases d3 : (b.all fun x => zan x 0 a.length) = true
    ·have d3' : (b.any fun n => !zan n 0 a.length) = false := by simpa [List.any_eq_not_all_not] using d3
     simp [-getElem?_pos, v1, v26, v27, v28, hS, z, ha', hb', hC, hF, hR, hw, h, hiv, d1, d2, d3']
     exact za8 (n - 1) (by omega) ⟨i + 1, by omega, z8e hk (by rw [hfe, d1, d3]; simp [d2]), by simp [v1], by simp [v26], by simp [v27], by simp, by simp, by simp [z, hS]⟩
    ·have d3' : (b.any fun n => !zan n 0 a.length) = true := by simpa [List.any_eq_not_all_not] using d3
     have no := zof h (by rw [hfe, d1]; simp [d3] : zem c v i = false)
     simp [-getElem?_pos, v1, v26, v27, v28, hS, z, ha', hb', hC, hF, hR, hw, h, hiv, d1, d2, d3', no]
   ·have no := zof h (by rw [hfe, d1]; simp [d2] : zem c v i = false)
    simp [-getElem?_pos, v1, v26, v27, v28, hS, z, ha', hb', hC, hF, hR, hw, h, hiv, d1, d2, no]
  ·have no := zof h (by rw [hfe]; simp [d1] : zem c v i = false)
   simp [-getElem?_pos, v1, v26, v27, v28, hS, z, ha', hb', hC, hF, hR, hw, h, hiv, d1, no]
 ·simp at h
  have := z6r (p := zem c v) (n := c.length) fun j hj => hk j (by omega)
  simp [this]
set_option maxHeartbeats 1000000 in
theorem yje (q : Bool) (c v : List (List Int)) (hc : ∀ l ∈ c, l.length ≤ 9223372036854775807) (hv : ∀ l ∈ v, l.length ≤ 9223372036854775807) : RUN T zmj [.agg [.sl 1 (rws q c), .sl 1 (rws q v)]] = some ([bv (zc3 c v)], []) := by
 refine zae z2e rfl ?_
 have hR := z43 q c v
 by_cases h1 : zan c.length 1 4 = true
 case neg => simp [zkw, zkx, zdl, -zc8, h1, zc3]
 by_cases h2 : (v.length : Int) = c.length
 case neg => simp [zkw, zkx, zdl, -zc8, h1, h2, zc3]
 by_cases h3 : zan (zcd v) 1 40 = true
 case neg => simp [zkw, zkx, zdl, -zc8, h1, h2, h3, hR, zc3]
 have h1' := zby.mp h1
 rw [z5z h1 h2 h3]
 simp [zkw, zkx, zdl, -zc8, h1, h2, h3, hR]
 refine zbs (fun n st => ∃ i : Nat, i + n = c.length ∧ (∀ j, j < i → zem c v j = true) ∧ st.V 1 = .ptr 0 none 0 0 0 ∧ st.V 3 = iv i ∧ 0 < st.nx ∧ st.S 0 = some (.box [.sl 1 (rws q c), .sl 1 (rws q v)])) ?_ c.length _ ⟨0, by simp⟩
 rintro n st ⟨i, hi, hk, v1, v3, hnx, hS⟩
 simp [z1f, v1, v3, hS]
 have z := fr hnx
 refine zcl (fun h => ?_) (fun h => ?_)
 ·simp at h
  obtain ⟨a, ha⟩ : ∃ a, c[i]? = some a := ⟨_, List.getElem?_eq_getElem h⟩
  obtain ⟨b, hb⟩ : ∃ b, v[i]? = some b := ⟨_, List.getElem?_eq_getElem (by omega)⟩
  have ha' := zeh (q := q) ha
  have hb' := zeh (q := q) hb
  have hal := hc a (List.mem_of_getElem? ha)
  have hbl := hv b (List.mem_of_getElem? hb)
  have hC := yja a hal
  have hw := wS h (by omega : c.length ≤ 9223372036854775807)
  have hiv : i < v.length := by omega
  have hfe := z6h ha hb
  by_cases d1 : zew a = true
  case neg =>
   have no := zof h (by rw [hfe]; simp [d1] : zem c v i = false)
   simp [-getElem?_pos, v1, v3, hS, z, ha', hb', hC, hR, hw, h, hiv, d1, no]
  rcases Classical.propComplete ((b.length : Int) = zcd v) with d2 | d2
  case inr =>
   have no := zof h (by rw [hfe, d1]; simp [d2] : zem c v i = false)
   simp [-getElem?_pos, v1, v3, hS, z, ha', hb', hC, hR, hw, h, hiv, d1, d2, no]
  simp [-getElem?_pos, v1, v3, hS, z, ha', hb', hC, hR, hw, h, hiv, d1, d2]
  refine zbs (fun n st => ∃ j : Nat, j + n = b.length ∧ (∀ (k : Nat) (x : Int), k < j → b[k]? = some x → zan x 0 a.length = true) ∧ st.V 1 = .ptr 0 none 0 0 0 ∧ st.V 3 = iv i ∧ st.V 4 = iv j ∧ 0 < st.nx ∧ st.S 0 = some (.box [.sl 1 (rws q c), .sl 1 (rws q v)])) ?_ b.length _ ⟨0, by omega, fun _ _ h => by omega, by simp [v1], by simp [v3], by simp, by simp [hnx], by simp [hS]⟩
  clear v1 v3 hnx hS z
  rintro n' st ⟨j, hj, hjk, v1, v3, v4, hnx, hS⟩
  simp [-getElem?_pos, z1e, v1, v3, v4, hS, hb', hiv]
  refine zcl (fun h4 => ?_) (fun h4 => ?_)
  ·simp at h4
   obtain ⟨x, hx⟩ : ∃ x, b[j]? = some x := ⟨_, List.getElem?_eq_getElem h4⟩
   have hx' := zcs hx
   have hwj := wS h4 hbl
   rcases Bool.eq_false_or_eq_true (zan x 0 a.length) with d3 | d3
   ·simp [-getElem?_pos, v1, v3, v4, hS, ha', hb', hx', hiv, h, h4, d3, hwj, zdl, -zc8]
    exact za8 (n' - 1) (by omega) ⟨j + 1, by omega, zz7 (P := fun _ x => zan x 0 a.length = true) hjk hx d3, by simp [v1], by simp [v3], by simp, by simp [hnx], by simp [hS]⟩
   ·have no := zof h (by rw [hfe, z0e hx d3]; simp : zem c v i = false)
    simp [-getElem?_pos, v1, v3, v4, hS, ha', hb', hx', hiv, h, h4, d3, hwj, no, zdl, -zc8]
  ·simp at h4
   have ok : zem c v i = true := by
    rw [hfe, d1, zyg fun k x hk hx => hjk k x (by omega) hx]; simp [d2]
   simp [-getElem?_pos, v1, v3, v4, hS, hw]
   exact za8 (n - 1) (by omega) ⟨i + 1, by omega, z8e hk ok, by simp [v1], by simp, by simp [hnx], by simp [hS]⟩
 ·simp at h
  have := z6r (p := zem c v) (n := c.length) fun j hj => hk j (by omega)
  simp [this]
def zbd (L : List (List Int)) : Nat := (L.map List.length).sum
def tot (L : List (List Int)) : Nat := L.length + zbd L
theorem zwq (l : List Int) (L : List (List Int)) : zbd (l :: L) = l.length + zbd L := by simp [zbd]
theorem yah {L : List (List Int)} : ∀ {l : List Int}, l ∈ L → l.length ≤ zbd L := by
 induction L with
 | nil => simp
 | cons a L ih =>
  intro l h
  rw [zwq]
  rcases List.mem_cons.mp h with e | e
  ·subst e; omega
  ·have := ih e; omega
theorem z44 (q : Bool) (L : List (List Int)) (left : Int) (h0 : 0 ≤ left) (h1 : left ≤ 1048576) (hl : L.length ≤ 9223372036854775807) (hll : ∀ l ∈ L, l.length ≤ 9223372036854775807) : RUN T zjx [.sl 1 (rws q L), iv left] = some ([iv (if left - tot L < 0 then -1 else left - tot L)], []) := by
 refine zae z2x rfl ?_
 have e := w64 (x := left - L.length) (by omega) (by omega)
 have ht : tot L = L.length + zbd L := rfl
 simp [zs0, zs1, e]
 refine zcl (fun h => ?_) (fun h => ?_)
 ·simp at h
  rw [if_pos (by omega)]
  simp
 ·simp at h
  simp
  refine zbs (fun n st => ∃ i : Nat, i + n = L.length ∧ ∃ r : Int, 0 ≤ r ∧ r ≤ 1048576 ∧ r - zbd (L.drop i) = left - tot L ∧ st.V 0 = .sl 1 (rws q L) ∧ st.V 1 = iv r ∧ st.V 5 = iv i) ?_ L.length _ ⟨0, by omega, left - L.length, by omega, by omega, by simp; omega, by simp, by simp, by simp⟩
  rintro n st ⟨i, hi, r, hr0, hr1, hr, v0, v1, v5⟩
  simp [z1i, v0, v5]
  refine zcl (fun h => ?_) (fun h => ?_)
  ·simp at h
   obtain ⟨l, hx⟩ : ∃ l, L[i]? = some l := ⟨_, List.getElem?_eq_getElem h⟩
   have hx' := zeh (q := q) hx
   have hw := wS h hl
   have hz := z4z (zaf l) r hr0 hr1 (by simpa using hll l (List.mem_of_getElem? hx))
   rw [z5t] at hz
   rw [zw5 hx, zwq] at hr
   by_cases d : r - l.length < 0
   ·rw [if_pos d] at hz
    rw [if_pos (by omega)]
    simp [-getElem?_pos, v0, v1, v5, hx', hz, h]
   ·rw [if_neg d] at hz
    have d' : ¬ (r - l.length < 0) := d
    simp [-getElem?_pos, v0, v1, v5, hx', hz, h, hw, d']
    exact za8 (n - 1) (by omega) ⟨i + 1, by omega, r - l.length, by omega, by omega, by omega, by simp [v0], by simp, by simp⟩
  ·simp at h
   rw [List.drop_eq_nil_of_le (by omega)] at hr
   have : zbd [] = 0 := rfl
   rw [if_neg (by omega)]
   simp [v1]
   omega
theorem yjf (q : Bool) (c v : List (List Int)) (left : Int) (h0 : 0 ≤ left) (h1 : left ≤ 1048576) (hcl : c.length ≤ 9223372036854775807) (hvl : v.length ≤ 9223372036854775807) (hc : ∀ l ∈ c, l.length ≤ 9223372036854775807) (hv : ∀ l ∈ v, l.length ≤ 9223372036854775807) : RUN T zl9 [.agg [.sl 1 (rws q c), .sl 1 (rws q v)], iv left] = some ([iv (if left - tot c - tot v < 0 then -1 else left - tot c - tot v)], []) := by
 refine zae z1u rfl ?_
 have e1 := z44 q c left h0 h1 hcl hc
 by_cases d : left - tot c < 0
 ·rw [if_pos d] at e1
  rw [if_pos (by omega)]
  simp [znl, znm, e1]
 ·rw [if_neg d] at e1
  have e2 := z44 q v (left - tot c) (by omega) (by omega) hvl hv
  by_cases d2 : left - tot c - tot v < 0
  ·rw [if_pos d2] at e2
   rw [if_pos d2]
   simp [znl, znm, e1, e2, d]
  ·rw [if_neg d2] at e2
   rw [if_neg d2]
   simp [znl, znm, e1, e2, d, d2]
theorem z45 (q : Bool) (L : List (List Int)) (hl : L.length ≤ 1048576) (hll : ∀ l ∈ L, l.length ≤ 1048576) : RUN T zjz [.sl 1 (rws q L)] = some ([.own 1 (rws true L)], []) := by
 refine zae z2z rfl ?_
 have hr : zb7 24 L.length = true := by simp [zb7]; omega
 simp [zs4, zs5, hr]
 refine zbs (fun n st => ∃ i : Nat, i + n = L.length ∧ st.V 0 = .sl 1 (rws q L) ∧ st.V 3 = .ref 0 none 0 0 L.length ∧ st.V 4 = iv i ∧ 0 < st.nx ∧ st.S 0 = some (.row 1 (fil (fun l => [cel true l]) [.own 1 []] L i))) ?_ L.length _ ⟨0, by simp [z85]⟩
 rintro n st ⟨i, hi, v0, v3, v4, hnx, hS⟩
 simp [z1j, v0, v3, v4, hS]
 have z := fr hnx
 refine zcl (fun h => ?_) (fun h => ?_)
 ·simp at h
  obtain ⟨l, hx⟩ : ∃ l, L[i]? = some l := ⟨_, List.getElem?_eq_getElem h⟩
  have hw := wS h (by omega : L.length ≤ 9223372036854775807)
  have hg := z98 (f := fun l => [cel true l]) (z := [.own 1 []]) h
  have hs := z8h (f := fun l => [cel true l]) (z := [.own 1 []]) hx
  have hx' := zeh (q := q) hx
  have hz := zxz l (hll l (List.mem_of_getElem? hx))
  have hc : cel true l = .own 1 (zaf l) := rfl
  rw [hc] at hs
  simp [-getElem?_pos, v0, v3, v4, hS, z, h, hx', hw, hg, hs, hz, z8c (Nat.le_of_lt h)]
  exact za8 (n - 1) (by omega) ⟨i + 1, by omega, by simp [v0], by simp [v3], by simp, by simp, by simp [z]⟩
 ·simp at h
  have e := z97 (f := fun l => [cel true l]) (z := [.own 1 []]) (by omega : i = L.length)
  simp [v3, hS, e, rws]
theorem z46 (p q : Bool) (L : List (List Int)) (hl : L.length ≤ 9223372036854775807) (hll : ∀ l ∈ L, l.length ≤ 9223372036854775807) : RUN T zj0 [.sl 1 (rws p L), .sl 1 (rws q L)] = some ([bv true], []) := by
 refine zae z21 rfl ?_
 simp [zs8, zs9]
 refine zbs (fun n st => ∃ i : Nat, i + n = L.length ∧ st.V 0 = .sl 1 (rws p L) ∧ st.V 1 = .sl 1 (rws q L) ∧ st.V 5 = iv i) ?_ L.length _ ⟨0, by simp⟩
 rintro n st ⟨i, hi, v0, v1, v5⟩
 simp [z1k, v0, v1, v5]
 refine zcl (fun h => ?_) (fun h => ?_)
 ·simp at h
  obtain ⟨l, hx⟩ : ∃ l, L[i]? = some l := ⟨_, List.getElem?_eq_getElem h⟩
  have hw := wS h hl
  have hx1 := zeh (q := p) hx
  have hx2 := zeh (q := q) hx
  have hz := zx0 l (hll l (List.mem_of_getElem? hx))
  simp [-getElem?_pos, v0, v1, v5, h, hx1, hx2, hw, hz]
  exact za8 (n - 1) (by omega) ⟨i + 1, by omega, by simp [v0], by simp [v1], by simp⟩
 ·simp at h
  simp
theorem yjg (q : Bool) (c v : List (List Int)) (hcl : c.length ≤ 1048576) (hvl : v.length ≤ 1048576) (hc : ∀ l ∈ c, l.length ≤ 1048576) (hv : ∀ l ∈ v, l.length ≤ 1048576) : RUN T zhj [.agg [.sl 1 (rws q c), .sl 1 (rws q v)]] = some ([.agg [.own 1 (rws true c), .own 1 (rws true v)]], []) := by
 refine zae z1w rfl ?_
 simp [zrj, zrk, z45 q c hcl hc, z45 q v hvl hv]
theorem yjh (p q : Bool) (c v : List (List Int)) (hcl : c.length ≤ 9223372036854775807) (hvl : v.length ≤ 9223372036854775807) (hc : ∀ l ∈ c, l.length ≤ 9223372036854775807) (hv : ∀ l ∈ v, l.length ≤ 9223372036854775807) : RUN T zmc [.agg [.sl 1 (rws p c), .sl 1 (rws p v)], .agg [.sl 1 (rws q c), .sl 1 (rws q v)]] = some ([bv true], []) := by
 refine zae z10 rfl ?_
 simp [zrr, zrs, z46 p q c hcl hc, z46 p q v hvl hv]
def zgt (x : Int) : Bool := zan x (-2199023255552) 2199023255552
def zgs (c v : List (List Int)) (lab : List Int) (g : Cfg) : Bool := zc3 c v && zb8 g && decide ((lab.length : Int) = zcd v) && lab.all zgt
@[simp] theorem yut (n : Int) : RUN T zjt [iv n] = some ([bv (!zgt n)], []) := by
 refine zae z2j rfl ?_
 simp [zsh, zsi, zd0, -zdd, zgt]
theorem yji (q : Bool) (c v : List (List Int)) (lab : List Int) (g : Cfg) (hc : ∀ l ∈ c, l.length ≤ 9223372036854775807) (hv : ∀ l ∈ v, l.length ≤ 9223372036854775807) (hlab : lab.length ≤ 9223372036854775807) (hg : g.sg.length ≤ 9223372036854775807) : RUN T zl6 [.agg [.sl 1 (rws q c), .sl 1 (rws q v)], .sl 1 (zaf lab), zdo g] = some ([bv (zgs c v lab g)], []) := by
 refine zae z1r rfl ?_
 have e1 := yjd q c v hc hv
 have e2 := z40 g hg
 have e3 := zx3 q c v
 have e4 := zx2 (f := zjt) (p := fun n => !zgt n) lab hlab (by simp) (fun n _ => by simp)
 unfold zgs
 cases d1 : zc3 c v with
 | false => simp [zku, zkv, zdo, e1, d1]
 | true =>
  cases d2 : zb8 g with
  | false => simp [zku, zkv, zdo, e1, d1, e2, d2]
  | true =>
   rcases Classical.propComplete ((lab.length : Int) = zcd v) with d3 | d3
   ·have d4 : (!(lab.any fun n => !zgt n)) = lab.all zgt := by simp [List.any_eq_not_all_not]
    simp [zku, zkv, zdo, e1, d1, e2, d2, e3, d3, e4, d4]
   ·simp [zku, zkv, zdo, e1, d1, e2, d2, e3, d3]
theorem yjj (q : Bool) (c v : List (List Int)) (lab : List Int) (g : Cfg) (hc : ∀ l ∈ c, l.length ≤ 9223372036854775807) (hv : ∀ l ∈ v, l.length ≤ 9223372036854775807) (hlab : lab.length ≤ 9223372036854775807) (hg : g.sg.length ≤ 9223372036854775807) : RUN T zl5 [.agg [.sl 1 (rws q c), .sl 1 (rws q v)], .sl 1 (zaf lab), zdo g] = some ([bv (zgs c v lab g)], []) := by
 refine zae z1q rfl ?_
 have e1 := yje q c v hc hv
 have e2 := yi2 g hg
 have e3 := z43 q c v
 unfold zgs
 cases d1 : zc3 c v with
 | false => simp [zks, zkt, zdo, e1, d1]
 | true =>
  cases d2 : zb8 g with
  | false => simp [zks, zkt, zdo, e1, d1, e2, d2]
  | true =>
   rcases Classical.propComplete ((lab.length : Int) = zcd v) with d3 | d3
   ·simp [zks, zkt, zdo, e1, d1, e2, d2, e3, d3]
    refine zbs (fun n st => ∃ i : Nat, i + n = lab.length ∧ (∀ (j : Nat) (x : Int), j < i → lab[j]? = some x → zgt x = true) ∧ st.V 1 = .sl 1 (zaf lab) ∧ st.V 7 = iv i) ?_ lab.length _ ⟨0, by omega, fun _ _ h => by omega, by simp, by simp⟩
    rintro n st ⟨i, hi, hj, v1, v7⟩
    simp [z1a, v1, v7]
    refine zcl (fun h => ?_) (fun h => ?_)
    ·simp at h
     obtain ⟨x, hx⟩ : ∃ x, lab[i]? = some x := ⟨_, List.getElem?_eq_getElem h⟩
     have hx' := zcs hx
     have hw := wS h hlab
     have hlb : zgt x = zan x (-2199023255552) 2199023255552 := rfl
     cases d4 : zgt x with
     | true =>
      have d5 := hlb.symm.trans d4
      simp [-getElem?_pos, v1, v7, hx', hw, h, d5, zdl, -zc8]
      exact za8 (n - 1) (by omega) ⟨i + 1, by omega, zz7 (P := fun _ x => zgt x = true) hj hx d4, by simp [v1], by simp⟩
     | false =>
      have d5 := hlb.symm.trans d4
      have no := z0e hx d4
      simp [-getElem?_pos, v1, v7, hx', hw, h, d5, no, zdl, -zc8]
    ·simp at h
     have := zyg (p := zgt) fun j a h1 h2 => hj j a (by omega) h2
     simp [this, d3]
   ·simp [zks, zkt, zdo, e1, d1, e2, d2, e3, d3]
theorem zjc {n : Int} (h : (Lit.int .i64 n).wf = true) : -9223372036854775808 ≤ n ∧ n ≤ 9223372036854775807 := bounds_i64 h
theorem zoa {α : Type} {f : α → List PV} {p : α → Prop} {tys : List TY} (h : ∀ cs, zbl tys cs → ∃ a, f a = cs ∧ p a) : ∀ {es : List (List PV)}, (∀ cs ∈ es, zbl tys cs) → ∃ l : List α, l.map f = es ∧ ∀ a ∈ l, p a
 | [], _ => ⟨[], rfl, by simp⟩
 | e :: es, hs => by
  obtain ⟨a, ha, hp⟩ := h e (hs e (by simp))
  obtain ⟨l, hl, hq⟩ := zoa h (es := es) (fun cs hc => hs cs (by simp [hc]))
  refine ⟨a :: l, by simp [ha, hl], fun b hb => ?_⟩
  rcases List.mem_cons.mp hb with e | e
  ·subst e; exact hp
  ·exact hq b e
theorem zzg (cs : List PV) (h : zbl [.int .i64] cs) : ∃ n : Int, [iv n] = cs ∧ inI n := by
 simp only [zbl, Shp] at h
 obtain ⟨_, _, rfl, ⟨a, rfl, h1⟩, rfl⟩ := h
 exact ⟨a, rfl, zjc h1⟩
theorem yob {c : PV} (h : zfr false [.sl [.int .i64]] c) : ∃ l : List Int, c = .sl 1 (zaf l) ∧ l.length ≤ 9223372036854775807 ∧ ∀ n ∈ l, inI n := by
 simp only [zfr, Bool.false_eq_true, if_false, zbl, Shp] at h
 obtain ⟨c', r, e, ⟨es, he, h1, h2⟩, hr⟩ := h
 simp only [List.cons.injEq] at e
 obtain ⟨l, hl, hp⟩ := zoa (f := fun n : Int => [iv n]) (tys := [.int .i64]) zzg h2
 subst hl
 simp [maxLen] at h1
 exact ⟨l, e.1.trans he, by omega, hp⟩
def wfC (c : Cfg) : Prop := c.sg.length ≤ 9223372036854775807 ∧ inI c.ro ∧ inI c.de ∧ inI c.bi ∧ inI c.la ∧ inI c.rw ∧ inI c.nu ∧ inI c.dn ∧ ∀ n ∈ c.sg, inI n
theorem yqt {c : PV} (h : zfr true [.int .i64, .int .i64, .int .i64, .int .i64, .int .i64, .int .i64, .int .i64, .sl [.int .i64]] c) : ∃ x : Cfg, c = zdo x ∧ wfC x := by
 obtain ⟨cs, rfl, h⟩ := h
 simp only [zbl, Shp] at h
 obtain ⟨_, _, rfl, ⟨a, rfl, h1⟩, _, _, rfl, ⟨b, rfl, h2⟩, _, _, rfl, ⟨c, rfl, h3⟩, _, _, rfl, ⟨d, rfl, h4⟩, _, _, rfl, ⟨e, rfl, h5⟩, _, _, rfl, ⟨f, rfl, h6⟩, _, _, rfl, ⟨g, rfl, h7⟩, _, _, rfl, ⟨es, rfl, h8, h9⟩, rfl⟩ := h
 have h9' : ∀ cs ∈ es, zbl [.int .i64] cs := h9
 obtain ⟨l, hl, hp⟩ := zoa (f := fun n : Int => [iv n]) (tys := [.int .i64]) zzg h9'
 subst hl
 simp [maxLen] at h8
 exact ⟨⟨a, b, c, d, e, f, g, l⟩, rfl, by simpa using h8, zjc h1, zjc h2, zjc h3, zjc h4, zjc h5, zjc h6, zjc h7, hp⟩
theorem yaa (cs : List PV) (h : zbl [.sl [.int .i64]] cs) : ∃ l : List Int, [cel false l] = cs ∧ l.length ≤ 9223372036854775807 := by
 simp only [zbl, Shp] at h
 obtain ⟨_, _, rfl, ⟨es, rfl, h1, h2⟩, rfl⟩ := h
 have h2' : ∀ cs ∈ es, zbl [.int .i64] cs := h2
 obtain ⟨l, hl, _⟩ := zoa (f := fun n : Int => [iv n]) (tys := [.int .i64]) zzg h2'
 subst hl
 simp [maxLen] at h1
 exact ⟨l, rfl, by omega⟩
theorem ymj {c : PV} (h : zfr true [.sl [.sl [.int .i64]], .sl [.sl [.int .i64]]] c) : ∃ a b : List (List Int), c = .agg [.sl 1 (rws false a), .sl 1 (rws false b)] ∧ a.length ≤ 9223372036854775807 ∧ b.length ≤ 9223372036854775807 ∧ (∀ l ∈ a, l.length ≤ 9223372036854775807) ∧ ∀ l ∈ b, l.length ≤ 9223372036854775807 := by
 obtain ⟨cs, rfl, h⟩ := h
 simp only [zbl, Shp] at h
 obtain ⟨_, _, rfl, ⟨es, rfl, h1, h2⟩, _, _, rfl, ⟨es', rfl, h3, h4⟩, rfl⟩ := h
 have h2' : ∀ cs ∈ es, zbl [.sl [.int .i64]] cs := h2
 have h4' : ∀ cs ∈ es', zbl [.sl [.int .i64]] cs := h4
 obtain ⟨a, ha, hpa⟩ := zoa (f := fun l => [cel false l]) yaa h2'
 obtain ⟨b, hb, hpb⟩ := zoa (f := fun l => [cel false l]) yaa h4'
 subst ha
 subst hb
 simp [maxLen] at h1 h3
 exact ⟨a, b, rfl, by omega, by omega, hpa, hpb⟩
theorem ylq {P : Program} {l : List TypeId} (h : (l.all fun t => P.readableRec t && decide (t < P.types.size)) = true) : ∀ t ∈ l, P.readableRec t = true ∧ t < P.types.size := by
 intro t ht
 have := List.all_eq_true.mp h t ht
 simpa using this
theorem ymh {p q r : Bool × List TY} {pvs : List PV} (h : zdm (fun p c => zfr p.1 p.2 c) [p, q, r] pvs) : ∃ a b c, pvs = [a, b, c] ∧ zfr p.1 p.2 a ∧ zfr q.1 q.2 b ∧ zfr r.1 r.2 c := by
 cases h with
 | cons h1 t => cases t with
  | cons h2 t => cases t with
   | cons h3 t => cases t with
    | nil => exact ⟨_, _, _, rfl, h1, h2, h3⟩
def z63 (B : List Int) : List (List PV) := B.map fun n => [.v (.int .u8 n)]
@[simp] theorem y71 (B : List Int) : (z63 B).length = B.length := by simp [z63]
def zwp (rv : List RV) (io : Nat) (G : List PV × List PV → Prop) (_ : Dm rv) (_ : Dm G) (e : Ex) (s : St) : Prop := (e = .normal ∨ e = .ret) ∧ ∃ r, zfi ⟨[], rv, .skip⟩ io s = some r ∧ G r
@[simp] theorem ywm {rv : List RV} {io : Nat} {G : List PV × List PV → Prop} {s : St} : zwp rv io G ⟨⟩ ⟨⟩ .normal s = ∃ r, zfi ⟨[], rv, .skip⟩ io s = some r ∧ G r := by simp [zwp]
@[simp] theorem yy9 {rv : List RV} {io : Nat} {G : List PV × List PV → Prop} {s : St} : zwp rv io G ⟨⟩ ⟨⟩ .ret s = ∃ r, zfi ⟨[], rv, .skip⟩ io s = some r ∧ G r := by simp [zwp]
def adi (a b : Int) : Int × Bool := if -9223372036854775808 ≤ a + b ∧ a + b ≤ 9223372036854775807 then (a + b, true) else (0, false)
theorem ymd {a b : Int} (ha : inI a) (hb : inI b) : IntKind.i64.wrap (a + b) = if 9223372036854775807 < a + b then a + b - 18446744073709551616 else if a + b < -9223372036854775808 then a + b + 18446744073709551616 else a + b := by
 unfold inI at ha hb
 unfold IntKind.wrap
 simp [IntKind.bits, IntKind.signed]
 omega
theorem z47 (a b : Int) (ha : inI a) (hb : inI b) : RUN T zkg [iv a, iv b] = some ([iv (adi a b).1, bv (adi a b).2], []) := by
 refine zae z36 rfl ?_
 have hw := ymd ha hb
 unfold inI at ha hb
 unfold adi
 by_cases c1 : 9223372036854775807 < a + b
 ·rw [if_pos c1] at hw
  rw [if_neg (by omega)]
  have d1 := eq_false (by omega : ¬ a < 0)
  have d2 := eq_false (by omega : ¬ b < 0)
  have d3 := eq_true (by omega : a + b - 18446744073709551616 < 0)
  simp [-getElem?_pos, zhp, zhq, hw, d1, d2, d3]
 ·rw [if_neg c1] at hw
  by_cases c2 : a + b < -9223372036854775808
  ·rw [if_pos c2] at hw
   rw [if_neg (by omega)]
   have d1 := eq_true (by omega : a < 0)
   have d2 := eq_true (by omega : b < 0)
   have d3 := eq_false (by omega : ¬ a + b + 18446744073709551616 < 0)
   simp [-getElem?_pos, zhp, zhq, hw, d1, d2, d3]
  ·rw [if_neg c2] at hw
   rw [if_pos (by omega)]
   rcases Classical.propComplete (a < 0) with d1 | d1
   all_goals rcases Classical.propComplete (b < 0) with d2 | d2
   all_goals simp at d1 d2
   ·have d3 := eq_true (by omega : a + b < 0)
    simp [-getElem?_pos, zhp, zhq, hw, eq_true d1, eq_true d2, d3]
   ·have d2' := eq_false (by omega : ¬ b < 0)
    simp [-getElem?_pos, zhp, zhq, hw, eq_true d1, d2']
   ·have d1' := eq_false (by omega : ¬ a < 0)
    simp [-getElem?_pos, zhp, zhq, hw, eq_true d2, d1']
   ·have d1' := eq_false (by omega : ¬ a < 0)
    have d2' := eq_false (by omega : ¬ b < 0)
    have d3 := eq_false (by omega : ¬ a + b < 0)
    simp [-getElem?_pos, zhp, zhq, hw, d1', d2', d3]
theorem z74 {a b : Int} (ha : inI a) : inI (adi a b).1 := by
 unfold adi
 split
 ·rename_i h; exact h
 ·unfold inI; omega
def sbi (a b : Int) : Int × Bool := if -9223372036854775808 ≤ a - b ∧ a - b ≤ 9223372036854775807 then (a - b, true) else (0, false)
def sv (s : ByteArray) : PV := .v (.string s)
def zqu (l : List ByteArray) : List (List PV) := l.map fun s => [.v (.string s)]
@[simp] theorem y8r (l : List ByteArray) : (zqu l).length = l.length := by simp [zqu]
def z03 (q : Bool) (t : List Nd) : PV := if q then .own 5 (t.map nd) else .sl 5 (t.map nd)
@[simp] theorem yvh (q : Bool) (t : List Nd) : fz (z03 q t) = .sl 5 (t.map nd) := by cases q <;> simp [z03]
def trs (q : Bool) (M : List (List Nd)) : List (List PV) := M.map fun t => [z03 q t]
@[simp] theorem y06 (q : Bool) (M : List (List Nd)) : (trs q M).length = M.length := by simp [trs]
def rwS (q : Bool) (l : List ByteArray) : PV := if q then .own 1 (zqu l) else .sl 1 (zqu l)
@[simp] theorem y45 (q : Bool) (l : List ByteArray) : fz (rwS q l) = .sl 1 (zqu l) := by cases q <;> simp [rwS]
def z9l (q : Bool) (L : List (List ByteArray)) : List (List PV) := L.map fun l => [rwS q l]
@[simp] theorem y0s (q : Bool) (L : List (List ByteArray)) : (z9l q L).length = L.length := by simp [z9l]
def ykz (p : Nat → Bool) (i : Nat) : List Int := ((List.range i).filter p).map fun (j : Nat) => (j : Int)
@[simp] theorem y43 (p : Nat → Bool) : ykz p 0 = [] := rfl
def zn7 (k : Int) (L : List (List Int)) (j : Nat) : List Int := upto (k + zbd (L.take j)) (L.getD j []).length
theorem z7g {es : List (List PV)} {i : Nat} {c d : PV} (h : es[i]? = some [c]) : zb0 es i 0 d = es.set i [d] := by simp [zb0, h]
theorem ym9 {L : List (List Int)} {i : Nat} {l : List Int} (h : L[i]? = some l) : zbd (L.take (i + 1)) = zbd (L.take i) + l.length := by
 unfold zbd
 rw [List.take_succ, h]; simp
theorem yqf (L : List (List Int)) (i : Nat) : zbd (L.take i) ≤ zbd L := by
 induction L generalizing i with
 | nil => simp
 | cons a L ih =>
  cases i with
  | zero => simp [zbd]
  | succ i => rw [List.take_succ_cons, zwq, zwq]; have := ih i; omega
theorem z48 (L : List (List Int)) (k : Int) (h0 : 0 ≤ k) (hk : k + zbd L ≤ 9223372036854775806) (hL : L.length ≤ 9223372036854775807) : RUN T zj1 [.own 1 (rws true L), iv k] = some ([iv (k + zbd L)], [.own 1 (rws true ((List.range L.length).map (zn7 k L)))]) := by
 refine zae z22 rfl ?_
 simp [-getElem?_pos, zta, ztb]
 obtain ⟨f, hf⟩ : ∃ f : Nat → List PV, f = fun j => [cel true (zn7 k L j)] := ⟨_, rfl⟩
 refine zbs (fun n st => ∃ i : Nat, i + n = L.length ∧ 1 ≤ st.nx ∧ st.V 0 = .ref 0 none 0 0 L.length ∧ st.V 1 = iv (k + zbd (L.take i)) ∧ st.V 5 = iv i ∧ st.S 0 = some (.row 1 (mix f (rws true L) i))) ?_ L.length _ ⟨0, by simp [zyp, zbd]⟩
 rintro n st ⟨i, hi, hnx, v0, v1, v5, hS⟩
 simp [z1l, v0, v1, v5, hS]
 refine zcl (fun h => ?_) (fun h => ?_)
 ·simp at h
  obtain ⟨l, hx⟩ : ∃ l, L[i]? = some l := ⟨_, List.getElem?_eq_getElem h⟩
  have hw := wS h hL
  have hx' := zeh (q := true) hx
  have hg := (z0a (f := f) (l := rws true L) (i := i)).trans hx'
  have hs := zza (f := f) (l := rws true L) (i := i) (by simpa using h)
  have hle := yqf L (i + 1)
  have htk := ym9 hx
  have hM := zx1 l (k + zbd (L.take i)) (by omega) (by omega)
  have hsc : ∀ d : PV, zb0 (mix f (rws true L) i) i 0 d = (mix f (rws true L) i).set i [d] := fun d => z7g hg
  have hfi : f i = [.own 1 (zaf (upto (k + zbd (L.take i)) l.length))] := by rw [hf]; simp [zn7, hx, cel]
  rw [hfi] at hs
  have hml := zyi (f := f) (l := rws true L) (i := i) (by simp; omega)
  simp at hml
  have hss : ∀ d : PV, zb0 ((mix f (rws true L) i).set i [.undef]) i 0 d = (mix f (rws true L) i).set i [d] := fun d => by
   rw [z7g (c := .undef) (by rw [List.getElem?_set_self (by omega)]), List.set_set]
  simp only [cel, if_true] at hg
  obtain ⟨z1, z2, z3, z4⟩ := fr (show 0 < st.nx by omega)
  simp [-getElem?_pos, v0, v1, v5, hS, h, hg, hml, hM, hsc, hss, hs, hw, z1, z2, z3, z4, zbc]
  refine za8 (n - 1) (by omega) ⟨i + 1, by omega, by simp, by simp [v0], ?_, by simp, by simp⟩
  simp [htk]; omega
 ·simp at h
  have e := zz8 (f := f) (l := rws true L) (i := i) (by simp; omega)
  have e2 : i = L.length := by omega
  subst e2
  rw [e] at hS
  rw [List.take_length] at v1
  have e3 : rws true ((List.range L.length).map (zn7 k L)) = (List.range L.length).map f := by rw [hf]; simp [rws, Function.comp_def]
  rw [e3]
  simp [-getElem?_pos, hS, v1]
theorem zg5 (x : Int) : IntKind.u64.wrap x = x % 18446744073709551616 := IntKind.wrap_u64 x
theorem z64 (a b : Int) : za6 .mul (.int .u64 a) (.int .u64 b) = some (.int .u64 (a * b % 18446744073709551616)) := by rw [zys, zg5]
theorem yaz (a b : Int) : za6 .add (.int .u64 a) (.int .u64 b) = some (.int .u64 ((a + b) % 18446744073709551616)) := by rw [zzs, zg5]
theorem z9j (x : Int) : za6 .shr (.int .u64 x) (.int .u64 32) = some (.int .u64 (x / 4294967296)) := by
 rw [zzi, if_pos (by decide)]
 have : (2 : Int) ^ min (32 : Int).toNat IntKind.u64.bits = 4294967296 := by decide
 rw [this, Int.fdiv_eq_ediv_of_nonneg _ (by decide)]
theorem yo0 (x : Int) : za6 .shl (.int .u64 x) (.int .u64 32) = some (.int .u64 (x * 4294967296 % 18446744073709551616)) := by
 rw [yam, if_pos (by decide), zg5]
 have : (2 : Int) ^ min (32 : Int).toNat IntKind.u64.bits = 4294967296 := by decide
 rw [this]
theorem zlg {x : Int} (h0 : 0 ≤ x) (h1 : x < 18446744073709551616) : za6 .and (.int .u64 x) (.int .u64 4294967295) = some (.int .u64 (x % 4294967296)) := by
 rw [zyq, zg5]
 have e : ((BitVec.ofInt IntKind.u64.bits x &&& BitVec.ofInt IntKind.u64.bits 4294967295).toNat : Int) = x % 4294967296 := by
  obtain ⟨n, rfl⟩ := Int.eq_ofNat_of_zero_le h0
  have hn : n < 2 ^ 64 := by omega
  have e2 : (BitVec.ofInt 64 (n : Int) &&& BitVec.ofInt 64 4294967295).toNat = n % 4294967296 := by
   rw [BitVec.toNat_and]
   have e3 : (BitVec.ofInt 64 (n : Int)).toNat = n := by
    rw [BitVec.ofInt_natCast, BitVec.toNat_ofNat, Nat.mod_eq_of_lt hn]
   have e4 : (BitVec.ofInt 64 4294967295).toNat = 2 ^ 32 - 1 := by decide
   rw [e3, e4, Nat.and_two_pow_sub_one_eq_mod]
  show (((BitVec.ofInt 64 (n : Int) &&& BitVec.ofInt 64 4294967295).toNat : Nat) : Int) = _
  rw [e2]; omega
 rw [e]; congr 2; omega
theorem parts {x y : Int} (hx : 0 ≤ x) (hx1 : x < 18446744073709551616) (hy : 0 ≤ y) (hy1 : y < 18446744073709551616) :
  ∃ a b c d : Int, a = x % 4294967296 * (y % 4294967296) ∧ b = x / 4294967296 * (y % 4294967296) ∧ c = x % 4294967296 * (y / 4294967296) ∧ d = x / 4294967296 * (y / 4294967296) ∧ 0 ≤ a ∧ a ≤ 18446744065119617025 ∧ 0 ≤ b ∧ b ≤ 18446744065119617025 ∧ 0 ≤ c ∧ c ≤ 18446744065119617025 ∧ 0 ≤ d ∧ d ≤ 18446744065119617025 ∧ x * y = d * 18446744073709551616 + (b + c) * 4294967296 + a := by
 have bd : ∀ u v : Int, 0 ≤ u → u ≤ 4294967295 → 0 ≤ v → v ≤ 4294967295 → 0 ≤ u * v ∧ u * v ≤ 18446744065119617025 := fun u v h1 h2 h3 h4 =>
  ⟨Int.mul_nonneg h1 h3, Int.le_trans (Int.mul_le_mul h2 h4 h3 (by decide)) (by decide)⟩
 have x0 : 0 ≤ x % 4294967296 ∧ x % 4294967296 ≤ 4294967295 := by omega
 have x1 : 0 ≤ x / 4294967296 ∧ x / 4294967296 ≤ 4294967295 := by omega
 have y0 : 0 ≤ y % 4294967296 ∧ y % 4294967296 ≤ 4294967295 := by omega
 have y1 : 0 ≤ y / 4294967296 ∧ y / 4294967296 ≤ 4294967295 := by omega
 refine ⟨_, _, _, _, rfl, rfl, rfl, rfl, (bd _ _ x0.1 x0.2 y0.1 y0.2).1, (bd _ _ x0.1 x0.2 y0.1 y0.2).2, (bd _ _ x1.1 x1.2 y0.1 y0.2).1, (bd _ _ x1.1 x1.2 y0.1 y0.2).2, (bd _ _ x0.1 x0.2 y1.1 y1.2).1, (bd _ _ x0.1 x0.2 y1.1 y1.2).2, (bd _ _ x1.1 x1.2 y1.1 y1.2).1, (bd _ _ x1.1 x1.2 y1.1 y1.2).2, ?_⟩
 have ex : x = x / 4294967296 * 4294967296 + x % 4294967296 := by omega
 have ey : y = y / 4294967296 * 4294967296 + y % 4294967296 := by omega
 generalize x / 4294967296 = p at *
 generalize x % 4294967296 = q at *
 generalize y / 4294967296 = r at *
 generalize y % 4294967296 = s at *
 rw [ex, ey, Int.add_mul, Int.mul_add, Int.mul_add]
 have e1 : p * 4294967296 * (r * 4294967296) = p * r * 18446744073709551616 := by
  rw [show (18446744073709551616 : Int) = 4294967296 * 4294967296 by decide, Int.mul_assoc, Int.mul_comm 4294967296 (r * 4294967296), Int.mul_assoc r, ← Int.mul_assoc p r]
 have e2 : p * 4294967296 * s = p * s * 4294967296 := by rw [Int.mul_assoc, Int.mul_comm 4294967296 s, ← Int.mul_assoc]
 have e3 : q * (r * 4294967296) = q * r * 4294967296 := by rw [← Int.mul_assoc]
 rw [e1, e2, e3, Int.add_mul]
 omega
theorem zx4 (x y : Int) (hx : 0 ≤ x) (hx1 : x < 18446744073709551616) (hy : 0 ≤ y) (hy1 : y < 18446744073709551616) : RUN T zix [.v (.int .u64 x), .v (.int .u64 y)] = some ([.v (.int .u64 (x * y / 18446744073709551616)), .v (.int .u64 (x * y % 18446744073709551616))], []) := by
 refine zae z4r rfl ?_
 obtain ⟨a, b, c, d, ea, eb, ec, ed, a0, a1, b0, b1, c0, c1, d0, d1, hp⟩ := parts hx hx1 hy hy1
 have f1 := zlg hx hx1
 have f2 := zlg hy hy1
 have g1 : a % 18446744073709551616 = a := by omega
 have g2 : b % 18446744073709551616 = b := by omega
 have g3 : c % 18446744073709551616 = c := by omega
 have g4 : d % 18446744073709551616 = d := by omega
 have g5 : (b + a / 4294967296) % 18446744073709551616 = b + a / 4294967296 := by omega
 have f3 := zlg (x := b + a / 4294967296) (by omega) (by omega)
 simp [-zys, -zzs, -zyq, -zzi, z64, yaz, z9j, f1, f2, f3, zvs, zvt, ← ea, ← eb, ← ec, ← ed, g1, g2, g3, g4, g5]
 omega
theorem zx5 (x y : Int) (hx : 0 ≤ x) (hx1 : x < 18446744073709551616) (hy : 0 ≤ y) (hy1 : y < 18446744073709551616) : RUN T zi0 [.v (.int .u64 x), .v (.int .u64 y)] = some ([.v (.int .u64 (x * y / 18446744073709551616)), .v (.int .u64 (x * y % 18446744073709551616))], []) := by
 refine zae z4x rfl ?_
 obtain ⟨a, b, c, d, ea, eb, ec, ed, a0, a1, b0, b1, c0, c1, d0, d1, hp⟩ := parts hx hx1 hy hy1
 have f1 := zlg hx hx1
 have f2 := zlg hy hy1
 have g1 : a % 18446744073709551616 = a := by omega
 have g2 : b % 18446744073709551616 = b := by omega
 have g3 : c % 18446744073709551616 = c := by omega
 have g4 : d % 18446744073709551616 = d := by omega
 have g5 : (b + a / 4294967296) % 18446744073709551616 = b + a / 4294967296 := by omega
 have f3 := zlg (x := b + a / 4294967296) (by omega) (by omega)
 have f4 := zlg (x := a) (by omega) (by omega)
 simp [-zys, -zzs, -zyq, -zzi, -yam, z64, yaz, z9j, yo0, f1, f2, f3, f4, zv0, zv1, ← ea, ← eb, ← ec, ← ed, g1, g2, g3, g4, g5]
 omega
structure Wd where
 n : Bool
 h : Int
 l : Int
deriving DecidableEq
abbrev uv (x : Int) : PV := .v (.int .u64 x)
def wd (w : Wd) : List PV := [bv w.n, uv w.h, uv w.l]
def wfU (w : Wd) : Prop := 0 ≤ w.h ∧ w.h < 18446744073709551616 ∧ 0 ≤ w.l ∧ w.l < 18446744073709551616
def wok (w : Wd) : Bool := decide (w.h < 9223372036854775808) && (!w.n || decide (0 < w.h) || decide (0 < w.l))
def mag (w : Wd) : Int := w.h * 18446744073709551616 + w.l
def mkW (n : Bool) (m : Int) : Wd := ⟨n && decide (0 < m), m / 18446744073709551616, m % 18446744073709551616⟩
def za5 : Wd := ⟨false, 0, 0⟩
theorem zor {n : Bool} {m : Int} (h0 : 0 ≤ m) (h1 : m < 340282366920938463463374607431768211456) : wfU (mkW n m) := by
 unfold wfU mkW; simp only; omega
theorem z0p {n : Bool} {m : Int} : mag (mkW n m) = m := by unfold mag mkW; simp only; omega
theorem zow {n : Bool} {m : Int} (h0 : 0 ≤ m) : wok (mkW n m) = decide (m < 170141183460469231731687303715884105728) := by
 unfold wok mkW
 simp only
 by_cases h : m < 170141183460469231731687303715884105728
 ·have e : m / 18446744073709551616 < 9223372036854775808 := by omega
  rw [decide_eq_true h, decide_eq_true e]
  by_cases hz : 0 < m
  ·by_cases h2 : 0 < m / 18446744073709551616
   ·simp [h2]
   ·have : 0 < m % 18446744073709551616 := by omega
    simp [this]
  ·simp [hz]
 ·have e : ¬ m / 18446744073709551616 < 9223372036854775808 := by omega
  rw [decide_eq_false h, decide_eq_false e]; rfl
theorem zx6 (n : Int) (h : inI n) : RUN T ziy [iv n] = some ([uv n.natAbs], []) := by
 refine zae z4s rfl ?_
 obtain ⟨h0, h1⟩ := h
 simp [zvu, zvv]
 refine zcl (fun h => ?_) (fun h => ?_) <;> simp at h <;> simp [zg5] <;> omega
theorem zx7 (n : Int) (h : inI n) : RUN T ziz [iv n] = some ([uv n.natAbs], []) := by
 refine zae z4w rfl ?_
 obtain ⟨h0, h1⟩ := h
 have e1 : n < 0 → IntKind.i64.wrap (n + 1) = n + 1 := fun h => w64 (by omega) (by omega)
 have e2 : n < 0 → IntKind.i64.wrap (0 - (n + 1)) = 0 - (n + 1) := fun h => w64 (by omega) (by omega)
 simp [zvy, zvz]
 refine zcl (fun h => ?_) (fun h => ?_) <;> simp at h
 ·have e1 := e1 h
  have e2 := e2 h
  simp at e2
  simp [e1, e2, zg5]; omega
 ·simp [zg5]; omega
theorem zqa (n : Bool) (h l : Int) : RUN T zfo [bv n, uv h, uv l] = some ([.agg (wd ⟨n && (decide (0 < h) || decide (0 < l)), h, l⟩)], []) := by
 refine zae z4e rfl ?_
 cases n with
 | false => simp [znv, znw, wd]
 | true =>
  by_cases h1 : 0 < h
  ·simp [znv, znw, wd, h1]
  ·simp [znv, znw, wd, h1]
theorem zn0 (w : Wd) : RUN T zf6 [.agg (wd w)] = some ([bv (wok w)], []) := by
 refine zae z4p rfl ?_
 obtain ⟨n, h, l⟩ := w
 unfold wok
 by_cases h1 : h < 9223372036854775808
 ·cases n with
  | false => simp [zk1, zk2, wd, h1]
  | true =>
   by_cases h2 : 0 < h
   ·simp [zk1, zk2, wd, h1, h2]
   ·simp [zk1, zk2, wd, h1, h2]
 ·simp [zk1, zk2, wd, h1]
theorem zn1 (w : Wd) : RUN T zf7 [.agg (wd w)] = some ([bv (wok w)], []) := by
 refine zae z4u rfl ?_
 obtain ⟨n, h, l⟩ := w
 unfold wok
 by_cases h1 : h < 9223372036854775808
 ·cases n with
  | false => simp [zk3, zk4, wd, h1]
  | true =>
   by_cases h2 : 0 < h
   ·simp [zk3, zk4, wd, h1, h2]
   ·simp [zk3, zk4, wd, h1, h2]
 ·simp [zk3, zk4, wd, h1]
theorem zqb (w : Wd) : RUN T zhn [.agg (wd w)] = some ([bv (decide (w.h = 0) && decide (w.l = 0))], []) := by
 refine zae z4m rfl ?_
 by_cases h1 : w.h = 0
 ·simp [zp6, zp7, wd, h1]
 ·simp [zp6, zp7, wd, h1]
def zb4 (a b : Int) : Int := if a < b then -1 else if b < a then 1 else 0
theorem z49 (x : Int) : RUN T zkp [uv x] = some ([bv false], []) := by
 refine zae z4y rfl ?_
 simp [zv2, zv3]
theorem z5a (x y : Int) : RUN T zko [uv x, uv y] = some ([iv (zb4 x y)], []) := by
 refine zae z4t rfl ?_
 have e1 := z49 x
 have e2 := z49 y
 unfold zb4
 by_cases h1 : x < y
 ·simp [znx, zny, e1, e2, h1]
 ·by_cases h2 : y < x
  ·simp [znx, zny, e1, e2, h1, h2]
  ·simp [znx, zny, e1, e2, h1, h2]
theorem z5b (x y : Int) : RUN T zkh [.sl 1 [[iv x], [iv y]]] = some ([iv (if x = 0 then y else x)], []) := by
 refine zae z37 rfl ?_
 simp [zu8, zu9]
 refine zbs (fun n st => ∃ i : Nat, i + n = 2 ∧ (1 ≤ i → x = 0) ∧ (2 ≤ i → y = 0) ∧ st.V 3 = iv 0 ∧ st.V 6 = .sl 1 [[iv x], [iv y]] ∧ st.V 7 = iv 2 ∧ st.V 8 = iv i) ?_ 2 _ ⟨0, by simp⟩
 rintro n st ⟨i, hi, hx, hy, v3, v6, v7, v8⟩
 simp [z1o, v7, v8]
 have h3 : i = 0 ∨ i = 1 ∨ i = 2 := by omega
 rcases h3 with rfl | rfl | rfl
 ·have hw : IntKind.i64.wrap 1 = 1 := w64 (by omega) (by omega)
  by_cases h : x = 0
  ·simp [v3, v6, v7, v8, h, hw]
   exact za8 (n - 1) (by omega) ⟨1, by omega, fun _ => h, by simp, by simp [v3], by simp [v6, h], by simp [v7], by simp⟩
  ·simp [v3, v6, v7, v8, h]
 ·have hx := hx (by omega)
  have hw : IntKind.i64.wrap 2 = 2 := w64 (by omega) (by omega)
  by_cases h : y = 0
  ·simp [v3, v6, v7, v8, h, hx, hw]
   exact za8 (n - 1) (by omega) ⟨2, by omega, fun _ => hx, fun _ => h, by simp [v3], by simp [v6, h, hx], by simp [v7], by simp⟩
  ·simp [v3, v6, v7, v8, h, hx]
 ·have hx := hx (by omega)
  have hy := hy (by omega)
  simp [v3, hx, hy]
def zei (a b : Wd) : Int := if zb4 a.h b.h = 0 then zb4 a.l b.l else zb4 a.h b.h
theorem ya6 {a b : Wd} (ha : wfU a) (hb : wfU b) : zei a b = zb4 (mag a) (mag b) := by
 obtain ⟨_, _, _, _⟩ := ha
 obtain ⟨_, _, _, _⟩ := hb
 unfold zei zb4 mag
 split <;> split <;> split <;> (try split) <;> (try split) <;> omega
theorem zx8 (a b : Wd) : RUN T ziu [.agg (wd a), .agg (wd b)] = some ([iv (zei a b)], []) := by
 refine zae z4f rfl ?_
 have e1 := z5a a.h b.h
 have e2 := z5a a.l b.l
 have e3 := z5b (zb4 a.h b.h) (zb4 a.l b.l)
 simp [zvg, zvh, wd, e1, e2, e3, zei]
theorem zx9 (a b : Wd) : RUN T ziv [.agg (wd a), .agg (wd b)] = some ([iv (zei a b)], []) := by
 refine zae z4n rfl ?_
 unfold zei zb4
 by_cases h1 : a.h < b.h
 ·simp [zi1, zi2, wd, h1]
 ·by_cases h2 : b.h < a.h
  ·have h3 : ¬ a.h = b.h := by omega
   simp [zi1, zi2, wd, h1, h2, h3]
  ·have h3 : a.h = b.h := by omega
   by_cases h4 : a.l < b.l
   ·simp [zi1, zi2, wd, h3, h4]
   ·by_cases h5 : b.l < a.l
    ·simp [zi1, zi2, wd, h3, h4, h5]
    ·simp [zi1, zi2, wd, h3, h4, h5]
def zbr (a b : Int) : Wd := mkW (decide (a < 0) != decide (b < 0)) ((a.natAbs : Int) * b.natAbs)
theorem zib {a : Int} (h : inI a) : 0 ≤ (a.natAbs : Int) ∧ (a.natAbs : Int) ≤ 9223372036854775808 := by
 obtain ⟨h0, h1⟩ := h; omega
theorem z5s {a b : Int} (ha : inI a) (hb : inI b) : 0 ≤ (a.natAbs : Int) * b.natAbs ∧ (a.natAbs : Int) * b.natAbs ≤ 85070591730234615865843651857942052864 := by
 obtain ⟨a0, a1⟩ := zib ha
 obtain ⟨b0, b1⟩ := zib hb
 exact ⟨Int.mul_nonneg a0 b0, Int.le_trans (Int.mul_le_mul a1 b1 b0 (by decide)) (by decide)⟩
theorem yjk (a b : Int) (ha : inI a) (hb : inI b) : RUN T zng [iv a, iv b] = some ([.agg (wd (zbr a b))], []) := by
 refine zae z4b rfl ?_
 obtain ⟨a0, a1⟩ := zib ha
 obtain ⟨b0, b1⟩ := zib hb
 have e1 := zx6 a ha
 have e2 := zx6 b hb
 have e3 := zx4 a.natAbs b.natAbs a0 (by omega) b0 (by omega)
 have e4 := zqa (decide (a < 0) != decide (b < 0)) ((a.natAbs : Int) * b.natAbs / 18446744073709551616) ((a.natAbs : Int) * b.natAbs % 18446744073709551616)
 obtain ⟨m0, m1⟩ := z5s ha hb
 have e5 : (⟨(decide (a < 0) != decide (b < 0)) && (decide (0 < (a.natAbs : Int) * b.natAbs / 18446744073709551616) || decide (0 < (a.natAbs : Int) * b.natAbs % 18446744073709551616)), (a.natAbs : Int) * b.natAbs / 18446744073709551616, (a.natAbs : Int) * b.natAbs % 18446744073709551616⟩ : Wd) = zbr a b := by
  unfold zbr mkW
  congr 2
  generalize (a.natAbs : Int) * b.natAbs = m at *
  rw [Bool.eq_iff_iff]; simp; omega
 rw [e5] at e4
 generalize zbr a b = w at *
 obtain ⟨wn, wh, wl⟩ := w
 simp only [wd] at e4 ⊢
 by_cases sa : a < 0 <;> by_cases sb : b < 0 <;> simp [sa, sb] at e4 <;> simp [zvc, zvd, e1, e2, e3, sa, sb, e4]
theorem yjl (a b : Int) (ha : inI a) (hb : inI b) : RUN T znk [iv a, iv b] = some ([.agg (wd (zbr a b))], []) := by
 refine zae z4v rfl ?_
 obtain ⟨a0, a1⟩ := zib ha
 obtain ⟨b0, b1⟩ := zib hb
 have e1 := zx7 a ha
 have e2 := zx7 b hb
 have e3 := zx5 a.natAbs b.natAbs a0 (by omega) b0 (by omega)
 have hpos : (0 < (a.natAbs : Int) * b.natAbs) ↔ (a ≠ 0 ∧ b ≠ 0) := by
  constructor
  ·intro h
   refine ⟨?_, ?_⟩ <;> rintro rfl <;> simp at h
  ·rintro ⟨h1, h2⟩
   exact Int.mul_pos (by omega) (by omega)
 have e5 : zbr a b = ⟨((decide (a < 0) != decide (b < 0)) && !decide (a = 0)) && !decide (b = 0), (a.natAbs : Int) * b.natAbs / 18446744073709551616, (a.natAbs : Int) * b.natAbs % 18446744073709551616⟩ := by
  unfold zbr mkW
  congr 1
  rw [Bool.eq_iff_iff]; simp [hpos, and_assoc]
 rw [e5]
 by_cases sa : a < 0 <;> by_cases sb : b < 0 <;> rcases Classical.propComplete (a = 0) with h0 | h0 <;> simp [zvw, zvx, e1, e2, e3, sa, sb, wd, h0]
def zdr (w : Wd) : Int := if w.n then -mag w else mag w
def zbx (a b : Wd) : Wd × Bool :=
 if wok a && wok b then
  if ((zdr a + zdr b).natAbs : Int) < 170141183460469231731687303715884105728 then (mkW (decide (zdr a + zdr b < 0)) (zdr a + zdr b).natAbs, true) else (za5, false)
 else (za5, false)
theorem ypv (a b : Wd) : wfU (zbx a b).1 := by
 unfold zbx
 split
 ·split
  ·exact zor (by omega) (by omega)
  ·exact ⟨by decide, by decide, by decide, by decide⟩
 ·exact ⟨by decide, by decide, by decide, by decide⟩
theorem zja {w : Wd} (h : wfU w) (hk : wok w = true) : 0 ≤ mag w ∧ mag w < 170141183460469231731687303715884105728 ∧ (w.n = true → 0 < mag w) := by
 obtain ⟨h0, h1, h2, h3⟩ := h
 unfold wok at hk
 simp only [Bool.and_eq_true, Bool.or_eq_true, Bool.not_eq_true', decide_eq_true_eq] at hk
 unfold mag
 obtain ⟨k1, k2⟩ := hk
 refine ⟨by omega, by omega, fun hn => ?_⟩
 rw [hn] at k2
 rcases k2 with (k2 | k2) | k2
 ·cases k2
 ·omega
 ·omega
theorem ypr (a b : Wd) (ha : wfU a) (hb : wfU b) (h : mag a + mag b < 340282366920938463463374607431768211456) : ∃ c d : Int,
  RUN T zho [uv a.l, uv b.l, uv 0] = some ([uv ((mag a + mag b) % 18446744073709551616), uv c], []) ∧ RUN T zho [uv a.h, uv b.h, uv c] = some ([uv ((mag a + mag b) / 18446744073709551616), uv d], []) := by
 obtain ⟨a0, a1, a2, a3⟩ := ha
 obtain ⟨b0, b1, b2, b3⟩ := hb
 have e1 := z0z zxy (x := a.l) (y := b.l) (c := 0) a2 b2 (by decide) (by decide)
 have e2 := z0z zxy (x := a.h) (y := b.h) (c := (a.l + b.l + 0) / 18446744073709551616) a0 b0 (by omega) (by omega)
 have f1 : (a.l + b.l + 0) % 18446744073709551616 = (mag a + mag b) % 18446744073709551616 := by unfold mag; omega
 have f2 : (a.h + b.h + (a.l + b.l + 0) / 18446744073709551616) % 18446744073709551616 = (mag a + mag b) / 18446744073709551616 := by unfold mag at *; omega
 rw [f1] at e1
 rw [f2] at e2
 exact ⟨_, _, e1, e2⟩
theorem z8a (a b : Wd) (ha : wfU a) (hb : wfU b) (h : mag b ≤ mag a) : ∃ c d : Int,
  RUN T ziw [uv a.l, uv b.l, uv 0] = some ([uv ((mag a - mag b) % 18446744073709551616), uv c], []) ∧ RUN T ziw [uv a.h, uv b.h, uv c] = some ([uv ((mag a - mag b) / 18446744073709551616), uv d], []) := by
 obtain ⟨a0, a1, a2, a3⟩ := ha
 obtain ⟨b0, b1, b2, b3⟩ := hb
 have e1 := z7j z4q (x := a.l) (y := b.l) (c := 0) a2 b2 a3 b3 (by decide) (by decide)
 have e2 := z7j z4q (x := a.h) (y := b.h) (c := if a.l < b.l + 0 then 1 else 0) a0 b0 a1 b1 (by split <;> omega) (by split <;> omega)
 have f1 : (a.l - b.l - 0) % 18446744073709551616 = (mag a - mag b) % 18446744073709551616 := by unfold mag; omega
 have f2 : (a.h - b.h - (if a.l < b.l + 0 then 1 else 0)) % 18446744073709551616 = (mag a - mag b) / 18446744073709551616 := by
  unfold mag at *
  split <;> omega
 rw [f1] at e1
 rw [f2] at e2
 exact ⟨_, _, e1, e2⟩
theorem zz1 {n : Bool} {m : Int} (h : 0 ≤ m) : RUN T zfo [bv n, uv (m / 18446744073709551616), uv (m % 18446744073709551616)] = some ([.agg (wd (mkW n m))], []) := by
 rw [zqa]
 have : (⟨n && (decide (0 < m / 18446744073709551616) || decide (0 < m % 18446744073709551616)), m / 18446744073709551616, m % 18446744073709551616⟩ : Wd) = mkW n m := by
  unfold mkW
  congr 2
  rw [Bool.eq_iff_iff]; simp; omega
 rw [this]
theorem yjm (a b : Wd) (ha : wfU a) (hb : wfU b) : RUN T znf [.agg (wd a), .agg (wd b)] = some ([.agg (wd (zbx a b).1), bv (zbx a b).2], []) := by
 refine zae z39 rfl ?_
 have ea := zn0 a
 have eb := zn0 b
 cases ka : wok a with
 | false =>
  have es : zbx a b = (za5, false) := by unfold zbx; simp [ka]
  rw [es]; rw [ka] at ea
  simp only [wd] at ea
  simp [zhr, zhs, wd, ea, za5]
 | true =>
  cases kb : wok b with
  | false =>
   have es : zbx a b = (za5, false) := by unfold zbx; simp [kb]
   rw [es]; rw [ka] at ea; rw [kb] at eb
   simp only [wd] at ea eb
   simp [zhr, zhs, wd, ea, eb, za5]
  | true =>
   obtain ⟨ma0, ma1, ma2⟩ := zja ha ka
   obtain ⟨mb0, mb1, mb2⟩ := zja hb kb
   rw [ka] at ea; rw [kb] at eb
   by_cases hn : a.n = b.n
   ·obtain ⟨c, d, f1, f2⟩ := ypr a b ha hb (by omega)
    have f3 := zz1 (n := a.n) (m := mag a + mag b) (by omega)
    have f4 := zn0 (mkW a.n (mag a + mag b))
    rw [zow (by omega)] at f4
    have es : zbx a b = if mag a + mag b < 170141183460469231731687303715884105728 then (mkW a.n (mag a + mag b), true) else (za5, false) := by
     unfold zbx zdr
     rw [ka, kb, ← hn]
     simp only [Bool.and_self, if_true]
     cases h : a.n with
     | true =>
      have e1 : (-mag a + -mag b).natAbs = mag a + mag b := by omega
      have e2 : -mag a + -mag b < 0 := by have := ma2 h; omega
      simp only [if_true, e1, decide_eq_true e2]
     | false =>
      have e1 : ((mag a + mag b).natAbs : Int) = mag a + mag b := by omega
      have e2 : ¬ mag a + mag b < 0 := by omega
      simp only [Bool.false_eq_true, if_false, e1, decide_eq_false e2]
    rw [es]
    generalize hm : mag a + mag b = m at *
    generalize mkW a.n m = w at *
    generalize m / 18446744073709551616 = hi at *
    generalize m % 18446744073709551616 = lo at *
    simp only [wd] at ea eb f3 f4 ⊢
    rw [hn] at ea f3
    by_cases hk : m < 170141183460469231731687303715884105728
    ·rw [decide_eq_true hk] at f4
     rw [if_pos hk]
     simp [zhr, zhs, ea, eb, hn, f1, f2, f3, f4]
    ·rw [decide_eq_false hk] at f4
     rw [if_neg hk]
     simp [zhr, zhs, ea, eb, hn, f1, f2, f3, f4, za5]
   ·have ho := zx8 a b
    rw [ya6 ha hb] at ho
    have es : zbx a b = (mkW (if mag a < mag b then b.n else a.n) (if mag a < mag b then mag b - mag a else mag a - mag b), true) := by
     have gen : ∀ (n : Bool) (m : Int), ((zdr a + zdr b).natAbs : Int) = m → m < 170141183460469231731687303715884105728 → (decide (zdr a + zdr b < 0) && decide (0 < m)) = (n && decide (0 < m)) → zbx a b = (mkW n m, true) := by
      intro n m h1 h2 h3
      unfold zbx
      rw [ka, kb, h1]
      simp only [Bool.and_self, if_true, if_pos h2]
      unfold mkW
      rw [h3]
     unfold zdr at gen
     cases h : a.n <;> cases h' : b.n <;> simp only [h, h'] at gen hn ⊢
     ·exact (hn trivial).elim
     ·by_cases hl : mag a < mag b
      ·rw [if_pos hl, if_pos hl]
       exact gen _ _ (by simp; omega) (by omega) (by rw [Bool.eq_iff_iff]; simp; omega)
      ·rw [if_neg hl, if_neg hl]
       exact gen _ _ (by simp; omega) (by omega) (by rw [Bool.eq_iff_iff]; simp; omega)
     ·by_cases hl : mag a < mag b
      ·rw [if_pos hl, if_pos hl]
       exact gen _ _ (by simp; omega) (by omega) (by rw [Bool.eq_iff_iff]; simp; omega)
      ·rw [if_neg hl, if_neg hl]
       exact gen _ _ (by simp; omega) (by omega) (by rw [Bool.eq_iff_iff]; simp; omega)
     ·exact (hn trivial).elim
    rw [es]
    have hnb : (a.n == b.n) = false := by cases h : a.n <;> cases h' : b.n <;> simp [h, h'] at hn ⊢
    by_cases hl : mag a < mag b
    ·obtain ⟨c, d, f1, f2⟩ := z8a b a hb ha (by omega)
     have f3 := zz1 (n := b.n) (m := mag b - mag a) (by omega)
     have hs : zb4 (mag a) (mag b) = -1 := by unfold zb4; rw [if_pos hl]
     rw [hs] at ho
     rw [if_pos hl, if_pos hl]
     generalize mag b - mag a = m at *
     generalize mkW b.n m = w at *
     generalize m / 18446744073709551616 = hi at *
     generalize m % 18446744073709551616 = lo at *
     simp only [wd] at ea eb f3 ho ⊢
     simp [zhr, zhs, ea, eb, hnb, ho, f1, f2, f3]
    ·obtain ⟨c, d, f1, f2⟩ := z8a a b ha hb (by omega)
     have f3 := zz1 (n := a.n) (m := mag a - mag b) (by omega)
     have hs : ¬ zb4 (mag a) (mag b) < 0 := by unfold zb4; rw [if_neg hl]; split <;> omega
     rw [if_neg hl, if_neg hl]
     generalize mag a - mag b = m at *
     generalize mkW a.n m = w at *
     generalize m / 18446744073709551616 = hi at *
     generalize m % 18446744073709551616 = lo at *
     generalize zb4 (mag a) (mag b) = sg at *
     simp only [wd] at ea eb f3 ho ⊢
     simp [zhr, zhs, ea, eb, hnb, ho, hs, f1, f2, f3]
theorem z7h {a b : Wd} (ha : wfU a) (hb : wfU b) (ka : wok a = true) (kb : wok b = true) (hn : a.n = b.n) : zbx a b = if mag a + mag b < 170141183460469231731687303715884105728 then (mkW a.n (mag a + mag b), true) else (za5, false) := by
 obtain ⟨ma0, ma1, ma2⟩ := zja ha ka
 obtain ⟨mb0, mb1, mb2⟩ := zja hb kb
 unfold zbx zdr
 rw [ka, kb, ← hn]
 simp only [Bool.and_self, if_true]
 cases h : a.n with
 | true =>
  have e1 : (-mag a + -mag b).natAbs = mag a + mag b := by omega
  have e2 : -mag a + -mag b < 0 := by have := ma2 h; omega
  simp only [if_true, e1, decide_eq_true e2]
 | false =>
  have e1 : ((mag a + mag b).natAbs : Int) = mag a + mag b := by omega
  have e2 : ¬ mag a + mag b < 0 := by omega
  simp only [Bool.false_eq_true, if_false, e1, decide_eq_false e2]
theorem yln {a b : Wd} (ha : wfU a) (hb : wfU b) (ka : wok a = true) (kb : wok b = true) (hn : ¬ a.n = b.n) : zbx a b = (mkW (if mag a < mag b then b.n else a.n) (if mag a < mag b then mag b - mag a else mag a - mag b), true) := by
 obtain ⟨ma0, ma1, ma2⟩ := zja ha ka
 obtain ⟨mb0, mb1, mb2⟩ := zja hb kb
 have gen : ∀ (n : Bool) (m : Int), ((zdr a + zdr b).natAbs : Int) = m → m < 170141183460469231731687303715884105728 → (decide (zdr a + zdr b < 0) && decide (0 < m)) = (n && decide (0 < m)) → zbx a b = (mkW n m, true) := by
  intro n m h1 h2 h3
  unfold zbx
  rw [ka, kb, h1]
  simp only [Bool.and_self, if_true, if_pos h2]
  unfold mkW
  rw [h3]
 unfold zdr at gen
 cases h : a.n <;> cases h' : b.n <;> simp only [h, h'] at gen hn ⊢
 ·exact (hn trivial).elim
 ·by_cases hl : mag a < mag b
  ·rw [if_pos hl, if_pos hl]
   exact gen _ _ (by simp; omega) (by omega) (by rw [Bool.eq_iff_iff]; simp; omega)
  ·rw [if_neg hl, if_neg hl]
   exact gen _ _ (by simp; omega) (by omega) (by rw [Bool.eq_iff_iff]; simp; omega)
 ·by_cases hl : mag a < mag b
  ·rw [if_pos hl, if_pos hl]
   exact gen _ _ (by simp; omega) (by omega) (by rw [Bool.eq_iff_iff]; simp; omega)
  ·rw [if_neg hl, if_neg hl]
   exact gen _ _ (by simp; omega) (by omega) (by rw [Bool.eq_iff_iff]; simp; omega)
 ·exact (hn trivial).elim
theorem yqz (a b : Wd) (ha : wfU a) (hb : wfU b) (h : mag a + mag b < 340282366920938463463374607431768211456) :
  IntKind.u64.wrap (a.l + b.l) = (mag a + mag b) % 18446744073709551616 ∧ ((mag a + mag b) % 18446744073709551616 < a.l → IntKind.u64.wrap (IntKind.u64.wrap (a.h + b.h) + 1) = (mag a + mag b) / 18446744073709551616) ∧ (¬ (mag a + mag b) % 18446744073709551616 < a.l → IntKind.u64.wrap (a.h + b.h) = (mag a + mag b) / 18446744073709551616) := by
 obtain ⟨a0, a1, a2, a3⟩ := ha
 obtain ⟨b0, b1, b2, b3⟩ := hb
 unfold mag at *
 refine ⟨?_, fun h => ?_, fun h => ?_⟩ <;> simp only [zg5] at * <;> omega
theorem z6e (a b : Wd) (ha : wfU a) (hb : wfU b) (h : mag b ≤ mag a) :
  IntKind.u64.wrap (a.l - b.l) = (mag a - mag b) % 18446744073709551616 ∧ (a.l < b.l → IntKind.u64.wrap (IntKind.u64.wrap (a.h - b.h) - 1) = (mag a - mag b) / 18446744073709551616) ∧ (¬ a.l < b.l → IntKind.u64.wrap (a.h - b.h) = (mag a - mag b) / 18446744073709551616) := by
 obtain ⟨a0, a1, a2, a3⟩ := ha
 obtain ⟨b0, b1, b2, b3⟩ := hb
 unfold mag at *
 refine ⟨?_, fun h => ?_, fun h => ?_⟩ <;> simp only [zg5] at * <;> omega
theorem yjn (a b : Wd) (ha : wfU a) (hb : wfU b) : RUN T zni [.agg (wd a), .agg (wd b)] = some ([.agg (wd (zbx a b).1), bv (zbx a b).2], []) := by
 refine zae z4i rfl ?_
 have ea := zn1 a
 have eb := zn1 b
 cases ka : wok a with
 | false =>
  have es : zbx a b = (za5, false) := by unfold zbx; simp [ka]
  rw [es]; rw [ka] at ea
  simp only [wd] at ea
  simp [zes, zet, wd, ea, za5]
 | true =>
  cases kb : wok b with
  | false =>
   have es : zbx a b = (za5, false) := by unfold zbx; simp [kb]
   rw [es]; rw [ka] at ea; rw [kb] at eb
   simp only [wd] at ea eb
   simp [zes, zet, wd, ea, eb, za5]
  | true =>
   obtain ⟨ma0, ma1, ma2⟩ := zja ha ka
   obtain ⟨mb0, mb1, mb2⟩ := zja hb kb
   rw [ka] at ea; rw [kb] at eb
   by_cases hn : a.n = b.n
   ·obtain ⟨f1, f2, f3⟩ := yqz a b ha hb (by omega)
    have f4 := zn1 (mkW a.n (mag a + mag b))
    rw [zow (by omega)] at f4
    rw [z7h ha hb ka kb hn]
    have e6 : mkW a.n (mag a + mag b) = ⟨a.n, (mag a + mag b) / 18446744073709551616, (mag a + mag b) % 18446744073709551616⟩ := by
     unfold mkW
     congr 1
     cases h : a.n with
     | false => rfl
     | true => have := ma2 h; simp; omega
    rw [e6] at f4 ⊢
    generalize hm : mag a + mag b = m at *
    generalize m / 18446744073709551616 = hi at *
    generalize m % 18446744073709551616 = lo at *
    simp only [wd] at ea eb f4 ⊢
    rw [hn] at ea f4
    by_cases hc : lo < a.l
    ·have f2 := f2 hc
     by_cases hk : m < 170141183460469231731687303715884105728
     ·rw [decide_eq_true hk] at f4
      rw [if_pos hk]
      simp [zes, zet, ea, eb, hn, hc, f1, f2, f4]
     ·rw [decide_eq_false hk] at f4
      rw [if_neg hk]
      simp [zes, zet, ea, eb, hn, hc, f1, f2, f4, za5]
    ·have f3 := f3 hc
     by_cases hk : m < 170141183460469231731687303715884105728
     ·rw [decide_eq_true hk] at f4
      rw [if_pos hk]
      simp [zes, zet, ea, eb, hn, hc, f1, f3, f4]
     ·rw [decide_eq_false hk] at f4
      rw [if_neg hk]
      simp [zes, zet, ea, eb, hn, hc, f1, f3, f4, za5]
   ·have ho := zx9 a b
    rw [ya6 ha hb] at ho
    rw [yln ha hb ka kb hn]
    have hnb : (a.n == b.n) = false := by cases h : a.n <;> cases h' : b.n <;> simp [h, h'] at hn ⊢
    by_cases hl : mag a < mag b
    ·obtain ⟨f1, f2, f3⟩ := z6e b a hb ha (by omega)
     have hz := zqb ⟨b.n, (mag b - mag a) / 18446744073709551616, (mag b - mag a) % 18446744073709551616⟩
     have hs : zb4 (mag a) (mag b) = -1 := by unfold zb4; rw [if_pos hl]
     rw [hs] at ho
     rw [if_pos hl, if_pos hl]
     have e6 : mkW b.n (mag b - mag a) = ⟨b.n, (mag b - mag a) / 18446744073709551616, (mag b - mag a) % 18446744073709551616⟩ := by
      unfold mkW
      congr 1
      rw [decide_eq_true (show 0 < mag b - mag a by omega), Bool.and_true]
     have e7 : (decide ((mag b - mag a) / 18446744073709551616 = 0) && decide ((mag b - mag a) % 18446744073709551616 = 0)) = false := by
      rw [Bool.eq_false_iff]; simp; omega
     simp only at hz
     rw [e7] at hz
     rw [e6]
     clear e6 e7
     generalize mag b - mag a = m at *
     generalize m / 18446744073709551616 = hi at *
     generalize m % 18446744073709551616 = lo at *
     simp only [wd] at ea eb ho hz ⊢
     by_cases hc : b.l < a.l
     ·have f2 := f2 hc
      simp [zes, zet, ea, eb, hnb, ho, hc, f1, f2, hz]
     ·have f3 := f3 hc
      simp [zes, zet, ea, eb, hnb, ho, hc, f1, f3, hz]
    ·obtain ⟨f1, f2, f3⟩ := z6e a b ha hb (by omega)
     have hz := zqb ⟨a.n, (mag a - mag b) / 18446744073709551616, (mag a - mag b) % 18446744073709551616⟩
     have hs : ¬ zb4 (mag a) (mag b) < 0 := by unfold zb4; rw [if_neg hl]; split <;> omega
     rw [if_neg hl, if_neg hl]
     generalize zb4 (mag a) (mag b) = sg at *
     by_cases h0 : mag a - mag b = 0
     ·have e6 : mkW a.n (mag a - mag b) = ⟨false, (mag a - mag b) / 18446744073709551616, (mag a - mag b) % 18446744073709551616⟩ := by
       unfold mkW
       congr 1
       simp [h0]
      have e7 : (decide ((mag a - mag b) / 18446744073709551616 = 0) && decide ((mag a - mag b) % 18446744073709551616 = 0)) = true := by
       simp; omega
      simp only at hz
      rw [e7] at hz
      rw [e6]
      clear e6 e7 h0
      generalize mag a - mag b = m at *
      generalize m / 18446744073709551616 = hi at *
      generalize m % 18446744073709551616 = lo at *
      simp only [wd] at ea eb ho hz ⊢
      by_cases hc : a.l < b.l
      ·have f2 := f2 hc
       simp [zes, zet, ea, eb, hnb, ho, hs, hc, f1, f2, hz]
      ·have f3 := f3 hc
       simp [zes, zet, ea, eb, hnb, ho, hs, hc, f1, f3, hz]
     ·have e6 : mkW a.n (mag a - mag b) = ⟨a.n, (mag a - mag b) / 18446744073709551616, (mag a - mag b) % 18446744073709551616⟩ := by
       unfold mkW
       congr 1
       rw [decide_eq_true (show 0 < mag a - mag b by omega), Bool.and_true]
      have e7 : (decide ((mag a - mag b) / 18446744073709551616 = 0) && decide ((mag a - mag b) % 18446744073709551616 = 0)) = false := by
       rw [Bool.eq_false_iff]; simp; omega
      simp only at hz
      rw [e7] at hz
      rw [e6]
      clear e6 e7 h0
      generalize mag a - mag b = m at *
      generalize m / 18446744073709551616 = hi at *
      generalize m % 18446744073709551616 = lo at *
      simp only [wd] at ea eb ho hz ⊢
      by_cases hc : a.l < b.l
      ·have f2 := f2 hc
       simp [zes, zet, ea, eb, hnb, ho, hs, hc, f1, f2, hz]
      ·have f3 := f3 hc
       simp [zes, zet, ea, eb, hnb, ho, hs, hc, f1, f3, hz]
theorem yq2 {a b : Int} (ha : inI a) (hb : inI b) : wfU (zbr a b) := by
 obtain ⟨m0, m1⟩ := z5s ha hb
 exact zor m0 (by omega)
def zcc (w : Wd) (k : Int) : Wd × Bool := if wok w = true ∧ mag w * k.natAbs < 170141183460469231731687303715884105728 then (mkW (w.n != decide (k < 0)) (mag w * k.natAbs), true) else (za5, false)
theorem z80 (w : Wd) (k : Int) (hw : wfU w) (hk : inI k) : ∃ p q : Int, w.h * k.natAbs = p ∧ w.l * k.natAbs = q ∧ 0 ≤ p ∧ 0 ≤ q ∧ q ≤ 170141183460469231722463931679029329920 ∧ mag w * k.natAbs = p * 18446744073709551616 + q := by
 obtain ⟨a0, a1, a2, a3⟩ := hw
 obtain ⟨k0, k1⟩ := zib hk
 refine ⟨_, _, rfl, rfl, Int.mul_nonneg a0 k0, Int.mul_nonneg a2 k0, Int.le_trans (Int.mul_le_mul (show w.l ≤ 18446744073709551615 by omega) k1 k0 (by decide)) (by decide), ?_⟩
 unfold mag
 rw [Int.add_mul, Int.mul_assoc, Int.mul_comm 18446744073709551616, ← Int.mul_assoc]
theorem z9p (w : Wd) (k : Int) (ka : wok w = true) (p q : Int) (p0 : 0 ≤ p) (q0 : 0 ≤ q) (q1 : q ≤ 170141183460469231722463931679029329920) (hP : mag w * k.natAbs = p * 18446744073709551616 + q) :
  (zcc w k = (za5, false) ∧ (0 < p / 18446744073709551616 ∨ 0 < (p % 18446744073709551616 + q / 18446744073709551616) / 18446744073709551616 ∨ wok ⟨(w.n != decide (k < 0)) && (decide (0 < (p % 18446744073709551616 + q / 18446744073709551616) % 18446744073709551616) || decide (0 < q % 18446744073709551616)), (p % 18446744073709551616 + q / 18446744073709551616) % 18446744073709551616, q % 18446744073709551616⟩ = false)) ∨
  (zcc w k = (⟨(w.n != decide (k < 0)) && (decide (0 < (p % 18446744073709551616 + q / 18446744073709551616) % 18446744073709551616) || decide (0 < q % 18446744073709551616)), (p % 18446744073709551616 + q / 18446744073709551616) % 18446744073709551616, q % 18446744073709551616⟩, true) ∧ ¬ 0 < p / 18446744073709551616 ∧ ¬ 0 < (p % 18446744073709551616 + q / 18446744073709551616) / 18446744073709551616 ∧ wok ⟨(w.n != decide (k < 0)) && (decide (0 < (p % 18446744073709551616 + q / 18446744073709551616) % 18446744073709551616) || decide (0 < q % 18446744073709551616)), (p % 18446744073709551616 + q / 18446744073709551616) % 18446744073709551616, q % 18446744073709551616⟩ = true) := by
 by_cases hk : p * 18446744073709551616 + q < 170141183460469231731687303715884105728
 ·right
  have e : (⟨(w.n != decide (k < 0)) && (decide (0 < (p % 18446744073709551616 + q / 18446744073709551616) % 18446744073709551616) || decide (0 < q % 18446744073709551616)), (p % 18446744073709551616 + q / 18446744073709551616) % 18446744073709551616, q % 18446744073709551616⟩ : Wd) = mkW (w.n != decide (k < 0)) (p * 18446744073709551616 + q) := by
   unfold mkW
   congr 1
   ·congr 1
    rw [Bool.eq_iff_iff]; simp; omega
   ·omega
   ·omega
  rw [e, zow (by omega)]
  refine ⟨?_, by omega, by omega, decide_eq_true hk⟩
  unfold zcc
  rw [hP, if_pos ⟨ka, hk⟩]
 ·left
  refine ⟨?_, ?_⟩
  ·unfold zcc
   rw [hP, if_neg (fun h => hk h.2)]
  ·by_cases h1 : 0 < p / 18446744073709551616
   ·exact .inl h1
   ·by_cases h2 : 0 < (p % 18446744073709551616 + q / 18446744073709551616) / 18446744073709551616
    ·exact .inr (.inl h2)
    ·refine .inr (.inr ?_)
     unfold wok
     rw [decide_eq_false (show ¬ (p % 18446744073709551616 + q / 18446744073709551616) % 18446744073709551616 < 9223372036854775808 by omega)]
     rfl
set_option maxHeartbeats 1000000 in
theorem z5c (w : Wd) (k : Int) (hw : wfU w) (hk : inI k) : RUN T zkk [.agg (wd w), iv k] = some ([.agg (wd (zcc w k).1), bv (zcc w k).2], []) := by
 refine zae z4d rfl ?_
 have ea := zn0 w
 cases ka : wok w with
 | false =>
  have es : zcc w k = (za5, false) := by unfold zcc; simp [ka]
  rw [es]; rw [ka] at ea
  simp only [wd] at ea
  simp [zf8, zf9, wd, ea, za5]
 | true =>
  rw [ka] at ea
  obtain ⟨a0, a1, a2, a3⟩ := hw
  obtain ⟨k0, k1⟩ := zib hk
  have e1 := zx6 k hk
  have e2 := zx4 w.h k.natAbs a0 a1 k0 (by omega)
  have e3 := zx4 w.l k.natAbs a2 a3 k0 (by omega)
  obtain ⟨p, q, hp, hq, p0, q0, q1, hP⟩ := z80 w k ⟨a0, a1, a2, a3⟩ hk
  rw [hp] at e2
  rw [hq] at e3
  have e4 := z0z zxy (x := p % 18446744073709551616) (y := q / 18446744073709551616) (c := 0) (by omega) (by omega) (by decide) (by decide)
  rw [Int.add_zero] at e4
  have e5 := zqa (w.n != decide (k < 0)) ((p % 18446744073709551616 + q / 18446744073709551616) % 18446744073709551616) (q % 18446744073709551616)
  have e6 := zn0 ⟨(w.n != decide (k < 0)) && (decide (0 < (p % 18446744073709551616 + q / 18446744073709551616) % 18446744073709551616) || decide (0 < q % 18446744073709551616)), (p % 18446744073709551616 + q / 18446744073709551616) % 18446744073709551616, q % 18446744073709551616⟩
  have key := z9p w k ka p q p0 q0 q1 hP
  generalize ((w.n != decide (k < 0)) && (decide (0 < (p % 18446744073709551616 + q / 18446744073709551616) % 18446744073709551616) || decide (0 < q % 18446744073709551616))) = sn at *
  generalize p / 18446744073709551616 = P1 at *
  generalize p % 18446744073709551616 = P2 at *
  generalize q / 18446744073709551616 = Q1 at *
  generalize q % 18446744073709551616 = Q2 at *
  generalize (P2 + Q1) / 18446744073709551616 = S1 at *
  generalize (P2 + Q1) % 18446744073709551616 = S2 at *
  generalize zcc w k = r at *
  generalize wok ⟨sn, S2, Q2⟩ = o at *
  obtain ⟨wn, wh, wl⟩ := w
  simp only [wd] at ea e5 e6 ⊢
  simp only at e2 e3
  rcases key with ⟨rfl, c | c | rfl⟩ | ⟨rfl, c1, c2, rfl⟩
  ·cases wn <;> by_cases sb : k < 0 <;> simp [sb] at e5 <;> simp [zf8, zf9, ea, e1, e2, e3, e4, e5, sb, c, za5]
  ·by_cases c' : 0 < P1
   ·cases wn <;> by_cases sb : k < 0 <;> simp [sb] at e5 <;> simp [zf8, zf9, ea, e1, e2, e3, e4, e5, sb, c', za5]
   ·cases wn <;> by_cases sb : k < 0 <;> simp [sb] at e5 <;> simp [zf8, zf9, ea, e1, e2, e3, e4, e5, sb, c', c, za5]
  ·by_cases c' : 0 < P1
   ·cases wn <;> by_cases sb : k < 0 <;> simp [sb] at e5 <;> simp [zf8, zf9, ea, e1, e2, e3, e4, e5, sb, c', za5]
   ·by_cases c : 0 < S1
    ·cases wn <;> by_cases sb : k < 0 <;> simp [sb] at e5 <;> simp [zf8, zf9, ea, e1, e2, e3, e4, e5, sb, c', c, za5]
    ·cases wn <;> by_cases sb : k < 0 <;> simp [sb] at e5 <;> simp [zf8, zf9, ea, e1, e2, e3, e4, e5, e6, sb, c', c, za5]
  ·cases wn <;> by_cases sb : k < 0 <;> simp [sb] at e5 <;> simp [zf8, zf9, ea, e1, e2, e3, e4, e5, e6, sb, c1, c2]
set_option maxHeartbeats 1000000 in
theorem z5d (w : Wd) (k : Int) (hw : wfU w) (hk : inI k) : RUN T zkm [.agg (wd w), iv k] = some ([.agg (wd (zcc w k).1), bv (zcc w k).2], []) := by
 refine zae z4l rfl ?_
 have ea := zn1 w
 cases ka : wok w with
 | false =>
  have es : zcc w k = (za5, false) := by unfold zcc; simp [ka]
  rw [es]; rw [ka] at ea
  simp only [wd] at ea
  simp [zga, zgb, wd, ea, za5]
 | true =>
  rw [ka] at ea
  obtain ⟨a0, a1, a2, a3⟩ := hw
  obtain ⟨k0, k1⟩ := zib hk
  have e1 := zx7 k hk
  have e2 := zx5 w.h k.natAbs a0 a1 k0 (by omega)
  have e3 := zx5 w.l k.natAbs a2 a3 k0 (by omega)
  obtain ⟨p, q, hp, hq, p0, q0, q1, hP⟩ := z80 w k ⟨a0, a1, a2, a3⟩ hk
  rw [hp] at e2
  rw [hq] at e3
  have e4 := zqb ⟨w.n != decide (k < 0), (p % 18446744073709551616 + q / 18446744073709551616) % 18446744073709551616, q % 18446744073709551616⟩
  have e5 : (decide (0 < (p % 18446744073709551616 + q / 18446744073709551616) % 18446744073709551616) || decide (0 < q % 18446744073709551616)) = !(decide ((p % 18446744073709551616 + q / 18446744073709551616) % 18446744073709551616 = 0) && decide (q % 18446744073709551616 = 0)) := by
   rw [Bool.eq_iff_iff]; simp; omega
  have e6 := zn1 ⟨(w.n != decide (k < 0)) && (decide (0 < (p % 18446744073709551616 + q / 18446744073709551616) % 18446744073709551616) || decide (0 < q % 18446744073709551616)), (p % 18446744073709551616 + q / 18446744073709551616) % 18446744073709551616, q % 18446744073709551616⟩
  have e7 : 0 < (p % 18446744073709551616 + q / 18446744073709551616) / 18446744073709551616 ↔ (p % 18446744073709551616 + q / 18446744073709551616) % 18446744073709551616 < p % 18446744073709551616 := by omega
  have e8 := zg5 (p % 18446744073709551616 + q / 18446744073709551616)
  have key := z9p w k ka p q p0 q0 q1 hP
  rw [e7] at key
  rw [e5] at key e6
  clear e7 e5
  simp only at e4
  generalize (decide ((p % 18446744073709551616 + q / 18446744073709551616) % 18446744073709551616 = 0) && decide (q % 18446744073709551616 = 0)) = z at *
  generalize p / 18446744073709551616 = P1 at *
  generalize p % 18446744073709551616 = P2 at *
  generalize q / 18446744073709551616 = Q1 at *
  generalize q % 18446744073709551616 = Q2 at *
  generalize (P2 + Q1) % 18446744073709551616 = S2 at *
  generalize zcc w k = r at *
  generalize hsn : ((w.n != decide (k < 0)) && !z) = sn at *
  generalize wok ⟨sn, S2, Q2⟩ = o at *
  obtain ⟨wn, wh, wl⟩ := w
  simp only [wd] at ea e4 e6 ⊢
  simp only at e2 e3 hsn
  rcases key with ⟨rfl, c | c | rfl⟩ | ⟨rfl, c1, c2, rfl⟩
  ·cases wn <;> by_cases sb : k < 0 <;> cases z <;> simp [sb] at e4 <;> simp [zga, zgb, ea, e1, e2, e3, e4, e8, sb, c, za5]
  ·by_cases c' : 0 < P1
   ·cases wn <;> by_cases sb : k < 0 <;> cases z <;> simp [sb] at e4 <;> simp [zga, zgb, ea, e1, e2, e3, e4, e8, sb, c', za5]
   ·cases wn <;> by_cases sb : k < 0 <;> cases z <;> simp [sb] at e4 <;> simp [zga, zgb, ea, e1, e2, e3, e4, e8, sb, c', c, za5]
  ·by_cases c' : 0 < P1
   ·cases wn <;> by_cases sb : k < 0 <;> cases z <;> simp [sb] at e4 <;> simp [zga, zgb, ea, e1, e2, e3, e4, e8, sb, c', za5]
   ·by_cases c : S2 < P2
    ·cases wn <;> by_cases sb : k < 0 <;> cases z <;> simp [sb] at e4 <;> simp [zga, zgb, ea, e1, e2, e3, e4, e8, sb, c', c, za5]
    ·cases wn <;> by_cases sb : k < 0 <;> cases z <;> simp [sb] at e4 hsn <;> subst hsn <;> simp [zga, zgb, ea, e1, e2, e3, e4, e6, e8, sb, c', c, za5]
  ·cases wn <;> by_cases sb : k < 0 <;> cases z <;> simp [sb] at e4 hsn <;> subst hsn <;> simp [zga, zgb, ea, e1, e2, e3, e4, e6, e8, sb, c1, c2]
def zdz (w : Wd) : Bool := w.n && !(decide (w.h = 0) && decide (w.l = 0))
def zk9 (a b : Wd) : Int := if zdz a = true then (if zdz b = true then zei b a else -1) else (if zdz b = true then 1 else zei a b)
theorem yjo (a b : Wd) : RUN T zne [.agg (wd a), .agg (wd b)] = some ([iv (zk9 a b)], []) := by
 refine zae z35 rfl ?_
 have e1 := zqb a
 have e2 := zqb b
 have e3 := zx9 a b
 have e4 := zx9 b a
 unfold zk9 zdz
 generalize zei a b = x at *
 generalize zei b a = y at *
 generalize (decide (a.h = 0) && decide (a.l = 0)) = z at *
 generalize (decide (b.h = 0) && decide (b.l = 0)) = z' at *
 obtain ⟨an, ah, al⟩ := a
 obtain ⟨bn, bh, bl⟩ := b
 simp only [wd] at e1 e2 e3 e4 ⊢
 cases an <;> cases bn <;> cases z <;> cases z' <;> simp [zu6, zu7, e1, e2, e3, e4]
def z66 (t : List Nd) (k : Nat) (f c a b : Int) : List Nd := t.set k ⟨f, c, t.length, t.length + 1, 0⟩ ++ [⟨-1, 0, 0, 0, a⟩, ⟨-1, 0, 0, 0, b⟩]
def pos (x : Int) (l : List Int) : Nat → Nat
 | 0 => 0
 | k + 1 => if x < l.getD k 0 then pos x l k else k + 1
def z7m (x : Int) (l : List Int) (k P : Nat) : Prop := pos x l k = P
theorem z7m.z {x : Int} {l : List Int} {P : Nat} (h : z7m x l 0 P) : 0 = P := h
theorem Shaped.wf {t : List Nd} {F : Int} (h : Shaped t F) (hF : F ≤ 100) (hl : t.length ≤ 31) : ∀ n ∈ t, wfN n := by
 intro n hn
 obtain ⟨j, hj⟩ := List.getElem?_of_mem hn
 unfold wfN inI
 by_cases hf : n.f = -1
 ·obtain ⟨h1, h2, h3, h4⟩ := h.leaf j n hj hf
  have := zby.mp h4
  omega
 ·have hi := h.inner j n hj hf
  have h1 := zby.mp hi.c
  have h2 := hi.f
  have h3 := hi.lo
  have h4 := hi.r
  have h5 := hi.hi
  have h6 := hi.v
  omega
structure Sl where
 n : Int
 g : Int
deriving DecidableEq
def slc (x : Sl) : List PV := [iv x.n, iv x.g]
def zq9 (l : List Sl) : List (List PV) := l.map slc
@[simp] theorem y0g (l : List Sl) : (zq9 l).length = l.length := by simp [zq9]
def slI (x : Sl) : Prop := inI x.n ∧ inI x.g
def zcf (a b : Sl) : Sl × Bool := if ((adi a.n b.n).2 && (adi a.g b.g).2) = true then (⟨(adi a.n b.n).1, (adi a.g b.g).1⟩, true) else (⟨0, 0⟩, false)
theorem ymx {a b : Sl} (h : slI a) : slI (zcf a b).1 := by
 unfold zcf
 split
 ·exact ⟨z74 h.1, z74 h.2⟩
 ·unfold slI inI; simp
theorem yjp (a b : Sl) (ha : slI a) (hb : slI b) : RUN T zm5 [.agg (slc a), .agg (slc b)] = some ([.agg (slc (zcf a b).1), bv (zcf a b).2], []) := by
 refine zae z3s rfl ?_
 have e1 := z47 a.n b.n ha.1 hb.1
 have e2 := z47 a.g b.g ha.2 hb.2
 unfold zcf
 generalize adi a.n b.n = x at *
 generalize adi a.g b.g = y at *
 obtain ⟨x, xb⟩ := x
 obtain ⟨y, yb⟩ := y
 simp only at e1 e2 ⊢
 cases xb <;> cases yb <;> simp [zum, zun, e1, e2, slc]
def atI {α : Type} (l : List α) (i : Int) : Option α := if 0 ≤ i then l[i.toNat]? else none
theorem zqz {α : Type} {l : List α} {i : Int} {x : α} (h : atI l i = some x) : ∃ j : Nat, i = j ∧ l[j]? = some x ∧ j < l.length := by
 unfold atI at h
 split at h
 ·refine ⟨i.toNat, by omega, h, ?_⟩
  rcases Nat.lt_or_ge i.toNat l.length with h' | h'
  ·exact h'
  ·rw [List.getElem?_eq_none (by omega)] at h; cases h
 ·cases h
theorem zyl {α : Type} {l : List α} {i : Int} (h : atI l i = none) : i < 0 ∨ (l.length : Int) ≤ i := by
 unfold atI at h
 split at h
 ·right
  rcases Nat.lt_or_ge i.toNat l.length with h' | h'
  ·rw [List.getElem?_eq_getElem h'] at h; cases h
  ·omega
 ·omega
def z9d (b g : List Int) : List Int → List Sl → Option (List Sl)
 | [], h => some h
 | r :: rs, h => match atI b r, atI g r with
  | some x, some y => match atI h x with
   | some s => if (zcf s ⟨1, y⟩).2 = true then z9d b g rs (h.set x.toNat (zcf s ⟨1, y⟩).1) else none
   | none => none
  | _, _ => none
def z6k (b g rows : List Int) (k : Int) : List Sl × Bool := if zan k 1 8 = true then match z9d b g rows (List.replicate k.toNat ⟨0, 0⟩) with
  | some h => (h, true)
  | none => ([], false)
 else ([], false)
def zzz (q : Bool) (l : List Sl) : PV := if q then .own 2 (zq9 l) else .sl 2 (zq9 l)
@[simp] theorem y5f (q : Bool) (l : List Sl) : fz (zzz q l) = .sl 2 (zq9 l) := by cases q <;> simp [zzz]
def rss (q : Bool) (H : List (List Sl)) : List (List PV) := H.map fun l => [zzz q l]
@[simp] theorem ywt (q : Bool) (H : List (List Sl)) : (rss q H).length = H.length := by simp [rss]
def z8t (g rows : List Int) : List (List Int) → List (List Int) → Option (List (List Sl))
 | x :: c, y :: v => if (z6k y g rows (x.length + 1)).2 = true then (z8t g rows c v).map ((z6k y g rows (x.length + 1)).1 :: ·) else none
 | _, _ => some []
def z94 (c v : List (List Int)) (g rows : List Int) : List (List Sl) × Bool := if zc3 c v = true then match z8t g rows c v with
  | some h => (h, true)
  | none => ([], false)
 else ([], false)
theorem z8y {c v : List (List Int)} (h : zc3 c v = true) : v.length = c.length ∧ c.length ≤ 4 := by
 unfold zc3 at h
 simp only [Bool.and_eq_true, decide_eq_true_eq] at h
 have := zby.mp h.1.1.1
 omega
def z6f (k : Int) (n : Nat) : List Sl := (List.range n).map fun (i : Nat) => ⟨k + 2 * (i : Int), k + 2 * (i : Int) + 1⟩
@[simp] theorem y2o (k : Int) (n : Nat) : (z6f k n).length = n := by simp [z6f]
theorem yjq (c v : List (List Int)) (k : Int) (h0 : 0 ≤ k) (hk : k + zbd c + zbd v ≤ 9223372036854775806) (hc : c.length ≤ 9223372036854775807) (hv : v.length ≤ 9223372036854775807) : ∃ c' v' : List (List Int), c'.length = c.length ∧ v'.length = v.length ∧ RUN T zme [.agg [.own 1 (rws true c), .own 1 (rws true v)], iv k] = some ([iv (k + zbd c + zbd v)], [.own 1 (rws true c'), .own 1 (rws true v')]) := by
 have e1 := z48 c k h0 (by omega) hc
 have e2 := z48 v (k + zbd c) (by omega) (by omega) hv
 generalize hc' : (List.range c.length).map (zn7 k c) = c' at *
 generalize hv' : (List.range v.length).map (zn7 (k + zbd c) v) = v' at *
 have l1 : c'.length = c.length := by rw [← hc']; simp
 have l2 : v'.length = v.length := by rw [← hv']; simp
 refine ⟨c', v', l1, l2, zae z13 rfl ?_⟩
 simp [-getElem?_pos, zrx, zry, e1, e2, l1, l2]
theorem z5e (x : Int) : RUN T zkn [iv x] = some ([bv false], []) := by
 refine zae z4o rfl ?_
 simp [zvq, zvr]
theorem z5f (x y : Int) : RUN T zki [iv x, iv y] = some ([iv (zb4 x y)], []) := by
 refine zae z38 rfl ?_
 have e1 := z5e x
 have e2 := z5e y
 unfold zb4
 by_cases h1 : x < y
 ·simp [znt, znu, e1, e2, h1]
 ·by_cases h2 : y < x
  ·simp [znt, znu, e1, e2, h1, h2]
  ·simp [znt, znu, e1, e2, h1, h2]
theorem yjr (a b : Wd) (ha : wfU a) (hb : wfU b) : RUN T zna [.agg (wd a), .agg (wd b)] = some ([iv (zk9 a b)], []) := by
 refine zae z3y rfl ?_
 have n1 : (a.n && (decide (0 < a.h) || decide (0 < a.l))) = zdz a := by
  obtain ⟨h0, _, h1, _⟩ := ha
  unfold zdz
  congr 1
  rw [Bool.eq_iff_iff]; simp; omega
 have n2 : (b.n && (decide (0 < b.h) || decide (0 < b.l))) = zdz b := by
  obtain ⟨h0, _, h1, _⟩ := hb
  unfold zdz
  congr 1
  rw [Bool.eq_iff_iff]; simp; omega
 have e1 := zqa a.n a.h a.l
 have e2 := zqa b.n b.h b.l
 rw [n1] at e1
 rw [n2] at e2
 have e3 := zx8 ⟨zdz a, a.h, a.l⟩ ⟨zdz b, b.h, b.l⟩
 have e4 := zx8 ⟨zdz b, b.h, b.l⟩ ⟨zdz a, a.h, a.l⟩
 have o1 : zei ⟨zdz a, a.h, a.l⟩ ⟨zdz b, b.h, b.l⟩ = zei a b := rfl
 have o2 : zei ⟨zdz b, b.h, b.l⟩ ⟨zdz a, a.h, a.l⟩ = zei b a := rfl
 rw [o1] at e3
 rw [o2] at e4
 clear o1 o2 n1 n2 ha hb
 unfold zk9
 generalize zei a b = x at *
 generalize zei b a = y at *
 generalize zdz a = p at *
 generalize zdz b = q at *
 obtain ⟨an, ah, al⟩ := a
 obtain ⟨bn, bh, bl⟩ := b
 simp only [wd] at e1 e2 e3 e4 ⊢
 cases p <;> cases q <;> simp [zuu, zuv, e1, e2, e3, e4]
structure Fr where
 w : Wd
 d : Int
def frc (f : Fr) : List PV := [bv f.w.n, uv f.w.h, uv f.w.l, iv f.d]
def frB (f : Fr) : Bool := wok f.w && zan f.d 1 1000000
def zek : Fr := ⟨za5, 0⟩
def zbw (w : Wd) (d : Int) : Fr × Bool := if frB ⟨w, d⟩ = true then (⟨w, d⟩, true) else (zek, false)
theorem zya (f : Fr) : RUN T zit [.agg (frc f)] = some ([bv (frB f)], []) := by
 refine zae z4c rfl ?_
 have e1 := zn0 f.w
 have e2 := zd0 f.d 1 1000000
 unfold frB
 generalize wok f.w = x at *
 generalize zan f.d 1 1000000 = y at *
 simp only [wd] at e1
 cases x <;> simp [zve, zvf, -zdd, frc, e1, e2]
theorem zv4 (f : Fr) : RUN T zhm [.agg (frc f)] = some ([bv (frB f)], []) := by
 refine zae z4j rfl ?_
 have e1 := zn1 f.w
 have e2 := zdl f.d 1 1000000
 unfold frB
 generalize wok f.w = x at *
 generalize zan f.d 1 1000000 = y at *
 simp only [wd] at e1
 cases x <;> simp [zvm, zvn, -zc8, frc, e1, e2]
theorem z5g (w : Wd) (d : Int) : RUN T zkj [.agg (wd w), iv d] = some ([.agg (frc (zbw w d).1), bv (zbw w d).2], []) := by
 refine zae z4a rfl ?_
 have e1 := zya ⟨w, d⟩
 unfold zbw
 generalize frB ⟨w, d⟩ = x at *
 simp only [frc] at e1
 cases x <;> simp [zva, zvb, wd, frc, zek, za5, e1]
theorem yjs (a d : Int) (ha : inI a) : RUN T zm9 [iv a, iv d] = some ([.agg (frc (zbw (zbr a a) d).1), bv (zbw (zbr a a) d).2], []) := by
 refine zae z3w rfl ?_
 have e1 := yjk a a ha ha
 have e2 := z5g (zbr a a) d
 generalize zbr a a = m at *
 generalize zbw m d = f at *
 obtain ⟨⟨fw, fd⟩, fb⟩ := f
 simp only [wd, frc] at e1 e2 ⊢
 simp [zuq, zur, e1, e2]
theorem yjt (a d : Int) (ha : inI a) : RUN T znj [iv a, iv d] = some ([.agg (frc (zbw (zbr a a) d).1), bv (zbw (zbr a a) d).2], []) := by
 refine zae z4k rfl ?_
 have e1 := yjl a a ha ha
 have e2 := zv4 ⟨zbr a a, d⟩
 unfold zbw
 generalize zbr a a = m at *
 generalize frB ⟨m, d⟩ = x at *
 simp only [wd, frc] at e1 e2
 cases x <;> simp [zvo, zvp, frc, zek, za5, e1, e2]
def frI (f : Fr) : Prop := wfU f.w ∧ inI f.d
theorem zq0 : wfU za5 := ⟨by decide, by decide, by decide, by decide⟩
theorem ybs (w : Wd) (k : Int) (h : wfU w) : wfU (zcc w k).1 := by
 unfold zcc
 split
 ·rename_i hc
  refine zor ?_ (by omega)
  obtain ⟨h0, h1, h2, h3⟩ := h
  exact Int.mul_nonneg (by unfold mag; omega) (by omega)
 ·exact zq0
def zbe (a b : Fr) : Wd × Wd × Bool := if (frB a && frB b) = true then ((zcc a.w b.d).1, (zcc b.w a.d).1, (zcc a.w b.d).2 && (zcc b.w a.d).2) else (za5, za5, false)
theorem zzp (a b : Fr) (ha : wfU a.w) (hb : wfU b.w) : wfU (zbe a b).1 ∧ wfU (zbe a b).2.1 := by
 unfold zbe
 split
 ·exact ⟨ybs _ _ ha, ybs _ _ hb⟩
 ·exact ⟨zq0, zq0⟩
theorem z6s {a b : Fr} (h : (zbe a b).2.2 = true) : (1 ≤ a.d ∧ a.d ≤ 1000000) ∧ 1 ≤ b.d ∧ b.d ≤ 1000000 := by
 unfold zbe at h
 split at h
 ·rename_i hc
  simp only [frB, Bool.and_eq_true] at hc
  exact ⟨zby.mp hc.1.2, zby.mp hc.2.2⟩
 ·cases h
theorem z5h (a b : Fr) (ha : frI a) (hb : frI b) : RUN T zkd [.agg (frc a), .agg (frc b)] = some ([.agg (wd (zbe a b).1), .agg (wd (zbe a b).2.1), bv (zbe a b).2.2], []) := by
 refine zae z3x rfl ?_
 have e1 := zya a
 have e2 := zya b
 have e3 := z5c a.w b.d ha.1 hb.2
 have e4 := z5c b.w a.d hb.1 ha.2
 unfold zbe
 generalize zcc a.w b.d = x at *
 generalize zcc b.w a.d = y at *
 generalize frB a = p at *
 generalize frB b = q at *
 obtain ⟨⟨an, ah, al⟩, ad⟩ := a
 obtain ⟨⟨bn, bh, bl⟩, bd⟩ := b
 obtain ⟨x, xb⟩ := x
 obtain ⟨y, yb⟩ := y
 simp only [frc, wd] at e1 e2 e3 e4 ⊢
 cases p <;> cases q <;> cases xb <;> simp [zus, zut, e1, e2, e3, e4, za5]
theorem z5i (a b : Fr) (ha : frI a) (hb : frI b) : RUN T zkf [.agg (frc a), .agg (frc b)] = some ([.agg (wd (zbe a b).1), .agg (wd (zbe a b).2.1), bv (zbe a b).2.2], []) := by
 refine zae z34 rfl ?_
 have e1 := zv4 a
 have e2 := zv4 b
 have e3 := z5d a.w b.d ha.1 hb.2
 have e4 := z5d b.w a.d hb.1 ha.2
 unfold zbe
 generalize zcc a.w b.d = x at *
 generalize zcc b.w a.d = y at *
 generalize frB a = p at *
 generalize frB b = q at *
 obtain ⟨⟨an, ah, al⟩, ad⟩ := a
 obtain ⟨⟨bn, bh, bl⟩, bd⟩ := b
 obtain ⟨x, xb⟩ := x
 obtain ⟨y, yb⟩ := y
 simp only [frc, wd] at e1 e2 e3 e4 ⊢
 cases p <;> cases q <;> cases xb <;> simp [zu4, zu5, e1, e2, e3, e4, za5]
def zda (a b : Fr) : Int × Bool := if (zbe a b).2.2 = true then (zk9 (zbe a b).1 (zbe a b).2.1, true) else (0, false)
theorem z5j (a b : Fr) (ha : frI a) (hb : frI b) : RUN T zj5 [.agg (frc a), .agg (frc b)] = some ([iv (zda a b).1, bv (zda a b).2], []) := by
 refine zae z3b rfl ?_
 have e1 := z5h a b ha hb
 obtain ⟨w1, w2⟩ := zzp a b ha.1 hb.1
 have e2 := yjr (zbe a b).1 (zbe a b).2.1 w1 w2
 unfold zda
 generalize zbe a b = r at *
 obtain ⟨x, y, o⟩ := r
 simp only at e2 ⊢
 generalize zk9 x y = z at *
 simp only [frc, wd] at e1 e2 ⊢
 cases o <;> simp [ztq, ztr, e1, e2]
theorem zyb (a b : Fr) (ha : frI a) (hb : frI b) : RUN T zkc [.agg (frc a), .agg (frc b)] = some ([iv (zda a b).1, bv (zda a b).2], []) := by
 refine zae z3q rfl ?_
 have e1 := z5i a b ha hb
 have e2 := yjo (zbe a b).1 (zbe a b).2.1
 unfold zda
 generalize zbe a b = r at *
 obtain ⟨x, y, o⟩ := r
 simp only at e2 ⊢
 generalize zk9 x y = z at *
 simp only [frc, wd] at e1 e2 ⊢
 cases o <;> simp [zui, zuj, e1, e2]
def zex (a b : Fr) : Fr × Bool := if (zbe a b).2.2 = true then (if (zbx (zbe a b).1 (zbe a b).2.1).2 = true then zbw (zbx (zbe a b).1 (zbe a b).2.1).1 (a.d * b.d) else (zek, false)) else (zek, false)
theorem z76 {a b : Int} (h : (1 ≤ a ∧ a ≤ 1000000) ∧ 1 ≤ b ∧ b ≤ 1000000) : IntKind.i64.wrap (a * b) = a * b := by
 have h1 : a * b ≤ 1000000 * 1000000 := Int.mul_le_mul h.1.2 h.2.2 (by omega) (by decide)
 have h2 : 0 ≤ a * b := Int.mul_nonneg (by omega) (by omega)
 exact w64 (by omega) (by omega)
theorem yju (a b : Fr) (ha : frI a) (hb : frI b) : RUN T zm8 [.agg (frc a), .agg (frc b)] = some ([.agg (frc (zex a b).1), bv (zex a b).2], []) := by
 refine zae z3v rfl ?_
 have e1 := z5h a b ha hb
 obtain ⟨w1, w2⟩ := zzp a b ha.1 hb.1
 have e2 := yjm (zbe a b).1 (zbe a b).2.1 w1 w2
 have hok := @z6s a b
 have e3 := z5g (zbx (zbe a b).1 (zbe a b).2.1).1 (a.d * b.d)
 unfold zex
 generalize zbe a b = r at *
 obtain ⟨x, y, o⟩ := r
 simp only at e2 e3 hok ⊢
 generalize zbx x y = s at *
 obtain ⟨s, so⟩ := s
 simp only at e2 e3 ⊢
 cases o with
 | false =>
  simp only [frc, wd] at e1 ⊢
  simp [zp2, zp3, e1, zek, za5]
 | true =>
  have hm := z76 (hok rfl)
  generalize zbw s (a.d * b.d) = f at *
  obtain ⟨f, fo⟩ := f
  simp only [frc, wd] at e1 e2 e3 ⊢
  cases so <;> simp [zp2, zp3, e1, e2, e3, hm, zek, za5]
theorem yjv (a b : Fr) (ha : frI a) (hb : frI b) : RUN T znd [.agg (frc a), .agg (frc b)] = some ([.agg (frc (zex a b).1), bv (zex a b).2], []) := by
 refine zae z32 rfl ?_
 have e1 := z5i a b ha hb
 obtain ⟨w1, w2⟩ := zzp a b ha.1 hb.1
 have e2 := yjn (zbe a b).1 (zbe a b).2.1 w1 w2
 have hok := @z6s a b
 have e3 := zv4 ⟨(zbx (zbe a b).1 (zbe a b).2.1).1, a.d * b.d⟩
 unfold zex zbw
 generalize zbe a b = r at *
 obtain ⟨x, y, o⟩ := r
 simp only at e2 e3 hok ⊢
 generalize zbx x y = s at *
 obtain ⟨s, so⟩ := s
 simp only at e2 e3 ⊢
 cases o with
 | false =>
  simp only [frc, wd] at e1 ⊢
  simp [zp4, zp5, e1, zek, za5]
 | true =>
  have hm := z76 (hok rfl)
  generalize frB ⟨s, a.d * b.d⟩ = fo at *
  simp only [frc, wd] at e1 e2 e3 ⊢
  cases so <;> cases fo <;> simp [zp4, zp5, e1, e2, e3, hm, frc, zek, za5]
structure Cnd where
 f : Int
 b : Int
 a : Sl
 z : Sl
deriving DecidableEq
def cnd (c : Cnd) : List PV := [iv c.f, iv c.b, iv c.a.n, iv c.a.g, iv c.z.n, iv c.z.g]
def zh4 (c : Cnd) : Prop := inI c.f ∧ inI c.b ∧ slI c.a ∧ slI c.z
structure Bd where
 lo : Int
 hi : Int
def bnd (b : Bd) : List PV := [iv b.lo, iv b.hi]
def zcu (b : Bd) : Bool := decide (b.lo ≤ b.hi) && zev b.lo && zev b.hi
def za4 (x lo hi : Int) : Int := if x < lo then lo else if hi < x then hi else x
def zhf (n l : Int) : Bool := zan n 0 40 && zan l 1 100
def zee (s : Sl) (l : Int) (b : Bd) : Int × Bool := if (zhf s.n l && zcu b) = true then (za4 (fdv s.g (s.n + l)).1 b.lo b.hi, true) else (0, false)
def zdj (s : Sl) (l : Int) : Fr × Bool := if zhf s.n l = true then zbw (zbr s.g s.g) (s.n + l) else (zek, false)
def zbi (c : Cnd) (l : Int) : Fr × Bool := if ((zdj c.a l).2 && (zdj c.z l).2) = true then zex (zdj c.a l).1 (zdj c.z l).1 else (zek, false)
theorem z5k (n l : Int) : RUN T zj8 [iv n, iv l] = some ([bv (zhf n l)], []) := by
 refine zae z3i rfl ?_
 have e1 := zd0 n 0 40
 have e2 := zd0 l 1 100
 unfold zhf
 generalize zan n 0 40 = x at *
 cases x <;> simp [zt4, zt5, -zdd, e1, e2]
theorem z5l (b : Bd) : RUN T zj9 [.agg (bnd b)] = some ([bv (zcu b)], []) := by
 refine zae z3j rfl ?_
 have e1 := z42 b.lo
 have e2 := z42 b.hi
 unfold zcu
 generalize zev b.lo = x at *
 generalize zev b.hi = y at *
 by_cases h : b.lo ≤ b.hi <;> cases x <;> simp [zt6, zt7, bnd, e1, e2, h]
theorem yjw (b : Bd) : RUN T zmp [.agg (bnd b)] = some ([bv (zcu b)], []) := by
 refine zae z2r rfl ?_
 have e1 := z41 b.lo
 have e2 := z41 b.hi
 unfold zcu
 generalize zev b.lo = x at *
 generalize zev b.hi = y at *
 by_cases h : b.lo ≤ b.hi <;> cases x <;> simp [zst, zsu, bnd, e1, e2, h]
theorem z5m (x lo hi : Int) : RUN T zka [iv x, iv lo, iv hi] = some ([iv (za4 x lo hi)], []) := by
 refine zae z3l rfl ?_
 unfold za4
 by_cases h1 : x < lo
 ·simp [zpy, zpz, h1]
 ·by_cases h2 : hi < x <;> simp [zpy, zpz, h1, h2]
theorem z5n (x lo hi : Int) : RUN T zjv [iv x, iv lo, iv hi] = some ([iv (za4 x lo hi)], []) := by
 refine zae z2t rfl ?_
 unfold za4
 by_cases h1 : x < lo
 ·simp [zpl, zpm, h1]
 ·by_cases h2 : hi < x <;> simp [zpl, zpm, h1, h2]
theorem z8s {n l : Int} (h : zhf n l = true) : IntKind.i64.wrap (n + l) = n + l := by
 unfold zhf at h
 simp only [Bool.and_eq_true] at h
 have h1 := zby.mp h.1
 have h2 := zby.mp h.2
 exact w64 (by omega) (by omega)
theorem zv5 (s : Sl) (l : Int) (b : Bd) (hs : slI s) : RUN T zil [.agg (slc s), iv l, .agg (bnd b)] = some ([iv (zee s l b).1, bv (zee s l b).2], []) := by
 refine zae z2n rfl ?_
 have e1 := z5k s.n l
 have e2 := z5l b
 have e3 := yi4 s.g (s.n + l) hs.2
 have e4 := z5m (fdv s.g (s.n + l)).1 b.lo b.hi
 have hw := @z8s s.n l
 unfold zee
 generalize zhf s.n l = x at *
 generalize zcu b = y at *
 generalize fdv s.g (s.n + l) = q at *
 obtain ⟨q, qo⟩ := q
 simp only [bnd] at e2
 cases x with
 | false => simp [zpi, zpj, slc, bnd, e1]
 | true =>
  have hw := hw rfl
  cases y <;> simp [zpi, zpj, slc, bnd, e1, e2, e3, e4, hw]
theorem yjx (c : Cnd) (h : zh4 c) : RUN T zmv [.agg (cnd c)] = some ([.agg (slc (zcf c.a c.z).1), bv (zcf c.a c.z).2], []) := by
 refine zae z29 rfl ?_
 have e1 := yjp c.a c.z h.2.2.1 h.2.2.2
 generalize zcf c.a c.z = p at *
 obtain ⟨⟨pn, pg⟩, pb⟩ := p
 simp only [slc] at e1 ⊢
 simp [zto, ztp, cnd, e1]
theorem zyc (s : Sl) (l : Int) (hs : slI s) : RUN T zir [.agg (slc s), iv l] = some ([.agg (frc (zdj s l).1), bv (zdj s l).2], []) := by
 refine zae z3a rfl ?_
 have e1 := z5k s.n l
 have e2 := yjs s.g (s.n + l) hs.2
 have hw := @z8s s.n l
 unfold zdj
 generalize zhf s.n l = x at *
 generalize zbw (zbr s.g s.g) (s.n + l) = f at *
 obtain ⟨⟨fw, fd⟩, fb⟩ := f
 simp only [frc] at e2 ⊢
 cases x with
 | false => simp [zpu, zpv, slc, e1, zek, za5]
 | true =>
  have hw := hw rfl
  simp [zpu, zpv, slc, e1, e2, hw]
theorem z67 (w : Wd) (d : Int) (hw : wfU w) : frI (zbw w d).1 := by
 unfold zbw
 split
 ·rename_i h
  simp only [frB, Bool.and_eq_true] at h
  have := zby.mp h.2
  exact ⟨hw, by unfold inI; simp only; omega⟩
 ·exact ⟨zq0, by unfold inI zek; simp⟩
theorem zxi : frI zek := ⟨zq0, by unfold inI zek; simp⟩
theorem z0d (s : Sl) (l : Int) (hs : slI s) : frI (zdj s l).1 := by
 unfold zdj
 split
 ·exact z67 _ _ (yq2 hs.2 hs.2)
 ·exact zxi
theorem yn2 (a b : Fr) : frI (zex a b).1 := by
 unfold zex
 split
 ·split
  ·exact z67 _ _ (ypv _ _)
  ·exact zxi
 ·exact zxi
theorem zzl (c : Cnd) (l : Int) : frI (zbi c l).1 := by
 unfold zbi
 split
 ·exact yn2 _ _
 ·exact zxi
theorem zyd (c : Cnd) (l : Int) (h : zh4 c) : RUN T ziq [.agg (cnd c), iv l] = some ([.agg (frc (zbi c l).1), bv (zbi c l).2], []) := by
 refine zae z28 rfl ?_
 have e1 := zyc c.a l h.2.2.1
 have e2 := zyc c.z l h.2.2.2
 have e3 := yju (zdj c.a l).1 (zdj c.z l).1 (z0d _ _ h.2.2.1) (z0d _ _ h.2.2.2)
 unfold zbi
 generalize zdj c.a l = p at *
 generalize zdj c.z l = q at *
 obtain ⟨p, pb⟩ := p
 obtain ⟨q, qb⟩ := q
 simp only at e1 e2 e3 ⊢
 generalize zex p q = r at *
 obtain ⟨r, rb⟩ := r
 simp only [frc, slc] at e1 e2 e3 ⊢
 cases pb <;> cases qb <;> simp [ztm, ztn, cnd, e1, e2, e3, zek, za5]
abbrev cfS (c : Cfg) : PV := .agg [iv c.ro, iv c.de, iv c.bi, iv c.la, iv c.rw, iv c.nu, iv c.dn, .sl 1 (zaf c.sg)]
def zd7 (c : Cfg) (b : Bd) (x : Cnd) : Int × Int × Bool := if ((zee x.a c.la b).2 && (zee x.z c.la b).2) = true then ((zee x.a c.la b).1, (zee x.z c.la b).1, true) else (0, 0, false)
def zdh (c : Cfg) (f : Int) : Int := (atI c.sg f).getD 0
def zi7 (s l r : Int) : Bool := if s = 1 then decide (l ≤ r) else if s = -1 then decide (r ≤ l) else true
def zqp (x : Cnd) (l : Int) : Bool := (zbi x l).2 && ((zcf x.a x.z).2 && ((zdj (zcf x.a x.z).1 l).2 && ((zda (zbi x l).1 (zdj (zcf x.a x.z).1 l).1).2 && decide (0 < (zda (zbi x l).1 (zdj (zcf x.a x.z).1 l).1).1))))
def zg8 (a b : Cnd) : Bool := decide (a.f < b.f) || (decide (a.f = b.f) && decide (a.b < b.b))
def zje (a b : Cnd) (l : Int) : Bool := (zbi a l).2 && ((zbi b l).2 && ((zda (zbi a l).1 (zbi b l).1).2 && (decide (0 < (zda (zbi a l).1 (zbi b l).1).1) || (decide ((zda (zbi a l).1 (zbi b l).1).1 = 0) && zg8 a b))))
theorem z5o (c : Cfg) (b : Bd) (x : Cnd) (h : zh4 x) : RUN T zjq [cfS c, .agg (bnd b), .agg (cnd x)] = some ([iv (zd7 c b x).1, iv (zd7 c b x).2.1, bv (zd7 c b x).2.2], []) := by
 have e1 := zv5 x.a c.la b h.2.2.1
 have e2 := zv5 x.z c.la b h.2.2.2
 unfold zd7
 generalize zee x.a c.la b = p at *
 generalize zee x.z c.la b = q at *
 obtain ⟨p, pb⟩ := p
 obtain ⟨q, qb⟩ := q
 simp only [slc, bnd] at e1 e2 ⊢
 refine zae z19 rfl ?_
 cases pb <;> cases qb <;> simp [zr9, zsa, cnd, e1, e2]
theorem z5p (c : Cfg) (f : Int) (hl : c.sg.length ≤ 9223372036854775807) : RUN T zjs [cfS c, iv f] = some ([iv (zdh c f)], []) := by
 refine zae z2c rfl ?_
 have hw := w64 (x := (c.sg.length : Int) - 1) (by omega) (by omega)
 have e1 := zd0 f 0 ((c.sg.length : Int) - 1)
 unfold zdh
 cases hs : atI c.sg f with
 | none =>
  have hn := zyl hs
  have : zan f 0 ((c.sg.length : Int) - 1) = false := by
   cases hw : zan f 0 ((c.sg.length : Int) - 1) with
   | false => rfl
   | true => have := zby.mp hw; omega
  rw [this] at e1
  simp [zpa, zpb, -zdd, e1, hw]
 | some x =>
  obtain ⟨j, rfl, hj, hjl⟩ := zqz hs
  rw [show zan j 0 ((c.sg.length : Int) - 1) = true from zby.mpr (by omega)] at e1
  have hj' := zcs hj
  simp [-getElem?_pos, zpa, zpb, -zdd, e1, hw, hj', hjl]
theorem z5q (c : Cfg) (f : Int) (hl : c.sg.length ≤ 9223372036854775807) : RUN T zjw [cfS c, iv f] = some ([iv (zdh c f)], []) := by
 refine zae z2w rfl ?_
 have hw := w64 (x := (c.sg.length : Int) - 1) (by omega) (by omega)
 have e1 := zdl f 0 ((c.sg.length : Int) - 1)
 unfold zdh
 cases hs : atI c.sg f with
 | none =>
  have hn := zyl hs
  have : zan f 0 ((c.sg.length : Int) - 1) = false := by
   cases hw : zan f 0 ((c.sg.length : Int) - 1) with
   | false => rfl
   | true => have := zby.mp hw; omega
  rw [this] at e1
  simp [zpn, zpo, -zc8, e1, hw]
 | some x =>
  obtain ⟨j, rfl, hj, hjl⟩ := zqz hs
  rw [show zan j 0 ((c.sg.length : Int) - 1) = true from zby.mpr (by omega)] at e1
  have hj' := zcs hj
  simp [-getElem?_pos, zpn, zpo, -zc8, e1, hw, hj', hjl]
theorem yjy (s l r : Int) : RUN T zmh [iv s, iv l, iv r] = some ([bv (zi7 s l r)], []) := by
 refine zae z2b rfl ?_
 unfold zi7
 by_cases h1 : s = 1
 ·simp [zo8, zo9, h1]
 ·by_cases h2 : s = -1 <;> simp [zo8, zo9, h1, h2]
theorem yjz (s l r : Int) : RUN T zm7 [iv s, iv l, iv r] = some ([bv (zi7 s l r)], []) := by
 refine zae z3u rfl ?_
 unfold zi7
 by_cases h1 : s = 1
 ·by_cases h3 : l ≤ r <;> simp [zp0, zp1, h1, h3]
 ·by_cases h2 : s = -1 <;> simp [zp0, zp1, h1, h2]
theorem yj0 (x : Cnd) (l : Int) (h : zh4 x) : RUN T zmi [.agg (cnd x), iv l] = some ([bv (zqp x l)], []) := by
 refine zae z2d rfl ?_
 have hp := ymx (b := x.z) h.2.2.1
 have e1 := zyd x l h
 have e2 := yjx x h
 have e3 := zyc (zcf x.a x.z).1 l hp
 have e4 := z5j (zbi x l).1 (zdj (zcf x.a x.z).1 l).1 (zzl _ _) (z0d _ _ hp)
 unfold zqp
 generalize zbi x l = g at *
 generalize zcf x.a x.z = p at *
 obtain ⟨p, pb⟩ := p
 simp only at e2 e3 e4 ⊢
 generalize zdj p l = q at *
 obtain ⟨g, gb⟩ := g
 obtain ⟨q, qb⟩ := q
 simp only at e1 e3 e4 ⊢
 generalize zda g q = m at *
 obtain ⟨m, mb⟩ := m
 simp only [frc, slc, cnd] at e1 e2 e3 e4 ⊢
 cases gb <;> cases pb <;> cases qb <;> cases mb <;> simp [zsd, zse, e1, e2, e3, e4]
theorem yj1 (a b : Cnd) : RUN T zm6 [.agg (cnd a), .agg (cnd b)] = some ([bv (zg8 a b)], []) := by
 refine zae z3t rfl ?_
 have e1 := z5f a.f b.f
 have e2 := z5f a.b b.b
 have e3 := z5b (zb4 a.f b.f) (zb4 a.b b.b)
 have hr : zb7 8 2 = true := by decide
 have e4 : zg8 a b = decide ((if zb4 a.f b.f = 0 then zb4 a.b b.b else zb4 a.f b.f) < 0) := by
  unfold zg8 zb4
  rw [Bool.eq_iff_iff]
  simp only [Bool.or_eq_true, Bool.and_eq_true, decide_eq_true_eq]
  split <;> split <;> (try split) <;> (try split) <;> (try split) <;> (try split) <;> omega
 rw [e4]
 simp [zuo, zup, cnd, e1, e2, e3, hr]
theorem yj2 (a b : Cnd) (l : Int) (ha : zh4 a) (hb : zh4 b) : RUN T zmt [.agg (cnd a), .agg (cnd b), iv l] = some ([bv (zje a b l)], []) := by
 have e1 := zyd a l ha
 have e2 := zyd b l hb
 have e3 := z5j (zbi a l).1 (zbi b l).1 (zzl _ _) (zzl _ _)
 have e4 := yj1 a b
 unfold zje
 generalize zbi a l = g at *
 generalize zbi b l = q at *
 generalize zg8 a b = le at *
 obtain ⟨g, gb⟩ := g
 obtain ⟨q, qb⟩ := q
 simp only at e1 e2 e3 ⊢
 generalize zda g q = m at *
 obtain ⟨m, mb⟩ := m
 simp only [frc, cnd] at e1 e2 e3 e4 ⊢
 refine zae z25 rfl ?_
 cases gb <;> cases qb <;> cases mb <;> by_cases h1 : 0 < m <;> by_cases h2 : m = 0 <;> simp [ztg, zth, e1, e2, e3, e4, h1, h2]
def zgn (c : Cfg) (b : Bd) (x : Cnd) : Bool := zb8 c && ((zd7 c b x).2.2 && (decide (c.rw ≤ x.a.n) && (decide (c.rw ≤ x.z.n) && (zi7 (zdh c x.f) (zd7 c b x).1 (zd7 c b x).2.1 && zqp x c.la))))
theorem yj3 (c : Cfg) (b : Bd) (x : Cnd) (h : zh4 x) (hl : c.sg.length ≤ 9223372036854775807) : RUN T zl4 [cfS c, .agg (bnd b), .agg (cnd x)] = some ([bv (zgn c b x)], []) := by
 have e1 := z5o c b x h
 have e2 := z40 c hl
 have e3 := z5p c x.f hl
 have e5 := yj0 x c.la h
 unfold zgn
 generalize zd7 c b x = p at *
 obtain ⟨p1, p2, pb⟩ := p
 have e4 := yjy (zdh c x.f) p1 p2
 simp only at e1 ⊢
 generalize zdh c x.f = s at *
 generalize zi7 s p1 p2 = ab at *
 generalize zqp x c.la = ib at *
 generalize zb8 c = cb at *
 simp only [cnd, bnd] at e1 e5 ⊢
 refine zae z1p rfl ?_
 cases cb <;> cases pb <;> by_cases h1 : c.rw ≤ x.a.n <;> by_cases h2 : c.rw ≤ x.z.n <;> cases ab <;> simp [zrd, zre, e1, e2, e3, e4, e5, h1, h2]
def yaq (l : List Cnd) : List (List PV) := l.map cnd
@[simp] theorem y3c (l : List Cnd) : (yaq l).length = l.length := by simp [yaq]
def noB (c : Cfg) (b : Bd) (x y : Cnd) : Bool := !zgn c b y || !zje y x c.la
def ynl (c : Cfg) (b : Bd) (l : List Cnd) (x : Cnd) : Bool := zgn c b x && l.all (noB c b x)
def zod : Cnd := ⟨0, 0, ⟨0, 0⟩, ⟨0, 0⟩⟩
def yn5 (c : Cfg) (b : Bd) (l : List Cnd) : Cnd × Bool := match l.find? (ynl c b l) with
 | some x => (x, true)
 | none => (zod, false)
def z09 (a b : Sl) : Sl × Bool := if ((sbi a.n b.n).2 && (sbi a.g b.g).2) = true then (⟨(sbi a.n b.n).1, (sbi a.g b.g).1⟩, true) else (⟨0, 0⟩, false)
def z9x (s : Sl) : List Sl → Option (List Sl)
 | [] => some []
 | x :: xs => if (zcf s x).2 = true then (z9x (zcf s x).1 xs).map ((zcf s x).1 :: ·) else none
def zze (h : List Sl) : List Sl × Bool := match z9x ⟨0, 0⟩ h with
 | some l => (l, true)
 | none => ([], false)
def z9c (f : Int) (all : Sl) (least : Int) : Int → List Sl → List Cnd → Option (List Cnd)
 | b, x :: y :: xs, acc => if (z09 all x).2 = true then z9c f all least (b + 1) (y :: xs) (if least ≤ x.n ∧ least ≤ (z09 all x).1.n then acc ++ [⟨f, b, x, (z09 all x).1⟩] else acc) else none
 | _, _, acc => some acc
def yoz (l : List Sl) : Sl := l.getLast?.getD ⟨0, 0⟩
def ybc (least : Int) : Int → List (List Sl) → List Cnd → Option (List Cnd)
 | _, [], acc => some acc
 | f, h :: hs, acc => if (zze h).2 = true then match z9c f (yoz (zze h).1) least 0 (zze h).1 acc with
  | some a => ybc least (f + 1) hs a
  | none => none
  else none
def yo5 (H : List (List Sl)) (least : Int) : List Cnd := (ybc least 0 H []).getD []
theorem yku {a : Wd} (h : wfU a) : 0 ≤ mag a := by
 obtain ⟨h0, h1, h2, h3⟩ := h
 unfold mag; omega
theorem ynv {a b : Cnd} : zg8 a b = true ↔ a.f < b.f ∨ (a.f = b.f ∧ a.b < b.b) := by
 unfold zg8; simp
theorem yl0 : ∀ x y : Nat, 2 * (x &&& y) + (x ^^^ y) = x + y := by
 intro x
 induction x using Nat.strongRecOn with
 | _ x ih =>
  intro y
  by_cases hx : x = 0
  ·subst hx; simp
  ·have h1 := ih (x / 2) (by omega) (y / 2)
   have h2 : (x &&& y) / 2 = x / 2 &&& y / 2 := by rw [Nat.and_div_two]
   have h3 : (x ^^^ y) / 2 = x / 2 ^^^ y / 2 := by rw [Nat.xor_div_two]
   have h4 : (x &&& y) % 2 = 1 ↔ x % 2 = 1 ∧ y % 2 = 1 := Nat.and_mod_two_eq_one
   have h5 : (x ^^^ y) % 2 = 1 ↔ ¬ (x % 2 = 1 ↔ y % 2 = 1) := Nat.xor_mod_two_eq_one
   omega
def zb9 (a : Int) : Nat := (a % 18446744073709551616).toNat
theorem zv8 {a : Int} (h : inI a) : (zb9 a : Int) = if a < 0 then a + 18446744073709551616 else a := by
 unfold inI at h
 unfold zb9
 split <;> omega
theorem zwc (a : Int) : zb9 a < 18446744073709551616 := by
 unfold zb9; omega
theorem zym {n : Nat} (h : n < 18446744073709551616) : IntKind.i64.wrap n = if n < 9223372036854775808 then (n : Int) else n - 18446744073709551616 := by
 split
 ·exact w64 (by omega) (by omega)
 ·simp [IntKind.wrap, IntKind.signed, IntKind.bits]
  omega
theorem yp0 (x y : Nat) (hx : x < 18446744073709551616) (hy : y < 18446744073709551616) : (9223372036854775808 ≤ (x &&& y) ↔ 9223372036854775808 ≤ x ∧ 9223372036854775808 ≤ y) ∧ (9223372036854775808 ≤ (x ^^^ y) ↔ ¬ (9223372036854775808 ≤ x ↔ 9223372036854775808 ≤ y)) := by
 have h1 : (x &&& y) >>> 63 = x >>> 63 &&& y >>> 63 := Nat.shiftRight_and_distrib
 have h2 : (x ^^^ y) >>> 63 = x >>> 63 ^^^ y >>> 63 := Nat.shiftRight_xor_distrib
 rw [Nat.shiftRight_eq_div_pow, Nat.shiftRight_eq_div_pow, Nat.shiftRight_eq_div_pow] at h1 h2
 have hx' : x / 2 ^ 63 = 0 ∨ x / 2 ^ 63 = 1 := by omega
 have hy' : y / 2 ^ 63 = 0 ∨ y / 2 ^ 63 = 1 := by omega
 rcases hx' with e1 | e1 <;> rcases hy' with e2 | e2 <;> rw [e1, e2] at h1 h2 <;> simp at h1 h2 <;> omega
theorem z60 {x y : Nat} (hx : x < 18446744073709551616) : (x &&& y) < 18446744073709551616 := Nat.lt_of_le_of_lt Nat.and_le_left hx
theorem ym0 {x y : Nat} (hx : x < 18446744073709551616) (hy : y < 18446744073709551616) : (x ^^^ y) < 18446744073709551616 := Nat.xor_lt_two_pow (n := 64) hx hy
theorem yqw {a b : Int} (ha : inI a) (hb : inI b) : 2 * IntKind.i64.wrap ((zb9 a &&& zb9 b : Nat) : Int) + IntKind.i64.wrap ((zb9 a ^^^ zb9 b : Nat) : Int) = a + b := by
 have la := zwc a
 have lb := zwc b
 have ea := zv8 ha
 have eb := zv8 hb
 obtain ⟨t1, t2⟩ := yp0 _ _ la lb
 have hs := yl0 (zb9 a) (zb9 b)
 rw [zym (z60 la), zym (ym0 la lb)]
 unfold inI at ha hb
 generalize zb9 a &&& zb9 b = p at *
 generalize zb9 a ^^^ zb9 b = q at *
 split at ea <;> split at eb <;> split <;> split <;> omega
theorem z7t {a b : Int} (ha : inI a) (hb : inI b) : inI (IntKind.i64.wrap ((zb9 a &&& zb9 b : Nat) : Int)) ∧ (IntKind.i64.wrap ((zb9 a &&& zb9 b : Nat) : Int) % 2 = 1 ↔ a % 2 = 1 ∧ b % 2 = 1) := by
 have la := zwc a
 have lb := zwc b
 have ea := zv8 ha
 have eb := zv8 hb
 have h4 : (zb9 a &&& zb9 b) % 2 = 1 ↔ zb9 a % 2 = 1 ∧ zb9 b % 2 = 1 := Nat.and_mod_two_eq_one
 have hl := z60 (y := zb9 b) la
 rw [zym hl]
 unfold inI at *
 generalize zb9 a &&& zb9 b = p at *
 split at ea <;> split at eb <;> split <;> omega
def zeu (a b : Int) : Int := (a + b) / 2
theorem yj4 (a b : Int) (ha : inI a) (hb : inI b) : RUN T zm3 [iv a, iv b] = some ([iv (zeu a b)], []) := by
 refine zae z3o rfl ?_
 have h := yqw ha hb
 obtain ⟨h1, _⟩ := z7t ha hb
 unfold zb9 at h h1
 unfold inI at ha hb h1
 have hb64 : IntKind.i64.bits = 64 := rfl
 simp [zue, zuf, hb64]
 rw [Int.fdiv_eq_ediv_of_nonneg _ (by omega)]
 unfold zeu
 generalize IntKind.i64.wrap (((a % 18446744073709551616).toNat &&& (b % 18446744073709551616).toNat : Nat) : Int) = p at *
 generalize IntKind.i64.wrap (((a % 18446744073709551616).toNat ^^^ (b % 18446744073709551616).toNat : Nat) : Int) = q at *
 rw [w64 (by omega) (by omega)]
 omega
theorem yj5 (a b : Int) (ha : inI a) (hb : inI b) : RUN T zm2 [iv a, iv b] = some ([iv (zeu a b)], []) := by
 refine zae z3m rfl ?_
 obtain ⟨h1, h2⟩ := z7t ha hb
 unfold zb9 at h1 h2
 unfold inI at ha hb h1
 have hb64 : IntKind.i64.bits = 64 := rfl
 simp [zua, zub, hb64]
 rw [Int.fdiv_eq_ediv_of_nonneg _ (by omega), Int.fdiv_eq_ediv_of_nonneg _ (by omega)]
 unfold zeu
 generalize IntKind.i64.wrap (((a % 18446744073709551616).toNat &&& (b % 18446744073709551616).toNat : Nat) : Int) = p at *
 have h3 : max (p % 18446744073709551616) 0 % 2 = p % 2 := by omega
 rw [h3, w64 (x := p % 2) (by omega) (by omega), w64 (x := a / 2 + b / 2) (by omega) (by omega), w64 (by omega) (by omega)]
 omega
def zd1 (s : Int) (b : Bd) (l r : Int) : Bd × Bd := if zcu b = true then (if s = 1 then (⟨b.lo, za4 (zeu l r) b.lo b.hi⟩, ⟨za4 (zeu l r) b.lo b.hi, b.hi⟩) else if s = -1 then (⟨za4 (zeu l r) b.lo b.hi, b.hi⟩, ⟨b.lo, za4 (zeu l r) b.lo b.hi⟩) else (b, b)) else (b, b)
theorem yj6 (s : Int) (b : Bd) (l r : Int) (hl : inI l) (hr : inI r) : RUN T zmr [iv s, .agg (bnd b), iv l, iv r] = some ([.agg (bnd (zd1 s b l r).1), .agg (bnd (zd1 s b l r).2)], []) := by
 have e1 := yjw b
 have e2 := yj4 l r hl hr
 have e3 := z5n (zeu l r) b.lo b.hi
 refine zae z2v rfl ?_
 unfold zd1
 generalize zcu b = q at *
 generalize za4 (zeu l r) b.lo b.hi = m at *
 obtain ⟨lo, hi⟩ := b
 simp only [bnd] at *
 cases q with
 | false => simp [znp, znq, e1]
 | true =>
  by_cases h1 : s = 1
  ·simp [znp, znq, e1, e2, e3, h1]
  ·by_cases h2 : s = -1 <;> simp [znp, znq, e1, e2, e3, h1, h2]
theorem yj7 (s : Int) (b : Bd) (l r : Int) (hl : inI l) (hr : inI r) : RUN T zmo [iv s, .agg (bnd b), iv l, iv r] = some ([.agg (bnd (zd1 s b l r).1), .agg (bnd (zd1 s b l r).2)], []) := by
 have e1 := z5l b
 have e2 := yj5 l r hl hr
 have e3 := z5m (zeu l r) b.lo b.hi
 refine zae z2p rfl ?_
 unfold zd1
 generalize zcu b = q at *
 generalize za4 (zeu l r) b.lo b.hi = m at *
 obtain ⟨lo, hi⟩ := b
 simp only [bnd] at *
 cases q with
 | false => simp [znn, zno, e1, e2, e3]
 | true =>
  by_cases h1 : s = 1
  ·simp [znn, zno, e1, e2, e3, h1]
  ·by_cases h2 : s = -1 <;> simp [znn, zno, e1, e2, e3, h1, h2]
def zv7 (c v : List (List Int)) (g : List Int) (cfg : Cfg) (rows : List Int) (b : Bd) : Cnd × Bool := if zgs c v g cfg = true then (if (z94 c v g rows).2 = true then yn5 cfg b (yo5 (z94 c v g rows).1 cfg.rw) else (zod, false)) else (zod, false)
def zah (g : List Int) (rows : List Int) : Sl := ⟨rows.length, (rows.map fun r => (atI g r).getD 0).sum⟩
def zjk (bins : List Int) (b r : Int) : Bool := match atI bins r with
 | some x => decide (x ≤ b)
 | none => false
def zi6 (bins : List Int) (b r : Int) : Bool := match atI bins r with
 | some x => !decide (x ≤ b)
 | none => false
def zau (bins rows : List Int) (b : Int) : List Int := rows.filter (zjk bins b)
def zav (bins rows : List Int) (b : Int) : List Int := rows.filter (zi6 bins b)
structure Pnd where
 r : List Int
 b : Bd
 l : Int
def ze9 (c v : List (List Int)) (cfg : Cfg) (x : Pnd) (k : Cnd) : Pnd := ⟨zau ((atI v k.f).getD []) x.r k.b, (zd1 (zdh cfg k.f) x.b (zd7 cfg x.b k).1 (zd7 cfg x.b k).2.1).1, x.l + 1⟩
def zfa (c v : List (List Int)) (cfg : Cfg) (x : Pnd) (k : Cnd) : Pnd := ⟨zav ((atI v k.f).getD []) x.r k.b, (zd1 (zdh cfg k.f) x.b (zd7 cfg x.b k).1 (zd7 cfg x.b k).2.1).2, x.l + 1⟩
def zyj (g : List Int) (cfg : Cfg) (x : Pnd) : Nd := ⟨-1, 0, 0, 0, (zee (zah g x.r) cfg.la x.b).1⟩
def yoe (c : List (List Int)) (k : Cnd) (n : Nat) : Nd := ⟨k.f, (atI ((atI c k.f).getD []) k.b).getD 0, n, n + 1, 0⟩
def goes (c v : List (List Int)) (g : List Int) (cfg : Cfg) (x : Pnd) : Bool := decide (x.l < cfg.de) && (zv7 c v g cfg x.r x.b).2
def zlo (c v : List (List Int)) (g : List Int) (cfg : Cfg) : Nat → List Pnd → Nat → List Nd → List Nd
 | 0, _, _, out => out
 | n + 1, q, i, out => match q[i]? with
  | none => out
  | some x => if goes c v g cfg x = true then zlo c v g cfg n (q ++ [ze9 c v cfg x (zv7 c v g cfg x.r x.b).1, zfa c v cfg x (zv7 c v g cfg x.r x.b).1]) (i + 1) (out ++ [yoe c (zv7 c v g cfg x.r x.b).1 q.length]) else zlo c v g cfg n q (i + 1) (out ++ [zyj g cfg x])
def zq8 : Bd := ⟨-1099511627776, 1099511627776⟩
def zc5 (g : List Int) : Pnd := ⟨(List.range g.length).map fun (i : Nat) => (i : Int), zq8, 0⟩
def pot (d : Int) (x : Pnd) : Nat := 2 ^ (d + 1 - x.l).toNat - 1
def zwe (d : Int) (l : List Pnd) : Nat := (l.map (pot d)).sum
theorem ymy (d : Int) (x : Pnd) (l : List Pnd) : zwe d (x :: l) = pot d x + zwe d l := by simp [zwe]
theorem ynb {d : Int} {x : Pnd} (h : x.l ≤ d) : 1 ≤ pot d x := by
 unfold pot
 obtain ⟨k, hk⟩ : ∃ k, (d + 1 - x.l).toNat = k + 1 := ⟨(d - x.l).toNat, by omega⟩
 rw [hk, Nat.pow_succ]
 have := Nat.one_le_two_pow (n := k)
 omega
def zjl (n : Nat) (d : Int) (x : Pnd) : Prop := (∀ r ∈ x.r, 0 ≤ r ∧ r < n) ∧ x.r.length ≤ n ∧ 0 ≤ x.l ∧ x.l ≤ d
theorem zol {bins rows : List Int} {b r : Int} : (r ∈ zau bins rows b → r ∈ rows) ∧ (r ∈ zav bins rows b → r ∈ rows) := ⟨fun h => (List.mem_filter.mp h).1, fun h => (List.mem_filter.mp h).1⟩
theorem zws {n : Nat} {c v : List (List Int)} {cfg : Cfg} {x : Pnd} {k : Cnd} (h : zjl n cfg.de x) (hl : x.l < cfg.de) : zjl n cfg.de (ze9 c v cfg x k) ∧ zjl n cfg.de (zfa c v cfg x k) := by
 obtain ⟨h1, h2, h3, h4⟩ := h
 refine ⟨⟨fun r hr => h1 r (zol.1 hr), Nat.le_trans (List.length_filter_le _ _) h2, ?_, ?_⟩, ⟨fun r hr => h1 r (zol.2 hr), Nat.le_trans (List.length_filter_le _ _) h2, ?_, ?_⟩⟩
 ·show 0 ≤ x.l + 1; omega
 ·show x.l + 1 ≤ cfg.de; omega
 ·show 0 ≤ x.l + 1; omega
 ·show x.l + 1 ≤ cfg.de; omega
theorem zjd {c v : List (List Int)} {g : List Int} {cfg : Cfg} (h : zgs c v g cfg = true) : zc3 c v = true ∧ zb8 cfg = true ∧ g.length = zcd v ∧ (∀ x ∈ g, -2199023255552 ≤ x ∧ x ≤ 2199023255552) := by
 unfold zgs at h
 simp only [Bool.and_eq_true, decide_eq_true_eq] at h
 exact ⟨h.1.1.1, h.1.1.2, by omega, fun x hx => zby.mp (List.all_eq_true.mp h.2 x hx)⟩
theorem z7q {c v : List (List Int)} (h : zc3 c v = true) : 1 ≤ zcd v ∧ zcd v ≤ 40 := by
 unfold zc3 at h
 simp only [Bool.and_eq_true] at h
 have := zby.mp h.1.2
 omega
theorem yj8 : RUN T zl8 [] = some ([.agg (bnd zq8)], []) := by
 refine zae z1t rfl ?_
 simp [zrh, zri, bnd, zq8]
theorem yj9 : RUN T zmn [] = some ([.agg (bnd zq8)], []) := by
 refine zae z2m rfl ?_
 simp [zsn, zso, bnd, zq8]
def upl (n : Nat) : List Int := (List.range n).map fun (i : Nat) => (i : Int)
theorem z8w (n : Nat) : upl n ++ [(n : Int)] = upl (n + 1) := by simp [upl, List.range_succ]
@[simp] theorem yxz (n : Nat) : (upl n).length = n := by simp [upl]
@[simp] theorem y2y : upl 0 = [] := rfl
theorem yka (n : Nat) (h1 : 1 ≤ n) (h2 : n ≤ 40) : RUN T zmm [iv n] = some ([.own 1 (zaf (upl n))], []) := by
 have e := zd0 n 1 40
 rw [zby.mpr (by omega)] at e
 have hr0 : zb7 8 0 = true := by decide
 have hr1 : zb7 8 1 = true := by decide
 refine zae z2l rfl ?_
 simp [-getElem?_pos, zsl, zsm, -zdd, e, hr0]
 refine zbs (fun k st => ∃ (i o e : Nat), i + k = n ∧ st.V 3 = .ref o none e 0 i ∧ st.V 10 = iv n ∧ st.V 11 = iv i ∧ o < st.nx ∧ st.S o = some (.row 1 (zaf (upl i)))) ?_ n _ ⟨0, 0, 0, by omega, by simp⟩
 rintro k st ⟨i, o, ep, hi, v3, v10, v11, hox, hSo⟩
 obtain ⟨x1, x2, x3, x4⟩ := fr hox
 by_cases hlt : i < n
 ·have hws := wS hlt (by omega : n ≤ 9223372036854775807)
  have hr8 := zlj (n := i + 1) (by omega)
  have hsn : zaf (upl i) ++ [[iv (i : Int)]] = zaf (upl (i + 1)) := by rw [zov, z8w]
  simp [-getElem?_pos, zxl, v3, v10, v11, hSo, hlt, hws, hr1, hr8, hsn, x1, x2, x3, x4]
  exact za8 (k - 1) (by omega) ⟨i + 1, st.nx + 1, st.ep, by omega, by simp, by simp [v10], by simp, by simp, by simp⟩
 ·have hin : i = n := by omega
  subst hin
  simp [-getElem?_pos, zxl, v3, v10, v11, hSo, hlt]
theorem ykb (n : Nat) (h2 : n ≤ 40) : RUN T zl7 [iv n] = some ([.own 1 (zaf (upl n))], []) := by
 have hr0 : zb7 8 0 = true := by decide
 have hr1 : zb7 8 1 = true := by decide
 refine zae z1s rfl ?_
 simp [-getElem?_pos, zrf, zrg, hr0]
 refine zbs (fun k st => ∃ (i o e : Nat), i + k = n ∧ st.V 0 = iv n ∧ st.V 3 = .ref o none e 0 i ∧ st.V 4 = iv i ∧ o < st.nx ∧ st.S o = some (.row 1 (zaf (upl i)))) ?_ n _ ⟨0, 0, 0, by omega, by simp⟩
 rintro k st ⟨i, o, ep, hi, v0, v3, v4, hox, hSo⟩
 obtain ⟨x1, x2, x3, x4⟩ := fr hox
 have h3 : (n : Int) ≤ 40 := by omega
 by_cases hlt : i < n
 ·have hws := wS hlt (by omega : n ≤ 9223372036854775807)
  have hr8 := zlj (n := i + 1) (by omega)
  have hsn : zaf (upl i) ++ [[iv (i : Int)]] = zaf (upl (i + 1)) := by rw [zov, z8w]
  simp [-getElem?_pos, zxk, v0, v3, v4, hSo, hlt, h3, hws, hr1, hr8, hsn, x1, x2, x3, x4]
  exact za8 (k - 1) (by omega) ⟨i + 1, st.nx + 1, st.ep, by omega, by simp [v0], by simp, by simp, by simp, by simp⟩
 ·have hin : i = n := by omega
  subst hin
  simp [-getElem?_pos, zxk, v0, v3, v4, hSo, hlt]
def zd3 (g rows : List Int) (i : Nat) : Int := ((rows.take i).map fun r => (atI g r).getD 0).sum
theorem z72 {g rows : List Int} {i : Nat} {r x : Int} (hr : rows[i]? = some r) (hx : atI g r = some x) : zd3 g rows (i + 1) = zd3 g rows i + x := by
 unfold zd3
 rw [List.take_succ, hr]
 simp [hx]
theorem zz5 {g rows : List Int} (hg : ∀ x ∈ g, -2199023255552 ≤ x ∧ x ≤ 2199023255552) : ∀ i : Nat, i ≤ rows.length → -2199023255552 * (i : Int) ≤ zd3 g rows i ∧ zd3 g rows i ≤ 2199023255552 * (i : Int)
 | 0, _ => by simp [zd3]
 | i + 1, h => by
  have ih := zz5 (rows := rows) hg i (by omega)
  obtain ⟨r, hr⟩ : ∃ r, rows[i]? = some r := ⟨_, List.getElem?_eq_getElem (by omega)⟩
  have e : zd3 g rows (i + 1) = zd3 g rows i + (atI g r).getD 0 := by
   unfold zd3
   rw [List.take_succ, hr]
   simp
  rw [e]
  cases hx : atI g r with
  | none => simp only [Option.getD_none]; omega
  | some x =>
   obtain ⟨_, _, h3, _⟩ := zqz hx
   have := hg x (List.mem_of_getElem? h3)
   simp only [Option.getD_some]; omega
theorem ya9 (g rows : List Int) : zah g rows = ⟨rows.length, zd3 g rows rows.length⟩ := by simp [zah, zd3]
theorem zv6 (g rows : List Int) (hg : ∀ x ∈ g, -2199023255552 ≤ x ∧ x ≤ 2199023255552) (hr : ∀ r ∈ rows, 0 ≤ r ∧ r < g.length) (hl : rows.length ≤ 1048576) : RUN T zim [.sl 1 (zaf g), .sl 1 (zaf rows)] = some ([.agg (slc (zah g rows))], []) := by
 rw [ya9]
 refine zae z2o rfl ?_
 simp [-getElem?_pos, zsp, zsq]
 refine zbs (fun k st => ∃ i : Nat, i + k = rows.length ∧ st.V 0 = .sl 1 (zaf g) ∧ st.V 4 = .ptr 0 none 0 0 0 ∧ st.V 5 = .ptr 1 none 0 0 0 ∧ st.V 11 = .sl 1 (zaf rows) ∧ st.V 12 = iv rows.length ∧ st.V 13 = iv i ∧ 1 < st.nx ∧ st.S 1 = some (.box [iv rows.length, iv (zd3 g rows i)]) ∧ st.S 0 = some (.box [iv 0, iv 0])) ?_ rows.length _ ⟨0, by omega, by simp, by simp, by simp, by simp, by simp, by simp, by simp, by simp [zd3], by simp⟩
 rintro k st ⟨i, hi, v0, v4, v5, v11, v12, v13, h1x, hS1, hS0⟩
 obtain ⟨z1, z2, z3, z4⟩ := fr h1x
 by_cases hlt : i < rows.length
 ·obtain ⟨r, hrr⟩ : ∃ r, rows[i]? = some r := ⟨_, List.getElem?_eq_getElem hlt⟩
  obtain ⟨r0, r1⟩ := hr r (List.mem_of_getElem? hrr)
  obtain ⟨rn, rfl⟩ : ∃ n : Nat, r = n := ⟨r.toNat, by omega⟩
  obtain ⟨x, hx⟩ : ∃ x, g[rn]? = some x := ⟨_, List.getElem?_eq_getElem (by omega)⟩
  have hrn : rn < g.length := by omega
  have hr' := zcs hrr
  have hx' := zcs hx
  have hws := wS hlt (by omega : rows.length ≤ 9223372036854775807)
  have hs := z72 (g := g) hrr (x := x) (by unfold atI; rw [if_pos r0]; simpa using hx)
  have b1 := zz5 (rows := rows) hg (i + 1) (by omega)
  rw [hs] at b1
  have hw := w64 (x := zd3 g rows i + x) (by omega) (by omega)
  simp [-getElem?_pos, zxm, v0, v4, v5, v11, v12, v13, hS1, hS0, hlt, hr', hx', hrn, hw, hws, z1, z2, z3, z4]
  exact za8 (k - 1) (by omega) ⟨i + 1, by omega, by simp [v0], by simp [v4], by simp [v5], by simp [v11], by simp [v12], by simp, by simp [h1x], by simp [hs], by simp [hS0]⟩
 ·have hin : i = rows.length := by omega
  subst hin
  simp [-getElem?_pos, zxm, v4, v5, v12, v13, hS1, hS0, slc]
theorem zk5 (g rows : List Int) (hg : ∀ x ∈ g, -2199023255552 ≤ x ∧ x ≤ 2199023255552) (hr : ∀ r ∈ rows, 0 ≤ r ∧ r < g.length) (hl : rows.length ≤ 1048576) : RUN T zf5 [.sl 1 (zaf g), .sl 1 (zaf rows)] = some ([.agg (slc (zah g rows))], []) := by
 rw [ya9]
 refine zae z2u rfl ?_
 simp [-getElem?_pos, zsx, zsy]
 refine zbs (fun k st => ∃ i : Nat, i + k = rows.length ∧ st.V 0 = .sl 1 (zaf g) ∧ st.V 1 = .sl 1 (zaf rows) ∧ st.V 4 = .ptr 0 none 0 0 0 ∧ st.V 5 = .ptr 1 none 0 0 0 ∧ st.V 6 = iv i ∧ 1 < st.nx ∧ st.S 1 = some (.box [iv i, iv (zd3 g rows i)]) ∧ st.S 0 = some (.box [iv 0, iv 0])) ?_ rows.length _ ⟨0, by omega, by simp, by simp, by simp, by simp, by simp, by simp, by simp [zd3], by simp⟩
 rintro k st ⟨i, hi, v0, v1, v4, v5, v6, h1x, hS1, hS0⟩
 obtain ⟨z1, z2, z3, z4⟩ := fr h1x
 by_cases hlt : i < rows.length
 ·obtain ⟨r, hrr⟩ : ∃ r, rows[i]? = some r := ⟨_, List.getElem?_eq_getElem hlt⟩
  obtain ⟨r0, r1⟩ := hr r (List.mem_of_getElem? hrr)
  obtain ⟨rn, rfl⟩ : ∃ n : Nat, r = n := ⟨r.toNat, by omega⟩
  obtain ⟨x, hx⟩ : ∃ x, g[rn]? = some x := ⟨_, List.getElem?_eq_getElem (by omega)⟩
  have hrn : rn < g.length := by omega
  have hr' := zcs hrr
  have hx' := zcs hx
  have hws := wS hlt (by omega : rows.length ≤ 9223372036854775807)
  have hs := z72 (g := g) hrr (x := x) (by unfold atI; rw [if_pos r0]; simpa using hx)
  have b1 := zz5 (rows := rows) hg (i + 1) (by omega)
  rw [hs] at b1
  have hw := w64 (x := zd3 g rows i + x) (by omega) (by omega)
  simp [-getElem?_pos, zxn, v0, v1, v4, v5, v6, hS1, hS0, hlt, hr', hx', hrn, hw, hws, z1, z2, z3, z4]
  exact za8 (k - 1) (by omega) ⟨i + 1, by omega, by simp [v0], by simp [v1], by simp [v4], by simp [v5], by simp, by simp [h1x], by simp [hs], by simp [hS0]⟩
 ·have hin : i = rows.length := by omega
  subst hin
  simp [-getElem?_pos, zxn, v1, v4, v5, v6, hS1, hS0, slc]
set_option maxHeartbeats 1000000 in
theorem z5r (bins rows : List Int) (b : Int) (hb : bins.length ≤ 1048576) (hl : rows.length ≤ 1048576) : RUN T zju [.sl 1 (zaf bins), .sl 1 (zaf rows), iv b] = some ([.own 1 (zaf (zau bins rows b)), .own 1 (zaf (zav bins rows b))], []) := by
 have hr0 : zb7 8 0 = true := by decide
 have hr1 : zb7 8 1 = true := by decide
 have w1 := w64 (x := (bins.length : Int) - 1) (by omega) (by omega)
 refine zae z2q rfl ?_
 simp [-getElem?_pos, zsr, zss, hr0]
 refine zbs (fun k st => ∃ (i o e p e2 : Nat) (m l : List Int), i + k = rows.length ∧ m.length ≤ i ∧ l.length ≤ i ∧ m ++ (rows.drop i).filter (zjk bins b) = zau bins rows b ∧ l ++ (rows.drop i).filter (zi6 bins b) = zav bins rows b ∧ st.V 0 = .sl 1 (zaf bins) ∧ st.V 2 = iv b ∧ st.V 8 = .ref o none e 0 m.length ∧ st.V 9 = .ref p none e2 0 l.length ∧ st.V 14 = .sl 1 (zaf rows) ∧ st.V 15 = iv rows.length ∧ st.V 16 = iv i ∧ ¬ o = p ∧ o < st.nx ∧ p < st.nx ∧ st.S o = some (.row 1 (zaf m)) ∧ st.S p = some (.row 1 (zaf l))) ?_ rows.length _ ⟨0, 0, 0, 1, 0, [], [], by omega, by simp, by simp, by simp [zau], by simp [zav], by simp⟩
 rintro k st ⟨i, o, e, p, e2, m, l, hi, hml, hll, hm, hl2, v0, v2, v8, v9, v14, v15, v16, hop, hox, hpx, hSo, hSp⟩
 obtain ⟨x1, x2, x3, x4⟩ := fr hox
 obtain ⟨z1, z2, z3, z4⟩ := fr hpx
 have hpo : ¬ p = o := fun e => hop e.symm
 by_cases hlt : i < rows.length
 ·obtain ⟨r, hrr⟩ : ∃ r, rows[i]? = some r := ⟨_, List.getElem?_eq_getElem hlt⟩
  have hr' := zcs hrr
  have hws := wS hlt (by omega : rows.length ≤ 9223372036854775807)
  have e1 := zd0 r 0 ((bins.length : Int) - 1)
  rw [zw5 hrr, List.filter_cons] at hm hl2
  have hB : zjk bins b r = match atI bins r with
   | some x => decide (x ≤ b)
   | none => false := rfl
  have hC : zi6 bins b r = match atI bins r with
   | some x => !decide (x ≤ b)
   | none => false := rfl
  have r1 := zlj (n := m.length + 1) (by omega)
  have r2 := zlj (n := l.length + 1) (by omega)
  have s1 := zov m r
  have s2 := zov l r
  cases hx : atI bins r with
  | none =>
   have hn := zyl hx
   rw [show zan r 0 ((bins.length : Int) - 1) = false from by
    cases hw : zan r 0 ((bins.length : Int) - 1) with
    | false => rfl
    | true => have := zby.mp hw; omega] at e1
   rw [hx] at hB hC
   rw [hB] at hm
   rw [hC] at hl2
   simp [-getElem?_pos, zpk, -zdd, v0, v2, v8, v9, v14, v15, v16, hSo, hSp, hlt, hr', hws, w1, e1]
   exact za8 (k - 1) (by omega) ⟨i + 1, o, e, p, e2, m, l, by omega, by omega, by omega, by simpa using hm, by simpa using hl2, by simp [v0], by simp [v2], by simp [v8], by simp [v9], by simp [v14], by simp [v15], by simp, hop, by simp [hox], by simp [hpx], by simp [hSo], by simp [hSp]⟩
  | some x =>
   obtain ⟨rn, rfl, hbr, hbl⟩ := zqz hx
   rw [show zan rn 0 ((bins.length : Int) - 1) = true from zby.mpr (by omega)] at e1
   rw [hx] at hB hC
   rw [hB] at hm
   rw [hC] at hl2
   have hb' := zcs hbr
   by_cases hc : x ≤ b
   ·have d1 : decide (x ≤ b) = true := decide_eq_true hc
    simp only [d1, if_true, Bool.not_true, Bool.false_eq_true, if_false] at hm hl2
    simp [-getElem?_pos, zpk, -zdd, v0, v2, v8, v9, v14, v15, v16, hSo, hSp, hlt, hr', hws, w1, e1, hb', hbl, hc, hr1, r1, s1, hop, hpo, x1, x2, x3, x4, z1, z2, z3, z4]
    exact za8 (k - 1) (by omega) ⟨i + 1, st.nx + 1, st.ep, p, e2, m ++ [(rn : Int)], l, by omega, by simp; omega, by omega, by simpa using hm, hl2, by simp [v0], by simp [v2], by simp, by simp [v9], by simp [v14], by simp [v15], by simp, by omega, by simp, by simp; omega, by simp, by simp [hop, hpo, x1, x2, x3, x4, z1, z2, z3, z4, hSp]⟩
   ·have d1 : decide (x ≤ b) = false := decide_eq_false hc
    simp only [d1, if_true, Bool.not_false, Bool.false_eq_true, if_false] at hm hl2
    simp [-getElem?_pos, zpk, -zdd, v0, v2, v8, v9, v14, v15, v16, hSo, hSp, hlt, hr', hws, w1, e1, hb', hbl, hc, hr1, r2, s2, hop, hpo, x1, x2, x3, x4, z1, z2, z3, z4]
    exact za8 (k - 1) (by omega) ⟨i + 1, o, e, st.nx + 1, st.ep, m, l ++ [(rn : Int)], by omega, by omega, by simp; omega, hm, by simpa using hl2, by simp [v0], by simp [v2], by simp [v8], by simp, by simp [v14], by simp [v15], by simp, by omega, by simp; omega, by simp, by simp [hop, hpo, x1, x2, x3, x4, z1, z2, z3, z4, hSo], by simp⟩
 ·rw [List.drop_eq_nil_of_le (by omega)] at hm hl2
  simp only [List.filter_nil, List.append_nil] at hm hl2
  subst hm hl2
  simp [-getElem?_pos, zpk, v8, v9, v14, v15, v16, hSo, hSp, hlt, hop, hpo]
def pnd (x : Pnd) : List PV := [.own 1 (zaf x.r), iv x.b.lo, iv x.b.hi, iv x.l]
def z8f (l : List Pnd) : List (List PV) := l.map pnd
@[simp] theorem y0v (l : List Pnd) : (z8f l).length = l.length := by simp [z8f]
theorem yl6 {c v : List (List Int)} {g : List Int} {cfg : Cfg} {n : Nat} {q : List Pnd} {i : Nat} {out : List Nd} {x : Pnd} (h : q[i]? = some x) (hg : goes c v g cfg x = false) : zlo c v g cfg (n + 1) q i out = zlo c v g cfg n q (i + 1) (out ++ [zyj g cfg x]) := by
 rw [zlo, h]; simp [hg]
structure GI (c v : List (List Int)) (g : List Int) (cfg : Cfg) (n : Nat) (q : List Pnd) (i : Nat) (out : List Nd) : Prop where
 n1 : i + n = 32
 le : i ≤ q.length
 ql : q.length ≤ 2 * i + 1
 ol : out.length = i
 po : zwe cfg.de (q.drop i) ≤ n
 ok : ∀ x ∈ q, zjl g.length cfg.de x
 go : zlo c v g cfg n q i out = zlo c v g cfg 32 [zc5 g] 0 []
theorem GI.leaf {c v : List (List Int)} {g : List Int} {cfg : Cfg} {n : Nat} {q : List Pnd} {i : Nat} {out : List Nd} {x : Pnd} (h : GI c v g cfg n q i out) (hx : q[i]? = some x) (hg : goes c v g cfg x = false) : 1 ≤ n ∧ GI c v g cfg (n - 1) q (i + 1) (out ++ [zyj g cfg x]) := by
 have hp := h.po
 rw [zw5 hx, ymy] at hp
 have := ynb (h.ok x (List.mem_of_getElem? hx)).2.2.2
 have hlt := (List.getElem?_eq_some_iff.mp hx).1
 obtain ⟨m, rfl⟩ : ∃ m, n = m + 1 := ⟨n - 1, by omega⟩
 have := h.n1
 have := h.ql
 exact ⟨by omega, by simp; omega, by omega, by omega, by simp [h.ol], by simp; omega, h.ok, by rw [← h.go, yl6 hx hg]; rfl⟩
theorem ykc (c : Cfg) (k : Int) (h0 : 0 ≤ k) (hk : k + c.sg.length ≤ 9223372036854775806) : RUN T zmf [zwb c, iv k] = some ([iv (k + c.sg.length)], [.own 1 (zaf (upto k c.sg.length))]) := by
 have e := zx1 c.sg k h0 hk
 have hu : (upto k c.sg.length).length = c.sg.length := by simp [upto]
 generalize upto k c.sg.length = u at *
 refine zae z15 rfl ?_
 simp [-getElem?_pos, zr1, zr2, zwb, e, hu]
def zi4 (g rows : List Int) : Int := (rows.map fun r => (atI g r).getD 0).sum
theorem ya0 (g : List Int) (r : Int) (rs : List Int) : zi4 g (r :: rs) = (atI g r).getD 0 + zi4 g rs := by simp [zi4]
theorem ybh {bins g : List Int} {b : Int} : ∀ rows : List Int, (∀ r ∈ rows, ∃ x, atI bins r = some x) → (zau bins rows b).length + (zav bins rows b).length = rows.length ∧ zi4 g (zau bins rows b) + zi4 g (zav bins rows b) = zi4 g rows
 | [], _ => by simp [zau, zav, zi4]
 | r :: rs, h => by
  obtain ⟨x, hx⟩ := h r (by simp)
  obtain ⟨h1, h2⟩ := ybh (b := b) (g := g) rs (fun r hr => h r (by simp [hr]))
  have hB : zjk bins b r = decide (x ≤ b) := by unfold zjk; rw [hx]
  have hC : zi6 bins b r = !decide (x ≤ b) := by unfold zi6; rw [hx]
  unfold zau zav at *
  rw [List.filter_cons, List.filter_cons, hB, hC]
  by_cases hxb : x ≤ b
  ·simp only [decide_eq_true hxb, Bool.not_true, Bool.false_eq_true, if_true, if_false, ya0, List.length_cons]
   omega
  ·simp only [decide_eq_false hxb, Bool.not_false, Bool.false_eq_true, if_true, if_false, ya0, List.length_cons]
   omega
def zw4 (s : Sl) : Sl := ⟨s.n, -s.g⟩
def smS (m : Int) (s : Sl) : Prop := 0 ≤ s.n ∧ s.n ≤ m ∧ -(2199023255552 * m) ≤ s.g ∧ s.g ≤ 2199023255552 * m
theorem zwo {a b : Int} (h1 : -4611686018427387904 ≤ a + b) (h2 : a + b ≤ 4611686018427387904) : adi a b = (a + b, true) := by unfold adi; rw [if_pos (by omega)]
theorem yn0 {a b : Sl} {m k : Int} (ha : smS m a) (hb : smS k b) (hm : m + k ≤ 1048576) : zcf a b = (⟨a.n + b.n, a.g + b.g⟩, true) ∧ zcf (zw4 a) (zw4 b) = (zw4 ⟨a.n + b.n, a.g + b.g⟩, true) ∧ smS (m + k) ⟨a.n + b.n, a.g + b.g⟩ := by
 obtain ⟨a1, a2, a3, a4⟩ := ha
 obtain ⟨b1, b2, b3, b4⟩ := hb
 refine ⟨?_, ?_, ⟨by simp only; omega, by simp only; omega, by simp only; omega, by simp only; omega⟩⟩
 ·unfold zcf; rw [zwo (by omega) (by omega), zwo (by omega) (by omega)]; rfl
 ·unfold zcf zw4
  simp only
  rw [zwo (by omega) (by omega), zwo (by omega) (by omega)]
  simp; omega
inductive SN where
 | mk (f c v : Int) (ks : List SN)
def zec (q : Bool) (es : List (List PV)) : PV := if q then .own 4 es else .sl 4 es
mutual
def snC (q : Bool) : SN → List PV
 | .mk f c v ks => [iv f, iv c, iv v, zec q (snL q ks)]
def snL (q : Bool) : List SN → List (List PV)
 | [] => []
 | s :: ss => snC q s :: snL q ss
end
mutual
def szN : SN → Nat
 | .mk _ _ _ ks => szK ks
def szK : List SN → Nat
 | [] => 0
 | s :: ss => 1 + szN s + szK ss
end
theorem zxe (q : Bool) : ∀ ks : List SN, snL q ks = ks.map (snC q)
 | [] => by simp [snL]
 | k :: ks => by simp [snL, zxe q ks]
@[simp] theorem y8b (q : Bool) (ks : List SN) : (snL q ks).length = ks.length := by rw [zxe]; simp
theorem zv9 {q : Bool} {ks : List SN} {i : Nat} {k : SN} (h : ks[i]? = some k) : (snL q ks)[i]? = some (snC q k) := by rw [zxe]; simp [h]
theorem zxf : ∀ {ks : List SN} {k : SN}, k ∈ ks → szN k < szK ks
 | s :: ss, k, h => by
  unfold szK
  rcases List.mem_cons.mp h with e | e
  ·subst e; omega
  ·have := zxf e; omega
theorem ybp {ks : List SN} {i : Nat} {k : SN} (h : ks[i]? = some k) : szK (ks.take (i + 1)) = szK (ks.take i) + 1 + szN k := by
 rw [List.take_succ, h]
 have ap : ∀ a : List SN, szK (a ++ [k]) = szK a + 1 + szN k := by
  intro a
  induction a with
  | nil => simp [szK]
  | cons s ss ih =>
   rw [List.cons_append]
   unfold szK
   rw [ih]; omega
 exact ap _
theorem zy1 : ∀ (ks : List SN) (i : Nat), szK ks = szK (ks.take i) + szK (ks.drop i)
 | [], i => by simp [szK]
 | s :: ss, 0 => by simp [szK]
 | s :: ss, i + 1 => by
  have := zy1 ss i
  rw [List.take_succ_cons, List.drop_succ_cons]
  simp only [szK]
  omega
theorem zzw : ∀ ks : List SN, ks.length ≤ szK ks
 | [] => by simp
 | s :: ss => by
  have := zzw ss
  unfold szK
  simp; omega
inductive LnN (n : Nat) : SN → Prop
 | mk {f c v : Int} {ks : List SN} (h : ks.length ≤ n) (t : ∀ k ∈ ks, LnN n k) : LnN n (.mk f c v ks)
@[simp] theorem y2i (q : Bool) (es : List (List PV)) : fz (zec q es) = .sl 4 es := by cases q <;> simp [zec]
def snA (q : Bool) : SN → List PV
 | .mk f c v ks => [iv f, iv c, iv v, .sl 4 (snL q ks)]
def eqO (s : SN) : Prop := ∀ p q : Bool, RUN T zgz [.agg (snA p s), .agg (snA q s)] = some ([bv true], [])
theorem ymz {ks : List SN} (hl : ks.length ≤ 9223372036854775807) (h : ∀ k ∈ ks, eqO k) (p q : Bool) : RUN T zms [.sl 4 (snL p ks), .sl 4 (snL q ks)] = some ([bv true], []) := by
 refine zae z20 rfl ?_
 simp [zs6, zs7]
 refine zbs (fun n st => ∃ i : Nat, i + n = ks.length ∧ st.V 0 = .sl 4 (snL p ks) ∧ st.V 1 = .sl 4 (snL q ks) ∧ st.V 5 = iv i) ?_ ks.length _ ⟨0, by simp⟩
 rintro n st ⟨i, hi, v0, v1, v5⟩
 by_cases hlt : i < ks.length
 ·obtain ⟨k, hk⟩ : ∃ k, ks[i]? = some k := ⟨_, List.getElem?_eq_getElem hlt⟩
  have hx1 := zv9 (q := p) hk
  have hx2 := zv9 (q := q) hk
  have hw := wS hlt hl
  have e := h k (List.mem_of_getElem? hk) p q
  obtain ⟨f, c, v, kk⟩ := k
  simp only [snC] at hx1 hx2
  simp only [snA] at e
  simp [-getElem?_pos, zxo, v0, v1, v5, hlt, hx1, hx2, hw, e]
  exact za8 (n - 1) (by omega) ⟨i + 1, by omega, by simp [v0], by simp [v1], by simp⟩
 ·simp [-getElem?_pos, zxo, v0, v1, v5, hlt]
theorem z51 : ∀ (n : Nat) (s : SN), szN s < n → LnN 9223372036854775807 s → eqO s
 | 0, s, h, _ => by omega
 | n + 1, .mk f c v ks, h, hL => by
  intro p q
  have hz : szN (.mk f c v ks) = szK ks := by simp [szN]
  cases hL with
  | mk hl ht =>
  have e := ymz hl (fun k hk => z51 n k (by have := zxf hk; omega) (ht k hk)) p q
  simp only [snA]
  refine zae z1z rfl ?_
  simp [-getElem?_pos, zrp, zrq, e]
theorem ykd (p q : Bool) (s : SN) (hL : LnN 9223372036854775807 s) : RUN T zgz [.agg (snA p s), .agg (snA q s)] = some ([bv true], []) := z51 (szN s + 1) s (by omega) hL p q
mutual
def mkN (k : Int) : SN → SN
 | .mk _ _ _ ks => .mk k (k + 1) (k + 2) (mkK (k + 3) ks)
def mkK (k : Int) : List SN → List SN
 | [] => []
 | s :: ss => mkN k s :: mkK (k + 3 * (1 + szN s)) ss
end
theorem zoq : ∀ (ks : List SN) (k : Int), (mkK k ks).length = ks.length
 | [], k => by simp [mkK]
 | s :: ss, k => by simp [mkK, zoq ss]
theorem z0t : ∀ (ks : List SN) (k : Int) (i : Nat) (s : SN), ks[i]? = some s → (mkK k ks)[i]? = some (mkN (k + 3 * szK (ks.take i)) s)
 | [], k, i, s, h => by simp at h
 | x :: ss, k, 0, s, h => by simp at h; subst h; simp [mkK, szK]
 | x :: ss, k, i + 1, s, h => by
  simp at h
  have := z0t ss (k + 3 * (1 + szN x)) i s h
  simp only [mkK, List.getElem?_cons_succ, this, List.take_succ_cons, szK]
  congr 2
  omega
theorem z55 : ∀ (n : Nat) (ks : List SN), szK ks < n → ∀ k : Int, 0 ≤ k → k + 3 * szK ks ≤ 9223372036854775806 → RUN T zj2 [.own 4 (snL true ks), iv k] = some ([iv (k + 3 * szK ks)], [.own 4 (snL true (mkK k ks))])
 | 0, ks, h => by omega
 | N + 1, ks, h => by
  intro k h0 hk
  have hlen := zzw ks
  refine zae z23 rfl ?_
  simp [-getElem?_pos, ztc, ztd]
  obtain ⟨f, hf⟩ : ∃ f : Nat → List PV, f = fun j => snC true (mkN (k + 3 * szK (ks.take j)) (ks.getD j (.mk 0 0 0 []))) := ⟨_, rfl⟩
  refine zbs (fun n st => ∃ i : Nat, i + n = ks.length ∧ 1 ≤ st.nx ∧ st.V 0 = .ref 0 none 0 0 ks.length ∧ st.V 1 = iv (k + 3 * szK (ks.take i)) ∧ st.V 5 = iv i ∧ st.S 0 = some (.row 4 (mix f (snL true ks) i))) ?_ ks.length _ ⟨0, by simp [zyp, szK]⟩
  rintro n st ⟨i, hi, hnx, v0, v1, v5, hS⟩
  by_cases hlt : i < ks.length
  ·obtain ⟨x, hx⟩ : ∃ x, ks[i]? = some x := ⟨_, List.getElem?_eq_getElem hlt⟩
   have hw := wS hlt (by omega : ks.length ≤ 9223372036854775807)
   have hx' := zv9 (q := true) hx
   have hg := (z0a (f := f) (l := snL true ks) (i := i)).trans hx'
   have hs := zza (f := f) (l := snL true ks) (i := i) (by simpa using hlt)
   have htk := ybp hx
   have hsp := zy1 ks (i + 1)
   have hml := zyi (f := f) (l := snL true ks) (i := i) (by simp; omega)
   simp at hml
   have hm := zxf (List.mem_of_getElem? hx)
   obtain ⟨fx, cx, vx, kk⟩ := x
   have hz : szN (.mk fx cx vx kk) = szK kk := by simp [szN]
   have e := z55 N kk (by omega) (k + 3 * szK (ks.take i) + 3) (by omega) (by omega)
   have hfi : f i = [iv (k + 3 * szK (ks.take i)), iv (k + 3 * szK (ks.take i) + 1), iv (k + 3 * szK (ks.take i) + 2), .own 4 (snL true (mkK (k + 3 * szK (ks.take i) + 3) kk))] := by rw [hf]; simp [hx, mkN, snC, zec]
   rw [hfi] at hs
   have w1 : IntKind.i64.wrap (k + 3 * szK (ks.take i) + 1) = k + 3 * szK (ks.take i) + 1 := w64 (by omega) (by omega)
   have w2 : IntKind.i64.wrap (k + 3 * szK (ks.take i) + 1 + 1) = k + 3 * szK (ks.take i) + 2 := by rw [w64 (by omega) (by omega)]; omega
   have w3 : IntKind.i64.wrap (k + 3 * szK (ks.take i) + 2 + 1) = k + 3 * szK (ks.take i) + 3 := by rw [w64 (by omega) (by omega)]; omega
   have hkl : (mkK (k + 3 * szK (ks.take i) + 3) kk).length = kk.length := zoq _ _
   simp only [snC, zec, if_true] at hg
   obtain ⟨z1, z2, z3, z4⟩ := fr (show 0 < st.nx by omega)
   have hend : k + 3 * ((szK (ks.take i) : Nat) : Int) + 3 + 3 * ((szK kk : Nat) : Int) = k + 3 * ((szK (ks.take (i + 1)) : Nat) : Int) := by rw [htk, hz]; omega
   generalize hK : mkK (k + 3 * szK (ks.take i) + 3) kk = K at *
   simp [-getElem?_pos, zxp, v0, v1, v5, hS, hlt, hg, hml, hw, w1, w2, w3, e, hkl, z1, z2, z3, z4, zbc, zb0, hs]
   exact za8 (n - 1) (by omega) ⟨i + 1, by omega, by simp, by simp [v0], by simp [hend], by simp, by simp [hs]⟩
  ·have e := zz8 (f := f) (l := snL true ks) (i := i) (by simp; omega)
   have e2 : i = ks.length := by omega
   subst e2
   rw [e] at hS
   rw [List.take_length] at v1
   have e3 : snL true (mkK k ks) = (List.range ks.length).map f := by
    rw [zxe]
    apply List.ext_getElem?
    intro j
    by_cases hj : j < ks.length
    ·obtain ⟨x, hx⟩ : ∃ x, ks[j]? = some x := ⟨_, List.getElem?_eq_getElem hj⟩
     rw [List.getElem?_map, z0t ks k j x hx, List.getElem?_map, List.getElem?_range hj, hf]
     simp [hx]
    ·rw [List.getElem?_eq_none (by simp [zoq]; omega), List.getElem?_eq_none (by simp; omega)]
   rw [e3]
   simp [-getElem?_pos, zxp, v0, v1, v5, hS]
theorem yke (f c v : Int) (ks : List SN) (k : Int) (h0 : 0 ≤ k) (hk : k + 3 * szK ks ≤ 9223372036854775806) : RUN T zmg [.agg [iv f, iv c, iv v, .own 4 (snL true ks)], iv k] = some ([iv (k + 3 * szK ks)], [.own 4 (snL true (mkK k ks))]) := by
 have e := z55 (szK ks + 1) ks (by omega) k h0 hk
 have hl := zoq ks k
 generalize mkK k ks = K at *
 refine zae z16 rfl ?_
 simp [-getElem?_pos, zr3, zr4, e, hl]
theorem yax : ∀ (n : Nat) (ks : List SN), szK ks < n → ∀ k : Int, 0 ≤ k → k + 3 * szK ks ≤ 9223372036854775806 → RUN T zj3 [.sl 4 (snL true (mkK k ks)), iv k] = some ([iv (k + 3 * szK ks)], [])
 | 0, ks, h => by omega
 | N + 1, ks, h => by
  intro k h0 hk
  have hlen := zzw ks
  have hml := zoq ks k
  refine zae z24 rfl ?_
  simp [-getElem?_pos, zte, ztf]
  refine zbs (fun n st => ∃ i : Nat, i + n = ks.length ∧ st.V 0 = .sl 4 (snL true (mkK k ks)) ∧ st.V 1 = iv (k + 3 * szK (ks.take i)) ∧ st.V 5 = iv i) ?_ ks.length _ ⟨0, by simp [szK]⟩
  rintro n st ⟨i, hi, v0, v1, v5⟩
  by_cases hlt : i < ks.length
  ·obtain ⟨x, hx⟩ : ∃ x, ks[i]? = some x := ⟨_, List.getElem?_eq_getElem hlt⟩
   have hw := wS hlt (by omega : ks.length ≤ 9223372036854775807)
   have hx' := zv9 (q := true) (z0t ks k i x hx)
   have htk := ybp hx
   have hsp := zy1 ks (i + 1)
   have hm := zxf (List.mem_of_getElem? hx)
   obtain ⟨fx, cx, vx, kk⟩ := x
   have hz : szN (.mk fx cx vx kk) = szK kk := by simp [szN]
   have e := yax N kk (by omega) (k + 3 * szK (ks.take i) + 3) (by omega) (by omega)
   have w1 : IntKind.i64.wrap (k + 3 * szK (ks.take i) + 1) = k + 3 * szK (ks.take i) + 1 := w64 (by omega) (by omega)
   have w2 : IntKind.i64.wrap (k + 3 * szK (ks.take i) + 1 + 1) = k + 3 * szK (ks.take i) + 2 := by rw [w64 (by omega) (by omega)]; omega
   have w3 : IntKind.i64.wrap (k + 3 * szK (ks.take i) + 2 + 1) = k + 3 * szK (ks.take i) + 3 := by rw [w64 (by omega) (by omega)]; omega
   simp only [mkN, snC, zec, if_true] at hx'
   have hn : ¬ k + 3 * ((szK (ks.take i) : Nat) : Int) + 3 + 3 * ((szK kk : Nat) : Int) < 0 := by omega
   have hend : k + 3 * ((szK (ks.take i) : Nat) : Int) + 3 + 3 * ((szK kk : Nat) : Int) = k + 3 * ((szK (ks.take (i + 1)) : Nat) : Int) := by rw [htk, hz]; omega
   generalize mkK (k + 3 * szK (ks.take i) + 3) kk = K at *
   generalize mkK k ks = M at *
   simp [-getElem?_pos, zxq, v0, v1, v5, hlt, hml, hx', hw, w1, w2, w3, e, hn]
   exact za8 (n - 1) (by omega) ⟨i + 1, by omega, by simp [v0], by simp [hend], by simp⟩
  ·have e2 : i = ks.length := by omega
   subst e2
   rw [List.take_length] at v1
   simp [-getElem?_pos, zxq, v0, v1, v5, hml]
theorem ykf (f c v : Int) (ks : List SN) (k : Int) (h0 : 0 ≤ k) (hk : k + 3 * szK ks ≤ 9223372036854775806) : RUN T zjp [.agg [iv f, iv c, iv v, .sl 4 (snL true (mkK k ks))], iv k] = some ([iv (k + 3 * szK ks)], []) := by
 have e := yax (szK ks + 1) ks (by omega) k h0 hk
 have hn : ¬ k + 3 * ((szK ks : Nat) : Int) < 0 := by omega
 generalize mkK k ks = K at *
 refine zae z17 rfl ?_
 simp [-getElem?_pos, zr5, zr6, e, hn]
def gS (s : Sl) : Prop := 0 ≤ s.n ∧ s.n ≤ 40 ∧ -87960930222080 ≤ s.g ∧ s.g ≤ 87960930222080
structure smF (M D : Int) (f : Fr) : Prop where
 wf : wfU f.w
 ok : wok f.w = true
 nn : f.w.n = false
 mg : mag f.w ≤ M
 d1 : 1 ≤ f.d
 d2 : f.d ≤ D
theorem smF.frB {M D : Int} {f : Fr} (h : smF M D f) (hd : D ≤ 1000000) : frB f = true := by
 unfold Go.Pe.frB
 rw [h.ok, Bool.true_and]
 exact zby.mpr ⟨h.d1, by have := h.d2; omega⟩
theorem smF.I {M D : Int} {f : Fr} (h : smF M D f) (hd : D ≤ 1000000) : frI f := ⟨h.wf, by have := h.d1; have := h.d2; exact ⟨by omega, by omega⟩⟩
theorem z8g {M D m d : Int} (h0 : 0 ≤ m) (hm : m ≤ M) (hM : M < 170141183460469231731687303715884105728) (h1 : 1 ≤ d) (h2 : d ≤ D) (hD : D ≤ 1000000) : zbw (mkW false m) d = (⟨mkW false m, d⟩, true) ∧ smF M D ⟨mkW false m, d⟩ := by
 have ok : wok (mkW false m) = true := by rw [zow h0]; simp; omega
 have s : smF M D ⟨mkW false m, d⟩ := ⟨zor h0 (by omega), ok, by simp [mkW], by show mag (mkW false m) ≤ M; rw [z0p]; exact hm, h1, h2⟩
 refine ⟨?_, s⟩
 unfold zbw
 rw [if_pos (s.frB hD)]
theorem yoc (g : Int) : zbr g g = mkW false ((g.natAbs : Int) * g.natAbs) := by unfold zbr; simp
theorem ykw {g K : Int} (h1 : -K ≤ g) (h2 : g ≤ K) : 0 ≤ (g.natAbs : Int) * g.natAbs ∧ (g.natAbs : Int) * g.natAbs ≤ K * K := by
 have h3 : (g.natAbs : Int) ≤ K := by omega
 have h4 : (0 : Int) ≤ g.natAbs := by omega
 exact ⟨Int.mul_nonneg h4 h4, Int.mul_le_mul h3 h3 h4 (by omega)⟩
theorem zoh {s : Sl} {l : Int} (h : gS s) (h1 : 1 ≤ l) (h2 : l ≤ 100) : (zbw (zbr s.g s.g) (s.n + l)).2 = true ∧ smF 7737125245533626718119526400 140 (zbw (zbr s.g s.g) (s.n + l)).1 := by
 obtain ⟨a1, a2, a3, a4⟩ := h
 obtain ⟨b1, b2⟩ := ykw (K := 87960930222080) (by omega) a4
 obtain ⟨e1, e2⟩ := z8g (M := 7737125245533626718119526400) (D := 140) (m := (s.g.natAbs : Int) * s.g.natAbs) (d := s.n + l) b1 (by omega) (by omega) (by omega) (by omega) (by omega)
 rw [yoc, e1]
 exact ⟨rfl, e2⟩
theorem yad {s : Sl} {l : Int} (h : gS s) (h1 : 1 ≤ l) (h2 : l ≤ 100) : zhf s.n l = true := by
 unfold zhf
 rw [zby.mpr ⟨h.1, h.2.1⟩, zby.mpr ⟨h1, h2⟩]; rfl
theorem zyv {s : Sl} {l : Int} (h : gS s) (h1 : 1 ≤ l) (h2 : l ≤ 100) : zdj s l = zbw (zbr s.g s.g) (s.n + l) := by
 unfold zdj
 rw [if_pos (yad h h1 h2)]
theorem zwy {M D E : Int} {f : Fr} {k : Int} (h : smF M D f) (h1 : 1 ≤ k) (h2 : k ≤ E) (hM : M * E < 170141183460469231731687303715884105728) : zcc f.w k = (mkW false (mag f.w * k), true) ∧ 0 ≤ mag f.w * k ∧ mag f.w * k ≤ M * E := by
 have m0 := yku h.wf
 have m1 := h.mg
 have k1 : ((k.natAbs : Nat) : Int) = k := by omega
 have l1 : mag f.w * k ≤ M * E := Int.mul_le_mul m1 h2 (by omega) (by omega)
 refine ⟨?_, Int.mul_nonneg m0 (by omega), l1⟩
 unfold zcc
 rw [k1, if_pos ⟨h.ok, by omega⟩, h.nn]
 have : decide (k < 0) = false := by simp; omega
 rw [this]; rfl
theorem ybv {M D N E : Int} {a b : Fr} (ha : smF M D a) (hb : smF N E b) (hD : D ≤ 1000000) (hE : E ≤ 1000000) (h1 : M * E < 170141183460469231731687303715884105728) (h2 : N * D < 170141183460469231731687303715884105728) : zbe a b = (mkW false (mag a.w * b.d), mkW false (mag b.w * a.d), true) := by
 unfold zbe
 rw [ha.frB hD, hb.frB hE, (zwy ha hb.d1 hb.d2 h1).1, (zwy hb ha.d1 ha.d2 h2).1]
 rfl
theorem z6j {M D N E : Int} {a b : Fr} (ha : smF M D a) (hb : smF N E b) (hD : D ≤ 1000000) (hE : E ≤ 1000000) (h1 : M * E < 170141183460469231731687303715884105728) (h2 : N * D < 170141183460469231731687303715884105728) : (zda a b).2 = true := by
 unfold zda
 rw [ybv ha hb hD hE h1 h2]
 rfl
theorem ypf {M D N E : Int} {a b : Fr} (ha : smF M D a) (hb : smF N E b) (hD : D ≤ 1000000) (hE : E ≤ 1000000) (h1 : M * E + N * D < 170141183460469231731687303715884105728) (h2 : D * E ≤ 1000000) (hM : 0 ≤ M * E) (hN : 0 ≤ N * D) : (zex a b).2 = true ∧ smF (M * E + N * D) (D * E) (zex a b).1 := by
 obtain ⟨x1, x2, x3⟩ := zwy ha hb.d1 hb.d2 (by omega : M * E < 170141183460469231731687303715884105728)
 obtain ⟨y1, y2, y3⟩ := zwy hb ha.d1 ha.d2 (by omega : N * D < 170141183460469231731687303715884105728)
 have hc := ybv ha hb hD hE (by omega) (by omega)
 have ok1 : wok (mkW false (mag a.w * b.d)) = true := by rw [zow x2]; simp; omega
 have ok2 : wok (mkW false (mag b.w * a.d)) = true := by rw [zow y2]; simp; omega
 have hs := z7h (zor (n := false) x2 (by omega)) (zor (n := false) y2 (by omega)) ok1 ok2 (by simp [mkW])
 rw [z0p, z0p, if_pos (by omega)] at hs
 have hn : (mkW false (mag a.w * b.d)).n = false := by simp [mkW]
 rw [hn] at hs
 have a1 := ha.d1
 have a2 := ha.d2
 have b1 := hb.d1
 have b2 := hb.d2
 have d0 : 1 ≤ a.d * b.d := by
  have := Int.mul_le_mul a1 b1 (by omega) (by omega)
  omega
 have d1 : a.d * b.d ≤ D * E := Int.mul_le_mul a2 b2 (by omega) (by omega)
 obtain ⟨f1, f2⟩ := z8g (M := M * E + N * D) (D := D * E) (m := mag a.w * b.d + mag b.w * a.d) (d := a.d * b.d) (by omega) (by omega) h1 d0 d1 h2
 unfold zex
 rw [hc]
 simp only [hs, if_true, f1]
 exact ⟨trivial, f2⟩
theorem zoc {x : Cnd} {l : Int} (ha : gS x.a) (hz : gS x.z) (h1 : 1 ≤ l) (h2 : l ≤ 100) : zbi x l = zex (zbw (zbr x.a.g x.a.g) (x.a.n + l)).1 (zbw (zbr x.z.g x.z.g) (x.z.n + l)).1 ∧ (zbi x l).2 = true ∧ smF 2166395068749415481073467392000 19600 (zbi x l).1 := by
 obtain ⟨a1, a2⟩ := zoh ha h1 h2
 obtain ⟨b1, b2⟩ := zoh hz h1 h2
 have e : zbi x l = zex (zbw (zbr x.a.g x.a.g) (x.a.n + l)).1 (zbw (zbr x.z.g x.z.g) (x.z.n + l)).1 := by
  unfold zbi
  rw [zyv ha h1 h2, zyv hz h1 h2, a1, b1]
  exact if_pos rfl
 obtain ⟨c1, c2⟩ := ypf a2 b2 (by omega) (by omega) (by omega) (by omega) (by omega) (by omega)
 refine ⟨e, ?_⟩
 rw [e]
 exact ⟨c1, c2⟩
theorem yqg {x y : Cnd} {l : Int} (xa : gS x.a) (xz : gS x.z) (ya : gS y.a) (yz : gS y.z) (h1 : 1 ≤ l) (h2 : l ≤ 100) (hl : zg8 x y = false) : zje x y l = decide (0 < (zda (zbi x l).1 (zbi y l).1).1) := by
 obtain ⟨_, a1, a2⟩ := zoc xa xz h1 h2
 obtain ⟨_, b1, b2⟩ := zoc ya yz h1 h2
 unfold zje
 rw [a1, b1, z6j a2 b2 (by omega) (by omega) (by omega) (by omega), hl]
 simp
theorem zjm {s : Sl} {l : Int} {b : Bd} (h : gS s) (h1 : 1 ≤ l) (h2 : l ≤ 100) (hb : zcu b = true) : zee s l b = (za4 (fdv s.g (s.n + l)).1 b.lo b.hi, true) := by
 unfold zee
 rw [yad h h1 h2, hb]
 rfl
def wyB (c : Cfg) (b : Bd) (x : Cnd) (w : Sl) : Bool := decide (c.rw ≤ x.a.n) && (decide (c.rw ≤ x.z.n) && (decide (0 < (zda (zbi x c.la).1 (zbw (zbr w.g w.g) (w.n + c.la)).1).1) && zi7 (zdh c x.f) (za4 (fdv x.a.g (x.a.n + c.la)).1 b.lo b.hi) (za4 (fdv x.z.g (x.z.n + c.la)).1 b.lo b.hi)))
theorem yqd {c : Cfg} {b : Bd} {x : Cnd} {w : Sl} (hc : zb8 c = true) (hb : zcu b = true) (ha : gS x.a) (hz : gS x.z) (hw : gS w) (hp : zcf x.a x.z = (w, true)) (h1 : 1 ≤ c.la) (h2 : c.la ≤ 100) : zgn c b x = wyB c b x w := by
 obtain ⟨_, a1, a2⟩ := zoc ha hz h1 h2
 obtain ⟨b1, b2⟩ := zoh hw h1 h2
 unfold zgn wyB zd7 zqp
 rw [hc, zjm ha h1 h2 hb, zjm hz h1 h2 hb, hp, zyv hw h1 h2, a1, b1, z6j a2 b2 (by omega) (by omega) (by omega) (by omega)]
 simp only [Bool.true_and, Bool.and_self, if_true]
 cases decide (c.rw ≤ x.a.n) <;> cases decide (c.rw ≤ x.z.n) <;> simp [Bool.and_comm]
theorem z81 {c : Cfg} (h : zb8 c = true) : 1 ≤ c.la ∧ c.la ≤ 100 ∧ 0 ≤ c.de ∧ c.de ≤ 4 := by
 unfold zb8 at h
 simp only [Bool.and_eq_true, zby] at h
 omega
theorem zfx {g rows : List Int} (hg : ∀ x ∈ g, -2199023255552 ≤ x ∧ x ≤ 2199023255552) (hl : rows.length ≤ 40) : gS (zah g rows) := by
 have key : ∀ l : List Int, -(2199023255552 * (l.length : Int)) ≤ (l.map fun r => (atI g r).getD 0).sum ∧ (l.map fun r => (atI g r).getD 0).sum ≤ 2199023255552 * (l.length : Int) := by
  intro l
  induction l with
  | nil => simp
  | cons a l ih =>
   have hv : -2199023255552 ≤ (atI g a).getD 0 ∧ (atI g a).getD 0 ≤ 2199023255552 := by
    cases e : atI g a with
    | none => simp
    | some y =>
     obtain ⟨j, _, h2, _⟩ := zqz e
     exact hg y (List.mem_of_getElem? h2)
   simp only [List.map_cons, List.sum_cons, List.length_cons]
   omega
 have := key rows
 refine ⟨?_, ?_, ?_, ?_⟩ <;> simp only [zah] <;> omega
def zaq (v : List (List Int)) (g rows : List Int) (f k : Nat) : Cnd := ⟨f, k, zah g (zau (v.getD f []) rows k), zah g (zav (v.getD f []) rows k)⟩
def zg3 (cfg : Cfg) (b : Bd) (acc : Option Cnd) (x : Cnd) : Option Cnd := if zgn cfg b x = true then (match acc with
 | none => some x
 | some y => if zje x y cfg.la = true then some x else some y) else acc
def zds (v : List (List Int)) (g : List Int) (cfg : Cfg) (rows : List Int) (b : Bd) (f : Nat) (acc : Option Cnd) (n : Nat) : Option Cnd := (List.range n).foldl (fun a k => zg3 cfg b a (zaq v g rows f k)) acc
def zcw (c v : List (List Int)) (g : List Int) (cfg : Cfg) (rows : List Int) (b : Bd) (m : Nat) : Option Cnd := (List.range m).foldl (fun a f => zds v g cfg rows b f a (c.getD f []).length) none
theorem zk7 {v : List (List Int)} {g : List Int} {cfg : Cfg} {rows : List Int} {b : Bd} {f : Nat} {acc : Option Cnd} {n : Nat} : zds v g cfg rows b f acc (n + 1) = zg3 cfg b (zds v g cfg rows b f acc n) (zaq v g rows f n) := by
 unfold zds; rw [List.range_succ, List.foldl_append]; rfl
theorem zyf {c v : List (List Int)} {g : List Int} {cfg : Cfg} {rows : List Int} {b : Bd} {m : Nat} : zcw c v g cfg rows b (m + 1) = zds v g cfg rows b m (zcw c v g cfg rows b m) (c.getD m []).length := by
 unfold zcw; rw [List.range_succ, List.foldl_append]; rfl
def bfr (v : List (List Int)) (g rows : List Int) (c : List (List Int)) (cfg : Cfg) (b : Bd) (f k : Nat) (a : Option Cnd) : Prop := ∀ x, a = some x → ∃ f' k' : Nat, x = zaq v g rows f' k' ∧ (f' < f ∨ (f' = f ∧ k' < k)) ∧ f' < c.length ∧ k' < (c.getD f' []).length ∧ zgn cfg b x = true
theorem ym3 {v : List (List Int)} {g rows : List Int} {c : List (List Int)} {cfg : Cfg} {b : Bd} {f k : Nat} {a : Option Cnd} (h : bfr v g rows c cfg b f k a) (hf : f < c.length) (hk : k < (c.getD f []).length) : bfr v g rows c cfg b f (k + 1) (zg3 cfg b a (zaq v g rows f k)) := by
 have old : bfr v g rows c cfg b f (k + 1) a := fun x hx => by
  obtain ⟨f', k', h1, h2, h3⟩ := h x hx
  exact ⟨f', k', h1, by omega, h3⟩
 unfold zg3
 split
 ·rename_i hm
  have new : bfr v g rows c cfg b f (k + 1) (some (zaq v g rows f k)) := fun x hx => by
   cases hx
   exact ⟨f, k, rfl, by omega, hf, hk, hm⟩
  split
  ·exact new
  ·split
   ·exact new
   ·exact old
 ·exact old
theorem ymf {v : List (List Int)} {g rows : List Int} {c : List (List Int)} {cfg : Cfg} {b : Bd} {f k : Nat} {a : Option Cnd} (h : bfr v g rows c cfg b f k a) : bfr v g rows c cfg b (f + 1) 0 a := fun x hx => by
 obtain ⟨f', k', h1, h2, h3⟩ := h x hx
 exact ⟨f', k', h1, by omega, h3⟩
theorem ynp {v : List (List Int)} {g rows : List Int} {c : List (List Int)} {cfg : Cfg} {b : Bd} {f k : Nat} {x : Cnd} (h : bfr v g rows c cfg b f k (some x)) : zg8 (zaq v g rows f k) x = false := by
 obtain ⟨f', k', h1, h2, _⟩ := h x rfl
 subst h1
 cases e : zg8 (zaq v g rows f k) (zaq v g rows f' k') with
 | false => rfl
 | true =>
  rw [ynv] at e
  simp only [zaq] at e
  omega
theorem ymc {v : List (List Int)} {g rows : List Int} {c : List (List Int)} {cfg : Cfg} {b : Bd} {f k : Nat} : bfr v g rows c cfg b f k none := fun x hx => by cases hx
theorem zwm {v : List (List Int)} {g rows : List Int} {c : List (List Int)} {cfg : Cfg} {b : Bd} {f : Nat} {a : Option Cnd} (h : bfr v g rows c cfg b f 0 a) (hf : f < c.length) : ∀ n : Nat, n ≤ (c.getD f []).length → bfr v g rows c cfg b f n (zds v g cfg rows b f a n)
 | 0, _ => h
 | n + 1, hn => by
  rw [zk7]
  exact ym3 (zwm h hf n (by omega)) hf (by omega)
theorem z0k {v : List (List Int)} {g rows : List Int} {c : List (List Int)} {cfg : Cfg} {b : Bd} : ∀ m : Nat, m ≤ c.length → bfr v g rows c cfg b m 0 (zcw c v g cfg rows b m)
 | 0, _ => ymc
 | m + 1, hm => by
  rw [zyf]
  exact ymf (zwm (z0k m (by omega)) (by omega) _ (Nat.le_refl _))
def zox (g : List Int) (cfg : Cfg) (x : Pnd) : Int := (zee (zah g x.r) cfg.la x.b).1
def zbu (c v : List (List Int)) (g : List Int) (cfg : Cfg) : Nat → Pnd → SN
 | 0, x => .mk (-1) 0 (zox g cfg x) []
 | n + 1, x => match zcw c v g cfg x.r x.b c.length with
  | none => .mk (-1) 0 (zox g cfg x) []
  | some k => .mk k.f ((atI ((atI c k.f).getD []) k.b).getD 0) 0 [zbu c v g cfg n (ze9 c v cfg x k), zbu c v g cfg n (zfa c v cfg x k)]
theorem zw8 {s : Int} {b : Bd} {l r : Int} (h : zcu b = true) : zcu (zd1 s b l r).1 = true ∧ zcu (zd1 s b l r).2 = true := by
 have hx : b.lo ≤ za4 (zeu l r) b.lo b.hi ∧ za4 (zeu l r) b.lo b.hi ≤ b.hi := by
  unfold zcu at h
  simp only [Bool.and_eq_true, decide_eq_true_eq] at h
  unfold za4
  split
  ·omega
  ·split <;> omega
 unfold zd1
 rw [if_pos h]
 unfold zcu zev at h
 simp only [Bool.and_eq_true, decide_eq_true_eq, zby] at h
 generalize za4 (zeu l r) b.lo b.hi = m at *
 unfold zcu zev
 split
 ·simp only [Bool.and_eq_true, decide_eq_true_eq, zby]; omega
 ·split
  ·simp only [Bool.and_eq_true, decide_eq_true_eq, zby]; omega
  ·simp only [Bool.and_eq_true, decide_eq_true_eq, zby]; omega
theorem zwv {s : Sl} (h : gS s) : slI s := by
 obtain ⟨a1, a2, a3, a4⟩ := h
 exact ⟨⟨by omega, by omega⟩, ⟨by omega, by omega⟩⟩
theorem zn2 (s : Sl) (l : Int) (b : Bd) (hs : gS s) (h1 : 1 ≤ l) (h2 : l ≤ 100) : RUN T zg1 [.agg (slc s), iv l, .agg (bnd b)] = some ([iv (za4 (fdv s.g (s.n + l)).1 b.lo b.hi)], []) := by
 obtain ⟨a1, a2, a3, a4⟩ := hs
 have e1 := yi3 s.g (s.n + l) ⟨by omega, by omega⟩
 have e2 := z5n (fdv s.g (s.n + l)).1 b.lo b.hi
 have w1 := w64 (x := s.n + l) (by omega) (by omega)
 obtain ⟨sn, sg⟩ := s
 obtain ⟨lo, hi⟩ := b
 simp only [slc, bnd] at *
 refine zae z3r rfl ?_
 simp [-getElem?_pos, zuk, zul, w1, e1, e2]
theorem zye (s : Sl) (l : Int) (hs : gS s) (h1 : 1 ≤ l) (h2 : l ≤ 100) : RUN T zis [.agg (slc s), iv l] = some ([.agg (frc (zbw (zbr s.g s.g) (s.n + l)).1)], []) := by
 obtain ⟨a1, a2, a3, a4⟩ := hs
 have e1 := yjt s.g (s.n + l) ⟨by omega, by omega⟩
 have w1 := w64 (x := s.n + l) (by omega) (by omega)
 obtain ⟨sn, sg⟩ := s
 generalize zbw (zbr sg sg) (sn + l) = F at *
 obtain ⟨⟨⟨fn, fh, fl⟩, fd⟩, fb⟩ := F
 simp only [slc, frc] at *
 refine zae z33 rfl ?_
 simp [-getElem?_pos, zu2, zu3, w1, e1]
def NI (S : Nat → Option Ob) (nx k : Nat) (m : List Int) (x : PV) : Prop := (x = .e0 ∧ m = []) ∨ ∃ o e, x = .ref o none e 0 m.length ∧ k < o ∧ o < nx ∧ S o = some (.row 1 (zaf m))
def apI (x y : PV) : Prop := ∀ o e n p e' n', x = .ref o none e 0 n → y = .ref p none e' 0 n' → ¬ o = p
theorem NI.up {S S' : Nat → Option Ob} {nx nx' k : Nat} {l : List Int} {Y : PV} (h : NI S nx k l Y) (hn : nx ≤ nx') (hS : ∀ o e n, Y = .ref o none e 0 n → k < o → o < nx → S' o = S o) : NI S' nx' k l Y := by
 rcases h with h | ⟨o, e, h1, h2, h3, h4⟩
 ·exact .inl h
 ·exact .inr ⟨o, e, h1, h2, by omega, by rw [hS o e _ h1 h2 h3]; exact h4⟩
theorem yl3 {y : List Int} {k r x : Int} (h : atI y r = some x) : zjk y k r = decide (x ≤ k) ∧ zi6 y k r = !decide (x ≤ k) := by
 unfold zjk zi6; rw [h]; exact ⟨rfl, rfl⟩
set_option maxHeartbeats 4000000 in
set_option maxRecDepth 4000 in
theorem ykg (q : Bool) (c v : List (List Int)) (g : List Int) (cfg : Cfg) (rows : List Int) (b : Bd) (f k : Nat) (y : List Int) (hy : v[f]? = some y) (hyl : y.length ≤ 1048576) (hvl : v.length ≤ 1048576) (hrv : ∀ r ∈ rows, 0 ≤ r ∧ r < y.length) (hrg : ∀ r ∈ rows, 0 ≤ r ∧ r < g.length) (hg : ∀ x ∈ g, -2199023255552 ≤ x ∧ x ≤ 2199023255552) (hl : rows.length ≤ 40) (hsg : cfg.sg.length ≤ 1048576) (h1 : 1 ≤ cfg.la) (h2 : cfg.la ≤ 100) : RUN T zm4 [.agg [.sl 1 (rws q c), .sl 1 (rws q v)], .sl 1 (zaf g), cfS cfg, .sl 1 (zaf rows), .agg (bnd b), iv f, iv k] = some ([.agg ([iv f, iv k, .own 1 (zaf (zau y rows k)), .own 1 (zaf (zav y rows k))] ++ frc (zbi (zaq v g rows f k) cfg.la).1), bv (wyB cfg b (zaq v g rows f k) (zah g rows))], []) := by
 have hr1 : zb7 8 1 = true := by decide
 have hy' := zeh (q := q) hy
 have hfl : f < v.length := (List.getElem?_eq_some_iff.mp hy).1
 have hyd : v.getD f [] = y := by simp [hy]
 unfold zaq
 rw [hyd]
 refine zae z3p rfl ?_
 simp [-getElem?_pos, zug, zuh]
 refine zbs (fun n st => ∃ (i : Nat) (m l : List Int) (X Y : PV), i + n = rows.length ∧ m.length ≤ i ∧ l.length ≤ i ∧ m ++ (rows.drop i).filter (zjk y k) = zau y rows k ∧ l ++ (rows.drop i).filter (zi6 y k) = zav y rows k ∧ 4 < st.nx ∧ st.V 1 = .sl 1 (zaf g) ∧ st.V 3 = .sl 1 (zaf rows) ∧ st.V 5 = iv f ∧ st.V 6 = iv k ∧ st.V 7 = .ptr 0 none 0 0 0 ∧ st.V 9 = .ptr 1 none 0 0 0 ∧ st.V 11 = .ptr 2 none 0 0 0 ∧ st.V 14 = .ptr 3 none 0 0 0 ∧ st.V 16 = .ptr 4 none 0 0 0 ∧ st.V 17 = iv i ∧ st.S 0 = some (.box [.sl 1 (rws q c), .sl 1 (rws q v)]) ∧ st.S 1 = some (.box [iv cfg.ro, iv cfg.de, iv cfg.bi, iv cfg.la, iv cfg.rw, iv cfg.nu, iv cfg.dn, .sl 1 (zaf cfg.sg)]) ∧ st.S 2 = some (.box (bnd b)) ∧ st.S 3 = some (.box [iv 0, iv 0, .e0, .e0, bv false, uv 0, uv 0, iv 0]) ∧ st.S 4 = some (.box [iv f, iv k, X, Y, bv false, uv 0, uv 0, iv 0]) ∧ NI st.S st.nx 4 m X ∧ NI st.S st.nx 4 l Y ∧ apI X Y) ?_ rows.length _ ⟨0, [], [], .e0, .e0, by omega, by simp, by simp, by simp [zau], by simp [zav], by simp [bnd, NI, apI]⟩
 rintro n st ⟨i, m, l, X, Y, hi, hml, hll, hm, hl2, hnx, v1, v3, v5, v6, v7, v9, v11, v14, v16, v17, S0, S1, S2, S3, S4, hX, hY, hXY⟩
 have q0 := fr (by omega : 0 < st.nx)
 have q1 := fr (by omega : 1 < st.nx)
 have q2 := fr (by omega : 2 < st.nx)
 have q3 := fr (by omega : 3 < st.nx)
 have q4 := fr (by omega : 4 < st.nx)
 have n3 : ¬ st.nx = 3 := by omega
 by_cases hlt : i < rows.length
 ·obtain ⟨r, hrr⟩ : ∃ r, rows[i]? = some r := ⟨_, List.getElem?_eq_getElem hlt⟩
  have hr' := zcs hrr
  have hws := wS hlt (by omega : rows.length ≤ 9223372036854775807)
  obtain ⟨g1, g2⟩ := hrv r (List.mem_of_getElem? hrr)
  obtain ⟨rn, rfl⟩ : ∃ rn : Nat, r = rn := ⟨r.toNat, by omega⟩
  have hrn : rn < y.length := by omega
  obtain ⟨x, hx⟩ : ∃ x, y[rn]? = some x := ⟨_, List.getElem?_eq_getElem hrn⟩
  have hx' := zcs hx
  have ha : atI y rn = some x := by unfold atI; simp [hx]
  obtain ⟨k1, k2⟩ := yl3 (k := k) ha
  rw [zw5 hrr, List.filter_cons] at hm hl2
  rw [k1] at hm
  rw [k2] at hl2
  have z1 := zlj (n := m.length + 1) (by omega)
  have z2 := zlj (n := l.length + 1) (by omega)
  have s1 := zov m rn
  have s2 := zov l rn
  have i0 : zaf [] = [] := rfl
  have i1 : zaf [(rn : Int)] = [[iv rn]] := rfl
  by_cases hc : x ≤ k
  ·have d1 : decide (x ≤ (k : Int)) = true := decide_eq_true hc
   simp only [d1, if_true, Bool.not_true, Bool.false_eq_true, if_false] at hm hl2
   rcases hX with ⟨rfl, rfl⟩ | ⟨o, e, rfl, ho, hox, hSo⟩
   ·simp [-getElem?_pos, zdc, v1, v3, v5, v6, v7, v9, v11, v14, v16, v17, S0, S1, S2, S3, S4, hlt, hr', hws, hy', hx', hrn, hfl, hc, hr1, zbc, q0, q1, q2, q3, q4, n3]
    exact za8 (n - 1) (by omega) ⟨i + 1, [(rn : Int)], l, _, Y, by omega, by simp; try omega, by omega, by simpa using hm, hl2, by simp; try omega, by simp [v1], by simp [v3], by simp [v5], by simp [v6], by simp [v7], by simp [v9], by simp [v11], by simp [v14], by simp [v16], by simp, by simp [S0, q0, q1, q2, q3, q4, n3], by simp [S1, q0, q1, q2, q3, q4, n3], by simp [S2, q0, q1, q2, q3, q4, n3], by simp [S3, q0, q1, q2, q3, q4, n3], by simp [S4, q0, q1, q2, q3, q4, n3]; rfl, (.inr ⟨st.nx + 1, st.ep, by simp, by omega, by simp, by simp [zaf, n3]⟩), (hY.up (by simp) (fun p e' n' hp h1 h2 => by
     have a1 := fr h1
     have a2 := fr h2
     simp [a1, a2, n3])), (fun o' e' n' p e2 n2 h1 h2 => by
     rcases hY with ⟨h3, _⟩ | ⟨p', e3, h3, _, h4, _⟩
     ·rw [h3] at h2; cases h2
     ·rw [h3] at h2; cases h2; cases h1; omega)⟩
   ·have qo := fr hox
    have po := fr ho
    have o0 : ¬ o = 0 := by omega
    have o1 : ¬ o = 1 := by omega
    have o2 : ¬ o = 2 := by omega
    have o3 : ¬ o = 3 := by omega
    have o0' : ¬ 0 = o := by omega
    have o1' : ¬ 1 = o := by omega
    have o2' : ¬ 2 = o := by omega
    have o3' : ¬ 3 = o := by omega
    simp [-getElem?_pos, zdc, v1, v3, v5, v6, v7, v9, v11, v14, v16, v17, S0, S1, S2, S3, S4, hlt, hr', hws, hy', hx', hrn, hfl, hc, hr1, zbc, q0, q1, q2, q3, q4, hSo, z1, s1, qo, po, o0, o1, o2, o3, o0', o1', o2', o3', n3]
    exact za8 (n - 1) (by omega) ⟨i + 1, (m ++ [(rn : Int)]), l, _, Y, by omega, by simp; try omega, by omega, by simpa using hm, hl2, by simp; try omega, by simp [v1], by simp [v3], by simp [v5], by simp [v6], by simp [v7], by simp [v9], by simp [v11], by simp [v14], by simp [v16], by simp, by simp [S0, q0, q1, q2, q3, q4, qo, po, o0, o1, o2, o3, o0', o1', o2', o3', n3], by simp [S1, q0, q1, q2, q3, q4, qo, po, o0, o1, o2, o3, o0', o1', o2', o3', n3], by simp [S2, q0, q1, q2, q3, q4, qo, po, o0, o1, o2, o3, o0', o1', o2', o3', n3], by simp [S3, q0, q1, q2, q3, q4, qo, po, o0, o1, o2, o3, o0', o1', o2', o3', n3], by simp [S4, q0, q1, q2, q3, q4, qo, po, o0, o1, o2, o3, o0', o1', o2', o3', n3]; rfl, (.inr ⟨st.nx + 1, st.ep, by simp, by omega, by simp, by simp [n3]; try rfl⟩), (hY.up (by simp) (fun p e' n' hp h1 h2 => by
     have a1 := fr h1
     have a2 := fr h2
     have a3 : ¬ p = o := fun h => hXY _ _ _ _ _ _ rfl hp h.symm
     have a4 : ¬ o = p := fun h => a3 h.symm
     simp [a1, a2, a3, a4, n3])), (fun o' e' n' p e2 n2 h1 h2 => by
     rcases hY with ⟨h3, _⟩ | ⟨p', e3, h3, _, h4, _⟩
     ·rw [h3] at h2; cases h2
     ·rw [h3] at h2; cases h2; cases h1; omega)⟩
  ·have d1 : decide (x ≤ (k : Int)) = false := decide_eq_false hc
   simp only [d1, if_true, Bool.not_false, Bool.false_eq_true, if_false] at hm hl2
   rcases hY with ⟨rfl, rfl⟩ | ⟨o, e, rfl, ho, hox, hSo⟩
   ·simp [-getElem?_pos, zdc, v1, v3, v5, v6, v7, v9, v11, v14, v16, v17, S0, S1, S2, S3, S4, hlt, hr', hws, hy', hx', hrn, hfl, hc, hr1, zbc, q0, q1, q2, q3, q4, n3]
    exact za8 (n - 1) (by omega) ⟨i + 1, m, [(rn : Int)], X, _, by omega, by omega, by simp; try omega, hm, by simpa using hl2, by simp; try omega, by simp [v1], by simp [v3], by simp [v5], by simp [v6], by simp [v7], by simp [v9], by simp [v11], by simp [v14], by simp [v16], by simp, by simp [S0, q0, q1, q2, q3, q4, n3], by simp [S1, q0, q1, q2, q3, q4, n3], by simp [S2, q0, q1, q2, q3, q4, n3], by simp [S3, q0, q1, q2, q3, q4, n3], by simp [S4, q0, q1, q2, q3, q4, n3]; rfl, (hX.up (by simp) (fun p e' n' hp h1 h2 => by
     have a1 := fr h1
     have a2 := fr h2
     simp [a1, a2, n3])), (.inr ⟨st.nx + 1, st.ep, by simp, by omega, by simp, by simp [zaf, n3]⟩), (fun o' e' n' p e2 n2 h1 h2 => by
     rcases hX with ⟨h3, _⟩ | ⟨p', e3, h3, _, h4, _⟩
     ·rw [h3] at h1; cases h1
     ·rw [h3] at h1; cases h1; cases h2; omega)⟩
   ·have qo := fr hox
    have po := fr ho
    have o0 : ¬ o = 0 := by omega
    have o1 : ¬ o = 1 := by omega
    have o2 : ¬ o = 2 := by omega
    have o3 : ¬ o = 3 := by omega
    have o0' : ¬ 0 = o := by omega
    have o1' : ¬ 1 = o := by omega
    have o2' : ¬ 2 = o := by omega
    have o3' : ¬ 3 = o := by omega
    simp [-getElem?_pos, zdc, v1, v3, v5, v6, v7, v9, v11, v14, v16, v17, S0, S1, S2, S3, S4, hlt, hr', hws, hy', hx', hrn, hfl, hc, hr1, zbc, q0, q1, q2, q3, q4, hSo, z2, s2, qo, po, o0, o1, o2, o3, o0', o1', o2', o3', n3]
    exact za8 (n - 1) (by omega) ⟨i + 1, m, (l ++ [(rn : Int)]), X, _, by omega, by omega, by simp; try omega, hm, by simpa using hl2, by simp; try omega, by simp [v1], by simp [v3], by simp [v5], by simp [v6], by simp [v7], by simp [v9], by simp [v11], by simp [v14], by simp [v16], by simp, by simp [S0, q0, q1, q2, q3, q4, qo, po, o0, o1, o2, o3, o0', o1', o2', o3', n3], by simp [S1, q0, q1, q2, q3, q4, qo, po, o0, o1, o2, o3, o0', o1', o2', o3', n3], by simp [S2, q0, q1, q2, q3, q4, qo, po, o0, o1, o2, o3, o0', o1', o2', o3', n3], by simp [S3, q0, q1, q2, q3, q4, qo, po, o0, o1, o2, o3, o0', o1', o2', o3', n3], by simp [S4, q0, q1, q2, q3, q4, qo, po, o0, o1, o2, o3, o0', o1', o2', o3', n3]; rfl, (hX.up (by simp) (fun p e' n' hp h1 h2 => by
     have a1 := fr h1
     have a2 := fr h2
     have a3 : ¬ p = o := hXY _ _ _ _ _ _ hp rfl
     have a4 : ¬ o = p := fun h => a3 h.symm
     simp [a1, a2, a3, a4, n3])), (.inr ⟨st.nx + 1, st.ep, by simp, by omega, by simp, by simp [n3]; try rfl⟩), (fun o' e' n' p e2 n2 h1 h2 => by
     rcases hX with ⟨h3, _⟩ | ⟨p', e3, h3, _, h4, _⟩
     ·rw [h3] at h1; cases h1
     ·rw [h3] at h1; cases h1; cases h2; omega)⟩
 ·have hie : i = rows.length := by omega
  subst hie
  rw [List.drop_length] at hm hl2
  simp only [List.filter_nil, List.append_nil] at hm hl2
  have hmr : ∀ r ∈ zau y rows k, 0 ≤ r ∧ r < g.length := fun r hr => hrg r ((List.mem_filter.mp hr).1)
  have hlr : ∀ r ∈ zav y rows k, 0 ≤ r ∧ r < g.length := fun r hr => hrg r ((List.mem_filter.mp hr).1)
  have hA : (zau y rows k).length ≤ 40 := Nat.le_trans (List.length_filter_le _ _) hl
  have hZ : (zav y rows k).length ≤ 40 := Nat.le_trans (List.length_filter_le _ _) hl
  rw [← hm] at hmr hA ⊢
  rw [← hl2] at hlr hZ ⊢
  clear hm hl2
  have e1 := zk5 g m hg hmr (by omega)
  have e2 := zk5 g l hg hlr (by omega)
  have e3 := zk5 g rows hg hrg (by omega)
  have gA := zfx hg hA
  have gZ := zfx hg hZ
  have gW := zfx hg hl
  have e4 := zye (zah g m) cfg.la gA h1 h2
  have e5 := zye (zah g l) cfg.la gZ h1 h2
  have e6 := zye (zah g rows) cfg.la gW h1 h2
  obtain ⟨_, s4⟩ := zoh gA h1 h2
  obtain ⟨_, s5⟩ := zoh gZ h1 h2
  obtain ⟨_, s6⟩ := zoh gW h1 h2
  have e7 := yjv _ _ (s4.I (by omega)) (s5.I (by omega))
  have hG := zoc (x := ⟨f, k, zah g m, zah g l⟩) gA gZ h1 h2
  obtain ⟨hG1, hG2, hG3⟩ := hG
  simp only at hG1
  rw [← hG1, hG2] at e7
  have e8 := zyb _ _ (hG3.I (by omega)) (s6.I (by omega))
  have e9 := z5q cfg f (by omega)
  have e10 := zn2 (zah g m) cfg.la b gA h1 h2
  have e11 := zn2 (zah g l) cfg.la b gZ h1 h2
  have e12 := yjz (zdh cfg f) (za4 (fdv (zah g m).g ((zah g m).n + cfg.la)).1 b.lo b.hi) (za4 (fdv (zah g l).g ((zah g l).n + cfg.la)).1 b.lo b.hi)
  unfold wyB
  simp only
  clear hG1 hG2 hG3 s4 s5 s6
  generalize (zbi ⟨f, k, zah g m, zah g l⟩ cfg.la).1 = G at *
  generalize (zbw (zbr (zah g m).g (zah g m).g) ((zah g m).n + cfg.la)).1 = F1 at *
  generalize (zbw (zbr (zah g l).g (zah g l).g) ((zah g l).n + cfg.la)).1 = F2 at *
  generalize (zbw (zbr (zah g rows).g (zah g rows).g) ((zah g rows).n + cfg.la)).1 = F3 at *
  generalize zda G F3 = CC at *
  obtain ⟨CC, cb⟩ := CC
  generalize za4 (fdv (zah g m).g ((zah g m).n + cfg.la)).1 b.lo b.hi = V1 at *
  generalize za4 (fdv (zah g l).g ((zah g l).n + cfg.la)).1 b.lo b.hi = V2 at *
  generalize zdh cfg f = SG at *
  generalize zi7 SG V1 V2 = AG at *
  generalize zah g m = SA at *
  generalize zah g l = SZ at *
  generalize zah g rows = SW at *
  obtain ⟨an, ag⟩ := SA
  obtain ⟨zn, zg⟩ := SZ
  obtain ⟨wn, wg⟩ := SW
  obtain ⟨lo, hi⟩ := b
  obtain ⟨⟨Gn, Gh, Gl⟩, Gd⟩ := G
  obtain ⟨⟨an1, ah1, al1⟩, ad1⟩ := F1
  obtain ⟨⟨an2, ah2, al2⟩, ad2⟩ := F2
  obtain ⟨⟨an3, ah3, al3⟩, ad3⟩ := F3
  simp only [slc, bnd, frc, cfS] at *
  rcases hX with ⟨rfl, rfl⟩ | ⟨o, e, rfl, ho, hox, hSo⟩
  ·rcases hY with ⟨rfl, rfl⟩ | ⟨p, e', rfl, hp, hpx, hSp⟩
   ·rw [show zaf [] = [] from rfl] at e1 e2
    have t1 := e1.symm.trans e2
    simp at t1
    obtain ⟨rfl, rfl⟩ := t1
    have t2 := e4.symm.trans e5
    simp at t2
    obtain ⟨rfl, rfl, rfl, rfl⟩ := t2
    have t3 := e10.symm.trans e11
    simp at t3
    subst t3
    by_cases p1 : cfg.rw ≤ an
    ·have p2 := p1
     ·by_cases p3 : 0 < CC
      ·simp [-getElem?_pos, zdc, v1, v3, v5, v6, v7, v9, v11, v14, v16, v17, S0, S1, S2, S3, S4, hlt, e1, e2, e3, e4, e5, e6, e7, e8, e9, e10, e11, e12, p1, p2, p3, q0, q1, q2, q3, q4, n3]
      ·simp [-getElem?_pos, zdc, v1, v3, v5, v6, v7, v9, v11, v14, v16, v17, S0, S1, S2, S3, S4, hlt, e1, e2, e3, e4, e5, e6, e7, e8, e9, e10, e11, e12, p1, p2, p3, q0, q1, q2, q3, q4, n3]
    ·have p2 := p1
     have p3 := p1
     simp [-getElem?_pos, zdc, v1, v3, v5, v6, v7, v9, v11, v14, v16, v17, S0, S1, S2, S3, S4, hlt, e1, e2, e3, e4, e5, e6, e7, e8, e9, e10, e11, e12, p1, p2, p3, q0, q1, q2, q3, q4, n3]
   ·rw [show zaf [] = [] from rfl] at e1
    have qp := fr hpx
    have pp := fr hp
    have y0 : ¬ p = 0 := by omega
    have y1 : ¬ p = 1 := by omega
    have y2 : ¬ p = 2 := by omega
    have y3 : ¬ p = 3 := by omega
    have y0' : ¬ 0 = p := by omega
    have y1' : ¬ 1 = p := by omega
    have y2' : ¬ 2 = p := by omega
    have y3' : ¬ 3 = p := by omega
    by_cases p1 : cfg.rw ≤ an
    ·by_cases p2 : cfg.rw ≤ zn
     ·by_cases p3 : 0 < CC
      ·simp [-getElem?_pos, zdc, v1, v3, v5, v6, v7, v9, v11, v14, v16, v17, S0, S1, S2, S3, S4, hlt, e1, e2, e3, e4, e5, e6, e7, e8, e9, e10, e11, e12, p1, p2, p3, q0, q1, q2, q3, q4, n3, hSp, qp, pp, y0, y1, y2, y3, y0', y1', y2', y3']
      ·simp [-getElem?_pos, zdc, v1, v3, v5, v6, v7, v9, v11, v14, v16, v17, S0, S1, S2, S3, S4, hlt, e1, e2, e3, e4, e5, e6, e7, e8, e9, e10, e11, e12, p1, p2, p3, q0, q1, q2, q3, q4, n3, hSp, qp, pp, y0, y1, y2, y3, y0', y1', y2', y3']
     ·have p3 := p2
      simp [-getElem?_pos, zdc, v1, v3, v5, v6, v7, v9, v11, v14, v16, v17, S0, S1, S2, S3, S4, hlt, e1, e2, e3, e4, e5, e6, e7, e8, e9, e10, e11, e12, p1, p2, p3, q0, q1, q2, q3, q4, n3, hSp, qp, pp, y0, y1, y2, y3, y0', y1', y2', y3']
    ·have p2 := p1
     have p3 := p1
     simp [-getElem?_pos, zdc, v1, v3, v5, v6, v7, v9, v11, v14, v16, v17, S0, S1, S2, S3, S4, hlt, e1, e2, e3, e4, e5, e6, e7, e8, e9, e10, e11, e12, p1, p2, p3, q0, q1, q2, q3, q4, n3, hSp, qp, pp, y0, y1, y2, y3, y0', y1', y2', y3']
  ·rcases hY with ⟨rfl, rfl⟩ | ⟨p, e', rfl, hp, hpx, hSp⟩
   ·rw [show zaf [] = [] from rfl] at e2
    have qo := fr hox
    have po := fr ho
    have o0 : ¬ o = 0 := by omega
    have o1 : ¬ o = 1 := by omega
    have o2 : ¬ o = 2 := by omega
    have o3 : ¬ o = 3 := by omega
    have o0' : ¬ 0 = o := by omega
    have o1' : ¬ 1 = o := by omega
    have o2' : ¬ 2 = o := by omega
    have o3' : ¬ 3 = o := by omega
    by_cases p1 : cfg.rw ≤ an
    ·by_cases p2 : cfg.rw ≤ zn
     ·by_cases p3 : 0 < CC
      ·simp [-getElem?_pos, zdc, v1, v3, v5, v6, v7, v9, v11, v14, v16, v17, S0, S1, S2, S3, S4, hlt, e1, e2, e3, e4, e5, e6, e7, e8, e9, e10, e11, e12, p1, p2, p3, q0, q1, q2, q3, q4, n3, hSo, qo, po, o0, o1, o2, o3, o0', o1', o2', o3']
      ·simp [-getElem?_pos, zdc, v1, v3, v5, v6, v7, v9, v11, v14, v16, v17, S0, S1, S2, S3, S4, hlt, e1, e2, e3, e4, e5, e6, e7, e8, e9, e10, e11, e12, p1, p2, p3, q0, q1, q2, q3, q4, n3, hSo, qo, po, o0, o1, o2, o3, o0', o1', o2', o3']
     ·have p3 := p2
      simp [-getElem?_pos, zdc, v1, v3, v5, v6, v7, v9, v11, v14, v16, v17, S0, S1, S2, S3, S4, hlt, e1, e2, e3, e4, e5, e6, e7, e8, e9, e10, e11, e12, p1, p2, p3, q0, q1, q2, q3, q4, n3, hSo, qo, po, o0, o1, o2, o3, o0', o1', o2', o3']
    ·have p2 := p1
     have p3 := p1
     simp [-getElem?_pos, zdc, v1, v3, v5, v6, v7, v9, v11, v14, v16, v17, S0, S1, S2, S3, S4, hlt, e1, e2, e3, e4, e5, e6, e7, e8, e9, e10, e11, e12, p1, p2, p3, q0, q1, q2, q3, q4, n3, hSo, qo, po, o0, o1, o2, o3, o0', o1', o2', o3']
   ·have qo := fr hox
    have po := fr ho
    have o0 : ¬ o = 0 := by omega
    have o1 : ¬ o = 1 := by omega
    have o2 : ¬ o = 2 := by omega
    have o3 : ¬ o = 3 := by omega
    have o0' : ¬ 0 = o := by omega
    have o1' : ¬ 1 = o := by omega
    have o2' : ¬ 2 = o := by omega
    have o3' : ¬ 3 = o := by omega
    have qp := fr hpx
    have pp := fr hp
    have y0 : ¬ p = 0 := by omega
    have y1 : ¬ p = 1 := by omega
    have y2 : ¬ p = 2 := by omega
    have y3 : ¬ p = 3 := by omega
    have y0' : ¬ 0 = p := by omega
    have y1' : ¬ 1 = p := by omega
    have y2' : ¬ 2 = p := by omega
    have y3' : ¬ 3 = p := by omega
    have op : ¬ o = p := hXY _ _ _ _ _ _ rfl rfl
    have op' : ¬ p = o := fun h => op h.symm
    by_cases p1 : cfg.rw ≤ an
    ·by_cases p2 : cfg.rw ≤ zn
     ·by_cases p3 : 0 < CC
      ·simp [-getElem?_pos, zdc, v1, v3, v5, v6, v7, v9, v11, v14, v16, v17, S0, S1, S2, S3, S4, hlt, e1, e2, e3, e4, e5, e6, e7, e8, e9, e10, e11, e12, p1, p2, p3, q0, q1, q2, q3, q4, n3, hSo, qo, po, o0, o1, o2, o3, o0', o1', o2', o3', hSp, qp, pp, y0, y1, y2, y3, y0', y1', y2', y3', op, op']
      ·simp [-getElem?_pos, zdc, v1, v3, v5, v6, v7, v9, v11, v14, v16, v17, S0, S1, S2, S3, S4, hlt, e1, e2, e3, e4, e5, e6, e7, e8, e9, e10, e11, e12, p1, p2, p3, q0, q1, q2, q3, q4, n3, hSo, qo, po, o0, o1, o2, o3, o0', o1', o2', o3', hSp, qp, pp, y0, y1, y2, y3, y0', y1', y2', y3', op, op']
     ·have p3 := p2
      simp [-getElem?_pos, zdc, v1, v3, v5, v6, v7, v9, v11, v14, v16, v17, S0, S1, S2, S3, S4, hlt, e1, e2, e3, e4, e5, e6, e7, e8, e9, e10, e11, e12, p1, p2, p3, q0, q1, q2, q3, q4, n3, hSo, qo, po, o0, o1, o2, o3, o0', o1', o2', o3', hSp, qp, pp, y0, y1, y2, y3, y0', y1', y2', y3', op, op']
    ·have p2 := p1
     have p3 := p1
     simp [-getElem?_pos, zdc, v1, v3, v5, v6, v7, v9, v11, v14, v16, v17, S0, S1, S2, S3, S4, hlt, e1, e2, e3, e4, e5, e6, e7, e8, e9, e10, e11, e12, p1, p2, p3, q0, q1, q2, q3, q4, n3, hSo, qo, po, o0, o1, o2, o3, o0', o1', o2', o3', hSp, qp, pp, y0, y1, y2, y3, y0', y1', y2', y3', op, op']
theorem yma {c v : List (List Int)} (h : zc3 c v = true) {f : Nat} (hf : f < c.length) : ∃ a y, c[f]? = some a ∧ v[f]? = some y ∧ y.length = zcd v ∧ a.length ≤ 7 ∧ ∀ x ∈ y, 0 ≤ x ∧ x ≤ a.length := by
 have hl := (z8y h).1
 unfold zc3 at h
 simp only [Bool.and_eq_true] at h
 have hF := List.all_eq_true.mp h.2 f (by simpa using hf)
 obtain ⟨a, ha⟩ : ∃ a, c[f]? = some a := ⟨_, List.getElem?_eq_getElem hf⟩
 obtain ⟨y, hy⟩ : ∃ y, v[f]? = some y := ⟨_, List.getElem?_eq_getElem (by omega)⟩
 unfold zem at hF
 rw [ha, hy] at hF
 simp only [Bool.and_eq_true, decide_eq_true_eq] at hF
 refine ⟨a, y, ha, hy, by omega, ?_, fun x hx => zby.mp (List.all_eq_true.mp hF.2 x hx)⟩
 have := hF.1.1
 unfold zew at this
 simp only [Bool.and_eq_true, decide_eq_true_eq] at this
 omega
theorem z5v {s : Sl} (h : gS s) : smS 40 s := by
 obtain ⟨a1, a2, a3, a4⟩ := h
 exact ⟨a1, a2, by omega, by omega⟩
theorem ynk {y g rows : List Int} {k : Int} (hv : ∀ r ∈ rows, ∃ x, atI y r = some x) (hg : ∀ x ∈ g, -2199023255552 ≤ x ∧ x ≤ 2199023255552) (hl : rows.length ≤ 40) : zcf (zah g (zau y rows k)) (zah g (zav y rows k)) = (zah g rows, true) := by
 have gA := zfx (rows := zau y rows k) hg (Nat.le_trans (List.length_filter_le _ _) hl)
 have gZ := zfx (rows := zav y rows k) hg (Nat.le_trans (List.length_filter_le _ _) hl)
 rw [(yn0 (z5v gA) (z5v gZ) (by omega)).1]
 obtain ⟨a1, a2⟩ := ybh (g := g) (b := k) rows hv
 unfold zah
 have g1 : ∀ r : List Int, (r.map fun r => (atI g r).getD 0).sum = zi4 g r := fun r => rfl
 rw [g1, g1, g1]
 simp only [Prod.mk.injEq, Sl.mk.injEq, and_true]
 omega
structure GH (c v : List (List Int)) (g : List Int) (cfg : Cfg) : Prop where
 tk : zgs c v g cfg = true
 sg : cfg.sg.length ≤ 1048576
theorem GH.la {c v : List (List Int)} {g : List Int} {cfg : Cfg} (h : GH c v g cfg) : 1 ≤ cfg.la ∧ cfg.la ≤ 100 ∧ 0 ≤ cfg.de ∧ cfg.de ≤ 4 := z81 (zjd h.tk).2.1
theorem GH.gb {c v : List (List Int)} {g : List Int} {cfg : Cfg} (h : GH c v g cfg) : ∀ x ∈ g, -2199023255552 ≤ x ∧ x ≤ 2199023255552 := (zjd h.tk).2.2.2
theorem GH.gl {c v : List (List Int)} {g : List Int} {cfg : Cfg} (h : GH c v g cfg) : g.length ≤ 40 ∧ c.length ≤ 4 ∧ v.length ≤ 4 := by
 obtain ⟨h1, _, h3, _⟩ := zjd h.tk
 have := z7q h1
 have := z8y h1
 omega
theorem GH.at {c v : List (List Int)} {g : List Int} {cfg : Cfg} (h : GH c v g cfg) {f : Nat} (hf : f < c.length) : ∃ a y, c[f]? = some a ∧ v[f]? = some y ∧ y.length = g.length ∧ a.length ≤ 7 := by
 obtain ⟨h1, _, h3, _⟩ := zjd h.tk
 obtain ⟨a, y, e1, e2, e3, e4, _⟩ := yma h1 hf
 exact ⟨a, y, e1, e2, by omega, e4⟩
theorem GH.may {c v : List (List Int)} {g : List Int} {cfg : Cfg} (h : GH c v g cfg) {x : Pnd} (hx : zjl g.length cfg.de x) (hb : zcu x.b = true) {f k : Nat} (hf : f < c.length) : zgn cfg x.b (zaq v g x.r f k) = wyB cfg x.b (zaq v g x.r f k) (zah g x.r) ∧ gS (zaq v g x.r f k).a ∧ gS (zaq v g x.r f k).z := by
 obtain ⟨a, y, e1, e2, e3, _⟩ := h.at hf
 have hyd : v.getD f [] = y := by simp [e2]
 have hl := h.gl
 have hr40 : x.r.length ≤ 40 := by have := hx.2.1; omega
 have hv : ∀ r ∈ x.r, ∃ z, atI y r = some z := fun r hr => by
  obtain ⟨r0, r1⟩ := hx.1 r hr
  obtain ⟨rn, rfl⟩ : ∃ rn : Nat, r = rn := ⟨r.toNat, by omega⟩
  refine ⟨y[rn]'(by omega), ?_⟩
  unfold atI
  simp
 have gA := zfx (rows := zau y x.r k) h.gb (Nat.le_trans (List.length_filter_le _ _) hr40)
 have gZ := zfx (rows := zav y x.r k) h.gb (Nat.le_trans (List.length_filter_le _ _) hr40)
 unfold zaq
 rw [hyd]
 exact ⟨yqd (zjd h.tk).2.1 hb gA gZ (zfx h.gb hr40) (ynk hv h.gb hr40) h.la.1 h.la.2.1, gA, gZ⟩
def WB (v : List (List Int)) (g rows : List Int) (la : Int) (S : Nat → Option Ob) (nx : Nat) (acc : Option Cnd) (B : List PV) (fd : PV) : Prop := (acc = none ∧ B = [iv 0, iv 0, .e0, .e0, bv false, uv 0, uv 0, iv 0] ∧ fd = bv false) ∨ ∃ (f k o e p e' : Nat), acc = some (zaq v g rows f k) ∧ B = [iv f, iv k, .ref o none e 0 (zau (v.getD f []) rows k).length, .ref p none e' 0 (zav (v.getD f []) rows k).length] ++ frc (zbi (zaq v g rows f k) la).1 ∧ fd = bv true ∧ 4 < o ∧ o < nx ∧ 4 < p ∧ p < nx ∧ ¬ o = p ∧ S o = some (.row 1 (zaf (zau (v.getD f []) rows k))) ∧ S p = some (.row 1 (zaf (zav (v.getD f []) rows k)))
theorem WB.up {v : List (List Int)} {g rows : List Int} {la : Int} {S S' : Nat → Option Ob} {nx nx' : Nat} {acc : Option Cnd} {B : List PV} {fd : PV} (h : WB v g rows la S nx acc B fd) (hn : nx ≤ nx') (hS : ∀ o, 4 < o → o < nx → S' o = S o) : WB v g rows la S' nx' acc B fd := by
 rcases h with h | ⟨f, k, o, e, p, e', h1, h2, h3, h4, h5, h6, h7, h8, h9, h10⟩
 ·exact .inl h
 ·exact .inr ⟨f, k, o, e, p, e', h1, h2, h3, h4, by omega, h6, by omega, h8, by rw [hS o h4 h5]; exact h9, by rw [hS p h6 h7]; exact h10⟩
theorem yoj : frI ⟨⟨false, 0, 0⟩, 0⟩ := ⟨⟨by decide, by decide, by decide, by decide⟩, by decide, by decide⟩
theorem z6a {b : Bd} (h : zcu b = true) : inI b.lo ∧ inI b.hi := by
 unfold zcu zev at h
 simp only [Bool.and_eq_true, decide_eq_true_eq, zby] at h
 exact ⟨⟨by omega, by omega⟩, ⟨by omega, by omega⟩⟩
theorem zwz {x lo hi : Int} (h1 : inI lo) (h2 : inI hi) : inI (za4 x lo hi) := by
 unfold za4
 obtain ⟨a1, a2⟩ := h1
 obtain ⟨a3, a4⟩ := h2
 split
 ·exact ⟨a1, a2⟩
 ·split
  ·exact ⟨a3, a4⟩
  ·exact ⟨by omega, by omega⟩
abbrev zqt (q : Bool) (c v : List (List Int)) (g : List Int) (cfg : Cfg) (x : Pnd) : List PV := [.agg [.sl 1 (rws q c), .sl 1 (rws q v)], .sl 1 (zaf g), cfS cfg, .sl 1 (zaf x.r), .agg (bnd x.b), iv x.l]
set_option maxHeartbeats 4000000 in
set_option maxRecDepth 4000 in
theorem ykh (q : Bool) {c v : List (List Int)} {g : List Int} {cfg : Cfg} (H : GH c v g cfg) : ∀ (N : Nat) (x : Pnd), zjl g.length cfg.de x → zcu x.b = true → (cfg.de - x.l).toNat = N → RUN T zip (zqt q c v g cfg x) = some ([.agg (snC true (zbu c v g cfg N x))], []) := by
 intro N
 induction N with
 | zero =>
  intro x hx hb hN
  have hle : ¬ x.l < cfg.de := by omega
  have hle' : cfg.de ≤ x.l := by omega
  have hgl := H.gl
  have hr40 : x.r.length ≤ 40 := by have := hx.2.1; omega
  have gW := zfx (g := g) (rows := x.r) H.gb hr40
  have e1 := zk5 g x.r H.gb hx.1 (by omega)
  have e2 := zn2 (zah g x.r) cfg.la x.b gW H.la.1 H.la.2.1
  have hc0 : (0 : Int) < c.length := by
   have := (zjd H.tk).1
   unfold zc3 at this
   simp only [Bool.and_eq_true] at this
   have := zby.mp this.1.1.1
   omega
  have hc0' : 0 < c.length := by omega
  simp only [zbu, zox, zjm gW H.la.1 H.la.2.1 hb]
  generalize za4 (fdv (zah g x.r).g ((zah g x.r).n + cfg.la)).1 x.b.lo x.b.hi = V at *
  generalize zah g x.r = SW at *
  obtain ⟨wn, wg⟩ := SW
  obtain ⟨xr, ⟨lo, hi⟩, xl⟩ := x
  simp only [slc, bnd, cfS, zqt, snC, snL, zec, if_true] at *
  refine zae zxw rfl ?_
  simp [-getElem?_pos, zps, zpt]
  refine zbs (fun n st => st.V 1 = .sl 1 (zaf g) ∧ st.V 3 = .sl 1 (zaf xr) ∧ st.V 5 = iv xl ∧ st.V 6 = .ptr 0 none 0 0 0 ∧ st.V 8 = .ptr 1 none 0 0 0 ∧ st.V 10 = .ptr 2 none 0 0 0 ∧ st.V 12 = .ptr 3 none 0 0 0 ∧ st.V 14 = bv false ∧ st.V 15 = iv 0 ∧ st.S 0 = some (.box [.sl 1 (rws q c), .sl 1 (rws q v)]) ∧ st.S 1 = some (.box [iv cfg.ro, iv cfg.de, iv cfg.bi, iv cfg.la, iv cfg.rw, iv cfg.nu, iv cfg.dn, .sl 1 (zaf cfg.sg)]) ∧ st.S 2 = some (.box [iv lo, iv hi]) ∧ st.S 3 = some (.box [iv 0, iv 0, iv 0, .e0])) ?_ 0 _ (by simp)
  rintro n st ⟨v1, v3, v5, v6, v8, v10, v12, v14, v15, S0, S1, S2, S3⟩
  simp [-getElem?_pos, zpr, v1, v3, v5, v6, v8, v10, v12, v14, v15, S0, S1, S2, S3, hc0', hle, e1, e2]
 | succ N ih =>
  intro x hx hb hN
  have hgl := H.gl
  have hr40 : x.r.length ≤ 40 := by have := hx.2.1; omega
  have hBf := z0k (v := v) (g := g) (rows := x.r) (c := c) (cfg := cfg) (b := x.b)
  obtain ⟨R, hR⟩ : ∃ R, R = snC true (zbu c v g cfg (N + 1) x) := ⟨_, rfl⟩
  rw [← hR]
  have hlv : x.l < cfg.de := by omega
  obtain ⟨X, hX⟩ : ∃ X, X = x := ⟨_, rfl⟩
  obtain ⟨xr, ⟨lo, hi⟩, xl⟩ := x
  simp only at hr40 hBf hlv hN
  simp only [bnd, cfS, zqt]
  have hr1 : zb7 8 1 = true := by decide
  refine zae zxw rfl ?_
  simp [-getElem?_pos, zps, zpt]
  refine zbs (fun n st => ∃ (f : Nat) (B : List PV) (fd : PV), f + n = c.length ∧ 4 < st.nx ∧ st.V 15 = iv f ∧ WB v g xr cfg.la st.S st.nx (zcw c v g cfg xr ⟨lo, hi⟩ f) B fd ∧ st.V 1 = .sl 1 (zaf g) ∧ st.V 3 = .sl 1 (zaf xr) ∧ st.V 5 = iv xl ∧ st.V 6 = .ptr 0 none 0 0 0 ∧ st.V 8 = .ptr 1 none 0 0 0 ∧ st.V 10 = .ptr 2 none 0 0 0 ∧ st.V 12 = .ptr 3 none 0 0 0 ∧ st.V 13 = .ptr 4 none 0 0 0 ∧ st.V 14 = fd ∧ st.S 0 = some (.box [.sl 1 (rws q c), .sl 1 (rws q v)]) ∧ st.S 1 = some (.box [iv cfg.ro, iv cfg.de, iv cfg.bi, iv cfg.la, iv cfg.rw, iv cfg.nu, iv cfg.dn, .sl 1 (zaf cfg.sg)]) ∧ st.S 2 = some (.box [iv lo, iv hi]) ∧ st.S 3 = some (.box [iv 0, iv 0, iv 0, .e0]) ∧ st.S 4 = some (.box B)) ?_ c.length _ ⟨0, _, _, by omega, by simp, by simp, .inl ⟨rfl, rfl, rfl⟩, by simp⟩
  rintro n st ⟨f, B, fd, hfn, hnx, v15, hW, v1, v3, v5, v6, v8, v10, v12, v13, v14, S0, S1, S2, S3, S4⟩
  by_cases hf : f < c.length
  ·obtain ⟨a, y, ha, hy, hyl, ha7⟩ := H.at hf
   have ha' := zeh (q := q) ha
   have hcd : c.getD f [] = a := by simp [ha]
   have hyd : v.getD f [] = y := by simp [hy]
   have hfl : f < v.length := (List.getElem?_eq_some_iff.mp hy).1
   have hwf := wS hf (by omega : c.length ≤ 9223372036854775807)
   simp [-getElem?_pos, zpr, v1, v3, v5, v6, v8, v10, v12, v13, v14, S0, S1, S2, S3, S4, v15, hf, hlv]
   refine zbs (fun n st => ∃ (k : Nat) (B : List PV) (fd : PV), k + n = a.length ∧ 4 < st.nx ∧ st.V 15 = iv f ∧ st.V 16 = iv k ∧ WB v g xr cfg.la st.S st.nx (zds v g cfg xr ⟨lo, hi⟩ f (zcw c v g cfg xr ⟨lo, hi⟩ f) k) B fd ∧ st.V 1 = .sl 1 (zaf g) ∧ st.V 3 = .sl 1 (zaf xr) ∧ st.V 5 = iv xl ∧ st.V 6 = .ptr 0 none 0 0 0 ∧ st.V 8 = .ptr 1 none 0 0 0 ∧ st.V 10 = .ptr 2 none 0 0 0 ∧ st.V 12 = .ptr 3 none 0 0 0 ∧ st.V 13 = .ptr 4 none 0 0 0 ∧ st.V 14 = fd ∧ st.S 0 = some (.box [.sl 1 (rws q c), .sl 1 (rws q v)]) ∧ st.S 1 = some (.box [iv cfg.ro, iv cfg.de, iv cfg.bi, iv cfg.la, iv cfg.rw, iv cfg.nu, iv cfg.dn, .sl 1 (zaf cfg.sg)]) ∧ st.S 2 = some (.box [iv lo, iv hi]) ∧ st.S 3 = some (.box [iv 0, iv 0, iv 0, .e0]) ∧ st.S 4 = some (.box B)) ?_ a.length _ ⟨0, B, fd, by omega, by simp; omega, by simp [v15], by simp, hW, by simp [v1, v3, v5, v6, v8, v10, v12, v13, v14, S0, S1, S2, S3, S4]⟩
   clear hW v1 v3 v5 v6 v8 v10 v12 v13 v14 S0 S1 S2 S3 S4 v15 hnx
   clear B fd
   rintro m st ⟨k, B, fd, hkm, hnx, v15, v16, hW, v1, v3, v5, v6, v8, v10, v12, v13, v14, S0, S1, S2, S3, S4⟩
   have q0 := fr (by omega : 0 < st.nx)
   have q1 := fr (by omega : 1 < st.nx)
   have q2 := fr (by omega : 2 < st.nx)
   have q3 := fr (by omega : 3 < st.nx)
   have q4 := fr (by omega : 4 < st.nx)
   have n4 : ¬ st.nx = 4 := by omega
   have n3 : ¬ st.nx = 3 := by omega
   by_cases hk : k < a.length
   ·have eP := ykg q c v g cfg xr ⟨lo, hi⟩ f k y hy (by omega) (by omega) (fun r hr => by rw [hyl]; exact hx.1 r hr) hx.1 H.gb hr40 H.sg H.la.1 H.la.2.1
    obtain ⟨m1, m2, m3⟩ := H.may hx hb (k := k) hf
    simp only at m1 m2 m3
    rw [← m1, ← hyd] at eP
    have hwk := wS hk (by omega : a.length ≤ 9223372036854775807)
    obtain ⟨_, g1, g2⟩ := zoc m2 m3 H.la.1 H.la.2.1
    obtain ⟨G, hG⟩ : ∃ G, G = (zbi (zaq v g xr f k) cfg.la).1 := ⟨_, rfl⟩
    rw [← hG] at eP g2
    cases hm : zgn cfg ⟨lo, hi⟩ (zaq v g xr f k) with
    | false =>
     rw [hm] at eP
     obtain ⟨⟨Gn, Gh, Gl⟩, Gd⟩ := G
     simp only [frc, bnd, cfS, List.cons_append, List.nil_append] at eP
     generalize zau (v.getD f []) xr k = L1 at *
     generalize zav (v.getD f []) xr k = L2 at *
     simp [-getElem?_pos, zns, v1, v3, v5, v6, v8, v10, v12, v13, v14, S0, S1, S2, S3, S4, v15, v16, ha', hk, hf, hwk, eP, q0, q1, q2, q3, q4]
     have hst : zds v g cfg xr ⟨lo, hi⟩ f (zcw c v g cfg xr ⟨lo, hi⟩ f) (k + 1) = zds v g cfg xr ⟨lo, hi⟩ f (zcw c v g cfg xr ⟨lo, hi⟩ f) k := by rw [zk7]; unfold zg3; rw [if_neg (by rw [hm]; simp)]
     rw [← hst] at hW
     exact za8 (m - 1) (by omega) ⟨k + 1, B, fd, by omega, by simp; omega, by simp [v15], by simp, (hW.up (by simp; omega) (fun o h1 h2 => by
      have a1 := fr h1
      have a2 := fr h2
      simp [a1, a2])), by simp [v1], by simp [v3], by simp [v5], by simp [v6], by simp [v8], by simp [v10], by simp [v12], by simp [v13], by simp [v14], by simp [S0, q0, q1, q2, q3, q4], by simp [S1, q0, q1, q2, q3, q4], by simp [S2, q0, q1, q2, q3, q4], by simp [S3, q0, q1, q2, q3, q4], by simp [S4, q0, q1, q2, q3, q4]⟩
    | true =>
     rw [hm] at eP
     have nW : ∀ (S : Nat → Option Ob) (nx o e p e' : Nat) (h4 : 4 < o) (ho : o < nx) (h5 : 4 < p) (hp : p < nx) (hop : ¬ o = p) (hSo : S o = some (.row 1 (zaf (zau (v.getD f []) xr k)))) (hSp : S p = some (.row 1 (zaf (zav (v.getD f []) xr k)))), WB v g xr cfg.la S nx (some (zaq v g xr f k)) ([iv f, iv k, .ref o none e 0 (zau (v.getD f []) xr k).length, .ref p none e' 0 (zav (v.getD f []) xr k).length] ++ frc G) (bv true) := fun S nx o e p e' h4 ho h5 hp hop hSo hSp => .inr ⟨f, k, o, e, p, e', rfl, by rw [hG], rfl, h4, ho, h5, hp, hop, hSo, hSp⟩
     rcases hW with ⟨w1, w2, w3⟩ | ⟨f', k', o, e, p, e', w1, w2, w3, o1, o2, p1, p2, hop, hSo, hSp⟩
     ·have hst : zds v g cfg xr ⟨lo, hi⟩ f (zcw c v g cfg xr ⟨lo, hi⟩ f) (k + 1) = some (zaq v g xr f k) := by rw [zk7, w1]; unfold zg3; rw [if_pos hm]
      rw [← hst] at nW
      have eC := zyb G ⟨⟨false, 0, 0⟩, 0⟩ (g2.I (by omega)) yoj
      generalize zda G ⟨⟨false, 0, 0⟩, 0⟩ = CC at *
      obtain ⟨CC, cb⟩ := CC
      subst w2 w3
      obtain ⟨⟨Gn, Gh, Gl⟩, Gd⟩ := G
      simp only [frc, bnd, cfS, List.cons_append, List.nil_append] at eP eC nW
      generalize zau (v.getD f []) xr k = L1 at *
      generalize zav (v.getD f []) xr k = L2 at *
      simp [-getElem?_pos, zns, v1, v3, v5, v6, v8, v10, v12, v13, v14, S0, S1, S2, S3, S4, v15, v16, ha', hk, hf, hwk, eP, eC, q0, q1, q2, q3, q4]
      exact za8 (m - 1) (by omega) ⟨k + 1, _, _, by omega, by simp; omega, by simp [v15], by simp, nW _ _ st.nx st.ep (st.nx + 1) st.ep hnx (by simp; omega) (by omega) (by simp) (by omega) (by simp [q0, q1, q2, q3, q4, n4]) (by simp [q0, q1, q2, q3, q4, n3]), by simp [v1], by simp [v3], by simp [v5], by simp [v6], by simp [v8], by simp [v10], by simp [v12], by simp [v13], by simp, by simp [S0, q0, q1, q2, q3, q4], by simp [S1, q0, q1, q2, q3, q4], by simp [S2, q0, q1, q2, q3, q4], by simp [S3, q0, q1, q2, q3, q4], by simp⟩
     ·have hb0 := zwm (f := f) (a := zcw c v g cfg xr ⟨lo, hi⟩ f) (hBf f (by omega)) hf k (by rw [hcd]; omega)
      rw [w1] at hb0
      have hlc := ynp hb0
      have hf' : f' < c.length := by
       obtain ⟨f2, k2, x1, _, x3, _⟩ := hb0 _ rfl
       have x4 : (zaq v g xr f' k').f = (zaq v g xr f2 k2).f := by rw [x1]
       simp only [zaq] at x4
       omega
      obtain ⟨_, m5, m6⟩ := H.may hx hb (k := k') hf'
      simp only at m5 m6
      obtain ⟨_, _, g5⟩ := zoc m5 m6 H.la.1 H.la.2.1
      have hbt := yqg m2 m3 m5 m6 H.la.1 H.la.2.1 hlc
      have hst : zds v g cfg xr ⟨lo, hi⟩ f (zcw c v g cfg xr ⟨lo, hi⟩ f) (k + 1) = if 0 < (zda G (zbi (zaq v g xr f' k') cfg.la).1).1 then some (zaq v g xr f k) else some (zaq v g xr f' k') := by
       rw [zk7, w1]
       unfold zg3
       rw [if_pos hm]
       simp only [hbt, ← hG, decide_eq_true_eq]
      have oW : WB v g xr cfg.la st.S st.nx (some (zaq v g xr f' k')) B fd := .inr ⟨f', k', o, e, p, e', rfl, w2, w3, o1, o2, p1, p2, hop, hSo, hSp⟩
      obtain ⟨G', hG'⟩ : ∃ G', G' = (zbi (zaq v g xr f' k') cfg.la).1 := ⟨_, rfl⟩
      rw [← hG'] at w2 hst g5
      have eC := zyb G G' (g2.I (by omega)) (g5.I (by omega))
      clear hbt hG hG'
      generalize zda G G' = CC at *
      obtain ⟨CC, cb⟩ := CC
      obtain ⟨⟨Gn, Gh, Gl⟩, Gd⟩ := G
      obtain ⟨⟨Gn', Gh', Gl'⟩, Gd'⟩ := G'
      simp only [frc, bnd, cfS, List.cons_append, List.nil_append] at eP eC nW w2 hst
      have S4' := S4
      rw [w2] at S4'
      have v14' := v14
      rw [w3] at v14'
      have r1 := fr o2
      have r2 := fr p2
      have r3 := fr o1
      have r4 := fr p1
      by_cases hcc : 0 < CC
      ·rw [if_pos hcc] at hst
       rw [← hst] at nW
       clear hst oW S4
       generalize zau (v.getD f []) xr k = L1 at *
       generalize zav (v.getD f []) xr k = L2 at *
       simp [-getElem?_pos, zns, v1, v3, v5, v6, v8, v10, v12, v13, v14', S0, S1, S2, S3, S4', v15, v16, ha', hk, hf, hwk, eP, eC, hcc, q0, q1, q2, q3, q4]
       exact za8 (m - 1) (by omega) ⟨k + 1, _, _, by omega, by simp; omega, by simp [v15], by simp, nW _ _ st.nx st.ep (st.nx + 1) st.ep hnx (by simp; omega) (by omega) (by simp) (by omega) (by simp [q0, q1, q2, q3, q4, n4]) (by simp [q0, q1, q2, q3, q4, n3]), by simp [v1], by simp [v3], by simp [v5], by simp [v6], by simp [v8], by simp [v10], by simp [v12], by simp [v13], by simp, by simp [S0, q0, q1, q2, q3, q4], by simp [S1, q0, q1, q2, q3, q4], by simp [S2, q0, q1, q2, q3, q4], by simp [S3, q0, q1, q2, q3, q4], by simp⟩
      ·rw [if_neg hcc] at hst
       rw [← hst] at oW
       clear hst nW
       generalize zau (v.getD f []) xr k = L1 at *
       generalize zav (v.getD f []) xr k = L2 at *
       simp [-getElem?_pos, zns, v1, v3, v5, v6, v8, v10, v12, v13, v14', S0, S1, S2, S3, S4', v15, v16, ha', hk, hf, hwk, eP, eC, hcc, q0, q1, q2, q3, q4]
       exact za8 (m - 1) (by omega) ⟨k + 1, B, fd, by omega, by simp; omega, by simp [v15], by simp, (oW.up (by simp; omega) (fun o h1 h2 => by
        have a1 := fr h1
        have a2 := fr h2
        simp [a1, a2])), by simp [v1], by simp [v3], by simp [v5], by simp [v6], by simp [v8], by simp [v10], by simp [v12], by simp [v13], by simp [v14], by simp [S0, q0, q1, q2, q3, q4], by simp [S1, q0, q1, q2, q3, q4], by simp [S2, q0, q1, q2, q3, q4], by simp [S3, q0, q1, q2, q3, q4], by simp [S4, q0, q1, q2, q3, q4]⟩
   ·have hke : k = a.length := by omega
    subst hke
    have hst : zcw c v g cfg xr ⟨lo, hi⟩ (f + 1) = zds v g cfg xr ⟨lo, hi⟩ f (zcw c v g cfg xr ⟨lo, hi⟩ f) a.length := by rw [zyf, hcd]
    rw [← hst] at hW
    simp [-getElem?_pos, zns, v1, v3, v5, v6, v8, v10, v12, v13, v14, S0, S1, S2, S3, S4, v15, v16, ha', hf, hwf, q0, q1, q2, q3, q4]
    exact za8 (n - 1) (by omega) ⟨f + 1, B, fd, by omega, by simp; omega, by simp, hW, by simp [v1, v3, v5, v6, v8, v10, v12, v13, v14, S0, S1, S2, S3, S4]⟩
  ·have hfe : f = c.length := by omega
   subst hfe
   have q0 := fr (by omega : 0 < st.nx)
   have q1 := fr (by omega : 1 < st.nx)
   have q2 := fr (by omega : 2 < st.nx)
   have q3 := fr (by omega : 3 < st.nx)
   have q4 := fr (by omega : 4 < st.nx)
   have n4 : ¬ st.nx = 4 := by omega
   have n3 : ¬ st.nx = 3 := by omega
   have gW := zfx (g := g) (rows := xr) H.gb hr40
   have hb0 := hBf c.length (Nat.le_refl _)
   rcases hW with ⟨w1, w2, w3⟩ | ⟨f', k', o, e, p, e', w1, w2, w3, o1, o2, p1, p2, hop, hSo, hSp⟩
   ·subst w2 w3
    have e1 := zk5 g xr H.gb hx.1 (by omega)
    have e2 := zn2 (zah g xr) cfg.la ⟨lo, hi⟩ gW H.la.1 H.la.2.1
    have hR2 : R = [iv (-1), iv 0, iv (za4 (fdv (zah g xr).g ((zah g xr).n + cfg.la)).1 lo hi), .own 4 []] := by
     rw [hR]
     simp only [zbu, w1, zox, zjm gW H.la.1 H.la.2.1 hb, snC, snL, zec, if_true]
    rw [hR2]
    clear hR hR2
    generalize za4 (fdv (zah g xr).g ((zah g xr).n + cfg.la)).1 lo hi = V at *
    generalize zah g xr = SW at *
    obtain ⟨wn, wg⟩ := SW
    simp only [slc, bnd] at e1 e2
    simp [-getElem?_pos, zpr, v1, v3, v5, v6, v8, v10, v12, v13, v14, S0, S1, S2, S3, S4, v15, e1, e2, q0, q1, q2, q3, q4]
   ·rw [w1] at hb0
    have hf' : f' < c.length ∧ k' < (c.getD f' []).length := by
     obtain ⟨f2, k2, x1, _, x3, x6, _⟩ := hb0 _ rfl
     have x4 : (zaq v g xr f' k').f = (zaq v g xr f2 k2).f := by rw [x1]
     have x5 : (zaq v g xr f' k').b = (zaq v g xr f2 k2).b := by rw [x1]
     simp only [zaq] at x4 x5
     have x7 : f' = f2 := by omega
     have x8 : k' = k2 := by omega
     subst x7 x8
     exact ⟨x3, x6⟩
    obtain ⟨hf', hk'⟩ := hf'
    obtain ⟨a, y, ha, hy, hyl, ha7⟩ := H.at hf'
    have ha' := zeh (q := q) ha
    have hcd : c.getD f' [] = a := by simp [ha]
    have hyd : v.getD f' [] = y := by simp [hy]
    rw [hcd] at hk'
    obtain ⟨u, hu⟩ : ∃ u, a[k']? = some u := ⟨_, List.getElem?_eq_getElem hk'⟩
    have hu' := zcs hu
    obtain ⟨_, gA, gZ⟩ := H.may hx hb (k := k') hf'
    simp only [zaq, hyd] at gA gZ
    rw [hyd] at hSo hSp w2
    have e1 := zk5 g (zau y xr k') H.gb (fun r hr => hx.1 r (zol.1 hr)) (Nat.le_trans (List.length_filter_le _ _) (by omega))
    have e2 := zk5 g (zav y xr k') H.gb (fun r hr => hx.1 r (zol.2 hr)) (Nat.le_trans (List.length_filter_le _ _) (by omega))
    have e3 := zn2 (zah g (zau y xr k')) cfg.la ⟨lo, hi⟩ gA H.la.1 H.la.2.1
    have e4 := zn2 (zah g (zav y xr k')) cfg.la ⟨lo, hi⟩ gZ H.la.1 H.la.2.1
    have hsd : zd7 cfg ⟨lo, hi⟩ (zaq v g xr f' k') = (za4 (fdv (zah g (zau y xr k')).g ((zah g (zau y xr k')).n + cfg.la)).1 lo hi, za4 (fdv (zah g (zav y xr k')).g ((zah g (zav y xr k')).n + cfg.la)).1 lo hi, true) := by
     unfold zd7 zaq
     simp only [hyd, zjm gA H.la.1 H.la.2.1 hb, zjm gZ H.la.1 H.la.2.1 hb, Bool.and_self, if_true]
    have hK1 : ze9 c v cfg ⟨xr, ⟨lo, hi⟩, xl⟩ (zaq v g xr f' k') = ⟨zau y xr k', (zd1 (zdh cfg f') ⟨lo, hi⟩ (za4 (fdv (zah g (zau y xr k')).g ((zah g (zau y xr k')).n + cfg.la)).1 lo hi) (za4 (fdv (zah g (zav y xr k')).g ((zah g (zav y xr k')).n + cfg.la)).1 lo hi)).1, xl + 1⟩ := by
     unfold ze9
     rw [hsd]
     have : atI v (f' : Int) = some y := by unfold atI; simp [hy]
     simp only [zaq, this, Option.getD_some]
    have hK2 : zfa c v cfg ⟨xr, ⟨lo, hi⟩, xl⟩ (zaq v g xr f' k') = ⟨zav y xr k', (zd1 (zdh cfg f') ⟨lo, hi⟩ (za4 (fdv (zah g (zau y xr k')).g ((zah g (zau y xr k')).n + cfg.la)).1 lo hi) (za4 (fdv (zah g (zav y xr k')).g ((zah g (zav y xr k')).n + cfg.la)).1 lo hi)).2, xl + 1⟩ := by
     unfold zfa
     rw [hsd]
     have : atI v (f' : Int) = some y := by unfold atI; simp [hy]
     simp only [zaq, this, Option.getD_some]
    have i1 := ih _ (zws (c := c) (v := v) (k := zaq v g xr f' k') hx hlv).1 (by unfold ze9; exact (zw8 hb).1) (by simp only [ze9]; omega)
    have i2 := ih _ (zws (c := c) (v := v) (k := zaq v g xr f' k') hx hlv).2 (by unfold zfa; exact (zw8 hb).2) (by simp only [zfa]; omega)
    have hcut : (atI ((atI c (f' : Int)).getD []) (k' : Int)).getD 0 = u := by
     have : atI c (f' : Int) = some a := by unfold atI; simp [ha]
     rw [this]
     unfold atI
     simp [hu]
    have hR2 : R = snC true (.mk f' u 0 [zbu c v g cfg N (ze9 c v cfg ⟨xr, ⟨lo, hi⟩, xl⟩ (zaq v g xr f' k')), zbu c v g cfg N (zfa c v cfg ⟨xr, ⟨lo, hi⟩, xl⟩ (zaq v g xr f' k'))]) := by
     rw [hR]
     simp only [zbu, w1]
     congr 2
    rw [hK1, hK2] at hR2
    rw [hK1] at i1
    rw [hK2] at i2
    rw [hR2]
    clear hR hR2 hK1 hK2 hsd
    have e5 := z5q cfg f' (by have := H.sg; omega)
    obtain ⟨b1, b2⟩ := z6a hb
    have e6 := yj6 (zdh cfg f') ⟨lo, hi⟩ (za4 (fdv (zah g (zau y xr k')).g ((zah g (zau y xr k')).n + cfg.la)).1 lo hi) (za4 (fdv (zah g (zav y xr k')).g ((zah g (zav y xr k')).n + cfg.la)).1 lo hi) (zwz b1 b2) (zwz b1 b2)
    have hx3 := hx.2.2.1
    simp only at hx3
    have wl := w64 (x := xl + 1) (by omega) (by have := H.la; omega)
    subst w2 w3
    generalize za4 (fdv (zah g (zau y xr k')).g ((zah g (zau y xr k')).n + cfg.la)).1 lo hi = V1 at *
    generalize za4 (fdv (zah g (zav y xr k')).g ((zah g (zav y xr k')).n + cfg.la)).1 lo hi = V2 at *
    generalize zdh cfg f' = SG at *
    generalize zd1 SG ⟨lo, hi⟩ V1 V2 = SB at *
    obtain ⟨⟨l1, h1⟩, ⟨l2, h2⟩⟩ := SB
    simp only at i1 i2 e6
    generalize zbu c v g cfg N ⟨zau y xr k', ⟨l1, h1⟩, xl + 1⟩ = T1 at *
    generalize zbu c v g cfg N ⟨zav y xr k', ⟨l2, h2⟩, xl + 1⟩ = T2 at *
    obtain ⟨t11, t12, t13, t14⟩ := T1
    obtain ⟨t21, t22, t23, t24⟩ := T2
    generalize (zbi (zaq v g xr f' k') cfg.la).1 = G at *
    obtain ⟨⟨Gn, Gh, Gl⟩, Gd⟩ := G
    generalize zah g (zau y xr k') = SA at *
    generalize zah g (zav y xr k') = SZ at *
    obtain ⟨an, ag⟩ := SA
    obtain ⟨zn, zg⟩ := SZ
    generalize zau y xr k' = L1 at *
    generalize zav y xr k' = L2 at *
    have r1 := fr o2
    have r2 := fr p2
    have r3 := fr o1
    have r4 := fr p1
    have hop' : ¬ p = o := fun h => hop h.symm
    have hfl : f' < c.length := hf'
    have hr2 : zb7 48 2 = true := by decide
    simp only [slc, bnd, cfS, zqt, snC, snL, zec, if_true, frc, List.cons_append, List.nil_append] at *
    clear hBf hb0 w1 gA gZ gW ih
    simp [-getElem?_pos, zpr, v1, v3, v5, v6, v8, v10, v12, v13, v14, S0, S1, S2, S3, S4, v15, e1, e2, e3, e4, e5, e6, i1, i2, wl, ha', hu', hk', hfl, hSo, hSp, hop, hop', r1, r2, r3, r4, zbc, hr2, q0, q1, q2, q3, q4]
def NB (acc : Option Cnd) (B : List PV) (fd : PV) : Prop := (acc = none ∧ B = cnd zod ∧ fd = bv false) ∨ ∃ x, acc = some x ∧ B = cnd x ∧ fd = bv true
abbrev zq2 (q : Bool) (c v : List (List Int)) (g : List Int) (cfg : Cfg) (x : Pnd) : List PV := [.agg [.sl 1 (rws q c), .sl 1 (rws q v), .sl 1 (zaf g), iv cfg.ro, iv cfg.de, iv cfg.bi, iv cfg.la, iv cfg.rw, iv cfg.nu, iv cfg.dn, .sl 1 (zaf cfg.sg)], .sl 1 (zaf x.r), .agg (bnd x.b), iv x.l]
theorem zyh {v : List (List Int)} {g rows : List Int} {f k : Nat} (hf : f ≤ 4) (hk : k ≤ 7) (ha : gS (zaq v g rows f k).a) (hz : gS (zaq v g rows f k).z) : zh4 (zaq v g rows f k) := by
 refine ⟨?_, ?_, zwv ha, zwv hz⟩ <;> simp only [zaq, inI] <;> omega
end Go.Pe
