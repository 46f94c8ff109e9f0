/- What each function answers by the evaluator,and the law; for each answer its own conditions stand ahead of it. -/
import Derived.Test.YtadpenaldhkjcaaGreatK0
import Derived.Test.YtadpenaldhkjcaaGreatEvB2
import Derived.IntWalk
set_option linter.all false
namespace Go.Pe
open Go
theorem w64 {x:Int} (h1 : -9223372036854775808≤x) (h2:x≤9223372036854775807):IntKind.i64.wrap x=x:=IntWalk.i64_in x ⟨h1,h2⟩
@[simp] theorem y1q {x:Int} (h1 : -9223372036854775808≤x) (h2:x≤9223372036854775807):IntKind.i64.wrap x=x:=w64 h1 h2
structure Nd where
 f:Int
 c:Int
 l:Int
 r:Int
 v:Int
deriving DecidableEq
def nd (n:Nd):List PV:=[iv n.f,iv n.c,iv n.l,iv n.r,iv n.v]
@[simp] theorem zb7 (a b c:Int):RUN T zbw [iv a,iv b,iv c]=some ([bv (decide (b≤a) && decide (a≤c))],[]):=by
 refine zal z1v rfl ?_
 simp [zs1,zs2]
 refine zdd (fun h => ?_) (fun h => ?_) <;> simp [h]
@[simp] theorem zbd (a b c:Int):RUN T zb6 [iv a,iv b,iv c]=some ([bv (decide (b≤a) && decide (a≤c))],[]):=by
 refine zal z1j rfl ?_
 simp [zsp,zsq]
 refine zdd (fun h => ?_) (fun h => ?_) <;> simp [h]
def ziv {α:Type} (p:α→Bool) (l:List α):Int:=match l.findIdx? p with
 | some i=>(i:Int)
 | none => -1
theorem z48 {α:Type} {p:α→Bool} {l:List α} (h : ∀ (j:Nat) (x:α),j<l.length→l[j]?=some x→p x=false):ziv p l = -1:=by
 unfold ziv
 have:l.findIdx? p=none:=by
  rw [List.findIdx?_eq_none_iff]
  intro x hx
  obtain ⟨j,hj⟩:=List.getElem?_of_mem hx
  exact h j x (List.getElem?_eq_some_iff.mp hj).1 hj
 rw [this]
theorem z70 {α:Type} {p:α→Bool} {l:List α} {i:Nat} {x:α} (hi:l[i]?=some x) (hp:p x=true) (h : ∀ (j:Nat) (x:α),j<i→l[j]?=some x→p x=false):ziv p l=i:=by
 unfold ziv
 have:l.findIdx? p=some i:=by
  rw [List.findIdx?_eq_some_iff_getElem]
  obtain ⟨h1,h2⟩:=List.getElem?_eq_some_iff.mp hi
  refine ⟨h1,by rw [h2]; exact hp,fun j hj => ?_⟩
  have:=h j l[j] hj (List.getElem?_eq_getElem (by omega))
  simp [this]
 rw [this]
theorem z65 {α:Type} {p:α→Bool} {l:List α} {i:Nat} {x:α} (h : ∀ (j:Nat) (x:α),j<i→l[j]?=some x→p x=false) (hi:l[i]?=some x) (hp:p x=false) : ∀ (j:Nat) (x:α),j<i+1→l[j]?=some x→p x=false:=by
 intro j y hj hy
 by_cases e:j=i
 ·subst e; rw [hi] at hy; cases hy; exact hp
 ·exact h j y (by omega) hy
def z8g (k:Int) (n:Nd):Bool := !decide (n.f = -1) && (decide (n.l=k) || decide (n.r=k))
def par (t:List Nd) (k:Int):Int:=ziv (z8g k) t
theorem wS {i n:Nat} (h:i<n) (hn:n≤9223372036854775807):IntKind.i64.wrap ((i:Int)+1)=(i:Int)+1:=w64 (by omega) (by omega)
def zac (l:List Int):List (List PV):=l.map fun n=>[iv n]
@[simp] theorem y5o (l:List Int):(zac l).length=l.length:=by simp [zac]
theorem zbj {l:List Int} {i:Nat} {x:Int} (h:l[i]?=some x):(zac l)[i]?=some [iv x]:=by simp [zac,h]
@[simp] theorem yur:zac []=[]:=rfl
theorem zru (x:Int) (l:List Int):zac (x::l)=[iv x]::zac l:=rfl
theorem z6z (l:List Int) (i:Nat) (x:Int):(zac l).set i [iv x]=zac (l.set i x):=by simp [zac,List.map_set]
theorem yqk (l m:List Int):zac l++zac m=zac (l++m):=by simp [zac]
theorem zc0 (l:List Int) (x:Int):zac l++[[iv x]]=zac (l++[x]):=by simp [zac]
theorem z42 (l:List Int):zda (zac l)=true:=by simp [zda,zac]
def anc (t:List Nd):Nat→Int→Option (List Int)
 | 0,_=>none
 | n+1,k=>if par t k<0 then some [] else (anc t n (par t k)).map (par t k :: ·)
def way (t:List Nd) (k:Int):List Int:=if 0≤k∧k≤t.length-1 then match anc t 32 k with
  | some l=>(k::l).reverse
  | none=>[]
 else []
theorem zdc {n:Nat} (h:n≤17592186044416):zan 8 n=true:=by simp [zan]; omega
def upto (k:Int) (n:Nat):List Int:=(List.range n).map fun (i:Nat)=>k+(i:Int)
@[simp] theorem y1v (k:Int) (n:Nat):(upto k n).length=n:=by simp [upto]
theorem zgj {α:Type} {l:List α} {i:Nat} {x:α} (h:l[i]?=some x):l.drop i=x::l.drop (i+1):=by
 obtain ⟨h1,h2⟩:=List.getElem?_eq_some_iff.mp h
 rw [List.drop_eq_getElem_cons h1,h2]
def inI (n:Int):Prop := -9223372036854775808≤n∧n≤9223372036854775807
def box (t:List Nd) (f:Int):List Int→Int→Int→Int×Int
 | a::b::r,lo,hi=>match t[a.toNat]? with
  | none=>(lo,hi)
  | some x=>if x.f=f then (if x.l=b then box t f (b::r) lo (min hi x.c) else if x.c=9223372036854775807 then box t f (b::r) lo hi else box t f (b::r) (max lo (x.c+1)) hi) else box t f (b::r) lo hi
 | _,lo,hi=>(lo,hi)
theorem yhm {f:Nat} {p:Int→Bool} (l:List Int) (hl:l.length≤9223372036854775807) (hm:zae T f=[]) (hp : ∀ n∈l,RUN T f [iv n]=some ([bv (p n)],[])) :
  RUN T zkf [.sl 1 (zac l),.fn f []]=some ([iv (ziv p l)],[]):=by
 refine zal zxu rfl ?_
 simp [zqa,zqb]
 refine za3 (fun n st => ∃ i:Nat,i+n=l.length∧st.V 0 = .sl 1 (zac l)∧st.V 1 = .fn f []∧st.V 8=iv i∧st.V 7=iv l.length∧∀ (j:Nat) (x:Int),j<i→l[j]?=some x→p x=false) ?_ l.length _ ⟨0,by simp⟩
 rintro n st ⟨i,hi,h0,h1,h8,h7,hj⟩
 simp [zxp,h0,h1,h8,h7]
 refine zdd (fun h => ?_) (fun h => ?_)
 ·simp at h
  obtain ⟨x,hx⟩ : ∃ x,l[i]?=some x:=⟨_,List.getElem?_eq_getElem h⟩
  have hw:=wS h hl
  have hx':=zbj hx
  have hpx:=hp x (List.mem_of_getElem? hx)
  simp [-getElem?_pos,h0,h1,h8,h7,hx',hw,hm,hpx,h]
  refine zdd (fun b0 => ?_) (fun b0 => ?_) <;> (try simp at b0) <;> simp [-getElem?_pos,b0,h0,h1,h8,h7,hx',hw]
  all_goals first
   | exact (z70 hx b0 hj).symm
   | exact zaq (n-1) (by omega) ⟨i+1,by omega,by simp [h0],by simp [h1],by simp,by simp [h7],z65 hj hx b0⟩
 ·simp at h
  simp [h]
  exact (z48 fun j x hl hx=>hj j x (by omega) hx).symm
theorem z5k {α:Type} {p:α→Bool} {l:List α}:decide (0≤ziv p l)=l.any p:=by
 unfold ziv
 cases h:l.findIdx? p with
 | none =>
  rw [List.findIdx?_eq_none_iff] at h
  simp
  exact fun x hx=>h x hx
 | some i =>
  obtain ⟨h1,h2,_⟩:=List.findIdx?_eq_some_iff_getElem.mp h
  simp
  exact ⟨_,List.getElem_mem h1,h2⟩
theorem zxw {f:Nat} {p:Int→Bool} (l:List Int) (hl:l.length≤9223372036854775807) (hm:zae T f=[]) (hp : ∀ n∈l,RUN T f [iv n]=some ([bv (p n)],[])) :
  RUN T zhi [.sl 1 (zac l),.fn f []]=some ([bv (l.any p)],[]):=by
 refine zal zxt rfl ?_
 have e:=yhm l hl hm hp
 simp [zpz,zp0,e,z5k]
structure Cfg where
 ro:Int
 de:Int
 bi:Int
 la:Int
 rw:Int
 nu:Int
 dn:Int
 sg:List Int
def zak (n a b:Int):Bool:=decide (a≤n) && decide (n≤b)
def zbr (c:Cfg):Bool:=zak c.ro 1 8 && zak c.de 0 4 && zak c.bi 2 8 && zak c.la 1 100 && zak c.rw 1 20 && zak c.dn 1 1000 && zak c.nu 1 c.dn && decide ((c.sg.length:Int)≤4) && c.sg.all fun n=>zak n (-1) 1
@[simp] theorem yub (n:Int):RUN T znc [iv n]=some ([bv (zak n (-1) 1)],[]):=by
 refine zal z2j rfl ?_
 simp [zty,ztz,zak]
@[simp] theorem yhn (n:Int):RUN T zkc [iv n]=some ([bv (!zak n (-1) 1)],[]):=by
 refine zal z2i rfl ?_
 simp [ztw,ztx]
theorem zdb (a b c:Int):RUN T zbw [iv a,iv b,iv c]=some ([bv (zak a b c)],[]):=zb7 a b c
theorem zbs (a b c:Int):RUN T zb6 [iv a,iv b,iv c]=some ([bv (zak a b c)],[]):=zbd a b c
theorem z35 (c:Cfg) (hl:c.sg.length≤9223372036854775807):RUN T zj5 [.agg [iv c.ro,iv c.de,iv c.bi,iv c.la,iv c.rw,iv c.nu,iv c.dn,.sl 1 (zac c.sg)]]=some ([bv (zbr c)],[]):=by
 refine zal z1l rfl ?_
 have e:=zxw (f:=zkc) (p:=fun n => !zak n (-1) 1) c.sg hl (by simp) (fun n _=>yhn n)
 have e2 : ∀ l:List Int,(l.any fun n => !zak n (-1) 1) = !(l.all fun n=>zak n (-1) 1):=by intro l; induction l <;> simp_all
 rw [e2] at e
 simp [zst,zsu,zdb,-zb7]
 cases h0:zak c.ro 1 8 <;> cases h1:zak c.de 0 4 <;> simp [h0,h1,zdb,-zb7]
 all_goals try (simp [zbr,h0,h1]; done)
 cases h2:zak c.bi 2 8 <;> cases h3:zak c.la 1 100 <;> simp [h2,h3,zdb,-zb7]
 all_goals try (simp [zbr,h2,h3]; done)
 cases h4:zak c.rw 1 20 <;> cases h5:zak c.dn 1 1000 <;> simp [h4,h5,zdb,-zb7]
 all_goals try (simp [zbr,h4,h5]; done)
 cases h6:zak c.nu 1 c.dn <;> simp [h6,zdb,-zb7]
 all_goals try (simp [zbr,h6]; done)
 by_cases h7:(c.sg.length:Int)≤4
 ·simp [h7,e,zbr,h0,h1,h2,h3,h4,h5,h6]
 ·simp [h7,zbr]
theorem zpg {m:Nat→List Bool} {R:zaf} {c:IC} {st:St} {Q:Ex→St→Prop} (h:W m R c st (Nx (fun s=>W m R (.loop c) s Q) Q ⟨⟩ ⟨⟩)):W m R (.loop c) st Q:=ypq ▸ h
theorem yho (a b c d e f g:Int) (x:PV) (sg:List (List PV)):RUN T znf [.agg [iv a,iv b,iv c,iv d,iv e,iv f,iv g,.sl 1 sg]]=some ([.own 1 (zac [a,b,c,d,e])],[]):=by
 refine zal z2p rfl ?_
 simp [zt8,zt9,zac]
theorem zqo:RUN T zng []=some ([.own 1 (zac [1,0,2,1,1])],[]):=by
 refine zal z2q rfl ?_
 simp [zua,zub,zac]
theorem zqp:RUN T znh []=some ([.own 1 (zac [8,4,8,100,20])],[]):=by
 refine zal z2r rfl ?_
 simp [zuc,zud,zac]
theorem yhp (c:Cfg) (hl:c.sg.length≤9223372036854775807):RUN T zmv [.agg [iv c.ro,iv c.de,iv c.bi,iv c.la,iv c.rw,iv c.nu,iv c.dn,.sl 1 (zac c.sg)]]=some ([bv (zbr c)],[]):=by
 refine zal z1q rfl ?_
 have e1:=yho c.ro c.de c.bi c.la c.rw c.nu c.dn .undef (zac c.sg)
 simp [zsx,zsy,e1]
 refine zpg ?_
 simp [zk6,zqo,zqp,zbs,-zbd,zru]
 cases h0:zak c.ro 1 8 <;> simp [h0]
 ·simp [zbr,h0]
 refine zpg ?_
 simp [zk6,zqo,zqp,zbs,-zbd,zru]
 cases h1:zak c.de 0 4 <;> simp [h1]
 ·simp [zbr,h1]
 refine zpg ?_
 simp [zk6,zqo,zqp,zbs,-zbd,zru]
 cases h2:zak c.bi 2 8 <;> simp [h2]
 ·simp [zbr,h2]
 refine zpg ?_
 simp [zk6,zqo,zqp,zbs,-zbd,zru]
 cases h3:zak c.la 1 100 <;> simp [h3]
 ·simp [zbr,h3]
 refine zpg ?_
 simp [zk6,zqo,zqp,zbs,-zbd,zru]
 cases h4:zak c.rw 1 20 <;> simp [h4]
 ·simp [zbr,h4]
 refine zpg ?_
 simp [zk6]
 refine za3 (fun n st => ∃ i:Nat,i+n=c.sg.length∧st.V 1 = .ptr 0 none 0 0 0∧st.V 5=iv i∧st.S 0=some (.box [iv c.ro,iv c.de,iv c.bi,iv c.la,iv c.rw,iv c.nu,iv c.dn,.sl 1 (zac c.sg)])∧∀ (j:Nat) (x:Int),j<i→c.sg[j]?=some x→zak x (-1) 1=true) ?_ c.sg.length _ ⟨0,by simp⟩
 rintro n st ⟨i,hi,h1',h5,hS,hj⟩
 simp [z0t,h1',h5,hS]
 refine zdd (fun h => ?_) (fun h => ?_)
 ·simp at h
  obtain ⟨x,hx⟩ : ∃ x,c.sg[i]?=some x:=⟨_,List.getElem?_eq_getElem h⟩
  have hw:=wS h hl
  have hx':=zbj hx
  simp [-getElem?_pos,h1',h5,hS,hx',hw,h,zbs,-zbd]
  cases hb:zak x (-1) 1 with
  | true =>
   simp [-getElem?_pos,h1',h5,hS,hw]
   refine zaq (n-1) (by omega) ⟨i+1,by omega,by simp [h1'],by simp,by simp [hS],fun j y hj' hy => ?_⟩
   by_cases e:j=i
   ·subst e; rw [hx] at hy; cases hy; exact hb
   ·exact hj j y (by omega) hy
  | false =>
   simp [zbr]
   intros
   exact ⟨x,List.mem_of_getElem? hx,hb⟩
 ·simp at h
  have hall:(c.sg.all fun n=>zak n (-1) 1)=true:=by
   rw [List.all_eq_true]
   intro x hx
   obtain ⟨j,hj'⟩:=List.getElem?_of_mem hx
   exact hj j x (by have:=(List.getElem?_eq_some_iff.mp hj').1; omega) hj'
  simp [h1',hS,zbs,-zbd]
  cases h5:zak c.dn 1 1000 <;> simp [h1',hS,h5,zbs,-zbd]
  ·simp [zbr,h5]
  cases h6:zak c.nu 1 c.dn <;> simp [h1',hS,h6,zbs,-zbd]
  ·simp [zbr,h6]
  simp [zbr,h0,h1,h2,h3,h4,h5,h6,hall]
def fdv (a b:Int):Int×Bool:=if b=0∨(b = -1∧a = -9223372036854775808) then (0,false) else (a.fdiv b,true)
theorem z9u {a b:Int} (ha:inI a) (hb:b≠0) (h : ¬ (b = -1∧a = -9223372036854775808)) : -9223372036854775808≤a.tdiv b∧a.tdiv b≤9223372036854775807∧(b≠1 → -9223372036854775808≤a.tdiv b-1):=by
 obtain ⟨h1,h2⟩:=ha
 have h3:(a.tdiv b).natAbs=a.natAbs / b.natAbs:=Int.natAbs_tdiv a b
 have h4:a.natAbs / b.natAbs≤a.natAbs:=Nat.div_le_self _ _
 by_cases c:b=1
 ·subst c; simp; omega
 by_cases c2:b = -1
 ·subst c2; simp; omega
 have h5:a.natAbs / b.natAbs≤a.natAbs / 2:=Nat.div_le_div_left (by omega) (by omega)
 omega
theorem z50 (a b:Int) (hb:b≠0):a.fdiv b=if a.tmod b≠0∧¬ (a<0↔b<0) then a.tdiv b-1 else a.tdiv b:=by
 rw [Int.fdiv_eq_tdiv]
 have hd:b ∣ a↔a.tmod b=0:=Int.dvd_iff_tmod_eq_zero
 by_cases c:b ∣ a
 ·rw [if_pos c,if_neg (by rw [hd.mp c]; simp)]; simp
 ·have hc:a.tmod b≠0:=fun e=>c (hd.mpr e)
  have ha:a≠0:=fun e=>c (by subst e; exact ⟨0,by simp⟩)
  rw [if_neg c]
  rcases Int.lt_or_gt_of_ne hb with s2 | s2
  ·rw [if_neg (by omega : ¬ 0≤b),if_neg (by omega : ¬ 0≤b),Int.sign_eq_neg_one_of_neg s2]
   by_cases s1:0≤a
   ·rw [if_pos s1,if_pos ⟨hc,by omega⟩]
   ·rw [if_neg s1,if_neg (fun h=>h.2 (by omega))]; omega
  ·rw [if_pos (by omega:0≤b),if_pos (by omega:0≤b),Int.sign_eq_one_of_pos s2]
   by_cases s1:0≤a
   ·rw [if_pos s1,if_neg (fun h=>h.2 (by omega))]; omega
   ·rw [if_neg s1,if_pos ⟨hc,by omega⟩]
theorem yhq (a b:Int) (ha:inI a):RUN T zm2 [iv a,iv b]=some ([iv (fdv a b).1,bv (fdv a b).2],[]):=by
 refine zal z13 rfl ?_
 simp [ztd,zte]
 by_cases h0:b=0
 ·subst h0; simp [fdv]
 by_cases hbad:b = -1∧a = -9223372036854775808
 ·obtain ⟨rfl,rfl⟩:=hbad; simp [fdv]
 have hr:=z9u ha h0 hbad
 have hq:=w64 hr.1 hr.2.1
 have hf:=z50 a b h0
 have e1:fdv a b=(a.fdiv b,true):=by unfold fdv; rw [if_neg (by simp [h0]; intro h; exact fun h2=>hbad ⟨h,h2⟩)]
 rw [e1]
 have hq2:a.tmod b≠0→IntKind.i64.wrap (a.tdiv b-1)=a.tdiv b-1:=fun h=>w64 (hr.2.2 (by rintro rfl; simp at h)) (by omega)
 have f0:=eq_false h0
 obtain ⟨p1,hp1⟩ : ∃ p,(b = -1)=p:=⟨_,rfl⟩
 obtain ⟨p2,hp2⟩ : ∃ p,(a = -9223372036854775808)=p:=⟨_,rfl⟩
 rw [hp1,hp2] at hbad
 by_cases c1:p1 <;> by_cases c2:p2
 ·exact (hbad ⟨c1,c2⟩).elim
 all_goals
  simp only [c1,c2] at hp1 hp2
  simp [f0,hp1,hp2,hq]
  by_cases d0:a.tmod b=0
  ·rw [if_neg (by simp [d0])] at hf
   simp [d0,hf]
  ·have hq3:=hq2 d0
   have d1:=eq_false d0
   by_cases d2:a<0 <;> by_cases d3:b<0
   all_goals
    simp only [d2,d3,ne_eq,d1,not_false_eq_true,iff_self,not_true_eq_false,and_false,if_false,iff_true,iff_false,and_true,if_true,true_iff,false_iff] at hf
    simp [d1,d2,d3,hq3,hf]
theorem yhr (a b:Int) (ha:inI a):RUN T znj [iv a,iv b]=some ([iv (fdv a b).1,bv (fdv a b).2],[]):=by
 refine zal z2w rfl ?_
 simp [zum,zun]
 by_cases h0:b=0
 ·subst h0; simp [fdv]
 by_cases hbad:b = -1∧a = -9223372036854775808
 ·obtain ⟨rfl,rfl⟩:=hbad; simp [fdv]
 have hr:=z9u ha h0 hbad
 have hq:=w64 hr.1 hr.2.1
 have hf:=z50 a b h0
 have e1:fdv a b=(a.fdiv b,true):=by unfold fdv; rw [if_neg (by simp [h0]; intro h; exact fun h2=>hbad ⟨h,h2⟩)]
 rw [e1]
 have hq2:a.tmod b≠0→IntKind.i64.wrap (a.tdiv b-1)=a.tdiv b-1:=fun h=>w64 (hr.2.2 (by rintro rfl; simp at h)) (by omega)
 have f0:=eq_false h0
 obtain ⟨p1,hp1⟩ : ∃ p,(b = -1)=p:=⟨_,rfl⟩
 obtain ⟨p2,hp2⟩ : ∃ p,(a = -9223372036854775808)=p:=⟨_,rfl⟩
 rw [hp1,hp2] at hbad
 by_cases c1:p1 <;> by_cases c2:p2
 ·exact (hbad ⟨c1,c2⟩).elim
 all_goals
  simp only [c1,c2] at hp1 hp2
  simp [f0,hp1,hp2,hq]
  by_cases d0:a.tmod b=0
  ·rw [if_neg (by simp [d0])] at hf
   simp [d0,hf]
  ·have hq3:=hq2 d0
   have d1:=eq_false d0
   by_cases d2:a<0 <;> by_cases d3:b<0
   all_goals
    simp only [d2,d3,ne_eq,d1,not_false_eq_true,iff_self,not_true_eq_false,and_false,if_false,iff_true,iff_false,and_true,if_true,true_iff,false_iff] at hf
    simp [d1,d2,d3,hq3,hf]
abbrev ze1 (c:Cfg):PV := .agg [iv c.ro,iv c.de,iv c.bi,iv c.la,iv c.rw,iv c.nu,iv c.dn,.sl 1 (zac c.sg)]
abbrev zj1 (c:Cfg):PV := .agg [iv c.ro,iv c.de,iv c.bi,iv c.la,iv c.rw,iv c.nu,iv c.dn,.own 1 (zac c.sg)]
theorem za6 {n a b:Int}:zak n a b=true↔a≤n∧n≤b:=by simp [zak]
def zgb (v:Int):Bool:=zak v (-1099511627776) 1099511627776
@[simp] theorem z36 (v:Int):RUN T zkj [iv v]=some ([bv (zgb v)],[]):=by
 refine zal z2z rfl ?_
 simp [zuq,zur,zgb,zak]
@[simp] theorem z37 (v:Int):RUN T zkm [iv v]=some ([bv (zgb v)],[]):=by
 refine zal z3d rfl ?_
 simp [zva,zvb,zgb,zak]
def shr (v:Int) (c:Cfg):Int×Bool:=if zbr c && zgb v then (( v*c.nu).fdiv c.dn,true) else (0,false)
theorem z7f (a b c d e a' b' c' d' e':Int):eqP [.i .i64,.i .i64,.i .i64,.i .i64,.i .i64] (.agg [iv a,iv b,iv c,iv d,iv e]) (.agg [iv a',iv b',iv c',iv d',iv e'])=some (decide (a=a'∧b=b'∧c=c'∧d=d'∧e=e')):=by
 simp only [eqP,zbn,yqb,Option.bind_some]
 by_cases h1:a=a' <;> by_cases h2:b=b' <;> by_cases h3:c=c' <;> by_cases h4:d=d' <;> by_cases h5:e=e' <;> simp [h1,h2,h3,h4,h5]
def zba (n:Int):Bool:=zak n (-2147483647) 2147483647
@[simp] theorem zlg (v:Int):RUN T zjb [iv v]=some ([bv (zba v)],[]):=by
 refine zal z3b rfl ?_
 simp [zu6,zu7,zba,zak]
@[simp] theorem yuc (v:Int):RUN T zny [iv v]=some ([bv (zba v)],[]):=by
 refine zal z3t rfl ?_
 simp [zvv,zvw,zba,zak]
def adj (p:Int→Int→Bool):List Int→Bool
 | a::b::r=>p a b || adj p (b::r)
 | _=>false
theorem zzl {p:Int→Int→Bool} : ∀ {l:List Int},adj p l=true↔∃ (i:Nat) (a b:Int),l[i]?=some a∧l[i+1]?=some b∧p a b=true
 | []=>by simp [adj]
 | [x]=>by simp [adj]
 | x::y::r=>by
  simp only [adj,Bool.or_eq_true]
  rw [zzl (l:=y::r)]
  constructor
  ·rintro (h | ⟨i,a,b,h1,h2,h3⟩)
   ·exact ⟨0,x,y,rfl,rfl,h⟩
   ·exact ⟨i+1,a,b,by simpa using h1,by simpa using h2,h3⟩
  ·rintro ⟨i,a,b,h1,h2,h3⟩
   cases i with
   | zero=>simp at h1 h2; subst h1; subst h2; exact .inl h3
   | succ i=>exact .inr ⟨i,a,b,by simpa using h1,by simpa using h2,h3⟩
theorem zoo {α:Type} {P:Nat→α→Prop} {l:List α} {i:Nat} {x:α} (h : ∀ (j:Nat) (x:α),j<i→l[j]?=some x→P j x) (hi:l[i]?=some x) (hp:P i x) : ∀ (j:Nat) (x:α),j<i+1→l[j]?=some x→P j x:=by
 intro j y hj hy
 by_cases e:j=i
 ·subst e; rw [hi] at hy; cases hy; exact hp
 ·exact h j y (by omega) hy
def cel (q:Bool) (l:List Int):PV:=if q then .own 1 (zac l) else .sl 1 (zac l)
@[simp] theorem y0x (q:Bool) (l:List Int):fz (cel q l) = .sl 1 (zac l):=by cases q <;> simp [cel]
def rws (q:Bool) (L:List (List Int)):List (List PV):=L.map fun l=>[cel q l]
@[simp] theorem y4u (q:Bool) (L:List (List Int)):(rws q L).length=L.length:=by simp [rws]
theorem ze4 {q:Bool} {L:List (List Int)} {i:Nat} {l:List Int} (h:L[i]?=some l):(rws q L)[i]?=some [cel q l]:=by simp [rws,h]
@[simp] theorem yud (n:Int):RUN T zks [iv n]=some ([bv (!zba n)],[]):=by
 refine zal z3s rfl ?_
 simp [zvt,zvu]
theorem yhs (l:List Int) (hl:l.length≤9223372036854775807):RUN T znr [.sl 1 (zac l)]=some ([bv (l.all zba)],[]):=by
 refine zal z3c rfl ?_
 have e:=zxw (f:=zks) (p:=fun n => !zba n) l hl (by simp) (fun n _=>by simp)
 simp [zu8,zu9,e]
 simp [List.any_eq_not_all_not]
def zfb (l:List Int):Bool := !adj (fun a b=>decide (b≤a)) l && l.all zba && decide ((l.length:Int)≤7)
theorem z9m {p:Int→Int→Bool} {l:List Int} (h : ∀ (j:Nat) (a b:Int),l[j]?=some a→l[j+1]?=some b→p a b=false):adj p l=false:=by
 cases e:adj p l with
 | false=>rfl
 | true =>
  obtain ⟨j,a,b,h1,h2,h3⟩:=zzl.mp e
  rw [h j a b h1 h2] at h3; cases h3
theorem z7l {p:Int→Int→Bool} {l:List Int} {j:Nat} {a b:Int} (h1:l[j]?=some a) (h2:l[j+1]?=some b) (h3:p a b=true):adj p l=true:=zzl.mpr ⟨j,a,b,h1,h2,h3⟩
theorem zrt {l:List Int} {p:Int→Bool} {j:Nat} {a:Int} (h1:l[j]?=some a) (h2:p a=false):l.all p=false:=by
 cases e:l.all p with
 | false=>rfl
 | true=>rw [List.all_eq_true.mp e a (List.mem_of_getElem? h1)] at h2; cases h2
theorem zqw {l:List Int} {p:Int→Bool} (h : ∀ (j:Nat) (a:Int),j<l.length→l[j]?=some a→p a=true):l.all p=true:=by
 rw [List.all_eq_true]
 intro x hx
 obtain ⟨j,hj⟩:=List.getElem?_of_mem hx
 exact h j x (List.getElem?_eq_some_iff.mp hj).1 hj
theorem yht (l:List Int) (hl:l.length≤9223372036854775807):RUN T zni [.sl 1 (zac l)]=some ([bv (zfb l)],[]):=by
 refine zal z2s rfl ?_
 have hd:=yhs l hl
 simp [zue,zuf]
 refine za3 (fun n st => ∃ i:Nat,i+n=l.length+1∧1≤i∧st.V 0 = .sl 1 (zac l)∧st.V 3=iv i∧∀ (j:Nat) (a b:Int),j+1<i→l[j]?=some a→l[j+1]?=some b→decide (b≤a)=false) ?_ l.length _ ⟨1,by omega,by omega,by simp,by simp,fun j a b h=>by omega⟩
 rintro n st ⟨i,hi,h1,v0,v3,hj⟩
 simp [z0x,v0,v3]
 refine zdd (fun h => ?_) (fun h => ?_)
 ·simp at h
  obtain ⟨k,rfl⟩ : ∃ k,i=k+1:=⟨i-1,by omega⟩
  obtain ⟨a,ha⟩ : ∃ a,l[k]?=some a:=⟨_,List.getElem?_eq_getElem (by omega)⟩
  obtain ⟨b,hb⟩ : ∃ b,l[k+1]?=some b:=⟨_,List.getElem?_eq_getElem h⟩
  have ha':=zbj ha
  have hb':=zbj hb
  have hw:IntKind.i64.wrap ((k:Int)+1+1)=(k:Int)+1+1:=w64 (by omega) (by omega)
  have hw1:IntKind.i64.wrap (k:Int)=k:=w64 (by omega) (by omega)
  have hkl:k<l.length:=by omega
  simp [-getElem?_pos,v0,v3,ha',hb',hw1,h,hkl]
  refine zdd (fun h2 => ?_) (fun h2 => ?_)
  ·simp at h2
   have:zfb l=false:=by unfold zfb; rw [z7l ha hb (by simpa using h2)]; rfl
   simp [this]
  ·simp at h2
   simp [-getElem?_pos,v0,v3,hw]
   refine zaq (n-1) (by omega) ⟨k+2,by omega,by omega,by simp [v0],by simp; omega,fun j x y hjk hx hy => ?_⟩
   by_cases e:j=k
   ·subst e; rw [ha] at hx; rw [hb] at hy; cases hx; cases hy; simp; omega
   ·exact hj j x y (by omega) hx hy
 ·simp at h
  have e:adj (fun a b=>decide (b≤a)) l=false:=z9m fun j a b h1 h2=>hj j a b (by have:=(List.getElem?_eq_some_iff.mp h2).1; omega) h1 h2
  unfold zfb
  rw [e]
  by_cases c:(l.length:Int)≤7
  ·simp [v0,hd,c]
  ·simp [v0,c]
theorem yhu (l:List Int) (hl:l.length≤9223372036854775807):RUN T zne [.sl 1 (zac l)]=some ([bv (zfb l)],[]):=by
 refine zal z2o rfl ?_
 simp [zt6,zt7]
 refine za3 (fun n st => ∃ i:Nat,i+n=l.length∧st.V 0 = .sl 1 (zac l)∧st.V 3=iv i∧(∀ (j:Nat) (a:Int),j<i→l[j]?=some a→zba a=true)∧∀ (j:Nat) (a b:Int),j+1<i→l[j]?=some a→l[j+1]?=some b→decide (b≤a)=false) ?_ l.length _ ⟨0,by simp⟩
 rintro n st ⟨i,hi,v0,v3,hd,hj⟩
 simp [z0w,v0,v3]
 refine zdd (fun h => ?_) (fun h => ?_)
 ·simp at h
  obtain ⟨b,hb⟩ : ∃ b,l[i]?=some b:=⟨_,List.getElem?_eq_getElem h⟩
  have hb':=zbj hb
  have hw:=wS h hl
  rcases Bool.eq_false_or_eq_true (zba b) with d | d
  ·have hd':=zoo (P:=fun _ a=>zba a=true) hd hb d
   rcases i with _ | k
   ·simp [-getElem?_pos,v0,v3,hb',d,h,hw]
    exact zaq (n-1) (by omega) ⟨1,by omega,by simp [v0],by simp,by simpa using hd',fun j x y hjk hx hy=>by omega⟩
   ·obtain ⟨a,ha⟩ : ∃ a,l[k]?=some a:=⟨_,List.getElem?_eq_getElem (by omega)⟩
    have ha':=zbj ha
    have hw:IntKind.i64.wrap ((k:Int)+1+1)=(k:Int)+1+1:=w64 (by omega) (by omega)
    have hw1:IntKind.i64.wrap (k:Int)=k:=w64 (by omega) (by omega)
    have hkl:k<l.length:=by omega
    have hk0:(0:Int)<((k+1:Nat):Int):=by omega
    rcases Classical.propComplete (b≤a) with c | c
    ·have:zfb l=false:=by unfold zfb; rw [z7l ha hb (by simp [c])]; rfl
     simp [-getElem?_pos,v0,v3,ha',hb',d,h,hw,hw1,hkl,hk0,c,this]
    ·simp [-getElem?_pos,v0,v3,ha',hb',d,h,hw,hw1,hkl,hk0,c]
     refine zaq (n-1) (by omega) ⟨k+2,by omega,by simp [v0],by simp; omega,hd',fun j x y hjk hx hy => ?_⟩
     by_cases e:j=k
     ·subst e; rw [ha] at hx; rw [hb] at hy; cases hx; cases hy; simp [c]
     ·exact hj j x y (by omega) hx hy
  ·have:zfb l=false:=by unfold zfb; rw [zrt hb d]; simp
   simp [-getElem?_pos,v0,v3,hb',d,h,this]
 ·simp at h
  have e:adj (fun a b=>decide (b≤a)) l=false:=z9m fun j a b h1 h2=>hj j a b (by have:=(List.getElem?_eq_some_iff.mp h2).1; omega) h1 h2
  have e2:l.all zba=true:=zqw fun j a h1 h2=>hd j a (by omega) h2
  unfold zfb
  rw [e,e2]
  simp [v0]
def zct:List (List Int)→Nat
 | []=>0
 | l::_=>l.length
theorem zxx (q:Bool) (c v:List (List Int)):RUN T zh2 [.agg [.sl 1 (rws q c),.sl 1 (rws q v)]]=some ([iv (zct v)],[]):=by
 refine zal z1r rfl ?_
 cases v with
 | nil=>simp [zpv,zpw,zct]
 | cons l L =>
  have h:rws q (l::L)=[cel q l]::rws q L:=rfl
  have h0:((L.length:Int)+1=0)=False:=eq_false (by omega)
  simp [h0,zpv,zpw,zct,h]
theorem zxy (q:Bool) (c v:List (List Int)):RUN T zh3 [.agg [.sl 1 (rws q c),.sl 1 (rws q v)]]=some ([iv (zct v)],[]):=by
 refine zal z1t rfl ?_
 cases v with
 | nil=>simp [zpx,zpy,zct]
 | cons l L =>
  have h:rws q (l::L)=[cel q l]::rws q L:=rfl
  have h0:((L.length:Int)+1=0)=False:=eq_false (by omega)
  simp [h0,zpx,zpy,zct,h]
theorem yhv {f:Nat} {c:PV} {p:Int→Bool} (l:List Int) (hl:l.length≤9223372036854775807) (hm:zae T f=[]) (hp : ∀ n∈l,RUN T f [iv n,.fptr [c] 0]=some ([bv (p n)],[])) :
  RUN T zkf [.sl 1 (zac l),.fn f [.fptr [c] 0]]=some ([iv (ziv p l)],[]):=by
 refine zal zxu rfl ?_
 simp [zqa,zqb]
 refine za3 (fun n st => ∃ i:Nat,i+n=l.length∧st.V 0 = .sl 1 (zac l)∧st.V 1 = .fn f [.fptr [c] 0]∧st.V 8=iv i∧st.V 7=iv l.length∧∀ (j:Nat) (x:Int),j<i→l[j]?=some x→p x=false) ?_ l.length _ ⟨0,by simp⟩
 rintro n st ⟨i,hi,h0,h1,h8,h7,hj⟩
 simp [zxp,h0,h1,h8,h7]
 refine zdd (fun h => ?_) (fun h => ?_)
 ·simp at h
  obtain ⟨x,hx⟩ : ∃ x,l[i]?=some x:=⟨_,List.getElem?_eq_getElem h⟩
  have hw:=wS h hl
  have hx':=zbj hx
  have hpx:=hp x (List.mem_of_getElem? hx)
  simp [-getElem?_pos,h0,h1,h8,h7,hx',hw,hm,hpx,h]
  refine zdd (fun b0 => ?_) (fun b0 => ?_) <;> (try simp at b0) <;> simp [-getElem?_pos,b0,h0,h1,h8,h7,hx',hw]
  all_goals first
   | exact (z70 hx b0 hj).symm
   | exact zaq (n-1) (by omega) ⟨i+1,by omega,by simp [h0],by simp [h1],by simp,by simp [h7],z65 hj hx b0⟩
 ·simp at h
  simp [h]
  exact (z48 fun j x hl hx=>hj j x (by omega) hx).symm
theorem yhw {f:Nat} {c:PV} {p:Int→Bool} (l:List Int) (hl:l.length≤9223372036854775807) (hm:zae T f=[]) (hp : ∀ n∈l,RUN T f [iv n,.fptr [c] 0]=some ([bv (p n)],[])) :
  RUN T zhi [.sl 1 (zac l),.fn f [.fptr [c] 0]]=some ([bv (l.any p)],[]):=by
 refine zal zxt rfl ?_
 have e:=yhv l hl hm hp
 simp [zpz,zp0,e,z5k]
@[simp] theorem yue (n:Int) (a:List Int):RUN T zke [iv n,.fptr [.sl 1 (zac a)] 0]=some ([bv (!zak n 0 a.length)],[]):=by
 refine zal z2t rfl ?_
 simp [zug,zuh,zdb,-zb7]
theorem z6t {s:St} {d:Option Dst} {op:IOp} {g:Opd} {v:Bool} {x:PV}:(yv s ⟨d,op,some (g,v)⟩=some x)=(Ob' (zgz v (g.get s)) fun t=>Br t (WI (fun _=>[]) (fun _ _=>none) op s (fun y _=>y=x)) (PV.v Go.undef=x)):=by
 simp only [yv,z5u,WI,Ob',Br,Option.map_eq_some_iff,Option.bind_eq_some_iff,eq_iff_iff]
 constructor
 ·rintro ⟨⟨y,s'⟩,⟨t,h1,h2⟩,h3⟩
  refine ⟨t,h1,fun ht => ?_,fun ht => ?_⟩ <;> subst ht
  ·exact ⟨y,s',by simpa using h2,h3⟩
  ·simp at h2; obtain ⟨rfl,rfl⟩:=h2; exact h3
 ·rintro ⟨t,h1,h2,h3⟩
  cases t with
  | true=>obtain ⟨y,s',h4,h5⟩:=h2 rfl; exact ⟨(y,s'),⟨true,h1,by simpa using h4⟩,h5⟩
  | false=>exact ⟨_,⟨false,h1,rfl⟩,h3 rfl⟩
@[simp] theorem yxj {s:St} {d:Option Dst} {op:IOp} {g:Opd} {v:Bool} {x:PV} {n:Nat} {r:List (zab×PV×Nat)}:zbu s ((⟨d,op,some (g,v)⟩,x,n+1)::r)=((Ob' (zgz v (g.get s)) fun t=>Br t (WI (fun _=>[]) (fun _ _=>none) op s (fun y _=>y=x)) (PV.v Go.undef=x))∧zbu s r):=by
 simp only [zbu,z6t]
@[simp] theorem y7p {V E:Nat→PV} {d:Option Dst} {op:IOp} {g:Opd} {v:Bool} {x:PV} {n:Nat} {s:St} {ms:List St}:zay V E ⟨d,op,some (g,v)⟩ x (n+1) (s::ms)=((Ob' (zgz v (g.get { s with V:=V,E:=E })) fun t=>Br t (WI (fun _=>[]) (fun _ _=>none) op { s with V:=V,E:=E } (fun y _=>y=x)) (PV.v Go.undef=x))∧zay V E ⟨d,op,some (g,v)⟩ x n ms):=by
 simp only [zay,z6t]
def zew (c v:List (List Int)) (f:Nat):Bool:=match c[f]?,v[f]? with
 | some a,some b=>zfb a && decide ((b.length:Int)=zct v) && b.all fun x=>zak x 0 a.length
 | _,_=>true
def zde (c v:List (List Int)):Bool:=zak c.length 1 4 && decide ((v.length:Int)=c.length) && zak (zct v) 1 40 && (List.range c.length).all (zew c v)
theorem z5v {c v:List (List Int)} (h1:zak c.length 1 4=true) (h2:(v.length:Int)=c.length) (h3:zak (zct v) 1 40=true):zde c v=(List.range c.length).all (zew c v):=by
 simp [zde,h1,h2,h3]
theorem zw2 {p:Nat→Bool} {n:Nat} (h : ∀ i,i<n→p i=true):(List.range n).all p=true:=by
 rw [List.all_eq_true]
 intro x hx
 exact h x (by simpa using hx)
theorem zhw {p:Nat→Bool} {n i:Nat} (hi:i<n) (h:p i=false):(List.range n).all p=false:=by
 cases e:(List.range n).all p with
 | false=>rfl
 | true=>rw [List.all_eq_true.mp e i (by simpa using hi)] at h; cases h
theorem z44 {c v:List (List Int)} {f:Nat} {a b:List Int} (ha:c[f]?=some a) (hb:v[f]?=some b):zew c v f=(zfb a && decide ((b.length:Int)=zct v) && b.all fun x=>zak x 0 a.length):=by
 simp [zew,ha,hb]
theorem zoq {P:Nat→Prop} {i:Nat} (h : ∀ j,j<i→P j) (hi:P i) : ∀ j,j<i+1→P j:=by
 intro j hj
 by_cases e:j=i
 ·subst e; exact hi
 ·exact h j (by omega)
set_option maxHeartbeats 1000000 in
theorem z38 (q:Bool) (c v:List (List Int)) (hc : ∀ l∈c,l.length≤9223372036854775807) (hv : ∀ l∈v,l.length≤9223372036854775807):RUN T zj7 [.agg [.sl 1 (rws q c),.sl 1 (rws q v)]]=some ([bv (zde c v)],[]):=by
 refine zal z1s rfl ?_
 have hR:=zxy q c v
 by_cases h1:zak c.length 1 4=true
 case neg=>simp [zk7,zk8,zdb,-zb7,h1,zde]
 by_cases h2:(v.length:Int)=c.length
 case neg=>simp [zk7,zk8,zdb,-zb7,h1,h2,zde]
 by_cases h3:zak (zct v) 1 40=true
 case neg=>simp [zk7,zk8,zdb,-zb7,h1,h2,h3,hR,zde]
 have h1':=za6.mp h1
 rw [z5v h1 h2 h3]
 simp [zk7,zk8,zdb,-zb7,h1,h2,h3,hR]
 refine za3 (fun n st => ∃ i:Nat,i+n=c.length∧(∀ j,j<i→zew c v j=true)∧st.V 1 = .ptr 0 none 0 0 0∧st.V 26 = .sl 1 (rws q c)∧st.V 27=iv c.length∧st.V 28=iv i∧0<st.nx∧st.S 0=some (.box [.sl 1 (rws q c),.sl 1 (rws q v)])) ?_ c.length _ ⟨0,by simp⟩
 rintro n st ⟨i,hi,hk,v1,v26,v27,v28,hnx,hS⟩
 simp [z0u,v26,v27,v28]
 have z:=fr hnx
 refine zdd (fun h => ?_) (fun h => ?_)
 ·simp at h
  obtain ⟨a,ha⟩ : ∃ a,c[i]?=some a:=⟨_,List.getElem?_eq_getElem h⟩
  obtain ⟨b,hb⟩ : ∃ b,v[i]?=some b:=⟨_,List.getElem?_eq_getElem (by omega)⟩
  have ha':=ze4 (q:=q) ha
  have hb':=ze4 (q:=q) hb
  have hal:=hc a (List.mem_of_getElem? ha)
  have hbl:=hv b (List.mem_of_getElem? hb)
  have hC:=yht a hal
  have hF:=yhw (f:=zke) (c := .sl 1 (zac a)) (p:=fun n => !zak n 0 a.length) b hbl (by simp) (fun n _=>by simp)
  have hw:=wS h (by omega:c.length≤9223372036854775807)
  have hiv:i<v.length:=by omega
  have hfe:=z44 ha hb
  by_cases d1:zfb a=true
  ·rcases Classical.propComplete ((b.length:Int)=zct v) with d2 | d2
   ·by_cases d3:(b.all fun x=>zak x 0 a.length)=true
    ·have d3':(b.any fun n => !zak n 0 a.length)=false:=by simpa [List.any_eq_not_all_not] using d3
     simp [-getElem?_pos,v1,v26,v27,v28,hS,z,ha',hb',hC,hF,hR,hw,h,hiv,d1,d2,d3']
     exact zaq (n-1) (by omega) ⟨i+1,by omega,zoq hk (by rw [hfe,d1,d3]; simp [d2]),by simp [v1],by simp [v26],by simp [v27],by simp,by simp,by simp [z,hS]⟩
    ·have d3':(b.any fun n => !zak n 0 a.length)=true:=by simpa [List.any_eq_not_all_not] using d3
     have no:=zhw h (by rw [hfe,d1]; simp [d3]:zew c v i=false)
     simp [-getElem?_pos,v1,v26,v27,v28,hS,z,ha',hb',hC,hF,hR,hw,h,hiv,d1,d2,d3',no]
   ·have no:=zhw h (by rw [hfe,d1]; simp [d2]:zew c v i=false)
    simp [-getElem?_pos,v1,v26,v27,v28,hS,z,ha',hb',hC,hF,hR,hw,h,hiv,d1,d2,no]
  ·have no:=zhw h (by rw [hfe]; simp [d1]:zew c v i=false)
   simp [-getElem?_pos,v1,v26,v27,v28,hS,z,ha',hb',hC,hF,hR,hw,h,hiv,d1,no]
 ·simp at h
  have:=zw2 (p:=zew c v) (n:=c.length) fun j hj=>hk j (by omega)
  simp [this]
set_option maxHeartbeats 1000000 in
theorem yhx (q:Bool) (c v:List (List Int)) (hc : ∀ l∈c,l.length≤9223372036854775807) (hv : ∀ l∈v,l.length≤9223372036854775807):RUN T zmu [.agg [.sl 1 (rws q c),.sl 1 (rws q v)]]=some ([bv (zde c v)],[]):=by
 refine zal z1p rfl ?_
 have hR:=zxx q c v
 by_cases h1:zak c.length 1 4=true
 case neg=>simp [zk4,zk5,zbs,-zbd,h1,zde]
 by_cases h2:(v.length:Int)=c.length
 case neg=>simp [zk4,zk5,zbs,-zbd,h1,h2,zde]
 by_cases h3:zak (zct v) 1 40=true
 case neg=>simp [zk4,zk5,zbs,-zbd,h1,h2,h3,hR,zde]
 have h1':=za6.mp h1
 rw [z5v h1 h2 h3]
 simp [zk4,zk5,zbs,-zbd,h1,h2,h3,hR]
 refine za3 (fun n st => ∃ i:Nat,i+n=c.length∧(∀ j,j<i→zew c v j=true)∧st.V 1 = .ptr 0 none 0 0 0∧st.V 3=iv i∧0<st.nx∧st.S 0=some (.box [.sl 1 (rws q c),.sl 1 (rws q v)])) ?_ c.length _ ⟨0,by simp⟩
 rintro n st ⟨i,hi,hk,v1,v3,hnx,hS⟩
 simp [z0s,v1,v3,hS]
 have z:=fr hnx
 refine zdd (fun h => ?_) (fun h => ?_)
 ·simp at h
  obtain ⟨a,ha⟩ : ∃ a,c[i]?=some a:=⟨_,List.getElem?_eq_getElem h⟩
  obtain ⟨b,hb⟩ : ∃ b,v[i]?=some b:=⟨_,List.getElem?_eq_getElem (by omega)⟩
  have ha':=ze4 (q:=q) ha
  have hb':=ze4 (q:=q) hb
  have hal:=hc a (List.mem_of_getElem? ha)
  have hbl:=hv b (List.mem_of_getElem? hb)
  have hC:=yhu a hal
  have hw:=wS h (by omega:c.length≤9223372036854775807)
  have hiv:i<v.length:=by omega
  have hfe:=z44 ha hb
  by_cases d1:zfb a=true
  case neg =>
   have no:=zhw h (by rw [hfe]; simp [d1]:zew c v i=false)
   simp [-getElem?_pos,v1,v3,hS,z,ha',hb',hC,hR,hw,h,hiv,d1,no]
  rcases Classical.propComplete ((b.length:Int)=zct v) with d2 | d2
  case inr =>
   have no:=zhw h (by rw [hfe,d1]; simp [d2]:zew c v i=false)
   simp [-getElem?_pos,v1,v3,hS,z,ha',hb',hC,hR,hw,h,hiv,d1,d2,no]
  simp [-getElem?_pos,v1,v3,hS,z,ha',hb',hC,hR,hw,h,hiv,d1,d2]
  refine za3 (fun n st => ∃ j:Nat,j+n=b.length∧(∀ (k:Nat) (x:Int),k<j→b[k]?=some x→zak x 0 a.length=true)∧st.V 1 = .ptr 0 none 0 0 0∧st.V 3=iv i∧st.V 4=iv j∧0<st.nx∧st.S 0=some (.box [.sl 1 (rws q c),.sl 1 (rws q v)])) ?_ b.length _ ⟨0,by omega,fun _ _ h=>by omega,by simp [v1],by simp [v3],by simp,by simp [hnx],by simp [hS]⟩
  clear v1 v3 hnx hS z
  rintro n' st ⟨j,hj,hjk,v1,v3,v4,hnx,hS⟩
  simp [-getElem?_pos,z0r,v1,v3,v4,hS,hb',hiv]
  refine zdd (fun h4 => ?_) (fun h4 => ?_)
  ·simp at h4
   obtain ⟨x,hx⟩ : ∃ x,b[j]?=some x:=⟨_,List.getElem?_eq_getElem h4⟩
   have hx':=zbj hx
   have hwj:=wS h4 hbl
   rcases Bool.eq_false_or_eq_true (zak x 0 a.length) with d3 | d3
   ·simp [-getElem?_pos,v1,v3,v4,hS,ha',hb',hx',hiv,h,h4,d3,hwj,zbs,-zbd]
    exact zaq (n'-1) (by omega) ⟨j+1,by omega,zoo (P:=fun _ x=>zak x 0 a.length=true) hjk hx d3,by simp [v1],by simp [v3],by simp,by simp [hnx],by simp [hS]⟩
   ·have no:=zhw h (by rw [hfe,zrt hx d3]; simp:zew c v i=false)
    simp [-getElem?_pos,v1,v3,v4,hS,ha',hb',hx',hiv,h,h4,d3,hwj,no,zbs,-zbd]
  ·simp at h4
   have ok:zew c v i=true:=by
    rw [hfe,d1,zqw fun k x hk hx=>hjk k x (by omega) hx]; simp [d2]
   simp [-getElem?_pos,v1,v3,v4,hS,hw]
   exact zaq (n-1) (by omega) ⟨i+1,by omega,zoq hk ok,by simp [v1],by simp,by simp [hnx],by simp [hS]⟩
 ·simp at h
  have:=zw2 (p:=zew c v) (n:=c.length) fun j hj=>hk j (by omega)
  simp [this]
def zhg (x:Int):Bool:=zak x (-2199023255552) 2199023255552
def zcr (c v:List (List Int)) (lab:List Int) (g:Cfg):Bool:=zde c v && zbr g && decide ((lab.length:Int)=zct v) && lab.all zhg
@[simp] theorem yuf (n:Int):RUN T zj8 [iv n]=some ([bv (!zhg n)],[]):=by
 refine zal z1u rfl ?_
 simp [zsz,zs0,zdb,-zb7,zhg]
theorem zxz (q:Bool) (c v:List (List Int)) (lab:List Int) (g:Cfg) (hc : ∀ l∈c,l.length≤9223372036854775807) (hv : ∀ l∈v,l.length≤9223372036854775807) (hlab:lab.length≤9223372036854775807) (hg:g.sg.length≤9223372036854775807):RUN T zi4 [.agg [.sl 1 (rws q c),.sl 1 (rws q v)],.sl 1 (zac lab),ze1 g]=some ([bv (zcr c v lab g)],[]):=by
 refine zal z08 rfl ?_
 have e1:=z38 q c v hc hv
 have e2:=z35 g hg
 have e3:=zxy q c v
 have e4:=zxw (f:=zj8) (p:=fun n => !zhg n) lab hlab (by simp) (fun n _=>by simp)
 unfold zcr
 cases d1:zde c v with
 | false=>simp [zk1,zk2,ze1,e1,d1]
 | true =>
  cases d2:zbr g with
  | false=>simp [zk1,zk2,ze1,e1,d1,e2,d2]
  | true =>
   rcases Classical.propComplete ((lab.length:Int)=zct v) with d3 | d3
   ·have d4:(!(lab.any fun n => !zhg n))=lab.all zhg:=by simp [List.any_eq_not_all_not]
    simp [zk1,zk2,ze1,e1,d1,e2,d2,e3,d3,e4,d4]
   ·simp [zk1,zk2,ze1,e1,d1,e2,d2,e3,d3]
theorem yhy (q:Bool) (c v:List (List Int)) (lab:List Int) (g:Cfg) (hc : ∀ l∈c,l.length≤9223372036854775807) (hv : ∀ l∈v,l.length≤9223372036854775807) (hlab:lab.length≤9223372036854775807) (hg:g.sg.length≤9223372036854775807):RUN T zmj [.agg [.sl 1 (rws q c),.sl 1 (rws q v)],.sl 1 (zac lab),ze1 g]=some ([bv (zcr c v lab g)],[]):=by
 refine zal z07 rfl ?_
 have e1:=yhx q c v hc hv
 have e2:=yhp g hg
 have e3:=zxx q c v
 unfold zcr
 cases d1:zde c v with
 | false=>simp [zkz,zk0,ze1,e1,d1]
 | true =>
  cases d2:zbr g with
  | false=>simp [zkz,zk0,ze1,e1,d1,e2,d2]
  | true =>
   rcases Classical.propComplete ((lab.length:Int)=zct v) with d3 | d3
   ·simp [zkz,zk0,ze1,e1,d1,e2,d2,e3,d3]
    refine za3 (fun n st => ∃ i:Nat,i+n=lab.length∧(∀ (j:Nat) (x:Int),j<i→lab[j]?=some x→zhg x=true)∧st.V 1 = .sl 1 (zac lab)∧st.V 7=iv i) ?_ lab.length _ ⟨0,by omega,fun _ _ h=>by omega,by simp,by simp⟩
    rintro n st ⟨i,hi,hj,v1,v7⟩
    simp [z0p,v1,v7]
    refine zdd (fun h => ?_) (fun h => ?_)
    ·simp at h
     obtain ⟨x,hx⟩ : ∃ x,lab[i]?=some x:=⟨_,List.getElem?_eq_getElem h⟩
     have hx':=zbj hx
     have hw:=wS h hlab
     have hlb:zhg x=zak x (-2199023255552) 2199023255552:=rfl
     cases d4:zhg x with
     | true =>
      have d5:=hlb.symm.trans d4
      simp [-getElem?_pos,v1,v7,hx',hw,h,d5,zbs,-zbd]
      exact zaq (n-1) (by omega) ⟨i+1,by omega,zoo (P:=fun _ x=>zhg x=true) hj hx d4,by simp [v1],by simp⟩
     | false =>
      have d5:=hlb.symm.trans d4
      have no:=zrt hx d4
      simp [-getElem?_pos,v1,v7,hx',hw,h,d5,no,zbs,-zbd]
    ·simp at h
     have:=zqw (p:=zhg) fun j a h1 h2=>hj j a (by omega) h2
     simp [this,d3]
   ·simp [zkz,zk0,ze1,e1,d1,e2,d2,e3,d3]
theorem z7u {α:Type} {f:α→List PV} {p:α→Prop} {tys:List TY} (h : ∀ cs,zbq tys cs→∃ a,f a=cs∧p a) : ∀ {es:List (List PV)},(∀ cs∈es,zbq tys cs)→∃ l:List α,l.map f=es∧∀ a∈l,p a
 | [],_=>⟨[],rfl,by simp⟩
 | e::es,hs=>by
  obtain ⟨a,ha,hp⟩:=h e (hs e (by simp))
  obtain ⟨l,hl,hq⟩:=z7u h (es:=es) (fun cs hc=>hs cs (by simp [hc]))
  refine ⟨a::l,by simp [ha,hl],fun b hb => ?_⟩
  rcases List.mem_cons.mp hb with e | e
  ·subst e; exact hp
  ·exact hq b e
theorem yk8 {P:Program} {l:List TypeId} (h:(l.all fun t=>P.readableRec t && decide (t<P.types.size))=true) : ∀ t∈l,P.readableRec t=true∧t<P.types.size:=by
 intro t ht
 have:=List.all_eq_true.mp h t ht
 simpa using this
theorem yps {p:Bool×List TY} {pvs:List PV} (h:zcm (fun p c=>zjw p.1 p.2 c) [p] pvs) : ∃ a,pvs=[a]∧zjw p.1 p.2 a:=by
 cases h with
 | cons h1 t=>cases t with
  | nil=>exact ⟨_,rfl,h1⟩
def za8 (B:List Int):List (List PV):=B.map fun n=>[.v (.int .u8 n)]
@[simp] theorem yoh (B:List Int):(za8 B).length=B.length:=by simp [za8]
theorem z56 {B:List Int} {i:Nat} {x:Int} (h:B[i]?=some x):(za8 B)[i]?=some [.v (.int .u8 x)]:=by simp [za8,h]
def zhy (rv:List RV) (io:Nat) (G:List PV×List PV→Prop) (_:Dm rv) (_:Dm G) (e:Ex) (s:St):Prop:=(e = .normal∨e = .ret)∧∃ r,zfv ⟨[],rv,.skip⟩ io s=some r∧G r
@[simp] theorem ywp {rv:List RV} {io:Nat} {G:List PV×List PV→Prop} {s:St}:zhy rv io G ⟨⟩ ⟨⟩ .normal s = ∃ r,zfv ⟨[],rv,.skip⟩ io s=some r∧G r:=by simp [zhy]
@[simp] theorem yyo {rv:List RV} {io:Nat} {G:List PV×List PV→Prop} {s:St}:zhy rv io G ⟨⟩ ⟨⟩ .ret s = ∃ r,zfv ⟨[],rv,.skip⟩ io s=some r∧G r:=by simp [zhy]
theorem zdi {T:zb8} {f:Nat} {ms:List Bool} {rv:List RV} {ic:IC} {G:List PV×List PV→Prop} (hT:T f=some (.code ⟨ms,rv,ic⟩)) {args:List PV} {st:St} (hi:zjx args=some st) (h:W (zae T) (RUN T) ic st (zhy rv st.nx G ⟨⟩ ⟨⟩)) : ∃ r,RUN T f args=some r∧G r:=by
 unfold W at h
 obtain ⟨e,s,h1,h2,r,h3,hG⟩:=h
 refine ⟨r,z9y hT ?_,hG⟩
 unfold zrh
 rw [hi]
 simp only [Option.bind_some,h1]
 rcases h2 with rfl | rfl <;> exact h3
attribute [irreducible] zhy
theorem zwy (X:Nat):0≤IntKind.i64.wrap ((X &&& 255 % 2 ^ IntKind.i64.bits:Nat):Int)∧IntKind.i64.wrap ((X &&& 255 % 2 ^ IntKind.i64.bits:Nat):Int)≤255:=by
 have h:X &&& 255 % 2 ^ IntKind.i64.bits≤255:=Nat.le_trans Nat.and_le_right (by decide)
 rw [w64 (by omega) (by omega)]
 omega
def zex (B:List Int) (P:PV→Prop) (r:List PV×List PV):Prop := ∃ (v:PV) (p:Nat) (s:Int),P v∧p≤B.length∧r=([v],[.bx [.sl 1 (za8 B),iv p,iv s]])
def PB (v:PV):Prop := ∃ b,v=bv b
def PM (l:List Int) (v:PV):Prop := ∃ n,v=iv n∧n∈l
def PI (v:PV):Prop := ∃ n,v=iv n∧inI n
def PN (n:Int) (v:PV):Prop := ∃ m,v=iv m∧0≤m∧(0<n→m<n)
theorem zqq (B:List Int) (p:Nat) (s:Int) (hp:p≤B.length) (hB:B.length≤9223372036854775807) : ∃ r,RUN T zgl [.bx [.sl 1 (za8 B),iv p,iv s]]=some r∧zex B (fun v => ∃ n,v=iv n∧0≤n∧n≤255) r:=by
 refine zdi z22 rfl ?_
 by_cases h:p<B.length
 ·obtain ⟨x,hx⟩ : ∃ x,B[p]?=some x:=⟨_,List.getElem?_eq_getElem h⟩
  have hx':=z56 hx
  have hw:=wS h hB
  simp [-getElem?_pos,zqg,zqh,h,hx',hw]
  exact ⟨_,p+1,_,⟨_,rfl,(zwy _).1,(zwy _).2⟩,h,rfl⟩
 ·have h' : ¬ ((p:Int)<B.length):=by omega
  simp [-getElem?_pos,zqg,zqh,h,h']
  exact ⟨_,p,_,⟨_,rfl,(zwy _).1,(zwy _).2⟩,hp,rfl⟩
theorem zbe (B:List Int) (p:Nat) (s:Int) (hp:p≤B.length) (hB:B.length≤9223372036854775807) (n:Int) (hn:n≤9223372036854775807) : ∃ r,RUN T zbc [.bx [.sl 1 (za8 B),iv p,iv s],iv n]=some r∧zex B (PN n) r:=by
 refine zdi z17 rfl ?_
 obtain ⟨r1,h1,v1,p1,s1,⟨a1,rfl,a10,a11⟩,hp1,rfl⟩:=zqq B p s hp hB
 by_cases c1:n≤0
 ·simp [-getElem?_pos,zn9,zoa,c1]
  exact ⟨_,p,s,⟨0,rfl,by omega,by omega⟩,hp,rfl⟩
 have c0 : ¬ (n=0):=by omega
 by_cases c2:n≤256
 ·simp [-getElem?_pos,zn9,zoa,c0,c1,c2,h1]
  refine ⟨_,p1,s1,⟨_,rfl,?_,fun _ => ?_⟩,hp1,rfl⟩
  ·exact Int.tmod_nonneg _ a10
  ·exact Int.tmod_lt_of_pos _ (by omega)
 obtain ⟨r2,h2,v2,p2,s2,⟨a2,rfl,a20,a21⟩,hp2,rfl⟩:=zqq B p1 s1 hp1 hB
 obtain ⟨r3,h3,v3,p3,s3,⟨a3,rfl,a30,a31⟩,hp3,rfl⟩:=zqq B p2 s2 hp2 hB
 obtain ⟨r4,h4,v4,p4,s4,⟨a4,rfl,a40,a41⟩,hp4,rfl⟩:=zqq B p3 s3 hp3 hB
 have w1:=w64 (x:=a1*16777216) (by omega) (by omega)
 have w2:=w64 (x:=a2*65536) (by omega) (by omega)
 have w3:=w64 (x:=a1*16777216+a2*65536) (by omega) (by omega)
 have w4:=w64 (x:=a3*256) (by omega) (by omega)
 have w5:=w64 (x:=a1*16777216+a2*65536+a3*256) (by omega) (by omega)
 have w6:=w64 (x:=a1*16777216+a2*65536+a3*256+a4) (by omega) (by omega)
 simp [-getElem?_pos,zn9,zoa,c0,c1,c2,h1,h2,h3,h4,w1,w2,w3,w4,w5,w6]
 refine ⟨_,p4,s4,⟨_,rfl,?_,fun _ => ?_⟩,hp4,rfl⟩
 ·exact Int.tmod_nonneg _ (by omega)
 ·exact Int.tmod_lt_of_pos _ (by omega)
theorem zd4 (B:List Int) (p:Nat) (s:Int) (hp:p≤B.length) (hB:B.length≤9223372036854775807) (n:Int) (hn:n≤9223372036854775807) : ∃ r,RUN T zdo [.bx [.sl 1 (za8 B),iv p,iv s],iv n]=some r∧zex B PB r:=by
 refine zdi z1f rfl ?_
 obtain ⟨r1,h1,v1,p1,s1,⟨a1,rfl,a10,a11⟩,hp1,rfl⟩:=zbe B p s hp hB n hn
 simp [-getElem?_pos,zsg,zsh,h1]
 exact ⟨_,p1,s1,⟨_,rfl⟩,hp1,rfl⟩
def yox (B:List Int) (l:List Int) (P:PV→Prop) (r:List PV×List PV):Prop := ∃ (v:PV) (p:Nat) (s:Int),P v∧p≤B.length∧r=([v],[.bx [.sl 1 (za8 B),iv p,iv s],.own 1 (zac l)])
theorem zfz (B:List Int) (p:Nat) (s:Int) (hp:p≤B.length) (hB:B.length≤9223372036854775807) (l:List Int) (hl:0<l.length∧l.length≤9223372036854775807) : ∃ r,RUN T zd3 [.bx [.sl 1 (za8 B),iv p,iv s],.own 1 (zac l)]=some r∧yox B l (PM l) r:=by
 refine zdi z19 rfl ?_
 obtain ⟨r1,h1,v1,p1,s1,⟨a1,rfl,a10,a11⟩,hp1,rfl⟩:=zbe B p s hp hB l.length (by omega)
 obtain ⟨i,rfl⟩ : ∃ i:Nat,a1=i:=⟨a1.toNat,by omega⟩
 have hi:i<l.length:=by have:=a11 (by omega); omega
 obtain ⟨x,hx⟩ : ∃ x,l[i]?=some x:=⟨_,List.getElem?_eq_getElem hi⟩
 have hx':=zbj hx
 simp [-getElem?_pos,ztn,zto,h1,hx',hi]
 exact ⟨_,p1,s1,⟨x,rfl,List.mem_of_getElem? hx⟩,hp1,rfl⟩
theorem ym0 (x:Int):inI (IntKind.i64.wrap x):=by
 unfold inI IntKind.wrap
 simp [IntKind.bits,IntKind.signed]
 omega
theorem yhz (B:List Int) (p:Nat) (s:Int) (hp:p≤B.length) (hB:B.length≤9223372036854775807) : ∃ r,RUN T zm8 [.bx [.sl 1 (za8 B),iv p,iv s]]=some r∧zex B PI r:=by
 refine zdi z2d rfl ?_
 obtain ⟨r1,h1,v1,p1,s1,⟨a1,rfl,a10,a11⟩,hp1,rfl⟩:=zbe B p s hp hB 4 (by omega)
 by_cases c0:a1=0
 ·obtain ⟨r2,h2,v2,p2,s2,⟨a2,rfl,hm⟩,hp2,rfl⟩:=zfz B p1 s1 hp1 hB [0,1,-1,9,10,999,1000,2147483647,-2147483648,3037000499,3037000500,9223372036854775807,-9223372036854775807,-9223372036854775808] (by simp)
  simp only [zac,List.map] at h2
  simp [-getElem?_pos,zlb,zlc,h1,c0,h2]
  refine ⟨_,p2,s2,⟨a2,rfl,?_⟩,hp2,rfl⟩
  simp at hm
  unfold inI
  omega
 by_cases c1:a1=1
 ·simp [-getElem?_pos,zlb,zlc,h1,c0,c1]
  refine za3 (fun n st => ∃ (i p:Nat) (x s:Int),i+n=8∧p≤B.length∧inI x∧st.V 0 = .ptr 0 none 0 0 0∧st.V 3=iv x∧st.V 4=iv i∧0<st.nx∧st.ep=0∧st.S 0=some (.box [.sl 1 (za8 B),iv p,iv s])) ?_ 8 _ ⟨0,p1,0,s1,by omega,hp1,by unfold inI; omega,by simp⟩
  clear h1
  rintro n st ⟨i,p,x,s,hi,hp,hx,v0,v3,v4,hnx,hep,hS⟩
  simp [z0v,v4]
  refine zdd (fun h => ?_) (fun h => ?_)
  ·simp at h
   obtain ⟨r2,h2,v2,p2,s2,⟨a2,rfl,a20,a21⟩,hp2,rfl⟩:=zqq B p s hp hB
   have w:=w64 (x:=(i:Int)+1) (by omega) (by omega)
   simp [-getElem?_pos,v0,v3,v4,hep,hS,h2,w]
   exact zaq (n-1) (by omega) ⟨i+1,p2,_,s2,by omega,hp2,ym0 _,by simp [v0],by simp; rfl,by simp,by simp [hnx],by simp [hep],by simp⟩
  ·simp [-getElem?_pos,v3,v0,hS]
   exact ⟨_,p,s,⟨x,rfl,hx⟩,hp,rfl⟩
 by_cases c2:a1=2
 ·obtain ⟨r2,h2,v2,p2,s2,⟨a2,rfl,a20,a21⟩,hp2,rfl⟩:=zbe B p1 s1 hp1 hB 1000000 (by omega)
  have a22:=a21 (by omega)
  have w:=w64 (x:=a2-500000) (by omega) (by omega)
  simp [-getElem?_pos,zlb,zlc,h1,c0,c1,c2,h2,w]
  exact ⟨_,p2,s2,⟨_,rfl,by unfold inI; omega⟩,hp2,rfl⟩
 ·obtain ⟨r2,h2,v2,p2,s2,⟨a2,rfl,a20,a21⟩,hp2,rfl⟩:=zbe B p1 s1 hp1 hB 41 (by omega)
  have a22:=a21 (by omega)
  have w:=w64 (x:=a2-20) (by omega) (by omega)
  simp [-getElem?_pos,zlb,zlc,h1,c0,c1,c2,h2,w]
  exact ⟨_,p2,s2,⟨_,rfl,by unfold inI; omega⟩,hp2,rfl⟩
theorem yh0 (B:List Int) (hB:B.length≤9223372036854775807) : ∃ r,RUN T zm4 [.sl 1 (za8 B)]=some r∧∃ s:Int,r=([.bx [.sl 1 (za8 B),iv (0:Nat),iv s]],[]):=by
 refine zdi z15 rfl ?_
 simp [-getElem?_pos,ztg,zth]
 refine za3 (fun n st => ∃ (i:Nat) (x:Int),i+n=B.length∧st.V 0 = .sl 1 (za8 B)∧st.V 3=iv x∧st.V 4=iv i) ?_ B.length _ ⟨0,_,by omega,by simp,by simp; rfl,by simp⟩
 rintro n st ⟨i,x,hi,v0,v3,v4⟩
 by_cases h:i<B.length
 ·obtain ⟨b,hx⟩ : ∃ b,B[i]?=some b:=⟨_,List.getElem?_eq_getElem h⟩
  have hx':=z56 hx
  have hw:=wS h hB
  by_cases h2:(i:Int)<4000
  ·have h2':=eq_true h2
   simp [-getElem?_pos,ztf,v0,v3,v4,h,h2',hx',hw]
   exact zaq (n-1) (by omega) ⟨i+1,_,by omega,by simp [v0],by simp; rfl,by simp⟩
  ·have h2':=eq_false h2
   simp [-getElem?_pos,ztf,v0,v3,v4,h,h2']
 ·simp [-getElem?_pos,ztf,v0,v3,v4,h]
def adi (a b:Int):Int×Bool:=if -9223372036854775808≤a+b∧a+b≤9223372036854775807 then (a+b,true) else (0,false)
theorem yp0 {a b:Int} (ha:inI a) (hb:inI b):IntKind.i64.wrap (a+b)=if 9223372036854775807<a+b then a+b-18446744073709551616 else if a+b < -9223372036854775808 then a+b+18446744073709551616 else a+b:=by
 unfold inI at ha hb
 unfold IntKind.wrap
 simp [IntKind.bits,IntKind.signed]
 omega
theorem z39 (a b:Int) (ha:inI a) (hb:inI b):RUN T zkn [iv a,iv b]=some ([iv (adi a b).1,bv (adi a b).2],[]):=by
 refine zal z3i rfl ?_
 have hw:=yp0 ha hb
 unfold inI at ha hb
 unfold adi
 by_cases c1:9223372036854775807<a+b
 ·rw [if_pos c1] at hw
  rw [if_neg (by omega)]
  have d1:=eq_false (by omega : ¬ a<0)
  have d2:=eq_false (by omega : ¬ b<0)
  have d3:=eq_true (by omega:a+b-18446744073709551616<0)
  simp [-getElem?_pos,zia,zib,hw,d1,d2,d3]
 ·rw [if_neg c1] at hw
  by_cases c2:a+b < -9223372036854775808
  ·rw [if_pos c2] at hw
   rw [if_neg (by omega)]
   have d1:=eq_true (by omega:a<0)
   have d2:=eq_true (by omega:b<0)
   have d3:=eq_false (by omega : ¬ a+b+18446744073709551616<0)
   simp [-getElem?_pos,zia,zib,hw,d1,d2,d3]
  ·rw [if_neg c2] at hw
   rw [if_pos (by omega)]
   rcases Classical.propComplete (a<0) with d1 | d1
   all_goals rcases Classical.propComplete (b<0) with d2 | d2
   all_goals simp at d1 d2
   ·have d3:=eq_true (by omega:a+b<0)
    simp [-getElem?_pos,zia,zib,hw,eq_true d1,eq_true d2,d3]
   ·have d2':=eq_false (by omega : ¬ b<0)
    simp [-getElem?_pos,zia,zib,hw,eq_true d1,d2']
   ·have d1':=eq_false (by omega : ¬ a<0)
    simp [-getElem?_pos,zia,zib,hw,eq_true d2,d1']
   ·have d1':=eq_false (by omega : ¬ a<0)
    have d2':=eq_false (by omega : ¬ b<0)
    have d3:=eq_false (by omega : ¬ a+b<0)
    simp [-getElem?_pos,zia,zib,hw,d1',d2',d3]
theorem z7j {a b:Int} (ha:inI a):inI (adi a b).1:=by
 unfold adi
 split
 ·rename_i h; exact h
 ·unfold inI; omega
theorem yh1 (es:List (List PV)):RUN T zmf [.sl 1 es]=some ([bv (decide ((1048576:Int)<es.length))],[]):=by
 refine zal z02 rfl ?_
 simp [-getElem?_pos,zrz,zr0]
def zrp (v:Int):Nd:=⟨-1,0,0,0,v⟩
theorem yh2 (v:Int):RUN T zmn [iv v]=some ([.agg [.own 5 ([zrp v].map nd)]],[]):=by
 refine zal z1d rfl ?_
 have hr:zan 40 1=true:=by decide
 simp [-getElem?_pos,zsb,zsc,hr,zrp,nd]
theorem yla {x y:Nd}:x=y↔x.f=y.f∧x.c=y.c∧x.l=y.l∧x.r=y.r∧x.v=y.v:=by
 cases x; cases y; simp
open Classical in
theorem z4a (t u:List Nd) (ht:t.length≤9223372036854775807) (hu:u.length≤9223372036854775807):RUN T zj3 [.agg [.sl 5 (t.map nd)],.agg [.sl 5 (u.map nd)]]=some ([bv (decide (t=u))],[]):=by
 refine zal z1c rfl ?_
 rcases Classical.propComplete ((t.length:Int)=u.length) with hl | hl
 case inr =>
  have:decide (t=u)=false:=by simp; rintro rfl; simp at hl
  simp [-getElem?_pos,zpn,zpo,hl,this]
 simp [-getElem?_pos,zpn,zpo,hl]
 have hlen:t.length=u.length:=by simp at hl; omega
 refine za3 (fun n st => ∃ i:Nat,i+n=t.length∧(∀ j,j<i→t[j]?=u[j]?)∧st.V 2 = .ptr 0 none 0 0 0∧st.V 3 = .ptr 1 none 0 0 0∧st.V 5=iv i∧st.S 0=some (.box [.sl 5 (t.map nd)])∧st.S 1=some (.box [.sl 5 (u.map nd)])) ?_ t.length _ ⟨0,by simp⟩
 rintro n st ⟨i,hi,hj,v2,v3,v5,hS,hS1⟩
 simp [z0q,v2,v3,v5,hS]
 refine zdd (fun h => ?_) (fun h => ?_)
 ·simp at h
  obtain ⟨x,hx⟩ : ∃ x,t[i]?=some x:=⟨_,List.getElem?_eq_getElem h⟩
  obtain ⟨y,hy⟩ : ∃ y,u[i]?=some y:=⟨_,List.getElem?_eq_getElem (by omega)⟩
  have hw:=wS h ht
  have hiu:i<u.length:=by omega
  rcases Classical.propComplete (x.f=y.f∧x.c=y.c∧x.l=y.l∧x.r=y.r∧x.v=y.v) with e | e
  ·simp [-getElem?_pos,v2,v3,v5,hS,hS1,hx,hy,nd,h,hiu,hw,z7f,e]
   refine zaq (n-1) (by omega) ⟨i+1,by omega,zoq hj ?_,by simp [v2],by simp [v3],by simp,by simp [hS],by simp [hS1]⟩
   rw [hx,hy,yla.mpr (of_eq_true e)]
  ·have:decide (t=u)=false:=by
    simp
    rintro rfl
    rw [hx] at hy
    cases hy
    simp at e
   simp [-getElem?_pos,v2,v3,v5,hS,hS1,hx,hy,nd,h,hiu,hw,z7f,e,this]
 ·simp at h
  have:t=u:=by
   apply List.ext_getElem?
   intro j
   by_cases c:j<i
   ·exact hj j c
   ·rw [List.getElem?_eq_none (by omega),List.getElem?_eq_none (by omega)]
  simp [this]
def sbi (a b:Int):Int×Bool:=if -9223372036854775808≤a-b∧a-b≤9223372036854775807 then (a-b,true) else (0,false)
theorem yo4 {a b:Int} (ha:inI a) (hb:inI b):IntKind.i64.wrap (a-b)=if 9223372036854775807<a-b then a-b-18446744073709551616 else if a-b < -9223372036854775808 then a-b+18446744073709551616 else a-b:=by
 unfold inI at ha hb
 unfold IntKind.wrap
 simp [IntKind.bits,IntKind.signed]
 omega
theorem z4b (a b:Int) (ha:inI a) (hb:inI b):RUN T zkk [iv a,iv b]=some ([iv (sbi a b).1,bv (sbi a b).2],[]):=by
 refine zal z26 rfl ?_
 have hw:=yo4 ha hb
 unfold inI at ha hb
 unfold sbi
 by_cases c1:9223372036854775807<a-b
 ·rw [if_pos c1] at hw
  rw [if_neg (by omega)]
  have d1:=eq_false (by omega : ¬ a<0)
  have d2:=eq_true (by omega:b<0)
  have d3:=eq_true (by omega:a-b-18446744073709551616<0)
  simp [-getElem?_pos,zh6,zh7,hw,d1,d2,d3]
 ·rw [if_neg c1] at hw
  by_cases c2:a-b < -9223372036854775808
  ·rw [if_pos c2] at hw
   rw [if_neg (by omega)]
   have d1:=eq_true (by omega:a<0)
   have d2:=eq_false (by omega : ¬ b<0)
   have d3:=eq_false (by omega : ¬ a-b+18446744073709551616<0)
   simp [-getElem?_pos,zh6,zh7,hw,d1,d2,d3]
  ·rw [if_neg c2] at hw
   rw [if_pos (by omega)]
   rcases Classical.propComplete (a<0) with d1 | d1
   all_goals rcases Classical.propComplete (b<0) with d2 | d2
   all_goals simp at d1 d2
   ·simp [-getElem?_pos,zh6,zh7,hw,eq_true d1,eq_true d2]
   ·have d2':=eq_false (by omega : ¬ b<0)
    have d3:=eq_true (by omega:a-b<0)
    simp [-getElem?_pos,zh6,zh7,hw,eq_true d1,d2',d3]
   ·have d1':=eq_false (by omega : ¬ a<0)
    have d3:=eq_false (by omega : ¬ a-b<0)
    simp [-getElem?_pos,zh6,zh7,hw,eq_true d2,d1',d3]
   ·have d1':=eq_false (by omega : ¬ a<0)
    have d2':=eq_false (by omega : ¬ b<0)
    simp [-getElem?_pos,zh6,zh7,hw,d1',d2']
def PC (n:Nat) (v:PV):Prop := ∃ c:Cfg,v=zj1 c∧c.sg.length≤n
def LC (S:Nat→Option Ob) (nx:Nat) (lo:Nat) (m:List Int) (x:PV):Prop:=(x = .e0∧m=[])∨∃ o e,x = .ref o none e 0 m.length∧lo<o∧o<nx∧S o=some (.row 1 (zac m))
theorem z4c (B:List Int) (p:Nat) (s:Int) (hp:p≤B.length) (hB:B.length≤9223372036854775807) : ∃ r,RUN T zka [.bx [.sl 1 (za8 B),iv p,iv s]]=some r∧zex B (PC 60) r:=by
 refine zdi z2a rfl ?_
 obtain ⟨r1,h1,v1,p1,s1,⟨a1,rfl,a10,a11⟩,hp1,rfl⟩:=zbe B p s hp hB 4 (by omega)
 obtain ⟨r2,h2,v2,p2,s2,⟨a2,rfl,a20,a21⟩,hp2,rfl⟩:=zbe B p1 s1 hp1 hB 4 (by omega)
 obtain ⟨r3,h3,v3,p3,s3,⟨a3,rfl,a30,a31⟩,hp3,rfl⟩:=zbe B p2 s2 hp2 hB 5 (by omega)
 obtain ⟨r4,h4,v4,p4,s4,⟨a4,rfl,a40,a41⟩,hp4,rfl⟩:=zbe B p3 s3 hp3 hB 3 (by omega)
 obtain ⟨r5,h5,v5,p5,s5,⟨a5,rfl,a50,a51⟩,hp5,rfl⟩:=zbe B p4 s4 hp4 hB 3 (by omega)
 obtain ⟨r6,h6,v6,p6,s6,⟨a6,rfl,a60,a61⟩,hp6,rfl⟩:=zbe B p5 s5 hp5 hB 3 (by omega)
 obtain ⟨r7,h7,v7,p7,s7,⟨b1,rfl⟩,hp7,rfl⟩:=zd4 B p6 s6 hp6 hB 8 (by omega)
 have w6:IntKind.i64.wrap (1+a6)=1+a6:=by have:=a61 (by omega); exact w64 (by omega) (by omega)
 have key : ∀ (k:Int) (x0 x1 x2 x3 x4 x5 x6:Int) (st:St) (p:Nat) (s:Int),0≤k→k≤60→p≤B.length→st.V 0 = .ptr 0 none 0 0 0→st.V 2 = .ptr 1 none 0 0 0→st.V 3 = .ptr 2 none 0 0 0→st.V 4=iv k→st.V 5=iv (0:Nat)→st.nx=3→st.S 0=some (.box [.sl 1 (za8 B),iv p,iv s])→st.S 1=some (.box [iv 0,iv 0,iv 0,iv 0,iv 0,iv 0,iv 0,.e0])→st.S 2=some (.box [iv x0,iv x1,iv x2,iv x3,iv x4,iv x5,iv x6,.e0])→W (zae T) (RUN T) (.loop zxo) st (Bl 0 (Nx (fun s=>W (zae T) (RUN T) (.seq (.reg [⟨some (.E 53),.load true 8 (.V 3),none⟩,⟨none,.store [0,0,0,0,0,0,0,1] (.V 2) (.E 53),none⟩]) .ret) s (zhy [.cell [0,0,0,0,0,0,0,1] 2 true] 1 (zex B (PC 60)) ⟨⟩ ⟨⟩)) (zhy [.cell [0,0,0,0,0,0,0,1] 2 true] 1 (zex B (PC 60)) ⟨⟩ ⟨⟩) ⟨⟩ ⟨⟩) ⟨⟩):=by
  intro k x0 x1 x2 x3 x4 x5 x6 st p s hk0 hk hp v0 v2 v3 v4 v5 hnx hS hS1 hS2
  obtain ⟨kn,rfl⟩ : ∃ n:Nat,k=n:=⟨k.toNat,by omega⟩
  refine za3 (fun n st => ∃ (i p:Nat) (s:Int) (m:List Int) (x:PV),i+n=kn∧m.length=i∧p≤B.length∧st.V 0 = .ptr 0 none 0 0 0∧st.V 2 = .ptr 1 none 0 0 0∧st.V 3 = .ptr 2 none 0 0 0∧st.V 4=iv kn∧st.V 5=iv i∧2<st.nx∧LC st.S st.nx 2 m x∧st.S 0=some (.box [.sl 1 (za8 B),iv p,iv s])∧st.S 1=some (.box [iv 0,iv 0,iv 0,iv 0,iv 0,iv 0,iv 0,.e0])∧st.S 2=some (.box [iv x0,iv x1,iv x2,iv x3,iv x4,iv x5,iv x6,x])) ?_ kn _ ⟨0,p,s,[],.e0,by omega,rfl,hp,v0,v2,v3,v4,v5,by omega,.inl ⟨rfl,rfl⟩,hS,hS1,hS2⟩
  clear v0 v2 v3 v4 v5 hnx hS hS1 hS2 hp
  rintro n st ⟨i,p,s,m,x,hi,hm,hp,v0,v2,v3,v4,v5,hnx,hx,hS,hS1,hS2⟩
  have z1:=fr hnx
  have z2:=fr (by omega:0<st.nx)
  have z3:=fr (by omega:1<st.nx)
  simp [zxo,v4,v5]
  refine zdd (fun h => ?_) (fun h => ?_)
  ·simp at h
   have hw:=w64 (x:=(i:Int)+1) (by omega) (by omega)
   obtain ⟨r1,h1,v1,p1,s1,⟨a,rfl,a0,a1⟩,hp1,rfl⟩:=zbe B p s hp hB 3 (by omega)
   have a2:=a1 (by omega)
   have w:=w64 (x:=a-1) (by omega) (by omega)
   rcases hx with ⟨rfl,rfl⟩ | ⟨o,e,rfl,ho,hox,hSo⟩
   ·have hr8:zan 8 1=true:=by decide
    have hone:[[iv (a-1)]]=zac [a-1]:=rfl
    simp [-getElem?_pos,v0,v2,v3,v4,v5,hS,hS1,hS2,z1,z2,z3,h1,w,hw,hr8]
    exact zaq (n-1) (by omega) ⟨i+1,p1,s1,[a-1],.ref (st.nx+1) none st.ep 0 1,by omega,by simp at hm; simp; omega,hp1,by simp [v0],by simp [v2],by simp [v3],by simp [v4],by simp,by simp; omega,.inr ⟨st.nx+1,st.ep,rfl,by omega,by simp,by
     have n2 : ¬ st.nx+1=2:=by omega
     simp [n2,zac]⟩,by simp [z1,z2,z3],by simp [z1,z2,z3,hS1],by simp⟩
   ·have hr8:=zdc (n:=m.length+1) (by omega)
    have y1:=fr hox
    have y2:=fr ho
    have y3:=fr (by omega:0<o)
    have y4:=fr (by omega:1<o)
    simp [-getElem?_pos,v0,v2,v3,v4,v5,hS,hS1,hS2,hSo,z1,z2,z3,y1,y2,y3,y4,h1,w,hw,hr8,zc0]
    exact zaq (n-1) (by omega) ⟨i+1,p1,s1,m++[a-1],.ref (st.nx+1) none st.ep 0 (m.length+1),by omega,by simp [hm],hp1,by simp [v0],by simp [v2],by simp [v3],by simp [v4],by simp,by simp; omega,.inr ⟨st.nx+1,st.ep,by simp,by omega,by simp,by
     have n2 : ¬ st.nx+1=2:=by omega
     simp [n2]⟩,by simp [z1,z2,z3,y1,y2,y3,y4],by simp [z1,z2,z3,y1,y2,y3,y4,hS1],by simp⟩
  ·simp at h
   rcases hx with ⟨rfl,rfl⟩ | ⟨o,e,rfl,ho,hox,hSo⟩
   ·simp [-getElem?_pos,v0,v2,v3,hS,hS1,hS2]
    exact ⟨_,p,s,⟨⟨x0,x1,x2,x3,x4,x5,x6,[]⟩,rfl,by simp⟩,hp,rfl⟩
   ·have y2:=fr ho
    have y3:=fr (by omega:0<o)
    have y4:=fr (by omega:1<o)
    have y5:1≤o:=by omega
    simp [-getElem?_pos,v0,v2,v3,hS,hS1,hS2,hSo,y2,y3,y4,y5]
    exact ⟨_,p,s,⟨⟨x0,x1,x2,x3,x4,x5,x6,m⟩,rfl,by simp only; omega⟩,hp,rfl⟩
 cases b1 with
 | true =>
  obtain ⟨r8,h8,v8,p8,s8,⟨a8,rfl,a80,a81⟩,hp8,rfl⟩:=zbe B p7 s7 hp7 hB 100 (by omega)
  obtain ⟨r9,h9,v9,p9,s9,⟨b2,rfl⟩,hp9,rfl⟩:=zd4 B p8 s8 hp8 hB 4 (by omega)
  cases b2 with
  | true =>
   obtain ⟨r10,h10,v10,p10,s10,⟨a10',rfl,_,_⟩,hp10,rfl⟩:=zbe B p9 s9 hp9 hB (1+a6) (by have:=a61 (by omega); omega)
   obtain ⟨r11,h11,v11,p11,s11,⟨k,rfl,k0,k1⟩,hp11,rfl⟩:=zbe B p10 s10 hp10 hB 5 (by omega)
   have k2:=k1 (by omega)
   simp [-getElem?_pos,zk9,zla,h1,h2,h3,h4,h5,h6,h7,h8,h9,h10,h11,w6]
   exact key k _ _ _ _ _ _ _ _ p11 s11 k0 (by omega) hp11 (by simp) (by simp) (by simp) (by simp) (by simp) (by simp) (by simp) (by simp) (by simp; exact ⟨rfl,rfl,rfl,rfl,rfl,rfl,rfl⟩)
  | false =>
   obtain ⟨r11,h11,v11,p11,s11,⟨k,rfl,k0,k1⟩,hp11,rfl⟩:=zbe B p9 s9 hp9 hB 5 (by omega)
   have k2:=k1 (by omega)
   simp [-getElem?_pos,zk9,zla,h1,h2,h3,h4,h5,h6,h7,h8,h9,h11,w6]
   exact key k _ _ _ _ _ _ _ _ p11 s11 k0 (by omega) hp11 (by simp) (by simp) (by simp) (by simp) (by simp) (by simp) (by simp) (by simp) (by simp; exact ⟨rfl,rfl,rfl,rfl,rfl,rfl,rfl⟩)
 | false =>
  obtain ⟨r9,h9,v9,p9,s9,⟨b2,rfl⟩,hp9,rfl⟩:=zd4 B p7 s7 hp7 hB 4 (by omega)
  cases b2 with
  | true =>
   obtain ⟨r10,h10,v10,p10,s10,⟨a10',rfl,_,_⟩,hp10,rfl⟩:=zbe B p9 s9 hp9 hB (1+a6) (by have:=a61 (by omega); omega)
   obtain ⟨r11,h11,v11,p11,s11,⟨k,rfl,k0,k1⟩,hp11,rfl⟩:=zbe B p10 s10 hp10 hB 5 (by omega)
   have k2:=k1 (by omega)
   simp [-getElem?_pos,zk9,zla,h1,h2,h3,h4,h5,h6,h7,h9,h10,h11,w6]
   exact key k _ _ _ _ _ _ _ _ p11 s11 k0 (by omega) hp11 (by simp) (by simp) (by simp) (by simp) (by simp) (by simp) (by simp) (by simp) (by simp; exact ⟨rfl,rfl,rfl,rfl,rfl,rfl,rfl⟩)
  | false =>
   obtain ⟨r11,h11,v11,p11,s11,⟨k,rfl,k0,k1⟩,hp11,rfl⟩:=zbe B p9 s9 hp9 hB 5 (by omega)
   have k2:=k1 (by omega)
   simp [-getElem?_pos,zk9,zla,h1,h2,h3,h4,h5,h6,h7,h9,h11,w6]
   exact key k _ _ _ _ _ _ _ _ p11 s11 k0 (by omega) hp11 (by simp) (by simp) (by simp) (by simp) (by simp) (by simp) (by simp) (by simp) (by simp; exact ⟨rfl,rfl,rfl,rfl,rfl,rfl,rfl⟩)
theorem yh3 (B:List Int) (p:Nat) (s:Int) (hp:p≤B.length) (hB:B.length≤9223372036854775807) : ∃ r,RUN T zm6 [.bx [.sl 1 (za8 B),iv p,iv s]]=some r∧zex B (PC 64) r:=by
 refine zdi z2b rfl ?_
 obtain ⟨r1,h1,v1,p1,s1,⟨c,rfl,hc⟩,hp1,rfl⟩:=z4c B p s hp hB
 obtain ⟨r2,h2,v2,p2,s2,⟨a,rfl,a0,a1⟩,hp2,rfl⟩:=zbe B p1 s1 hp1 hB 12 (by omega)
 have hr8:zan 8 1=true:=by decide
 by_cases c0:a=0
 ·obtain ⟨r3,h3,v,p3,s3,⟨x,rfl,hx⟩,hp3,rfl⟩:=zfz B p2 s2 hp2 hB [0,1,8,9,-1] (by simp)
  simp only [zac,List.map] at h3
  simp [-getElem?_pos,zfx,zfy,hr8,h1,h2,c0,h3]
  exact ⟨_,p3,s3,⟨⟨x,c.de,c.bi,c.la,c.rw,c.nu,c.dn,c.sg⟩,rfl,by simp only; omega⟩,hp3,rfl⟩
 by_cases c1:a=1
 ·obtain ⟨r3,h3,v,p3,s3,⟨x,rfl,hx⟩,hp3,rfl⟩:=zfz B p2 s2 hp2 hB [-1,0,4,5] (by simp)
  simp only [zac,List.map] at h3
  simp [-getElem?_pos,zfx,zfy,hr8,h1,h2,c0,c1,h3]
  exact ⟨_,p3,s3,⟨⟨c.ro,x,c.bi,c.la,c.rw,c.nu,c.dn,c.sg⟩,rfl,by simp only; omega⟩,hp3,rfl⟩
 by_cases c2:a=2
 ·obtain ⟨r3,h3,v,p3,s3,⟨x,rfl,hx⟩,hp3,rfl⟩:=zfz B p2 s2 hp2 hB [1,2,8,9] (by simp)
  simp only [zac,List.map] at h3
  simp [-getElem?_pos,zfx,zfy,hr8,h1,h2,c0,c1,c2,h3]
  exact ⟨_,p3,s3,⟨⟨c.ro,c.de,x,c.la,c.rw,c.nu,c.dn,c.sg⟩,rfl,by simp only; omega⟩,hp3,rfl⟩
 by_cases c3:a=3
 ·obtain ⟨r3,h3,v,p3,s3,⟨x,rfl,hx⟩,hp3,rfl⟩:=zfz B p2 s2 hp2 hB [0,1,100,101,9223372036854775807] (by simp)
  simp only [zac,List.map] at h3
  simp [-getElem?_pos,zfx,zfy,hr8,h1,h2,c0,c1,c2,c3,h3]
  exact ⟨_,p3,s3,⟨⟨c.ro,c.de,c.bi,x,c.rw,c.nu,c.dn,c.sg⟩,rfl,by simp only; omega⟩,hp3,rfl⟩
 by_cases c4:a=4
 ·obtain ⟨r3,h3,v,p3,s3,⟨x,rfl,hx⟩,hp3,rfl⟩:=zfz B p2 s2 hp2 hB [0,1,20,21] (by simp)
  simp only [zac,List.map] at h3
  simp [-getElem?_pos,zfx,zfy,hr8,h1,h2,c0,c1,c2,c3,c4,h3]
  exact ⟨_,p3,s3,⟨⟨c.ro,c.de,c.bi,c.la,x,c.nu,c.dn,c.sg⟩,rfl,by simp only; omega⟩,hp3,rfl⟩
 by_cases c5:a=5
 ·obtain ⟨r3,h3,v,p3,s3,⟨x,rfl,hx⟩,hp3,rfl⟩:=zfz B p2 s2 hp2 hB [0,1,c.dn,IntKind.i64.wrap (c.dn+1),-1] (by simp)
  simp only [zac,List.map] at h3
  simp [-getElem?_pos,zfx,zfy,hr8,h1,h2,c0,c1,c2,c3,c4,c5,h3]
  exact ⟨_,p3,s3,⟨⟨c.ro,c.de,c.bi,c.la,c.rw,x,c.dn,c.sg⟩,rfl,by simp only; omega⟩,hp3,rfl⟩
 by_cases c6:a=6
 ·obtain ⟨r3,h3,v,p3,s3,⟨x,rfl,hx⟩,hp3,rfl⟩:=zfz B p2 s2 hp2 hB [0,1,1000,1001,9223372036854775807] (by simp)
  simp only [zac,List.map] at h3
  simp [-getElem?_pos,zfx,zfy,hr8,h1,h2,c0,c1,c2,c3,c4,c5,c6,h3]
  exact ⟨_,p3,s3,⟨⟨c.ro,c.de,c.bi,c.la,c.rw,c.nu,x,c.sg⟩,rfl,by simp only; omega⟩,hp3,rfl⟩
 by_cases c7:a=7
 ·obtain ⟨r3,h3,v,p3,s3,⟨x,rfl,x0,x1⟩,hp3,rfl⟩:=zbe B p2 s2 hp2 hB 5 (by omega)
  have x2:=x1 (by omega)
  have w:=w64 (x:=x-2) (by omega) (by omega)
  have hr9:=zdc (n:=c.sg.length+1) (by omega)
  simp [-getElem?_pos,zfx,zfy,hr8,hr9,h1,h2,c0,c1,c2,c3,c4,c5,c6,c7,h3,w,zc0]
  exact ⟨_,p3,s3,⟨⟨c.ro,c.de,c.bi,c.la,c.rw,c.nu,c.dn,c.sg++[x-2]⟩,rfl,by simp; omega⟩,hp3,rfl⟩
 ·simp [-getElem?_pos,zfx,zfy,hr8,h1,h2,c0,c1,c2,c3,c4,c5,c6,c7]
  exact ⟨_,p2,s2,⟨c,rfl,by omega⟩,hp2,rfl⟩
def sv (s:ByteArray):PV := .v (.string s)
def zcv (l:List ByteArray):List (List PV):=l.map fun s=>[.v (.string s)]
@[simp] theorem yyj (l:List ByteArray):(zcv l).length=l.length:=by simp [zcv]
theorem z6s {l:List ByteArray} {i:Nat} {x:ByteArray} (h:l[i]?=some x):(zcv l)[i]?=some [.v (.string x)]:=by simp [zcv,h]
def zzx (q:Bool) (t:List Nd):PV:=if q then .own 5 (t.map nd) else .sl 5 (t.map nd)
@[simp] theorem y2m (q:Bool) (t:List Nd):fz (zzx q t) = .sl 5 (t.map nd):=by cases q <;> simp [zzx]
def trs (q:Bool) (M:List (List Nd)):List (List PV):=M.map fun t=>[zzx q t]
@[simp] theorem y64 (q:Bool) (M:List (List Nd)):(trs q M).length=M.length:=by simp [trs]
structure Mo where
 ns:List ByteArray
 ix:List Int
 b:Int
 ts:List (List Nd)
structure MoL (n:Nat) (m:Mo):Prop where
 ns:m.ns.length≤n
 ss : ∀ x∈m.ns,x.size≤n
 ix:m.ix.length≤n
 ts:m.ts.length≤n
 tl : ∀ l∈m.ts,l.length≤n
theorem MoL.mono {n k:Nat} {m:Mo} (h:MoL n m) (hk:n≤k):MoL k m:=⟨Nat.le_trans h.ns hk,fun x hx=>Nat.le_trans (h.ss x hx) hk,Nat.le_trans h.ix hk,Nat.le_trans h.ts hk,fun x hx=>Nat.le_trans (h.tl x hx) hk⟩
theorem ynm (s:ByteArray) : ∀ (n i:Nat) (r:List UInt8),s.size-i≤n→ByteArray.toList.loop s i r=r.reverse++s.data.toList.drop i:=by
 have hs:s.data.toList.length=s.size:=by cases s; rfl
 intro n
 induction n with
 | zero =>
  intro i r h
  rw [ByteArray.toList.loop,if_neg (by omega),List.drop_eq_nil_of_le (by omega)]
  simp
 | succ n ih =>
  intro i r h
  rw [ByteArray.toList.loop]
  split
  ·rename_i hi
   rw [ih _ _ (by omega)]
   have hi':i<s.data.toList.length:=by omega
   rw [List.drop_eq_getElem_cons hi']
   have:s.get! i=s.data.toList[i]:=by
    cases s with
    | mk d =>
     show d[i]! = _
     rw [getElem!_pos d i (by simpa using hi')]
     simp
   simp [this]
  ·rename_i hi
   rw [List.drop_eq_nil_of_le (by omega)]
   simp
theorem yaw (s:ByteArray):s.toList=s.data.toList:=by
 unfold ByteArray.toList
 rw [ynm s s.size 0 [] (by omega)]
 simp
theorem ykf {x y:ByteArray} (h:x.toList=y.toList):x=y:=by
 rw [yaw,yaw] at h
 cases x; cases y
 simp at h
 simp [h]
theorem ypz {x y:ByteArray} (h : ¬ x=y):(x.toList == y.toList)=false:=by
 simp only [beq_eq_false_iff_ne,ne_eq]
 exact fun e=>h (ykf e)
def rwS (q:Bool) (l:List ByteArray):PV:=if q then .own 1 (zcv l) else .sl 1 (zcv l)
@[simp] theorem y8k (q:Bool) (l:List ByteArray):fz (rwS q l) = .sl 1 (zcv l):=by cases q <;> simp [rwS]
def z9e (q:Bool) (L:List (List ByteArray)):List (List PV):=L.map fun l=>[rwS q l]
@[simp] theorem y13 (q:Bool) (L:List (List ByteArray)):(z9e q L).length=L.length:=by simp [z9e]
def ltr (n:Int):Bool:=decide (97≤n) && decide (n≤122)
def dgt (n:Int):Bool:=decide (48≤n) && decide (n≤57)
def chB (s:ByteArray) (i:Nat):Bool:=match s[i]? with
 | none=>true
 | some b=>ltr b.toNat || (decide (i≠0) && dgt b.toNat)
def zem (s:ByteArray):Bool:=zak s.size 1 12 && (List.range s.size).all (chB s)
theorem z96 {s:ByteArray} {i:Nat} {b:UInt8} (h:s[i]?=some b):chB s i=(ltr b.toNat || (decide (i≠0) && dgt b.toNat)):=by simp [chB,h]
theorem z4d (s:ByteArray) (hs:s.size≤9223372036854775807):RUN T zkt [.v (.string s)]=some ([bv (zem s)],[]):=by
 refine zal z3u rfl ?_
 rcases Bool.eq_false_or_eq_true (zak s.size 1 12) with h0 | h0
 case inr =>
  have no:zem s=false:=by unfold zem; rw [h0]; rfl
  simp [-getElem?_pos,zoj,zok,zbs,-zbd,h0,no]
 have hr:=za6.mp h0
 obtain ⟨b0,hb0⟩ : ∃ b,s[0]?=some b:=⟨_,getElem?_pos s 0 (by omega)⟩
 have hn0:zbi (.v (.int .i64 0))=some 0:=rfl
 rcases Classical.propComplete (((b0.toNat:Nat):Int)<97) with f | f
 case inl =>
  have hc:chB s 0=false:=by
   rw [z96 hb0]
   have : ¬ (97≤(b0.toNat:Int)):=by have:=of_eq_true f; omega
   simp [ltr,this]
  have no:zem s=false:=by unfold zem; rw [zhw (by omega) hc]; simp
  simp [-getElem?_pos,zoj,zok,zbs,-zbd,h0,no,hb0,f]
 simp [-getElem?_pos,zoj,zok,zbs,-zbd,h0,hb0,f]
 refine za3 (fun n st => ∃ i:Nat,i+n=s.size∧(∀ j,j<i→chB s j=true)∧st.V 0 = .v (.string s)∧st.V 3=iv i) ?_ s.size _ ⟨0,by simp⟩
 rintro n st ⟨i,hi,hj,v0,v3⟩
 simp [z0z,v0,v3]
 refine zdd (fun h => ?_) (fun h => ?_)
 ·simp at h
  obtain ⟨b,hb⟩ : ∃ b,s[i]?=some b:=⟨_,getElem?_pos s i h⟩
  have hw:=wS h hs
  have hc:=z96 hb
  have hcv:IntKind.i64.wrap (b.toNat:Int)=b.toNat:=w64 (by omega) (by have:=b.toNat_lt; omega)
  have e1:zak (b.toNat:Int) 97 122=ltr b.toNat:=rfl
  have e2:zak (b.toNat:Int) 48 57=dgt b.toNat:=rfl
  cases a1:ltr b.toNat with
  | true =>
   have e3:=e1.trans a1
   simp [-getElem?_pos,v0,v3,hb,hcv,e3,hw,zbs,-zbd]
   exact zaq (n-1) (by omega) ⟨i+1,by omega,zoq hj (by rw [hc,a1]; rfl),by simp [v0],by simp⟩
  | false =>
   have e3:=e1.trans a1
   cases a2:dgt b.toNat with
   | true =>
    have e4:=e2.trans a2
    have hi0:i≠0:=by
     rintro rfl
     rw [hb0] at hb
     cases hb
     simp [dgt] at a2
     have:=of_eq_false f
     omega
    simp [-getElem?_pos,v0,v3,hb,hcv,e3,e4,hw,zbs,-zbd]
    exact zaq (n-1) (by omega) ⟨i+1,by omega,zoq hj (by rw [hc,a1,a2]; simp [hi0]),by simp [v0],by simp⟩
   | false =>
    have e4:=e2.trans a2
    have no:zem s=false:=by unfold zem; rw [zhw h (by rw [hc,a1,a2]; simp:chB s i=false)]; simp
    simp [-getElem?_pos,v0,v3,hb,hcv,e3,e4,hw,no,zbs,-zbd]
 ·simp at h
  have:=zw2 (p:=chB s) (n:=s.size) fun j hj'=>hj j (by omega)
  have ok:zem s=true:=by unfold zem; rw [this,h0]; rfl
  simp [ok]
theorem z5z (l:List ByteArray) (i:Nat):List.take i (zcv l)=zcv (l.take i):=by simp [zcv]
def zgc (l:List ByteArray) (x:ByteArray):Bool:=l.any fun y=>decide (y=x)
theorem z4e (l:List ByteArray) (x:ByteArray) (hl:l.length≤9223372036854775807):RUN T zku [.sl 1 (zcv l),.v (.string x)]=some ([bv (zgc l x)],[]):=by
 refine zal z3v rfl ?_
 simp [-getElem?_pos,zvx,zvy]
 refine za3 (fun n st => ∃ i:Nat,i+n=l.length∧(∀ (j:Nat) (y:ByteArray),j<i→l[j]?=some y→¬ y=x)∧st.V 0 = .sl 1 (zcv l)∧st.V 1 = .v (.string x)∧st.V 5=iv i) ?_ l.length _ ⟨0,by simp⟩
 rintro n st ⟨i,hi,hj,v0,v1,v5⟩
 simp [z00,v0,v5]
 refine zdd (fun h => ?_) (fun h => ?_)
 ·simp at h
  obtain ⟨y,hy⟩ : ∃ y,l[i]?=some y:=⟨_,List.getElem?_eq_getElem h⟩
  have hy':=z6s hy
  have hw:=wS h hl
  by_cases e:y=x
  ·subst e
   have:zgc l y=true:=by
    unfold zgc; rw [List.any_eq_true]; exact ⟨y,List.mem_of_getElem? hy,by simp⟩
   simp [-getElem?_pos,v0,v1,v5,hy',h,this]
  ·simp [-getElem?_pos,v0,v1,v5,hy',h,hw,ypz e]
   exact zaq (n-1) (by omega) ⟨i+1,by omega,zoo (P:=fun _ y => ¬ y=x) hj hy e,by simp [v0],by simp [v1],by simp⟩
 ·simp at h
  have:zgc l x=false:=by
   unfold zgc
   rw [List.any_eq_false]
   intro y hy
   obtain ⟨j,hjy⟩:=List.getElem?_of_mem hy
   simpa using hj j y (by have:=(List.getElem?_eq_some_iff.mp hjy).1; omega) hjy
  simp [this]
def nmB (L:List ByteArray) (i:Nat):Bool:=match L[i]? with
 | none=>true
 | some x=>zem x && !zgc (L.take i) x
def zio (L:List ByteArray):Bool:=(List.range L.length).all (nmB L)
theorem zxh {L:List ByteArray} {i:Nat} {x:ByteArray} (h:L[i]?=some x):nmB L i=(zem x && !zgc (L.take i) x):=by simp [nmB,h]
def ylr (p:Nat→Bool) (i:Nat):List Int:=((List.range i).filter p).map fun (j:Nat)=>(j:Int)
@[simp] theorem yz9 (p:Nat→Bool):ylr p 0=[]:=rfl
theorem zwg (x:Int):IntKind.u64.wrap x=x % 18446744073709551616:=IntKind.wrap_u64 x
theorem ypt (a b:Int):za2 .mul (.int .u64 a) (.int .u64 b)=some (.int .u64 (a*b % 18446744073709551616)):=by rw [yaj,zwg]
theorem ylw (a b:Int):za2 .add (.int .u64 a) (.int .u64 b)=some (.int .u64 ((a+b) % 18446744073709551616)):=by rw [yay,zwg]
theorem ypf (x:Int):za2 .shr (.int .u64 x) (.int .u64 32)=some (.int .u64 (x / 4294967296)):=by
 rw [z9v,if_pos (by decide)]
 have:(2:Int) ^ min (32:Int).toNat IntKind.u64.bits=4294967296:=by decide
 rw [this,Int.fdiv_eq_ediv_of_nonneg _ (by decide)]
theorem zzp {x:Int} (h0:0≤x) (h1:x<18446744073709551616):za2 .and (.int .u64 x) (.int .u64 4294967295)=some (.int .u64 (x % 4294967296)):=by
 rw [yae,zwg]
 have e:((BitVec.ofInt IntKind.u64.bits x &&& BitVec.ofInt IntKind.u64.bits 4294967295).toNat:Int)=x % 4294967296:=by
  obtain ⟨n,rfl⟩:=Int.eq_ofNat_of_zero_le h0
  have hn:n<2 ^ 64:=by omega
  have e2:(BitVec.ofInt 64 (n:Int) &&& BitVec.ofInt 64 4294967295).toNat=n % 4294967296:=by
   rw [BitVec.toNat_and]
   have e3:(BitVec.ofInt 64 (n:Int)).toNat=n:=by
    rw [BitVec.ofInt_natCast,BitVec.toNat_ofNat,Nat.mod_eq_of_lt hn]
   have e4:(BitVec.ofInt 64 4294967295).toNat=2 ^ 32-1:=by decide
   rw [e3,e4,Nat.and_two_pow_sub_one_eq_mod]
  show (((BitVec.ofInt 64 (n:Int) &&& BitVec.ofInt 64 4294967295).toNat:Nat):Int)=_
  rw [e2]; omega
 rw [e]; congr 2; omega
theorem parts {x y:Int} (hx:0≤x) (hx1:x<18446744073709551616) (hy:0≤y) (hy1:y<18446744073709551616) :
  ∃ a b c d:Int,a=x % 4294967296*(y % 4294967296)∧b=x / 4294967296*(y % 4294967296)∧c=x % 4294967296*(y / 4294967296)∧d=x / 4294967296*(y / 4294967296)∧0≤a∧a≤18446744065119617025∧0≤b∧b≤18446744065119617025∧0≤c∧c≤18446744065119617025∧0≤d∧d≤18446744065119617025∧x*y=d*18446744073709551616+(b+c)*4294967296+a:=by
 have bd : ∀ u v:Int,0≤u→u≤4294967295→0≤v→v≤4294967295→0≤u*v∧u*v≤18446744065119617025:=fun u v h1 h2 h3 h4 =>
  ⟨Int.mul_nonneg h1 h3,Int.le_trans (Int.mul_le_mul h2 h4 h3 (by decide)) (by decide)⟩
 have x0:0≤x % 4294967296∧x % 4294967296≤4294967295:=by omega
 have x1:0≤x / 4294967296∧x / 4294967296≤4294967295:=by omega
 have y0:0≤y % 4294967296∧y % 4294967296≤4294967295:=by omega
 have y1:0≤y / 4294967296∧y / 4294967296≤4294967295:=by omega
 refine ⟨_,_,_,_,rfl,rfl,rfl,rfl,(bd _ _ x0.1 x0.2 y0.1 y0.2).1,(bd _ _ x0.1 x0.2 y0.1 y0.2).2,(bd _ _ x1.1 x1.2 y0.1 y0.2).1,(bd _ _ x1.1 x1.2 y0.1 y0.2).2,(bd _ _ x0.1 x0.2 y1.1 y1.2).1,(bd _ _ x0.1 x0.2 y1.1 y1.2).2,(bd _ _ x1.1 x1.2 y1.1 y1.2).1,(bd _ _ x1.1 x1.2 y1.1 y1.2).2,?_⟩
 have ex:x=x / 4294967296*4294967296+x % 4294967296:=by omega
 have ey:y=y / 4294967296*4294967296+y % 4294967296:=by omega
 generalize x / 4294967296=p at *
 generalize x % 4294967296=q at *
 generalize y / 4294967296=r at *
 generalize y % 4294967296=s at *
 rw [ex,ey,Int.add_mul,Int.mul_add,Int.mul_add]
 have e1:p*4294967296*(r*4294967296)=p*r*18446744073709551616:=by
  rw [show (18446744073709551616:Int)=4294967296*4294967296 by decide,Int.mul_assoc,Int.mul_comm 4294967296 (r*4294967296),Int.mul_assoc r,← Int.mul_assoc p r]
 have e2:p*4294967296*s=p*s*4294967296:=by rw [Int.mul_assoc,Int.mul_comm 4294967296 s,← Int.mul_assoc]
 have e3:q*(r*4294967296)=q*r*4294967296:=by rw [← Int.mul_assoc]
 rw [e1,e2,e3,Int.add_mul]
 omega
theorem zx0 (x y:Int) (hx:0≤x) (hx1:x<18446744073709551616) (hy:0≤y) (hy1:y<18446744073709551616):RUN T zjf [.v (.int .u64 x),.v (.int .u64 y)]=some ([.v (.int .u64 (x*y / 18446744073709551616)),.v (.int .u64 (x*y % 18446744073709551616))],[]):=by
 refine zal z31 rfl ?_
 obtain ⟨a,b,c,d,ea,eb,ec,ed,a0,a1,b0,b1,c0,c1,d0,d1,hp⟩:=parts hx hx1 hy hy1
 have f1:=zzp hx hx1
 have f2:=zzp hy hy1
 have g1:a % 18446744073709551616=a:=by omega
 have g2:b % 18446744073709551616=b:=by omega
 have g3:c % 18446744073709551616=c:=by omega
 have g4:d % 18446744073709551616=d:=by omega
 have g5:(b+a / 4294967296) % 18446744073709551616=b+a / 4294967296:=by omega
 have f3:=zzp (x:=b+a / 4294967296) (by omega) (by omega)
 simp [-yaj,-yay,-yae,-z9v,ypt,ylw,ypf,f1,f2,f3,zv6,zv7,← ea,← eb,← ec,← ed,g1,g2,g3,g4,g5]
 omega
structure Wd where
 n:Bool
 h:Int
 l:Int
deriving DecidableEq
abbrev uv (x:Int):PV := .v (.int .u64 x)
def wd (w:Wd):List PV:=[bv w.n,uv w.h,uv w.l]
def wfU (w:Wd):Prop:=0≤w.h∧w.h<18446744073709551616∧0≤w.l∧w.l<18446744073709551616
def wok (w:Wd):Bool:=decide (w.h<9223372036854775808) && (!w.n || decide (0<w.h) || decide (0<w.l))
def mag (w:Wd):Int:=w.h*18446744073709551616+w.l
def mkW (n:Bool) (m:Int):Wd:=⟨n && decide (0<m),m / 18446744073709551616,m % 18446744073709551616⟩
def zb3:Wd:=⟨false,0,0⟩
theorem zyu {n:Bool} {m:Int} (h0:0≤m) (h1:m<340282366920938463463374607431768211456):wfU (mkW n m):=by
 unfold wfU mkW; simp only; omega
theorem z6v {n:Bool} {m:Int} (h0:0≤m):wok (mkW n m)=decide (m<170141183460469231731687303715884105728):=by
 unfold wok mkW
 simp only
 by_cases h:m<170141183460469231731687303715884105728
 ·have e:m / 18446744073709551616<9223372036854775808:=by omega
  rw [decide_eq_true h,decide_eq_true e]
  by_cases hz:0<m
  ·by_cases h2:0<m / 18446744073709551616
   ·simp [h2]
   ·have:0<m % 18446744073709551616:=by omega
    simp [this]
  ·simp [hz]
 ·have e : ¬ m / 18446744073709551616<9223372036854775808:=by omega
  rw [decide_eq_false h,decide_eq_false e]; rfl
theorem zx1 (n:Int) (h:inI n):RUN T zjg [iv n]=some ([uv n.natAbs],[]):=by
 refine zal z32 rfl ?_
 obtain ⟨h0,h1⟩:=h
 simp [zv8,zv9]
 refine zdd (fun h => ?_) (fun h => ?_) <;> simp at h <;> simp [zwg] <;> omega
theorem zqr (n:Bool) (h l:Int):RUN T zfw [bv n,uv h,uv l]=some ([.agg (wd ⟨n && (decide (0<h) || decide (0<l)),h,l⟩)],[]):=by
 refine zal z3q rfl ?_
 cases n with
 | false=>simp [zoh,zoi,wd]
 | true =>
  by_cases h1:0<h
  ·simp [zoh,zoi,wd,h1]
  ·simp [zoh,zoi,wd,h1]
theorem zon (w:Wd):RUN T zgm [.agg (wd w)]=some ([bv (wok w)],[]):=by
 refine zal z3z rfl ?_
 obtain ⟨n,h,l⟩:=w
 unfold wok
 by_cases h1:h<9223372036854775808
 ·cases n with
  | false=>simp [zle,zlf,wd,h1]
  | true =>
   by_cases h2:0<h
   ·simp [zle,zlf,wd,h1,h2]
   ·simp [zle,zlf,wd,h1,h2]
 ·simp [zle,zlf,wd,h1]
def zcq (a b:Int):Int:=if a<b then -1 else if b<a then 1 else 0
theorem z4f (x:Int):RUN T zky [uv x]=some ([bv false],[]):=by
 refine zal z34 rfl ?_
 simp [zwa,zwb]
theorem z4g (x y:Int):RUN T zkx [uv x,uv y]=some ([iv (zcq x y)],[]):=by
 refine zal z33 rfl ?_
 have e1:=z4f x
 have e2:=z4f y
 unfold zcq
 by_cases h1:x<y
 ·simp [zol,zom,e1,e2,h1]
 ·by_cases h2:y<x
  ·simp [zol,zom,e1,e2,h1,h2]
  ·simp [zol,zom,e1,e2,h1,h2]
theorem z4h (x y:Int):RUN T zko [.sl 1 [[iv x],[iv y]]]=some ([iv (if x=0 then y else x)],[]):=by
 refine zal z3j rfl ?_
 simp [zvj,zvk]
 refine za3 (fun n st => ∃ i:Nat,i+n=2∧(1≤i→x=0)∧(2≤i→y=0)∧st.V 3=iv 0∧st.V 6 = .sl 1 [[iv x],[iv y]]∧st.V 7=iv 2∧st.V 8=iv i) ?_ 2 _ ⟨0,by simp⟩
 rintro n st ⟨i,hi,hx,hy,v3,v6,v7,v8⟩
 simp [z0y,v7,v8]
 have h3:i=0∨i=1∨i=2:=by omega
 rcases h3 with rfl | rfl | rfl
 ·have hw:IntKind.i64.wrap 1=1:=w64 (by omega) (by omega)
  by_cases h:x=0
  ·simp [v3,v6,v7,v8,h,hw]
   exact zaq (n-1) (by omega) ⟨1,by omega,fun _=>h,by simp,by simp [v3],by simp [v6,h],by simp [v7],by simp⟩
  ·simp [v3,v6,v7,v8,h]
 ·have hx:=hx (by omega)
  have hw:IntKind.i64.wrap 2=2:=w64 (by omega) (by omega)
  by_cases h:y=0
  ·simp [v3,v6,v7,v8,h,hx,hw]
   exact zaq (n-1) (by omega) ⟨2,by omega,fun _=>hx,fun _=>h,by simp [v3],by simp [v6,h,hx],by simp [v7],by simp⟩
  ·simp [v3,v6,v7,v8,h,hx]
 ·have hx:=hx (by omega)
  have hy:=hy (by omega)
  simp [v3,hx,hy]
def zfe (a b:Wd):Int:=if zcq a.h b.h=0 then zcq a.l b.l else zcq a.h b.h
theorem yl0 {a b:Wd} (ha:wfU a) (hb:wfU b):zfe a b=zcq (mag a) (mag b):=by
 obtain ⟨_,_,_,_⟩:=ha
 obtain ⟨_,_,_,_⟩:=hb
 unfold zfe zcq mag
 split <;> split <;> split <;> (try split) <;> (try split) <;> omega
theorem zx2 (a b:Wd):RUN T zjd [.agg (wd a),.agg (wd b)]=some ([iv (zfe a b)],[]):=by
 refine zal z3r rfl ?_
 have e1:=z4g a.h b.h
 have e2:=z4g a.l b.l
 have e3:=z4h (zcq a.h b.h) (zcq a.l b.l)
 simp [zvr,zvs,wd,e1,e2,e3,zfe]
def zg1 (a b:Int):Wd:=mkW (decide (a<0) != decide (b<0)) ((a.natAbs:Int)*b.natAbs)
theorem zpj {a:Int} (h:inI a):0≤(a.natAbs:Int)∧(a.natAbs:Int)≤9223372036854775808:=by
 obtain ⟨h0,h1⟩:=h; omega
theorem z58 {a b:Int} (ha:inI a) (hb:inI b):0≤(a.natAbs:Int)*b.natAbs∧(a.natAbs:Int)*b.natAbs≤85070591730234615865843651857942052864:=by
 obtain ⟨a0,a1⟩:=zpj ha
 obtain ⟨b0,b1⟩:=zpj hb
 exact ⟨Int.mul_nonneg a0 b0,Int.le_trans (Int.mul_le_mul a1 b1 b0 (by decide)) (by decide)⟩
theorem yh4 (a b:Int) (ha:inI a) (hb:inI b):RUN T znx [iv a,iv b]=some ([.agg (wd (zg1 a b))],[]):=by
 refine zal z3n rfl ?_
 obtain ⟨a0,a1⟩:=zpj ha
 obtain ⟨b0,b1⟩:=zpj hb
 have e1:=zx1 a ha
 have e2:=zx1 b hb
 have e3:=zx0 a.natAbs b.natAbs a0 (by omega) b0 (by omega)
 have e4:=zqr (decide (a<0) != decide (b<0)) ((a.natAbs:Int)*b.natAbs / 18446744073709551616) ((a.natAbs:Int)*b.natAbs % 18446744073709551616)
 obtain ⟨m0,m1⟩:=z58 ha hb
 have e5:(⟨(decide (a<0) != decide (b<0)) && (decide (0<(a.natAbs:Int)*b.natAbs / 18446744073709551616) || decide (0<(a.natAbs:Int)*b.natAbs % 18446744073709551616)),(a.natAbs:Int)*b.natAbs / 18446744073709551616,(a.natAbs:Int)*b.natAbs % 18446744073709551616⟩:Wd)=zg1 a b:=by
  unfold zg1 mkW
  congr 2
  generalize (a.natAbs:Int)*b.natAbs=m at *
  rw [Bool.eq_iff_iff]; simp; omega
 rw [e5] at e4
 generalize zg1 a b=w at *
 obtain ⟨wn,wh,wl⟩:=w
 simp only [wd] at e4 ⊢
 by_cases sa:a<0 <;> by_cases sb:b<0 <;> simp [sa,sb] at e4 <;> simp [zvn,zvo,e1,e2,e3,sa,sb,e4]
def zf0 (w:Wd):Int:=if w.n then -mag w else mag w
def zd5 (a b:Wd):Wd×Bool :=
 if wok a && wok b then
  if ((zf0 a+zf0 b).natAbs:Int)<170141183460469231731687303715884105728 then (mkW (decide (zf0 a+zf0 b<0)) (zf0 a+zf0 b).natAbs,true) else (zb3,false)
 else (zb3,false)
theorem ykk (a b:Wd):wfU (zd5 a b).1:=by
 unfold zd5
 split
 ·split
  ·exact zyu (by omega) (by omega)
  ·exact ⟨by decide,by decide,by decide,by decide⟩
 ·exact ⟨by decide,by decide,by decide,by decide⟩
theorem z47 {w:Wd} (h:wfU w) (hk:wok w=true):0≤mag w∧mag w<170141183460469231731687303715884105728∧(w.n=true→0<mag w):=by
 obtain ⟨h0,h1,h2,h3⟩:=h
 unfold wok at hk
 simp only [Bool.and_eq_true,Bool.or_eq_true,Bool.not_eq_true',decide_eq_true_eq] at hk
 unfold mag
 obtain ⟨k1,k2⟩:=hk
 refine ⟨by omega,by omega,fun hn => ?_⟩
 rw [hn] at k2
 rcases k2 with (k2 | k2) | k2
 ·cases k2
 ·omega
 ·omega
theorem ylb (a b:Wd) (ha:wfU a) (hb:wfU b) (h:mag a+mag b<340282366920938463463374607431768211456) : ∃ c d:Int,
  RUN T zh4 [uv a.l,uv b.l,uv 0]=some ([uv ((mag a+mag b) % 18446744073709551616),uv c],[])∧RUN T zh4 [uv a.h,uv b.h,uv c]=some ([uv ((mag a+mag b) / 18446744073709551616),uv d],[]):=by
 obtain ⟨a0,a1,a2,a3⟩:=ha
 obtain ⟨b0,b1,b2,b3⟩:=hb
 have e1:=zzy zxv (x:=a.l) (y:=b.l) (c:=0) a2 b2 (by decide) (by decide)
 have e2:=zzy zxv (x:=a.h) (y:=b.h) (c:=(a.l+b.l+0) / 18446744073709551616) a0 b0 (by omega) (by omega)
 have f1:(a.l+b.l+0) % 18446744073709551616=(mag a+mag b) % 18446744073709551616:=by unfold mag; omega
 have f2:(a.h+b.h+(a.l+b.l+0) / 18446744073709551616) % 18446744073709551616=(mag a+mag b) / 18446744073709551616:=by unfold mag at *; omega
 rw [f1] at e1
 rw [f2] at e2
 exact ⟨_,_,e1,e2⟩
theorem yar (a b:Wd) (ha:wfU a) (hb:wfU b) (h:mag b≤mag a) : ∃ c d:Int,
  RUN T zje [uv a.l,uv b.l,uv 0]=some ([uv ((mag a-mag b) % 18446744073709551616),uv c],[])∧RUN T zje [uv a.h,uv b.h,uv c]=some ([uv ((mag a-mag b) / 18446744073709551616),uv d],[]):=by
 obtain ⟨a0,a1,a2,a3⟩:=ha
 obtain ⟨b0,b1,b2,b3⟩:=hb
 have e1:=yau z30 (x:=a.l) (y:=b.l) (c:=0) a2 b2 a3 b3 (by decide) (by decide)
 have e2:=yau z30 (x:=a.h) (y:=b.h) (c:=if a.l<b.l+0 then 1 else 0) a0 b0 a1 b1 (by split <;> omega) (by split <;> omega)
 have f1:(a.l-b.l-0) % 18446744073709551616=(mag a-mag b) % 18446744073709551616:=by unfold mag; omega
 have f2:(a.h-b.h-(if a.l<b.l+0 then 1 else 0)) % 18446744073709551616=(mag a-mag b) / 18446744073709551616:=by
  unfold mag at *
  split <;> omega
 rw [f1] at e1
 rw [f2] at e2
 exact ⟨_,_,e1,e2⟩
theorem zz1 {n:Bool} {m:Int} (h:0≤m):RUN T zfw [bv n,uv (m / 18446744073709551616),uv (m % 18446744073709551616)]=some ([.agg (wd (mkW n m))],[]):=by
 rw [zqr]
 have:(⟨n && (decide (0<m / 18446744073709551616) || decide (0<m % 18446744073709551616)),m / 18446744073709551616,m % 18446744073709551616⟩:Wd)=mkW n m:=by
  unfold mkW
  congr 2
  rw [Bool.eq_iff_iff]; simp; omega
 rw [this]
theorem yh5 (a b:Wd) (ha:wfU a) (hb:wfU b):RUN T znw [.agg (wd a),.agg (wd b)]=some ([.agg (wd (zd5 a b).1),bv (zd5 a b).2],[]):=by
 refine zal z3l rfl ?_
 have ea:=zon a
 have eb:=zon b
 cases ka:wok a with
 | false =>
  have es:zd5 a b=(zb3,false):=by unfold zd5; simp [ka]
  rw [es]; rw [ka] at ea
  simp only [wd] at ea
  simp [zic,zid,wd,ea,zb3]
 | true =>
  cases kb:wok b with
  | false =>
   have es:zd5 a b=(zb3,false):=by unfold zd5; simp [kb]
   rw [es]; rw [ka] at ea; rw [kb] at eb
   simp only [wd] at ea eb
   simp [zic,zid,wd,ea,eb,zb3]
  | true =>
   obtain ⟨ma0,ma1,ma2⟩:=z47 ha ka
   obtain ⟨mb0,mb1,mb2⟩:=z47 hb kb
   rw [ka] at ea; rw [kb] at eb
   by_cases hn:a.n=b.n
   ·obtain ⟨c,d,f1,f2⟩:=ylb a b ha hb (by omega)
    have f3:=zz1 (n:=a.n) (m:=mag a+mag b) (by omega)
    have f4:=zon (mkW a.n (mag a+mag b))
    rw [z6v (by omega)] at f4
    have es:zd5 a b=if mag a+mag b<170141183460469231731687303715884105728 then (mkW a.n (mag a+mag b),true) else (zb3,false):=by
     unfold zd5 zf0
     rw [ka,kb,← hn]
     simp only [Bool.and_self,if_true]
     cases h:a.n with
     | true =>
      have e1:(-mag a + -mag b).natAbs=mag a+mag b:=by omega
      have e2 : -mag a + -mag b<0:=by have:=ma2 h; omega
      simp only [if_true,e1,decide_eq_true e2]
     | false =>
      have e1:((mag a+mag b).natAbs:Int)=mag a+mag b:=by omega
      have e2 : ¬ mag a+mag b<0:=by omega
      simp only [Bool.false_eq_true,if_false,e1,decide_eq_false e2]
    rw [es]
    generalize hm:mag a+mag b=m at *
    generalize mkW a.n m=w at *
    generalize m / 18446744073709551616=hi at *
    generalize m % 18446744073709551616=lo at *
    simp only [wd] at ea eb f3 f4 ⊢
    rw [hn] at ea f3
    by_cases hk:m<170141183460469231731687303715884105728
    ·rw [decide_eq_true hk] at f4
     rw [if_pos hk]
     simp [zic,zid,ea,eb,hn,f1,f2,f3,f4]
    ·rw [decide_eq_false hk] at f4
     rw [if_neg hk]
     simp [zic,zid,ea,eb,hn,f1,f2,f3,f4,zb3]
   ·have ho:=zx2 a b
    rw [yl0 ha hb] at ho
    have es:zd5 a b=(mkW (if mag a<mag b then b.n else a.n) (if mag a<mag b then mag b-mag a else mag a-mag b),true):=by
     have gen : ∀ (n:Bool) (m:Int),((zf0 a+zf0 b).natAbs:Int)=m→m<170141183460469231731687303715884105728→(decide (zf0 a+zf0 b<0) && decide (0<m))=(n && decide (0<m))→zd5 a b=(mkW n m,true):=by
      intro n m h1 h2 h3
      unfold zd5
      rw [ka,kb,h1]
      simp only [Bool.and_self,if_true,if_pos h2]
      unfold mkW
      rw [h3]
     unfold zf0 at gen
     cases h:a.n <;> cases h':b.n <;> simp only [h,h'] at gen hn ⊢
     ·exact (hn trivial).elim
     ·by_cases hl:mag a<mag b
      ·rw [if_pos hl,if_pos hl]
       exact gen _ _ (by simp; omega) (by omega) (by rw [Bool.eq_iff_iff]; simp; omega)
      ·rw [if_neg hl,if_neg hl]
       exact gen _ _ (by simp; omega) (by omega) (by rw [Bool.eq_iff_iff]; simp; omega)
     ·by_cases hl:mag a<mag b
      ·rw [if_pos hl,if_pos hl]
       exact gen _ _ (by simp; omega) (by omega) (by rw [Bool.eq_iff_iff]; simp; omega)
      ·rw [if_neg hl,if_neg hl]
       exact gen _ _ (by simp; omega) (by omega) (by rw [Bool.eq_iff_iff]; simp; omega)
     ·exact (hn trivial).elim
    rw [es]
    have hnb:(a.n == b.n)=false:=by cases h:a.n <;> cases h':b.n <;> simp [h,h'] at hn ⊢
    by_cases hl:mag a<mag b
    ·obtain ⟨c,d,f1,f2⟩:=yar b a hb ha (by omega)
     have f3:=zz1 (n:=b.n) (m:=mag b-mag a) (by omega)
     have hs:zcq (mag a) (mag b) = -1:=by unfold zcq; rw [if_pos hl]
     rw [hs] at ho
     rw [if_pos hl,if_pos hl]
     generalize mag b-mag a=m at *
     generalize mkW b.n m=w at *
     generalize m / 18446744073709551616=hi at *
     generalize m % 18446744073709551616=lo at *
     simp only [wd] at ea eb f3 ho ⊢
     simp [zic,zid,ea,eb,hnb,ho,f1,f2,f3]
    ·obtain ⟨c,d,f1,f2⟩:=yar a b ha hb (by omega)
     have f3:=zz1 (n:=a.n) (m:=mag a-mag b) (by omega)
     have hs : ¬ zcq (mag a) (mag b)<0:=by unfold zcq; rw [if_neg hl]; split <;> omega
     rw [if_neg hl,if_neg hl]
     generalize mag a-mag b=m at *
     generalize mkW a.n m=w at *
     generalize m / 18446744073709551616=hi at *
     generalize m % 18446744073709551616=lo at *
     generalize zcq (mag a) (mag b)=sg at *
     simp only [wd] at ea eb f3 ho ⊢
     simp [zic,zid,ea,eb,hnb,ho,hs,f1,f2,f3]
theorem yp6 {a b:Int} (ha:inI a) (hb:inI b):wfU (zg1 a b):=by
 obtain ⟨m0,m1⟩:=z58 ha hb
 exact zyu m0 (by omega)
def zed (w:Wd) (k:Int):Wd×Bool:=if wok w=true∧mag w*k.natAbs<170141183460469231731687303715884105728 then (mkW (w.n != decide (k<0)) (mag w*k.natAbs),true) else (zb3,false)
theorem ymw (w:Wd) (k:Int) (hw:wfU w) (hk:inI k) : ∃ p q:Int,w.h*k.natAbs=p∧w.l*k.natAbs=q∧0≤p∧0≤q∧q≤170141183460469231722463931679029329920∧mag w*k.natAbs=p*18446744073709551616+q:=by
 obtain ⟨a0,a1,a2,a3⟩:=hw
 obtain ⟨k0,k1⟩:=zpj hk
 refine ⟨_,_,rfl,rfl,Int.mul_nonneg a0 k0,Int.mul_nonneg a2 k0,Int.le_trans (Int.mul_le_mul (show w.l≤18446744073709551615 by omega) k1 k0 (by decide)) (by decide),?_⟩
 unfold mag
 rw [Int.add_mul,Int.mul_assoc,Int.mul_comm 18446744073709551616,← Int.mul_assoc]
theorem yj4 (w:Wd) (k:Int) (ka:wok w=true) (p q:Int) (p0:0≤p) (q0:0≤q) (q1:q≤170141183460469231722463931679029329920) (hP:mag w*k.natAbs=p*18446744073709551616+q) :
  (zed w k=(zb3,false)∧(0<p / 18446744073709551616∨0<(p % 18446744073709551616+q / 18446744073709551616) / 18446744073709551616∨wok ⟨(w.n != decide (k<0)) && (decide (0<(p % 18446744073709551616+q / 18446744073709551616) % 18446744073709551616) || decide (0<q % 18446744073709551616)),(p % 18446744073709551616+q / 18446744073709551616) % 18446744073709551616,q % 18446744073709551616⟩=false)) ∨
  (zed w k=(⟨(w.n != decide (k<0)) && (decide (0<(p % 18446744073709551616+q / 18446744073709551616) % 18446744073709551616) || decide (0<q % 18446744073709551616)),(p % 18446744073709551616+q / 18446744073709551616) % 18446744073709551616,q % 18446744073709551616⟩,true)∧¬ 0<p / 18446744073709551616∧¬ 0<(p % 18446744073709551616+q / 18446744073709551616) / 18446744073709551616∧wok ⟨(w.n != decide (k<0)) && (decide (0<(p % 18446744073709551616+q / 18446744073709551616) % 18446744073709551616) || decide (0<q % 18446744073709551616)),(p % 18446744073709551616+q / 18446744073709551616) % 18446744073709551616,q % 18446744073709551616⟩=true):=by
 by_cases hk:p*18446744073709551616+q<170141183460469231731687303715884105728
 ·right
  have e:(⟨(w.n != decide (k<0)) && (decide (0<(p % 18446744073709551616+q / 18446744073709551616) % 18446744073709551616) || decide (0<q % 18446744073709551616)),(p % 18446744073709551616+q / 18446744073709551616) % 18446744073709551616,q % 18446744073709551616⟩:Wd)=mkW (w.n != decide (k<0)) (p*18446744073709551616+q):=by
   unfold mkW
   congr 1
   ·congr 1
    rw [Bool.eq_iff_iff]; simp; omega
   ·omega
   ·omega
  rw [e,z6v (by omega)]
  refine ⟨?_,by omega,by omega,decide_eq_true hk⟩
  unfold zed
  rw [hP,if_pos ⟨ka,hk⟩]
 ·left
  refine ⟨?_,?_⟩
  ·unfold zed
   rw [hP,if_neg (fun h=>hk h.2)]
  ·by_cases h1:0<p / 18446744073709551616
   ·exact .inl h1
   ·by_cases h2:0<(p % 18446744073709551616+q / 18446744073709551616) / 18446744073709551616
    ·exact .inr (.inl h2)
    ·refine .inr (.inr ?_)
     unfold wok
     rw [decide_eq_false (show ¬ (p % 18446744073709551616+q / 18446744073709551616) % 18446744073709551616<9223372036854775808 by omega)]
     rfl
set_option maxHeartbeats 1000000 in
theorem z4i (w:Wd) (k:Int) (hw:wfU w) (hk:inI k):RUN T zkr [.agg (wd w),iv k]=some ([.agg (wd (zed w k).1),bv (zed w k).2],[]):=by
 refine zal z3p rfl ?_
 have ea:=zon w
 cases ka:wok w with
 | false =>
  have es:zed w k=(zb3,false):=by unfold zed; simp [ka]
  rw [es]; rw [ka] at ea
  simp only [wd] at ea
  simp [zgp,zgq,wd,ea,zb3]
 | true =>
  rw [ka] at ea
  obtain ⟨a0,a1,a2,a3⟩:=hw
  obtain ⟨k0,k1⟩:=zpj hk
  have e1:=zx1 k hk
  have e2:=zx0 w.h k.natAbs a0 a1 k0 (by omega)
  have e3:=zx0 w.l k.natAbs a2 a3 k0 (by omega)
  obtain ⟨p,q,hp,hq,p0,q0,q1,hP⟩:=ymw w k ⟨a0,a1,a2,a3⟩ hk
  rw [hp] at e2
  rw [hq] at e3
  have e4:=zzy zxv (x:=p % 18446744073709551616) (y:=q / 18446744073709551616) (c:=0) (by omega) (by omega) (by decide) (by decide)
  rw [Int.add_zero] at e4
  have e5:=zqr (w.n != decide (k<0)) ((p % 18446744073709551616+q / 18446744073709551616) % 18446744073709551616) (q % 18446744073709551616)
  have e6:=zon ⟨(w.n != decide (k<0)) && (decide (0<(p % 18446744073709551616+q / 18446744073709551616) % 18446744073709551616) || decide (0<q % 18446744073709551616)),(p % 18446744073709551616+q / 18446744073709551616) % 18446744073709551616,q % 18446744073709551616⟩
  have key:=yj4 w k ka p q p0 q0 q1 hP
  generalize ((w.n != decide (k<0)) && (decide (0<(p % 18446744073709551616+q / 18446744073709551616) % 18446744073709551616) || decide (0<q % 18446744073709551616)))=sn at *
  generalize p / 18446744073709551616=P1 at *
  generalize p % 18446744073709551616=P2 at *
  generalize q / 18446744073709551616=Q1 at *
  generalize q % 18446744073709551616=Q2 at *
  generalize (P2+Q1) / 18446744073709551616=S1 at *
  generalize (P2+Q1) % 18446744073709551616=S2 at *
  generalize zed w k=r at *
  generalize wok ⟨sn,S2,Q2⟩=o at *
  obtain ⟨wn,wh,wl⟩:=w
  simp only [wd] at ea e5 e6 ⊢
  simp only at e2 e3
  rcases key with ⟨rfl,c | c | rfl⟩ | ⟨rfl,c1,c2,rfl⟩
  ·cases wn <;> by_cases sb:k<0 <;> simp [sb] at e5 <;> simp [zgp,zgq,ea,e1,e2,e3,e4,e5,sb,c,zb3]
  ·by_cases c':0<P1
   ·cases wn <;> by_cases sb:k<0 <;> simp [sb] at e5 <;> simp [zgp,zgq,ea,e1,e2,e3,e4,e5,sb,c',zb3]
   ·cases wn <;> by_cases sb:k<0 <;> simp [sb] at e5 <;> simp [zgp,zgq,ea,e1,e2,e3,e4,e5,sb,c',c,zb3]
  ·by_cases c':0<P1
   ·cases wn <;> by_cases sb:k<0 <;> simp [sb] at e5 <;> simp [zgp,zgq,ea,e1,e2,e3,e4,e5,sb,c',zb3]
   ·by_cases c:0<S1
    ·cases wn <;> by_cases sb:k<0 <;> simp [sb] at e5 <;> simp [zgp,zgq,ea,e1,e2,e3,e4,e5,sb,c',c,zb3]
    ·cases wn <;> by_cases sb:k<0 <;> simp [sb] at e5 <;> simp [zgp,zgq,ea,e1,e2,e3,e4,e5,e6,sb,c',c,zb3]
  ·cases wn <;> by_cases sb:k<0 <;> simp [sb] at e5 <;> simp [zgp,zgq,ea,e1,e2,e3,e4,e5,e6,sb,c1,c2]
def zeb (w:Wd):Bool:=w.n && !(decide (w.h=0) && decide (w.l=0))
def zo3 (a b:Wd):Int:=if zeb a=true then (if zeb b=true then zfe b a else -1) else (if zeb b=true then 1 else zfe a b)
theorem z7c (l:List Nd) (x:Nd):l.map nd++[[iv x.f,iv x.c,iv x.l,iv x.r,iv x.v]]=(l++[x]).map nd:=by simp [nd]
def z53 (t:List Nd) (k:Nat) (f c a b:Int):List Nd:=t.set k ⟨f,c,t.length,t.length+1,0⟩++[⟨-1,0,0,0,a⟩,⟨-1,0,0,0,b⟩]
def PRw (n:Nat) (v:PV):Prop := ∃ l:List Int,v = .own 1 (zac l)∧l.length=n∧∀ x∈l,inI x
theorem z5q (l:List ByteArray):zda (zcv l)=true:=by simp [zda,zcv]
theorem zqz (L:List (List Int)) (r:List Int):rws true L++[[.own 1 (zac r)]]=rws true (L++[r]):=by simp [rws,cel]
theorem zw9 (L:List (List Int)) (i:Nat) (r:List Int):(rws true L).set i [.own 1 (zac r)]=rws true (L.set i r):=by simp [rws,cel]
def pos (x:Int) (l:List Int):Nat→Nat
 | 0=>0
 | k+1=>if x<l.getD k 0 then pos x l k else k+1
def ins (l:List Int) (x:Int):List Int:=l.take (pos x l l.length)++x::l.drop (pos x l l.length)
def zo0 (l:List Int):List Int:=l.foldl ins []
theorem z5l (x:Int) (l:List Int) : ∀ k,pos x l k≤k
 | 0=>by simp [pos]
 | k+1=>by
  have:=z5l x l k
  simp only [pos]; split <;> omega
theorem yjw (l:List Int) (x:Int):(ins l x).length=l.length+1:=by
 have:=z5l x l l.length
 unfold ins
 simp; omega
theorem yqw {l:List Int} {i:Nat} {x:Int} (h:l[i]?=some x):(l.take (i+1)).foldl ins []=ins ((l.take i).foldl ins []) x:=by
 rw [List.take_succ,h]
 simp [List.foldl_append]
theorem yjv (l:List Int) : ∀ a:List Int,(l.foldl ins a).length=a.length+l.length:=by
 induction l with
 | nil=>intro a; rfl
 | cons x l ih=>intro a; simp only [List.foldl_cons,ih,yjw,List.length_cons]; omega
theorem yqr (a:List Int) (p:Nat):List.take (a.length-p) (List.drop p (zac a))=zac (a.drop p):=by
 rw [List.take_of_length_le (by simp)]
 simp [zac,List.map_drop]
theorem yot (a:List Int) (p:Nat) (h:p≤a.length):(if p=a.length then zac a else List.take p (zac a))=zac (a.take p):=by
 split
 ·rename_i e; subst e; rw [List.take_length]
 ·simp [zac,List.map_take]
theorem z46 (x:Int) (l:List Int) (k:Nat):pos x l (k+1)=if x<l.getD k 0 then pos x l k else k+1:=rfl
def zd7 (x:Int) (l:List Int) (k P:Nat):Prop:=pos x l k=P
theorem zd7.on {x y:Int} {l:List Int} {k P:Nat} (h:zd7 x l (k+1) P) (hy:l[k]?=some y) (hc:x<y):zd7 x l k P:=by
 unfold zd7 at *
 rw [z46] at h
 simp only [List.getD,hy,Option.getD_some,if_pos hc] at h
 exact h
theorem zd7.off {x y:Int} {l:List Int} {k P:Nat} (h:zd7 x l (k+1) P) (hy:l[k]?=some y) (hc : ¬ x<y):k+1=P:=by
 unfold zd7 at *
 rw [z46] at h
 simp only [List.getD,hy,Option.getD_some,if_neg hc] at h
 exact h
theorem zd7.ex (x:Int) (l:List Int) (k:Nat) : ∃ P,zd7 x l k P:=⟨_,rfl⟩
theorem zd7.z {x:Int} {l:List Int} {P:Nat} (h:zd7 x l 0 P):0=P:=h
theorem z54 {x:Int} {l:List Int} {P:Nat} (h:zd7 x l l.length P):ins l x=l.take P++x::l.drop P:=by unfold zd7 at h; unfold ins; rw [h]
attribute [irreducible] pos ins zd7
set_option maxHeartbeats 800000 in
theorem z4j (l:List Int) (hl:l.length≤1048576):RUN T zkv [.sl 1 (zac l)]=some ([.own 1 (zac (zo0 l))],[]):=by
 refine zal z3w rfl ?_
 have hr0:zan 8 0=true:=by decide
 simp [-getElem?_pos,zv0,zv1,hr0]
 refine za3 (fun n st => ∃ (i o e:Nat) (a:List Int),i+n=l.length∧a=(l.take i).foldl ins []∧a.length=i∧st.V 0 = .sl 1 (zac l)∧st.V 3 = .ref o none e 0 a.length∧st.V 4=iv i∧o<st.nx∧st.S o=some (.row 1 (zac a))) ?_ l.length _ ⟨0,0,0,[],by simp [zac]⟩
 rintro n st ⟨i,o,e,a,hi,ha,hal,v0,v3,v4,hox,hSo⟩
 simp [z01,v0,v4]
 obtain ⟨f1,f2,f3,f4⟩:=fr hox
 refine zdd (fun h => ?_) (fun h => ?_)
 ·simp at h
  obtain ⟨x,hx⟩ : ∃ x,l[i]?=some x:=⟨_,List.getElem?_eq_getElem h⟩
  have hx':=zbj hx
  have hws:=wS h (by omega:l.length≤9223372036854775807)
  have hft:=yqw hx
  rw [← ha] at hft
  obtain ⟨P,hP⟩ : ∃ P,zd7 x a a.length P:=zd7.ex x a a.length
  simp [-getElem?_pos,v0,v3,v4,hSo]
  refine za3 (fun n' s => ∃ j:Nat,n'=j∧j≤a.length∧zd7 x a j P∧s.V 0 = .sl 1 (zac l)∧s.V 3 = .ref o none e 0 a.length∧s.V 4=iv i∧s.V 5=iv j∧s.nx=st.nx∧s.S o=some (.row 1 (zac a))) ?_ a.length _ ⟨a.length,by omega,by omega,hP,by simp [v0],by simp [v3],by simp [v4],by simp,by simp,by simp [hSo]⟩
  rintro n' s ⟨j,hjn,hj,hp,u0,u3,u4,u5,unx,hSo'⟩
  clear v0 v3 v4 hSo
  obtain ⟨g1,g2,g3,g4⟩:=fr (show o<s.nx by omega)
  obtain ⟨_,_,g5,g6⟩:=fr (show o<s.nx+1 by omega)
  obtain ⟨_,_,g7,g8⟩:=fr (show o<s.nx+2 by omega)
  have hcr : ∀ c:Nat,c≤a.length+1→zan 8 c=true:=fun c hc=>zdc (by omega)
  have hr1:zan 8 1=true:=by decide
  by_cases h0:0<j
  ·obtain ⟨q,rfl⟩ : ∃ q:Nat,j=q+1:=⟨j-1,by omega⟩
   have hw:=w64 (x:=(q:Int)) (by omega) (by omega)
   obtain ⟨y,hy⟩ : ∃ y,a[q]?=some y:=⟨_,List.getElem?_eq_getElem (by omega)⟩
   have hy':=zbj hy
   have hqa:q<a.length:=by omega
   by_cases hc:x<y
   ·have hp':=hp.on hy hc
    simp [-getElem?_pos,zvz,u0,u3,u4,u5,hSo',hx',h,h0,hw,hy',hqa,hc]
    exact zaq q (by omega) ⟨q,rfl,by omega,hp',by simp [u0],by simp [u3],by simp [u4],by simp,by simp [unx],by simp [hSo']⟩
   ·have hp':=hp.off hy hc
    have hk1:=hcr (q+1) (by omega)
    have hk2:=zdc (n:=q+1+1) (by omega)
    have hk3:=hcr (a.length+1) (by omega)
    have hcut:=yot a (q+1) (by omega)
    have hal2 : ∀ b:List Int,zda (zac b)=true:=z42
    have hmin:(a.take (q+1)).length=q+1:=by simp; omega
    have hdr:=yqr a (q+1)
    have hmd:(a.drop (q+1)).length=a.length-(q+1):=by simp
    have hsn:=zc0 (a.take (q+1)) x
    have hap:=yqk (a.take (q+1)++[x]) (a.drop (q+1))
    have hk4:=zdc (n:=q+2+(a.length-(q+1))) (by omega)
    have hin:=z54 hP
    rw [← hp'] at hin
    have hlen2:q+2+(a.length-(q+1))=a.length+1:=by omega
    simp [-getElem?_pos,zvz,u0,u3,u4,u5,hSo',hx',h,h0,hw,hy',hqa,hc,hj,g1,g2,g3,g4,g5,g6,g7,g8,hr1,hk1,hk2,hk3,hcut,hal2,hmin,hdr,hmd,hsn,hap,hk4,hlen2]
    refine zaq (n-1) (by omega) ⟨i+1,s.nx+2+2,s.ep,a.take (q+1)++x::a.drop (q+1),by omega,by rw [hft,hin],by simp; omega,by simp [u0],by simp; omega,by simp [hws],by simp,by simp⟩
  ·have h0':j=0:=by omega
   subst h0'
   have hp':=hp.z
   have hk0:=hcr 0 (by omega)
   have hk3:=hcr (a.length+1) (by omega)
   have hcut:(if 0=a.length then zac a else [])=([]:List (List PV)):=by
    split
    ·rename_i e
     have:a=[]:=List.length_eq_zero_iff.mp e.symm
     subst this; rfl
    ·rfl
   have hal2 : ∀ b:List Int,zda (zac b)=true:=z42
   have hin:=z54 hP
   rw [← hp'] at hin
   have hcons:[iv x]::zac a=zac (x::a):=rfl
   have hk4:=hcr (1+a.length) (by omega)
   have hk5:=hcr (a.length+1) (by omega)
   simp [-getElem?_pos,zvz,u0,u3,u4,u5,hSo',hx',h,g1,g2,g3,g4,g5,g6,g7,g8,hr1,hk0,hk3,hcut,hal2,hcons,hk4,hk5]
   refine zaq (n-1) (by omega) ⟨i+1,s.nx+2+2,s.ep,x::a,by omega,by rw [hft,hin]; simp,by (try simp); try omega,by simp [u0],by (try simp); try omega,by simp [hws],by simp,by simp⟩
 ·simp at h
  have e1:i=l.length:=by omega
  rw [e1,List.take_length] at ha
  simp [-getElem?_pos,v3,hSo,zo0,← ha]
structure Ta where
 ns:List ByteArray
 nm:ByteArray
 rw:List (List Int)
 lb:List Int
abbrev taS (q:Bool) (t:Ta):PV := .agg [.sl 1 (zcv t.ns),.v (.string t.nm),.sl 1 (rws q t.rw),.sl 1 (zac t.lb)]
abbrev taO (t:Ta):PV := .agg [.own 1 (zcv t.ns),.v (.string t.nm),.own 1 (rws true t.rw),.own 1 (zac t.lb)]
structure TaL (n:Nat) (t:Ta):Prop where
 ns:t.ns.length≤n
 ss : ∀ x∈t.ns,x.size≤n
 nm:t.nm.size≤n
 rw:t.rw.length≤n
 rr : ∀ l∈t.rw,l.length≤n
 lb:t.lb.length≤n
structure Sl where
 n:Int
 g:Int
deriving DecidableEq
def slc (x:Sl):List PV:=[iv x.n,iv x.g]
def zbv (l:List Sl):List (List PV):=l.map slc
@[simp] theorem yxy (l:List Sl):(zbv l).length=l.length:=by simp [zbv]
theorem zw5 {l:List Sl} {i:Nat} {x:Sl} (h:l[i]?=some x):(zbv l)[i]?=some [iv x.n,iv x.g]:=by simp [zbv,h,slc]
theorem ymv (l:List Sl) (i:Nat) (a b:Int):(zbv l).set i [iv a,iv b]=zbv (l.set i ⟨a,b⟩):=by simp [zbv,List.map_set,slc]
def slI (x:Sl):Prop:=inI x.n∧inI x.g
def zcg (a b:Sl):Sl×Bool:=if ((adi a.n b.n).2 && (adi a.g b.g).2)=true then (⟨(adi a.n b.n).1,(adi a.g b.g).1⟩,true) else (⟨0,0⟩,false)
theorem zrm {a b:Sl} (h:slI a):slI (zcg a b).1:=by
 unfold zcg
 split
 ·exact ⟨z7j h.1,z7j h.2⟩
 ·unfold slI inI; simp
theorem zx3 (a b:Sl) (ha:slI a) (hb:slI b):RUN T zja [.agg (slc a),.agg (slc b)]=some ([.agg (slc (zcg a b).1),bv (zcg a b).2],[]):=by
 refine zal z24 rfl ?_
 have e1:=z39 a.n b.n ha.1 hb.1
 have e2:=z39 a.g b.g ha.2 hb.2
 unfold zcg
 generalize adi a.n b.n=x at *
 generalize adi a.g b.g=y at *
 obtain ⟨x,xb⟩:=x
 obtain ⟨y,yb⟩:=y
 simp only at e1 e2 ⊢
 cases xb <;> cases yb <;> simp [zuw,zux,e1,e2,slc]
def atI {α:Type} (l:List α) (i:Int):Option α:=if 0≤i then l[i.toNat]? else none
theorem zjj {α:Type} {l:List α} {i:Int} {x:α} (h:atI l i=some x) : ∃ j:Nat,i=j∧l[j]?=some x∧j<l.length:=by
 unfold atI at h
 split at h
 ·refine ⟨i.toNat,by omega,h,?_⟩
  rcases Nat.lt_or_ge i.toNat l.length with h' | h'
  ·exact h'
  ·rw [List.getElem?_eq_none (by omega)] at h; cases h
 ·cases h
theorem zq5 {α:Type} {l:List α} {i:Int} (h:atI l i=none):i<0∨(l.length:Int)≤i:=by
 unfold atI at h
 split at h
 ·right
  rcases Nat.lt_or_ge i.toNat l.length with h' | h'
  ·rw [List.getElem?_eq_getElem h'] at h; cases h
  ·omega
 ·omega
def zev (b g:List Int):List Int→List Sl→Option (List Sl)
 | [],h=>some h
 | r::rs,h=>match atI b r,atI g r with
  | some x,some y=>match atI h x with
   | some s=>if (zcg s ⟨1,y⟩).2=true then zev b g rs (h.set x.toNat (zcg s ⟨1,y⟩).1) else none
   | none=>none
  | _,_=>none
def zdz (b g rows:List Int) (k:Int):List Sl×Bool:=if zak k 1 8=true then match zev b g rows (List.replicate k.toNat ⟨0,0⟩) with
  | some h=>(h,true)
  | none=>([],false)
 else ([],false)
theorem ynr (n:Nat):zbv (List.replicate n ⟨0,0⟩)=List.replicate n [iv 0,iv 0]:=by simp [zbv,slc]
set_option maxHeartbeats 2000000 in
theorem yh6 (b g rows:List Int) (k:Int) (hb:b.length≤1048576) (hg:g.length≤1048576) (hr:rows.length≤1048576) (hgi : ∀ x∈g,inI x):RUN T zm9 [.sl 1 (zac b),.sl 1 (zac g),.sl 1 (zac rows),iv k]=some ([.own 2 (zbv (zdz b g rows k).1),bv (zdz b g rows k).2],[]):=by
 refine zal z2e rfl ?_
 cases hk:zak k 1 8 with
 | false =>
  have e:=zdb k 1 8
  rw [hk] at e
  have e2:zdz b g rows k=([],false):=by unfold zdz; rw [hk]; rfl
  rw [e2]
  simp [-getElem?_pos,zp6,zp7,-zb7,e,zbv]
 | true =>
  have e:=zdb k 1 8
  rw [hk] at e
  have hk':=za6.mp hk
  obtain ⟨kn,rfl⟩ : ∃ n:Nat,k=n:=⟨k.toNat,by omega⟩
  have hro:zan 16 kn=true:=by simp [zan]; omega
  obtain ⟨R,hR⟩ : ∃ R,R=zdz b g rows kn:=⟨_,rfl⟩
  have hR':R=match zev b g rows (List.replicate kn ⟨0,0⟩) with
   | some h=>(h,true)
   | none=>([],false):=by rw [hR]; unfold zdz; rw [if_pos hk]; simp
  rw [← hR]
  clear hR
  simp [-getElem?_pos,zp6,zp7,-zb7,e,hro]
  refine za3 (fun n st => ∃ (i:Nat) (h:List Sl),i+n=rows.length∧h.length=kn∧(∀ s∈h,slI s)∧zev b g (rows.drop i) h=zev b g rows (List.replicate kn ⟨0,0⟩)∧st.V 0 = .sl 1 (zac b)∧st.V 1 = .sl 1 (zac g)∧st.V 3=iv kn∧st.V 10 = .ref 0 none 0 0 kn∧st.V 20 = .sl 1 (zac rows)∧st.V 21=iv rows.length∧st.V 22=iv i∧0<st.nx∧st.S 0=some (.row 2 (zbv h))) ?_ rows.length _ ⟨0,List.replicate kn ⟨0,0⟩,by omega,by simp,?_,by simp,by simp,by simp,by simp,by simp,by simp,by simp,by simp,by simp,by simp [ynr]⟩
  ·rintro n st ⟨i,h,hi,hhl,hhi,hh,v0,v1,v3,v10,v20,v21,v22,hnx,hS⟩
   obtain ⟨z1,z2,z3,z4⟩:=fr hnx
   by_cases hlt:i<rows.length
   ·obtain ⟨r,hrr⟩ : ∃ r,rows[i]?=some r:=⟨_,List.getElem?_eq_getElem hlt⟩
    have hr':=zbj hrr
    have hws:=wS hlt (by omega:rows.length≤9223372036854775807)
    have w1:=w64 (x:=min (b.length:Int) g.length-1) (by omega) (by omega)
    have w2:=w64 (x:=(kn:Int)-1) (by omega) (by omega)
    have e1:=zdb r 0 (min (b.length:Int) g.length-1)
    rw [zgj hrr,zev] at hh
    cases hbx:atI b r with
    | none =>
     rw [hbx] at hh
     have hn:=zq5 hbx
     have:zak r 0 (min (b.length:Int) g.length-1)=false:=by
      cases hw:zak r 0 (min (b.length:Int) g.length-1) with
      | false=>rfl
      | true=>have:=za6.mp hw; omega
     rw [this] at e1
     rw [← hh] at hR'
     subst hR'
     simp [-getElem?_pos,zld,-zb7,v0,v1,v3,v10,v20,v21,v22,hS,hlt,hr',w1,e1,zbv]
    | some x =>
     obtain ⟨rn,rfl,hbr,hbl⟩:=zjj hbx
     cases hgy:atI g rn with
     | none =>
      rw [hbx,hgy] at hh
      have hn:=zq5 hgy
      have:zak rn 0 (min (b.length:Int) g.length-1)=false:=by
       cases hw:zak rn 0 (min (b.length:Int) g.length-1) with
       | false=>rfl
       | true=>have:=za6.mp hw; omega
      rw [this] at e1
      rw [← hh] at hR'
      subst hR'
      simp [-getElem?_pos,zld,-zb7,v0,v1,v3,v10,v20,v21,v22,hS,hlt,hr',w1,e1,zbv]
     | some y =>
      obtain ⟨rn',hrn,hgr,hgl⟩:=zjj hgy
      have:rn'=rn:=by omega
      subst this
      have:zak rn' 0 (min (b.length:Int) g.length-1)=true:=za6.mpr (by omega)
      rw [this] at e1
      rw [hbx,hgy] at hh
      simp only at hh
      have hb':=zbj hbr
      have hg':=zbj hgr
      have e2:=zdb x 0 ((kn:Int)-1)
      cases hhx:atI h x with
      | none =>
       rw [hhx] at hh
       have hn:=zq5 hhx
       have:zak x 0 ((kn:Int)-1)=false:=by
        cases hw:zak x 0 ((kn:Int)-1) with
        | false=>rfl
        | true=>have:=za6.mp hw; omega
       rw [this] at e2
       simp only at hh
       rw [← hh] at hR'
       subst hR'
       simp [-getElem?_pos,zld,-zb7,v0,v1,v3,v10,v20,v21,v22,hS,hlt,hr',hb',hbl,w1,w2,e1,e2,zbv]
      | some s =>
       obtain ⟨xn,rfl,hhs,hhl2⟩:=zjj hhx
       have:zak xn 0 ((kn:Int)-1)=true:=za6.mpr (by omega)
       rw [this] at e2
       rw [hhx] at hh
       have hs':=zw5 hhs
       have hsi:=hhi s (List.mem_of_getElem? hhs)
       have hyi:=hgi y (List.mem_of_getElem? hgr)
       have hpi:=zrm (b:=⟨1,y⟩) hsi
       have e3:=zx3 s ⟨1,y⟩ hsi ⟨by unfold inI; simp,hyi⟩
       simp only [Int.toNat_natCast] at hh
       have hxk:xn<kn:=by omega
       generalize zcg s ⟨1,y⟩=p at *
       obtain ⟨⟨pn,pg⟩,pb⟩:=p
       simp only [slc] at e3 hh
       cases pb with
       | false =>
        rw [if_neg (by simp)] at hh
        rw [← hh] at hR'
        subst hR'
        simp [-getElem?_pos,zld,-zb7,v0,v1,v3,v10,v20,v21,v22,hS,hlt,hr',hb',hbl,hg',hgl,hs',hxk,hhl,w1,w2,e1,e2,e3,z1,z2,z3,z4]
        simp [zbv]
       | true =>
        rw [if_pos rfl] at hh
        have hset:=ymv h xn pn pg
        simp [-getElem?_pos,zld,-zb7,v0,v1,v3,v10,v20,v21,v22,hS,hlt,hr',hb',hbl,hg',hgl,hs',hxk,hhl,w1,w2,e1,e2,e3,hws,hset,z1,z2,z3,z4]
        refine zaq (n-1) (by omega) ⟨i+1,h.set xn ⟨pn,pg⟩,by omega,by simp [hhl],fun q hq => ?_,hh,by simp [v0],by simp [v1],by simp [v3],by simp [v10],by simp [v20],by simp [v21],by simp,by simp,by simp⟩
        rcases List.mem_or_eq_of_mem_set hq with h' | h'
        ·exact hhi q h'
        ·subst h'; exact hpi
   ·rw [List.drop_eq_nil_of_le (by omega),zev] at hh
    rw [← hh] at hR'
    subst hR'
    simp [-getElem?_pos,zld,v10,v21,v22,hS,hlt,hhl]
  ·intro s hs
   have:=List.eq_of_mem_replicate hs
   subst this
   exact ⟨by unfold inI; simp,by unfold inI; simp⟩
def zrk (q:Bool) (l:List Sl):PV:=if q then .own 2 (zbv l) else .sl 2 (zbv l)
@[simp] theorem y65 (q:Bool) (l:List Sl):fz (zrk q l) = .sl 2 (zbv l):=by cases q <;> simp [zrk]
def rss (q:Bool) (H:List (List Sl)):List (List PV):=H.map fun l=>[zrk q l]
@[simp] theorem y22 (q:Bool) (H:List (List Sl)):(rss q H).length=H.length:=by simp [rss]
theorem ylt {q:Bool} {H:List (List Sl)} {i:Nat} {l:List Sl} (h:H[i]?=some l):(rss q H)[i]?=some [zrk q l]:=by simp [rss,h]
theorem yl8 (H:List (List Sl)) (l:List Sl):rss true H++[[.own 2 (zbv l)]]=rss true (H++[l]):=by simp [rss,zrk]
def zcc (g rows:List Int):List (List Int)→List (List Int)→Option (List (List Sl))
 | x::c,y::v=>if (zdz y g rows (x.length+1)).2=true then (zcc g rows c v).map ((zdz y g rows (x.length+1)).1 :: ·) else none
 | _,_=>some []
def zcj (c v:List (List Int)) (g rows:List Int):List (List Sl)×Bool:=if zde c v=true then match zcc g rows c v with
  | some h=>(h,true)
  | none=>([],false)
 else ([],false)
theorem ynp {g rows:List Int} {c v:List (List Int)} {i:Nat} {x y:List Int} (hx:c[i]?=some x) (hy:v[i]?=some y):zcc g rows (c.drop i) (v.drop i)=if (zdz y g rows (x.length+1)).2=true then (zcc g rows (c.drop (i+1)) (v.drop (i+1))).map ((zdz y g rows (x.length+1)).1 :: ·) else none:=by
 rw [zgj hx,zgj hy,zcc]
theorem ypg {g rows:List Int} {v:List (List Int)}:zcc g rows [] v=some []:=by simp [zcc]
theorem zzq {b g:List Int} : ∀ (rows:List Int) (h h':List Sl),zev b g rows h=some h'→h'.length=h.length
 | [],h,h',e=>by simp [zev] at e; subst e; rfl
 | r::rs,h,h',e=>by
  simp only [zev] at e
  split at e
  ·split at e
   ·split at e
    ·have:=zzq rs _ _ e
     simpa using this
    ·cases e
   ·cases e
  ·cases e
theorem yqi (b g rows:List Int) (k:Int):(zdz b g rows k).1.length≤8:=by
 unfold zdz
 split
 ·rename_i hk
  have:=za6.mp hk
  cases h:zev b g rows (List.replicate k.toNat ⟨0,0⟩) with
  | none=>simp
  | some h'=>have:=zzq _ _ _ h; simp at this; simp; omega
 ·simp
theorem z5g {g rows:List Int} : ∀ (c v:List (List Int)) (H:List (List Sl)),zcc g rows c v=some H→H.length≤c.length∧∀ l∈H,l.length≤8
 | [],v,H,h=>by simp [zcc] at h; subst h; simp
 | x::c,[],H,h=>by simp [zcc] at h; subst h; simp
 | x::c,y::v,H,h=>by
  simp only [zcc] at h
  split at h
  ·simp only [Option.map_eq_some_iff] at h
   obtain ⟨H',h1,rfl⟩:=h
   obtain ⟨h2,h3⟩:=z5g c v H' h1
   refine ⟨by simp; omega,fun l hl => ?_⟩
   rcases List.mem_cons.mp hl with e | e
   ·subst e; exact yqi _ _ _ _
   ·exact h3 l e
  ·cases h
theorem zrq (c v:List (List Int)) (g rows:List Int):(zcj c v g rows).1.length≤c.length∧∀ l∈(zcj c v g rows).1,l.length≤8:=by
 unfold zcj
 split
 ·cases h:zcc g rows c v with
  | none=>simp
  | some H=>exact z5g c v H h
 ·simp
theorem z7o {c v:List (List Int)} (h:zde c v=true):v.length=c.length∧c.length≤4:=by
 unfold zde at h
 simp only [Bool.and_eq_true,decide_eq_true_eq] at h
 have:=za6.mp h.1.1.1
 omega
set_option maxHeartbeats 2000000 in
theorem yh7 (q:Bool) (c v:List (List Int)) (g rows:List Int) (hc : ∀ l∈c,l.length≤1048576) (hv : ∀ l∈v,l.length≤1048576) (hg:g.length≤1048576) (hr:rows.length≤1048576) (hgi : ∀ x∈g,inI x):RUN T zmp [.agg [.sl 1 (rws q c),.sl 1 (rws q v)],.sl 1 (zac g),.sl 1 (zac rows)]=some ([.own 1 (rss true (zcj c v g rows).1),bv (zcj c v g rows).2],[]):=by
 refine zal z1g rfl ?_
 have e:=z38 q c v (fun l hl=>Nat.le_trans (hc l hl) (by omega)) (fun l hl=>Nat.le_trans (hv l hl) (by omega))
 cases hk:zde c v with
 | false =>
  rw [hk] at e
  have e2:zcj c v g rows=([],false):=by unfold zcj; rw [hk]; rfl
  rw [e2]
  simp [-getElem?_pos,zpp,zpq,e,rss]
 | true =>
  rw [hk] at e
  obtain ⟨hvc,hc4⟩:=z7o hk
  obtain ⟨R,hR⟩ : ∃ R,R=zcj c v g rows:=⟨_,rfl⟩
  have hR':R=match zcc g rows c v with
   | some h=>(h,true)
   | none=>([],false):=by rw [hR]; unfold zcj; rw [if_pos hk]
  rw [← hR]
  clear hR
  have hr0:zan 24 0=true:=by decide
  have hr1:zan 24 1=true:=by decide
  simp [-getElem?_pos,zpp,zpq,e,hr0]
  refine za3 (fun n st => ∃ (i o e:Nat) (H:List (List Sl)),i+n=c.length∧H.length=i∧zcc g rows c v=(zcc g rows (c.drop i) (v.drop i)).map (H ++ ·)∧st.V 1 = .sl 1 (zac g)∧st.V 2 = .sl 1 (zac rows)∧st.V 3 = .ptr 0 none 0 0 0∧st.V 8 = .ref o none e 0 H.length∧st.V 18 = .sl 1 (rws q c)∧st.V 19=iv c.length∧st.V 20=iv i∧0<o∧o<st.nx∧st.S 0=some (.box [.sl 1 (rws q c),.sl 1 (rws q v)])∧st.S o=some (.row 1 (rss true H))) ?_ c.length _ ⟨0,1,0,[],by simp [rss]⟩
  rintro n st ⟨i,o,ep,H,hi,hH,hL,v1,v2,v3,v8,v18,v19,v20,ho,hox,hS,hSo⟩
  obtain ⟨x1,x2,x3,x4⟩:=fr hox
  obtain ⟨g1,g2,g3,g4⟩:=fr ho
  obtain ⟨z1,z2,z3,z4⟩:=fr (show 0<st.nx by omega)
  by_cases hlt:i<c.length
  ·obtain ⟨x,hx⟩ : ∃ x,c[i]?=some x:=⟨_,List.getElem?_eq_getElem hlt⟩
   obtain ⟨y,hy⟩ : ∃ y,v[i]?=some y:=⟨_,List.getElem?_eq_getElem (by omega)⟩
   have hx':=ze4 (q:=q) hx
   have hy':=ze4 (q:=q) hy
   have hiv:i<v.length:=by omega
   have hxl:=hc x (List.mem_of_getElem? hx)
   have hws:=wS hlt (by omega:c.length≤9223372036854775807)
   have hwl:=w64 (x:=(x.length:Int)+1) (by omega) (by omega)
   have hh:=yh6 y g rows (x.length+1) (hv y (List.mem_of_getElem? hy)) hg hr hgi
   have hr24:zan 24 (H.length+1)=true:=by simp [zan]; omega
   rw [ynp hx hy] at hL
   generalize zdz y g rows (x.length+1)=p at *
   obtain ⟨ph,pb⟩:=p
   simp only at hh hL
   cases pb with
   | false =>
    rw [if_neg (by simp)] at hL
    rw [hL] at hR'
    subst hR'
    simp [-getElem?_pos,zsi,v1,v2,v3,v8,v18,v19,v20,hS,hSo,hlt,hiv,hx',hy',hwl,hh,rss,x1,x2,x3,x4,g1,g2,g3,g4,z1,z2,z3,z4]
   | true =>
    rw [if_pos rfl] at hL
    have hsn:=yl8 H ph
    simp [-getElem?_pos,zsi,v1,v2,v3,v8,v18,v19,v20,hS,hSo,hlt,hiv,hx',hy',hwl,hws,hh,hr1,hr24,hsn,x1,x2,x3,x4,g1,g2,g3,g4,z1,z2,z3,z4]
    exact zaq (n-1) (by omega) ⟨i+1,st.nx+2,st.ep,H++[ph],by omega,by simp [hH],by rw [hL]; cases zcc g rows (c.drop (i+1)) (v.drop (i+1)) <;> simp,by simp [v1],by simp [v2],by simp [v3],by simp,by simp [v18],by simp [v19],by simp,by omega,by simp,by simp [x1,x2,x3,x4,g1,g2,g3,g4,z1,z2,z3,z4,hS],by simp⟩
  ·have h0:c.drop i=[]:=List.drop_eq_nil_of_le (by omega)
   rw [h0,ypg] at hL
   rw [hL] at hR'
   simp only [Option.map_some,List.append_nil] at hR'
   subst hR'
   simp [-getElem?_pos,zsi,v8,v19,v20,hSo,hlt]
def z94 (k:Int) (n:Nat):List Sl:=(List.range n).map fun (i:Nat)=>⟨k+2*(i:Int),k+2*(i:Int)+1⟩
@[simp] theorem yw3 (k:Int) (n:Nat):(z94 k n).length=n:=by simp [z94]
theorem z4k (x:Int):RUN T zkw [iv x]=some ([bv false],[]):=by
 refine zal z3y rfl ?_
 simp [zv4,zv5]
theorem z4l (x y:Int):RUN T zkp [iv x,iv y]=some ([iv (zcq x y)],[]):=by
 refine zal z3k rfl ?_
 have e1:=z4k x
 have e2:=z4k y
 unfold zcq
 by_cases h1:x<y
 ·simp [zof,zog,e1,e2,h1]
 ·by_cases h2:y<x
  ·simp [zof,zog,e1,e2,h1,h2]
  ·simp [zof,zog,e1,e2,h1,h2]
theorem yh8 (a b:Wd) (ha:wfU a) (hb:wfU b):RUN T znq [.agg (wd a),.agg (wd b)]=some ([iv (zo3 a b)],[]):=by
 refine zal z3a rfl ?_
 have n1:(a.n && (decide (0<a.h) || decide (0<a.l)))=zeb a:=by
  obtain ⟨h0,_,h1,_⟩:=ha
  unfold zeb
  congr 1
  rw [Bool.eq_iff_iff]; simp; omega
 have n2:(b.n && (decide (0<b.h) || decide (0<b.l)))=zeb b:=by
  obtain ⟨h0,_,h1,_⟩:=hb
  unfold zeb
  congr 1
  rw [Bool.eq_iff_iff]; simp; omega
 have e1:=zqr a.n a.h a.l
 have e2:=zqr b.n b.h b.l
 rw [n1] at e1
 rw [n2] at e2
 have e3:=zx2 ⟨zeb a,a.h,a.l⟩ ⟨zeb b,b.h,b.l⟩
 have e4:=zx2 ⟨zeb b,b.h,b.l⟩ ⟨zeb a,a.h,a.l⟩
 have o1:zfe ⟨zeb a,a.h,a.l⟩ ⟨zeb b,b.h,b.l⟩=zfe a b:=rfl
 have o2:zfe ⟨zeb b,b.h,b.l⟩ ⟨zeb a,a.h,a.l⟩=zfe b a:=rfl
 rw [o1] at e3
 rw [o2] at e4
 clear o1 o2 n1 n2 ha hb
 unfold zo3
 generalize zfe a b=x at *
 generalize zfe b a=y at *
 generalize zeb a=p at *
 generalize zeb b=q at *
 obtain ⟨an,ah,al⟩:=a
 obtain ⟨bn,bh,bl⟩:=b
 simp only [wd] at e1 e2 e3 e4 ⊢
 cases p <;> cases q <;> simp [zu4,zu5,e1,e2,e3,e4]
structure Fr where
 w:Wd
 d:Int
def frc (f:Fr):List PV:=[bv f.w.n,uv f.w.h,uv f.w.l,iv f.d]
def frB (f:Fr):Bool:=wok f.w && zak f.d 1 1000000
def zfq:Fr:=⟨zb3,0⟩
def zf7 (w:Wd) (d:Int):Fr×Bool:=if frB ⟨w,d⟩=true then (⟨w,d⟩,true) else (zfq,false)
theorem zx4 (f:Fr):RUN T zjc [.agg (frc f)]=some ([bv (frB f)],[]):=by
 refine zal z3o rfl ?_
 have e1:=zon f.w
 have e2:=zdb f.d 1 1000000
 unfold frB
 generalize wok f.w=x at *
 generalize zak f.d 1 1000000=y at *
 simp only [wd] at e1
 cases x <;> simp [zvp,zvq,-zb7,frc,e1,e2]
theorem z4m (w:Wd) (d:Int):RUN T zkq [.agg (wd w),iv d]=some ([.agg (frc (zf7 w d).1),bv (zf7 w d).2],[]):=by
 refine zal z3m rfl ?_
 have e1:=zx4 ⟨w,d⟩
 unfold zf7
 generalize frB ⟨w,d⟩=x at *
 simp only [frc] at e1
 cases x <;> simp [zvl,zvm,wd,frc,zfq,zb3,e1]
theorem yh9 (a d:Int) (ha:inI a):RUN T znp [iv a,iv d]=some ([.agg (frc (zf7 (zg1 a a) d).1),bv (zf7 (zg1 a a) d).2],[]):=by
 refine zal z28 rfl ?_
 have e1:=yh4 a a ha ha
 have e2:=z4m (zg1 a a) d
 generalize zg1 a a=m at *
 generalize zf7 m d=f at *
 obtain ⟨⟨fw,fd⟩,fb⟩:=f
 simp only [wd,frc] at e1 e2 ⊢
 simp [zu0,zu1,e1,e2]
def frI (f:Fr):Prop:=wfU f.w∧inI f.d
theorem zqs:wfU zb3:=⟨by decide,by decide,by decide,by decide⟩
theorem z7h (w:Wd) (k:Int) (h:wfU w):wfU (zed w k).1:=by
 unfold zed
 split
 ·rename_i hc
  refine zyu ?_ (by omega)
  obtain ⟨h0,h1,h2,h3⟩:=h
  exact Int.mul_nonneg (by unfold mag; omega) (by omega)
 ·exact zqs
def zb5 (a b:Fr):Wd×Wd×Bool:=if (frB a && frB b)=true then ((zed a.w b.d).1,(zed b.w a.d).1,(zed a.w b.d).2 && (zed b.w a.d).2) else (zb3,zb3,false)
theorem z6r (a b:Fr) (ha:wfU a.w) (hb:wfU b.w):wfU (zb5 a b).1∧wfU (zb5 a b).2.1:=by
 unfold zb5
 split
 ·exact ⟨z7h _ _ ha,z7h _ _ hb⟩
 ·exact ⟨zqs,zqs⟩
theorem ykp {a b:Fr} (h:(zb5 a b).2.2=true):(1≤a.d∧a.d≤1000000)∧1≤b.d∧b.d≤1000000:=by
 unfold zb5 at h
 split at h
 ·rename_i hc
  simp only [frB,Bool.and_eq_true] at hc
  exact ⟨za6.mp hc.1.2,za6.mp hc.2.2⟩
 ·cases h
theorem z4n (a b:Fr) (ha:frI a) (hb:frI b):RUN T zkl [.agg (frc a),.agg (frc b)]=some ([.agg (wd (zb5 a b).1),.agg (wd (zb5 a b).2.1),bv (zb5 a b).2.2],[]):=by
 refine zal z29 rfl ?_
 have e1:=zx4 a
 have e2:=zx4 b
 have e3:=z4i a.w b.d ha.1 hb.2
 have e4:=z4i b.w a.d hb.1 ha.2
 unfold zb5
 generalize zed a.w b.d=x at *
 generalize zed b.w a.d=y at *
 generalize frB a=p at *
 generalize frB b=q at *
 obtain ⟨⟨an,ah,al⟩,ad⟩:=a
 obtain ⟨⟨bn,bh,bl⟩,bd⟩:=b
 obtain ⟨x,xb⟩:=x
 obtain ⟨y,yb⟩:=y
 simp only [frc,wd] at e1 e2 e3 e4 ⊢
 cases p <;> cases q <;> cases xb <;> simp [zu2,zu3,e1,e2,e3,e4,zb3]
def zgg (a b:Fr):Int×Bool:=if (zb5 a b).2.2=true then (zo3 (zb5 a b).1 (zb5 a b).2.1,true) else (0,false)
theorem z4o (a b:Fr) (ha:frI a) (hb:frI b):RUN T zkd [.agg (frc a),.agg (frc b)]=some ([iv (zgg a b).1,bv (zgg a b).2],[]):=by
 refine zal z2n rfl ?_
 have e1:=z4n a b ha hb
 obtain ⟨w1,w2⟩:=z6r a b ha.1 hb.1
 have e2:=yh8 (zb5 a b).1 (zb5 a b).2.1 w1 w2
 unfold zgg
 generalize zb5 a b=r at *
 obtain ⟨x,y,o⟩:=r
 simp only at e2 ⊢
 generalize zo3 x y=z at *
 simp only [frc,wd] at e1 e2 ⊢
 cases o <;> simp [zt4,zt5,e1,e2]
def zl9 (a b:Fr):Fr×Bool:=if (zb5 a b).2.2=true then (if (zd5 (zb5 a b).1 (zb5 a b).2.1).2=true then zf7 (zd5 (zb5 a b).1 (zb5 a b).2.1).1 (a.d*b.d) else (zfq,false)) else (zfq,false)
theorem yl5 {a b:Int} (h:(1≤a∧a≤1000000)∧1≤b∧b≤1000000):IntKind.i64.wrap (a*b)=a*b:=by
 have h1:a*b≤1000000*1000000:=Int.mul_le_mul h.1.2 h.2.2 (by omega) (by decide)
 have h2:0≤a*b:=Int.mul_nonneg (by omega) (by omega)
 exact w64 (by omega) (by omega)
theorem yia (a b:Fr) (ha:frI a) (hb:frI b):RUN T zno [.agg (frc a),.agg (frc b)]=some ([.agg (frc (zl9 a b).1),bv (zl9 a b).2],[]):=by
 refine zal z27 rfl ?_
 have e1:=z4n a b ha hb
 obtain ⟨w1,w2⟩:=z6r a b ha.1 hb.1
 have e2:=yh5 (zb5 a b).1 (zb5 a b).2.1 w1 w2
 have hok := @ykp a b
 have e3:=z4m (zd5 (zb5 a b).1 (zb5 a b).2.1).1 (a.d*b.d)
 unfold zl9
 generalize zb5 a b=r at *
 obtain ⟨x,y,o⟩:=r
 simp only at e2 e3 hok ⊢
 generalize zd5 x y=s at *
 obtain ⟨s,so⟩:=s
 simp only at e2 e3 ⊢
 cases o with
 | false =>
  simp only [frc,wd] at e1 ⊢
  simp [zqi,zqj,e1,zfq,zb3]
 | true =>
  have hm:=yl5 (hok rfl)
  generalize zf7 s (a.d*b.d)=f at *
  obtain ⟨f,fo⟩:=f
  simp only [frc,wd] at e1 e2 e3 ⊢
  cases so <;> simp [zqi,zqj,e1,e2,e3,hm,zfq,zb3]
structure Cnd where
 f:Int
 b:Int
 a:Sl
 z:Sl
deriving DecidableEq
def cnd (c:Cnd):List PV:=[iv c.f,iv c.b,iv c.a.n,iv c.a.g,iv c.z.n,iv c.z.g]
def zgw (c:Cnd):Prop:=inI c.f∧inI c.b∧slI c.a∧slI c.z
structure Bd where
 lo:Int
 hi:Int
def bnd (b:Bd):List PV:=[iv b.lo,iv b.hi]
def zgt (b:Bd):Bool:=decide (b.lo≤b.hi) && zgb b.lo && zgb b.hi
def zfo (x lo hi:Int):Int:=if x<lo then lo else if hi<x then hi else x
def zik (n l:Int):Bool:=zak n 0 40 && zak l 1 100
def zdt (s:Sl) (l:Int) (b:Bd):Int×Bool:=if (zik s.n l && zgt b)=true then (zfo (fdv s.g (s.n+l)).1 b.lo b.hi,true) else (0,false)
def zdv (s:Sl) (l:Int):Fr×Bool:=if zik s.n l=true then zf7 (zg1 s.g s.g) (s.n+l) else (zfq,false)
def zcw (c:Cnd) (l:Int):Fr×Bool:=if ((zdv c.a l).2 && (zdv c.z l).2)=true then zl9 (zdv c.a l).1 (zdv c.z l).1 else (zfq,false)
theorem z4p (n l:Int):RUN T zkg [iv n,iv l]=some ([bv (zik n l)],[]):=by
 refine zal z2u rfl ?_
 have e1:=zdb n 0 40
 have e2:=zdb l 1 100
 unfold zik
 generalize zak n 0 40=x at *
 cases x <;> simp [zui,zuj,-zb7,e1,e2]
theorem z4q (b:Bd):RUN T zkh [.agg (bnd b)]=some ([bv (zgt b)],[]):=by
 refine zal z2v rfl ?_
 have e1:=z37 b.lo
 have e2:=z37 b.hi
 unfold zgt
 generalize zgb b.lo=x at *
 generalize zgb b.hi=y at *
 by_cases h:b.lo≤b.hi <;> cases x <;> simp [zuk,zul,bnd,e1,e2,h]
theorem yib (b:Bd):RUN T zm1 [.agg (bnd b)]=some ([bv (zgt b)],[]):=by
 refine zal z12 rfl ?_
 have e1:=z36 b.lo
 have e2:=z36 b.hi
 unfold zgt
 generalize zgb b.lo=x at *
 generalize zgb b.hi=y at *
 by_cases h:b.lo≤b.hi <;> cases x <;> simp [ztb,ztc,bnd,e1,e2,h]
theorem z4r (x lo hi:Int):RUN T zki [iv x,iv lo,iv hi]=some ([iv (zfo x lo hi)],[]):=by
 refine zal z2x rfl ?_
 unfold zfo
 by_cases h1:x<lo
 ·simp [zqc,zqd,h1]
 ·by_cases h2:hi<x <;> simp [zqc,zqd,h1,h2]
theorem yic (x lo hi:Int):RUN T zm3 [iv x,iv lo,iv hi]=some ([iv (zfo x lo hi)],[]):=by
 refine zal z14 rfl ?_
 unfold zfo
 by_cases h1:x<lo
 ·simp [zp4,zp5,h1]
 ·by_cases h2:hi<x <;> simp [zp4,zp5,h1,h2]
theorem zy4 {n l:Int} (h:zik n l=true):IntKind.i64.wrap (n+l)=n+l:=by
 unfold zik at h
 simp only [Bool.and_eq_true] at h
 have h1:=za6.mp h.1
 have h2:=za6.mp h.2
 exact w64 (by omega) (by omega)
theorem zx5 (s:Sl) (l:Int) (b:Bd) (hs:slI s):RUN T zi6 [.agg (slc s),iv l,.agg (bnd b)]=some ([iv (zdt s l b).1,bv (zdt s l b).2],[]):=by
 refine zal z1y rfl ?_
 have e1:=z4p s.n l
 have e2:=z4q b
 have e3:=yhr s.g (s.n+l) hs.2
 have e4:=z4r (fdv s.g (s.n+l)).1 b.lo b.hi
 have hw := @zy4 s.n l
 unfold zdt
 generalize zik s.n l=x at *
 generalize zgt b=y at *
 generalize fdv s.g (s.n+l)=q at *
 obtain ⟨q,qo⟩:=q
 simp only [bnd] at e2
 cases x with
 | false=>simp [zp1,zp2,slc,bnd,e1]
 | true =>
  have hw:=hw rfl
  cases y <;> simp [zp1,zp2,slc,bnd,e1,e2,e3,e4,hw]
theorem yid (s:Sl) (l:Int) (b:Bd) (hs:slI s):RUN T zmk [.agg (slc s),iv l,.agg (bnd b)]=some ([iv (zdt s l b).1,bv (zdt s l b).2],[]):=by
 refine zal z09 rfl ?_
 have e1:=zbs s.n 0 40
 have e1':=zbs l 1 100
 have e2:=yib b
 have e3:=yhq s.g (s.n+l) hs.2
 have e4:=yic (fdv s.g (s.n+l)).1 b.lo b.hi
 have hw := @zy4 s.n l
 unfold zdt
 unfold zik at *
 generalize zak s.n 0 40=x at *
 generalize zak l 1 100=x' at *
 generalize zgt b=y at *
 generalize fdv s.g (s.n+l)=q at *
 obtain ⟨q,qo⟩:=q
 simp only [bnd] at e2
 cases x with
 | false=>simp [zn4,zn5,-zbd,slc,bnd,e1]
 | true =>
  cases x' with
  | false=>simp [zn4,zn5,-zbd,slc,bnd,e1,e1']
  | true =>
   have hw:=hw rfl
   cases y <;> simp [zn4,zn5,-zbd,slc,bnd,e1,e1',e2,e3,e4,hw]
theorem yie (c:Cnd) (h:zgw c):RUN T znd [.agg (cnd c)]=some ([.agg (slc (zcg c.a c.z).1),bv (zcg c.a c.z).2],[]):=by
 refine zal z2l rfl ?_
 have e1:=zx3 c.a c.z h.2.2.1 h.2.2.2
 generalize zcg c.a c.z=p at *
 obtain ⟨⟨pn,pg⟩,pb⟩:=p
 simp only [slc] at e1 ⊢
 simp [zt2,zt3,cnd,e1]
theorem zx6 (s:Sl) (l:Int) (hs:slI s):RUN T zi8 [.agg (slc s),iv l]=some ([.agg (frc (zdv s l).1),bv (zdv s l).2],[]):=by
 refine zal z2m rfl ?_
 have e1:=z4p s.n l
 have e2:=yh9 s.g (s.n+l) hs.2
 have hw := @zy4 s.n l
 unfold zdv
 generalize zik s.n l=x at *
 generalize zf7 (zg1 s.g s.g) (s.n+l)=f at *
 obtain ⟨⟨fw,fd⟩,fb⟩:=f
 simp only [frc] at e2 ⊢
 cases x with
 | false=>simp [zp8,zp9,slc,e1,zfq,zb3]
 | true =>
  have hw:=hw rfl
  simp [zp8,zp9,slc,e1,e2,hw]
theorem z7z (w:Wd) (d:Int) (hw:wfU w):frI (zf7 w d).1:=by
 unfold zf7
 split
 ·rename_i h
  simp only [frB,Bool.and_eq_true] at h
  have:=za6.mp h.2
  exact ⟨hw,by unfold inI; simp only; omega⟩
 ·exact ⟨zqs,by unfold inI zfq; simp⟩
theorem zw7:frI zfq:=⟨zqs,by unfold inI zfq; simp⟩
theorem zy2 (s:Sl) (l:Int) (hs:slI s):frI (zdv s l).1:=by
 unfold zdv
 split
 ·exact z7z _ _ (yp6 hs.2 hs.2)
 ·exact zw7
theorem ynw (a b:Fr):frI (zl9 a b).1:=by
 unfold zl9
 split
 ·split
  ·exact z7z _ _ (ykk _ _)
  ·exact zw7
 ·exact zw7
theorem zz0 (c:Cnd) (l:Int):frI (zcw c l).1:=by
 unfold zcw
 split
 ·exact ynw _ _
 ·exact zw7
theorem zx7 (c:Cnd) (l:Int) (h:zgw c):RUN T zi7 [.agg (cnd c),iv l]=some ([.agg (frc (zcw c l).1),bv (zcw c l).2],[]):=by
 refine zal z2k rfl ?_
 have e1:=zx6 c.a l h.2.2.1
 have e2:=zx6 c.z l h.2.2.2
 have e3:=yia (zdv c.a l).1 (zdv c.z l).1 (zy2 _ _ h.2.2.1) (zy2 _ _ h.2.2.2)
 unfold zcw
 generalize zdv c.a l=p at *
 generalize zdv c.z l=q at *
 obtain ⟨p,pb⟩:=p
 obtain ⟨q,qb⟩:=q
 simp only at e1 e2 e3 ⊢
 generalize zl9 p q=r at *
 obtain ⟨r,rb⟩:=r
 simp only [frc,slc] at e1 e2 e3 ⊢
 cases pb <;> cases qb <;> simp [zt0,zt1,cnd,e1,e2,e3,zfq,zb3]
abbrev cfS (c:Cfg):PV := .agg [iv c.ro,iv c.de,iv c.bi,iv c.la,iv c.rw,iv c.nu,iv c.dn,.sl 1 (zac c.sg)]
def zci (c:Cfg) (b:Bd) (x:Cnd):Int×Int×Bool:=if ((zdt x.a c.la b).2 && (zdt x.z c.la b).2)=true then ((zdt x.a c.la b).1,(zdt x.z c.la b).1,true) else (0,0,false)
def ze3 (c:Cfg) (f:Int):Int:=(atI c.sg f).getD 0
def zwq (s l r:Int):Bool:=if s=1 then decide (l≤r) else if s = -1 then decide (r≤l) else true
def zxc (x:Cnd) (l:Int):Bool:=(zcw x l).2 && ((zcg x.a x.z).2 && ((zdv (zcg x.a x.z).1 l).2 && ((zgg (zcw x l).1 (zdv (zcg x.a x.z).1 l).1).2 && decide (0<(zgg (zcw x l).1 (zdv (zcg x.a x.z).1 l).1).1))))
def zlp (a b:Cnd):Bool:=decide (a.f<b.f) || (decide (a.f=b.f) && decide (a.b<b.b))
def zei (a b:Cnd) (l:Int):Bool:=(zcw a l).2 && ((zcw b l).2 && ((zgg (zcw a l).1 (zcw b l).1).2 && (decide (0<(zgg (zcw a l).1 (zcw b l).1).1) || (decide ((zgg (zcw a l).1 (zcw b l).1).1=0) && zlp a b))))
theorem z4s (c:Cfg) (b:Bd) (x:Cnd) (h:zgw x):RUN T zj4 [cfS c,.agg (bnd b),.agg (cnd x)]=some ([iv (zci c b x).1,iv (zci c b x).2.1,bv (zci c b x).2.2],[]):=by
 have e1:=zx5 x.a c.la b h.2.2.1
 have e2:=zx5 x.z c.la b h.2.2.2
 unfold zci
 generalize zdt x.a c.la b=p at *
 generalize zdt x.z c.la b=q at *
 obtain ⟨p,pb⟩:=p
 obtain ⟨q,qb⟩:=q
 simp only [slc,bnd] at e1 e2 ⊢
 refine zal z1k rfl ?_
 cases pb <;> cases qb <;> simp [zsr,zss,cnd,e1,e2]
theorem z4t (c:Cfg) (f:Int) (hl:c.sg.length≤9223372036854775807):RUN T zj6 [cfS c,iv f]=some ([iv (ze3 c f)],[]):=by
 refine zal z1n rfl ?_
 have hw:=w64 (x:=(c.sg.length:Int)-1) (by omega) (by omega)
 have e1:=zdb f 0 ((c.sg.length:Int)-1)
 unfold ze3
 cases hs:atI c.sg f with
 | none =>
  have hn:=zq5 hs
  have:zak f 0 ((c.sg.length:Int)-1)=false:=by
   cases hw:zak f 0 ((c.sg.length:Int)-1) with
   | false=>rfl
   | true=>have:=za6.mp hw; omega
  rw [this] at e1
  simp [zpt,zpu,-zb7,e1,hw]
 | some x =>
  obtain ⟨j,rfl,hj,hjl⟩:=zjj hs
  rw [show zak j 0 ((c.sg.length:Int)-1)=true from za6.mpr (by omega)] at e1
  have hj':=zbj hj
  simp [-getElem?_pos,zpt,zpu,-zb7,e1,hw,hj',hjl]
theorem yif (s l r:Int):RUN T zms [iv s,iv l,iv r]=some ([bv (zwq s l r)],[]):=by
 refine zal z1m rfl ?_
 unfold zwq
 by_cases h1:s=1
 ·simp [zpr,zps,h1]
 ·by_cases h2:s = -1 <;> simp [zpr,zps,h1,h2]
theorem yig (x:Cnd) (l:Int) (h:zgw x):RUN T zmt [.agg (cnd x),iv l]=some ([bv (zxc x l)],[]):=by
 refine zal z1o rfl ?_
 have hp:=zrm (b:=x.z) h.2.2.1
 have e1:=zx7 x l h
 have e2:=yie x h
 have e3:=zx6 (zcg x.a x.z).1 l hp
 have e4:=z4o (zcw x l).1 (zdv (zcg x.a x.z).1 l).1 (zz0 _ _) (zy2 _ _ hp)
 unfold zxc
 generalize zcw x l=g at *
 generalize zcg x.a x.z=p at *
 obtain ⟨p,pb⟩:=p
 simp only at e2 e3 e4 ⊢
 generalize zdv p l=q at *
 obtain ⟨g,gb⟩:=g
 obtain ⟨q,qb⟩:=q
 simp only at e1 e3 e4 ⊢
 generalize zgg g q=m at *
 obtain ⟨m,mb⟩:=m
 simp only [frc,slc,cnd] at e1 e2 e3 e4 ⊢
 cases gb <;> cases pb <;> cases qb <;> cases mb <;> simp [zsv,zsw,e1,e2,e3,e4]
theorem yih (a b:Cnd):RUN T znn [.agg (cnd a),.agg (cnd b)]=some ([bv (zlp a b)],[]):=by
 refine zal z25 rfl ?_
 have e1:=z4l a.f b.f
 have e2:=z4l a.b b.b
 have e3:=z4h (zcq a.f b.f) (zcq a.b b.b)
 have hr:zan 8 2=true:=by decide
 have e4:zlp a b=decide ((if zcq a.f b.f=0 then zcq a.b b.b else zcq a.f b.f)<0):=by
  unfold zlp zcq
  rw [Bool.eq_iff_iff]
  simp only [Bool.or_eq_true,Bool.and_eq_true,decide_eq_true_eq]
  split <;> split <;> (try split) <;> (try split) <;> (try split) <;> (try split) <;> omega
 rw [e4]
 simp [zuy,zuz,cnd,e1,e2,e3,hr]
theorem yii (a b:Cnd) (l:Int) (ha:zgw a) (hb:zgw b):RUN T zkb [.agg (cnd a),.agg (cnd b),iv l]=some ([bv (zei a b l)],[]):=by
 have e1:=zx7 a l ha
 have e2:=zx7 b l hb
 have e3:=z4o (zcw a l).1 (zcw b l).1 (zz0 _ _) (zz0 _ _)
 have e4:=yih a b
 unfold zei
 generalize zcw a l=g at *
 generalize zcw b l=q at *
 generalize zlp a b=le at *
 obtain ⟨g,gb⟩:=g
 obtain ⟨q,qb⟩:=q
 simp only at e1 e2 e3 ⊢
 generalize zgg g q=m at *
 obtain ⟨m,mb⟩:=m
 simp only [frc,cnd] at e1 e2 e3 e4 ⊢
 refine zal z2f rfl ?_
 cases gb <;> cases qb <;> cases mb <;> by_cases h1:0<m <;> by_cases h2:m=0 <;> simp [ztp,ztq,e1,e2,e3,e4,h1,h2]
def zdr (c:Cfg) (b:Bd) (x:Cnd):Bool:=zbr c && ((zci c b x).2.2 && (decide (c.rw≤x.a.n) && (decide (c.rw≤x.z.n) && (zwq (ze3 c x.f) (zci c b x).1 (zci c b x).2.1 && zxc x c.la))))
theorem yij (c:Cfg) (b:Bd) (x:Cnd) (h:zgw x) (hl:c.sg.length≤9223372036854775807):RUN T zj2 [cfS c,.agg (bnd b),.agg (cnd x)]=some ([bv (zdr c b x)],[]):=by
 have e1:=z4s c b x h
 have e2:=z35 c hl
 have e3:=z4t c x.f hl
 have e5:=yig x c.la h
 unfold zdr
 generalize zci c b x=p at *
 obtain ⟨p1,p2,pb⟩:=p
 have e4:=yif (ze3 c x.f) p1 p2
 simp only at e1 ⊢
 generalize ze3 c x.f=s at *
 generalize zwq s p1 p2=ab at *
 generalize zxc x c.la=ib at *
 generalize zbr c=cb at *
 simp only [cnd,bnd] at e1 e5 ⊢
 refine zal z04 rfl ?_
 cases cb <;> cases pb <;> by_cases h1:c.rw≤x.a.n <;> by_cases h2:c.rw≤x.z.n <;> cases ab <;> simp [zr1,zr2,e1,e2,e3,e4,e5,h1,h2]
def zc8 (l:List Cnd):List (List PV):=l.map cnd
@[simp] theorem yvm (l:List Cnd):(zc8 l).length=l.length:=by simp [zc8]
theorem zz2 {l:List Cnd} {i:Nat} {x:Cnd} (h:l[i]?=some x):(zc8 l)[i]?=some (cnd x):=by simp [zc8,h]
def noB (c:Cfg) (b:Bd) (x y:Cnd):Bool := !zdr c b y || !zei y x c.la
def zjv (c:Cfg) (b:Bd) (l:List Cnd) (x:Cnd):Bool:=zdr c b x && l.all (noB c b x)
def zpb:Cnd:=⟨0,0,⟨0,0⟩,⟨0,0⟩⟩
def zez (c:Cfg) (b:Bd) (l:List Cnd):Cnd×Bool:=match l.find? (zjv c b l) with
 | some x=>(x,true)
 | none=>(zpb,false)
theorem ylg (a:Wd):zfe a a=0:=by
 have h : ∀ x,zcq x x=0:=fun x=>by
  unfold zcq
  rw [if_neg (by omega),if_neg (by omega)]
 unfold zfe
 rw [h,h,if_pos rfl]
theorem ymo (a:Wd):zo3 a a=0:=by
 unfold zo3
 rw [ylg]
 split <;> simp_all
theorem yjj (a:Fr):(zgg a a).1=0:=by
 unfold zgg
 split
 ·rename_i h
  have:(zb5 a a).1=(zb5 a a).2.1:=by
   unfold zb5
   split <;> rfl
  simp only
  rw [this,ymo]
 ·rfl
theorem ymx (x:Cnd) (l:Int):zei x x l=false:=by
 have h1:=yjj (zcw x l).1
 have h2:zlp x x=false:=by
  unfold zlp
  rw [decide_eq_false (show ¬ x.f<x.f by omega),decide_eq_false (show ¬ x.b<x.b by omega)]
  simp
 unfold zei
 rw [h1,h2]
 simp
theorem ym2 {p q:Cnd→Bool} (l:List Cnd):(l.filter p).all q=l.all fun y => !p y || q y:=by
 induction l with
 | nil=>rfl
 | cons y l ih =>
  simp only [List.filter_cons,List.all_cons]
  cases h:p y with
  | true=>simp [ih]
  | false=>simp [ih]
theorem ylx {p q:Cnd→Bool} (l:List Cnd):(l.filter p).find? q=l.find? fun x=>p x && q x:=by
 induction l with
 | nil=>rfl
 | cons y l ih =>
  simp only [List.filter_cons,List.find?_cons]
  cases h:p y with
  | true =>
   simp only [if_true,List.find?_cons,Bool.true_and]
   cases q y <;> simp [ih]
  | false=>simp [ih]
theorem yj8 (c:Cfg) (b:Bd) (l:List Cnd):l.find? (zjv c b l)=(l.filter (zdr c b)).find? fun x=>(l.filter (zdr c b)).all fun y => !zei y x c.la:=by
 rw [ylx]
 congr 1
 funext x
 unfold zjv
 rw [ym2]
 rfl
set_option maxHeartbeats 2000000 in
theorem yik (c:Cfg) (b:Bd) (l:List Cnd) (hl:l.length≤1048576) (hc:c.sg.length≤1048576) (hi : ∀ x∈l,zgw x):RUN T zmq [cfS c,.agg (bnd b),.sl 6 (zc8 l)]=some ([.agg (cnd (zez c b l).1),bv (zez c b l).2],[]):=by
 have eM : ∀ x∈l,RUN T zj2 [cfS c,.agg [iv b.lo,iv b.hi],.agg [iv x.f,iv x.b,iv x.a.n,iv x.a.g,iv x.z.n,iv x.z.g]]=some ([bv (zdr c b x)],[]):=fun x hx=>yij c b x (hi x hx) (by omega)
 have eB : ∀ x∈l,∀ y∈l,RUN T zkb [.agg [iv x.f,iv x.b,iv x.a.n,iv x.a.g,iv x.z.n,iv x.z.g],.agg [iv y.f,iv y.b,iv y.a.n,iv y.a.g,iv y.z.n,iv y.z.g],iv c.la]=some ([bv (zei x y c.la)],[]):=fun x hx y hy=>yii x y c.la (hi x hx) (hi y hy)
 obtain ⟨R,hR⟩ : ∃ R,R=zez c b l:=⟨_,rfl⟩
 unfold zez at hR
 rw [show zez c b l=R by rw [hR]; rfl]
 rw [yj8] at hR
 simp only [bnd]
 refine zal z1h rfl ?_
 have hr0:zan 48 0=true:=by decide
 have hr1:zan 48 1=true:=by decide
 simp [-getElem?_pos,zsk,zsl,hr0]
 refine za3 (fun n st => ∃ (i o e:Nat) (m:List Cnd),i+n=l.length∧m=(l.take i).filter (zdr c b)∧st.V 3 = .ptr 0 none 0 0 0∧st.V 4 = .ptr 1 none 0 0 0∧st.V 6 = .ptr 2 none 0 0 0∧st.V 8 = .ref o none e 0 m.length∧st.V 17 = .sl 6 (zc8 l)∧st.V 18=iv l.length∧st.V 19=iv i∧2<o∧o<st.nx∧st.S 0=some (.box [iv c.ro,iv c.de,iv c.bi,iv c.la,iv c.rw,iv c.nu,iv c.dn,.sl 1 (zac c.sg)])∧st.S 1=some (.box [iv b.lo,iv b.hi])∧st.S 2=some (.box [iv 0,iv 0,iv 0,iv 0,iv 0,iv 0])∧st.S o=some (.row 6 (zc8 m))) ?_ l.length _ ⟨0,3,0,[],by simp [zc8]⟩
 rintro n st ⟨i,o,e,m,hin,hm,v3,v4,v6,v8,v17,v18,v19,ho,hox,hS0,hS1,hS2,hSo⟩
 obtain ⟨a01,a02,a03,a04⟩:=fr (show 0<st.nx by omega)
 obtain ⟨a11,a12,a13,a14⟩:=fr (show 1<st.nx by omega)
 obtain ⟨a21,a22,a23,a24⟩:=fr (show 2<st.nx by omega)
 obtain ⟨a31,a32,a33,a34⟩:=fr (show 0<o by omega)
 obtain ⟨a41,a42,a43,a44⟩:=fr (show 1<o by omega)
 obtain ⟨a51,a52,a53,a54⟩:=fr (show 2<o by omega)
 obtain ⟨a61,a62,a63,a64⟩:=fr (show o<st.nx by omega)
 obtain ⟨a71,a72,a73,a74⟩:=fr (show o<st.nx+1 by omega)
 by_cases h:i<l.length
 ·obtain ⟨x,hx⟩ : ∃ x,l[i]?=some x:=⟨_,List.getElem?_eq_getElem h⟩
  have hx':=zz2 hx
  have hxm:=List.mem_of_getElem? hx
  have hws:=wS h (by omega:l.length≤9223372036854775807)
  have e1:=eM x hxm
  have hml:m.length≤i:=by rw [hm]; exact Nat.le_trans (List.length_filter_le _ _) (by simp; omega)
  have hr48:zan 48 (m.length+1)=true:=by simp [zan]; omega
  have htk:(l.take (i+1)).filter (zdr c b)=if zdr c b x=true then m++[x] else m:=by
   rw [List.take_succ,hx,List.filter_append,← hm]
   by_cases c':zdr c b x=true <;> simp [c']
  have hsn:zc8 m++[[iv x.f,iv x.b,iv x.a.n,iv x.a.g,iv x.z.n,iv x.z.g]]=zc8 (m++[x]):=by simp [zc8,cnd]
  clear eM eB hm
  cases hmx:zdr c b x with
  | true =>
   rw [hmx] at e1
   rw [if_pos hmx] at htk
   simp [-getElem?_pos,zsj,v3,v4,v6,v8,v17,v18,v19,hS0,hS1,hS2,hSo,h,hx',cnd,e1,hws,hr1,hr48,hsn,a01,a02,a03,a04,a11,a12,a13,a14,a21,a22,a23,a24,a31,a32,a33,a34,a41,a42,a43,a44,a51,a52,a53,a54,a61,a62,a63,a64,a71,a72,a73,a74]
   exact zaq (n-1) (by omega) ⟨i+1,st.nx+2,st.ep,m++[x],by omega,htk.symm,by simp [v3],by simp [v4],by simp [v6],by simp,by simp [v17],by simp [v18],by simp,by omega,by simp,by simp [a01,a02,a03,a04,a11,a12,a13,a14,a21,a22,a23,a24,a31,a32,a33,a34,a41,a42,a43,a44,a51,a52,a53,a54,a61,a62,a63,a64,a71,a72,a73,a74,hS0],by simp [a01,a02,a03,a04,a11,a12,a13,a14,a21,a22,a23,a24,a31,a32,a33,a34,a41,a42,a43,a44,a51,a52,a53,a54,a61,a62,a63,a64,a71,a72,a73,a74,hS1],by simp [a01,a02,a03,a04,a11,a12,a13,a14,a21,a22,a23,a24,a31,a32,a33,a34,a41,a42,a43,a44,a51,a52,a53,a54,a61,a62,a63,a64,a71,a72,a73,a74,hS2],by simp⟩
  | false =>
   rw [hmx] at e1
   rw [if_neg (by simp [hmx])] at htk
   simp [-getElem?_pos,zsj,v3,v4,v6,v8,v17,v18,v19,hS0,hS1,hS2,hSo,h,hx',cnd,e1,hws,a01,a02,a03,a04,a11,a12,a13,a14,a21,a22,a23,a24,a31,a32,a33,a34,a41,a42,a43,a44,a51,a52,a53,a54,a61,a62,a63,a64,a71,a72,a73,a74]
   exact zaq (n-1) (by omega) ⟨i+1,o,e,m,by omega,htk.symm,by simp [v3],by simp [v4],by simp [v6],by simp [v8],by simp [v17],by simp [v18],by simp,by omega,by simp; omega,by simp [a01,a02,a03,a04,a11,a12,a13,a14,a21,a22,a23,a24,a31,a32,a33,a34,a41,a42,a43,a44,a51,a52,a53,a54,a61,a62,a63,a64,a71,a72,a73,a74,hS0],by simp [a01,a02,a03,a04,a11,a12,a13,a14,a21,a22,a23,a24,a31,a32,a33,a34,a41,a42,a43,a44,a51,a52,a53,a54,a61,a62,a63,a64,a71,a72,a73,a74,hS1],by simp [a01,a02,a03,a04,a11,a12,a13,a14,a21,a22,a23,a24,a31,a32,a33,a34,a41,a42,a43,a44,a51,a52,a53,a54,a61,a62,a63,a64,a71,a72,a73,a74,hS2],by simp [a01,a02,a03,a04,a11,a12,a13,a14,a21,a22,a23,a24,a31,a32,a33,a34,a41,a42,a43,a44,a51,a52,a53,a54,a61,a62,a63,a64,a71,a72,a73,a74,hSo]⟩
 ·rw [List.take_of_length_le (by omega)] at hm
  rw [← hm] at hR
  have hmem : ∀ y∈m,y∈l:=fun y hy=>by rw [hm] at hy; exact (List.mem_filter.mp hy).1
  have hml:m.length≤1048576:=by rw [hm]; exact Nat.le_trans (List.length_filter_le _ _) hl
  simp [-getElem?_pos,zsj,v8,v18,v19,hSo,h]
  obtain ⟨q,hq⟩ : ∃ q:Cnd→Bool,q=fun x=>m.all fun y => !zei y x c.la:=⟨_,rfl⟩
  rw [← hq] at hR
  clear eM hm hin
  refine za3 (fun n st => ∃ i:Nat,i+n=m.length∧(m.drop i).find? q=m.find? q∧st.V 3 = .ptr 0 none 0 0 0∧st.V 4 = .ptr 1 none 0 0 0∧st.V 6 = .ptr 2 none 0 0 0∧st.V 8 = .ref o none e 0 m.length∧st.V 32 = .ref o none e 0 m.length∧st.V 33=iv m.length∧st.V 34=iv i∧2<o∧o<st.nx∧st.S 0=some (.box [iv c.ro,iv c.de,iv c.bi,iv c.la,iv c.rw,iv c.nu,iv c.dn,.sl 1 (zac c.sg)])∧st.S 1=some (.box [iv b.lo,iv b.hi])∧st.S 2=some (.box [iv 0,iv 0,iv 0,iv 0,iv 0,iv 0])∧st.S o=some (.row 6 (zc8 m))) ?_ m.length _ ⟨0,by simp,by simp,by simp [v3],by simp [v4],by simp [v6],by simp [v8],by simp,by simp,by simp,ho,by simp [hox],by simp [hS0],by simp [hS1],by simp [hS2],by simp [hSo]⟩
  clear v3 v4 v6 v8 v17 v18 v19 hS0 hS1 hS2 hSo hox ho
  clear a01 a02 a03 a04 a11 a12 a13 a14 a21 a22 a23 a24 a31 a32 a33 a34 a41 a42 a43 a44 a51 a52 a53 a54 a61 a62 a63 a64 a71 a72 a73 a74
  rintro n st ⟨i,hin,hf,v3,v4,v6,v8,v32,v33,v34,ho,hox,hS0,hS1,hS2,hSo⟩
  obtain ⟨b01,b02,b03,b04⟩:=fr (show 0<st.nx by omega)
  obtain ⟨b11,b12,b13,b14⟩:=fr (show 1<st.nx by omega)
  obtain ⟨b21,b22,b23,b24⟩:=fr (show 2<st.nx by omega)
  obtain ⟨b31,b32,b33,b34⟩:=fr (show 0<o by omega)
  obtain ⟨b41,b42,b43,b44⟩:=fr (show 1<o by omega)
  obtain ⟨b51,b52,b53,b54⟩:=fr (show 2<o by omega)
  obtain ⟨b61,b62,b63,b64⟩:=fr (show o<st.nx by omega)
  by_cases h:i<m.length
  ·obtain ⟨x,hx⟩ : ∃ x,m[i]?=some x:=⟨_,List.getElem?_eq_getElem h⟩
   have hx':=zz2 hx
   have hxm:=List.mem_of_getElem? hx
   have hws:=wS h (by omega:m.length≤9223372036854775807)
   rw [zgj hx,List.find?_cons] at hf
   obtain ⟨kb0,hkb⟩ : ∃ k,k=q x:=⟨_,rfl⟩
   rw [← hkb] at hf
   have hkb2:kb0=(true && (m.drop 0).all fun y => !zei y x c.la):=by rw [hkb,hq]; rfl
   clear hkb hq
   simp [-getElem?_pos,zxl,v3,v4,v6,v8,v32,v33,v34,hS0,hS1,hS2,hSo,h,hx',cnd,b01,b02,b03,b04,b11,b12,b13,b14,b21,b22,b23,b24,b31,b32,b33,b34,b41,b42,b43,b44,b51,b52,b53,b54,b61,b62,b63,b64]
   generalize hpp:st.nx=pp at *
   refine za3 (fun n' s => ∃ (j:Nat) (k:Bool),j+n'=m.length∧(k && (m.drop j).all fun y => !zei y x c.la)=kb0∧s.V 3 = .ptr 0 none 0 0 0∧s.V 4 = .ptr 1 none 0 0 0∧s.V 6 = .ptr 2 none 0 0 0∧s.V 8 = .ref o none e 0 m.length∧s.V 32 = .ref o none e 0 m.length∧s.V 33=iv m.length∧s.V 34=iv i∧s.V 11=iv i∧s.V 12 = .ptr pp none st.ep 0 0∧s.V 13=bv k∧s.V 39 = .ref o none e 0 m.length∧s.V 40=iv m.length∧s.V 41=iv j∧pp<s.nx∧s.S 0=some (.box [iv c.ro,iv c.de,iv c.bi,iv c.la,iv c.rw,iv c.nu,iv c.dn,.sl 1 (zac c.sg)])∧s.S 1=some (.box [iv b.lo,iv b.hi])∧s.S 2=some (.box [iv 0,iv 0,iv 0,iv 0,iv 0,iv 0])∧s.S o=some (.row 6 (zc8 m))∧s.S pp=some (.box [iv x.f,iv x.b,iv x.a.n,iv x.a.g,iv x.z.n,iv x.z.g])) ?_ m.length _ ⟨0,true,by omega,hkb2.symm,by simp [v3],by simp [v4],by simp [v6],by simp [v8],by simp [v32],by simp [v33],by simp [v34],by simp,by simp,by simp,by simp,by simp,by simp,by simp,by simp [b01,b02,b03,b04,b11,b12,b13,b14,b21,b22,b23,b24,b31,b32,b33,b34,b41,b42,b43,b44,b51,b52,b53,b54,b61,b62,b63,b64,hS0],by simp [b01,b02,b03,b04,b11,b12,b13,b14,b21,b22,b23,b24,b31,b32,b33,b34,b41,b42,b43,b44,b51,b52,b53,b54,b61,b62,b63,b64,hS1],by simp [b01,b02,b03,b04,b11,b12,b13,b14,b21,b22,b23,b24,b31,b32,b33,b34,b41,b42,b43,b44,b51,b52,b53,b54,b61,b62,b63,b64,hS2],by simp [b01,b02,b03,b04,b11,b12,b13,b14,b21,b22,b23,b24,b31,b32,b33,b34,b41,b42,b43,b44,b51,b52,b53,b54,b61,b62,b63,b64,hSo],by simp [b01,b02,b03,b04,b11,b12,b13,b14,b21,b22,b23,b24,b31,b32,b33,b34,b41,b42,b43,b44,b51,b52,b53,b54,b61,b62,b63,b64]⟩
   clear v3 v4 v6 v8 v32 v33 v34 hS0 hS1 hS2 hSo
   rintro n' s ⟨j,k,hj,hk,v3,v4,v6,v8,v32,v33,v34,v11,v12,v13,v39,v40,v41,hpn,hS0,hS1,hS2,hSo,hSp⟩
   obtain ⟨d01,d02,d03,d04⟩:=fr (show 0<s.nx by omega)
   obtain ⟨d11,d12,d13,d14⟩:=fr (show 1<s.nx by omega)
   obtain ⟨d21,d22,d23,d24⟩:=fr (show 2<s.nx by omega)
   obtain ⟨d31,d32,d33,d34⟩:=fr (show 0<o by omega)
   obtain ⟨d41,d42,d43,d44⟩:=fr (show 1<o by omega)
   obtain ⟨d51,d52,d53,d54⟩:=fr (show 2<o by omega)
   obtain ⟨d61,d62,d63,d64⟩:=fr (show o<s.nx by omega)
   obtain ⟨d71,d72,d73,d74⟩:=fr (show 0<pp by omega)
   obtain ⟨d81,d82,d83,d84⟩:=fr (show 1<pp by omega)
   obtain ⟨d91,d92,d93,d94⟩:=fr (show 2<pp by omega)
   obtain ⟨d101,d102,d103,d104⟩:=fr (show o<pp by omega)
   obtain ⟨d111,d112,d113,d114⟩:=fr (show pp<s.nx by omega)
   by_cases hjl:j<m.length
   ·obtain ⟨y,hy⟩ : ∃ y,m[j]?=some y:=⟨_,List.getElem?_eq_getElem hjl⟩
    have hy':=zz2 hy
    have hym:=List.mem_of_getElem? hy
    have hwj:=wS hjl (by omega:m.length≤9223372036854775807)
    have e3:=eB y (hmem y hym) x (hmem x hxm)
    rw [zgj hy,List.all_cons] at hk
    clear eB
    cases k with
    | false =>
     have hk':(false && (m.drop (j+1)).all fun y => !zei y x c.la)=kb0:=by rw [← hk]; rfl
     simp [-getElem?_pos,zk3,v3,v4,v6,v8,v11,v12,v13,v39,v40,v41,hS0,hS1,hS2,hSo,hSp,hjl,hy',cnd,hwj,d01,d02,d03,d04,d11,d12,d13,d14,d21,d22,d23,d24,d31,d32,d33,d34,d41,d42,d43,d44,d51,d52,d53,d54,d61,d62,d63,d64,d71,d72,d73,d74,d81,d82,d83,d84,d91,d92,d93,d94,d101,d102,d103,d104,d111,d112,d113,d114]
     exact zaq (n'-1) (by omega) ⟨j+1,false,by omega,hk',by simp [v3],by simp [v4],by simp [v6],by simp [v8],by simp [v32],by simp [v33],by simp [v34],by simp [v11],by simp [v12],by simp [v13],by simp [v39],by simp [v40],by simp,by simp; omega,by simp [d01,d02,d03,d04,d11,d12,d13,d14,d21,d22,d23,d24,d31,d32,d33,d34,d41,d42,d43,d44,d51,d52,d53,d54,d61,d62,d63,d64,d71,d72,d73,d74,d81,d82,d83,d84,d91,d92,d93,d94,d101,d102,d103,d104,d111,d112,d113,d114,hS0],by simp [d01,d02,d03,d04,d11,d12,d13,d14,d21,d22,d23,d24,d31,d32,d33,d34,d41,d42,d43,d44,d51,d52,d53,d54,d61,d62,d63,d64,d71,d72,d73,d74,d81,d82,d83,d84,d91,d92,d93,d94,d101,d102,d103,d104,d111,d112,d113,d114,hS1],by simp [d01,d02,d03,d04,d11,d12,d13,d14,d21,d22,d23,d24,d31,d32,d33,d34,d41,d42,d43,d44,d51,d52,d53,d54,d61,d62,d63,d64,d71,d72,d73,d74,d81,d82,d83,d84,d91,d92,d93,d94,d101,d102,d103,d104,d111,d112,d113,d114,hS2],by simp [d01,d02,d03,d04,d11,d12,d13,d14,d21,d22,d23,d24,d31,d32,d33,d34,d41,d42,d43,d44,d51,d52,d53,d54,d61,d62,d63,d64,d71,d72,d73,d74,d81,d82,d83,d84,d91,d92,d93,d94,d101,d102,d103,d104,d111,d112,d113,d114,hSo],by simp [d01,d02,d03,d04,d11,d12,d13,d14,d21,d22,d23,d24,d31,d32,d33,d34,d41,d42,d43,d44,d51,d52,d53,d54,d61,d62,d63,d64,d71,d72,d73,d74,d81,d82,d83,d84,d91,d92,d93,d94,d101,d102,d103,d104,d111,d112,d113,d114,hSp]⟩
    | true =>
     by_cases hij:j=i
     ·have hyx:y=x:=by
       subst hij
       rw [hx] at hy; exact (Option.some.inj hy).symm
      subst hyx
      rw [ymx] at hk
      have hk':(true && (m.drop (j+1)).all fun z => !zei z y c.la)=kb0:=by rw [← hk]; rfl
      subst hij
      simp [-getElem?_pos,zk3,v3,v4,v6,v8,v11,v12,v13,v39,v40,v41,hS0,hS1,hS2,hSo,hSp,hjl,hy',cnd,hwj,d01,d02,d03,d04,d11,d12,d13,d14,d21,d22,d23,d24,d31,d32,d33,d34,d41,d42,d43,d44,d51,d52,d53,d54,d61,d62,d63,d64,d71,d72,d73,d74,d81,d82,d83,d84,d91,d92,d93,d94,d101,d102,d103,d104,d111,d112,d113,d114]
      exact zaq (n'-1) (by omega) ⟨j+1,true,by omega,hk',by simp [v3],by simp [v4],by simp [v6],by simp [v8],by simp [v32],by simp [v33],by simp [v34],by simp [v11],by simp [v12],by simp [v13],by simp [v39],by simp [v40],by simp,by simp; omega,by simp [d01,d02,d03,d04,d11,d12,d13,d14,d21,d22,d23,d24,d31,d32,d33,d34,d41,d42,d43,d44,d51,d52,d53,d54,d61,d62,d63,d64,d71,d72,d73,d74,d81,d82,d83,d84,d91,d92,d93,d94,d101,d102,d103,d104,d111,d112,d113,d114,hS0],by simp [d01,d02,d03,d04,d11,d12,d13,d14,d21,d22,d23,d24,d31,d32,d33,d34,d41,d42,d43,d44,d51,d52,d53,d54,d61,d62,d63,d64,d71,d72,d73,d74,d81,d82,d83,d84,d91,d92,d93,d94,d101,d102,d103,d104,d111,d112,d113,d114,hS1],by simp [d01,d02,d03,d04,d11,d12,d13,d14,d21,d22,d23,d24,d31,d32,d33,d34,d41,d42,d43,d44,d51,d52,d53,d54,d61,d62,d63,d64,d71,d72,d73,d74,d81,d82,d83,d84,d91,d92,d93,d94,d101,d102,d103,d104,d111,d112,d113,d114,hS2],by simp [d01,d02,d03,d04,d11,d12,d13,d14,d21,d22,d23,d24,d31,d32,d33,d34,d41,d42,d43,d44,d51,d52,d53,d54,d61,d62,d63,d64,d71,d72,d73,d74,d81,d82,d83,d84,d91,d92,d93,d94,d101,d102,d103,d104,d111,d112,d113,d114,hSo],by simp [d01,d02,d03,d04,d11,d12,d13,d14,d21,d22,d23,d24,d31,d32,d33,d34,d41,d42,d43,d44,d51,d52,d53,d54,d61,d62,d63,d64,d71,d72,d73,d74,d81,d82,d83,d84,d91,d92,d93,d94,d101,d102,d103,d104,d111,d112,d113,d114,hSp]⟩
     ·have h1:((j:Int)=i)=False:=eq_false (by omega)
      have h2:((i:Int)=j)=False:=eq_false (by omega)
      have hji : ¬ i=j:=fun e=>hij e.symm
      generalize zei y x c.la=bb at *
      cases bb with
      | true =>
       have hk':(false && (m.drop (j+1)).all fun y => !zei y x c.la)=kb0:=by rw [← hk]; rfl
       simp [-getElem?_pos,zk3,v3,v4,v6,v8,v11,v12,v13,v39,v40,v41,hS0,hS1,hS2,hSo,hSp,hjl,hy',cnd,hwj,d01,d02,d03,d04,d11,d12,d13,d14,d21,d22,d23,d24,d31,d32,d33,d34,d41,d42,d43,d44,d51,d52,d53,d54,d61,d62,d63,d64,d71,d72,d73,d74,d81,d82,d83,d84,d91,d92,d93,d94,d101,d102,d103,d104,d111,d112,d113,d114,h1,h2,hij,hji,e3]
       exact zaq (n'-1) (by omega) ⟨j+1,false,by omega,hk',by simp [v3],by simp [v4],by simp [v6],by simp [v8],by simp [v32],by simp [v33],by simp [v34],by simp [v11],by simp [v12],by simp [v13],by simp [v39],by simp [v40],by simp,by simp; omega,by simp [d01,d02,d03,d04,d11,d12,d13,d14,d21,d22,d23,d24,d31,d32,d33,d34,d41,d42,d43,d44,d51,d52,d53,d54,d61,d62,d63,d64,d71,d72,d73,d74,d81,d82,d83,d84,d91,d92,d93,d94,d101,d102,d103,d104,d111,d112,d113,d114,hS0],by simp [d01,d02,d03,d04,d11,d12,d13,d14,d21,d22,d23,d24,d31,d32,d33,d34,d41,d42,d43,d44,d51,d52,d53,d54,d61,d62,d63,d64,d71,d72,d73,d74,d81,d82,d83,d84,d91,d92,d93,d94,d101,d102,d103,d104,d111,d112,d113,d114,hS1],by simp [d01,d02,d03,d04,d11,d12,d13,d14,d21,d22,d23,d24,d31,d32,d33,d34,d41,d42,d43,d44,d51,d52,d53,d54,d61,d62,d63,d64,d71,d72,d73,d74,d81,d82,d83,d84,d91,d92,d93,d94,d101,d102,d103,d104,d111,d112,d113,d114,hS2],by simp [d01,d02,d03,d04,d11,d12,d13,d14,d21,d22,d23,d24,d31,d32,d33,d34,d41,d42,d43,d44,d51,d52,d53,d54,d61,d62,d63,d64,d71,d72,d73,d74,d81,d82,d83,d84,d91,d92,d93,d94,d101,d102,d103,d104,d111,d112,d113,d114,hSo],by simp [d01,d02,d03,d04,d11,d12,d13,d14,d21,d22,d23,d24,d31,d32,d33,d34,d41,d42,d43,d44,d51,d52,d53,d54,d61,d62,d63,d64,d71,d72,d73,d74,d81,d82,d83,d84,d91,d92,d93,d94,d101,d102,d103,d104,d111,d112,d113,d114,hSp]⟩
      | false =>
       have hk':(true && (m.drop (j+1)).all fun y => !zei y x c.la)=kb0:=by rw [← hk]; rfl
       simp [-getElem?_pos,zk3,v3,v4,v6,v8,v11,v12,v13,v39,v40,v41,hS0,hS1,hS2,hSo,hSp,hjl,hy',cnd,hwj,d01,d02,d03,d04,d11,d12,d13,d14,d21,d22,d23,d24,d31,d32,d33,d34,d41,d42,d43,d44,d51,d52,d53,d54,d61,d62,d63,d64,d71,d72,d73,d74,d81,d82,d83,d84,d91,d92,d93,d94,d101,d102,d103,d104,d111,d112,d113,d114,h1,h2,hij,hji,e3]
       exact zaq (n'-1) (by omega) ⟨j+1,true,by omega,hk',by simp [v3],by simp [v4],by simp [v6],by simp [v8],by simp [v32],by simp [v33],by simp [v34],by simp [v11],by simp [v12],by simp [v13],by simp [v39],by simp [v40],by simp,by simp; omega,by simp [d01,d02,d03,d04,d11,d12,d13,d14,d21,d22,d23,d24,d31,d32,d33,d34,d41,d42,d43,d44,d51,d52,d53,d54,d61,d62,d63,d64,d71,d72,d73,d74,d81,d82,d83,d84,d91,d92,d93,d94,d101,d102,d103,d104,d111,d112,d113,d114,hS0],by simp [d01,d02,d03,d04,d11,d12,d13,d14,d21,d22,d23,d24,d31,d32,d33,d34,d41,d42,d43,d44,d51,d52,d53,d54,d61,d62,d63,d64,d71,d72,d73,d74,d81,d82,d83,d84,d91,d92,d93,d94,d101,d102,d103,d104,d111,d112,d113,d114,hS1],by simp [d01,d02,d03,d04,d11,d12,d13,d14,d21,d22,d23,d24,d31,d32,d33,d34,d41,d42,d43,d44,d51,d52,d53,d54,d61,d62,d63,d64,d71,d72,d73,d74,d81,d82,d83,d84,d91,d92,d93,d94,d101,d102,d103,d104,d111,d112,d113,d114,hS2],by simp [d01,d02,d03,d04,d11,d12,d13,d14,d21,d22,d23,d24,d31,d32,d33,d34,d41,d42,d43,d44,d51,d52,d53,d54,d61,d62,d63,d64,d71,d72,d73,d74,d81,d82,d83,d84,d91,d92,d93,d94,d101,d102,d103,d104,d111,d112,d113,d114,hSo],by simp [d01,d02,d03,d04,d11,d12,d13,d14,d21,d22,d23,d24,d31,d32,d33,d34,d41,d42,d43,d44,d51,d52,d53,d54,d61,d62,d63,d64,d71,d72,d73,d74,d81,d82,d83,d84,d91,d92,d93,d94,d101,d102,d103,d104,d111,d112,d113,d114,hSp]⟩
   ·rw [List.drop_eq_nil_of_le (by omega)] at hk
    simp only [List.all_nil,Bool.and_true] at hk
    subst hk
    cases k with
    | true =>
     simp only at hf
     rw [← hf] at hR
     simp only at hR
     subst hR
     simp [-getElem?_pos,zk3,v3,v4,v6,v8,v11,v12,v13,v39,v40,v41,hS0,hS1,hS2,hSo,hSp,hjl,cnd,d01,d02,d03,d04,d11,d12,d13,d14,d21,d22,d23,d24,d31,d32,d33,d34,d41,d42,d43,d44,d51,d52,d53,d54,d61,d62,d63,d64,d71,d72,d73,d74,d81,d82,d83,d84,d91,d92,d93,d94,d101,d102,d103,d104,d111,d112,d113,d114]
    | false =>
     simp only at hf
     simp [-getElem?_pos,zk3,v3,v4,v6,v8,v11,v12,v13,v34,v39,v40,v41,hS0,hS1,hS2,hSo,hSp,hjl,hws,d01,d02,d03,d04,d11,d12,d13,d14,d21,d22,d23,d24,d31,d32,d33,d34,d41,d42,d43,d44,d51,d52,d53,d54,d61,d62,d63,d64,d71,d72,d73,d74,d81,d82,d83,d84,d91,d92,d93,d94,d101,d102,d103,d104,d111,d112,d113,d114]
     exact zaq (n-1) (by omega) ⟨i+1,by omega,hf,by simp [v3],by simp [v4],by simp [v6],by simp [v8],by simp [v32],by simp [v33],by simp,ho,by simp; omega,by simp [hS0],by simp [hS1],by simp [hS2],by simp [hSo]⟩
  ·rw [List.drop_eq_nil_of_le (by omega)] at hf
   rw [← hf] at hR
   simp only [List.find?_nil] at hR
   subst hR
   simp [-getElem?_pos,zxl,v6,v33,v34,hS2,h,zpb,cnd]
def zgi (a b:Sl):Sl×Bool:=if ((sbi a.n b.n).2 && (sbi a.g b.g).2)=true then (⟨(sbi a.n b.n).1,(sbi a.g b.g).1⟩,true) else (⟨0,0⟩,false)
theorem yak {a b:Int}:inI (sbi a b).1:=by
 unfold sbi inI
 split
 ·rename_i h; simpa using h
 ·simp
theorem yo5 (a b:Sl):slI (zgi a b).1:=by
 unfold zgi
 split
 ·exact ⟨yak,yak⟩
 ·unfold slI inI; simp
def ze9 (s:Sl):List Sl→Option (List Sl)
 | []=>some []
 | x::xs=>if (zcg s x).2=true then (ze9 (zcg s x).1 xs).map ((zcg s x).1 :: ·) else none
def zd2 (h:List Sl):List Sl×Bool:=match ze9 ⟨0,0⟩ h with
 | some l=>(l,true)
 | none=>([],false)
theorem yas : ∀ (h:List Sl) (s:Sl) (l:List Sl),slI s→ze9 s h=some l→l.length=h.length∧∀ x∈l,slI x
 | [],s,l,_,e=>by simp [ze9] at e; subst e; simp
 | x::xs,s,l,hs,e=>by
  simp only [ze9] at e
  split at e
  ·simp only [Option.map_eq_some_iff] at e
   obtain ⟨l',h1,rfl⟩:=e
   have hp:=zrm (b:=x) hs
   obtain ⟨h2,h3⟩:=yas xs _ _ hp h1
   refine ⟨by simp [h2],fun y hy => ?_⟩
   rcases List.mem_cons.mp hy with e | e
   ·subst e; exact hp
   ·exact h3 y e
  ·cases e
theorem z0l:slI ⟨0,0⟩:=⟨by unfold inI; simp,by unfold inI; simp⟩
theorem z6g (h:List Sl):(zd2 h).1.length≤h.length∧(∀ x∈(zd2 h).1,slI x)∧((zd2 h).2=true→(zd2 h).1.length=h.length):=by
 unfold zd2
 cases e:ze9 ⟨0,0⟩ h with
 | none=>simp
 | some l =>
  obtain ⟨h1,h2⟩:=yas h _ l z0l e
  exact ⟨by simp [h1],h2,fun _=>h1⟩
def zfn (f:Int) (all:Sl) (least:Int):Int→List Sl→List Cnd→Option (List Cnd)
 | b,x::y::xs,acc=>if (zgi all x).2=true then zfn f all least (b+1) (y::xs) (if least≤x.n∧least≤(zgi all x).1.n then acc++[⟨f,b,x,(zgi all x).1⟩] else acc) else none
 | _,_,acc=>some acc
def zlh (l:List Sl):Sl:=l.getLast?.getD ⟨0,0⟩
def zfl (least:Int):Int→List (List Sl)→List Cnd→Option (List Cnd)
 | _,[],acc=>some acc
 | f,h::hs,acc=>if (zd2 h).2=true then match zfn f (zlh (zd2 h).1) least 0 (zd2 h).1 acc with
  | some a=>zfl least (f+1) hs a
  | none=>none
  else none
def zgv (H:List (List Sl)) (least:Int):List Cnd:=(zfl least 0 H []).getD []
theorem yap {f:Int} {all:Sl} {least:Int} {l:List Sl} {i:Nat} {x:Sl} (acc:List Cnd) (hx:l[i]?=some x) (hi:i+1<l.length):zfn f all least i (l.drop i) acc=if (zgi all x).2=true then zfn f all least (i+1:Nat) (l.drop (i+1)) (if least≤x.n∧least≤(zgi all x).1.n then acc++[⟨f,i,x,(zgi all x).1⟩] else acc) else none:=by
 rw [zgj hx,zgj (List.getElem?_eq_getElem hi),zfn]
 simp
theorem zya {f:Int} {all:Sl} {least:Int} {l:List Sl} {i:Nat} (acc:List Cnd) (hi : ¬ i+1<l.length):zfn f all least i (l.drop i) acc=some acc:=by
 match h:l.drop i with
 | []=>rw [zfn]; simp
 | [x]=>rw [zfn]; simp
 | x::y::xs =>
  have:=congrArg List.length h
  simp at this; omega
theorem yp7 {l:List Sl} {x:Sl} (h:l[l.length-1]?=some x):zlh l=x:=by
 unfold zlh; rw [List.getLast?_eq_getElem?,h]; rfl
def zow (H:List (List Sl)) (x:Cnd):Prop := ∃ (f b:Nat) (h:List Sl),x.f=f∧x.b=b∧H[f]?=some h∧b+1<h.length∧slI x.a∧slI x.z
theorem zz5 {f:Int} {all:Sl} {least:Int} {p:Cnd→Prop} {l:List Sl} (hl : ∀ x∈l,slI x) (hp : ∀ (b:Nat) (x z:Sl),b+1<l.length→slI x→slI z→p ⟨f,b,x,z⟩) : ∀ (k i:Nat) (acc a:List Cnd),i+k=l.length→(∀ x∈acc,p x)→zfn f all least i (l.drop i) acc=some a→a.length≤acc.length+k∧∀ x∈a,p x
 | 0,i,acc,a,hk,ha,h=>by
  rw [zya acc (by omega)] at h
  cases h
  exact ⟨by omega,ha⟩
 | k+1,i,acc,a,hk,ha,h=>by
  by_cases hi:i+1<l.length
  ·obtain ⟨x,hx⟩ : ∃ x,l[i]?=some x:=⟨_,List.getElem?_eq_getElem (by omega)⟩
   rw [yap acc hx hi] at h
   have hxi:=hl x (List.mem_of_getElem? hx)
   split at h
   ·split at h
    ·obtain ⟨h1,h2⟩:=zz5 hl hp k (i+1) _ _ (by omega) (fun y hy=>by
      rcases List.mem_append.mp hy with e | e
      ·exact ha y e
      ·simp only [List.mem_singleton] at e; subst e; exact hp i x _ hi hxi (yo5 _ _)) h
     exact ⟨by simp at h1; omega,h2⟩
    ·obtain ⟨h1,h2⟩:=zz5 hl hp k (i+1) _ _ (by omega) ha h
     exact ⟨by omega,h2⟩
   ·cases h
  ·rw [zya acc hi] at h
   cases h
   exact ⟨by omega,ha⟩
theorem z9f {least:Int} {H:List (List Sl)} {i:Nat} {h:List Sl} (acc:List Cnd) (hx:H[i]?=some h):zfl least i (H.drop i) acc=if (zd2 h).2=true then match zfn i (zlh (zd2 h).1) least 0 (zd2 h).1 acc with
  | some a=>zfl least (i+1:Nat) (H.drop (i+1)) a
  | none=>none
  else none:=by
 rw [zgj hx,zfl]
 simp
theorem z8i {least:Int} {H:List (List Sl)} {m:Nat} (hm : ∀ l∈H,l.length≤m) : ∀ (k i:Nat) (acc a:List Cnd),i+k=H.length→(∀ x∈acc,zow H x)→zfl least i (H.drop i) acc=some a→a.length≤acc.length+m*k∧∀ x∈a,zow H x
 | 0,i,acc,a,hk,ha,h=>by
  rw [List.drop_eq_nil_of_le (by omega),zfl] at h
  cases h
  exact ⟨by omega,ha⟩
 | k+1,i,acc,a,hk,ha,h=>by
  obtain ⟨l,hx⟩ : ∃ x,H[i]?=some x:=⟨_,List.getElem?_eq_getElem (by omega)⟩
  rw [z9f acc hx] at h
  obtain ⟨p1,p2,p3⟩:=z6g l
  split at h
  ·rename_i hp
   split at h
   ·rename_i a' h'
    have h'':zfn i (zlh (zd2 l).1) least ((0:Nat):Int) ((zd2 l).1.drop 0) acc=some a':=by simpa using h'
    obtain ⟨q1,q2⟩:=zz5 (p:=zow H) p2 (fun b x z hb hx' hz'=>⟨i,b,l,rfl,rfl,hx,by omega,hx',hz'⟩) (zd2 l).1.length 0 acc a' (by omega) ha h''
    obtain ⟨r1,r2⟩:=z8i hm k (i+1) a' a (by omega) q2 h
    have:=hm l (List.mem_of_getElem? hx)
    refine ⟨?_,r2⟩
    rw [Nat.mul_add]
    omega
   ·cases h
  ·cases h
theorem z8n {least:Int} {H:List (List Sl)} {m:Nat} (hm : ∀ l∈H,l.length≤m):(zgv H least).length≤m*H.length∧∀ x∈zgv H least,zow H x:=by
 unfold zgv
 cases h:zfl least 0 H [] with
 | none=>simp
 | some a =>
  have h':zfl least ((0:Nat):Int) (H.drop 0) []=some a:=by simpa using h
  obtain ⟨h1,h2⟩:=z8i hm H.length 0 [] a (by omega) (fun x hx=>by cases hx) h'
  exact ⟨by simpa using h1,h2⟩
theorem z9x {H:List (List Sl)} {x:Cnd} (hH:H.length≤1048576) (hl : ∀ l∈H,l.length≤1048576) (h:zow H x):zgw x:=by
 obtain ⟨f,b,l,h1,h2,h3,h4,h5,h6⟩:=h
 have:=(List.getElem?_eq_some_iff.mp h3).1
 have:=hl l (List.mem_of_getElem? h3)
 exact ⟨by unfold inI; omega,by unfold inI; omega,h5,h6⟩
theorem yjc {c:Cfg} {b:Bd} {l:List Cnd} (h:(zez c b l).2=true):(zez c b l).1∈l∧zdr c b (zez c b l).1=true∧∀ y∈l,zdr c b y=true→zei y (zez c b l).1 c.la=false:=by
 unfold zez at h ⊢
 cases e:l.find? (zjv c b l) with
 | none=>rw [e] at h; cases h
 | some x =>
  simp only
  have h1:=List.mem_of_find?_eq_some e
  have h2:=List.find?_some e
  unfold zjv at h2
  simp only [Bool.and_eq_true] at h2
  refine ⟨h1,h2.1,fun y hy hm => ?_⟩
  have:=List.all_eq_true.mp h2.2 y hy
  unfold noB at this
  rw [hm] at this
  simpa using this
def zep (a:Int):Nat:=(a % 18446744073709551616).toNat
theorem z9i {a:Int} (h:inI a):(zep a:Int)=if a<0 then a+18446744073709551616 else a:=by
 unfold inI at h
 unfold zep
 split <;> omega
theorem z64 (a:Int):zep a<18446744073709551616:=by
 unfold zep; omega
theorem yqe {n:Nat} (h:n<18446744073709551616):IntKind.i64.wrap n=if n<9223372036854775808 then (n:Int) else n-18446744073709551616:=by
 split
 ·exact w64 (by omega) (by omega)
 ·simp [IntKind.wrap,IntKind.signed,IntKind.bits]
  omega
theorem yqf {x y:Nat} (hx:x<18446744073709551616):(x &&& y)<18446744073709551616:=Nat.lt_of_le_of_lt Nat.and_le_left hx
theorem yko {a b:Int} (ha:inI a) (hb:inI b):inI (IntKind.i64.wrap ((zep a &&& zep b:Nat):Int))∧(IntKind.i64.wrap ((zep a &&& zep b:Nat):Int) % 2=1↔a % 2=1∧b % 2=1):=by
 have la:=z64 a
 have lb:=z64 b
 have ea:=z9i ha
 have eb:=z9i hb
 have h4:(zep a &&& zep b) % 2=1↔zep a % 2=1∧zep b % 2=1:=Nat.and_mod_two_eq_one
 have hl:=yqf (y:=zep b) la
 rw [yqe hl]
 unfold inI at *
 generalize zep a &&& zep b=p at *
 split at ea <;> split at eb <;> split <;> omega
def zjs (a b:Int):Int:=(a+b) / 2
theorem yil (a b:Int) (ha:inI a) (hb:inI b):RUN T znk [iv a,iv b]=some ([iv (zjs a b)],[]):=by
 refine zal z2y rfl ?_
 obtain ⟨h1,h2⟩:=yko ha hb
 unfold zep at h1 h2
 unfold inI at ha hb h1
 have hb64:IntKind.i64.bits=64:=rfl
 simp [zuo,zup,hb64]
 rw [Int.fdiv_eq_ediv_of_nonneg _ (by omega),Int.fdiv_eq_ediv_of_nonneg _ (by omega)]
 unfold zjs
 generalize IntKind.i64.wrap (((a % 18446744073709551616).toNat &&& (b % 18446744073709551616).toNat:Nat):Int)=p at *
 have h3:max (p % 18446744073709551616) 0 % 2=p % 2:=by omega
 rw [h3,w64 (x:=p % 2) (by omega) (by omega),w64 (x:=a / 2+b / 2) (by omega) (by omega),w64 (by omega) (by omega)]
 omega
def zjt (s:Int) (b:Bd) (l r:Int):Bd×Bd:=if zgt b=true then (if s=1 then (⟨b.lo,zfo (zjs l r) b.lo b.hi⟩,⟨zfo (zjs l r) b.lo b.hi,b.hi⟩) else if s = -1 then (⟨zfo (zjs l r) b.lo b.hi,b.hi⟩,⟨b.lo,zfo (zjs l r) b.lo b.hi⟩) else (b,b)) else (b,b)
theorem yim (s:Int) (b:Bd) (l r:Int) (hl:inI l) (hr:inI r):RUN T zmz [iv s,.agg (bnd b),iv l,iv r]=some ([.agg (bnd (zjt s b l r).1),.agg (bnd (zjt s b l r).2)],[]):=by
 have e1:=z4q b
 have e2:=yil l r hl hr
 have e3:=z4r (zjs l r) b.lo b.hi
 refine zal z10 rfl ?_
 unfold zjt
 generalize zgt b=q at *
 generalize zfo (zjs l r) b.lo b.hi=m at *
 obtain ⟨lo,hi⟩:=b
 simp only [bnd] at *
 cases q with
 | false=>simp [zn7,zn8,e1,e2,e3]
 | true =>
  by_cases h1:s=1
  ·simp [zn7,zn8,e1,e2,e3,h1]
  ·by_cases h2:s = -1 <;> simp [zn7,zn8,e1,e2,e3,h1,h2]
theorem yin (a b:Sl) (ha:slI a) (hb:slI b):RUN T znb [.agg (slc a),.agg (slc b)]=some ([.agg (slc (zgi a b).1),bv (zgi a b).2],[]):=by
 have e1:=z4b a.n b.n ha.1 hb.1
 have e2:=z4b a.g b.g ha.2 hb.2
 unfold zgi
 generalize sbi a.n b.n=x at *
 generalize sbi a.g b.g=y at *
 obtain ⟨x,xb⟩:=x
 obtain ⟨y,yb⟩:=y
 simp only at e1 e2 ⊢
 refine zal z2h rfl ?_
 cases xb <;> cases yb <;> simp [ztu,ztv,e1,e2,slc]
theorem ykj (m:List Sl) (x:Sl):zbv m++[[iv x.n,iv x.g]]=zbv (m++[x]):=by simp [zbv,slc]
theorem ym5 {s x:Sl} {h:List Sl} {i:Nat} (hx:h[i]?=some x):ze9 s (h.drop i)=if (zcg s x).2=true then (ze9 (zcg s x).1 (h.drop (i+1))).map ((zcg s x).1 :: ·) else none:=by
 rw [zgj hx,ze9]
set_option maxHeartbeats 1000000 in
theorem yio (h:List Sl) (hl:h.length≤1048576) (hi : ∀ x∈h,slI x):RUN T zna [.sl 2 (zbv h)]=some ([.own 2 (zbv (zd2 h).1),bv (zd2 h).2],[]):=by
 obtain ⟨R,hR⟩ : ∃ R,R=zd2 h:=⟨_,rfl⟩
 have hR':R=match ze9 ⟨0,0⟩ h with
  | some l=>(l,true)
  | none=>([],false):=by rw [hR]; rfl
 rw [← hR]
 clear hR
 have hr0:zan 16 0=true:=by decide
 have hr1:zan 16 1=true:=by decide
 refine zal z2g rfl ?_
 simp [-getElem?_pos,zts,ztt,hr0]
 refine za3 (fun n st => ∃ (i o e:Nat) (m:List Sl) (s:Sl),i+n=h.length∧m.length=i∧slI s∧ze9 ⟨0,0⟩ h=(ze9 s (h.drop i)).map (m ++ ·)∧st.V 4 = .ref o none e 0 m.length∧st.V 5 = .ptr 1 none 0 0 0∧st.V 12 = .sl 2 (zbv h)∧st.V 13=iv h.length∧st.V 14=iv i∧¬ o=1∧o<st.nx∧1<st.nx∧st.S o=some (.row 2 (zbv m))∧st.S 1=some (.box [iv s.n,iv s.g])) ?_ h.length _ ⟨0,0,0,[],⟨0,0⟩,by omega,rfl,z0l,by simp,by simp,by simp,by simp,by simp,by simp,by simp,by simp,by simp,by simp [zbv],by simp⟩
 rintro n st ⟨i,o,ep,m,s,hin,hm,hs,hp,v4,v5,v12,v13,v14,ho1,hox,h1x,hSo,hS1⟩
 obtain ⟨x1,x2,x3,x4⟩:=fr hox
 obtain ⟨z1,z2,z3,z4⟩:=fr h1x
 obtain ⟨a1,a2,a3,a4⟩:=fr (show o<st.nx+1 by omega)
 obtain ⟨b1,b2,b3,b4⟩:=fr (show o<st.nx+2 by omega)
 obtain ⟨c1,c2,c3,c4⟩:=fr (show 1<st.nx+1 by omega)
 obtain ⟨d1,d2,d3,d4⟩:=fr (show 1<st.nx+2 by omega)
 have ho2 : ¬ 1=o:=fun e=>ho1 e.symm
 have hn0 : ¬ st.nx=0:=by omega
 have hn1 : ¬ 1=st.nx+1:=by omega
 by_cases hlt:i<h.length
 ·obtain ⟨x,hx⟩ : ∃ x,h[i]?=some x:=⟨_,List.getElem?_eq_getElem hlt⟩
  have hx':=zw5 hx
  have hws:=wS hlt (by omega:h.length≤9223372036854775807)
  have hr16:zan 16 (m.length+1)=true:=by simp [zan]; omega
  have e1:=zx3 s x hs (hi x (List.mem_of_getElem? hx))
  have hpi:=zrm (b:=x) hs
  rw [ym5 hx] at hp
  generalize zcg s x=p at *
  obtain ⟨⟨pn,pg⟩,pb⟩:=p
  simp only [slc] at e1 hp hpi
  cases pb with
  | false =>
   rw [if_neg (by simp)] at hp
   rw [hp] at hR'
   subst hR'
   simp [-getElem?_pos,ztr,v4,v5,v12,v13,v14,hlt,hx',hSo,hS1,e1,ho1,ho2,hn0,x1,x2,x3,x4,z1,z2,z3,z4,a1,a2,a3,a4,b1,b2,b3,b4,c1,c2,c3,c4,d1,d2,d3,d4]
   simp [zbv]
  | true =>
   rw [if_pos rfl] at hp
   have hsn:=ykj m ⟨pn,pg⟩
   simp only at hsn
   simp [-getElem?_pos,ztr,v4,v5,v12,v13,v14,hlt,hx',hSo,hS1,hr1,hr16,hws,hsn,e1,ho1,ho2,hn0,x1,x2,x3,x4,z1,z2,z3,z4,a1,a2,a3,a4,b1,b2,b3,b4,c1,c2,c3,c4,d1,d2,d3,d4]
   exact zaq (n-1) (by omega) ⟨i+1,st.nx+1+2,st.ep,m++[⟨pn,pg⟩],⟨pn,pg⟩,by omega,by simp [hm],hpi,by rw [hp]; cases ze9 ⟨pn,pg⟩ (h.drop (i+1)) <;> simp,by simp,by simp [v5],by simp [v12],by simp [v13],by simp,by omega,by simp,by simp <;> omega,by simp [hn0],by simp [hn0]⟩
 ·rw [List.drop_eq_nil_of_le (by omega),ze9] at hp
  simp only [Option.map_some,List.append_nil] at hp
  rw [hp] at hR'
  subst hR'
  simp [-getElem?_pos,ztr,v4,v13,v14,hlt,hSo]
theorem yki (m:List Cnd) (x:Cnd):zc8 m++[[iv x.f,iv x.b,iv x.a.n,iv x.a.g,iv x.z.n,iv x.z.g]]=zc8 (m++[x]):=by simp [zc8,cnd]
set_option maxHeartbeats 4000000 in
set_option maxRecDepth 4000 in
theorem yip (q:Bool) (H:List (List Sl)) (least:Int) (hH:H.length≤16) (hl : ∀ l∈H,l.length≤16) (hi : ∀ l∈H,∀ x∈l,slI x):RUN T zmr [.sl 1 (rss q H),iv least]=some ([.own 6 (zc8 (zgv H least))],[]):=by
 obtain ⟨R,hR⟩ : ∃ R,R=zgv H least:=⟨_,rfl⟩
 have hR':R=(zfl least 0 H []).getD []:=hR
 rw [← hR]
 clear hR
 have hr0:zan 48 0=true:=by decide
 have hr1:zan 48 1=true:=by decide
 refine zal z1i rfl ?_
 simp [-getElem?_pos,zsn,zso,hr0]
 refine za3 (fun n st => ∃ (i o e:Nat) (acc:List Cnd),i+n=H.length∧acc.length≤16*i∧zfl least i (H.drop i) acc=zfl least 0 H []∧st.V 1=iv least∧st.V 5 = .ref o none e 0 acc.length∧st.V 14 = .sl 1 (rss q H)∧st.V 15=iv H.length∧st.V 16=iv i∧o<st.nx∧st.S o=some (.row 6 (zc8 acc))) ?_ H.length _ ⟨0,0,0,[],by omega,by simp,by simp,by simp,by simp,by simp,by simp,by simp,by simp,by simp [zc8]⟩
 rintro n st ⟨i,o,ep,acc,hin,hacc,hF,v1,v5,v14,v15,v16,hox,hSo⟩
 obtain ⟨x1,x2,x3,x4⟩:=fr hox
 by_cases hlt:i<H.length
 ·obtain ⟨l,hx⟩ : ∃ x,H[i]?=some x:=⟨_,List.getElem?_eq_getElem hlt⟩
  have hx':=ylt (q:=q) hx
  have hlm:=List.mem_of_getElem? hx
  have hws:=wS hlt (by omega:H.length≤9223372036854775807)
  have hll:=hl l hlm
  have e1:=yio l (by omega) (hi l hlm)
  obtain ⟨p1,p2,p3⟩:=z6g l
  rw [z9f acc hx] at hF
  generalize zd2 l=p at *
  obtain ⟨sums,pb⟩:=p
  simp only at e1 p1 p2 p3 hF
  cases pb with
  | false =>
   rw [if_neg (by simp)] at hF
   rw [← hF] at hR'
   subst hR'
   simp [-getElem?_pos,zsm,v1,v5,v14,v15,v16,hlt,hx',hSo,e1,x1,x2,x3,x4]
   simp [zc8]
  | true =>
   rw [if_pos rfl] at hF
   have p3:=p3 rfl
   simp [-getElem?_pos,zsm,v1,v5,v14,v15,v16,hlt,hx',hSo,e1,x1,x2,x3,x4]
   obtain ⟨tgt,htgt⟩ : ∃ t,t=zfn i (zlh sums) least 0 sums acc:=⟨_,rfl⟩
   rw [← htgt] at hF
   obtain ⟨p,hpe⟩ : ∃ p,p=st.nx:=⟨_,rfl⟩
   refine za3 (fun n' s => ∃ (b o' e':Nat) (acc':List Cnd),b+n'=sums.length∧acc'.length≤16*i+b∧zfn i (zlh sums) least b (sums.drop b) acc'=tgt∧s.V 1=iv least∧s.V 5 = .ref o' none e' 0 acc'.length∧s.V 6=iv i∧s.V 8 = .ref p none st.ep 0 sums.length∧s.V 10=iv b∧s.V 14 = .sl 1 (rss q H)∧s.V 15=iv H.length∧s.V 16=iv i∧¬ o'=p∧o'<s.nx∧p<s.nx∧s.S o'=some (.row 6 (zc8 acc'))∧s.S p=some (.row 2 (zbv sums))) ?_ sums.length _ ⟨0,o,ep,acc,by omega,by omega,by rw [htgt]; simp,by simp [v1],by simp [v5],by simp,by simp [hpe],by simp,by simp [v14],by simp [v15],by simp [v16],by omega,by simp; omega,by simp; omega,by simp [x1,x2,x3,x4,hSo],by simp [hpe]⟩
   clear v1 v5 v14 v15 v16 hox hSo x1 x2 x3 x4
   generalize st.ep=ep2
   rintro n' s ⟨b,o',e',acc',hbn,hacc',hB,v1,v5,v6,v8,v10,v14,v15,v16,hop,hox,hpx,hSo,hSp⟩
   obtain ⟨x1,x2,x3,x4⟩:=fr hox
   obtain ⟨z1,z2,z3,z4⟩:=fr hpx
   obtain ⟨a1,a2,a3,a4⟩:=fr (show o'<s.nx+1 by omega)
   obtain ⟨c1,c2,c3,c4⟩:=fr (show p<s.nx+1 by omega)
   have hpo : ¬ p=o':=fun e=>hop e.symm
   by_cases hb:b+1<sums.length
   ·obtain ⟨x,hx⟩ : ∃ x,sums[b]?=some x:=⟨_,List.getElem?_eq_getElem (by omega)⟩
    obtain ⟨y,hy⟩ : ∃ x,sums[sums.length-1]?=some x:=⟨_,List.getElem?_eq_getElem (by omega)⟩
    have hxs:=zw5 hx
    have hys:=zw5 hy
    have hly:=yp7 hy
    have w1:IntKind.i64.wrap ((sums.length:Int)-1)=((sums.length-1:Nat):Int):=by rw [w64 (by omega) (by omega)]; omega
    have w2:=w64 (x:=(b:Int)+1) (by omega) (by omega)
    have k1:b<sums.length-1:=by omega
    have k2:b<sums.length:=by omega
    have k3:sums.length-1<sums.length:=by omega
    have hr48:zan 48 (acc'.length+1)=true:=by simp [zan]; omega
    have e2:=yin y x (p2 y (List.mem_of_getElem? hy)) (p2 x (List.mem_of_getElem? hx))
    rw [yap acc' hx hb,hly] at hB
    generalize zgi y x=d at *
    obtain ⟨⟨dn,dg⟩,db⟩:=d
    simp only [slc] at e2 hB
    cases db with
    | false =>
     rw [if_neg (by simp)] at hB
     rw [← hB] at hF
     simp only at hF
     rw [← hF] at hR'
     simp only [Option.getD_none] at hR'
     subst hR'
     simp [-getElem?_pos,zn6,v1,v5,v6,v8,v10,v14,v15,v16,hSo,hSp,hxs,hys,w1,k1,k2,k3,e2,hop,hpo,x1,x2,x3,x4,z1,z2,z3,z4]
     simp [zc8]
    | true =>
     rw [if_pos rfl] at hB
     by_cases g1:least≤x.n
     ·by_cases g2:least≤dn
      ·rw [if_pos ⟨g1,g2⟩] at hB
       have hsn:=yki acc' ⟨i,b,x,⟨dn,dg⟩⟩
       simp only at hsn
       simp [-getElem?_pos,zn6,v1,v5,v6,v8,v10,v14,v15,v16,hSo,hSp,hxs,hys,w1,w2,k1,k2,k3,e2,g1,g2,hr1,hr48,hsn,hop,hpo,x1,x2,x3,x4,z1,z2,z3,z4,a1,a2,a3,a4,c1,c2,c3,c4]
       refine zaq (n'-1) (by omega) ⟨b+1,s.nx+2,s.ep,acc'++[⟨i,b,x,⟨dn,dg⟩⟩],by omega,by simp; omega,by rw [hly]; exact hB,by simp [v1],by simp,by simp [v6],by simp [v8],by simp,by simp [v14],by simp [v15],by simp [v16],by omega,by simp,by simp; omega,by simp,by simp [hop,hpo,x1,x2,x3,x4,z1,z2,z3,z4,hSp]⟩
      ·rw [if_neg (fun h=>g2 h.2)] at hB
       simp [-getElem?_pos,zn6,v1,v5,v6,v8,v10,v14,v15,v16,hSo,hSp,hxs,hys,w1,w2,k1,k2,k3,e2,g1,g2,hop,hpo,x1,x2,x3,x4,z1,z2,z3,z4]
       refine zaq (n'-1) (by omega) ⟨b+1,o',e',acc',by omega,by omega,by rw [hly]; exact hB,by simp [v1],by simp [v5],by simp [v6],by simp [v8],by simp,by simp [v14],by simp [v15],by simp [v16],hop,by simp; omega,by simp; omega,by simp [x1,x2,x3,x4,hSo],by simp [z1,z2,z3,z4,hSp]⟩
     ·rw [if_neg (fun h=>g1 h.1)] at hB
      simp [-getElem?_pos,zn6,v1,v5,v6,v8,v10,v14,v15,v16,hSo,hSp,hxs,hys,w1,w2,k1,k2,k3,e2,g1,hop,hpo,x1,x2,x3,x4,z1,z2,z3,z4]
      refine zaq (n'-1) (by omega) ⟨b+1,o',e',acc',by omega,by omega,by rw [hly]; exact hB,by simp [v1],by simp [v5],by simp [v6],by simp [v8],by simp,by simp [v14],by simp [v15],by simp [v16],hop,by simp; omega,by simp; omega,by simp [x1,x2,x3,x4,hSo],by simp [z1,z2,z3,z4,hSp]⟩
   ·rw [zya acc' hb] at hB
    rw [← hB] at hF
    simp only at hF
    have w1:IntKind.i64.wrap ((sums.length:Int)-1)=(sums.length:Int)-1:=w64 (by omega) (by omega)
    have k1 : ¬ (b:Int)<(sums.length:Int)-1:=by omega
    simp [-getElem?_pos,zn6,v8,v10,v16,hSp,w1,k1,hws]
    exact zaq (n-1) (by omega) ⟨i+1,o',e',acc',by omega,by omega,hF,by simp [v1],by simp [v5],by simp [v14],by simp [v15],by simp,by simp [hox],by simp [hSo]⟩
 ·rw [List.drop_eq_nil_of_le (by omega),zfl] at hF
  rw [← hF] at hR'
  simp only [Option.getD_some] at hR'
  subst hR'
  simp [-getElem?_pos,zsm,v5,v15,v16,hlt,hSo]
def zb9 (c v:List (List Int)) (g:List Int) (cfg:Cfg) (rows:List Int) (b:Bd):Cnd×Bool:=if zcr c v g cfg=true then (if (zcj c v g rows).2=true then zez cfg b (zgv (zcj c v g rows).1 cfg.rw) else (zpb,false)) else (zpb,false)
theorem z8k {b g:List Int} : ∀ (rows:List Int) (h h':List Sl),(∀ x∈h,slI x)→zev b g rows h=some h'→∀ x∈h',slI x
 | [],h,h',hh,e=>by simp [zev] at e; subst e; exact hh
 | r::rs,h,h',hh,e=>by
  simp only [zev] at e
  split at e
  ·split at e
   ·rename_i s hs
    split at e
    ·refine z8k rs _ _ (fun x hx => ?_) e
     rcases List.mem_or_eq_of_mem_set hx with h1 | h1
     ·exact hh x h1
     ·subst h1
      obtain ⟨_,_,h3,_⟩:=zjj hs
      exact zrm (hh _ (List.mem_of_getElem? h3))
    ·cases e
   ·cases e
  ·cases e
theorem yli (b g rows:List Int) (k:Int) : ∀ x∈(zdz b g rows k).1,slI x:=by
 unfold zdz
 split
 ·cases h:zev b g rows (List.replicate k.toNat ⟨0,0⟩) with
  | none=>simp
  | some h'=>exact z8k _ _ _ (fun x hx=>by rw [List.eq_of_mem_replicate hx]; exact z0l) h
 ·simp
theorem z9w {g rows:List Int} : ∀ (c v:List (List Int)) (H:List (List Sl)),zcc g rows c v=some H→∀ l∈H,∀ x∈l,slI x
 | [],v,H,h=>by simp [zcc] at h; subst h; simp
 | x::c,[],H,h=>by simp [zcc] at h; subst h; simp
 | x::c,y::v,H,h=>by
  simp only [zcc] at h
  split at h
  ·simp only [Option.map_eq_some_iff] at h
   obtain ⟨H',h1,rfl⟩:=h
   intro l hl
   rcases List.mem_cons.mp hl with e | e
   ·subst e; exact yli _ _ _ _
   ·exact z9w c v H' h1 l e
  ·cases h
theorem ypm (c v:List (List Int)) (g rows:List Int) : ∀ l∈(zcj c v g rows).1,∀ x∈l,slI x:=by
 unfold zcj
 split
 ·cases h:zcc g rows c v with
  | none=>simp
  | some H=>exact z9w c v H h
 ·simp
theorem z0h (c v:List (List Int)) (g rows:List Int):(zcj c v g rows).1.length≤4:=by
 by_cases h:zde c v=true
 ·have:=(zrq c v g rows).1
  have:=z7o h
  omega
 ·unfold zcj
  rw [if_neg h]; simp
theorem yj7 (c v:List (List Int)) (g rows:List Int) (least:Int):(zgv (zcj c v g rows).1 least).length≤1048576∧∀ x∈zgv (zcj c v g rows).1 least,zgw x:=by
 have h1:=z0h c v g rows
 have h2:=(zrq c v g rows).2
 obtain ⟨h3,h4⟩:=z8n (least:=least) h2
 exact ⟨by omega,fun x hx=>z9x (by omega) (fun l hl=>Nat.le_trans (h2 l hl) (by omega)) (h4 x hx)⟩
set_option maxHeartbeats 1000000 in
theorem yiq (q:Bool) (c v:List (List Int)) (g:List Int) (cfg:Cfg) (rows:List Int) (b:Bd) (hc : ∀ l∈c,l.length≤1048576) (hv : ∀ l∈v,l.length≤1048576) (hg:g.length≤1048576) (hr:rows.length≤1048576) (hs:cfg.sg.length≤1048576) (hgi : ∀ x∈g,inI x):RUN T zmg [.agg [.sl 1 (rws q c),.sl 1 (rws q v)],.sl 1 (zac g),cfS cfg,.sl 1 (zac rows),.agg (bnd b)]=some ([.agg (cnd (zb9 c v g cfg rows b).1),bv (zb9 c v g cfg rows b).2],[]):=by
 have e1:=zxz q c v g cfg (fun l hl=>Nat.le_trans (hc l hl) (by omega)) (fun l hl=>Nat.le_trans (hv l hl) (by omega)) (by omega) (by omega)
 have e2:=yh7 q c v g rows hc hv hg hr hgi
 obtain ⟨f1,f2⟩:=yj7 c v g rows cfg.rw
 have e3:=yip true (zcj c v g rows).1 cfg.rw (by have:=z0h c v g rows; omega) (fun l hl=>by have:=(zrq c v g rows).2 l hl; omega) (ypm c v g rows)
 have e4:=yik cfg b (zgv (zcj c v g rows).1 cfg.rw) f1 hs f2
 unfold zb9
 simp only [ze1,bnd] at e1 e4
 generalize zcr c v g cfg=t at *
 generalize zcj c v g rows=H at *
 obtain ⟨H,hb⟩:=H
 simp only at e2 e3 e4 ⊢
 generalize zez cfg b (zgv H cfg.rw)=r at *
 generalize zgv H cfg.rw=L at *
 obtain ⟨r,rb⟩:=r
 simp only [cnd] at e4 ⊢
 refine zal z03 rfl ?_
 cases t with
 | false=>simp [-getElem?_pos,zn2,zn3,bnd,e1,zpb]
 | true =>
  cases hb with
  | false=>simp [-getElem?_pos,zn2,zn3,bnd,e1,e2,zpb]
  | true =>
   simp [-getElem?_pos,zn2,zn3,bnd,e1,e2,e3,e4]
def zg3 (g:List Int) (rows:List Int):Sl:=⟨rows.length,(rows.map fun r=>(atI g r).getD 0).sum⟩
def zys (bins:List Int) (b r:Int):Bool:=match atI bins r with
 | some x=>decide (x≤b)
 | none=>false
def zze (bins:List Int) (b r:Int):Bool:=match atI bins r with
 | some x => !decide (x≤b)
 | none=>false
def zlx (bins rows:List Int) (b:Int):List Int:=rows.filter (zys bins b)
def zme (bins rows:List Int) (b:Int):List Int:=rows.filter (zze bins b)
structure Pnd where
 r:List Int
 b:Bd
 l:Int
def zhn (c v:List (List Int)) (cfg:Cfg) (x:Pnd) (k:Cnd):Pnd:=⟨zlx ((atI v k.f).getD []) x.r k.b,(zjt (ze3 cfg k.f) x.b (zci cfg x.b k).1 (zci cfg x.b k).2.1).1,x.l+1⟩
def zh1 (c v:List (List Int)) (cfg:Cfg) (x:Pnd) (k:Cnd):Pnd:=⟨zme ((atI v k.f).getD []) x.r k.b,(zjt (ze3 cfg k.f) x.b (zci cfg x.b k).1 (zci cfg x.b k).2.1).2,x.l+1⟩
def zej (g:List Int) (cfg:Cfg) (x:Pnd):Nd:=⟨-1,0,0,0,(zdt (zg3 g x.r) cfg.la x.b).1⟩
def zrb (c:List (List Int)) (k:Cnd) (n:Nat):Nd:=⟨k.f,(atI ((atI c k.f).getD []) k.b).getD 0,n,n+1,0⟩
def goes (c v:List (List Int)) (g:List Int) (cfg:Cfg) (x:Pnd):Bool:=decide (x.l<cfg.de) && (zb9 c v g cfg x.r x.b).2
def zcx (c v:List (List Int)) (g:List Int) (cfg:Cfg):Nat→List Pnd→Nat→List Nd→List Nd
 | 0,_,_,out=>out
 | n+1,q,i,out=>match q[i]? with
  | none=>out
  | some x=>if goes c v g cfg x=true then zcx c v g cfg n (q++[zhn c v cfg x (zb9 c v g cfg x.r x.b).1,zh1 c v cfg x (zb9 c v g cfg x.r x.b).1]) (i+1) (out++[zrb c (zb9 c v g cfg x.r x.b).1 q.length]) else zcx c v g cfg n q (i+1) (out++[zej g cfg x])
def zht:Bd:=⟨-1099511627776,1099511627776⟩
def zd0 (g:List Int):Pnd:=⟨(List.range g.length).map fun (i:Nat)=>(i:Int),zht,0⟩
def zeo (c v:List (List Int)) (g:List Int) (cfg:Cfg):List Nd×Bool:=if zcr c v g cfg=true then (zcx c v g cfg 32 [zd0 g] 0 [],true) else ([],false)
def pot (d:Int) (x:Pnd):Nat:=2 ^ (d+1-x.l).toNat-1
def zhs (d:Int) (l:List Pnd):Nat:=(l.map (pot d)).sum
theorem zwc (d:Int) (x:Pnd) (l:List Pnd):zhs d (x::l)=pot d x+zhs d l:=by simp [zhs]
theorem ynn (d:Int) (l m:List Pnd):zhs d (l++m)=zhs d l+zhs d m:=by simp [zhs]
theorem yly {d:Int} {x:Pnd} (h:x.l≤d):1≤pot d x:=by
 unfold pot
 obtain ⟨k,hk⟩ : ∃ k,(d+1-x.l).toNat=k+1:=⟨(d-x.l).toNat,by omega⟩
 rw [hk,Nat.pow_succ]
 have:=Nat.one_le_two_pow (n:=k)
 omega
theorem yld {d:Int} {x y z:Pnd} (h:x.l<d) (hy:y.l=x.l+1) (hz:z.l=x.l+1):pot d x=pot d y+pot d z+1:=by
 unfold pot
 rw [hy,hz]
 obtain ⟨k,hk⟩ : ∃ k,(d+1-x.l).toNat=k+1:=⟨(d-x.l).toNat,by omega⟩
 have hk2:(d+1-(x.l+1)).toNat=k:=by omega
 rw [hk,hk2,Nat.pow_succ]
 have:=Nat.one_le_two_pow (n:=k)
 omega
def zw8 (n:Nat) (d:Int) (x:Pnd):Prop:=(∀ r∈x.r,0≤r∧r<n)∧x.r.length≤n∧0≤x.l∧x.l≤d
theorem z5j {bins rows:List Int} {b r:Int}:(r∈zlx bins rows b→r∈rows)∧(r∈zme bins rows b→r∈rows):=⟨fun h=>(List.mem_filter.mp h).1,fun h=>(List.mem_filter.mp h).1⟩
theorem yn1 {n:Nat} {c v:List (List Int)} {cfg:Cfg} {x:Pnd} {k:Cnd} (h:zw8 n cfg.de x) (hl:x.l<cfg.de):zw8 n cfg.de (zhn c v cfg x k)∧zw8 n cfg.de (zh1 c v cfg x k):=by
 obtain ⟨h1,h2,h3,h4⟩:=h
 refine ⟨⟨fun r hr=>h1 r (z5j.1 hr),Nat.le_trans (List.length_filter_le _ _) h2,?_,?_⟩,⟨fun r hr=>h1 r (z5j.2 hr),Nat.le_trans (List.length_filter_le _ _) h2,?_,?_⟩⟩
 ·show 0≤x.l+1; omega
 ·show x.l+1≤cfg.de; omega
 ·show 0≤x.l+1; omega
 ·show x.l+1≤cfg.de; omega
theorem zwk {c v:List (List Int)} {g:List Int} {cfg:Cfg} (h:zcr c v g cfg=true):zde c v=true∧zbr cfg=true∧g.length=zct v∧(∀ x∈g,-2199023255552≤x∧x≤2199023255552):=by
 unfold zcr at h
 simp only [Bool.and_eq_true,decide_eq_true_eq] at h
 exact ⟨h.1.1.1,h.1.1.2,by omega,fun x hx=>za6.mp (List.all_eq_true.mp h.2 x hx)⟩
theorem z9n {c v:List (List Int)} (h:zde c v=true):1≤zct v∧zct v≤40:=by
 unfold zde at h
 simp only [Bool.and_eq_true] at h
 have:=za6.mp h.1.2
 omega
theorem z6i {cfg:Cfg} (h:zbr cfg=true):(0≤cfg.de∧cfg.de≤4)∧cfg.sg.length≤4∧(1≤cfg.la∧cfg.la≤100):=by
 unfold zbr at h
 simp only [Bool.and_eq_true,decide_eq_true_eq] at h
 have h1:=za6.mp h.1.1.1.1.1.1.1.2
 have h2:=za6.mp h.1.1.1.1.1.2
 omega
theorem yqg {c v:List (List Int)} {g:List Int} {cfg:Cfg} {rows:List Int} {b:Bd} (h:(zb9 c v g cfg rows b).2=true):zow (zcj c v g rows).1 (zb9 c v g cfg rows b).1∧(zcj c v g rows).2=true:=by
 unfold zb9 at h ⊢
 split
 ·rename_i h1
  rw [if_pos h1] at h
  split
  ·rename_i h2
   rw [if_pos h2] at h
   obtain ⟨h3,_,_⟩:=yjc h
   exact ⟨(z8n (zrq c v g rows).2).2 _ h3,h2⟩
  ·rename_i h2
   rw [if_neg h2] at h; cases h
 ·rename_i h1
  rw [if_neg h1] at h; cases h
theorem yir:RUN T zmm []=some ([.agg (bnd zht)],[]):=by
 refine zal z1b rfl ?_
 simp [zr9,zsa,bnd,zht]
theorem yis:RUN T zmx []=some ([.agg (bnd zht)],[]):=by
 refine zal z1x rfl ?_
 simp [zs5,zs6,bnd,zht]
def upl (n:Nat):List Int:=(List.range n).map fun (i:Nat)=>(i:Int)
theorem z8s (n:Nat):upl n++[(n:Int)]=upl (n+1):=by simp [upl,List.range_succ]
@[simp] theorem y3n (n:Nat):(upl n).length=n:=by simp [upl]
@[simp] theorem y3e:upl 0=[]:=rfl
theorem yit (n:Nat) (h1:1≤n) (h2:n≤40):RUN T zmw [iv n]=some ([.own 1 (zac (upl n))],[]):=by
 have e:=zdb n 1 40
 rw [za6.mpr (by omega)] at e
 have hr0:zan 8 0=true:=by decide
 have hr1:zan 8 1=true:=by decide
 refine zal z1w rfl ?_
 simp [-getElem?_pos,zs3,zs4,-zb7,e,hr0]
 refine za3 (fun k st => ∃ (i o e:Nat),i+k=n∧st.V 3 = .ref o none e 0 i∧st.V 10=iv n∧st.V 11=iv i∧o<st.nx∧st.S o=some (.row 1 (zac (upl i)))) ?_ n _ ⟨0,0,0,by omega,by simp⟩
 rintro k st ⟨i,o,ep,hi,v3,v10,v11,hox,hSo⟩
 obtain ⟨x1,x2,x3,x4⟩:=fr hox
 by_cases hlt:i<n
 ·have hws:=wS hlt (by omega:n≤9223372036854775807)
  have hr8:=zdc (n:=i+1) (by omega)
  have hsn:zac (upl i)++[[iv (i:Int)]]=zac (upl (i+1)):=by rw [zc0,z8s]
  simp [-getElem?_pos,zxm,v3,v10,v11,hSo,hlt,hws,hr1,hr8,hsn,x1,x2,x3,x4]
  exact zaq (k-1) (by omega) ⟨i+1,st.nx+1,st.ep,by omega,by simp,by simp [v10],by simp,by simp,by simp⟩
 ·have hin:i=n:=by omega
  subst hin
  simp [-getElem?_pos,zxm,v3,v10,v11,hSo,hlt]
theorem yiu (n:Nat) (h2:n≤40):RUN T zml [iv n]=some ([.own 1 (zac (upl n))],[]):=by
 have hr0:zan 8 0=true:=by decide
 have hr1:zan 8 1=true:=by decide
 refine zal z1a rfl ?_
 simp [-getElem?_pos,zr7,zr8,hr0]
 refine za3 (fun k st => ∃ (i o e:Nat),i+k=n∧st.V 0=iv n∧st.V 3 = .ref o none e 0 i∧st.V 4=iv i∧o<st.nx∧st.S o=some (.row 1 (zac (upl i)))) ?_ n _ ⟨0,0,0,by omega,by simp⟩
 rintro k st ⟨i,o,ep,hi,v0,v3,v4,hox,hSo⟩
 obtain ⟨x1,x2,x3,x4⟩:=fr hox
 have h3:(n:Int)≤40:=by omega
 by_cases hlt:i<n
 ·have hws:=wS hlt (by omega:n≤9223372036854775807)
  have hr8:=zdc (n:=i+1) (by omega)
  have hsn:zac (upl i)++[[iv (i:Int)]]=zac (upl (i+1)):=by rw [zc0,z8s]
  simp [-getElem?_pos,zxk,v0,v3,v4,hSo,hlt,h3,hws,hr1,hr8,hsn,x1,x2,x3,x4]
  exact zaq (k-1) (by omega) ⟨i+1,st.nx+1,st.ep,by omega,by simp [v0],by simp,by simp,by simp,by simp⟩
 ·have hin:i=n:=by omega
  subst hin
  simp [-getElem?_pos,zxk,v0,v3,v4,hSo,hlt]
def zee (g rows:List Int) (i:Nat):Int:=((rows.take i).map fun r=>(atI g r).getD 0).sum
theorem z5f {g rows:List Int} {i:Nat} {r x:Int} (hr:rows[i]?=some r) (hx:atI g r=some x):zee g rows (i+1)=zee g rows i+x:=by
 unfold zee
 rw [List.take_succ,hr]
 simp [hx]
theorem zw6 {g rows:List Int} (hg : ∀ x∈g,-2199023255552≤x∧x≤2199023255552) : ∀ i:Nat,i≤rows.length → -2199023255552*(i:Int)≤zee g rows i∧zee g rows i≤2199023255552*(i:Int)
 | 0,_=>by simp [zee]
 | i+1,h=>by
  have ih:=zw6 (rows:=rows) hg i (by omega)
  obtain ⟨r,hr⟩ : ∃ r,rows[i]?=some r:=⟨_,List.getElem?_eq_getElem (by omega)⟩
  have e:zee g rows (i+1)=zee g rows i+(atI g r).getD 0:=by
   unfold zee
   rw [List.take_succ,hr]
   simp
  rw [e]
  cases hx:atI g r with
  | none=>simp only [Option.getD_none]; omega
  | some x =>
   obtain ⟨_,_,h3,_⟩:=zjj hx
   have:=hg x (List.mem_of_getElem? h3)
   simp only [Option.getD_some]; omega
theorem zz4 (g rows:List Int):zg3 g rows=⟨rows.length,zee g rows rows.length⟩:=by simp [zg3,zee]
theorem z6q {g rows:List Int} (hg : ∀ x∈g,-2199023255552≤x∧x≤2199023255552) (hl:rows.length≤1048576):slI (zg3 g rows):=by
 rw [zz4]
 have:=zw6 (rows:=rows) hg rows.length (by omega)
 exact ⟨by unfold inI; simp only; omega,by unfold inI; simp only; omega⟩
theorem yiv (g rows:List Int) (hg : ∀ x∈g,-2199023255552≤x∧x≤2199023255552) (hr : ∀ r∈rows,0≤r∧r<g.length) (hl:rows.length≤1048576):RUN T zmy [.sl 1 (zac g),.sl 1 (zac rows)]=some ([.agg (slc (zg3 g rows))],[]):=by
 rw [zz4]
 refine zal z1z rfl ?_
 simp [-getElem?_pos,zs7,zs8]
 refine za3 (fun k st => ∃ i:Nat,i+k=rows.length∧st.V 0 = .sl 1 (zac g)∧st.V 4 = .ptr 0 none 0 0 0∧st.V 5 = .ptr 1 none 0 0 0∧st.V 11 = .sl 1 (zac rows)∧st.V 12=iv rows.length∧st.V 13=iv i∧1<st.nx∧st.S 1=some (.box [iv rows.length,iv (zee g rows i)])∧st.S 0=some (.box [iv 0,iv 0])) ?_ rows.length _ ⟨0,by omega,by simp,by simp,by simp,by simp,by simp,by simp,by simp,by simp [zee],by simp⟩
 rintro k st ⟨i,hi,v0,v4,v5,v11,v12,v13,h1x,hS1,hS0⟩
 obtain ⟨z1,z2,z3,z4⟩:=fr h1x
 by_cases hlt:i<rows.length
 ·obtain ⟨r,hrr⟩ : ∃ r,rows[i]?=some r:=⟨_,List.getElem?_eq_getElem hlt⟩
  obtain ⟨r0,r1⟩:=hr r (List.mem_of_getElem? hrr)
  obtain ⟨rn,rfl⟩ : ∃ n:Nat,r=n:=⟨r.toNat,by omega⟩
  obtain ⟨x,hx⟩ : ∃ x,g[rn]?=some x:=⟨_,List.getElem?_eq_getElem (by omega)⟩
  have hrn:rn<g.length:=by omega
  have hr':=zbj hrr
  have hx':=zbj hx
  have hws:=wS hlt (by omega:rows.length≤9223372036854775807)
  have hs:=z5f (g:=g) hrr (x:=x) (by unfold atI; rw [if_pos r0]; simpa using hx)
  have b1:=zw6 (rows:=rows) hg (i+1) (by omega)
  rw [hs] at b1
  have hw:=w64 (x:=zee g rows i+x) (by omega) (by omega)
  simp [-getElem?_pos,zxn,v0,v4,v5,v11,v12,v13,hS1,hS0,hlt,hr',hx',hrn,hw,hws,z1,z2,z3,z4]
  exact zaq (k-1) (by omega) ⟨i+1,by omega,by simp [v0],by simp [v4],by simp [v5],by simp [v11],by simp [v12],by simp,by simp [h1x],by simp [hs],by simp [hS0]⟩
 ·have hin:i=rows.length:=by omega
  subst hin
  simp [-getElem?_pos,zxn,v4,v5,v12,v13,hS1,hS0,slc]
set_option maxHeartbeats 1000000 in
theorem yiw (bins rows:List Int) (b:Int) (hb:bins.length≤1048576) (hl:rows.length≤1048576):RUN T zm0 [.sl 1 (zac bins),.sl 1 (zac rows),iv b]=some ([.own 1 (zac (zlx bins rows b)),.own 1 (zac (zme bins rows b))],[]):=by
 have hr0:zan 8 0=true:=by decide
 have hr1:zan 8 1=true:=by decide
 have w1:=w64 (x:=(bins.length:Int)-1) (by omega) (by omega)
 refine zal z11 rfl ?_
 simp [-getElem?_pos,zs9,zta,hr0]
 refine za3 (fun k st => ∃ (i o e p e2:Nat) (m l:List Int),i+k=rows.length∧m.length≤i∧l.length≤i∧m++(rows.drop i).filter (zys bins b)=zlx bins rows b∧l++(rows.drop i).filter (zze bins b)=zme bins rows b∧st.V 0 = .sl 1 (zac bins)∧st.V 2=iv b∧st.V 8 = .ref o none e 0 m.length∧st.V 9 = .ref p none e2 0 l.length∧st.V 14 = .sl 1 (zac rows)∧st.V 15=iv rows.length∧st.V 16=iv i∧¬ o=p∧o<st.nx∧p<st.nx∧st.S o=some (.row 1 (zac m))∧st.S p=some (.row 1 (zac l))) ?_ rows.length _ ⟨0,0,0,1,0,[],[],by omega,by simp,by simp,by simp [zlx],by simp [zme],by simp⟩
 rintro k st ⟨i,o,e,p,e2,m,l,hi,hml,hll,hm,hl2,v0,v2,v8,v9,v14,v15,v16,hop,hox,hpx,hSo,hSp⟩
 obtain ⟨x1,x2,x3,x4⟩:=fr hox
 obtain ⟨z1,z2,z3,z4⟩:=fr hpx
 have hpo : ¬ p=o:=fun e=>hop e.symm
 by_cases hlt:i<rows.length
 ·obtain ⟨r,hrr⟩ : ∃ r,rows[i]?=some r:=⟨_,List.getElem?_eq_getElem hlt⟩
  have hr':=zbj hrr
  have hws:=wS hlt (by omega:rows.length≤9223372036854775807)
  have e1:=zdb r 0 ((bins.length:Int)-1)
  rw [zgj hrr,List.filter_cons] at hm hl2
  have hB:zys bins b r=match atI bins r with
   | some x=>decide (x≤b)
   | none=>false:=rfl
  have hC:zze bins b r=match atI bins r with
   | some x => !decide (x≤b)
   | none=>false:=rfl
  have r1:=zdc (n:=m.length+1) (by omega)
  have r2:=zdc (n:=l.length+1) (by omega)
  have s1:=zc0 m r
  have s2:=zc0 l r
  cases hx:atI bins r with
  | none =>
   have hn:=zq5 hx
   rw [show zak r 0 ((bins.length:Int)-1)=false from by
    cases hw:zak r 0 ((bins.length:Int)-1) with
    | false=>rfl
    | true=>have:=za6.mp hw; omega] at e1
   rw [hx] at hB hC
   rw [hB] at hm
   rw [hC] at hl2
   simp [-getElem?_pos,zp3,-zb7,v0,v2,v8,v9,v14,v15,v16,hSo,hSp,hlt,hr',hws,w1,e1]
   exact zaq (k-1) (by omega) ⟨i+1,o,e,p,e2,m,l,by omega,by omega,by omega,by simpa using hm,by simpa using hl2,by simp [v0],by simp [v2],by simp [v8],by simp [v9],by simp [v14],by simp [v15],by simp,hop,by simp [hox],by simp [hpx],by simp [hSo],by simp [hSp]⟩
  | some x =>
   obtain ⟨rn,rfl,hbr,hbl⟩:=zjj hx
   rw [show zak rn 0 ((bins.length:Int)-1)=true from za6.mpr (by omega)] at e1
   rw [hx] at hB hC
   rw [hB] at hm
   rw [hC] at hl2
   have hb':=zbj hbr
   by_cases hc:x≤b
   ·have d1:decide (x≤b)=true:=decide_eq_true hc
    simp only [d1,if_true,Bool.not_true,Bool.false_eq_true,if_false] at hm hl2
    simp [-getElem?_pos,zp3,-zb7,v0,v2,v8,v9,v14,v15,v16,hSo,hSp,hlt,hr',hws,w1,e1,hb',hbl,hc,hr1,r1,s1,hop,hpo,x1,x2,x3,x4,z1,z2,z3,z4]
    exact zaq (k-1) (by omega) ⟨i+1,st.nx+1,st.ep,p,e2,m++[(rn:Int)],l,by omega,by simp; omega,by omega,by simpa using hm,hl2,by simp [v0],by simp [v2],by simp,by simp [v9],by simp [v14],by simp [v15],by simp,by omega,by simp,by simp; omega,by simp,by simp [hop,hpo,x1,x2,x3,x4,z1,z2,z3,z4,hSp]⟩
   ·have d1:decide (x≤b)=false:=decide_eq_false hc
    simp only [d1,if_true,Bool.not_false,Bool.false_eq_true,if_false] at hm hl2
    simp [-getElem?_pos,zp3,-zb7,v0,v2,v8,v9,v14,v15,v16,hSo,hSp,hlt,hr',hws,w1,e1,hb',hbl,hc,hr1,r2,s2,hop,hpo,x1,x2,x3,x4,z1,z2,z3,z4]
    exact zaq (k-1) (by omega) ⟨i+1,o,e,st.nx+1,st.ep,m,l++[(rn:Int)],by omega,by omega,by simp; omega,hm,by simpa using hl2,by simp [v0],by simp [v2],by simp [v8],by simp,by simp [v14],by simp [v15],by simp,by omega,by simp; omega,by simp,by simp [hop,hpo,x1,x2,x3,x4,z1,z2,z3,z4,hSo],by simp⟩
 ·rw [List.drop_eq_nil_of_le (by omega)] at hm hl2
  simp only [List.filter_nil,List.append_nil] at hm hl2
  subst hm hl2
  simp [-getElem?_pos,zp3,v8,v9,v14,v15,v16,hSo,hSp,hlt,hop,hpo]
def pnd (x:Pnd):List PV:=[.own 1 (zac x.r),iv x.b.lo,iv x.b.hi,iv x.l]
def zhe (l:List Pnd):List (List PV):=l.map pnd
@[simp] theorem ywg (l:List Pnd):(zhe l).length=l.length:=by simp [zhe]
theorem z67 {l:List Pnd} {i:Nat} {x:Pnd} (h:l[i]?=some x):(zhe l)[i]?=some [.own 1 (zac x.r),iv x.b.lo,iv x.b.hi,iv x.l]:=by simp [zhe,h,pnd]
theorem yq2 {l:List Pnd} {i:Nat} {x:Pnd} (h:l[i]?=some x):zbk (zhe l) i 0=some (1,zac x.r):=by simp [zbk,z67 h]
theorem ynf (l:List Pnd) (x y:Pnd):zhe l++[[.own 1 (zac x.r),iv x.b.lo,iv x.b.hi,iv x.l],[.own 1 (zac y.r),iv y.b.lo,iv y.b.hi,iv y.l]]=zhe (l++[x,y]):=by simp [zhe,pnd]
theorem zwh {α:Type} {l:List α} {i:Nat} {x:α} (h:l[i]?=some x):atI l (i:Int)=some x:=by
 unfold atI
 rw [if_pos (by omega)]
 simpa using h
theorem ylh {b g rows:List Int} {k:Int} (h:(zdz b g rows k).2=true):((zdz b g rows k).1.length:Int)=k:=by
 unfold zdz at h ⊢
 split
 ·rename_i hk
  rw [if_pos hk] at h
  have hk':=za6.mp hk
  cases e:zev b g rows (List.replicate k.toNat ⟨0,0⟩) with
  | none=>rw [e] at h; cases h
  | some h'=>have:=zzq _ _ _ e; simp at this; simp only; omega
 ·rename_i hk
  rw [if_neg hk] at h; cases h
theorem z98 {g rows:List Int} : ∀ (c v:List (List Int)) (H:List (List Sl)) (f:Nat) (h:List Sl),zcc g rows c v=some H→H[f]?=some h→∃ x y,c[f]?=some x∧v[f]?=some y∧h.length=x.length+1
 | [],v,H,f,h,e,hf=>by simp [zcc] at e; subst e; simp at hf
 | x::c,[],H,f,h,e,hf=>by simp [zcc] at e; subst e; simp at hf
 | x::c,y::v,H,f,h,e,hf=>by
  simp only [zcc] at e
  split at e
  ·rename_i hp
   simp only [Option.map_eq_some_iff] at e
   obtain ⟨H',h1,rfl⟩:=e
   cases f with
   | zero =>
    simp at hf
    subst hf
    have:=ylh hp
    exact ⟨x,y,rfl,rfl,by omega⟩
   | succ f =>
    simp at hf
    obtain ⟨x',y',h2,h3,h4⟩:=z98 c v H' f h h1 hf
    exact ⟨x',y',by simpa using h2,by simpa using h3,h4⟩
  ·cases e
theorem yn0 {c v:List (List Int)} {g rows:List Int} {f:Nat} {h:List Sl} (hb:(zcj c v g rows).2=true) (hf:(zcj c v g rows).1[f]?=some h) : ∃ x y,c[f]?=some x∧v[f]?=some y∧h.length=x.length+1:=by
 unfold zcj at hb hf
 split at hb
 ·rename_i hg
  rw [if_pos hg] at hf
  cases e:zcc g rows c v with
  | none=>rw [e] at hb; cases hb
  | some H=>rw [e] at hf; exact z98 c v H f h e hf
 ·cases hb
theorem yjn {c v:List (List Int)} {g:List Int} {cfg:Cfg} {rows:List Int} {b:Bd} (h:(zb9 c v g cfg rows b).2=true) : ∃ (f k:Nat) (x y:List Int) (z:Int),(zb9 c v g cfg rows b).1.f=f∧(zb9 c v g cfg rows b).1.b=k∧c[f]?=some x∧v[f]?=some y∧x[k]?=some z∧zgw (zb9 c v g cfg rows b).1:=by
 obtain ⟨h1,h2⟩:=yqg h
 have hI:=z9x (by have:=z0h c v g rows; omega) (fun l hl=>Nat.le_trans ((zrq c v g rows).2 l hl) (by omega)) h1
 obtain ⟨f,k,l,e1,e2,e3,e4,_,_⟩:=h1
 obtain ⟨x,y,hx,hy,hl⟩:=yn0 h2 e3
 exact ⟨f,k,x,y,x[k]'(by omega),e1,e2,hx,hy,List.getElem?_eq_getElem (by omega),hI⟩
theorem ym8 {x lo hi:Int} (h:lo≤hi):lo≤zfo x lo hi∧zfo x lo hi≤hi:=by
 unfold zfo
 split
 ·omega
 ·split <;> omega
theorem ykx {b:Bd} (h:zgt b=true):b.lo≤b.hi ∧ -1099511627776≤b.lo∧b.hi≤1099511627776:=by
 unfold zgt at h
 simp only [Bool.and_eq_true,decide_eq_true_eq] at h
 have h1:=h.1.2
 have h2:=h.2
 unfold zgb at h1 h2
 have:=za6.mp h1
 have:=za6.mp h2
 omega
theorem z6h (s:Sl) (l:Int) (b:Bd) : -1099511627776≤(zdt s l b).1∧(zdt s l b).1≤1099511627776:=by
 unfold zdt
 split
 ·rename_i h
  simp only [Bool.and_eq_true] at h
  obtain ⟨h1,h2,h3⟩:=ykx h.2
  have:=ym8 (x:=(fdv s.g (s.n+l)).1) h1
  simp only; omega
 ·simp
theorem z40 (c:Cfg) (b:Bd) (x:Cnd):inI (zci c b x).1∧inI (zci c b x).2.1:=by
 have h1:=z6h x.a c.la b
 have h2:=z6h x.z c.la b
 unfold zci inI
 split
 ·simp only; omega
 ·simp
def NC (S:Nat→Option Ob) (nx oq:Nat) (m:List Nd) (x:PV):Prop:=(x = .e0∧m=[])∨∃ o e,x = .ref o none e 0 m.length∧5<o∧o<nx∧¬ o=oq∧S o=some (.row 5 (m.map nd))
theorem ylm {c v:List (List Int)} {g:List Int} {cfg:Cfg} {n:Nat} {q:List Pnd} {i:Nat} {out:List Nd} (h:q[i]?=none):zcx c v g cfg n q i out=out:=by
 cases n with
 | zero=>rfl
 | succ n=>rw [zcx,h]
theorem yl1 {c v:List (List Int)} {g:List Int} {cfg:Cfg} {n:Nat} {q:List Pnd} {i:Nat} {out:List Nd} {x:Pnd} (h:q[i]?=some x) (hg:goes c v g cfg x=false):zcx c v g cfg (n+1) q i out=zcx c v g cfg n q (i+1) (out++[zej g cfg x]):=by
 rw [zcx,h]; simp [hg]
theorem yk1 {c v:List (List Int)} {g:List Int} {cfg:Cfg} {n:Nat} {q:List Pnd} {i:Nat} {out:List Nd} {x:Pnd} (h:q[i]?=some x) (hg:goes c v g cfg x=true):zcx c v g cfg (n+1) q i out=zcx c v g cfg n (q++[zhn c v cfg x (zb9 c v g cfg x.r x.b).1,zh1 c v cfg x (zb9 c v g cfg x.r x.b).1]) (i+1) (out++[zrb c (zb9 c v g cfg x.r x.b).1 q.length]):=by
 rw [zcx,h]; simp [hg]
structure GI (c v:List (List Int)) (g:List Int) (cfg:Cfg) (n:Nat) (q:List Pnd) (i:Nat) (out:List Nd):Prop where
 n1:i+n=32
 le:i≤q.length
 ql:q.length≤2*i+1
 ol:out.length=i
 po:zhs cfg.de (q.drop i)≤n
 ok : ∀ x∈q,zw8 g.length cfg.de x
 go:zcx c v g cfg n q i out=zcx c v g cfg 32 [zd0 g] 0 []
theorem GI.leaf {c v:List (List Int)} {g:List Int} {cfg:Cfg} {n:Nat} {q:List Pnd} {i:Nat} {out:List Nd} {x:Pnd} (h:GI c v g cfg n q i out) (hx:q[i]?=some x) (hg:goes c v g cfg x=false):1≤n∧GI c v g cfg (n-1) q (i+1) (out++[zej g cfg x]):=by
 have hp:=h.po
 rw [zgj hx,zwc] at hp
 have:=yly (h.ok x (List.mem_of_getElem? hx)).2.2.2
 have hlt:=(List.getElem?_eq_some_iff.mp hx).1
 obtain ⟨m,rfl⟩ : ∃ m,n=m+1:=⟨n-1,by omega⟩
 have:=h.n1
 have:=h.ql
 exact ⟨by omega,by simp; omega,by omega,by omega,by simp [h.ol],by simp; omega,h.ok,by rw [← h.go,yl1 hx hg]; rfl⟩
theorem GI.cut {c v:List (List Int)} {g:List Int} {cfg:Cfg} {n:Nat} {q:List Pnd} {i:Nat} {out:List Nd} {x:Pnd} (h:GI c v g cfg n q i out) (hx:q[i]?=some x) (hg:goes c v g cfg x=true):1≤n∧GI c v g cfg (n-1) (q++[zhn c v cfg x (zb9 c v g cfg x.r x.b).1,zh1 c v cfg x (zb9 c v g cfg x.r x.b).1]) (i+1) (out++[zrb c (zb9 c v g cfg x.r x.b).1 q.length]):=by
 have hp:=h.po
 have hlt:=(List.getElem?_eq_some_iff.mp hx).1
 have hxo:=h.ok x (List.mem_of_getElem? hx)
 rw [zgj hx,zwc] at hp
 have hlv:x.l<cfg.de:=by
  unfold goes at hg
  simp only [Bool.and_eq_true,decide_eq_true_eq] at hg
  exact hg.1
 have hk:=yld (y:=zhn c v cfg x (zb9 c v g cfg x.r x.b).1) (z:=zh1 c v cfg x (zb9 c v g cfg x.r x.b).1) hlv rfl rfl
 obtain ⟨m,rfl⟩ : ∃ m,n=m+1:=⟨n-1,by omega⟩
 have:=h.n1
 have:=h.ql
 obtain ⟨ko1,ko2⟩:=yn1 (c:=c) (v:=v) (k:=(zb9 c v g cfg x.r x.b).1) hxo hlv
 refine ⟨by omega,by simp; omega,by simp; omega,by simp; omega,by simp [h.ol],?_,fun y hy => ?_,by rw [← h.go,yk1 hx hg]; rfl⟩
 ·rw [List.drop_append_of_le_length (by omega),ynn,zwc,zwc]
  have:zhs cfg.de ([]:List Pnd)=0:=rfl
  simp only [Nat.add_sub_cancel]
  omega
 ·rcases List.mem_append.mp hy with e | e
  ·exact h.ok y e
  ·simp only [List.mem_cons,List.not_mem_nil,or_false] at e
   rcases e with e | e
   ·subst e; exact ko1
   ·subst e; exact ko2
theorem GI.start {c v:List (List Int)} {g:List Int} {cfg:Cfg} (h:zcr c v g cfg=true):GI c v g cfg 32 [zd0 g] 0 []:=by
 obtain ⟨h1,h2,h3,h4⟩:=zwk h
 obtain ⟨d1,d2⟩:=(z6i h2).1
 refine ⟨rfl,by simp,by simp,rfl,?_,fun x hx => ?_,rfl⟩
 ·simp only [List.drop_zero,zhs,List.map_cons,List.map_nil,List.sum_cons,List.sum_nil,pot,zd0]
  have:(cfg.de+1-0).toNat≤5:=by omega
  have:=Nat.pow_le_pow_right (n:=2) (by omega) this
  omega
 ·simp only [List.mem_singleton] at hx
  subst hx
  refine ⟨fun r hr => ?_,by simp [zd0],by simp [zd0],d1⟩
  simp only [zd0,List.mem_map,List.mem_range] at hr
  obtain ⟨j,hj,rfl⟩:=hr
  omega
set_option maxHeartbeats 8000000 in
set_option maxRecDepth 8000 in
theorem zx8 (q:Bool) (c v:List (List Int)) (g:List Int) (cfg:Cfg) (hc : ∀ l∈c,l.length≤1048576) (hv : ∀ l∈v,l.length≤1048576) (hg:g.length≤1048576) (hs:cfg.sg.length≤1048576) (hgi : ∀ x∈g,inI x):RUN T zi5 [.agg [.sl 1 (rws q c),.sl 1 (rws q v)],.sl 1 (zac g),cfS cfg]=some ([.agg [.own 5 ((zeo c v g cfg).1.map nd)],bv (zeo c v g cfg).2],[]):=by
 have e1:=zxz q c v g cfg (fun l hl=>Nat.le_trans (hc l hl) (by omega)) (fun l hl=>Nat.le_trans (hv l hl) (by omega)) (by omega) (by omega)
 simp only [ze1] at e1
 cases ht:zcr c v g cfg with
 | false =>
  rw [ht] at e1
  have hR:zeo c v g cfg=([],false):=by unfold zeo; rw [ht]; rfl
  rw [hR]
  refine zal zxs rfl ?_
  simp [-getElem?_pos,zpl,zpm,e1]
 | true =>
  rw [ht] at e1
  have hR:zeo c v g cfg=(zcx c v g cfg 32 [zd0 g] 0 [],true):=by unfold zeo; rw [if_pos ht]
  rw [hR]
  obtain ⟨R,hR'⟩ : ∃ R,R=zcx c v g cfg 32 [zd0 g] 0 []:=⟨_,rfl⟩
  rw [← hR']
  obtain ⟨t1,t2,t3,t4⟩:=zwk ht
  obtain ⟨t5,t6⟩:=z9n t1
  have e2:=zxy q c v
  have e3:=yit (zct v) t5 t6
  have e4:=yis
  have hr48:zan 48 1=true:=by decide
  have hG:=GI.start ht
  have hroot:zhe [zd0 g]=[[.own 1 (zac (upl (zct v))),iv zht.lo,iv zht.hi,iv 0]]:=by simp [zhe,pnd,zd0,t3,upl]
  simp only [bnd] at e4
  refine zal zxs rfl ?_
  simp [-getElem?_pos,zpl,zpm,e1,e2,e3,e4,hr48]
  refine za3 (fun n st => ∃ (i o e:Nat) (Q:List Pnd) (out:List Nd) (x:PV),GI c v g cfg n Q i out∧st.V 1 = .sl 1 (zac g)∧st.V 3 = .ptr 0 none 0 0 0∧st.V 5 = .ptr 1 none 0 0 0∧st.V 6 = .ptr 2 none 0 0 0∧st.V 8 = .ref o none e 0 Q.length∧st.V 9 = .ptr 5 none 0 0 0∧st.V 10=iv i∧3<o∧¬ o=5∧o<st.nx∧5<st.nx∧st.S 0=some (.box [.sl 1 (rws q c),.sl 1 (rws q v)])∧st.S 1=some (.box [iv cfg.ro,iv cfg.de,iv cfg.bi,iv cfg.la,iv cfg.rw,iv cfg.nu,iv cfg.dn,.sl 1 (zac cfg.sg)])∧st.S 2=some (.box [.e0])∧st.S 5=some (.box [x])∧st.S o=some (.row 4 (zhe Q))∧NC st.S st.nx o out x) ?_ 32 _ ⟨0,4,0,[zd0 g],[],.e0,hG,?_⟩
  ·rintro n st ⟨i,o,ep,Q,out,x,hG,v1,v3,v5,v6,v8,v9,v10,ho3,ho5,hox,h5x,hS0,hS1,hS2,hS5,hSo,hN⟩
   obtain ⟨Fa01,Fa02,Fa03,Fa04⟩:=fr (show 0<st.nx by omega)
   obtain ⟨Fb01,Fb02,Fb03,Fb04⟩:=fr (show 1<st.nx by omega)
   obtain ⟨Fc01,Fc02,Fc03,Fc04⟩:=fr (show 2<st.nx by omega)
   obtain ⟨Fd01,Fd02,Fd03,Fd04⟩:=fr (show 5<st.nx by omega)
   obtain ⟨Fo01,Fo02,Fo03,Fo04⟩:=fr (show o<st.nx by omega)
   have N0a:(o=0)=False:=eq_false (by omega)
   have N0b:(0=o)=False:=eq_false (by omega)
   have N1a:(o=1)=False:=eq_false (by omega)
   have N1b:(1=o)=False:=eq_false (by omega)
   have N2a:(o=2)=False:=eq_false (by omega)
   have N2b:(2=o)=False:=eq_false (by omega)
   have N3a:(o=5)=False:=eq_false (by omega)
   have N3b:(5=o)=False:=eq_false (by omega)
   have y0:(st.nx=0)=False:=eq_false (by omega)
   have y1:(st.nx=1)=False:=eq_false (by omega)
   have y2:(st.nx=2)=False:=eq_false (by omega)
   have y3:(st.nx=3)=False:=eq_false (by omega)
   have y4:(st.nx=4)=False:=eq_false (by omega)
   have y5:(st.nx=5)=False:=eq_false (by omega)
   have na : ∀ a b:Nat,st.nx+a+b=st.nx+(a+b):=fun a b=>Nat.add_assoc _ _ _
   by_cases hlt:i<Q.length
   ·obtain ⟨p,hp⟩ : ∃ p,Q[i]?=some p:=⟨_,List.getElem?_eq_getElem hlt⟩
    have hp':=z67 hp
    have hps:=yq2 hp
    have hpo:=hG.ok p (List.mem_of_getElem? hp)
    obtain ⟨p1,p2,p3,p4⟩:=hpo
    have hn1:=hG.n1
    have hql:=hG.ql
    have hws:=wS hlt (by omega:Q.length≤9223372036854775807)
    have f1:=yiq q c v g cfg p.r p.b hc hv hg (by omega) hs hgi
    have f2:=yiv g p.r t4 p1 (by omega)
    have f3:=zx5 (zg3 g p.r) cfg.la p.b (z6q t4 (by omega))
    have hr40:zan 40 1=true:=by decide
    have hr41:zan 40 (out.length+1)=true:=by have:=hG.ol; simp [zan]; omega
    have hsn:=z7c out (zej g cfg p)
    simp only [zej] at hsn
    simp only [bnd] at f1 f3
    obtain ⟨K,hK⟩ : ∃ K,K=zb9 c v g cfg p.r p.b:=⟨_,rfl⟩
    obtain ⟨G,hGg⟩ : ∃ G,G=goes c v g cfg p:=⟨_,rfl⟩
    have hG2:G=(decide (p.l<cfg.de) && K.2):=by rw [hGg,hK]; rfl
    cases G with
    | false =>
     obtain ⟨m1,hG'⟩:=hG.leaf hp hGg.symm
     rw [← hK] at f1
     simp only [slc] at f2 f3
     by_cases hlv:p.l<cfg.de
     ·have hK2:K.2=false:=by simpa [hlv] using hG2.symm
      obtain ⟨K,Kb⟩:=K
      simp only at hK2 f1
      subst hK2
      simp only [cnd] at f1
      rcases hN with ⟨rfl,rfl⟩ | ⟨w,ew,rfl,hw5,hwx,hwo,hSw⟩
      ·simp [-getElem?_pos,zh5,v1,v3,v5,v6,v8,v9,v10,hS0,hS1,hS2,hS5,hSo,hlt,hp',hps,hlv,f1,f2,f3,hws,hr40,Fa01,Fa02,Fa03,Fa04,Fb01,Fb02,Fb03,Fb04,Fc01,Fc02,Fc03,Fc04,Fd01,Fd02,Fd03,Fd04,Fo01,Fo02,Fo03,Fo04,N0a,N0b,N1a,N1b,N2a,N2b,N3a,N3b,y0,y1,y2,y3,y4,y5,na]
       refine zaq (n-1) (by omega) ⟨i+1,o,ep,Q,[zej g cfg p],.ref (st.nx+3) none st.ep 0 1,hG',by simp [v1],by simp [v3],by simp [v5],by simp [v6],by simp [v8],by simp [v9],by simp,ho3,ho5,(by simp <;> omega),by simp <;> omega,by simp [Fa01,Fa02,Fa03,Fa04,Fb01,Fb02,Fb03,Fb04,Fc01,Fc02,Fc03,Fc04,Fd01,Fd02,Fd03,Fd04,Fo01,Fo02,Fo03,Fo04,N0a,N0b,N1a,N1b,N2a,N2b,N3a,N3b,y0,y1,y2,y3,y4,y5,na,hS0],by simp [Fa01,Fa02,Fa03,Fa04,Fb01,Fb02,Fb03,Fb04,Fc01,Fc02,Fc03,Fc04,Fd01,Fd02,Fd03,Fd04,Fo01,Fo02,Fo03,Fo04,N0a,N0b,N1a,N1b,N2a,N2b,N3a,N3b,y0,y1,y2,y3,y4,y5,na,hS1],by simp [Fa01,Fa02,Fa03,Fa04,Fb01,Fb02,Fb03,Fb04,Fc01,Fc02,Fc03,Fc04,Fd01,Fd02,Fd03,Fd04,Fo01,Fo02,Fo03,Fo04,N0a,N0b,N1a,N1b,N2a,N2b,N3a,N3b,y0,y1,y2,y3,y4,y5,na,hS2],by simp [Fa01,Fa02,Fa03,Fa04,Fb01,Fb02,Fb03,Fb04,Fc01,Fc02,Fc03,Fc04,Fd01,Fd02,Fd03,Fd04,Fo01,Fo02,Fo03,Fo04,N0a,N0b,N1a,N1b,N2a,N2b,N3a,N3b,y0,y1,y2,y3,y4,y5,na],by simp [Fa01,Fa02,Fa03,Fa04,Fb01,Fb02,Fb03,Fb04,Fc01,Fc02,Fc03,Fc04,Fd01,Fd02,Fd03,Fd04,Fo01,Fo02,Fo03,Fo04,N0a,N0b,N1a,N1b,N2a,N2b,N3a,N3b,y0,y1,y2,y3,y4,y5,na,hSo],.inr ⟨st.nx+3,st.ep,by simp,by omega,by simp <;> omega,by omega,by simp [nd,zej,y0,y1,y2,y3,y4,y5]⟩⟩
      ·obtain ⟨Fw01,Fw02,Fw03,Fw04⟩:=fr (show w<st.nx by omega)
       have M0a:(w=0)=False:=eq_false (by omega)
       have M0b:(0=w)=False:=eq_false (by omega)
       have M1a:(w=1)=False:=eq_false (by omega)
       have M1b:(1=w)=False:=eq_false (by omega)
       have M2a:(w=2)=False:=eq_false (by omega)
       have M2b:(2=w)=False:=eq_false (by omega)
       have M3a:(w=5)=False:=eq_false (by omega)
       have M3b:(5=w)=False:=eq_false (by omega)
       have M4a:(w=o)=False:=eq_false (by omega)
       have M4b:(o=w)=False:=eq_false (by omega)
       simp [-getElem?_pos,zh5,v1,v3,v5,v6,v8,v9,v10,hS0,hS1,hS2,hS5,hSo,hSw,hlt,hp',hps,hlv,f1,f2,f3,hws,hr40,hr41,hsn,Fa01,Fa02,Fa03,Fa04,Fb01,Fb02,Fb03,Fb04,Fc01,Fc02,Fc03,Fc04,Fd01,Fd02,Fd03,Fd04,Fo01,Fo02,Fo03,Fo04,N0a,N0b,N1a,N1b,N2a,N2b,N3a,N3b,y0,y1,y2,y3,y4,y5,na,Fw01,Fw02,Fw03,Fw04,M0a,M0b,M1a,M1b,M2a,M2b,M3a,M3b,M4a,M4b]
       refine zaq (n-1) (by omega) ⟨i+1,o,ep,Q,out++[zej g cfg p],.ref (st.nx+3) none st.ep 0 (out.length+1),hG',by simp [v1],by simp [v3],by simp [v5],by simp [v6],by simp [v8],by simp [v9],by simp,ho3,ho5,(by simp <;> omega),by simp <;> omega,by simp [Fa01,Fa02,Fa03,Fa04,Fb01,Fb02,Fb03,Fb04,Fc01,Fc02,Fc03,Fc04,Fd01,Fd02,Fd03,Fd04,Fo01,Fo02,Fo03,Fo04,N0a,N0b,N1a,N1b,N2a,N2b,N3a,N3b,y0,y1,y2,y3,y4,y5,na,Fw01,Fw02,Fw03,Fw04,M0a,M0b,M1a,M1b,M2a,M2b,M3a,M3b,M4a,M4b,hS0],by simp [Fa01,Fa02,Fa03,Fa04,Fb01,Fb02,Fb03,Fb04,Fc01,Fc02,Fc03,Fc04,Fd01,Fd02,Fd03,Fd04,Fo01,Fo02,Fo03,Fo04,N0a,N0b,N1a,N1b,N2a,N2b,N3a,N3b,y0,y1,y2,y3,y4,y5,na,Fw01,Fw02,Fw03,Fw04,M0a,M0b,M1a,M1b,M2a,M2b,M3a,M3b,M4a,M4b,hS1],by simp [Fa01,Fa02,Fa03,Fa04,Fb01,Fb02,Fb03,Fb04,Fc01,Fc02,Fc03,Fc04,Fd01,Fd02,Fd03,Fd04,Fo01,Fo02,Fo03,Fo04,N0a,N0b,N1a,N1b,N2a,N2b,N3a,N3b,y0,y1,y2,y3,y4,y5,na,Fw01,Fw02,Fw03,Fw04,M0a,M0b,M1a,M1b,M2a,M2b,M3a,M3b,M4a,M4b,hS2],by simp [Fa01,Fa02,Fa03,Fa04,Fb01,Fb02,Fb03,Fb04,Fc01,Fc02,Fc03,Fc04,Fd01,Fd02,Fd03,Fd04,Fo01,Fo02,Fo03,Fo04,N0a,N0b,N1a,N1b,N2a,N2b,N3a,N3b,y0,y1,y2,y3,y4,y5,na,Fw01,Fw02,Fw03,Fw04,M0a,M0b,M1a,M1b,M2a,M2b,M3a,M3b,M4a,M4b],by simp [Fa01,Fa02,Fa03,Fa04,Fb01,Fb02,Fb03,Fb04,Fc01,Fc02,Fc03,Fc04,Fd01,Fd02,Fd03,Fd04,Fo01,Fo02,Fo03,Fo04,N0a,N0b,N1a,N1b,N2a,N2b,N3a,N3b,y0,y1,y2,y3,y4,y5,na,Fw01,Fw02,Fw03,Fw04,M0a,M0b,M1a,M1b,M2a,M2b,M3a,M3b,M4a,M4b,hSo],.inr ⟨st.nx+3,st.ep,by simp,by omega,by simp <;> omega,by omega,by simp [nd,zej,y0,y1,y2,y3,y4,y5]⟩⟩
     ·rcases hN with ⟨rfl,rfl⟩ | ⟨w,ew,rfl,hw5,hwx,hwo,hSw⟩
      ·simp [-getElem?_pos,zh5,v1,v3,v5,v6,v8,v9,v10,hS0,hS1,hS2,hS5,hSo,hlt,hp',hps,hlv,f2,f3,hws,hr40,Fa01,Fa02,Fa03,Fa04,Fb01,Fb02,Fb03,Fb04,Fc01,Fc02,Fc03,Fc04,Fd01,Fd02,Fd03,Fd04,Fo01,Fo02,Fo03,Fo04,N0a,N0b,N1a,N1b,N2a,N2b,N3a,N3b,y0,y1,y2,y3,y4,y5,na]
       refine zaq (n-1) (by omega) ⟨i+1,o,ep,Q,[zej g cfg p],.ref (st.nx+3) none st.ep 0 1,hG',by simp [v1],by simp [v3],by simp [v5],by simp [v6],by simp [v8],by simp [v9],by simp,ho3,ho5,(by simp <;> omega),by simp <;> omega,by simp [Fa01,Fa02,Fa03,Fa04,Fb01,Fb02,Fb03,Fb04,Fc01,Fc02,Fc03,Fc04,Fd01,Fd02,Fd03,Fd04,Fo01,Fo02,Fo03,Fo04,N0a,N0b,N1a,N1b,N2a,N2b,N3a,N3b,y0,y1,y2,y3,y4,y5,na,hS0],by simp [Fa01,Fa02,Fa03,Fa04,Fb01,Fb02,Fb03,Fb04,Fc01,Fc02,Fc03,Fc04,Fd01,Fd02,Fd03,Fd04,Fo01,Fo02,Fo03,Fo04,N0a,N0b,N1a,N1b,N2a,N2b,N3a,N3b,y0,y1,y2,y3,y4,y5,na,hS1],by simp [Fa01,Fa02,Fa03,Fa04,Fb01,Fb02,Fb03,Fb04,Fc01,Fc02,Fc03,Fc04,Fd01,Fd02,Fd03,Fd04,Fo01,Fo02,Fo03,Fo04,N0a,N0b,N1a,N1b,N2a,N2b,N3a,N3b,y0,y1,y2,y3,y4,y5,na,hS2],by simp [Fa01,Fa02,Fa03,Fa04,Fb01,Fb02,Fb03,Fb04,Fc01,Fc02,Fc03,Fc04,Fd01,Fd02,Fd03,Fd04,Fo01,Fo02,Fo03,Fo04,N0a,N0b,N1a,N1b,N2a,N2b,N3a,N3b,y0,y1,y2,y3,y4,y5,na],by simp [Fa01,Fa02,Fa03,Fa04,Fb01,Fb02,Fb03,Fb04,Fc01,Fc02,Fc03,Fc04,Fd01,Fd02,Fd03,Fd04,Fo01,Fo02,Fo03,Fo04,N0a,N0b,N1a,N1b,N2a,N2b,N3a,N3b,y0,y1,y2,y3,y4,y5,na,hSo],.inr ⟨st.nx+3,st.ep,by simp,by omega,by simp <;> omega,by omega,by simp [nd,zej,y0,y1,y2,y3,y4,y5]⟩⟩
      ·obtain ⟨Fw01,Fw02,Fw03,Fw04⟩:=fr (show w<st.nx by omega)
       have M0a:(w=0)=False:=eq_false (by omega)
       have M0b:(0=w)=False:=eq_false (by omega)
       have M1a:(w=1)=False:=eq_false (by omega)
       have M1b:(1=w)=False:=eq_false (by omega)
       have M2a:(w=2)=False:=eq_false (by omega)
       have M2b:(2=w)=False:=eq_false (by omega)
       have M3a:(w=5)=False:=eq_false (by omega)
       have M3b:(5=w)=False:=eq_false (by omega)
       have M4a:(w=o)=False:=eq_false (by omega)
       have M4b:(o=w)=False:=eq_false (by omega)
       simp [-getElem?_pos,zh5,v1,v3,v5,v6,v8,v9,v10,hS0,hS1,hS2,hS5,hSo,hSw,hlt,hp',hps,hlv,f2,f3,hws,hr40,hr41,hsn,Fa01,Fa02,Fa03,Fa04,Fb01,Fb02,Fb03,Fb04,Fc01,Fc02,Fc03,Fc04,Fd01,Fd02,Fd03,Fd04,Fo01,Fo02,Fo03,Fo04,N0a,N0b,N1a,N1b,N2a,N2b,N3a,N3b,y0,y1,y2,y3,y4,y5,na,Fw01,Fw02,Fw03,Fw04,M0a,M0b,M1a,M1b,M2a,M2b,M3a,M3b,M4a,M4b]
       refine zaq (n-1) (by omega) ⟨i+1,o,ep,Q,out++[zej g cfg p],.ref (st.nx+3) none st.ep 0 (out.length+1),hG',by simp [v1],by simp [v3],by simp [v5],by simp [v6],by simp [v8],by simp [v9],by simp,ho3,ho5,(by simp <;> omega),by simp <;> omega,by simp [Fa01,Fa02,Fa03,Fa04,Fb01,Fb02,Fb03,Fb04,Fc01,Fc02,Fc03,Fc04,Fd01,Fd02,Fd03,Fd04,Fo01,Fo02,Fo03,Fo04,N0a,N0b,N1a,N1b,N2a,N2b,N3a,N3b,y0,y1,y2,y3,y4,y5,na,Fw01,Fw02,Fw03,Fw04,M0a,M0b,M1a,M1b,M2a,M2b,M3a,M3b,M4a,M4b,hS0],by simp [Fa01,Fa02,Fa03,Fa04,Fb01,Fb02,Fb03,Fb04,Fc01,Fc02,Fc03,Fc04,Fd01,Fd02,Fd03,Fd04,Fo01,Fo02,Fo03,Fo04,N0a,N0b,N1a,N1b,N2a,N2b,N3a,N3b,y0,y1,y2,y3,y4,y5,na,Fw01,Fw02,Fw03,Fw04,M0a,M0b,M1a,M1b,M2a,M2b,M3a,M3b,M4a,M4b,hS1],by simp [Fa01,Fa02,Fa03,Fa04,Fb01,Fb02,Fb03,Fb04,Fc01,Fc02,Fc03,Fc04,Fd01,Fd02,Fd03,Fd04,Fo01,Fo02,Fo03,Fo04,N0a,N0b,N1a,N1b,N2a,N2b,N3a,N3b,y0,y1,y2,y3,y4,y5,na,Fw01,Fw02,Fw03,Fw04,M0a,M0b,M1a,M1b,M2a,M2b,M3a,M3b,M4a,M4b,hS2],by simp [Fa01,Fa02,Fa03,Fa04,Fb01,Fb02,Fb03,Fb04,Fc01,Fc02,Fc03,Fc04,Fd01,Fd02,Fd03,Fd04,Fo01,Fo02,Fo03,Fo04,N0a,N0b,N1a,N1b,N2a,N2b,N3a,N3b,y0,y1,y2,y3,y4,y5,na,Fw01,Fw02,Fw03,Fw04,M0a,M0b,M1a,M1b,M2a,M2b,M3a,M3b,M4a,M4b],by simp [Fa01,Fa02,Fa03,Fa04,Fb01,Fb02,Fb03,Fb04,Fc01,Fc02,Fc03,Fc04,Fd01,Fd02,Fd03,Fd04,Fo01,Fo02,Fo03,Fo04,N0a,N0b,N1a,N1b,N2a,N2b,N3a,N3b,y0,y1,y2,y3,y4,y5,na,Fw01,Fw02,Fw03,Fw04,M0a,M0b,M1a,M1b,M2a,M2b,M3a,M3b,M4a,M4b,hSo],.inr ⟨st.nx+3,st.ep,by simp,by omega,by simp <;> omega,by omega,by simp [nd,zej,y0,y1,y2,y3,y4,y5]⟩⟩
    | true =>
     obtain ⟨m1,hG'⟩:=hG.cut hp hGg.symm
     have t7:=z6i t2
     have hlv:p.l<cfg.de:=by
      have h9:=hG2.symm
      simp only [Bool.and_eq_true,decide_eq_true_eq] at h9
      exact h9.1
     have hK2:K.2=true:=by
      have h9:=hG2.symm
      simp only [Bool.and_eq_true,decide_eq_true_eq] at h9
      exact h9.2
     obtain ⟨kf,kb,X,Y,z,k1,k2,hX,hY,hz,kI⟩:=yjn (c:=c) (v:=v) (g:=g) (cfg:=cfg) (rows:=p.r) (b:=p.b) (by rw [← hK]; exact hK2)
     rw [← hK] at f1 hG' k1 k2 kI
     obtain ⟨⟨kf',kb',ka,kz⟩,Kb⟩:=K
     simp only at hK2 k1 k2 kI f1 hG'
     subst hK2 k1 k2
     have hfc:=(List.getElem?_eq_some_iff.mp hX).1
     have hfv:=(List.getElem?_eq_some_iff.mp hY).1
     have hbx:=(List.getElem?_eq_some_iff.mp hz).1
     have hX':=ze4 (q:=q) hX
     have hY':=ze4 (q:=q) hY
     have hz':=zbj hz
     have f4:=z4s cfg p.b ⟨kf,kb,ka,kz⟩ kI
     have f5:=z4t cfg kf (by omega)
     have f6:=yim (ze3 cfg kf) p.b (zci cfg p.b ⟨kf,kb,ka,kz⟩).1 (zci cfg p.b ⟨kf,kb,ka,kz⟩).2.1 (z40 _ _ _).1 (z40 _ _ _).2
     have f7:=yiw Y p.r kb (hv Y (List.mem_of_getElem? hY)) (by omega)
     have hkl:zhn c v cfg p ⟨kf,kb,ka,kz⟩=⟨zlx Y p.r kb,(zjt (ze3 cfg kf) p.b (zci cfg p.b ⟨kf,kb,ka,kz⟩).1 (zci cfg p.b ⟨kf,kb,ka,kz⟩).2.1).1,p.l+1⟩:=by
      unfold zhn
      simp only [zwh hY,Option.getD_some]
     have hkr:zh1 c v cfg p ⟨kf,kb,ka,kz⟩=⟨zme Y p.r kb,(zjt (ze3 cfg kf) p.b (zci cfg p.b ⟨kf,kb,ka,kz⟩).1 (zci cfg p.b ⟨kf,kb,ka,kz⟩).2.1).2,p.l+1⟩:=by
      unfold zh1
      simp only [zwh hY,Option.getD_some]
     have hcn:zrb c ⟨kf,kb,ka,kz⟩ Q.length=⟨kf,z,Q.length,Q.length+1,0⟩:=by
      unfold zrb
      simp only [zwh hX,Option.getD_some,zwh hz]
     rw [hkl,hkr,hcn] at hG'
     clear hkl hkr hcn
     generalize zci cfg p.b ⟨kf,kb,ka,kz⟩=sv at *
     obtain ⟨sl,sr,sb⟩:=sv
     simp only at f4 f6 hG'
     generalize ze3 cfg kf=sg at *
     generalize zjt sg p.b sl sr=bb at *
     obtain ⟨⟨ll,lh⟩,⟨rl,rh⟩⟩:=bb
     generalize zlx Y p.r kb=L1 at *
     generalize zme Y p.r kb=R1 at *
     simp only [bnd,cnd] at f1 f4 f6 hG'
     have hQ:=ynf Q ⟨L1,⟨ll,lh⟩,p.l+1⟩ ⟨R1,⟨rl,rh⟩,p.l+1⟩
     have hsn2:=z7c out ⟨kf,z,Q.length,Q.length+1,0⟩
     simp only at hQ hsn2
     have wl:=w64 (x:=p.l+1) (by omega) (by omega)
     have wq:=w64 (x:=(Q.length:Int)+1) (by omega) (by omega)
     have hr482:zan 48 2=true:=by decide
     have hr483:zan 48 (Q.length+2)=true:=by simp [zan]; omega
     rcases hN with ⟨rfl,rfl⟩ | ⟨w,ew,rfl,hw5,hwx,hwo,hSw⟩
     ·simp [-getElem?_pos,zh5,v1,v3,v5,v6,v8,v9,v10,hS0,hS1,hS2,hS5,hSo,hlt,hp',hps,hlv,f1,f4,f5,f6,f7,hX',hY',hz',hfc,hfv,hbx,wl,wq,hr482,hr483,hQ,hws,hr40,Fa01,Fa02,Fa03,Fa04,Fb01,Fb02,Fb03,Fb04,Fc01,Fc02,Fc03,Fc04,Fd01,Fd02,Fd03,Fd04,Fo01,Fo02,Fo03,Fo04,N0a,N0b,N1a,N1b,N2a,N2b,N3a,N3b,y0,y1,y2,y3,y4,y5,na]
      refine zaq (n-1) (by omega) ⟨i+1,st.nx+9,st.ep,(Q++[⟨L1,⟨ll,lh⟩,p.l+1⟩,⟨R1,⟨rl,rh⟩,p.l+1⟩]),[⟨kf,z,Q.length,Q.length+1,0⟩],.ref (st.nx+7) none st.ep 0 1,hG',by simp [v1],by simp [v3],by simp [v5],by simp [v6],by simp,by simp [v9],by simp,by omega,by omega,by simp,by simp <;> omega,by simp [Fa01,Fa02,Fa03,Fa04,Fb01,Fb02,Fb03,Fb04,Fc01,Fc02,Fc03,Fc04,Fd01,Fd02,Fd03,Fd04,Fo01,Fo02,Fo03,Fo04,N0a,N0b,N1a,N1b,N2a,N2b,N3a,N3b,y0,y1,y2,y3,y4,y5,na,hS0],by simp [Fa01,Fa02,Fa03,Fa04,Fb01,Fb02,Fb03,Fb04,Fc01,Fc02,Fc03,Fc04,Fd01,Fd02,Fd03,Fd04,Fo01,Fo02,Fo03,Fo04,N0a,N0b,N1a,N1b,N2a,N2b,N3a,N3b,y0,y1,y2,y3,y4,y5,na,hS1],by simp [Fa01,Fa02,Fa03,Fa04,Fb01,Fb02,Fb03,Fb04,Fc01,Fc02,Fc03,Fc04,Fd01,Fd02,Fd03,Fd04,Fo01,Fo02,Fo03,Fo04,N0a,N0b,N1a,N1b,N2a,N2b,N3a,N3b,y0,y1,y2,y3,y4,y5,na,hS2],by simp [Fa01,Fa02,Fa03,Fa04,Fb01,Fb02,Fb03,Fb04,Fc01,Fc02,Fc03,Fc04,Fd01,Fd02,Fd03,Fd04,Fo01,Fo02,Fo03,Fo04,N0a,N0b,N1a,N1b,N2a,N2b,N3a,N3b,y0,y1,y2,y3,y4,y5,na],by simp [Fa01,Fa02,Fa03,Fa04,Fb01,Fb02,Fb03,Fb04,Fc01,Fc02,Fc03,Fc04,Fd01,Fd02,Fd03,Fd04,Fo01,Fo02,Fo03,Fo04,N0a,N0b,N1a,N1b,N2a,N2b,N3a,N3b,y0,y1,y2,y3,y4,y5,na],.inr ⟨st.nx+7,st.ep,by simp,by omega,by simp,by simp,by simp [nd,Fo03,Fo04,Fo01,Fo02,y0,y1,y2,y3,y4,y5]⟩⟩
     ·obtain ⟨Fw01,Fw02,Fw03,Fw04⟩:=fr (show w<st.nx by omega)
      have M0a:(w=0)=False:=eq_false (by omega)
      have M0b:(0=w)=False:=eq_false (by omega)
      have M1a:(w=1)=False:=eq_false (by omega)
      have M1b:(1=w)=False:=eq_false (by omega)
      have M2a:(w=2)=False:=eq_false (by omega)
      have M2b:(2=w)=False:=eq_false (by omega)
      have M3a:(w=5)=False:=eq_false (by omega)
      have M3b:(5=w)=False:=eq_false (by omega)
      have M4a:(w=o)=False:=eq_false (by omega)
      have M4b:(o=w)=False:=eq_false (by omega)
      simp [-getElem?_pos,zh5,v1,v3,v5,v6,v8,v9,v10,hS0,hS1,hS2,hS5,hSo,hSw,hlt,hp',hps,hlv,f1,f4,f5,f6,f7,hX',hY',hz',hfc,hfv,hbx,wl,wq,hr482,hr483,hQ,hws,hr40,hr41,hsn2,Fa01,Fa02,Fa03,Fa04,Fb01,Fb02,Fb03,Fb04,Fc01,Fc02,Fc03,Fc04,Fd01,Fd02,Fd03,Fd04,Fo01,Fo02,Fo03,Fo04,N0a,N0b,N1a,N1b,N2a,N2b,N3a,N3b,y0,y1,y2,y3,y4,y5,na,Fw01,Fw02,Fw03,Fw04,M0a,M0b,M1a,M1b,M2a,M2b,M3a,M3b,M4a,M4b]
      refine zaq (n-1) (by omega) ⟨i+1,st.nx+9,st.ep,(Q++[⟨L1,⟨ll,lh⟩,p.l+1⟩,⟨R1,⟨rl,rh⟩,p.l+1⟩]),(out++[⟨kf,z,Q.length,Q.length+1,0⟩]),.ref (st.nx+7) none st.ep 0 (out.length+1),hG',by simp [v1],by simp [v3],by simp [v5],by simp [v6],by simp,by simp [v9],by simp,by omega,by omega,by simp,by simp <;> omega,by simp [Fa01,Fa02,Fa03,Fa04,Fb01,Fb02,Fb03,Fb04,Fc01,Fc02,Fc03,Fc04,Fd01,Fd02,Fd03,Fd04,Fo01,Fo02,Fo03,Fo04,N0a,N0b,N1a,N1b,N2a,N2b,N3a,N3b,y0,y1,y2,y3,y4,y5,na,Fw01,Fw02,Fw03,Fw04,M0a,M0b,M1a,M1b,M2a,M2b,M3a,M3b,M4a,M4b,hS0],by simp [Fa01,Fa02,Fa03,Fa04,Fb01,Fb02,Fb03,Fb04,Fc01,Fc02,Fc03,Fc04,Fd01,Fd02,Fd03,Fd04,Fo01,Fo02,Fo03,Fo04,N0a,N0b,N1a,N1b,N2a,N2b,N3a,N3b,y0,y1,y2,y3,y4,y5,na,Fw01,Fw02,Fw03,Fw04,M0a,M0b,M1a,M1b,M2a,M2b,M3a,M3b,M4a,M4b,hS1],by simp [Fa01,Fa02,Fa03,Fa04,Fb01,Fb02,Fb03,Fb04,Fc01,Fc02,Fc03,Fc04,Fd01,Fd02,Fd03,Fd04,Fo01,Fo02,Fo03,Fo04,N0a,N0b,N1a,N1b,N2a,N2b,N3a,N3b,y0,y1,y2,y3,y4,y5,na,Fw01,Fw02,Fw03,Fw04,M0a,M0b,M1a,M1b,M2a,M2b,M3a,M3b,M4a,M4b,hS2],by simp [Fa01,Fa02,Fa03,Fa04,Fb01,Fb02,Fb03,Fb04,Fc01,Fc02,Fc03,Fc04,Fd01,Fd02,Fd03,Fd04,Fo01,Fo02,Fo03,Fo04,N0a,N0b,N1a,N1b,N2a,N2b,N3a,N3b,y0,y1,y2,y3,y4,y5,na,Fw01,Fw02,Fw03,Fw04,M0a,M0b,M1a,M1b,M2a,M2b,M3a,M3b,M4a,M4b],by simp [Fa01,Fa02,Fa03,Fa04,Fb01,Fb02,Fb03,Fb04,Fc01,Fc02,Fc03,Fc04,Fd01,Fd02,Fd03,Fd04,Fo01,Fo02,Fo03,Fo04,N0a,N0b,N1a,N1b,N2a,N2b,N3a,N3b,y0,y1,y2,y3,y4,y5,na,Fw01,Fw02,Fw03,Fw04,M0a,M0b,M1a,M1b,M2a,M2b,M3a,M3b,M4a,M4b],.inr ⟨st.nx+7,st.ep,by simp,by omega,by simp,by simp,by simp [nd,Fo03,Fo04,Fo01,Fo02,y0,y1,y2,y3,y4,y5]⟩⟩
   ·have hiq:i=Q.length:=by have:=hG.le; omega
    have hgo:=hG.go
    rw [ylm (List.getElem?_eq_none (by omega)),← hR'] at hgo
    subst hgo
    have hol:=hG.ol
    rcases hN with ⟨rfl,rfl⟩ | ⟨w,ew,rfl,hw5,hwx,hwo,hSw⟩
    ·simp [-getElem?_pos,zh5,v1,v3,v5,v6,v8,v9,v10,hS0,hS1,hS2,hS5,hSo,hlt,Fa01,Fa02,Fa03,Fa04,Fb01,Fb02,Fb03,Fb04,Fc01,Fc02,Fc03,Fc04,Fd01,Fd02,Fd03,Fd04,Fo01,Fo02,Fo03,Fo04,N0a,N0b,N1a,N1b,N2a,N2b,N3a,N3b,y0,y1,y2,y3,y4,y5,na]
    ·obtain ⟨Fw01,Fw02,Fw03,Fw04⟩:=fr (show w<st.nx by omega)
     have M0a:(w=0)=False:=eq_false (by omega)
     have M0b:(0=w)=False:=eq_false (by omega)
     have M1a:(w=1)=False:=eq_false (by omega)
     have M1b:(1=w)=False:=eq_false (by omega)
     have M2a:(w=2)=False:=eq_false (by omega)
     have M2b:(2=w)=False:=eq_false (by omega)
     have M3a:(w=5)=False:=eq_false (by omega)
     have M3b:(5=w)=False:=eq_false (by omega)
     have M4a:(w=o)=False:=eq_false (by omega)
     have M4b:(o=w)=False:=eq_false (by omega)
     simp [-getElem?_pos,zh5,v1,v3,v5,v6,v8,v9,v10,hS0,hS1,hS2,hS5,hSo,hSw,hlt,Fa01,Fa02,Fa03,Fa04,Fb01,Fb02,Fb03,Fb04,Fc01,Fc02,Fc03,Fc04,Fd01,Fd02,Fd03,Fd04,Fo01,Fo02,Fo03,Fo04,N0a,N0b,N1a,N1b,N2a,N2b,N3a,N3b,y0,y1,y2,y3,y4,y5,na,Fw01,Fw02,Fw03,Fw04,M0a,M0b,M1a,M1b,M2a,M2b,M3a,M3b,M4a,M4b]
  ·refine ⟨by simp,by simp,by simp,by simp,by simp,by simp,by simp,by simp,by simp,by simp,by simp,by simp,by simp,by simp,by simp,by simp [hroot],.inl ⟨rfl,rfl⟩⟩
theorem zyg {c v:List (List Int)} {g:List Int} {cfg:Cfg} : ∀ (n:Nat) (q:List Pnd) (i:Nat) (out:List Nd),(zcx c v g cfg n q i out).length≤out.length+n
 | 0,q,i,out=>by simp [zcx]
 | n+1,q,i,out=>by
  rw [zcx]
  split
  ·omega
  ·split
   ·refine Nat.le_trans (zyg n _ _ _) ?_
    simp; omega
   ·refine Nat.le_trans (zyg n _ _ _) ?_
    simp; omega
def zf5 (n:Nat) (r:List Int):Bool:=decide ((r.length:Int)=n) && r.all zba
def zjq (t:Ta):Bool:=zak t.ns.length 1 4 && zio (t.ns++[t.nm]) && zak t.rw.length 1 40 && decide ((t.lb.length:Int)=t.rw.length) && t.lb.all zba && t.rw.all (zf5 t.ns.length)
theorem z92 {L:List ByteArray} {x:ByteArray} {i:Nat} (h:i<L.length):nmB (L++[x]) i=nmB L i:=by
 obtain ⟨y,hy⟩ : ∃ y,L[i]?=some y:=⟨_,List.getElem?_eq_getElem h⟩
 have hy2:(L++[x])[i]?=some y:=by rw [List.getElem?_append_left h]; exact hy
 rw [zxh hy,zxh hy2,List.take_append_of_le_length (by omega)]
theorem yl4 {L:List ByteArray} {x:ByteArray}:nmB (L++[x]) L.length=(zem x && !zgc L x):=by
 rw [zxh (x:=x) (by simp)]
 simp
theorem yqx (L:List ByteArray) (x:ByteArray):zio (L++[x])=(zio L && (zem x && !zgc L x)):=by
 unfold zio
 rw [show (L++[x]).length=L.length+1 by simp,List.range_succ,List.all_append]
 simp only [List.all_cons,List.all_nil,Bool.and_true]
 rw [yl4]
 congr 1
 rw [Bool.eq_iff_iff,List.all_eq_true,List.all_eq_true]
 constructor
 ·intro h j hj; rw [← z92 (x:=x) (List.mem_range.mp hj)]; exact h j hj
 ·intro h j hj; rw [z92 (List.mem_range.mp hj)]; exact h j hj
abbrev taB (q:Bool) (t:Ta):List PV:=[.sl 1 (zcv t.ns),.v (.string t.nm),.sl 1 (rws q t.rw),.sl 1 (zac t.lb)]
theorem ypp (q:Bool) (t:Ta) (ht:TaL 9223372036854775807 t) {Q:Ex→St→Prop} {st:St} (h1:st.V 1 = .ptr 0 none 0 0 0) (h3:st.V 3=iv t.ns.length) (h4:st.V 4=iv (0:Nat)) (hS:st.S 0=some (.box (taB q t)))
  (hr:zio t.ns=false→∀ s:St,s.V 2=bv false→Q .ret s) (he:zio t.ns=true→∀ s:St,s.V 1 = .ptr 0 none 0 0 0→s.V 3=iv t.ns.length→s.S 0=some (.box (taB q t))→Q (.exit 0) s):W (zae T) (RUN T) (.loop zod) st Q:=by
 refine za3 (fun n st => ∃ i:Nat,i+n=t.ns.length∧(∀ j,j<i→nmB t.ns j=true)∧st.V 1 = .ptr 0 none 0 0 0∧st.V 3=iv t.ns.length∧st.V 4=iv i∧st.S 0=some (.box (taB q t))) ?_ t.ns.length _ ⟨0,by omega,fun _ h=>by omega,h1,h3,h4,hS⟩
 clear h1 h3 h4 hS
 rintro n st ⟨i,hi,hj,v1,v3,v4,hS⟩
 by_cases h:i<t.ns.length
 ·obtain ⟨x,hx⟩ : ∃ x,t.ns[i]?=some x:=⟨_,List.getElem?_eq_getElem h⟩
  have hx':=z6s hx
  have hw:=wS h ht.ns
  have hml:=ht.ns
  have hN:=z4d x (ht.ss x (List.mem_of_getElem? hx))
  have hC:=z4e (t.ns.take i) x (by simp; omega)
  have hc:=zxh hx
  have hil:i≤t.ns.length:=by omega
  cases a1:zem x with
  | false =>
   rw [a1] at hN hc
   simp [-getElem?_pos,zod,v1,v3,v4,hS,hx',h,hw,hN]
   exact hr (zhw h (by rw [hc]; rfl)) _ (by simp)
  | true =>
   rw [a1] at hN hc
   cases a2:zgc (t.ns.take i) x with
   | true =>
    rw [a2] at hC hc
    simp [-getElem?_pos,zod,v1,v3,v4,hS,hx',h,hw,hN,hC,hil,z5z]
    exact hr (zhw h (by rw [hc]; rfl)) _ (by simp)
   | false =>
    rw [a2] at hC hc
    simp [-getElem?_pos,zod,v1,v3,v4,hS,hx',h,hw,hN,hC,hil,z5z]
    exact zaq (n-1) (by omega) ⟨i+1,by omega,zoq hj (by rw [hc]; rfl),by simp [v1],by simp [v3],by simp,by simp [hS]⟩
 ·simp [-getElem?_pos,zod,v3,v4,h]
  exact he (zw2 fun j hj'=>hj j (by omega)) _ (by simp [v1]) (by simp [v3]) (by simp [hS])
theorem yoa (q:Bool) (t:Ta) (ht:TaL 9223372036854775807 t) {r:List Int} {j:Nat} (hj:t.rw[j]?=some r) (hl:r.length=t.ns.length) {Q:Ex→St→Prop} {st:St} (h1:st.V 1 = .ptr 0 none 0 0 0) (h3:st.V 3=iv t.ns.length) (h5:st.V 5=iv j) (h6:st.V 6=iv (0:Nat)) (hS:st.S 0=some (.box (taB q t)))
  (hr:r.all zba=false→∀ s:St,s.V 2=bv false→Q .ret s) (he:r.all zba=true→∀ s:St,s.V 1 = .ptr 0 none 0 0 0→s.V 3=iv t.ns.length→s.V 5=iv j→s.S 0=some (.box (taB q t))→Q (.exit 4) s):W (zae T) (RUN T) (.loop zqk) st Q:=by
 have hj':=ze4 (q:=q) hj
 have hjl:=(List.getElem?_eq_some_iff.mp hj).1
 refine za3 (fun n st => ∃ i:Nat,i+n=r.length∧(∀ (k:Nat) (x:Int),k<i→r[k]?=some x→zba x=true)∧st.V 1 = .ptr 0 none 0 0 0∧st.V 3=iv t.ns.length∧st.V 5=iv j∧st.V 6=iv i∧st.S 0=some (.box (taB q t))) ?_ r.length _ ⟨0,by omega,fun _ _ h=>by omega,h1,h3,h5,h6,hS⟩
 clear h1 h3 h5 h6 hS
 rintro n st ⟨i,hi,hk,v1,v3,v5,v6,hS⟩
 by_cases h:i<t.ns.length
 ·obtain ⟨x,hx⟩ : ∃ x,r[i]?=some x:=⟨_,List.getElem?_eq_getElem (by omega)⟩
  have hx':=zbj hx
  have hw:=wS h ht.ns
  have hir:i<r.length:=by omega
  have hD:=zlg x
  cases a1:zba x with
  | false =>
   rw [a1] at hD
   simp [-getElem?_pos,zqk,-zlg,v1,v3,v5,v6,hS,hj',hjl,hir,hx',h,hw,hD]
   exact hr (zrt hx a1) _ (by simp)
  | true =>
   rw [a1] at hD
   simp [-getElem?_pos,zqk,-zlg,v1,v3,v5,v6,hS,hj',hjl,hir,hx',h,hw,hD]
   exact zaq (n-1) (by omega) ⟨i+1,by omega,zoo (P:=fun _ x=>zba x=true) hk hx a1,by simp [v1],by simp [v3],by simp [v5],by simp,by simp [hS]⟩
 ·simp [-getElem?_pos,zqk,v3,v6,h]
  exact he (zqw fun k a h1 h2=>hk k a (by omega) h2) _ (by simp [v1]) (by simp [v3]) (by simp [v5]) (by simp [hS])
theorem z7v {M:List (List Int)} {p:List Int→Bool} {j:Nat} {a:List Int} (h1:M[j]?=some a) (h2:p a=false):M.all p=false:=by
 cases e:M.all p with
 | false=>rfl
 | true=>rw [List.all_eq_true.mp e a (List.mem_of_getElem? h1)] at h2; cases h2
theorem ypr {M:List (List Int)} {p:List Int→Bool} (h : ∀ (j:Nat) (a:List Int),j<M.length→M[j]?=some a→p a=true):M.all p=true:=by
 rw [List.all_eq_true]
 intro x hx
 obtain ⟨j,hj⟩:=List.getElem?_of_mem hx
 exact h j x (List.getElem?_eq_some_iff.mp hj).1 hj
end Go.Pe
