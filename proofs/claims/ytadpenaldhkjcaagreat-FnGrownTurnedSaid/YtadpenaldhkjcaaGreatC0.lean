/- What each function answers by the evaluator,and the law; for each answer its own conditions stand ahead of it. -/
import Derived.Test.YtadpenaldhkjcaaGreatK1
import Derived.Test.YtadpenaldhkjcaaGreatEvB2
import Derived.IntWalk
set_option linter.all false
namespace Go.Pe
open Go
theorem w64 {x:Int} (h1 : -9223372036854775808≤x) (h2:x≤9223372036854775807):IntKind.i64.wrap x=x:=IntWalk.i64_in x ⟨h1,h2⟩
@[simp] theorem y99 {x:Int} (h1 : -9223372036854775808≤x) (h2:x≤9223372036854775807):IntKind.i64.wrap x=x:=w64 h1 h2
structure Nd where
 f:Int
 c:Int
 l:Int
 r:Int
 v:Int
deriving DecidableEq
def nd (n:Nd):List PV:=[iv n.f,iv n.c,iv n.l,iv n.r,iv n.v]
@[simp] theorem zcp (a b c:Int):RUN T zcd [iv a,iv b,iv c]=some ([bv (decide (b≤a) && decide (a≤c))],[]):=by
 refine zah z59 rfl ?_
 simp [zvr,zvs]
 refine zdz (fun h => ?_) (fun h => ?_) <;> simp [h]
@[simp] theorem za2 (a b c:Int):RUN T zbt [iv a,iv b,iv c]=some ([bv (decide (b≤a) && decide (a≤c))],[]):=by
 refine zah z5x rfl ?_
 simp [zvf,zvg]
 refine zdz (fun h => ?_) (fun h => ?_) <;> simp [h]
def zjj {α:Type} (p:α→Bool) (l:List α):Int:=match l.findIdx? p with
 | some i=>(i:Int)
 | none => -1
theorem yaw {α:Type} {p:α→Bool} {l:List α} (h : ∀ (j:Nat) (x:α),j<l.length→l[j]?=some x→p x=false):zjj p l = -1:=by
 unfold zjj
 have:l.findIdx? p=none:=by
  rw [List.findIdx?_eq_none_iff]
  intro x hx
  obtain ⟨j,hj⟩:=List.getElem?_of_mem hx
  exact h j x (List.getElem?_eq_some_iff.mp hj).1 hj
 rw [this]
theorem ybb {α:Type} {p:α→Bool} {l:List α} {i:Nat} {x:α} (hi:l[i]?=some x) (hp:p x=true) (h : ∀ (j:Nat) (x:α),j<i→l[j]?=some x→p x=false):zjj p l=i:=by
 unfold zjj
 have:l.findIdx? p=some i:=by
  rw [List.findIdx?_eq_some_iff_getElem]
  obtain ⟨h1,h2⟩:=List.getElem?_eq_some_iff.mp hi
  refine ⟨h1,by rw [h2]; exact hp,fun j hj => ?_⟩
  have:=h j l[j] hj (List.getElem?_eq_getElem (by omega))
  simp [this]
 rw [this]
theorem ybo {α:Type} {p:α→Bool} {l:List α} {i:Nat} {x:α} (h : ∀ (j:Nat) (x:α),j<i→l[j]?=some x→p x=false) (hi:l[i]?=some x) (hp:p x=false) : ∀ (j:Nat) (x:α),j<i+1→l[j]?=some x→p x=false:=by
 intro j y hj hy
 by_cases e:j=i
 ·subst e; rw [hi] at hy; cases hy; exact hp
 ·exact h j y (by omega) hy
def yg0 (k:Int) (n:Nd):Bool := !decide (n.f = -1) && (decide (n.l=k) || decide (n.r=k))
def par (t:List Nd) (k:Int):Int:=zjj (yg0 k) t
theorem wS {i n:Nat} (h:i<n) (hn:n≤9223372036854775807):IntKind.i64.wrap ((i:Int)+1)=(i:Int)+1:=w64 (by omega) (by omega)
def zac (l:List Int):List (List PV):=l.map fun n=>[iv n]
@[simp] theorem qje (l:List Int):(zac l).length=l.length:=by simp [zac]
theorem zba {l:List Int} {i:Nat} {x:Int} (h:l[i]?=some x):(zac l)[i]?=some [iv x]:=by simp [zac,h]
@[simp] theorem qgp:zac []=[]:=rfl
theorem zt8 (x:Int) (l:List Int):zac (x::l)=[iv x]::zac l:=rfl
theorem yfq (l:List Int) (i:Nat) (x:Int):(zac l).set i [iv x]=zac (l.set i x):=by simp [zac,List.map_set]
theorem ywy (l m:List Int):zac l++zac m=zac (l++m):=by simp [zac]
theorem zcv (l:List Int) (x:Int):zac l++[[iv x]]=zac (l++[x]):=by simp [zac]
theorem yfm (l:List Int):zdt (zac l)=true:=by simp [zdt,zac]
def anc (t:List Nd):Nat→Int→Option (List Int)
 | 0,_=>none
 | n+1,k=>if par t k<0 then some [] else (anc t n (par t k)).map (par t k :: ·)
def way (t:List Nd) (k:Int):List Int:=if 0≤k∧k≤t.length-1 then match anc t 32 k with
  | some l=>(k::l).reverse
  | none=>[]
 else []
theorem zc3 {n:Nat} (h:n≤17592186044416):zak 8 n=true:=by simp [zak]; omega
def upto (k:Int) (n:Nat):List Int:=(List.range n).map fun (i:Nat)=>k+(i:Int)
@[simp] theorem y91 (k:Int) (n:Nat):(upto k n).length=n:=by simp [upto]
theorem zfg {α:Type} {l:List α} {i:Nat} {x:α} (h:l[i]?=some x):l.drop i=x::l.drop (i+1):=by
 obtain ⟨h1,h2⟩:=List.getElem?_eq_some_iff.mp h
 rw [List.drop_eq_getElem_cons h1,h2]
def inI (n:Int):Prop := -9223372036854775808≤n∧n≤9223372036854775807
def box (t:List Nd) (f:Int):List Int→Int→Int→Int×Int
 | a::b::r,lo,hi=>match t[a.toNat]? with
  | none=>(lo,hi)
  | some x=>if x.f=f then (if x.l=b then box t f (b::r) lo (min hi x.c) else if x.c=9223372036854775807 then box t f (b::r) lo hi else box t f (b::r) (max lo (x.c+1)) hi) else box t f (b::r) lo hi
 | _,lo,hi=>(lo,hi)
theorem ypx {f:Nat} {p:Int→Bool} (l:List Int) (hl:l.length≤9223372036854775807) (hm:zad T f=[]) (hp : ∀ n∈l,RUN T f [iv n]=some ([bv (p n)],[])) :
  RUN T zlw [.sl 1 (zac l),.fn f []]=some ([iv (zjj p l)],[]):=by
 refine zah z1u rfl ?_
 simp [zso,zsp]
 refine za0 (fun n st => ∃ i:Nat,i+n=l.length∧st.V 0 = .sl 1 (zac l)∧st.V 1 = .fn f []∧st.V 8=iv i∧st.V 7=iv l.length∧∀ (j:Nat) (x:Int),j<i→l[j]?=some x→p x=false) ?_ l.length _ ⟨0,by simp⟩
 rintro n st ⟨i,hi,h0,h1,h8,h7,hj⟩
 simp [z1o,h0,h1,h8,h7]
 refine zdz (fun h => ?_) (fun h => ?_)
 ·simp at h
  obtain ⟨x,hx⟩ : ∃ x,l[i]?=some x:=⟨_,List.getElem?_eq_getElem h⟩
  have hw:=wS h hl
  have hx':=zba hx
  have hpx:=hp x (List.mem_of_getElem? hx)
  simp [-getElem?_pos,h0,h1,h8,h7,hx',hw,hm,hpx,h]
  refine zdz (fun b0 => ?_) (fun b0 => ?_) <;> (try simp at b0) <;> simp [-getElem?_pos,b0,h0,h1,h8,h7,hx',hw]
  all_goals first
   | exact (ybb hx b0 hj).symm
   | exact zan (n-1) (by omega) ⟨i+1,by omega,by simp [h0],by simp [h1],by simp,by simp [h7],ybo hj hx b0⟩
 ·simp at h
  simp [h]
  exact (yaw fun j x hl hx=>hj j x (by omega) hx).symm
theorem ygk {α:Type} {p:α→Bool} {l:List α}:decide (0≤zjj p l)=l.any p:=by
 unfold zjj
 cases h:l.findIdx? p with
 | none =>
  rw [List.findIdx?_eq_none_iff] at h
  simp
  exact fun x hx=>h x hx
 | some i =>
  obtain ⟨h1,h2,_⟩:=List.findIdx?_eq_some_iff_getElem.mp h
  simp
  exact ⟨_,List.getElem_mem h1,h2⟩
theorem z1w {f:Nat} {p:Int→Bool} (l:List Int) (hl:l.length≤9223372036854775807) (hm:zad T f=[]) (hp : ∀ n∈l,RUN T f [iv n]=some ([bv (p n)],[])) :
  RUN T zh7 [.sl 1 (zac l),.fn f []]=some ([bv (l.any p)],[]):=by
 refine zah z1t rfl ?_
 have e:=ypx l hl hm hp
 simp [zr9,zsa,e,ygk]
structure Cfg where
 ro:Int
 de:Int
 bi:Int
 la:Int
 rw:Int
 nu:Int
 dn:Int
 sg:List Int
def zaj (n a b:Int):Bool:=decide (a≤n) && decide (n≤b)
def zcg (c:Cfg):Bool:=zaj c.ro 1 8 && zaj c.de 0 4 && zaj c.bi 2 8 && zaj c.la 1 100 && zaj c.rw 1 20 && zaj c.dn 1 1000 && zaj c.nu 1 c.dn && decide ((c.sg.length:Int)≤4) && c.sg.all fun n=>zaj n (-1) 1
@[simp] theorem y3o (n:Int):RUN T zo1 [iv n]=some ([bv (zaj n (-1) 1)],[]):=by
 refine zah z66 rfl ?_
 simp [zwz,zw0,zaj]
@[simp] theorem ypy (n:Int):RUN T zls [iv n]=some ([bv (!zaj n (-1) 1)],[]):=by
 refine zah z65 rfl ?_
 simp [zwx,zwy]
theorem zdy (a b c:Int):RUN T zcd [iv a,iv b,iv c]=some ([bv (zaj a b c)],[]):=zcp a b c
theorem zbd (a b c:Int):RUN T zbt [iv a,iv b,iv c]=some ([bv (zaj a b c)],[]):=za2 a b c
theorem z9f (c:Cfg) (hl:c.sg.length≤9223372036854775807):RUN T zle [.agg [iv c.ro,iv c.de,iv c.bi,iv c.la,iv c.rw,iv c.nu,iv c.dn,.sl 1 (zac c.sg)]]=some ([bv (zcg c)],[]):=by
 refine zah z5z rfl ?_
 have e:=z1w (f:=zls) (p:=fun n => !zaj n (-1) 1) c.sg hl (by simp) (fun n _=>ypy n)
 have e2 : ∀ l:List Int,(l.any fun n => !zaj n (-1) 1) = !(l.all fun n=>zaj n (-1) 1):=by intro l; induction l <;> simp_all
 rw [e2] at e
 simp [zvj,zvk,zdy,-zcp]
 cases h0:zaj c.ro 1 8 <;> cases h1:zaj c.de 0 4 <;> simp [h0,h1,zdy,-zcp]
 all_goals try (simp [zcg,h0,h1]; done)
 cases h2:zaj c.bi 2 8 <;> cases h3:zaj c.la 1 100 <;> simp [h2,h3,zdy,-zcp]
 all_goals try (simp [zcg,h2,h3]; done)
 cases h4:zaj c.rw 1 20 <;> cases h5:zaj c.dn 1 1000 <;> simp [h4,h5,zdy,-zcp]
 all_goals try (simp [zcg,h4,h5]; done)
 cases h6:zaj c.nu 1 c.dn <;> simp [h6,zdy,-zcp]
 all_goals try (simp [zcg,h6]; done)
 by_cases h7:(c.sg.length:Int)≤4
 ·simp [h7,e,zcg,h0,h1,h2,h3,h4,h5,h6]
 ·simp [h7,zcg]
theorem zq2 {m:Nat→List Bool} {R:zai} {c:IC} {st:St} {Q:Ex→St→Prop} (h:W m R c st (Nx (fun s=>W m R (.loop c) s Q) Q ⟨⟩ ⟨⟩)):W m R (.loop c) st Q:=yup ▸ h
theorem ypz (a b c d e f g:Int) (x:PV) (sg:List (List PV)):RUN T zo4 [.agg [iv a,iv b,iv c,iv d,iv e,iv f,iv g,.sl 1 sg]]=some ([.own 1 (zac [a,b,c,d,e])],[]):=by
 refine zah z7c rfl ?_
 simp [zw9,zxa,zac]
theorem zs9:RUN T zo5 []=some ([.own 1 (zac [1,0,2,1,1])],[]):=by
 refine zah z7d rfl ?_
 simp [zxb,zxc,zac]
theorem zta:RUN T zo6 []=some ([.own 1 (zac [8,4,8,100,20])],[]):=by
 refine zah z7e rfl ?_
 simp [zxd,zxe,zac]
theorem z9g (c:Cfg) (hl:c.sg.length≤9223372036854775807):RUN T zlh [.agg [iv c.ro,iv c.de,iv c.bi,iv c.la,iv c.rw,iv c.nu,iv c.dn,.sl 1 (zac c.sg)]]=some ([bv (zcg c)],[]):=by
 refine zah z54 rfl ?_
 have e1:=ypz c.ro c.de c.bi c.la c.rw c.nu c.dn .undef (zac c.sg)
 simp [zvn,zvo,e1]
 refine zq2 ?_
 simp [zmu,zs9,zta,zbd,-za2,zt8]
 cases h0:zaj c.ro 1 8 <;> simp [h0]
 ·simp [zcg,h0]
 refine zq2 ?_
 simp [zmu,zs9,zta,zbd,-za2,zt8]
 cases h1:zaj c.de 0 4 <;> simp [h1]
 ·simp [zcg,h1]
 refine zq2 ?_
 simp [zmu,zs9,zta,zbd,-za2,zt8]
 cases h2:zaj c.bi 2 8 <;> simp [h2]
 ·simp [zcg,h2]
 refine zq2 ?_
 simp [zmu,zs9,zta,zbd,-za2,zt8]
 cases h3:zaj c.la 1 100 <;> simp [h3]
 ·simp [zcg,h3]
 refine zq2 ?_
 simp [zmu,zs9,zta,zbd,-za2,zt8]
 cases h4:zaj c.rw 1 20 <;> simp [h4]
 ·simp [zcg,h4]
 refine zq2 ?_
 simp [zmu]
 refine za0 (fun n st => ∃ i:Nat,i+n=c.sg.length∧st.V 1 = .ptr 0 none 0 0 0∧st.V 5=iv i∧st.S 0=some (.box [iv c.ro,iv c.de,iv c.bi,iv c.la,iv c.rw,iv c.nu,iv c.dn,.sl 1 (zac c.sg)])∧∀ (j:Nat) (x:Int),j<i→c.sg[j]?=some x→zaj x (-1) 1=true) ?_ c.sg.length _ ⟨0,by simp⟩
 rintro n st ⟨i,hi,h1',h5,hS,hj⟩
 simp [z45,h1',h5,hS]
 refine zdz (fun h => ?_) (fun h => ?_)
 ·simp at h
  obtain ⟨x,hx⟩ : ∃ x,c.sg[i]?=some x:=⟨_,List.getElem?_eq_getElem h⟩
  have hw:=wS h hl
  have hx':=zba hx
  simp [-getElem?_pos,h1',h5,hS,hx',hw,h,zbd,-za2]
  cases hb:zaj x (-1) 1 with
  | true =>
   simp [-getElem?_pos,h1',h5,hS,hw]
   refine zan (n-1) (by omega) ⟨i+1,by omega,by simp [h1'],by simp,by simp [hS],fun j y hj' hy => ?_⟩
   by_cases e:j=i
   ·subst e; rw [hx] at hy; cases hy; exact hb
   ·exact hj j y (by omega) hy
  | false =>
   simp [zcg]
   intros
   exact ⟨x,List.mem_of_getElem? hx,hb⟩
 ·simp at h
  have hall:(c.sg.all fun n=>zaj n (-1) 1)=true:=by
   rw [List.all_eq_true]
   intro x hx
   obtain ⟨j,hj'⟩:=List.getElem?_of_mem hx
   exact hj j x (by have:=(List.getElem?_eq_some_iff.mp hj').1; omega) hj'
  simp [h1',hS,zbd,-za2]
  cases h5:zaj c.dn 1 1000 <;> simp [h1',hS,h5,zbd,-za2]
  ·simp [zcg,h5]
  cases h6:zaj c.nu 1 c.dn <;> simp [h1',hS,h6,zbd,-za2]
  ·simp [zcg,h6]
  simp [zcg,h0,h1,h2,h3,h4,h5,h6,hall]
def fdv (a b:Int):Int×Bool:=if b=0∨(b = -1∧a = -9223372036854775808) then (0,false) else (a.fdiv b,true)
theorem ya9 {a b:Int} (ha:inI a) (hb:b≠0) (h : ¬ (b = -1∧a = -9223372036854775808)) : -9223372036854775808≤a.tdiv b∧a.tdiv b≤9223372036854775807∧(b≠1 → -9223372036854775808≤a.tdiv b-1):=by
 obtain ⟨h1,h2⟩:=ha
 have h3:(a.tdiv b).natAbs=a.natAbs / b.natAbs:=Int.natAbs_tdiv a b
 have h4:a.natAbs / b.natAbs≤a.natAbs:=Nat.div_le_self _ _
 by_cases c:b=1
 ·subst c; simp; omega
 by_cases c2:b = -1
 ·subst c2; simp; omega
 have h5:a.natAbs / b.natAbs≤a.natAbs / 2:=Nat.div_le_div_left (by omega) (by omega)
 omega
theorem ygd (a b:Int) (hb:b≠0):a.fdiv b=if a.tmod b≠0∧¬ (a<0↔b<0) then a.tdiv b-1 else a.tdiv b:=by
 rw [Int.fdiv_eq_tdiv]
 have hd:b ∣ a↔a.tmod b=0:=Int.dvd_iff_tmod_eq_zero
 by_cases c:b ∣ a
 ·rw [if_pos c,if_neg (by rw [hd.mp c]; simp)]; simp
 ·have hc:a.tmod b≠0:=fun e=>c (hd.mpr e)
  have ha:a≠0:=fun e=>c (by subst e; exact ⟨0,by simp⟩)
  rw [if_neg c]
  rcases Int.lt_or_gt_of_ne hb with s2 | s2
  ·rw [if_neg (by omega : ¬ 0≤b),if_neg (by omega : ¬ 0≤b),Int.sign_eq_neg_one_of_neg s2]
   by_cases s1:0≤a
   ·rw [if_pos s1,if_pos ⟨hc,by omega⟩]
   ·rw [if_neg s1,if_neg (fun h=>h.2 (by omega))]; omega
  ·rw [if_pos (by omega:0≤b),if_pos (by omega:0≤b),Int.sign_eq_one_of_pos s2]
   by_cases s1:0≤a
   ·rw [if_pos s1,if_neg (fun h=>h.2 (by omega))]; omega
   ·rw [if_neg s1,if_pos ⟨hc,by omega⟩]
theorem yp0 (a b:Int) (ha:inI a):RUN T zoo [iv a,iv b]=some ([iv (fdv a b).1,bv (fdv a b).2],[]):=by
 refine zah z6h rfl ?_
 simp [zv3,zv4]
 by_cases h0:b=0
 ·subst h0; simp [fdv]
 by_cases hbad:b = -1∧a = -9223372036854775808
 ·obtain ⟨rfl,rfl⟩:=hbad; simp [fdv]
 have hr:=ya9 ha h0 hbad
 have hq:=w64 hr.1 hr.2.1
 have hf:=ygd a b h0
 have e1:fdv a b=(a.fdiv b,true):=by unfold fdv; rw [if_neg (by simp [h0]; intro h; exact fun h2=>hbad ⟨h,h2⟩)]
 rw [e1]
 have hq2:a.tmod b≠0→IntKind.i64.wrap (a.tdiv b-1)=a.tdiv b-1:=fun h=>w64 (hr.2.2 (by rintro rfl; simp at h)) (by omega)
 have f0:=eq_false h0
 obtain ⟨p1,hp1⟩ : ∃ p,(b = -1)=p:=⟨_,rfl⟩
 obtain ⟨p2,hp2⟩ : ∃ p,(a = -9223372036854775808)=p:=⟨_,rfl⟩
 rw [hp1,hp2] at hbad
 by_cases c1:p1 <;> by_cases c2:p2
 ·exact (hbad ⟨c1,c2⟩).elim
 all_goals
  simp only [c1,c2] at hp1 hp2
  simp [f0,hp1,hp2,hq]
  by_cases d0:a.tmod b=0
  ·rw [if_neg (by simp [d0])] at hf
   simp [d0,hf]
  ·have hq3:=hq2 d0
   have d1:=eq_false d0
   by_cases d2:a<0 <;> by_cases d3:b<0
   all_goals
    simp only [d2,d3,ne_eq,d1,not_false_eq_true,iff_self,not_true_eq_false,and_false,if_false,iff_true,iff_false,and_true,if_true,true_iff,false_iff] at hf
    simp [d1,d2,d3,hq3,hf]
theorem yp1 (a b:Int) (ha:inI a):RUN T zo8 [iv a,iv b]=some ([iv (fdv a b).1,bv (fdv a b).2],[]):=by
 refine zah z7j rfl ?_
 simp [zxn,zxo]
 by_cases h0:b=0
 ·subst h0; simp [fdv]
 by_cases hbad:b = -1∧a = -9223372036854775808
 ·obtain ⟨rfl,rfl⟩:=hbad; simp [fdv]
 have hr:=ya9 ha h0 hbad
 have hq:=w64 hr.1 hr.2.1
 have hf:=ygd a b h0
 have e1:fdv a b=(a.fdiv b,true):=by unfold fdv; rw [if_neg (by simp [h0]; intro h; exact fun h2=>hbad ⟨h,h2⟩)]
 rw [e1]
 have hq2:a.tmod b≠0→IntKind.i64.wrap (a.tdiv b-1)=a.tdiv b-1:=fun h=>w64 (hr.2.2 (by rintro rfl; simp at h)) (by omega)
 have f0:=eq_false h0
 obtain ⟨p1,hp1⟩ : ∃ p,(b = -1)=p:=⟨_,rfl⟩
 obtain ⟨p2,hp2⟩ : ∃ p,(a = -9223372036854775808)=p:=⟨_,rfl⟩
 rw [hp1,hp2] at hbad
 by_cases c1:p1 <;> by_cases c2:p2
 ·exact (hbad ⟨c1,c2⟩).elim
 all_goals
  simp only [c1,c2] at hp1 hp2
  simp [f0,hp1,hp2,hq]
  by_cases d0:a.tmod b=0
  ·rw [if_neg (by simp [d0])] at hf
   simp [d0,hf]
  ·have hq3:=hq2 d0
   have d1:=eq_false d0
   by_cases d2:a<0 <;> by_cases d3:b<0
   all_goals
    simp only [d2,d3,ne_eq,d1,not_false_eq_true,iff_self,not_true_eq_false,and_false,if_false,iff_true,iff_false,and_true,if_true,true_iff,false_iff] at hf
    simp [d1,d2,d3,hq3,hf]
abbrev zf2 (c:Cfg):PV := .agg [iv c.ro,iv c.de,iv c.bi,iv c.la,iv c.rw,iv c.nu,iv c.dn,.sl 1 (zac c.sg)]
abbrev zjv (c:Cfg):PV := .agg [iv c.ro,iv c.de,iv c.bi,iv c.la,iv c.rw,iv c.nu,iv c.dn,.own 1 (zac c.sg)]
theorem za3 {n a b:Int}:zaj n a b=true↔a≤n∧n≤b:=by simp [zaj]
def zgz (v:Int):Bool:=zaj v (-1099511627776) 1099511627776
@[simp] theorem z9h (v:Int):RUN T zl0 [iv v]=some ([bv (zgz v)],[]):=by
 refine zah z7m rfl ?_
 simp [zxr,zxs,zgz,zaj]
@[simp] theorem z9i (v:Int):RUN T zl4 [iv v]=some ([bv (zgz v)],[]):=by
 refine zah z77 rfl ?_
 simp [zyl,zym,zgz,zaj]
def shr (v:Int) (c:Cfg):Int×Bool:=if zcg c && zgz v then (( v*c.nu).fdiv c.dn,true) else (0,false)
def zbk (n:Int):Bool:=zaj n (-2147483647) 2147483647
@[simp] theorem zm7 (v:Int):RUN T zka [iv v]=some ([bv (zbk v)],[]):=by
 refine zah z75 rfl ?_
 simp [zyh,zyi,zbk,zaj]
@[simp] theorem y3p (v:Int):RUN T zpu [iv v]=some ([bv (zbk v)],[]):=by
 refine zah z8t rfl ?_
 simp [zzc,zzd,zbk,zaj]
def adj (p:Int→Int→Bool):List Int→Bool
 | a::b::r=>p a b || adj p (b::r)
 | _=>false
theorem z3l {p:Int→Int→Bool} : ∀ {l:List Int},adj p l=true↔∃ (i:Nat) (a b:Int),l[i]?=some a∧l[i+1]?=some b∧p a b=true
 | []=>by simp [adj]
 | [x]=>by simp [adj]
 | x::y::r=>by
  simp only [adj,Bool.or_eq_true]
  rw [z3l (l:=y::r)]
  constructor
  ·rintro (h | ⟨i,a,b,h1,h2,h3⟩)
   ·exact ⟨0,x,y,rfl,rfl,h⟩
   ·exact ⟨i+1,a,b,by simpa using h1,by simpa using h2,h3⟩
  ·rintro ⟨i,a,b,h1,h2,h3⟩
   cases i with
   | zero=>simp at h1 h2; subst h1; subst h2; exact .inl h3
   | succ i=>exact .inr ⟨i,a,b,by simpa using h1,by simpa using h2,h3⟩
theorem zrd {α:Type} {P:Nat→α→Prop} {l:List α} {i:Nat} {x:α} (h : ∀ (j:Nat) (x:α),j<i→l[j]?=some x→P j x) (hi:l[i]?=some x) (hp:P i x) : ∀ (j:Nat) (x:α),j<i+1→l[j]?=some x→P j x:=by
 intro j y hj hy
 by_cases e:j=i
 ·subst e; rw [hi] at hy; cases hy; exact hp
 ·exact h j y (by omega) hy
def cel (q:Bool) (l:List Int):PV:=if q then .own 1 (zac l) else .sl 1 (zac l)
@[simp] theorem qge (q:Bool) (l:List Int):fz (cel q l) = .sl 1 (zac l):=by cases q <;> simp [cel]
def rws (q:Bool) (L:List (List Int)):List (List PV):=L.map fun l=>[cel q l]
@[simp] theorem qdc (q:Bool) (L:List (List Int)):(rws q L).length=L.length:=by simp [rws]
theorem zem {q:Bool} {L:List (List Int)} {i:Nat} {l:List Int} (h:L[i]?=some l):(rws q L)[i]?=some [cel q l]:=by simp [rws,h]
@[simp] theorem y3q (n:Int):RUN T zmc [iv n]=some ([bv (!zbk n)],[]):=by
 refine zah z8s rfl ?_
 simp [zza,zzb]
theorem yp2 (l:List Int) (hl:l.length≤9223372036854775807):RUN T zpk [.sl 1 (zac l)]=some ([bv (l.all zbk)],[]):=by
 refine zah z76 rfl ?_
 have e:=z1w (f:=zmc) (p:=fun n => !zbk n) l hl (by simp) (fun n _=>by simp)
 simp [zyj,zyk,e]
 simp [List.any_eq_not_all_not]
def zft (l:List Int):Bool := !adj (fun a b=>decide (b≤a)) l && l.all zbk && decide ((l.length:Int)≤7)
theorem yc0 {p:Int→Int→Bool} {l:List Int} (h : ∀ (j:Nat) (a b:Int),l[j]?=some a→l[j+1]?=some b→p a b=false):adj p l=false:=by
 cases e:adj p l with
 | false=>rfl
 | true =>
  obtain ⟨j,a,b,h1,h2,h3⟩:=z3l.mp e
  rw [h j a b h1 h2] at h3; cases h3
theorem yau {p:Int→Int→Bool} {l:List Int} {j:Nat} {a b:Int} (h1:l[j]?=some a) (h2:l[j+1]?=some b) (h3:p a b=true):adj p l=true:=z3l.mpr ⟨j,a,b,h1,h2,h3⟩
theorem zub {l:List Int} {p:Int→Bool} {j:Nat} {a:Int} (h1:l[j]?=some a) (h2:p a=false):l.all p=false:=by
 cases e:l.all p with
 | false=>rfl
 | true=>rw [List.all_eq_true.mp e a (List.mem_of_getElem? h1)] at h2; cases h2
theorem zuj {l:List Int} {p:Int→Bool} (h : ∀ (j:Nat) (a:Int),j<l.length→l[j]?=some a→p a=true):l.all p=true:=by
 rw [List.all_eq_true]
 intro x hx
 obtain ⟨j,hj⟩:=List.getElem?_of_mem hx
 exact h j x (List.getElem?_eq_some_iff.mp hj).1 hj
theorem yp3 (l:List Int) (hl:l.length≤9223372036854775807):RUN T zo7 [.sl 1 (zac l)]=some ([bv (zft l)],[]):=by
 refine zah z7f rfl ?_
 have hd:=yp2 l hl
 simp [zxf,zxg]
 refine za0 (fun n st => ∃ i:Nat,i+n=l.length+1∧1≤i∧st.V 0 = .sl 1 (zac l)∧st.V 3=iv i∧∀ (j:Nat) (a b:Int),j+1<i→l[j]?=some a→l[j+1]?=some b→decide (b≤a)=false) ?_ l.length _ ⟨1,by omega,by omega,by simp,by simp,fun j a b h=>by omega⟩
 rintro n st ⟨i,hi,h1,v0,v3,hj⟩
 simp [z49,v0,v3]
 refine zdz (fun h => ?_) (fun h => ?_)
 ·simp at h
  obtain ⟨k,rfl⟩ : ∃ k,i=k+1:=⟨i-1,by omega⟩
  obtain ⟨a,ha⟩ : ∃ a,l[k]?=some a:=⟨_,List.getElem?_eq_getElem (by omega)⟩
  obtain ⟨b,hb⟩ : ∃ b,l[k+1]?=some b:=⟨_,List.getElem?_eq_getElem h⟩
  have ha':=zba ha
  have hb':=zba hb
  have hw:IntKind.i64.wrap ((k:Int)+1+1)=(k:Int)+1+1:=w64 (by omega) (by omega)
  have hw1:IntKind.i64.wrap (k:Int)=k:=w64 (by omega) (by omega)
  have hkl:k<l.length:=by omega
  simp [-getElem?_pos,v0,v3,ha',hb',hw1,h,hkl]
  refine zdz (fun h2 => ?_) (fun h2 => ?_)
  ·simp at h2
   have:zft l=false:=by unfold zft; rw [yau ha hb (by simpa using h2)]; rfl
   simp [this]
  ·simp at h2
   simp [-getElem?_pos,v0,v3,hw]
   refine zan (n-1) (by omega) ⟨k+2,by omega,by omega,by simp [v0],by simp; omega,fun j x y hjk hx hy => ?_⟩
   by_cases e:j=k
   ·subst e; rw [ha] at hx; rw [hb] at hy; cases hx; cases hy; simp; omega
   ·exact hj j x y (by omega) hx hy
 ·simp at h
  have e:adj (fun a b=>decide (b≤a)) l=false:=yc0 fun j a b h1 h2=>hj j a b (by have:=(List.getElem?_eq_some_iff.mp h2).1; omega) h1 h2
  unfold zft
  rw [e]
  by_cases c:(l.length:Int)≤7
  ·simp [v0,hd,c]
  ·simp [v0,c]
theorem yp4 (l:List Int) (hl:l.length≤9223372036854775807):RUN T zo3 [.sl 1 (zac l)]=some ([bv (zft l)],[]):=by
 refine zah z7b rfl ?_
 simp [zw7,zw8]
 refine za0 (fun n st => ∃ i:Nat,i+n=l.length∧st.V 0 = .sl 1 (zac l)∧st.V 3=iv i∧(∀ (j:Nat) (a:Int),j<i→l[j]?=some a→zbk a=true)∧∀ (j:Nat) (a b:Int),j+1<i→l[j]?=some a→l[j+1]?=some b→decide (b≤a)=false) ?_ l.length _ ⟨0,by simp⟩
 rintro n st ⟨i,hi,v0,v3,hd,hj⟩
 simp [z48,v0,v3]
 refine zdz (fun h => ?_) (fun h => ?_)
 ·simp at h
  obtain ⟨b,hb⟩ : ∃ b,l[i]?=some b:=⟨_,List.getElem?_eq_getElem h⟩
  have hb':=zba hb
  have hw:=wS h hl
  rcases Bool.eq_false_or_eq_true (zbk b) with d | d
  ·have hd':=zrd (P:=fun _ a=>zbk a=true) hd hb d
   rcases i with _ | k
   ·simp [-getElem?_pos,v0,v3,hb',d,h,hw]
    exact zan (n-1) (by omega) ⟨1,by omega,by simp [v0],by simp,by simpa using hd',fun j x y hjk hx hy=>by omega⟩
   ·obtain ⟨a,ha⟩ : ∃ a,l[k]?=some a:=⟨_,List.getElem?_eq_getElem (by omega)⟩
    have ha':=zba ha
    have hw:IntKind.i64.wrap ((k:Int)+1+1)=(k:Int)+1+1:=w64 (by omega) (by omega)
    have hw1:IntKind.i64.wrap (k:Int)=k:=w64 (by omega) (by omega)
    have hkl:k<l.length:=by omega
    have hk0:(0:Int)<((k+1:Nat):Int):=by omega
    rcases Classical.propComplete (b≤a) with c | c
    ·have:zft l=false:=by unfold zft; rw [yau ha hb (by simp [c])]; rfl
     simp [-getElem?_pos,v0,v3,ha',hb',d,h,hw,hw1,hkl,hk0,c,this]
    ·simp [-getElem?_pos,v0,v3,ha',hb',d,h,hw,hw1,hkl,hk0,c]
     refine zan (n-1) (by omega) ⟨k+2,by omega,by simp [v0],by simp; omega,hd',fun j x y hjk hx hy => ?_⟩
     by_cases e:j=k
     ·subst e; rw [ha] at hx; rw [hb] at hy; cases hx; cases hy; simp [c]
     ·exact hj j x y (by omega) hx hy
  ·have:zft l=false:=by unfold zft; rw [zub hb d]; simp
   simp [-getElem?_pos,v0,v3,hb',d,h,this]
 ·simp at h
  have e:adj (fun a b=>decide (b≤a)) l=false:=yc0 fun j a b h1 h2=>hj j a b (by have:=(List.getElem?_eq_some_iff.mp h2).1; omega) h1 h2
  have e2:l.all zbk=true:=zuj fun j a h1 h2=>hd j a (by omega) h2
  unfold zft
  rw [e,e2]
  simp [v0]
def zc7:List (List Int)→Nat
 | []=>0
 | l::_=>l.length
theorem z1x (q:Bool) (c v:List (List Int)):RUN T zit [.agg [.sl 1 (rws q c),.sl 1 (rws q v)]]=some ([iv (zc7 v)],[]):=by
 refine zah z55 rfl ?_
 cases v with
 | nil=>simp [zr5,zr6,zc7]
 | cons l L =>
  have h:rws q (l::L)=[cel q l]::rws q L:=rfl
  have h0:((L.length:Int)+1=0)=False:=eq_false (by omega)
  simp [h0,zr5,zr6,zc7,h]
theorem z1y (q:Bool) (c v:List (List Int)):RUN T ziu [.agg [.sl 1 (rws q c),.sl 1 (rws q v)]]=some ([iv (zc7 v)],[]):=by
 refine zah z57 rfl ?_
 cases v with
 | nil=>simp [zr7,zr8,zc7]
 | cons l L =>
  have h:rws q (l::L)=[cel q l]::rws q L:=rfl
  have h0:((L.length:Int)+1=0)=False:=eq_false (by omega)
  simp [h0,zr7,zr8,zc7,h]
theorem yp5 {f:Nat} {c:PV} {p:Int→Bool} (l:List Int) (hl:l.length≤9223372036854775807) (hm:zad T f=[]) (hp : ∀ n∈l,RUN T f [iv n,.fptr [c] 0]=some ([bv (p n)],[])) :
  RUN T zlw [.sl 1 (zac l),.fn f [.fptr [c] 0]]=some ([iv (zjj p l)],[]):=by
 refine zah z1u rfl ?_
 simp [zso,zsp]
 refine za0 (fun n st => ∃ i:Nat,i+n=l.length∧st.V 0 = .sl 1 (zac l)∧st.V 1 = .fn f [.fptr [c] 0]∧st.V 8=iv i∧st.V 7=iv l.length∧∀ (j:Nat) (x:Int),j<i→l[j]?=some x→p x=false) ?_ l.length _ ⟨0,by simp⟩
 rintro n st ⟨i,hi,h0,h1,h8,h7,hj⟩
 simp [z1o,h0,h1,h8,h7]
 refine zdz (fun h => ?_) (fun h => ?_)
 ·simp at h
  obtain ⟨x,hx⟩ : ∃ x,l[i]?=some x:=⟨_,List.getElem?_eq_getElem h⟩
  have hw:=wS h hl
  have hx':=zba hx
  have hpx:=hp x (List.mem_of_getElem? hx)
  simp [-getElem?_pos,h0,h1,h8,h7,hx',hw,hm,hpx,h]
  refine zdz (fun b0 => ?_) (fun b0 => ?_) <;> (try simp at b0) <;> simp [-getElem?_pos,b0,h0,h1,h8,h7,hx',hw]
  all_goals first
   | exact (ybb hx b0 hj).symm
   | exact zan (n-1) (by omega) ⟨i+1,by omega,by simp [h0],by simp [h1],by simp,by simp [h7],ybo hj hx b0⟩
 ·simp at h
  simp [h]
  exact (yaw fun j x hl hx=>hj j x (by omega) hx).symm
theorem yp6 {f:Nat} {c:PV} {p:Int→Bool} (l:List Int) (hl:l.length≤9223372036854775807) (hm:zad T f=[]) (hp : ∀ n∈l,RUN T f [iv n,.fptr [c] 0]=some ([bv (p n)],[])) :
  RUN T zh7 [.sl 1 (zac l),.fn f [.fptr [c] 0]]=some ([bv (l.any p)],[]):=by
 refine zah z1t rfl ?_
 have e:=yp5 l hl hm hp
 simp [zr9,zsa,e,ygk]
@[simp] theorem y3r (n:Int) (a:List Int):RUN T zlv [iv n,.fptr [.sl 1 (zac a)] 0]=some ([bv (!zaj n 0 a.length)],[]):=by
 refine zah z7g rfl ?_
 simp [zxh,zxi,zdy,-zcp]
theorem ybm {s:St} {d:Option Dst} {op:IOp} {g:Opd} {v:Bool} {x:PV}:(yv s ⟨d,op,some (g,v)⟩=some x)=(Ob' (zhn v (g.get s)) fun t=>Br t (WI (fun _=>[]) (fun _ _=>none) op s (fun y _=>y=x)) (PV.v Go.undef=x)):=by
 simp only [yv,yf5,WI,Ob',Br,Option.map_eq_some_iff,Option.bind_eq_some_iff,eq_iff_iff]
 constructor
 ·rintro ⟨⟨y,s'⟩,⟨t,h1,h2⟩,h3⟩
  refine ⟨t,h1,fun ht => ?_,fun ht => ?_⟩ <;> subst ht
  ·exact ⟨y,s',by simpa using h2,h3⟩
  ·simp at h2; obtain ⟨rfl,rfl⟩:=h2; exact h3
 ·rintro ⟨t,h1,h2,h3⟩
  cases t with
  | true=>obtain ⟨y,s',h4,h5⟩:=h2 rfl; exact ⟨(y,s'),⟨true,h1,by simpa using h4⟩,h5⟩
  | false=>exact ⟨_,⟨false,h1,rfl⟩,h3 rfl⟩
@[simp] theorem qco {s:St} {d:Option Dst} {op:IOp} {g:Opd} {v:Bool} {x:PV} {n:Nat} {r:List (zab×PV×Nat)}:zb8 s ((⟨d,op,some (g,v)⟩,x,n+1)::r)=((Ob' (zhn v (g.get s)) fun t=>Br t (WI (fun _=>[]) (fun _ _=>none) op s (fun y _=>y=x)) (PV.v Go.undef=x))∧zb8 s r):=by
 simp only [zb8,ybm]
@[simp] theorem qgk {V E:Nat→PV} {d:Option Dst} {op:IOp} {g:Opd} {v:Bool} {x:PV} {n:Nat} {s:St} {ms:List St}:zay V E ⟨d,op,some (g,v)⟩ x (n+1) (s::ms)=((Ob' (zhn v (g.get { s with V:=V,E:=E })) fun t=>Br t (WI (fun _=>[]) (fun _ _=>none) op { s with V:=V,E:=E } (fun y _=>y=x)) (PV.v Go.undef=x))∧zay V E ⟨d,op,some (g,v)⟩ x n ms):=by
 simp only [zay,ybm]
def zfo (c v:List (List Int)) (f:Nat):Bool:=match c[f]?,v[f]? with
 | some a,some b=>zft a && decide ((b.length:Int)=zc7 v) && b.all fun x=>zaj x 0 a.length
 | _,_=>true
def zdr (c v:List (List Int)):Bool:=zaj c.length 1 4 && decide ((v.length:Int)=c.length) && zaj (zc7 v) 1 40 && (List.range c.length).all (zfo c v)
theorem yay {c v:List (List Int)} (h1:zaj c.length 1 4=true) (h2:(v.length:Int)=c.length) (h3:zaj (zc7 v) 1 40=true):zdr c v=(List.range c.length).all (zfo c v):=by
 simp [zdr,h1,h2,h3]
theorem z0e {p:Nat→Bool} {n:Nat} (h : ∀ i,i<n→p i=true):(List.range n).all p=true:=by
 rw [List.all_eq_true]
 intro x hx
 exact h x (by simpa using hx)
theorem zio {p:Nat→Bool} {n i:Nat} (hi:i<n) (h:p i=false):(List.range n).all p=false:=by
 cases e:(List.range n).all p with
 | false=>rfl
 | true=>rw [List.all_eq_true.mp e i (by simpa using hi)] at h; cases h
theorem ygm {c v:List (List Int)} {f:Nat} {a b:List Int} (ha:c[f]?=some a) (hb:v[f]?=some b):zfo c v f=(zft a && decide ((b.length:Int)=zc7 v) && b.all fun x=>zaj x 0 a.length):=by
 simp [zfo,ha,hb]
theorem zug {P:Nat→Prop} {i:Nat} (h : ∀ j,j<i→P j) (hi:P i) : ∀ j,j<i+1→P j:=by
 intro j hj
 by_cases e:j=i
 ·subst e; exact hi
 ·exact h j (by omega)
set_option maxHeartbeats 1000000 in
theorem z9j (q:Bool) (c v:List (List Int)) (hc : ∀ l∈c,l.length≤9223372036854775807) (hv : ∀ l∈v,l.length≤9223372036854775807):RUN T zli [.agg [.sl 1 (rws q c),.sl 1 (rws q v)]]=some ([bv (zdr c v)],[]):=by
 refine zah z56 rfl ?_
 have hR:=z1y q c v
 by_cases h1:zaj c.length 1 4=true
 case neg=>simp [zmv,zmw,zdy,-zcp,h1,zdr]
 by_cases h2:(v.length:Int)=c.length
 case neg=>simp [zmv,zmw,zdy,-zcp,h1,h2,zdr]
 by_cases h3:zaj (zc7 v) 1 40=true
 case neg=>simp [zmv,zmw,zdy,-zcp,h1,h2,h3,hR,zdr]
 have h1':=za3.mp h1
 rw [yay h1 h2 h3]
 simp [zmv,zmw,zdy,-zcp,h1,h2,h3,hR]
 refine za0 (fun n st => ∃ i:Nat,i+n=c.length∧(∀ j,j<i→zfo c v j=true)∧st.V 1 = .ptr 0 none 0 0 0∧st.V 26 = .sl 1 (rws q c)∧st.V 27=iv c.length∧st.V 28=iv i∧0<st.nx∧st.S 0=some (.box [.sl 1 (rws q c),.sl 1 (rws q v)])) ?_ c.length _ ⟨0,by simp⟩
 rintro n st ⟨i,hi,hk,v1,v26,v27,v28,hnx,hS⟩
 simp [z46,v26,v27,v28]
 have z:=fr hnx
 refine zdz (fun h => ?_) (fun h => ?_)
 ·simp at h
  obtain ⟨a,ha⟩ : ∃ a,c[i]?=some a:=⟨_,List.getElem?_eq_getElem h⟩
  obtain ⟨b,hb⟩ : ∃ b,v[i]?=some b:=⟨_,List.getElem?_eq_getElem (by omega)⟩
  have ha':=zem (q:=q) ha
  have hb':=zem (q:=q) hb
  have hal:=hc a (List.mem_of_getElem? ha)
  have hbl:=hv b (List.mem_of_getElem? hb)
  have hC:=yp3 a hal
  have hF:=yp6 (f:=zlv) (c := .sl 1 (zac a)) (p:=fun n => !zaj n 0 a.length) b hbl (by simp) (fun n _=>by simp)
  have hw:=wS h (by omega:c.length≤9223372036854775807)
  have hiv:i<v.length:=by omega
  have hfe:=ygm ha hb
  by_cases d1:zft a=true
  ·rcases Classical.propComplete ((b.length:Int)=zc7 v) with d2 | d2
   ·by_cases d3:(b.all fun x=>zaj x 0 a.length)=true
    ·have d3':(b.any fun n => !zaj n 0 a.length)=false:=by simpa [List.any_eq_not_all_not] using d3
     simp [-getElem?_pos,v1,v26,v27,v28,hS,z,ha',hb',hC,hF,hR,hw,h,hiv,d1,d2,d3']
     exact zan (n-1) (by omega) ⟨i+1,by omega,zug hk (by rw [hfe,d1,d3]; simp [d2]),by simp [v1],by simp [v26],by simp [v27],by simp,by simp,by simp [z,hS]⟩
    ·have d3':(b.any fun n => !zaj n 0 a.length)=true:=by simpa [List.any_eq_not_all_not] using d3
     have no:=zio h (by rw [hfe,d1]; simp [d3]:zfo c v i=false)
     simp [-getElem?_pos,v1,v26,v27,v28,hS,z,ha',hb',hC,hF,hR,hw,h,hiv,d1,d2,d3',no]
   ·have no:=zio h (by rw [hfe,d1]; simp [d2]:zfo c v i=false)
    simp [-getElem?_pos,v1,v26,v27,v28,hS,z,ha',hb',hC,hF,hR,hw,h,hiv,d1,d2,no]
  ·have no:=zio h (by rw [hfe]; simp [d1]:zfo c v i=false)
   simp [-getElem?_pos,v1,v26,v27,v28,hS,z,ha',hb',hC,hF,hR,hw,h,hiv,d1,no]
 ·simp at h
  have:=z0e (p:=zfo c v) (n:=c.length) fun j hj=>hk j (by omega)
  simp [this]
set_option maxHeartbeats 1000000 in
theorem z9k (q:Bool) (c v:List (List Int)) (hc : ∀ l∈c,l.length≤9223372036854775807) (hv : ∀ l∈v,l.length≤9223372036854775807):RUN T zlg [.agg [.sl 1 (rws q c),.sl 1 (rws q v)]]=some ([bv (zdr c v)],[]):=by
 refine zah z53 rfl ?_
 have hR:=z1x q c v
 by_cases h1:zaj c.length 1 4=true
 case neg=>simp [zms,zmt,zbd,-za2,h1,zdr]
 by_cases h2:(v.length:Int)=c.length
 case neg=>simp [zms,zmt,zbd,-za2,h1,h2,zdr]
 by_cases h3:zaj (zc7 v) 1 40=true
 case neg=>simp [zms,zmt,zbd,-za2,h1,h2,h3,hR,zdr]
 have h1':=za3.mp h1
 rw [yay h1 h2 h3]
 simp [zms,zmt,zbd,-za2,h1,h2,h3,hR]
 refine za0 (fun n st => ∃ i:Nat,i+n=c.length∧(∀ j,j<i→zfo c v j=true)∧st.V 1 = .ptr 0 none 0 0 0∧st.V 3=iv i∧0<st.nx∧st.S 0=some (.box [.sl 1 (rws q c),.sl 1 (rws q v)])) ?_ c.length _ ⟨0,by simp⟩
 rintro n st ⟨i,hi,hk,v1,v3,hnx,hS⟩
 simp [z44,v1,v3,hS]
 have z:=fr hnx
 refine zdz (fun h => ?_) (fun h => ?_)
 ·simp at h
  obtain ⟨a,ha⟩ : ∃ a,c[i]?=some a:=⟨_,List.getElem?_eq_getElem h⟩
  obtain ⟨b,hb⟩ : ∃ b,v[i]?=some b:=⟨_,List.getElem?_eq_getElem (by omega)⟩
  have ha':=zem (q:=q) ha
  have hb':=zem (q:=q) hb
  have hal:=hc a (List.mem_of_getElem? ha)
  have hbl:=hv b (List.mem_of_getElem? hb)
  have hC:=yp4 a hal
  have hw:=wS h (by omega:c.length≤9223372036854775807)
  have hiv:i<v.length:=by omega
  have hfe:=ygm ha hb
  by_cases d1:zft a=true
  case neg =>
   have no:=zio h (by rw [hfe]; simp [d1]:zfo c v i=false)
   simp [-getElem?_pos,v1,v3,hS,z,ha',hb',hC,hR,hw,h,hiv,d1,no]
  rcases Classical.propComplete ((b.length:Int)=zc7 v) with d2 | d2
  case inr =>
   have no:=zio h (by rw [hfe,d1]; simp [d2]:zfo c v i=false)
   simp [-getElem?_pos,v1,v3,hS,z,ha',hb',hC,hR,hw,h,hiv,d1,d2,no]
  simp [-getElem?_pos,v1,v3,hS,z,ha',hb',hC,hR,hw,h,hiv,d1,d2]
  refine za0 (fun n st => ∃ j:Nat,j+n=b.length∧(∀ (k:Nat) (x:Int),k<j→b[k]?=some x→zaj x 0 a.length=true)∧st.V 1 = .ptr 0 none 0 0 0∧st.V 3=iv i∧st.V 4=iv j∧0<st.nx∧st.S 0=some (.box [.sl 1 (rws q c),.sl 1 (rws q v)])) ?_ b.length _ ⟨0,by omega,fun _ _ h=>by omega,by simp [v1],by simp [v3],by simp,by simp [hnx],by simp [hS]⟩
  clear v1 v3 hnx hS z
  rintro n' st ⟨j,hj,hjk,v1,v3,v4,hnx,hS⟩
  simp [-getElem?_pos,z43,v1,v3,v4,hS,hb',hiv]
  refine zdz (fun h4 => ?_) (fun h4 => ?_)
  ·simp at h4
   obtain ⟨x,hx⟩ : ∃ x,b[j]?=some x:=⟨_,List.getElem?_eq_getElem h4⟩
   have hx':=zba hx
   have hwj:=wS h4 hbl
   rcases Bool.eq_false_or_eq_true (zaj x 0 a.length) with d3 | d3
   ·simp [-getElem?_pos,v1,v3,v4,hS,ha',hb',hx',hiv,h,h4,d3,hwj,zbd,-za2]
    exact zan (n'-1) (by omega) ⟨j+1,by omega,zrd (P:=fun _ x=>zaj x 0 a.length=true) hjk hx d3,by simp [v1],by simp [v3],by simp,by simp [hnx],by simp [hS]⟩
   ·have no:=zio h (by rw [hfe,zub hx d3]; simp:zfo c v i=false)
    simp [-getElem?_pos,v1,v3,v4,hS,ha',hb',hx',hiv,h,h4,d3,hwj,no,zbd,-za2]
  ·simp at h4
   have ok:zfo c v i=true:=by
    rw [hfe,d1,zuj fun k x hk hx=>hjk k x (by omega) hx]; simp [d2]
   simp [-getElem?_pos,v1,v3,v4,hS,hw]
   exact zan (n-1) (by omega) ⟨i+1,by omega,zug hk ok,by simp [v1],by simp,by simp [hnx],by simp [hS]⟩
 ·simp at h
  have:=z0e (p:=zfo c v) (n:=c.length) fun j hj=>hk j (by omega)
  simp [this]
def zgm (x:Int):Bool:=zaj x (-2199023255552) 2199023255552
def zd0 (c v:List (List Int)) (lab:List Int) (g:Cfg):Bool:=zdr c v && zcg g && decide ((lab.length:Int)=zc7 v) && lab.all zgm
@[simp] theorem y3s (n:Int):RUN T zlj [iv n]=some ([bv (!zgm n)],[]):=by
 refine zah z58 rfl ?_
 simp [zvp,zvq,zdy,-zcp,zgm]
theorem z9l (q:Bool) (c v:List (List Int)) (lab:List Int) (g:Cfg) (hc : ∀ l∈c,l.length≤9223372036854775807) (hv : ∀ l∈v,l.length≤9223372036854775807) (hlab:lab.length≤9223372036854775807) (hg:g.sg.length≤9223372036854775807):RUN T zlb [.agg [.sl 1 (rws q c),.sl 1 (rws q v)],.sl 1 (zac lab),zf2 g]=some ([bv (zd0 c v lab g)],[]):=by
 refine zah z5l rfl ?_
 have e1:=z9j q c v hc hv
 have e2:=z9f g hg
 have e3:=z1y q c v
 have e4:=z1w (f:=zlj) (p:=fun n => !zgm n) lab hlab (by simp) (fun n _=>by simp)
 unfold zd0
 cases d1:zdr c v with
 | false=>simp [zmo,zmp,zf2,e1,d1]
 | true =>
  cases d2:zcg g with
  | false=>simp [zmo,zmp,zf2,e1,d1,e2,d2]
  | true =>
   rcases Classical.propComplete ((lab.length:Int)=zc7 v) with d3 | d3
   ·have d4:(!(lab.any fun n => !zgm n))=lab.all zgm:=by simp [List.any_eq_not_all_not]
    simp [zmo,zmp,zf2,e1,d1,e2,d2,e3,d3,e4,d4]
   ·simp [zmo,zmp,zf2,e1,d1,e2,d2,e3,d3]
theorem z9m (q:Bool) (c v:List (List Int)) (lab:List Int) (g:Cfg) (hc : ∀ l∈c,l.length≤9223372036854775807) (hv : ∀ l∈v,l.length≤9223372036854775807) (hlab:lab.length≤9223372036854775807) (hg:g.sg.length≤9223372036854775807):RUN T zla [.agg [.sl 1 (rws q c),.sl 1 (rws q v)],.sl 1 (zac lab),zf2 g]=some ([bv (zd0 c v lab g)],[]):=by
 refine zah z5k rfl ?_
 have e1:=z9k q c v hc hv
 have e2:=z9g g hg
 have e3:=z1x q c v
 unfold zd0
 cases d1:zdr c v with
 | false=>simp [zmm,zmn,zf2,e1,d1]
 | true =>
  cases d2:zcg g with
  | false=>simp [zmm,zmn,zf2,e1,d1,e2,d2]
  | true =>
   rcases Classical.propComplete ((lab.length:Int)=zc7 v) with d3 | d3
   ·simp [zmm,zmn,zf2,e1,d1,e2,d2,e3,d3]
    refine za0 (fun n st => ∃ i:Nat,i+n=lab.length∧(∀ (j:Nat) (x:Int),j<i→lab[j]?=some x→zgm x=true)∧st.V 1 = .sl 1 (zac lab)∧st.V 7=iv i) ?_ lab.length _ ⟨0,by omega,fun _ _ h=>by omega,by simp,by simp⟩
    rintro n st ⟨i,hi,hj,v1,v7⟩
    simp [z42,v1,v7]
    refine zdz (fun h => ?_) (fun h => ?_)
    ·simp at h
     obtain ⟨x,hx⟩ : ∃ x,lab[i]?=some x:=⟨_,List.getElem?_eq_getElem h⟩
     have hx':=zba hx
     have hw:=wS h hlab
     have hlb:zgm x=zaj x (-2199023255552) 2199023255552:=rfl
     cases d4:zgm x with
     | true =>
      have d5:=hlb.symm.trans d4
      simp [-getElem?_pos,v1,v7,hx',hw,h,d5,zbd,-za2]
      exact zan (n-1) (by omega) ⟨i+1,by omega,zrd (P:=fun _ x=>zgm x=true) hj hx d4,by simp [v1],by simp⟩
     | false =>
      have d5:=hlb.symm.trans d4
      have no:=zub hx d4
      simp [-getElem?_pos,v1,v7,hx',hw,h,d5,no,zbd,-za2]
    ·simp at h
     have:=zuj (p:=zgm) fun j a h1 h2=>hj j a (by omega) h2
     simp [this,d3]
   ·simp [zmm,zmn,zf2,e1,d1,e2,d2,e3,d3]
theorem yen {α:Type} {f:α→List PV} {p:α→Prop} {tys:List TY} (h : ∀ cs,zb1 tys cs→∃ a,f a=cs∧p a) : ∀ {es:List (List PV)},(∀ cs∈es,zb1 tys cs)→∃ l:List α,l.map f=es∧∀ a∈l,p a
 | [],_=>⟨[],rfl,by simp⟩
 | e::es,hs=>by
  obtain ⟨a,ha,hp⟩:=h e (hs e (by simp))
  obtain ⟨l,hl,hq⟩:=yen h (es:=es) (fun cs hc=>hs cs (by simp [hc]))
  refine ⟨a::l,by simp [ha,hl],fun b hb => ?_⟩
  rcases List.mem_cons.mp hb with e | e
  ·subst e; exact hp
  ·exact hq b e
theorem yw5 {P:Program} {l:List TypeId} (h:(l.all fun t=>P.readableRec t && decide (t<P.types.size))=true) : ∀ t∈l,P.readableRec t=true∧t<P.types.size:=by
 intro t ht
 have:=List.all_eq_true.mp h t ht
 simpa using this
theorem yvp {p:Bool×List TY} {pvs:List PV} (h:zcf (fun p c=>zk7 p.1 p.2 c) [p] pvs) : ∃ a,pvs=[a]∧zk7 p.1 p.2 a:=by
 cases h with
 | cons h1 t=>cases t with
  | nil=>exact ⟨_,rfl,h1⟩
def zbe (B:List Int):List (List PV):=B.map fun n=>[.v (.int .u8 n)]
@[simp] theorem yy8 (B:List Int):(zbe B).length=B.length:=by simp [zbe]
theorem ybt {B:List Int} {i:Nat} {x:Int} (h:B[i]?=some x):(zbe B)[i]?=some [.v (.int .u8 x)]:=by simp [zbe,h]
def zh9 (rv:List RV) (io:Nat) (G:List PV×List PV→Prop) (_:Dm rv) (_:Dm G) (e:Ex) (s:St):Prop:=(e = .normal∨e = .ret)∧∃ r,zf7 ⟨[],rv,.skip⟩ io s=some r∧G r
@[simp] theorem qca {rv:List RV} {io:Nat} {G:List PV×List PV→Prop} {s:St}:zh9 rv io G ⟨⟩ ⟨⟩ .normal s = ∃ r,zf7 ⟨[],rv,.skip⟩ io s=some r∧G r:=by simp [zh9]
@[simp] theorem qfw {rv:List RV} {io:Nat} {G:List PV×List PV→Prop} {s:St}:zh9 rv io G ⟨⟩ ⟨⟩ .ret s = ∃ r,zf7 ⟨[],rv,.skip⟩ io s=some r∧G r:=by simp [zh9]
theorem zd3 {T:zcs} {f:Nat} {ms:List Bool} {rv:List RV} {ic:IC} {G:List PV×List PV→Prop} (hT:T f=some (.code ⟨ms,rv,ic⟩)) {args:List PV} {st:St} (hi:zkz args=some st) (h:W (zad T) (RUN T) ic st (zh9 rv st.nx G ⟨⟩ ⟨⟩)) : ∃ r,RUN T f args=some r∧G r:=by
 unfold W at h
 obtain ⟨e,s,h1,h2,r,h3,hG⟩:=h
 refine ⟨r,ygc hT ?_,hG⟩
 unfold ztk
 rw [hi]
 simp only [Option.bind_some,h1]
 rcases h2 with rfl | rfl <;> exact h3
attribute [irreducible] zh9
theorem zz5 (X:Nat):0≤IntKind.i64.wrap ((X &&& 255 % 2 ^ IntKind.i64.bits:Nat):Int)∧IntKind.i64.wrap ((X &&& 255 % 2 ^ IntKind.i64.bits:Nat):Int)≤255:=by
 have h:X &&& 255 % 2 ^ IntKind.i64.bits≤255:=Nat.le_trans Nat.and_le_right (by decide)
 rw [w64 (by omega) (by omega)]
 omega
def zfl (B:List Int) (P:PV→Prop) (r:List PV×List PV):Prop := ∃ (v:PV) (p:Nat) (s:Int),P v∧p≤B.length∧r=([v],[.bx [.sl 1 (zbe B),iv p,iv s]])
def PB (v:PV):Prop := ∃ b,v=bv b
def PM (l:List Int) (v:PV):Prop := ∃ n,v=iv n∧n∈l
def PI (v:PV):Prop := ∃ n,v=iv n∧inI n
def PN (n:Int) (v:PV):Prop := ∃ m,v=iv m∧0≤m∧(0<n→m<n)
theorem ztb (B:List Int) (p:Nat) (s:Int) (hp:p≤B.length) (hB:B.length≤9223372036854775807) : ∃ r,RUN T zha [.bx [.sl 1 (zbe B),iv p,iv s]]=some r∧zfl B (fun v => ∃ n,v=iv n∧0≤n∧n≤255) r:=by
 refine zd3 z7r rfl ?_
 by_cases h:p<B.length
 ·obtain ⟨x,hx⟩ : ∃ x,B[p]?=some x:=⟨_,List.getElem?_eq_getElem h⟩
  have hx':=ybt hx
  have hw:=wS h hB
  simp [-getElem?_pos,zsu,zsv,h,hx',hw]
  exact ⟨_,p+1,_,⟨_,rfl,(zz5 _).1,(zz5 _).2⟩,h,rfl⟩
 ·have h' : ¬ ((p:Int)<B.length):=by omega
  simp [-getElem?_pos,zsu,zsv,h,h']
  exact ⟨_,p,_,⟨_,rfl,(zz5 _).1,(zz5 _).2⟩,hp,rfl⟩
theorem zbn (B:List Int) (p:Nat) (s:Int) (hp:p≤B.length) (hB:B.length≤9223372036854775807) (n:Int) (hn:n≤9223372036854775807) : ∃ r,RUN T zbm [.bx [.sl 1 (zbe B),iv p,iv s],iv n]=some r∧zfl B (PN n) r:=by
 refine zd3 z6p rfl ?_
 obtain ⟨r1,h1,v1,p1,s1,⟨a1,rfl,a10,a11⟩,hp1,rfl⟩:=ztb B p s hp hB
 by_cases c1:n≤0
 ·simp [-getElem?_pos,zqa,zqb,c1]
  exact ⟨_,p,s,⟨0,rfl,by omega,by omega⟩,hp,rfl⟩
 have c0 : ¬ (n=0):=by omega
 by_cases c2:n≤256
 ·simp [-getElem?_pos,zqa,zqb,c0,c1,c2,h1]
  refine ⟨_,p1,s1,⟨_,rfl,?_,fun _ => ?_⟩,hp1,rfl⟩
  ·exact Int.tmod_nonneg _ a10
  ·exact Int.tmod_lt_of_pos _ (by omega)
 obtain ⟨r2,h2,v2,p2,s2,⟨a2,rfl,a20,a21⟩,hp2,rfl⟩:=ztb B p1 s1 hp1 hB
 obtain ⟨r3,h3,v3,p3,s3,⟨a3,rfl,a30,a31⟩,hp3,rfl⟩:=ztb B p2 s2 hp2 hB
 obtain ⟨r4,h4,v4,p4,s4,⟨a4,rfl,a40,a41⟩,hp4,rfl⟩:=ztb B p3 s3 hp3 hB
 have w1:=w64 (x:=a1*16777216) (by omega) (by omega)
 have w2:=w64 (x:=a2*65536) (by omega) (by omega)
 have w3:=w64 (x:=a1*16777216+a2*65536) (by omega) (by omega)
 have w4:=w64 (x:=a3*256) (by omega) (by omega)
 have w5:=w64 (x:=a1*16777216+a2*65536+a3*256) (by omega) (by omega)
 have w6:=w64 (x:=a1*16777216+a2*65536+a3*256+a4) (by omega) (by omega)
 simp [-getElem?_pos,zqa,zqb,c0,c1,c2,h1,h2,h3,h4,w1,w2,w3,w4,w5,w6]
 refine ⟨_,p4,s4,⟨_,rfl,?_,fun _ => ?_⟩,hp4,rfl⟩
 ·exact Int.tmod_nonneg _ (by omega)
 ·exact Int.tmod_lt_of_pos _ (by omega)
theorem zev (B:List Int) (p:Nat) (s:Int) (hp:p≤B.length) (hB:B.length≤9223372036854775807) (n:Int) (hn:n≤9223372036854775807) : ∃ r,RUN T zee [.bx [.sl 1 (zbe B),iv p,iv s],iv n]=some r∧zfl B PB r:=by
 refine zd3 z5q rfl ?_
 obtain ⟨r1,h1,v1,p1,s1,⟨a1,rfl,a10,a11⟩,hp1,rfl⟩:=zbn B p s hp hB n hn
 simp [-getElem?_pos,zu0,zu1,h1]
 exact ⟨_,p1,s1,⟨_,rfl⟩,hp1,rfl⟩
def yvn (B:List Int) (l:List Int) (P:PV→Prop) (r:List PV×List PV):Prop := ∃ (v:PV) (p:Nat) (s:Int),P v∧p≤B.length∧r=([v],[.bx [.sl 1 (zbe B),iv p,iv s],.own 1 (zac l)])
theorem zgl (B:List Int) (p:Nat) (s:Int) (hp:p≤B.length) (hB:B.length≤9223372036854775807) (l:List Int) (hl:0<l.length∧l.length≤9223372036854775807) : ∃ r,RUN T zeu [.bx [.sl 1 (zbe B),iv p,iv s],.own 1 (zac l)]=some r∧yvn B l (PM l) r:=by
 refine zd3 z6r rfl ?_
 obtain ⟨r1,h1,v1,p1,s1,⟨a1,rfl,a10,a11⟩,hp1,rfl⟩:=zbn B p s hp hB l.length (by omega)
 obtain ⟨i,rfl⟩ : ∃ i:Nat,a1=i:=⟨a1.toNat,by omega⟩
 have hi:i<l.length:=by have:=a11 (by omega); omega
 obtain ⟨x,hx⟩ : ∃ x,l[i]?=some x:=⟨_,List.getElem?_eq_getElem hi⟩
 have hx':=zba hx
 simp [-getElem?_pos,zwh,zwi,h1,hx',hi]
 exact ⟨_,p1,s1,⟨x,rfl,List.mem_of_getElem? hx⟩,hp1,rfl⟩
theorem yxf (x:Int):inI (IntKind.i64.wrap x):=by
 unfold inI IntKind.wrap
 simp [IntKind.bits,IntKind.signed]
 omega
theorem yp7 (B:List Int) (p:Nat) (s:Int) (hp:p≤B.length) (hB:B.length≤9223372036854775807) : ∃ r,RUN T zov [.bx [.sl 1 (zbe B),iv p,iv s]]=some r∧zfl B PI r:=by
 refine zd3 z6v rfl ?_
 obtain ⟨r1,h1,v1,p1,s1,⟨a1,rfl,a10,a11⟩,hp1,rfl⟩:=zbn B p s hp hB 4 (by omega)
 by_cases c0:a1=0
 ·obtain ⟨r2,h2,v2,p2,s2,⟨a2,rfl,hm⟩,hp2,rfl⟩:=zgl B p1 s1 hp1 hB [0,1,-1,9,10,999,1000,2147483647,-2147483648,3037000499,3037000500,9223372036854775807,-9223372036854775807,-9223372036854775808] (by simp)
  simp only [zac,List.map] at h2
  simp [-getElem?_pos,zmz,zm0,h1,c0,h2]
  refine ⟨_,p2,s2,⟨a2,rfl,?_⟩,hp2,rfl⟩
  simp at hm
  unfold inI
  omega
 by_cases c1:a1=1
 ·simp [-getElem?_pos,zmz,zm0,h1,c0,c1]
  refine za0 (fun n st => ∃ (i p:Nat) (x s:Int),i+n=8∧p≤B.length∧inI x∧st.V 0 = .ptr 0 none 0 0 0∧st.V 3=iv x∧st.V 4=iv i∧0<st.nx∧st.ep=0∧st.S 0=some (.box [.sl 1 (zbe B),iv p,iv s])) ?_ 8 _ ⟨0,p1,0,s1,by omega,hp1,by unfold inI; omega,by simp⟩
  clear h1
  rintro n st ⟨i,p,x,s,hi,hp,hx,v0,v3,v4,hnx,hep,hS⟩
  simp [z47,v4]
  refine zdz (fun h => ?_) (fun h => ?_)
  ·simp at h
   obtain ⟨r2,h2,v2,p2,s2,⟨a2,rfl,a20,a21⟩,hp2,rfl⟩:=ztb B p s hp hB
   have w:=w64 (x:=(i:Int)+1) (by omega) (by omega)
   simp [-getElem?_pos,v0,v3,v4,hep,hS,h2,w]
   exact zan (n-1) (by omega) ⟨i+1,p2,_,s2,by omega,hp2,yxf _,by simp [v0],by simp; rfl,by simp,by simp [hnx],by simp [hep],by simp⟩
  ·simp [-getElem?_pos,v3,v0,hS]
   exact ⟨_,p,s,⟨x,rfl,hx⟩,hp,rfl⟩
 by_cases c2:a1=2
 ·obtain ⟨r2,h2,v2,p2,s2,⟨a2,rfl,a20,a21⟩,hp2,rfl⟩:=zbn B p1 s1 hp1 hB 1000000 (by omega)
  have a22:=a21 (by omega)
  have w:=w64 (x:=a2-500000) (by omega) (by omega)
  simp [-getElem?_pos,zmz,zm0,h1,c0,c1,c2,h2,w]
  exact ⟨_,p2,s2,⟨_,rfl,by unfold inI; omega⟩,hp2,rfl⟩
 ·obtain ⟨r2,h2,v2,p2,s2,⟨a2,rfl,a20,a21⟩,hp2,rfl⟩:=zbn B p1 s1 hp1 hB 41 (by omega)
  have a22:=a21 (by omega)
  have w:=w64 (x:=a2-20) (by omega) (by omega)
  simp [-getElem?_pos,zmz,zm0,h1,c0,c1,c2,h2,w]
  exact ⟨_,p2,s2,⟨_,rfl,by unfold inI; omega⟩,hp2,rfl⟩
theorem yp8 (B:List Int) (hB:B.length≤9223372036854775807) : ∃ r,RUN T zor [.sl 1 (zbe B)]=some r∧∃ s:Int,r=([.bx [.sl 1 (zbe B),iv (0:Nat),iv s]],[]):=by
 refine zd3 z6n rfl ?_
 simp [-getElem?_pos,zwa,zwb]
 refine za0 (fun n st => ∃ (i:Nat) (x:Int),i+n=B.length∧st.V 0 = .sl 1 (zbe B)∧st.V 3=iv x∧st.V 4=iv i) ?_ B.length _ ⟨0,_,by omega,by simp,by simp; rfl,by simp⟩
 rintro n st ⟨i,x,hi,v0,v3,v4⟩
 by_cases h:i<B.length
 ·obtain ⟨b,hx⟩ : ∃ b,B[i]?=some b:=⟨_,List.getElem?_eq_getElem h⟩
  have hx':=ybt hx
  have hw:=wS h hB
  by_cases h2:(i:Int)<4000
  ·have h2':=eq_true h2
   simp [-getElem?_pos,zv9,v0,v3,v4,h,h2',hx',hw]
   exact zan (n-1) (by omega) ⟨i+1,_,by omega,by simp [v0],by simp; rfl,by simp⟩
  ·have h2':=eq_false h2
   simp [-getElem?_pos,zv9,v0,v3,v4,h,h2']
 ·simp [-getElem?_pos,zv9,v0,v3,v4,h]
def adi (a b:Int):Int×Bool:=if -9223372036854775808≤a+b∧a+b≤9223372036854775807 then (a+b,true) else (0,false)
theorem yg8 {a b:Int} (ha:inI a) (hb:inI b):IntKind.i64.wrap (a+b)=if 9223372036854775807<a+b then a+b-18446744073709551616 else if a+b < -9223372036854775808 then a+b+18446744073709551616 else a+b:=by
 unfold inI at ha hb
 unfold IntKind.wrap
 simp [IntKind.bits,IntKind.signed]
 omega
theorem z9n (a b:Int) (ha:inI a) (hb:inI b):RUN T zl6 [iv a,iv b]=some ([iv (adi a b).1,bv (adi a b).2],[]):=by
 refine zah z8f rfl ?_
 have hw:=yg8 ha hb
 unfold inI at ha hb
 unfold adi
 by_cases c1:9223372036854775807<a+b
 ·rw [if_pos c1] at hw
  rw [if_neg (by omega)]
  have d1:=eq_false (by omega : ¬ a<0)
  have d2:=eq_false (by omega : ¬ b<0)
  have d3:=eq_true (by omega:a+b-18446744073709551616<0)
  simp [-getElem?_pos,zi5,zi6,hw,d1,d2,d3]
 ·rw [if_neg c1] at hw
  by_cases c2:a+b < -9223372036854775808
  ·rw [if_pos c2] at hw
   rw [if_neg (by omega)]
   have d1:=eq_true (by omega:a<0)
   have d2:=eq_true (by omega:b<0)
   have d3:=eq_false (by omega : ¬ a+b+18446744073709551616<0)
   simp [-getElem?_pos,zi5,zi6,hw,d1,d2,d3]
  ·rw [if_neg c2] at hw
   rw [if_pos (by omega)]
   rcases Classical.propComplete (a<0) with d1 | d1
   all_goals rcases Classical.propComplete (b<0) with d2 | d2
   all_goals simp at d1 d2
   ·have d3:=eq_true (by omega:a+b<0)
    simp [-getElem?_pos,zi5,zi6,hw,eq_true d1,eq_true d2,d3]
   ·have d2':=eq_false (by omega : ¬ b<0)
    simp [-getElem?_pos,zi5,zi6,hw,eq_true d1,d2']
   ·have d1':=eq_false (by omega : ¬ a<0)
    simp [-getElem?_pos,zi5,zi6,hw,eq_true d2,d1']
   ·have d1':=eq_false (by omega : ¬ a<0)
    have d2':=eq_false (by omega : ¬ b<0)
    have d3:=eq_false (by omega : ¬ a+b<0)
    simp [-getElem?_pos,zi5,zi6,hw,d1',d2',d3]
theorem z9o (a b:Int) (ha:inI a) (hb:inI b):RUN T zl9 [iv a,iv b]=some ([iv (adi a b).1,bv (adi a b).2],[]):=by
 refine zah z8i rfl ?_
 have hw:=yg8 ha hb
 unfold inI at ha hb
 unfold adi
 rcases Int.lt_trichotomy b 0 with c | c | c
 ·have d1:=eq_false (by omega : ¬ 0<b)
  have d2:=eq_true c
  have w:=w64 (x := -9223372036854775808-b) (by omega) (by omega)
  by_cases e:a < -9223372036854775808-b
  ·rw [if_neg (by omega)]
   simp [-getElem?_pos,zkn,zko,d1,d2,w,e]
  ·rw [if_neg (by omega),if_neg (by omega)] at hw
   rw [if_pos (by omega)]
   simp [-getElem?_pos,zkn,zko,d1,d2,w,e,hw]
 ·subst c
  rw [if_neg (by omega),if_neg (by omega)] at hw
  rw [if_pos (by omega)]
  simp at hw
  simp [zkn,zko,hw]
 ·have d1:=eq_true c
  have d2:=eq_false (by omega : ¬ b<0)
  have w:=w64 (x:=9223372036854775807-b) (by omega) (by omega)
  by_cases e:9223372036854775807-b<a
  ·rw [if_neg (by omega)]
   simp [-getElem?_pos,zkn,zko,d1,d2,w,e]
  ·rw [if_neg (by omega),if_neg (by omega)] at hw
   rw [if_pos (by omega)]
   simp [-getElem?_pos,zkn,zko,d1,d2,w,e,hw]
theorem ydq {a b:Int} (ha:inI a):inI (adi a b).1:=by
 unfold adi
 split
 ·rename_i h; exact h
 ·unfold inI; omega
theorem yp9 (es:List (List PV)):RUN T zn2 [.sl 1 es]=some ([bv (decide ((1048576:Int)<es.length))],[]):=by
 refine zah z5e rfl ?_
 simp [-getElem?_pos,zul,zum]
def sbi (a b:Int):Int×Bool:=if -9223372036854775808≤a-b∧a-b≤9223372036854775807 then (a-b,true) else (0,false)
theorem ydt {a b:Int} (ha:inI a) (hb:inI b):IntKind.i64.wrap (a-b)=if 9223372036854775807<a-b then a-b-18446744073709551616 else if a-b < -9223372036854775808 then a-b+18446744073709551616 else a-b:=by
 unfold inI at ha hb
 unfold IntKind.wrap
 simp [IntKind.bits,IntKind.signed]
 omega
theorem z9p (a b:Int) (ha:inI a) (hb:inI b):RUN T zl2 [iv a,iv b]=some ([iv (sbi a b).1,bv (sbi a b).2],[]):=by
 refine zah z7v rfl ?_
 have hw:=ydt ha hb
 unfold inI at ha hb
 unfold sbi
 by_cases c1:9223372036854775807<a-b
 ·rw [if_pos c1] at hw
  rw [if_neg (by omega)]
  have d1:=eq_false (by omega : ¬ a<0)
  have d2:=eq_true (by omega:b<0)
  have d3:=eq_true (by omega:a-b-18446744073709551616<0)
  simp [-getElem?_pos,zi1,zi2,hw,d1,d2,d3]
 ·rw [if_neg c1] at hw
  by_cases c2:a-b < -9223372036854775808
  ·rw [if_pos c2] at hw
   rw [if_neg (by omega)]
   have d1:=eq_true (by omega:a<0)
   have d2:=eq_false (by omega : ¬ b<0)
   have d3:=eq_false (by omega : ¬ a-b+18446744073709551616<0)
   simp [-getElem?_pos,zi1,zi2,hw,d1,d2,d3]
  ·rw [if_neg c2] at hw
   rw [if_pos (by omega)]
   rcases Classical.propComplete (a<0) with d1 | d1
   all_goals rcases Classical.propComplete (b<0) with d2 | d2
   all_goals simp at d1 d2
   ·simp [-getElem?_pos,zi1,zi2,hw,eq_true d1,eq_true d2]
   ·have d2':=eq_false (by omega : ¬ b<0)
    have d3:=eq_true (by omega:a-b<0)
    simp [-getElem?_pos,zi1,zi2,hw,eq_true d1,d2',d3]
   ·have d1':=eq_false (by omega : ¬ a<0)
    have d3:=eq_false (by omega : ¬ a-b<0)
    simp [-getElem?_pos,zi1,zi2,hw,eq_true d2,d1',d3]
   ·have d1':=eq_false (by omega : ¬ a<0)
    have d2':=eq_false (by omega : ¬ b<0)
    simp [-getElem?_pos,zi1,zi2,hw,d1',d2']
theorem z9q (a b:Int) (ha:inI a) (hb:inI b):RUN T zlr [iv a,iv b]=some ([iv (sbi a b).1,bv (sbi a b).2],[]):=by
 refine zah z64 rfl ?_
 have hw:=ydt ha hb
 unfold inI at ha hb
 unfold sbi
 rcases Int.lt_trichotomy b 0 with c | c | c
 ·have d1:=eq_false (by omega : ¬ 0<b)
  have d2:=eq_true c
  have w:=w64 (x:=9223372036854775807+b) (by omega) (by omega)
  by_cases e:9223372036854775807+b<a
  ·rw [if_neg (by omega)]
   simp [-getElem?_pos,zkk,zkl,d1,d2,w,e]
  ·rw [if_neg (by omega),if_neg (by omega)] at hw
   rw [if_pos (by omega)]
   simp [-getElem?_pos,zkk,zkl,d1,d2,w,e,hw]
 ·subst c
  rw [if_neg (by omega),if_neg (by omega)] at hw
  rw [if_pos (by omega)]
  simp at hw
  simp [zkk,zkl,hw]
 ·have d1:=eq_true c
  have d2:=eq_false (by omega : ¬ b<0)
  have w:=w64 (x := -9223372036854775808+b) (by omega) (by omega)
  by_cases e:a < -9223372036854775808+b
  ·rw [if_neg (by omega)]
   simp [-getElem?_pos,zkk,zkl,d1,d2,w,e]
  ·rw [if_neg (by omega),if_neg (by omega)] at hw
   rw [if_pos (by omega)]
   simp [-getElem?_pos,zkk,zkl,d1,d2,w,e,hw]
def PC (n:Nat) (v:PV):Prop := ∃ c:Cfg,v=zjv c∧c.sg.length≤n
def LC (S:Nat→Option Ob) (nx:Nat) (lo:Nat) (m:List Int) (x:PV):Prop:=(x = .e0∧m=[])∨∃ o e,x = .ref o none e 0 m.length∧lo<o∧o<nx∧S o=some (.row 1 (zac m))
theorem z9r (B:List Int) (p:Nat) (s:Int) (hp:p≤B.length) (hB:B.length≤9223372036854775807) : ∃ r,RUN T zlp [.bx [.sl 1 (zbe B),iv p,iv s]]=some r∧zfl B (PC 60) r:=by
 refine zd3 z6s rfl ?_
 obtain ⟨r1,h1,v1,p1,s1,⟨a1,rfl,a10,a11⟩,hp1,rfl⟩:=zbn B p s hp hB 4 (by omega)
 obtain ⟨r2,h2,v2,p2,s2,⟨a2,rfl,a20,a21⟩,hp2,rfl⟩:=zbn B p1 s1 hp1 hB 4 (by omega)
 obtain ⟨r3,h3,v3,p3,s3,⟨a3,rfl,a30,a31⟩,hp3,rfl⟩:=zbn B p2 s2 hp2 hB 5 (by omega)
 obtain ⟨r4,h4,v4,p4,s4,⟨a4,rfl,a40,a41⟩,hp4,rfl⟩:=zbn B p3 s3 hp3 hB 3 (by omega)
 obtain ⟨r5,h5,v5,p5,s5,⟨a5,rfl,a50,a51⟩,hp5,rfl⟩:=zbn B p4 s4 hp4 hB 3 (by omega)
 obtain ⟨r6,h6,v6,p6,s6,⟨a6,rfl,a60,a61⟩,hp6,rfl⟩:=zbn B p5 s5 hp5 hB 3 (by omega)
 obtain ⟨r7,h7,v7,p7,s7,⟨b1,rfl⟩,hp7,rfl⟩:=zev B p6 s6 hp6 hB 8 (by omega)
 have w6:IntKind.i64.wrap (1+a6)=1+a6:=by have:=a61 (by omega); exact w64 (by omega) (by omega)
 have key : ∀ (k:Int) (x0 x1 x2 x3 x4 x5 x6:Int) (st:St) (p:Nat) (s:Int),0≤k→k≤60→p≤B.length→st.V 0 = .ptr 0 none 0 0 0→st.V 2 = .ptr 1 none 0 0 0→st.V 3 = .ptr 2 none 0 0 0→st.V 4=iv k→st.V 5=iv (0:Nat)→st.nx=3→st.S 0=some (.box [.sl 1 (zbe B),iv p,iv s])→st.S 1=some (.box [iv 0,iv 0,iv 0,iv 0,iv 0,iv 0,iv 0,.e0])→st.S 2=some (.box [iv x0,iv x1,iv x2,iv x3,iv x4,iv x5,iv x6,.e0])→W (zad T) (RUN T) (.loop z1n) st (Bl 0 (Nx (fun s=>W (zad T) (RUN T) (.seq (.reg [⟨some (.E 53),.load true 8 (.V 3),none⟩,⟨none,.store [0,0,0,0,0,0,0,1] (.V 2) (.E 53),none⟩]) .ret) s (zh9 [.cell [0,0,0,0,0,0,0,1] 2 true] 1 (zfl B (PC 60)) ⟨⟩ ⟨⟩)) (zh9 [.cell [0,0,0,0,0,0,0,1] 2 true] 1 (zfl B (PC 60)) ⟨⟩ ⟨⟩) ⟨⟩ ⟨⟩) ⟨⟩):=by
  intro k x0 x1 x2 x3 x4 x5 x6 st p s hk0 hk hp v0 v2 v3 v4 v5 hnx hS hS1 hS2
  obtain ⟨kn,rfl⟩ : ∃ n:Nat,k=n:=⟨k.toNat,by omega⟩
  refine za0 (fun n st => ∃ (i p:Nat) (s:Int) (m:List Int) (x:PV),i+n=kn∧m.length=i∧p≤B.length∧st.V 0 = .ptr 0 none 0 0 0∧st.V 2 = .ptr 1 none 0 0 0∧st.V 3 = .ptr 2 none 0 0 0∧st.V 4=iv kn∧st.V 5=iv i∧2<st.nx∧LC st.S st.nx 2 m x∧st.S 0=some (.box [.sl 1 (zbe B),iv p,iv s])∧st.S 1=some (.box [iv 0,iv 0,iv 0,iv 0,iv 0,iv 0,iv 0,.e0])∧st.S 2=some (.box [iv x0,iv x1,iv x2,iv x3,iv x4,iv x5,iv x6,x])) ?_ kn _ ⟨0,p,s,[],.e0,by omega,rfl,hp,v0,v2,v3,v4,v5,by omega,.inl ⟨rfl,rfl⟩,hS,hS1,hS2⟩
  clear v0 v2 v3 v4 v5 hnx hS hS1 hS2 hp
  rintro n st ⟨i,p,s,m,x,hi,hm,hp,v0,v2,v3,v4,v5,hnx,hx,hS,hS1,hS2⟩
  have z1:=fr hnx
  have z2:=fr (by omega:0<st.nx)
  have z3:=fr (by omega:1<st.nx)
  simp [z1n,v4,v5]
  refine zdz (fun h => ?_) (fun h => ?_)
  ·simp at h
   have hw:=w64 (x:=(i:Int)+1) (by omega) (by omega)
   obtain ⟨r1,h1,v1,p1,s1,⟨a,rfl,a0,a1⟩,hp1,rfl⟩:=zbn B p s hp hB 3 (by omega)
   have a2:=a1 (by omega)
   have w:=w64 (x:=a-1) (by omega) (by omega)
   rcases hx with ⟨rfl,rfl⟩ | ⟨o,e,rfl,ho,hox,hSo⟩
   ·have hr8:zak 8 1=true:=by decide
    have hone:[[iv (a-1)]]=zac [a-1]:=rfl
    simp [-getElem?_pos,v0,v2,v3,v4,v5,hS,hS1,hS2,z1,z2,z3,h1,w,hw,hr8]
    exact zan (n-1) (by omega) ⟨i+1,p1,s1,[a-1],.ref (st.nx+1) none st.ep 0 1,by omega,by simp at hm; simp; omega,hp1,by simp [v0],by simp [v2],by simp [v3],by simp [v4],by simp,by simp; omega,.inr ⟨st.nx+1,st.ep,rfl,by omega,by simp,by
     have n2 : ¬ st.nx+1=2:=by omega
     simp [n2,zac]⟩,by simp [z1,z2,z3],by simp [z1,z2,z3,hS1],by simp⟩
   ·have hr8:=zc3 (n:=m.length+1) (by omega)
    have y1:=fr hox
    have y2:=fr ho
    have y3:=fr (by omega:0<o)
    have y4:=fr (by omega:1<o)
    simp [-getElem?_pos,v0,v2,v3,v4,v5,hS,hS1,hS2,hSo,z1,z2,z3,y1,y2,y3,y4,h1,w,hw,hr8,zcv]
    exact zan (n-1) (by omega) ⟨i+1,p1,s1,m++[a-1],.ref (st.nx+1) none st.ep 0 (m.length+1),by omega,by simp [hm],hp1,by simp [v0],by simp [v2],by simp [v3],by simp [v4],by simp,by simp; omega,.inr ⟨st.nx+1,st.ep,by simp,by omega,by simp,by
     have n2 : ¬ st.nx+1=2:=by omega
     simp [n2]⟩,by simp [z1,z2,z3,y1,y2,y3,y4],by simp [z1,z2,z3,y1,y2,y3,y4,hS1],by simp⟩
  ·simp at h
   rcases hx with ⟨rfl,rfl⟩ | ⟨o,e,rfl,ho,hox,hSo⟩
   ·simp [-getElem?_pos,v0,v2,v3,hS,hS1,hS2]
    exact ⟨_,p,s,⟨⟨x0,x1,x2,x3,x4,x5,x6,[]⟩,rfl,by simp⟩,hp,rfl⟩
   ·have y2:=fr ho
    have y3:=fr (by omega:0<o)
    have y4:=fr (by omega:1<o)
    have y5:1≤o:=by omega
    simp [-getElem?_pos,v0,v2,v3,hS,hS1,hS2,hSo,y2,y3,y4,y5]
    exact ⟨_,p,s,⟨⟨x0,x1,x2,x3,x4,x5,x6,m⟩,rfl,by simp only; omega⟩,hp,rfl⟩
 cases b1 with
 | true =>
  obtain ⟨r8,h8,v8,p8,s8,⟨a8,rfl,a80,a81⟩,hp8,rfl⟩:=zbn B p7 s7 hp7 hB 100 (by omega)
  obtain ⟨r9,h9,v9,p9,s9,⟨b2,rfl⟩,hp9,rfl⟩:=zev B p8 s8 hp8 hB 4 (by omega)
  cases b2 with
  | true =>
   obtain ⟨r10,h10,v10,p10,s10,⟨a10',rfl,_,_⟩,hp10,rfl⟩:=zbn B p9 s9 hp9 hB (1+a6) (by have:=a61 (by omega); omega)
   obtain ⟨r11,h11,v11,p11,s11,⟨k,rfl,k0,k1⟩,hp11,rfl⟩:=zbn B p10 s10 hp10 hB 5 (by omega)
   have k2:=k1 (by omega)
   simp [-getElem?_pos,zmx,zmy,h1,h2,h3,h4,h5,h6,h7,h8,h9,h10,h11,w6]
   exact key k _ _ _ _ _ _ _ _ p11 s11 k0 (by omega) hp11 (by simp) (by simp) (by simp) (by simp) (by simp) (by simp) (by simp) (by simp) (by simp; exact ⟨rfl,rfl,rfl,rfl,rfl,rfl,rfl⟩)
  | false =>
   obtain ⟨r11,h11,v11,p11,s11,⟨k,rfl,k0,k1⟩,hp11,rfl⟩:=zbn B p9 s9 hp9 hB 5 (by omega)
   have k2:=k1 (by omega)
   simp [-getElem?_pos,zmx,zmy,h1,h2,h3,h4,h5,h6,h7,h8,h9,h11,w6]
   exact key k _ _ _ _ _ _ _ _ p11 s11 k0 (by omega) hp11 (by simp) (by simp) (by simp) (by simp) (by simp) (by simp) (by simp) (by simp) (by simp; exact ⟨rfl,rfl,rfl,rfl,rfl,rfl,rfl⟩)
 | false =>
  obtain ⟨r9,h9,v9,p9,s9,⟨b2,rfl⟩,hp9,rfl⟩:=zev B p7 s7 hp7 hB 4 (by omega)
  cases b2 with
  | true =>
   obtain ⟨r10,h10,v10,p10,s10,⟨a10',rfl,_,_⟩,hp10,rfl⟩:=zbn B p9 s9 hp9 hB (1+a6) (by have:=a61 (by omega); omega)
   obtain ⟨r11,h11,v11,p11,s11,⟨k,rfl,k0,k1⟩,hp11,rfl⟩:=zbn B p10 s10 hp10 hB 5 (by omega)
   have k2:=k1 (by omega)
   simp [-getElem?_pos,zmx,zmy,h1,h2,h3,h4,h5,h6,h7,h9,h10,h11,w6]
   exact key k _ _ _ _ _ _ _ _ p11 s11 k0 (by omega) hp11 (by simp) (by simp) (by simp) (by simp) (by simp) (by simp) (by simp) (by simp) (by simp; exact ⟨rfl,rfl,rfl,rfl,rfl,rfl,rfl⟩)
  | false =>
   obtain ⟨r11,h11,v11,p11,s11,⟨k,rfl,k0,k1⟩,hp11,rfl⟩:=zbn B p9 s9 hp9 hB 5 (by omega)
   have k2:=k1 (by omega)
   simp [-getElem?_pos,zmx,zmy,h1,h2,h3,h4,h5,h6,h7,h9,h11,w6]
   exact key k _ _ _ _ _ _ _ _ p11 s11 k0 (by omega) hp11 (by simp) (by simp) (by simp) (by simp) (by simp) (by simp) (by simp) (by simp) (by simp; exact ⟨rfl,rfl,rfl,rfl,rfl,rfl,rfl⟩)
theorem yqa (B:List Int) (p:Nat) (s:Int) (hp:p≤B.length) (hB:B.length≤9223372036854775807) : ∃ r,RUN T zot [.bx [.sl 1 (zbe B),iv p,iv s]]=some r∧zfl B (PC 64) r:=by
 refine zd3 z6t rfl ?_
 obtain ⟨r1,h1,v1,p1,s1,⟨c,rfl,hc⟩,hp1,rfl⟩:=z9r B p s hp hB
 obtain ⟨r2,h2,v2,p2,s2,⟨a,rfl,a0,a1⟩,hp2,rfl⟩:=zbn B p1 s1 hp1 hB 12 (by omega)
 have hr8:zak 8 1=true:=by decide
 by_cases c0:a=0
 ·obtain ⟨r3,h3,v,p3,s3,⟨x,rfl,hx⟩,hp3,rfl⟩:=zgl B p2 s2 hp2 hB [0,1,8,9,-1] (by simp)
  simp only [zac,List.map] at h3
  simp [-getElem?_pos,zgj,zgk,hr8,h1,h2,c0,h3]
  exact ⟨_,p3,s3,⟨⟨x,c.de,c.bi,c.la,c.rw,c.nu,c.dn,c.sg⟩,rfl,by simp only; omega⟩,hp3,rfl⟩
 by_cases c1:a=1
 ·obtain ⟨r3,h3,v,p3,s3,⟨x,rfl,hx⟩,hp3,rfl⟩:=zgl B p2 s2 hp2 hB [-1,0,4,5] (by simp)
  simp only [zac,List.map] at h3
  simp [-getElem?_pos,zgj,zgk,hr8,h1,h2,c0,c1,h3]
  exact ⟨_,p3,s3,⟨⟨c.ro,x,c.bi,c.la,c.rw,c.nu,c.dn,c.sg⟩,rfl,by simp only; omega⟩,hp3,rfl⟩
 by_cases c2:a=2
 ·obtain ⟨r3,h3,v,p3,s3,⟨x,rfl,hx⟩,hp3,rfl⟩:=zgl B p2 s2 hp2 hB [1,2,8,9] (by simp)
  simp only [zac,List.map] at h3
  simp [-getElem?_pos,zgj,zgk,hr8,h1,h2,c0,c1,c2,h3]
  exact ⟨_,p3,s3,⟨⟨c.ro,c.de,x,c.la,c.rw,c.nu,c.dn,c.sg⟩,rfl,by simp only; omega⟩,hp3,rfl⟩
 by_cases c3:a=3
 ·obtain ⟨r3,h3,v,p3,s3,⟨x,rfl,hx⟩,hp3,rfl⟩:=zgl B p2 s2 hp2 hB [0,1,100,101,9223372036854775807] (by simp)
  simp only [zac,List.map] at h3
  simp [-getElem?_pos,zgj,zgk,hr8,h1,h2,c0,c1,c2,c3,h3]
  exact ⟨_,p3,s3,⟨⟨c.ro,c.de,c.bi,x,c.rw,c.nu,c.dn,c.sg⟩,rfl,by simp only; omega⟩,hp3,rfl⟩
 by_cases c4:a=4
 ·obtain ⟨r3,h3,v,p3,s3,⟨x,rfl,hx⟩,hp3,rfl⟩:=zgl B p2 s2 hp2 hB [0,1,20,21] (by simp)
  simp only [zac,List.map] at h3
  simp [-getElem?_pos,zgj,zgk,hr8,h1,h2,c0,c1,c2,c3,c4,h3]
  exact ⟨_,p3,s3,⟨⟨c.ro,c.de,c.bi,c.la,x,c.nu,c.dn,c.sg⟩,rfl,by simp only; omega⟩,hp3,rfl⟩
 by_cases c5:a=5
 ·obtain ⟨r3,h3,v,p3,s3,⟨x,rfl,hx⟩,hp3,rfl⟩:=zgl B p2 s2 hp2 hB [0,1,c.dn,IntKind.i64.wrap (c.dn+1),-1] (by simp)
  simp only [zac,List.map] at h3
  simp [-getElem?_pos,zgj,zgk,hr8,h1,h2,c0,c1,c2,c3,c4,c5,h3]
  exact ⟨_,p3,s3,⟨⟨c.ro,c.de,c.bi,c.la,c.rw,x,c.dn,c.sg⟩,rfl,by simp only; omega⟩,hp3,rfl⟩
 by_cases c6:a=6
 ·obtain ⟨r3,h3,v,p3,s3,⟨x,rfl,hx⟩,hp3,rfl⟩:=zgl B p2 s2 hp2 hB [0,1,1000,1001,9223372036854775807] (by simp)
  simp only [zac,List.map] at h3
  simp [-getElem?_pos,zgj,zgk,hr8,h1,h2,c0,c1,c2,c3,c4,c5,c6,h3]
  exact ⟨_,p3,s3,⟨⟨c.ro,c.de,c.bi,c.la,c.rw,c.nu,x,c.sg⟩,rfl,by simp only; omega⟩,hp3,rfl⟩
 by_cases c7:a=7
 ·obtain ⟨r3,h3,v,p3,s3,⟨x,rfl,x0,x1⟩,hp3,rfl⟩:=zbn B p2 s2 hp2 hB 5 (by omega)
  have x2:=x1 (by omega)
  have w:=w64 (x:=x-2) (by omega) (by omega)
  have hr9:=zc3 (n:=c.sg.length+1) (by omega)
  simp [-getElem?_pos,zgj,zgk,hr8,hr9,h1,h2,c0,c1,c2,c3,c4,c5,c6,c7,h3,w,zcv]
  exact ⟨_,p3,s3,⟨⟨c.ro,c.de,c.bi,c.la,c.rw,c.nu,c.dn,c.sg++[x-2]⟩,rfl,by simp; omega⟩,hp3,rfl⟩
 ·simp [-getElem?_pos,zgj,zgk,hr8,h1,h2,c0,c1,c2,c3,c4,c5,c6,c7]
  exact ⟨_,p2,s2,⟨c,rfl,by omega⟩,hp2,rfl⟩
def sv (s:ByteArray):PV := .v (.string s)
def zdn (l:List ByteArray):List (List PV):=l.map fun s=>[.v (.string s)]
@[simp] theorem qac (l:List ByteArray):(zdn l).length=l.length:=by simp [zdn]
theorem yb8 {l:List ByteArray} {i:Nat} {x:ByteArray} (h:l[i]?=some x):(zdn l)[i]?=some [.v (.string x)]:=by simp [zdn,h]
def z3k (q:Bool) (t:List Nd):PV:=if q then .own 5 (t.map nd) else .sl 5 (t.map nd)
@[simp] theorem qbx (q:Bool) (t:List Nd):fz (z3k q t) = .sl 5 (t.map nd):=by cases q <;> simp [z3k]
def trs (q:Bool) (M:List (List Nd)):List (List PV):=M.map fun t=>[z3k q t]
@[simp] theorem qf2 (q:Bool) (M:List (List Nd)):(trs q M).length=M.length:=by simp [trs]
structure Mo where
 ns:List ByteArray
 ix:List Int
 b:Int
 ts:List (List Nd)
structure MoL (n:Nat) (m:Mo):Prop where
 ns:m.ns.length≤n
 ss : ∀ x∈m.ns,x.size≤n
 ix:m.ix.length≤n
 ts:m.ts.length≤n
 tl : ∀ l∈m.ts,l.length≤n
theorem MoL.mono {n k:Nat} {m:Mo} (h:MoL n m) (hk:n≤k):MoL k m:=⟨Nat.le_trans h.ns hk,fun x hx=>Nat.le_trans (h.ss x hx) hk,Nat.le_trans h.ix hk,Nat.le_trans h.ts hk,fun x hx=>Nat.le_trans (h.tl x hx) hk⟩
theorem yue (s:ByteArray) : ∀ (n i:Nat) (r:List UInt8),s.size-i≤n→ByteArray.toList.loop s i r=r.reverse++s.data.toList.drop i:=by
 have hs:s.data.toList.length=s.size:=by cases s; rfl
 intro n
 induction n with
 | zero =>
  intro i r h
  rw [ByteArray.toList.loop,if_neg (by omega),List.drop_eq_nil_of_le (by omega)]
  simp
 | succ n ih =>
  intro i r h
  rw [ByteArray.toList.loop]
  split
  ·rename_i hi
   rw [ih _ _ (by omega)]
   have hi':i<s.data.toList.length:=by omega
   rw [List.drop_eq_getElem_cons hi']
   have:s.get! i=s.data.toList[i]:=by
    cases s with
    | mk d =>
     show d[i]! = _
     rw [getElem!_pos d i (by simpa using hi')]
     simp
   simp [this]
  ·rename_i hi
   rw [List.drop_eq_nil_of_le (by omega)]
   simp
theorem ydw (s:ByteArray):s.toList=s.data.toList:=by
 unfold ByteArray.toList
 rw [yue s s.size 0 [] (by omega)]
 simp
theorem yvr {x y:ByteArray} (h:x.toList=y.toList):x=y:=by
 rw [ydw,ydw] at h
 cases x; cases y
 simp at h
 simp [h]
theorem ytc {x y:ByteArray} (h : ¬ x=y):(x.toList == y.toList)=false:=by
 simp only [beq_eq_false_iff_ne,ne_eq]
 exact fun e=>h (yvr e)
def rwS (q:Bool) (l:List ByteArray):PV:=if q then .own 1 (zdn l) else .sl 1 (zdn l)
@[simp] theorem qda (q:Bool) (l:List ByteArray):fz (rwS q l) = .sl 1 (zdn l):=by cases q <;> simp [rwS]
def ydg (q:Bool) (L:List (List ByteArray)):List (List PV):=L.map fun l=>[rwS q l]
@[simp] theorem y86 (q:Bool) (L:List (List ByteArray)):(ydg q L).length=L.length:=by simp [ydg]
def ltr (n:Int):Bool:=decide (97≤n) && decide (n≤122)
def dgt (n:Int):Bool:=decide (48≤n) && decide (n≤57)
def chB (s:ByteArray) (i:Nat):Bool:=match s[i]? with
 | none=>true
 | some b=>ltr b.toNat || (decide (i≠0) && dgt b.toNat)
def zfh (s:ByteArray):Bool:=zaj s.size 1 12 && (List.range s.size).all (chB s)
theorem yap {s:ByteArray} {i:Nat} {b:UInt8} (h:s[i]?=some b):chB s i=(ltr b.toNat || (decide (i≠0) && dgt b.toNat)):=by simp [chB,h]
theorem z9s (s:ByteArray) (hs:s.size≤9223372036854775807):RUN T zme [.v (.string s)]=some ([bv (zfh s)],[]):=by
 refine zah z80 rfl ?_
 rcases Bool.eq_false_or_eq_true (zaj s.size 1 12) with h0 | h0
 case inr =>
  have no:zfh s=false:=by unfold zfh; rw [h0]; rfl
  simp [-getElem?_pos,zqm,zqn,zbd,-za2,h0,no]
 have hr:=za3.mp h0
 obtain ⟨b0,hb0⟩ : ∃ b,s[0]?=some b:=⟨_,getElem?_pos s 0 (by omega)⟩
 have hn0:zbu (.v (.int .i64 0))=some 0:=rfl
 rcases Classical.propComplete (((b0.toNat:Nat):Int)<97) with f | f
 case inl =>
  have hc:chB s 0=false:=by
   rw [yap hb0]
   have : ¬ (97≤(b0.toNat:Int)):=by have:=of_eq_true f; omega
   simp [ltr,this]
  have no:zfh s=false:=by unfold zfh; rw [zio (by omega) hc]; simp
  simp [-getElem?_pos,zqm,zqn,zbd,-za2,h0,no,hb0,f]
 simp [-getElem?_pos,zqm,zqn,zbd,-za2,h0,hb0,f]
 refine za0 (fun n st => ∃ i:Nat,i+n=s.size∧(∀ j,j<i→chB s j=true)∧st.V 0 = .v (.string s)∧st.V 3=iv i) ?_ s.size _ ⟨0,by simp⟩
 rintro n st ⟨i,hi,hj,v0,v3⟩
 simp [z5b,v0,v3]
 refine zdz (fun h => ?_) (fun h => ?_)
 ·simp at h
  obtain ⟨b,hb⟩ : ∃ b,s[i]?=some b:=⟨_,getElem?_pos s i h⟩
  have hw:=wS h hs
  have hc:=yap hb
  have hcv:IntKind.i64.wrap (b.toNat:Int)=b.toNat:=w64 (by omega) (by have:=b.toNat_lt; omega)
  have e1:zaj (b.toNat:Int) 97 122=ltr b.toNat:=rfl
  have e2:zaj (b.toNat:Int) 48 57=dgt b.toNat:=rfl
  cases a1:ltr b.toNat with
  | true =>
   have e3:=e1.trans a1
   simp [-getElem?_pos,v0,v3,hb,hcv,e3,hw,zbd,-za2]
   exact zan (n-1) (by omega) ⟨i+1,by omega,zug hj (by rw [hc,a1]; rfl),by simp [v0],by simp⟩
  | false =>
   have e3:=e1.trans a1
   cases a2:dgt b.toNat with
   | true =>
    have e4:=e2.trans a2
    have hi0:i≠0:=by
     rintro rfl
     rw [hb0] at hb
     cases hb
     simp [dgt] at a2
     have:=of_eq_false f
     omega
    simp [-getElem?_pos,v0,v3,hb,hcv,e3,e4,hw,zbd,-za2]
    exact zan (n-1) (by omega) ⟨i+1,by omega,zug hj (by rw [hc,a1,a2]; simp [hi0]),by simp [v0],by simp⟩
   | false =>
    have e4:=e2.trans a2
    have no:zfh s=false:=by unfold zfh; rw [zio h (by rw [hc,a1,a2]; simp:chB s i=false)]; simp
    simp [-getElem?_pos,v0,v3,hb,hcv,e3,e4,hw,no,zbd,-za2]
 ·simp at h
  have:=z0e (p:=chB s) (n:=s.size) fun j hj'=>hj j (by omega)
  have ok:zfh s=true:=by unfold zfh; rw [this,h0]; rfl
  simp [ok]
theorem ybx (l:List ByteArray) (i:Nat):List.take i (zdn l)=zdn (l.take i):=by simp [zdn]
def zg5 (l:List ByteArray) (x:ByteArray):Bool:=l.any fun y=>decide (y=x)
theorem z9t (l:List ByteArray) (x:ByteArray) (hl:l.length≤9223372036854775807):RUN T zmf [.sl 1 (zdn l),.v (.string x)]=some ([bv (zg5 l x)],[]):=by
 refine zah z81 rfl ?_
 simp [-getElem?_pos,zzi,zzj]
 refine za0 (fun n st => ∃ i:Nat,i+n=l.length∧(∀ (j:Nat) (y:ByteArray),j<i→l[j]?=some y→¬ y=x)∧st.V 0 = .sl 1 (zdn l)∧st.V 1 = .v (.string x)∧st.V 5=iv i) ?_ l.length _ ⟨0,by simp⟩
 rintro n st ⟨i,hi,hj,v0,v1,v5⟩
 simp [z5c,v0,v5]
 refine zdz (fun h => ?_) (fun h => ?_)
 ·simp at h
  obtain ⟨y,hy⟩ : ∃ y,l[i]?=some y:=⟨_,List.getElem?_eq_getElem h⟩
  have hy':=yb8 hy
  have hw:=wS h hl
  by_cases e:y=x
  ·subst e
   have:zg5 l y=true:=by
    unfold zg5; rw [List.any_eq_true]; exact ⟨y,List.mem_of_getElem? hy,by simp⟩
   simp [-getElem?_pos,v0,v1,v5,hy',h,this]
  ·simp [-getElem?_pos,v0,v1,v5,hy',h,hw,ytc e]
   exact zan (n-1) (by omega) ⟨i+1,by omega,zrd (P:=fun _ y => ¬ y=x) hj hy e,by simp [v0],by simp [v1],by simp⟩
 ·simp at h
  have:zg5 l x=false:=by
   unfold zg5
   rw [List.any_eq_false]
   intro y hy
   obtain ⟨j,hjy⟩:=List.getElem?_of_mem hy
   simpa using hj j y (by have:=(List.getElem?_eq_some_iff.mp hjy).1; omega) hjy
  simp [this]
def nmB (L:List ByteArray) (i:Nat):Bool:=match L[i]? with
 | none=>true
 | some x=>zfh x && !zg5 (L.take i) x
def zjb (L:List ByteArray):Bool:=(List.range L.length).all (nmB L)
theorem zz9 {L:List ByteArray} {i:Nat} {x:ByteArray} (h:L[i]?=some x):nmB L i=(zfh x && !zg5 (L.take i) x):=by simp [nmB,h]
def yzd (p:Nat→Bool) (i:Nat):List Int:=((List.range i).filter p).map fun (j:Nat)=>(j:Int)
@[simp] theorem y8l (p:Nat→Bool):yzd p 0=[]:=rfl
theorem zih (x:Int):IntKind.u64.wrap x=x % 18446744073709551616:=IntKind.wrap_u64 x
theorem ybe (a b:Int):za7 .mul (.int .u64 a) (.int .u64 b)=some (.int .u64 (a*b % 18446744073709551616)):=by rw [z3c,zih]
theorem yce (a b:Int):za7 .add (.int .u64 a) (.int .u64 b)=some (.int .u64 ((a+b) % 18446744073709551616)):=by rw [z4m,zih]
theorem yd9 (x:Int):za7 .shr (.int .u64 x) (.int .u64 32)=some (.int .u64 (x / 4294967296)):=by
 rw [z4f,if_pos (by decide)]
 have:(2:Int) ^ min (32:Int).toNat IntKind.u64.bits=4294967296:=by decide
 rw [this,Int.fdiv_eq_ediv_of_nonneg _ (by decide)]
theorem yxw (x:Int):za7 .shl (.int .u64 x) (.int .u64 32)=some (.int .u64 (x*4294967296 % 18446744073709551616)):=by
 rw [ya4,if_pos (by decide),zih]
 have:(2:Int) ^ min (32:Int).toNat IntKind.u64.bits=4294967296:=by decide
 rw [this]
theorem znn {x:Int} (h0:0≤x) (h1:x<18446744073709551616):za7 .and (.int .u64 x) (.int .u64 4294967295)=some (.int .u64 (x % 4294967296)):=by
 rw [z4t,zih]
 have e:((BitVec.ofInt IntKind.u64.bits x &&& BitVec.ofInt IntKind.u64.bits 4294967295).toNat:Int)=x % 4294967296:=by
  obtain ⟨n,rfl⟩:=Int.eq_ofNat_of_zero_le h0
  have hn:n<2 ^ 64:=by omega
  have e2:(BitVec.ofInt 64 (n:Int) &&& BitVec.ofInt 64 4294967295).toNat=n % 4294967296:=by
   rw [BitVec.toNat_and]
   have e3:(BitVec.ofInt 64 (n:Int)).toNat=n:=by
    rw [BitVec.ofInt_natCast,BitVec.toNat_ofNat,Nat.mod_eq_of_lt hn]
   have e4:(BitVec.ofInt 64 4294967295).toNat=2 ^ 32-1:=by decide
   rw [e3,e4,Nat.and_two_pow_sub_one_eq_mod]
  show (((BitVec.ofInt 64 (n:Int) &&& BitVec.ofInt 64 4294967295).toNat:Nat):Int)=_
  rw [e2]; omega
 rw [e]; congr 2; omega
theorem parts {x y:Int} (hx:0≤x) (hx1:x<18446744073709551616) (hy:0≤y) (hy1:y<18446744073709551616) :
  ∃ a b c d:Int,a=x % 4294967296*(y % 4294967296)∧b=x / 4294967296*(y % 4294967296)∧c=x % 4294967296*(y / 4294967296)∧d=x / 4294967296*(y / 4294967296)∧0≤a∧a≤18446744065119617025∧0≤b∧b≤18446744065119617025∧0≤c∧c≤18446744065119617025∧0≤d∧d≤18446744065119617025∧x*y=d*18446744073709551616+(b+c)*4294967296+a:=by
 have bd : ∀ u v:Int,0≤u→u≤4294967295→0≤v→v≤4294967295→0≤u*v∧u*v≤18446744065119617025:=fun u v h1 h2 h3 h4 =>
  ⟨Int.mul_nonneg h1 h3,Int.le_trans (Int.mul_le_mul h2 h4 h3 (by decide)) (by decide)⟩
 have x0:0≤x % 4294967296∧x % 4294967296≤4294967295:=by omega
 have x1:0≤x / 4294967296∧x / 4294967296≤4294967295:=by omega
 have y0:0≤y % 4294967296∧y % 4294967296≤4294967295:=by omega
 have y1:0≤y / 4294967296∧y / 4294967296≤4294967295:=by omega
 refine ⟨_,_,_,_,rfl,rfl,rfl,rfl,(bd _ _ x0.1 x0.2 y0.1 y0.2).1,(bd _ _ x0.1 x0.2 y0.1 y0.2).2,(bd _ _ x1.1 x1.2 y0.1 y0.2).1,(bd _ _ x1.1 x1.2 y0.1 y0.2).2,(bd _ _ x0.1 x0.2 y1.1 y1.2).1,(bd _ _ x0.1 x0.2 y1.1 y1.2).2,(bd _ _ x1.1 x1.2 y1.1 y1.2).1,(bd _ _ x1.1 x1.2 y1.1 y1.2).2,?_⟩
 have ex:x=x / 4294967296*4294967296+x % 4294967296:=by omega
 have ey:y=y / 4294967296*4294967296+y % 4294967296:=by omega
 generalize x / 4294967296=p at *
 generalize x % 4294967296=q at *
 generalize y / 4294967296=r at *
 generalize y % 4294967296=s at *
 rw [ex,ey,Int.add_mul,Int.mul_add,Int.mul_add]
 have e1:p*4294967296*(r*4294967296)=p*r*18446744073709551616:=by
  rw [show (18446744073709551616:Int)=4294967296*4294967296 by decide,Int.mul_assoc,Int.mul_comm 4294967296 (r*4294967296),Int.mul_assoc r,← Int.mul_assoc p r]
 have e2:p*4294967296*s=p*s*4294967296:=by rw [Int.mul_assoc,Int.mul_comm 4294967296 s,← Int.mul_assoc]
 have e3:q*(r*4294967296)=q*r*4294967296:=by rw [← Int.mul_assoc]
 rw [e1,e2,e3,Int.add_mul]
 omega
theorem z1z (x y:Int) (hx:0≤x) (hx1:x<18446744073709551616) (hy:0≤y) (hy1:y<18446744073709551616):RUN T zkg [.v (.int .u64 x),.v (.int .u64 y)]=some ([.v (.int .u64 (x*y / 18446744073709551616)),.v (.int .u64 (x*y % 18446744073709551616))],[]):=by
 refine zah z87 rfl ?_
 obtain ⟨a,b,c,d,ea,eb,ec,ed,a0,a1,b0,b1,c0,c1,d0,d1,hp⟩:=parts hx hx1 hy hy1
 have f1:=znn hx hx1
 have f2:=znn hy hy1
 have g1:a % 18446744073709551616=a:=by omega
 have g2:b % 18446744073709551616=b:=by omega
 have g3:c % 18446744073709551616=c:=by omega
 have g4:d % 18446744073709551616=d:=by omega
 have g5:(b+a / 4294967296) % 18446744073709551616=b+a / 4294967296:=by omega
 have f3:=znn (x:=b+a / 4294967296) (by omega) (by omega)
 simp [-z3c,-z4m,-z4t,-z4f,ybe,yce,yd9,f1,f2,f3,zzr,zzs,← ea,← eb,← ec,← ed,g1,g2,g3,g4,g5]
 omega
theorem z10 (x y:Int) (hx:0≤x) (hx1:x<18446744073709551616) (hy:0≤y) (hy1:y<18446744073709551616):RUN T zkj [.v (.int .u64 x),.v (.int .u64 y)]=some ([.v (.int .u64 (x*y / 18446744073709551616)),.v (.int .u64 (x*y % 18446744073709551616))],[]):=by
 refine zah z9d rfl ?_
 obtain ⟨a,b,c,d,ea,eb,ec,ed,a0,a1,b0,b1,c0,c1,d0,d1,hp⟩:=parts hx hx1 hy hy1
 have f1:=znn hx hx1
 have f2:=znn hy hy1
 have g1:a % 18446744073709551616=a:=by omega
 have g2:b % 18446744073709551616=b:=by omega
 have g3:c % 18446744073709551616=c:=by omega
 have g4:d % 18446744073709551616=d:=by omega
 have g5:(b+a / 4294967296) % 18446744073709551616=b+a / 4294967296:=by omega
 have f3:=znn (x:=b+a / 4294967296) (by omega) (by omega)
 have f4:=znn (x:=a) (by omega) (by omega)
 simp [-z3c,-z4m,-z4t,-z4f,-ya4,ybe,yce,yd9,yxw,f1,f2,f3,f4,zzz,zz0,← ea,← eb,← ec,← ed,g1,g2,g3,g4,g5]
 omega
structure Wd where
 n:Bool
 h:Int
 l:Int
deriving DecidableEq
abbrev uv (x:Int):PV := .v (.int .u64 x)
def wd (w:Wd):List PV:=[bv w.n,uv w.h,uv w.l]
def wfU (w:Wd):Prop:=0≤w.h∧w.h<18446744073709551616∧0≤w.l∧w.l<18446744073709551616
def wok (w:Wd):Bool:=decide (w.h<9223372036854775808) && (!w.n || decide (0<w.h) || decide (0<w.l))
def mag (w:Wd):Int:=w.h*18446744073709551616+w.l
def mkW (n:Bool) (m:Int):Wd:=⟨n && decide (0<m),m / 18446744073709551616,m % 18446744073709551616⟩
def za5:Wd:=⟨false,0,0⟩
theorem z4p {n:Bool} {m:Int} (h0:0≤m) (h1:m<340282366920938463463374607431768211456):wfU (mkW n m):=by
 unfold wfU mkW; simp only; omega
theorem z4k {n:Bool} {m:Int} (h0:0≤m):wok (mkW n m)=decide (m<170141183460469231731687303715884105728):=by
 unfold wok mkW
 simp only
 by_cases h:m<170141183460469231731687303715884105728
 ·have e:m / 18446744073709551616<9223372036854775808:=by omega
  rw [decide_eq_true h,decide_eq_true e]
  by_cases hz:0<m
  ·by_cases h2:0<m / 18446744073709551616
   ·simp [h2]
   ·have:0<m % 18446744073709551616:=by omega
    simp [this]
  ·simp [hz]
 ·have e : ¬ m / 18446744073709551616<9223372036854775808:=by omega
  rw [decide_eq_false h,decide_eq_false e]; rfl
theorem z11 (n:Int) (h:inI n):RUN T zkh [iv n]=some ([uv n.natAbs],[]):=by
 refine zah z88 rfl ?_
 obtain ⟨h0,h1⟩:=h
 simp [zzt,zzu]
 refine zdz (fun h => ?_) (fun h => ?_) <;> simp at h <;> simp [zih] <;> omega
theorem z12 (n:Int) (h:inI n):RUN T zki [iv n]=some ([uv n.natAbs],[]):=by
 refine zah z9c rfl ?_
 obtain ⟨h0,h1⟩:=h
 have e1:n<0→IntKind.i64.wrap (n+1)=n+1:=fun h=>w64 (by omega) (by omega)
 have e2:n<0→IntKind.i64.wrap (0-(n+1))=0-(n+1):=fun h=>w64 (by omega) (by omega)
 simp [zzx,zzy]
 refine zdz (fun h => ?_) (fun h => ?_) <;> simp at h
 ·have e1:=e1 h
  have e2:=e2 h
  simp at e2
  simp [e1,e2,zih]; omega
 ·simp [zih]; omega
theorem ztc (n:Bool) (h l:Int):RUN T zgi [bv n,uv h,uv l]=some ([.agg (wd ⟨n && (decide (0<h) || decide (0<l)),h,l⟩)],[]):=by
 refine zah z8q rfl ?_
 cases n with
 | false=>simp [zqk,zql,wd]
 | true =>
  by_cases h1:0<h
  ·simp [zqk,zql,wd,h1]
  ·simp [zqk,zql,wd,h1]
theorem zqr (w:Wd):RUN T zhb [.agg (wd w)]=some ([bv (wok w)],[]):=by
 refine zah z85 rfl ?_
 obtain ⟨n,h,l⟩:=w
 unfold wok
 by_cases h1:h<9223372036854775808
 ·cases n with
  | false=>simp [zm3,zm4,wd,h1]
  | true =>
   by_cases h2:0<h
   ·simp [zm3,zm4,wd,h1,h2]
   ·simp [zm3,zm4,wd,h1,h2]
 ·simp [zm3,zm4,wd,h1]
theorem zqs (w:Wd):RUN T zhc [.agg (wd w)]=some ([bv (wok w)],[]):=by
 refine zah z9a rfl ?_
 obtain ⟨n,h,l⟩:=w
 unfold wok
 by_cases h1:h<9223372036854775808
 ·cases n with
  | false=>simp [zm5,zm6,wd,h1]
  | true =>
   by_cases h2:0<h
   ·simp [zm5,zm6,wd,h1,h2]
   ·simp [zm5,zm6,wd,h1,h2]
 ·simp [zm5,zm6,wd,h1]
theorem ztd (w:Wd):RUN T zix [.agg (wd w)]=some ([bv (decide (w.h=0) && decide (w.l=0))],[]):=by
 refine zah z8y rfl ?_
 by_cases h1:w.h=0
 ·simp [zs6,zs7,wd,h1]
 ·simp [zs6,zs7,wd,h1]
def zca (a b:Int):Int:=if a<b then -1 else if b<a then 1 else 0
theorem z9u (x:Int):RUN T zmj [uv x]=some ([bv false],[]):=by
 refine zah z9e rfl ?_
 simp [zz1,zz2]
theorem z9v (x y:Int):RUN T zmi [uv x,uv y]=some ([iv (zca x y)],[]):=by
 refine zah z89 rfl ?_
 have e1:=z9u x
 have e2:=z9u y
 unfold zca
 by_cases h1:x<y
 ·simp [zqo,zqp,e1,e2,h1]
 ·by_cases h2:y<x
  ·simp [zqo,zqp,e1,e2,h1,h2]
  ·simp [zqo,zqp,e1,e2,h1,h2]
theorem z9w (x y:Int):RUN T zl7 [.sl 1 [[iv x],[iv y]]]=some ([iv (if x=0 then y else x)],[]):=by
 refine zah z8g rfl ?_
 simp [zyy,zyz]
 refine za0 (fun n st => ∃ i:Nat,i+n=2∧(1≤i→x=0)∧(2≤i→y=0)∧st.V 3=iv 0∧st.V 6 = .sl 1 [[iv x],[iv y]]∧st.V 7=iv 2∧st.V 8=iv i) ?_ 2 _ ⟨0,by simp⟩
 rintro n st ⟨i,hi,hx,hy,v3,v6,v7,v8⟩
 simp [z5a,v7,v8]
 have h3:i=0∨i=1∨i=2:=by omega
 rcases h3 with rfl | rfl | rfl
 ·have hw:IntKind.i64.wrap 1=1:=w64 (by omega) (by omega)
  by_cases h:x=0
  ·simp [v3,v6,v7,v8,h,hw]
   exact zan (n-1) (by omega) ⟨1,by omega,fun _=>h,by simp,by simp [v3],by simp [v6,h],by simp [v7],by simp⟩
  ·simp [v3,v6,v7,v8,h]
 ·have hx:=hx (by omega)
  have hw:IntKind.i64.wrap 2=2:=w64 (by omega) (by omega)
  by_cases h:y=0
  ·simp [v3,v6,v7,v8,h,hx,hw]
   exact zan (n-1) (by omega) ⟨2,by omega,fun _=>hx,fun _=>h,by simp [v3],by simp [v6,h,hx],by simp [v7],by simp⟩
  ·simp [v3,v6,v7,v8,h,hx]
 ·have hx:=hx (by omega)
  have hy:=hy (by omega)
  simp [v3,hx,hy]
def zek (a b:Wd):Int:=if zca a.h b.h=0 then zca a.l b.l else zca a.h b.h
theorem yd3 {a b:Wd} (ha:wfU a) (hb:wfU b):zek a b=zca (mag a) (mag b):=by
 obtain ⟨_,_,_,_⟩:=ha
 obtain ⟨_,_,_,_⟩:=hb
 unfold zek zca mag
 split <;> split <;> split <;> (try split) <;> (try split) <;> omega
theorem z13 (a b:Wd):RUN T zkd [.agg (wd a),.agg (wd b)]=some ([iv (zek a b)],[]):=by
 refine zah z8r rfl ?_
 have e1:=z9v a.h b.h
 have e2:=z9v a.l b.l
 have e3:=z9w (zca a.h b.h) (zca a.l b.l)
 simp [zy8,zy9,wd,e1,e2,e3,zek]
theorem z14 (a b:Wd):RUN T zke [.agg (wd a),.agg (wd b)]=some ([iv (zek a b)],[]):=by
 refine zah z8z rfl ?_
 unfold zek zca
 by_cases h1:a.h<b.h
 ·simp [zkp,zkq,wd,h1]
 ·by_cases h2:b.h<a.h
  ·have h3 : ¬ a.h=b.h:=by omega
   simp [zkp,zkq,wd,h1,h2,h3]
  ·have h3:a.h=b.h:=by omega
   by_cases h4:a.l<b.l
   ·simp [zkp,zkq,wd,h3,h4]
   ·by_cases h5:b.l<a.l
    ·simp [zkp,zkq,wd,h3,h4,h5]
    ·simp [zkp,zkq,wd,h3,h4,h5]
def zd9 (a b:Int):Wd:=mkW (decide (a<0) != decide (b<0)) ((a.natAbs:Int)*b.natAbs)
theorem zjn {a:Int} (h:inI a):0≤(a.natAbs:Int)∧(a.natAbs:Int)≤9223372036854775808:=by
 obtain ⟨h0,h1⟩:=h; omega
theorem yer {a b:Int} (ha:inI a) (hb:inI b):0≤(a.natAbs:Int)*b.natAbs∧(a.natAbs:Int)*b.natAbs≤85070591730234615865843651857942052864:=by
 obtain ⟨a0,a1⟩:=zjn ha
 obtain ⟨b0,b1⟩:=zjn hb
 exact ⟨Int.mul_nonneg a0 b0,Int.le_trans (Int.mul_le_mul a1 b1 b0 (by decide)) (by decide)⟩
theorem yqb (a b:Int) (ha:inI a) (hb:inI b):RUN T zpt [iv a,iv b]=some ([.agg (wd (zd9 a b))],[]):=by
 refine zah z8n rfl ?_
 obtain ⟨a0,a1⟩:=zjn ha
 obtain ⟨b0,b1⟩:=zjn hb
 have e1:=z11 a ha
 have e2:=z11 b hb
 have e3:=z1z a.natAbs b.natAbs a0 (by omega) b0 (by omega)
 have e4:=ztc (decide (a<0) != decide (b<0)) ((a.natAbs:Int)*b.natAbs / 18446744073709551616) ((a.natAbs:Int)*b.natAbs % 18446744073709551616)
 obtain ⟨m0,m1⟩:=yer ha hb
 have e5:(⟨(decide (a<0) != decide (b<0)) && (decide (0<(a.natAbs:Int)*b.natAbs / 18446744073709551616) || decide (0<(a.natAbs:Int)*b.natAbs % 18446744073709551616)),(a.natAbs:Int)*b.natAbs / 18446744073709551616,(a.natAbs:Int)*b.natAbs % 18446744073709551616⟩:Wd)=zd9 a b:=by
  unfold zd9 mkW
  congr 2
  generalize (a.natAbs:Int)*b.natAbs=m at *
  rw [Bool.eq_iff_iff]; simp; omega
 rw [e5] at e4
 generalize zd9 a b=w at *
 obtain ⟨wn,wh,wl⟩:=w
 simp only [wd] at e4 ⊢
 by_cases sa:a<0 <;> by_cases sb:b<0 <;> simp [sa,sb] at e4 <;> simp [zy4,zy5,e1,e2,e3,sa,sb,e4]
theorem yqc (a b:Int) (ha:inI a) (hb:inI b):RUN T zpy [iv a,iv b]=some ([.agg (wd (zd9 a b))],[]):=by
 refine zah z9b rfl ?_
 obtain ⟨a0,a1⟩:=zjn ha
 obtain ⟨b0,b1⟩:=zjn hb
 have e1:=z12 a ha
 have e2:=z12 b hb
 have e3:=z10 a.natAbs b.natAbs a0 (by omega) b0 (by omega)
 have hpos:(0<(a.natAbs:Int)*b.natAbs)↔(a≠0∧b≠0):=by
  constructor
  ·intro h
   refine ⟨?_,?_⟩ <;> rintro rfl <;> simp at h
  ·rintro ⟨h1,h2⟩
   exact Int.mul_pos (by omega) (by omega)
 have e5:zd9 a b=⟨((decide (a<0) != decide (b<0)) && !decide (a=0)) && !decide (b=0),(a.natAbs:Int)*b.natAbs / 18446744073709551616,(a.natAbs:Int)*b.natAbs % 18446744073709551616⟩:=by
  unfold zd9 mkW
  congr 1
  rw [Bool.eq_iff_iff]; simp [hpos,and_assoc]
 rw [e5]
 by_cases sa:a<0 <;> by_cases sb:b<0 <;> rcases Classical.propComplete (a=0) with h0 | h0 <;> simp [zzv,zzw,e1,e2,e3,sa,sb,wd,h0]
def zeq (w:Wd):Int:=if w.n then -mag w else mag w
def zb9 (a b:Wd):Wd×Bool :=
 if wok a && wok b then
  if ((zeq a+zeq b).natAbs:Int)<170141183460469231731687303715884105728 then (mkW (decide (zeq a+zeq b<0)) (zeq a+zeq b).natAbs,true) else (za5,false)
 else (za5,false)
theorem yvh (a b:Wd):wfU (zb9 a b).1:=by
 unfold zb9
 split
 ·split
  ·exact z4p (by omega) (by omega)
  ·exact ⟨by decide,by decide,by decide,by decide⟩
 ·exact ⟨by decide,by decide,by decide,by decide⟩
theorem zk0 {w:Wd} (h:wfU w) (hk:wok w=true):0≤mag w∧mag w<170141183460469231731687303715884105728∧(w.n=true→0<mag w):=by
 obtain ⟨h0,h1,h2,h3⟩:=h
 unfold wok at hk
 simp only [Bool.and_eq_true,Bool.or_eq_true,Bool.not_eq_true',decide_eq_true_eq] at hk
 unfold mag
 obtain ⟨k1,k2⟩:=hk
 refine ⟨by omega,by omega,fun hn => ?_⟩
 rw [hn] at k2
 rcases k2 with (k2 | k2) | k2
 ·cases k2
 ·omega
 ·omega
theorem ysg (a b:Wd) (ha:wfU a) (hb:wfU b) (h:mag a+mag b<340282366920938463463374607431768211456) : ∃ c d:Int,
  RUN T ziy [uv a.l,uv b.l,uv 0]=some ([uv ((mag a+mag b) % 18446744073709551616),uv c],[])∧RUN T ziy [uv a.h,uv b.h,uv c]=some ([uv ((mag a+mag b) / 18446744073709551616),uv d],[]):=by
 obtain ⟨a0,a1,a2,a3⟩:=ha
 obtain ⟨b0,b1,b2,b3⟩:=hb
 have e1:=z3v z1v (x:=a.l) (y:=b.l) (c:=0) a2 b2 (by decide) (by decide)
 have e2:=z3v z1v (x:=a.h) (y:=b.h) (c:=(a.l+b.l+0) / 18446744073709551616) a0 b0 (by omega) (by omega)
 have f1:(a.l+b.l+0) % 18446744073709551616=(mag a+mag b) % 18446744073709551616:=by unfold mag; omega
 have f2:(a.h+b.h+(a.l+b.l+0) / 18446744073709551616) % 18446744073709551616=(mag a+mag b) / 18446744073709551616:=by unfold mag at *; omega
 rw [f1] at e1
 rw [f2] at e2
 exact ⟨_,_,e1,e2⟩
theorem yby (a b:Wd) (ha:wfU a) (hb:wfU b) (h:mag b≤mag a) : ∃ c d:Int,
  RUN T zkf [uv a.l,uv b.l,uv 0]=some ([uv ((mag a-mag b) % 18446744073709551616),uv c],[])∧RUN T zkf [uv a.h,uv b.h,uv c]=some ([uv ((mag a-mag b) / 18446744073709551616),uv d],[]):=by
 obtain ⟨a0,a1,a2,a3⟩:=ha
 obtain ⟨b0,b1,b2,b3⟩:=hb
 have e1:=ygp z86 (x:=a.l) (y:=b.l) (c:=0) a2 b2 a3 b3 (by decide) (by decide)
 have e2:=ygp z86 (x:=a.h) (y:=b.h) (c:=if a.l<b.l+0 then 1 else 0) a0 b0 a1 b1 (by split <;> omega) (by split <;> omega)
 have f1:(a.l-b.l-0) % 18446744073709551616=(mag a-mag b) % 18446744073709551616:=by unfold mag; omega
 have f2:(a.h-b.h-(if a.l<b.l+0 then 1 else 0)) % 18446744073709551616=(mag a-mag b) / 18446744073709551616:=by
  unfold mag at *
  split <;> omega
 rw [f1] at e1
 rw [f2] at e2
 exact ⟨_,_,e1,e2⟩
theorem z3w {n:Bool} {m:Int} (h:0≤m):RUN T zgi [bv n,uv (m / 18446744073709551616),uv (m % 18446744073709551616)]=some ([.agg (wd (mkW n m))],[]):=by
 rw [ztc]
 have:(⟨n && (decide (0<m / 18446744073709551616) || decide (0<m % 18446744073709551616)),m / 18446744073709551616,m % 18446744073709551616⟩:Wd)=mkW n m:=by
  unfold mkW
  congr 2
  rw [Bool.eq_iff_iff]; simp; omega
 rw [this]
theorem yqd (a b:Wd) (ha:wfU a) (hb:wfU b):RUN T zps [.agg (wd a),.agg (wd b)]=some ([.agg (wd (zb9 a b).1),bv (zb9 a b).2],[]):=by
 refine zah z8l rfl ?_
 have ea:=zqr a
 have eb:=zqr b
 cases ka:wok a with
 | false =>
  have es:zb9 a b=(za5,false):=by unfold zb9; simp [ka]
  rw [es]; rw [ka] at ea
  simp only [wd] at ea
  simp [zi7,zi8,wd,ea,za5]
 | true =>
  cases kb:wok b with
  | false =>
   have es:zb9 a b=(za5,false):=by unfold zb9; simp [kb]
   rw [es]; rw [ka] at ea; rw [kb] at eb
   simp only [wd] at ea eb
   simp [zi7,zi8,wd,ea,eb,za5]
  | true =>
   obtain ⟨ma0,ma1,ma2⟩:=zk0 ha ka
   obtain ⟨mb0,mb1,mb2⟩:=zk0 hb kb
   rw [ka] at ea; rw [kb] at eb
   by_cases hn:a.n=b.n
   ·obtain ⟨c,d,f1,f2⟩:=ysg a b ha hb (by omega)
    have f3:=z3w (n:=a.n) (m:=mag a+mag b) (by omega)
    have f4:=zqr (mkW a.n (mag a+mag b))
    rw [z4k (by omega)] at f4
    have es:zb9 a b=if mag a+mag b<170141183460469231731687303715884105728 then (mkW a.n (mag a+mag b),true) else (za5,false):=by
     unfold zb9 zeq
     rw [ka,kb,← hn]
     simp only [Bool.and_self,if_true]
     cases h:a.n with
     | true =>
      have e1:(-mag a + -mag b).natAbs=mag a+mag b:=by omega
      have e2 : -mag a + -mag b<0:=by have:=ma2 h; omega
      simp only [if_true,e1,decide_eq_true e2]
     | false =>
      have e1:((mag a+mag b).natAbs:Int)=mag a+mag b:=by omega
      have e2 : ¬ mag a+mag b<0:=by omega
      simp only [Bool.false_eq_true,if_false,e1,decide_eq_false e2]
    rw [es]
    generalize hm:mag a+mag b=m at *
    generalize mkW a.n m=w at *
    generalize m / 18446744073709551616=hi at *
    generalize m % 18446744073709551616=lo at *
    simp only [wd] at ea eb f3 f4 ⊢
    rw [hn] at ea f3
    by_cases hk:m<170141183460469231731687303715884105728
    ·rw [decide_eq_true hk] at f4
     rw [if_pos hk]
     simp [zi7,zi8,ea,eb,hn,f1,f2,f3,f4]
    ·rw [decide_eq_false hk] at f4
     rw [if_neg hk]
     simp [zi7,zi8,ea,eb,hn,f1,f2,f3,f4,za5]
   ·have ho:=z13 a b
    rw [yd3 ha hb] at ho
    have es:zb9 a b=(mkW (if mag a<mag b then b.n else a.n) (if mag a<mag b then mag b-mag a else mag a-mag b),true):=by
     have gen : ∀ (n:Bool) (m:Int),((zeq a+zeq b).natAbs:Int)=m→m<170141183460469231731687303715884105728→(decide (zeq a+zeq b<0) && decide (0<m))=(n && decide (0<m))→zb9 a b=(mkW n m,true):=by
      intro n m h1 h2 h3
      unfold zb9
      rw [ka,kb,h1]
      simp only [Bool.and_self,if_true,if_pos h2]
      unfold mkW
      rw [h3]
     unfold zeq at gen
     cases h:a.n <;> cases h':b.n <;> simp only [h,h'] at gen hn ⊢
     ·exact (hn trivial).elim
     ·by_cases hl:mag a<mag b
      ·rw [if_pos hl,if_pos hl]
       exact gen _ _ (by simp; omega) (by omega) (by rw [Bool.eq_iff_iff]; simp; omega)
      ·rw [if_neg hl,if_neg hl]
       exact gen _ _ (by simp; omega) (by omega) (by rw [Bool.eq_iff_iff]; simp; omega)
     ·by_cases hl:mag a<mag b
      ·rw [if_pos hl,if_pos hl]
       exact gen _ _ (by simp; omega) (by omega) (by rw [Bool.eq_iff_iff]; simp; omega)
      ·rw [if_neg hl,if_neg hl]
       exact gen _ _ (by simp; omega) (by omega) (by rw [Bool.eq_iff_iff]; simp; omega)
     ·exact (hn trivial).elim
    rw [es]
    have hnb:(a.n == b.n)=false:=by cases h:a.n <;> cases h':b.n <;> simp [h,h'] at hn ⊢
    by_cases hl:mag a<mag b
    ·obtain ⟨c,d,f1,f2⟩:=yby b a hb ha (by omega)
     have f3:=z3w (n:=b.n) (m:=mag b-mag a) (by omega)
     have hs:zca (mag a) (mag b) = -1:=by unfold zca; rw [if_pos hl]
     rw [hs] at ho
     rw [if_pos hl,if_pos hl]
     generalize mag b-mag a=m at *
     generalize mkW b.n m=w at *
     generalize m / 18446744073709551616=hi at *
     generalize m % 18446744073709551616=lo at *
     simp only [wd] at ea eb f3 ho ⊢
     simp [zi7,zi8,ea,eb,hnb,ho,f1,f2,f3]
    ·obtain ⟨c,d,f1,f2⟩:=yby a b ha hb (by omega)
     have f3:=z3w (n:=a.n) (m:=mag a-mag b) (by omega)
     have hs : ¬ zca (mag a) (mag b)<0:=by unfold zca; rw [if_neg hl]; split <;> omega
     rw [if_neg hl,if_neg hl]
     generalize mag a-mag b=m at *
     generalize mkW a.n m=w at *
     generalize m / 18446744073709551616=hi at *
     generalize m % 18446744073709551616=lo at *
     generalize zca (mag a) (mag b)=sg at *
     simp only [wd] at ea eb f3 ho ⊢
     simp [zi7,zi8,ea,eb,hnb,ho,hs,f1,f2,f3]
theorem yr8 {a b:Wd} (ha:wfU a) (hb:wfU b) (ka:wok a=true) (kb:wok b=true) (hn:a.n=b.n):zb9 a b=if mag a+mag b<170141183460469231731687303715884105728 then (mkW a.n (mag a+mag b),true) else (za5,false):=by
 obtain ⟨ma0,ma1,ma2⟩:=zk0 ha ka
 obtain ⟨mb0,mb1,mb2⟩:=zk0 hb kb
 unfold zb9 zeq
 rw [ka,kb,← hn]
 simp only [Bool.and_self,if_true]
 cases h:a.n with
 | true =>
  have e1:(-mag a + -mag b).natAbs=mag a+mag b:=by omega
  have e2 : -mag a + -mag b<0:=by have:=ma2 h; omega
  simp only [if_true,e1,decide_eq_true e2]
 | false =>
  have e1:((mag a+mag b).natAbs:Int)=mag a+mag b:=by omega
  have e2 : ¬ mag a+mag b<0:=by omega
  simp only [Bool.false_eq_true,if_false,e1,decide_eq_false e2]
theorem yw8 {a b:Wd} (ha:wfU a) (hb:wfU b) (ka:wok a=true) (kb:wok b=true) (hn : ¬ a.n=b.n):zb9 a b=(mkW (if mag a<mag b then b.n else a.n) (if mag a<mag b then mag b-mag a else mag a-mag b),true):=by
 obtain ⟨ma0,ma1,ma2⟩:=zk0 ha ka
 obtain ⟨mb0,mb1,mb2⟩:=zk0 hb kb
 have gen : ∀ (n:Bool) (m:Int),((zeq a+zeq b).natAbs:Int)=m→m<170141183460469231731687303715884105728→(decide (zeq a+zeq b<0) && decide (0<m))=(n && decide (0<m))→zb9 a b=(mkW n m,true):=by
  intro n m h1 h2 h3
  unfold zb9
  rw [ka,kb,h1]
  simp only [Bool.and_self,if_true,if_pos h2]
  unfold mkW
  rw [h3]
 unfold zeq at gen
 cases h:a.n <;> cases h':b.n <;> simp only [h,h'] at gen hn ⊢
 ·exact (hn trivial).elim
 ·by_cases hl:mag a<mag b
  ·rw [if_pos hl,if_pos hl]
   exact gen _ _ (by simp; omega) (by omega) (by rw [Bool.eq_iff_iff]; simp; omega)
  ·rw [if_neg hl,if_neg hl]
   exact gen _ _ (by simp; omega) (by omega) (by rw [Bool.eq_iff_iff]; simp; omega)
 ·by_cases hl:mag a<mag b
  ·rw [if_pos hl,if_pos hl]
   exact gen _ _ (by simp; omega) (by omega) (by rw [Bool.eq_iff_iff]; simp; omega)
  ·rw [if_neg hl,if_neg hl]
   exact gen _ _ (by simp; omega) (by omega) (by rw [Bool.eq_iff_iff]; simp; omega)
 ·exact (hn trivial).elim
theorem ys1 (a b:Wd) (ha:wfU a) (hb:wfU b) (h:mag a+mag b<340282366920938463463374607431768211456) :
  IntKind.u64.wrap (a.l+b.l)=(mag a+mag b) % 18446744073709551616∧((mag a+mag b) % 18446744073709551616<a.l→IntKind.u64.wrap (IntKind.u64.wrap (a.h+b.h)+1)=(mag a+mag b) / 18446744073709551616)∧(¬ (mag a+mag b) % 18446744073709551616<a.l→IntKind.u64.wrap (a.h+b.h)=(mag a+mag b) / 18446744073709551616):=by
 obtain ⟨a0,a1,a2,a3⟩:=ha
 obtain ⟨b0,b1,b2,b3⟩:=hb
 unfold mag at *
 refine ⟨?_,fun h => ?_,fun h => ?_⟩ <;> simp only [zih] at * <;> omega
theorem yd4 (a b:Wd) (ha:wfU a) (hb:wfU b) (h:mag b≤mag a) :
  IntKind.u64.wrap (a.l-b.l)=(mag a-mag b) % 18446744073709551616∧(a.l<b.l→IntKind.u64.wrap (IntKind.u64.wrap (a.h-b.h)-1)=(mag a-mag b) / 18446744073709551616)∧(¬ a.l<b.l→IntKind.u64.wrap (a.h-b.h)=(mag a-mag b) / 18446744073709551616):=by
 obtain ⟨a0,a1,a2,a3⟩:=ha
 obtain ⟨b0,b1,b2,b3⟩:=hb
 unfold mag at *
 refine ⟨?_,fun h => ?_,fun h => ?_⟩ <;> simp only [zih] at * <;> omega
theorem yqe (a b:Wd) (ha:wfU a) (hb:wfU b):RUN T zpv [.agg (wd a),.agg (wd b)]=some ([.agg (wd (zb9 a b).1),bv (zb9 a b).2],[]):=by
 refine zah z8u rfl ?_
 have ea:=zqs a
 have eb:=zqs b
 cases ka:wok a with
 | false =>
  have es:zb9 a b=(za5,false):=by unfold zb9; simp [ka]
  rw [es]; rw [ka] at ea
  simp only [wd] at ea
  simp [zfj,zfk,wd,ea,za5]
 | true =>
  cases kb:wok b with
  | false =>
   have es:zb9 a b=(za5,false):=by unfold zb9; simp [kb]
   rw [es]; rw [ka] at ea; rw [kb] at eb
   simp only [wd] at ea eb
   simp [zfj,zfk,wd,ea,eb,za5]
  | true =>
   obtain ⟨ma0,ma1,ma2⟩:=zk0 ha ka
   obtain ⟨mb0,mb1,mb2⟩:=zk0 hb kb
   rw [ka] at ea; rw [kb] at eb
   by_cases hn:a.n=b.n
   ·obtain ⟨f1,f2,f3⟩:=ys1 a b ha hb (by omega)
    have f4:=zqs (mkW a.n (mag a+mag b))
    rw [z4k (by omega)] at f4
    rw [yr8 ha hb ka kb hn]
    have e6:mkW a.n (mag a+mag b)=⟨a.n,(mag a+mag b) / 18446744073709551616,(mag a+mag b) % 18446744073709551616⟩:=by
     unfold mkW
     congr 1
     cases h:a.n with
     | false=>rfl
     | true=>have:=ma2 h; simp; omega
    rw [e6] at f4 ⊢
    generalize hm:mag a+mag b=m at *
    generalize m / 18446744073709551616=hi at *
    generalize m % 18446744073709551616=lo at *
    simp only [wd] at ea eb f4 ⊢
    rw [hn] at ea f4
    by_cases hc:lo<a.l
    ·have f2:=f2 hc
     by_cases hk:m<170141183460469231731687303715884105728
     ·rw [decide_eq_true hk] at f4
      rw [if_pos hk]
      simp [zfj,zfk,ea,eb,hn,hc,f1,f2,f4]
     ·rw [decide_eq_false hk] at f4
      rw [if_neg hk]
      simp [zfj,zfk,ea,eb,hn,hc,f1,f2,f4,za5]
    ·have f3:=f3 hc
     by_cases hk:m<170141183460469231731687303715884105728
     ·rw [decide_eq_true hk] at f4
      rw [if_pos hk]
      simp [zfj,zfk,ea,eb,hn,hc,f1,f3,f4]
     ·rw [decide_eq_false hk] at f4
      rw [if_neg hk]
      simp [zfj,zfk,ea,eb,hn,hc,f1,f3,f4,za5]
   ·have ho:=z14 a b
    rw [yd3 ha hb] at ho
    rw [yw8 ha hb ka kb hn]
    have hnb:(a.n == b.n)=false:=by cases h:a.n <;> cases h':b.n <;> simp [h,h'] at hn ⊢
    by_cases hl:mag a<mag b
    ·obtain ⟨f1,f2,f3⟩:=yd4 b a hb ha (by omega)
     have hz:=ztd ⟨b.n,(mag b-mag a) / 18446744073709551616,(mag b-mag a) % 18446744073709551616⟩
     have hs:zca (mag a) (mag b) = -1:=by unfold zca; rw [if_pos hl]
     rw [hs] at ho
     rw [if_pos hl,if_pos hl]
     have e6:mkW b.n (mag b-mag a)=⟨b.n,(mag b-mag a) / 18446744073709551616,(mag b-mag a) % 18446744073709551616⟩:=by
      unfold mkW
      congr 1
      rw [decide_eq_true (show 0<mag b-mag a by omega),Bool.and_true]
     have e7:(decide ((mag b-mag a) / 18446744073709551616=0) && decide ((mag b-mag a) % 18446744073709551616=0))=false:=by
      rw [Bool.eq_false_iff]; simp; omega
     simp only at hz
     rw [e7] at hz
     rw [e6]
     clear e6 e7
     generalize mag b-mag a=m at *
     generalize m / 18446744073709551616=hi at *
     generalize m % 18446744073709551616=lo at *
     simp only [wd] at ea eb ho hz ⊢
     by_cases hc:b.l<a.l
     ·have f2:=f2 hc
      simp [zfj,zfk,ea,eb,hnb,ho,hc,f1,f2,hz]
     ·have f3:=f3 hc
      simp [zfj,zfk,ea,eb,hnb,ho,hc,f1,f3,hz]
    ·obtain ⟨f1,f2,f3⟩:=yd4 a b ha hb (by omega)
     have hz:=ztd ⟨a.n,(mag a-mag b) / 18446744073709551616,(mag a-mag b) % 18446744073709551616⟩
     have hs : ¬ zca (mag a) (mag b)<0:=by unfold zca; rw [if_neg hl]; split <;> omega
     rw [if_neg hl,if_neg hl]
     generalize zca (mag a) (mag b)=sg at *
     by_cases h0:mag a-mag b=0
     ·have e6:mkW a.n (mag a-mag b)=⟨false,(mag a-mag b) / 18446744073709551616,(mag a-mag b) % 18446744073709551616⟩:=by
       unfold mkW
       congr 1
       simp [h0]
      have e7:(decide ((mag a-mag b) / 18446744073709551616=0) && decide ((mag a-mag b) % 18446744073709551616=0))=true:=by
       simp; omega
      simp only at hz
      rw [e7] at hz
      rw [e6]
      clear e6 e7 h0
      generalize mag a-mag b=m at *
      generalize m / 18446744073709551616=hi at *
      generalize m % 18446744073709551616=lo at *
      simp only [wd] at ea eb ho hz ⊢
      by_cases hc:a.l<b.l
      ·have f2:=f2 hc
       simp [zfj,zfk,ea,eb,hnb,ho,hs,hc,f1,f2,hz]
      ·have f3:=f3 hc
       simp [zfj,zfk,ea,eb,hnb,ho,hs,hc,f1,f3,hz]
     ·have e6:mkW a.n (mag a-mag b)=⟨a.n,(mag a-mag b) / 18446744073709551616,(mag a-mag b) % 18446744073709551616⟩:=by
       unfold mkW
       congr 1
       rw [decide_eq_true (show 0<mag a-mag b by omega),Bool.and_true]
      have e7:(decide ((mag a-mag b) / 18446744073709551616=0) && decide ((mag a-mag b) % 18446744073709551616=0))=false:=by
       rw [Bool.eq_false_iff]; simp; omega
      simp only at hz
      rw [e7] at hz
      rw [e6]
      clear e6 e7 h0
      generalize mag a-mag b=m at *
      generalize m / 18446744073709551616=hi at *
      generalize m % 18446744073709551616=lo at *
      simp only [wd] at ea eb ho hz ⊢
      by_cases hc:a.l<b.l
      ·have f2:=f2 hc
       simp [zfj,zfk,ea,eb,hnb,ho,hs,hc,f1,f2,hz]
      ·have f3:=f3 hc
       simp [zfj,zfk,ea,eb,hnb,ho,hs,hc,f1,f3,hz]
theorem yr4 {a b:Int} (ha:inI a) (hb:inI b):wfU (zd9 a b):=by
 obtain ⟨m0,m1⟩:=yer ha hb
 exact z4p m0 (by omega)
def zdc (w:Wd) (k:Int):Wd×Bool:=if wok w=true∧mag w*k.natAbs<170141183460469231731687303715884105728 then (mkW (w.n != decide (k<0)) (mag w*k.natAbs),true) else (za5,false)
theorem ycg (w:Wd) (k:Int) (hw:wfU w) (hk:inI k) : ∃ p q:Int,w.h*k.natAbs=p∧w.l*k.natAbs=q∧0≤p∧0≤q∧q≤170141183460469231722463931679029329920∧mag w*k.natAbs=p*18446744073709551616+q:=by
 obtain ⟨a0,a1,a2,a3⟩:=hw
 obtain ⟨k0,k1⟩:=zjn hk
 refine ⟨_,_,rfl,rfl,Int.mul_nonneg a0 k0,Int.mul_nonneg a2 k0,Int.le_trans (Int.mul_le_mul (show w.l≤18446744073709551615 by omega) k1 k0 (by decide)) (by decide),?_⟩
 unfold mag
 rw [Int.add_mul,Int.mul_assoc,Int.mul_comm 18446744073709551616,← Int.mul_assoc]
theorem yfl (w:Wd) (k:Int) (ka:wok w=true) (p q:Int) (p0:0≤p) (q0:0≤q) (q1:q≤170141183460469231722463931679029329920) (hP:mag w*k.natAbs=p*18446744073709551616+q) :
  (zdc w k=(za5,false)∧(0<p / 18446744073709551616∨0<(p % 18446744073709551616+q / 18446744073709551616) / 18446744073709551616∨wok ⟨(w.n != decide (k<0)) && (decide (0<(p % 18446744073709551616+q / 18446744073709551616) % 18446744073709551616) || decide (0<q % 18446744073709551616)),(p % 18446744073709551616+q / 18446744073709551616) % 18446744073709551616,q % 18446744073709551616⟩=false)) ∨
  (zdc w k=(⟨(w.n != decide (k<0)) && (decide (0<(p % 18446744073709551616+q / 18446744073709551616) % 18446744073709551616) || decide (0<q % 18446744073709551616)),(p % 18446744073709551616+q / 18446744073709551616) % 18446744073709551616,q % 18446744073709551616⟩,true)∧¬ 0<p / 18446744073709551616∧¬ 0<(p % 18446744073709551616+q / 18446744073709551616) / 18446744073709551616∧wok ⟨(w.n != decide (k<0)) && (decide (0<(p % 18446744073709551616+q / 18446744073709551616) % 18446744073709551616) || decide (0<q % 18446744073709551616)),(p % 18446744073709551616+q / 18446744073709551616) % 18446744073709551616,q % 18446744073709551616⟩=true):=by
 by_cases hk:p*18446744073709551616+q<170141183460469231731687303715884105728
 ·right
  have e:(⟨(w.n != decide (k<0)) && (decide (0<(p % 18446744073709551616+q / 18446744073709551616) % 18446744073709551616) || decide (0<q % 18446744073709551616)),(p % 18446744073709551616+q / 18446744073709551616) % 18446744073709551616,q % 18446744073709551616⟩:Wd)=mkW (w.n != decide (k<0)) (p*18446744073709551616+q):=by
   unfold mkW
   congr 1
   ·congr 1
    rw [Bool.eq_iff_iff]; simp; omega
   ·omega
   ·omega
  rw [e,z4k (by omega)]
  refine ⟨?_,by omega,by omega,decide_eq_true hk⟩
  unfold zdc
  rw [hP,if_pos ⟨ka,hk⟩]
 ·left
  refine ⟨?_,?_⟩
  ·unfold zdc
   rw [hP,if_neg (fun h=>hk h.2)]
  ·by_cases h1:0<p / 18446744073709551616
   ·exact .inl h1
   ·by_cases h2:0<(p % 18446744073709551616+q / 18446744073709551616) / 18446744073709551616
    ·exact .inr (.inl h2)
    ·refine .inr (.inr ?_)
     unfold wok
     rw [decide_eq_false (show ¬ (p % 18446744073709551616+q / 18446744073709551616) % 18446744073709551616<9223372036854775808 by omega)]
     rfl
set_option maxHeartbeats 1000000 in
theorem z9x (w:Wd) (k:Int) (hw:wfU w) (hk:inI k):RUN T zmb [.agg (wd w),iv k]=some ([.agg (wd (zdc w k).1),bv (zdc w k).2],[]):=by
 refine zah z8p rfl ?_
 have ea:=zqr w
 cases ka:wok w with
 | false =>
  have es:zdc w k=(za5,false):=by unfold zdc; simp [ka]
  rw [es]; rw [ka] at ea
  simp only [wd] at ea
  simp [zhf,zhg,wd,ea,za5]
 | true =>
  rw [ka] at ea
  obtain ⟨a0,a1,a2,a3⟩:=hw
  obtain ⟨k0,k1⟩:=zjn hk
  have e1:=z11 k hk
  have e2:=z1z w.h k.natAbs a0 a1 k0 (by omega)
  have e3:=z1z w.l k.natAbs a2 a3 k0 (by omega)
  obtain ⟨p,q,hp,hq,p0,q0,q1,hP⟩:=ycg w k ⟨a0,a1,a2,a3⟩ hk
  rw [hp] at e2
  rw [hq] at e3
  have e4:=z3v z1v (x:=p % 18446744073709551616) (y:=q / 18446744073709551616) (c:=0) (by omega) (by omega) (by decide) (by decide)
  rw [Int.add_zero] at e4
  have e5:=ztc (w.n != decide (k<0)) ((p % 18446744073709551616+q / 18446744073709551616) % 18446744073709551616) (q % 18446744073709551616)
  have e6:=zqr ⟨(w.n != decide (k<0)) && (decide (0<(p % 18446744073709551616+q / 18446744073709551616) % 18446744073709551616) || decide (0<q % 18446744073709551616)),(p % 18446744073709551616+q / 18446744073709551616) % 18446744073709551616,q % 18446744073709551616⟩
  have key:=yfl w k ka p q p0 q0 q1 hP
  generalize ((w.n != decide (k<0)) && (decide (0<(p % 18446744073709551616+q / 18446744073709551616) % 18446744073709551616) || decide (0<q % 18446744073709551616)))=sn at *
  generalize p / 18446744073709551616=P1 at *
  generalize p % 18446744073709551616=P2 at *
  generalize q / 18446744073709551616=Q1 at *
  generalize q % 18446744073709551616=Q2 at *
  generalize (P2+Q1) / 18446744073709551616=S1 at *
  generalize (P2+Q1) % 18446744073709551616=S2 at *
  generalize zdc w k=r at *
  generalize wok ⟨sn,S2,Q2⟩=o at *
  obtain ⟨wn,wh,wl⟩:=w
  simp only [wd] at ea e5 e6 ⊢
  simp only at e2 e3
  rcases key with ⟨rfl,c | c | rfl⟩ | ⟨rfl,c1,c2,rfl⟩
  ·cases wn <;> by_cases sb:k<0 <;> simp [sb] at e5 <;> simp [zhf,zhg,ea,e1,e2,e3,e4,e5,sb,c,za5]
  ·by_cases c':0<P1
   ·cases wn <;> by_cases sb:k<0 <;> simp [sb] at e5 <;> simp [zhf,zhg,ea,e1,e2,e3,e4,e5,sb,c',za5]
   ·cases wn <;> by_cases sb:k<0 <;> simp [sb] at e5 <;> simp [zhf,zhg,ea,e1,e2,e3,e4,e5,sb,c',c,za5]
  ·by_cases c':0<P1
   ·cases wn <;> by_cases sb:k<0 <;> simp [sb] at e5 <;> simp [zhf,zhg,ea,e1,e2,e3,e4,e5,sb,c',za5]
   ·by_cases c:0<S1
    ·cases wn <;> by_cases sb:k<0 <;> simp [sb] at e5 <;> simp [zhf,zhg,ea,e1,e2,e3,e4,e5,sb,c',c,za5]
    ·cases wn <;> by_cases sb:k<0 <;> simp [sb] at e5 <;> simp [zhf,zhg,ea,e1,e2,e3,e4,e5,e6,sb,c',c,za5]
  ·cases wn <;> by_cases sb:k<0 <;> simp [sb] at e5 <;> simp [zhf,zhg,ea,e1,e2,e3,e4,e5,e6,sb,c1,c2]
set_option maxHeartbeats 1000000 in
theorem z9y (w:Wd) (k:Int) (hw:wfU w) (hk:inI k):RUN T zmd [.agg (wd w),iv k]=some ([.agg (wd (zdc w k).1),bv (zdc w k).2],[]):=by
 refine zah z8x rfl ?_
 have ea:=zqs w
 cases ka:wok w with
 | false =>
  have es:zdc w k=(za5,false):=by unfold zdc; simp [ka]
  rw [es]; rw [ka] at ea
  simp only [wd] at ea
  simp [zhh,zhi,wd,ea,za5]
 | true =>
  rw [ka] at ea
  obtain ⟨a0,a1,a2,a3⟩:=hw
  obtain ⟨k0,k1⟩:=zjn hk
  have e1:=z12 k hk
  have e2:=z10 w.h k.natAbs a0 a1 k0 (by omega)
  have e3:=z10 w.l k.natAbs a2 a3 k0 (by omega)
  obtain ⟨p,q,hp,hq,p0,q0,q1,hP⟩:=ycg w k ⟨a0,a1,a2,a3⟩ hk
  rw [hp] at e2
  rw [hq] at e3
  have e4:=ztd ⟨w.n != decide (k<0),(p % 18446744073709551616+q / 18446744073709551616) % 18446744073709551616,q % 18446744073709551616⟩
  have e5:(decide (0<(p % 18446744073709551616+q / 18446744073709551616) % 18446744073709551616) || decide (0<q % 18446744073709551616)) = !(decide ((p % 18446744073709551616+q / 18446744073709551616) % 18446744073709551616=0) && decide (q % 18446744073709551616=0)):=by
   rw [Bool.eq_iff_iff]; simp; omega
  have e6:=zqs ⟨(w.n != decide (k<0)) && (decide (0<(p % 18446744073709551616+q / 18446744073709551616) % 18446744073709551616) || decide (0<q % 18446744073709551616)),(p % 18446744073709551616+q / 18446744073709551616) % 18446744073709551616,q % 18446744073709551616⟩
  have e7:0<(p % 18446744073709551616+q / 18446744073709551616) / 18446744073709551616↔(p % 18446744073709551616+q / 18446744073709551616) % 18446744073709551616<p % 18446744073709551616:=by omega
  have e8:=zih (p % 18446744073709551616+q / 18446744073709551616)
  have key:=yfl w k ka p q p0 q0 q1 hP
  rw [e7] at key
  rw [e5] at key e6
  clear e7 e5
  simp only at e4
  generalize (decide ((p % 18446744073709551616+q / 18446744073709551616) % 18446744073709551616=0) && decide (q % 18446744073709551616=0))=z at *
  generalize p / 18446744073709551616=P1 at *
  generalize p % 18446744073709551616=P2 at *
  generalize q / 18446744073709551616=Q1 at *
  generalize q % 18446744073709551616=Q2 at *
  generalize (P2+Q1) % 18446744073709551616=S2 at *
  generalize zdc w k=r at *
  generalize hsn:((w.n != decide (k<0)) && !z)=sn at *
  generalize wok ⟨sn,S2,Q2⟩=o at *
  obtain ⟨wn,wh,wl⟩:=w
  simp only [wd] at ea e4 e6 ⊢
  simp only at e2 e3 hsn
  rcases key with ⟨rfl,c | c | rfl⟩ | ⟨rfl,c1,c2,rfl⟩
  ·cases wn <;> by_cases sb:k<0 <;> cases z <;> simp [sb] at e4 <;> simp [zhh,zhi,ea,e1,e2,e3,e4,e8,sb,c,za5]
  ·by_cases c':0<P1
   ·cases wn <;> by_cases sb:k<0 <;> cases z <;> simp [sb] at e4 <;> simp [zhh,zhi,ea,e1,e2,e3,e4,e8,sb,c',za5]
   ·cases wn <;> by_cases sb:k<0 <;> cases z <;> simp [sb] at e4 <;> simp [zhh,zhi,ea,e1,e2,e3,e4,e8,sb,c',c,za5]
  ·by_cases c':0<P1
   ·cases wn <;> by_cases sb:k<0 <;> cases z <;> simp [sb] at e4 <;> simp [zhh,zhi,ea,e1,e2,e3,e4,e8,sb,c',za5]
   ·by_cases c:S2<P2
    ·cases wn <;> by_cases sb:k<0 <;> cases z <;> simp [sb] at e4 <;> simp [zhh,zhi,ea,e1,e2,e3,e4,e8,sb,c',c,za5]
    ·cases wn <;> by_cases sb:k<0 <;> cases z <;> simp [sb] at e4 hsn <;> subst hsn <;> simp [zhh,zhi,ea,e1,e2,e3,e4,e6,e8,sb,c',c,za5]
  ·cases wn <;> by_cases sb:k<0 <;> cases z <;> simp [sb] at e4 hsn <;> subst hsn <;> simp [zhh,zhi,ea,e1,e2,e3,e4,e6,e8,sb,c1,c2]
def zeo (w:Wd):Bool:=w.n && !(decide (w.h=0) && decide (w.l=0))
def zjz (a b:Wd):Int:=if zeo a=true then (if zeo b=true then zek b a else -1) else (if zeo b=true then 1 else zek a b)
theorem yqf (a b:Wd):RUN T zpm [.agg (wd a),.agg (wd b)]=some ([iv (zjz a b)],[]):=by
 refine zah z8a rfl ?_
 have e1:=ztd a
 have e2:=ztd b
 have e3:=z14 a b
 have e4:=z14 b a
 unfold zjz zeo
 generalize zek a b=x at *
 generalize zek b a=y at *
 generalize (decide (a.h=0) && decide (a.l=0))=z at *
 generalize (decide (b.h=0) && decide (b.l=0))=z' at *
 obtain ⟨an,ah,al⟩:=a
 obtain ⟨bn,bh,bl⟩:=b
 simp only [wd] at e1 e2 e3 e4 ⊢
 cases an <;> cases bn <;> cases z <;> cases z' <;> simp [zyp,zyq,e1,e2,e3,e4]
theorem z1e (l:List Nd) (x:Nd):l.map nd++[[iv x.f,iv x.c,iv x.l,iv x.r,iv x.v]]=(l++[x]).map nd:=by simp [nd]
def ycy (t:List Nd) (k:Nat) (f c a b:Int):List Nd:=t.set k ⟨f,c,t.length,t.length+1,0⟩++[⟨-1,0,0,0,a⟩,⟨-1,0,0,0,b⟩]
def PRw (n:Nat) (v:PV):Prop := ∃ l:List Int,v = .own 1 (zac l)∧l.length=n∧∀ x∈l,inI x
theorem ybv (l:List ByteArray):zdt (zdn l)=true:=by simp [zdt,zdn]
theorem ztg (L:List (List Int)) (r:List Int):rws true L++[[.own 1 (zac r)]]=rws true (L++[r]):=by simp [rws,cel]
theorem z1a (L:List (List Int)) (i:Nat) (r:List Int):(rws true L).set i [.own 1 (zac r)]=rws true (L.set i r):=by simp [rws,cel]
def pos (x:Int) (l:List Int):Nat→Nat
 | 0=>0
 | k+1=>if x<l.getD k 0 then pos x l k else k+1
def ins (l:List Int) (x:Int):List Int:=l.take (pos x l l.length)++x::l.drop (pos x l l.length)
def zqw (l:List Int):List Int:=l.foldl ins []
theorem yc5 (x:Int) (l:List Int) : ∀ k,pos x l k≤k
 | 0=>by simp [pos]
 | k+1=>by
  have:=yc5 x l k
  simp only [pos]; split <;> omega
theorem yve (l:List Int) (x:Int):(ins l x).length=l.length+1:=by
 have:=yc5 x l l.length
 unfold ins
 simp; omega
theorem yx1 {l:List Int} {i:Nat} {x:Int} (h:l[i]?=some x):(l.take (i+1)).foldl ins []=ins ((l.take i).foldl ins []) x:=by
 rw [List.take_succ,h]
 simp [List.foldl_append]
theorem yxz (l:List Int) : ∀ a:List Int,(l.foldl ins a).length=a.length+l.length:=by
 induction l with
 | nil=>intro a; rfl
 | cons x l ih=>intro a; simp only [List.foldl_cons,ih,yve,List.length_cons]; omega
theorem yva (a:List Int) (p:Nat):List.take (a.length-p) (List.drop p (zac a))=zac (a.drop p):=by
 rw [List.take_of_length_le (by simp)]
 simp [zac,List.map_drop]
theorem ytu (a:List Int) (p:Nat) (h:p≤a.length):(if p=a.length then zac a else List.take p (zac a))=zac (a.take p):=by
 split
 ·rename_i e; subst e; rw [List.take_length]
 ·simp [zac,List.map_take]
theorem yao (x:Int) (l:List Int) (k:Nat):pos x l (k+1)=if x<l.getD k 0 then pos x l k else k+1:=rfl
def ze7 (x:Int) (l:List Int) (k P:Nat):Prop:=pos x l k=P
theorem ze7.on {x y:Int} {l:List Int} {k P:Nat} (h:ze7 x l (k+1) P) (hy:l[k]?=some y) (hc:x<y):ze7 x l k P:=by
 unfold ze7 at *
 rw [yao] at h
 simp only [List.getD,hy,Option.getD_some,if_pos hc] at h
 exact h
theorem ze7.off {x y:Int} {l:List Int} {k P:Nat} (h:ze7 x l (k+1) P) (hy:l[k]?=some y) (hc : ¬ x<y):k+1=P:=by
 unfold ze7 at *
 rw [yao] at h
 simp only [List.getD,hy,Option.getD_some,if_neg hc] at h
 exact h
theorem ze7.ex (x:Int) (l:List Int) (k:Nat) : ∃ P,ze7 x l k P:=⟨_,rfl⟩
theorem ze7.z {x:Int} {l:List Int} {P:Nat} (h:ze7 x l 0 P):0=P:=h
theorem yga {x:Int} {l:List Int} {P:Nat} (h:ze7 x l l.length P):ins l x=l.take P++x::l.drop P:=by unfold ze7 at h; unfold ins; rw [h]
attribute [irreducible] pos ins ze7
set_option maxHeartbeats 800000 in
theorem z9z (l:List Int) (hl:l.length≤1048576):RUN T zmg [.sl 1 (zac l)]=some ([.own 1 (zac (zqw l))],[]):=by
 refine zah z82 rfl ?_
 have hr0:zak 8 0=true:=by decide
 simp [-getElem?_pos,zzl,zzm,hr0]
 refine za0 (fun n st => ∃ (i o e:Nat) (a:List Int),i+n=l.length∧a=(l.take i).foldl ins []∧a.length=i∧st.V 0 = .sl 1 (zac l)∧st.V 3 = .ref o none e 0 a.length∧st.V 4=iv i∧o<st.nx∧st.S o=some (.row 1 (zac a))) ?_ l.length _ ⟨0,0,0,[],by simp [zac]⟩
 rintro n st ⟨i,o,e,a,hi,ha,hal,v0,v3,v4,hox,hSo⟩
 simp [z5d,v0,v4]
 obtain ⟨f1,f2,f3,f4⟩:=fr hox
 refine zdz (fun h => ?_) (fun h => ?_)
 ·simp at h
  obtain ⟨x,hx⟩ : ∃ x,l[i]?=some x:=⟨_,List.getElem?_eq_getElem h⟩
  have hx':=zba hx
  have hws:=wS h (by omega:l.length≤9223372036854775807)
  have hft:=yx1 hx
  rw [← ha] at hft
  obtain ⟨P,hP⟩ : ∃ P,ze7 x a a.length P:=ze7.ex x a a.length
  simp [-getElem?_pos,v0,v3,v4,hSo]
  refine za0 (fun n' s => ∃ j:Nat,n'=j∧j≤a.length∧ze7 x a j P∧s.V 0 = .sl 1 (zac l)∧s.V 3 = .ref o none e 0 a.length∧s.V 4=iv i∧s.V 5=iv j∧s.nx=st.nx∧s.S o=some (.row 1 (zac a))) ?_ a.length _ ⟨a.length,by omega,by omega,hP,by simp [v0],by simp [v3],by simp [v4],by simp,by simp,by simp [hSo]⟩
  rintro n' s ⟨j,hjn,hj,hp,u0,u3,u4,u5,unx,hSo'⟩
  clear v0 v3 v4 hSo
  obtain ⟨g1,g2,g3,g4⟩:=fr (show o<s.nx by omega)
  obtain ⟨_,_,g5,g6⟩:=fr (show o<s.nx+1 by omega)
  obtain ⟨_,_,g7,g8⟩:=fr (show o<s.nx+2 by omega)
  have hcr : ∀ c:Nat,c≤a.length+1→zak 8 c=true:=fun c hc=>zc3 (by omega)
  have hr1:zak 8 1=true:=by decide
  by_cases h0:0<j
  ·obtain ⟨q,rfl⟩ : ∃ q:Nat,j=q+1:=⟨j-1,by omega⟩
   have hw:=w64 (x:=(q:Int)) (by omega) (by omega)
   obtain ⟨y,hy⟩ : ∃ y,a[q]?=some y:=⟨_,List.getElem?_eq_getElem (by omega)⟩
   have hy':=zba hy
   have hqa:q<a.length:=by omega
   by_cases hc:x<y
   ·have hp':=hp.on hy hc
    simp [-getElem?_pos,zzk,u0,u3,u4,u5,hSo',hx',h,h0,hw,hy',hqa,hc]
    exact zan q (by omega) ⟨q,rfl,by omega,hp',by simp [u0],by simp [u3],by simp [u4],by simp,by simp [unx],by simp [hSo']⟩
   ·have hp':=hp.off hy hc
    have hk1:=hcr (q+1) (by omega)
    have hk2:=zc3 (n:=q+1+1) (by omega)
    have hk3:=hcr (a.length+1) (by omega)
    have hcut:=ytu a (q+1) (by omega)
    have hal2 : ∀ b:List Int,zdt (zac b)=true:=yfm
    have hmin:(a.take (q+1)).length=q+1:=by simp; omega
    have hdr:=yva a (q+1)
    have hmd:(a.drop (q+1)).length=a.length-(q+1):=by simp
    have hsn:=zcv (a.take (q+1)) x
    have hap:=ywy (a.take (q+1)++[x]) (a.drop (q+1))
    have hk4:=zc3 (n:=q+2+(a.length-(q+1))) (by omega)
    have hin:=yga hP
    rw [← hp'] at hin
    have hlen2:q+2+(a.length-(q+1))=a.length+1:=by omega
    simp [-getElem?_pos,zzk,u0,u3,u4,u5,hSo',hx',h,h0,hw,hy',hqa,hc,hj,g1,g2,g3,g4,g5,g6,g7,g8,hr1,hk1,hk2,hk3,hcut,hal2,hmin,hdr,hmd,hsn,hap,hk4,hlen2]
    refine zan (n-1) (by omega) ⟨i+1,s.nx+2+2,s.ep,a.take (q+1)++x::a.drop (q+1),by omega,by rw [hft,hin],by simp; omega,by simp [u0],by simp; omega,by simp [hws],by simp,by simp⟩
  ·have h0':j=0:=by omega
   subst h0'
   have hp':=hp.z
   have hk0:=hcr 0 (by omega)
   have hk3:=hcr (a.length+1) (by omega)
   have hcut:(if 0=a.length then zac a else [])=([]:List (List PV)):=by
    split
    ·rename_i e
     have:a=[]:=List.length_eq_zero_iff.mp e.symm
     subst this; rfl
    ·rfl
   have hal2 : ∀ b:List Int,zdt (zac b)=true:=yfm
   have hin:=yga hP
   rw [← hp'] at hin
   have hcons:[iv x]::zac a=zac (x::a):=rfl
   have hk4:=hcr (1+a.length) (by omega)
   have hk5:=hcr (a.length+1) (by omega)
   simp [-getElem?_pos,zzk,u0,u3,u4,u5,hSo',hx',h,g1,g2,g3,g4,g5,g6,g7,g8,hr1,hk0,hk3,hcut,hal2,hcons,hk4,hk5]
   refine zan (n-1) (by omega) ⟨i+1,s.nx+2+2,s.ep,x::a,by omega,by rw [hft,hin]; simp,by (try simp); try omega,by simp [u0],by (try simp); try omega,by simp [hws],by simp,by simp⟩
 ·simp at h
  have e1:i=l.length:=by omega
  rw [e1,List.take_length] at ha
  simp [-getElem?_pos,v3,hSo,zqw,← ha]
structure Ta where
 ns:List ByteArray
 nm:ByteArray
 rw:List (List Int)
 lb:List Int
abbrev taS (q:Bool) (t:Ta):PV := .agg [.sl 1 (zdn t.ns),.v (.string t.nm),.sl 1 (rws q t.rw),.sl 1 (zac t.lb)]
abbrev taO (t:Ta):PV := .agg [.own 1 (zdn t.ns),.v (.string t.nm),.own 1 (rws true t.rw),.own 1 (zac t.lb)]
structure TaL (n:Nat) (t:Ta):Prop where
 ns:t.ns.length≤n
 ss : ∀ x∈t.ns,x.size≤n
 nm:t.nm.size≤n
 rw:t.rw.length≤n
 rr : ∀ l∈t.rw,l.length≤n
 lb:t.lb.length≤n
structure Sl where
 n:Int
 g:Int
deriving DecidableEq
def slc (x:Sl):List PV:=[iv x.n,iv x.g]
def zbb (l:List Sl):List (List PV):=l.map slc
@[simp] theorem qf4 (l:List Sl):(zbb l).length=l.length:=by simp [zbb]
theorem zkt {l:List Sl} {i:Nat} {x:Sl} (h:l[i]?=some x):(zbb l)[i]?=some [iv x.n,iv x.g]:=by simp [zbb,h,slc]
theorem ygj (l:List Sl) (i:Nat) (a b:Int):(zbb l).set i [iv a,iv b]=zbb (l.set i ⟨a,b⟩):=by simp [zbb,List.map_set,slc]
def slI (x:Sl):Prop:=inI x.n∧inI x.g
def za8 (a b:Sl):Sl×Bool:=if ((adi a.n b.n).2 && (adi a.g b.g).2)=true then (⟨(adi a.n b.n).1,(adi a.g b.g).1⟩,true) else (⟨0,0⟩,false)
theorem zk1 {a b:Sl} (h:slI a):slI (za8 a b).1:=by
 unfold za8
 split
 ·exact ⟨ydq h.1,ydq h.2⟩
 ·unfold slI inI; simp
theorem z15 (a b:Sl) (ha:slI a) (hb:slI b):RUN T zj7 [.agg (slc a),.agg (slc b)]=some ([.agg (slc (za8 a b).1),bv (za8 a b).2],[]):=by
 refine zah z7t rfl ?_
 have e1:=z9n a.n b.n ha.1 hb.1
 have e2:=z9n a.g b.g ha.2 hb.2
 unfold za8
 generalize adi a.n b.n=x at *
 generalize adi a.g b.g=y at *
 obtain ⟨x,xb⟩:=x
 obtain ⟨y,yb⟩:=y
 simp only at e1 e2 ⊢
 cases xb <;> cases yb <;> simp [zx1,zx2,e1,e2,slc]
theorem z16 (a b:Sl) (ha:slI a) (hb:slI b):RUN T zj8 [.agg (slc a),.agg (slc b)]=some ([.agg (slc (za8 a b).1),bv (za8 a b).2],[]):=by
 refine zah z7w rfl ?_
 have e1:=z9o a.n b.n ha.1 hb.1
 have e2:=z9o a.g b.g ha.2 hb.2
 unfold za8
 generalize adi a.n b.n=x at *
 generalize adi a.g b.g=y at *
 obtain ⟨x,xb⟩:=x
 obtain ⟨y,yb⟩:=y
 simp only at e1 e2 ⊢
 cases xb <;> cases yb <;> simp [zx5,zx6,e1,e2,slc]
def atI {α:Type} (l:List α) (i:Int):Option α:=if 0≤i then l[i.toNat]? else none
theorem zfx {α:Type} {l:List α} {i:Int} {x:α} (h:atI l i=some x) : ∃ j:Nat,i=j∧l[j]?=some x∧j<l.length:=by
 unfold atI at h
 split at h
 ·refine ⟨i.toNat,by omega,h,?_⟩
  rcases Nat.lt_or_ge i.toNat l.length with h' | h'
  ·exact h'
  ·rw [List.getElem?_eq_none (by omega)] at h; cases h
 ·cases h
theorem zia {α:Type} {l:List α} {i:Int} (h:atI l i=none):i<0∨(l.length:Int)≤i:=by
 unfold atI at h
 split at h
 ·right
  rcases Nat.lt_or_ge i.toNat l.length with h' | h'
  ·rw [List.getElem?_eq_getElem h'] at h; cases h
  ·omega
 ·omega
def zco (b g:List Int):List Int→List Sl→Option (List Sl)
 | [],h=>some h
 | r::rs,h=>match atI b r,atI g r with
  | some x,some y=>match atI h x with
   | some s=>if (za8 s ⟨1,y⟩).2=true then zco b g rs (h.set x.toNat (za8 s ⟨1,y⟩).1) else none
   | none=>none
  | _,_=>none
def zcb (b g rows:List Int) (k:Int):List Sl×Bool:=if zaj k 1 8=true then match zco b g rows (List.replicate k.toNat ⟨0,0⟩) with
  | some h=>(h,true)
  | none=>([],false)
 else ([],false)
theorem yek (n:Nat):zbb (List.replicate n ⟨0,0⟩)=List.replicate n [iv 0,iv 0]:=by simp [zbb,slc]
set_option maxHeartbeats 2000000 in
theorem yqg (b g rows:List Int) (k:Int) (hb:b.length≤1048576) (hg:g.length≤1048576) (hr:rows.length≤1048576) (hgi : ∀ x∈g,inI x):RUN T zow [.sl 1 (zac b),.sl 1 (zac g),.sl 1 (zac rows),iv k]=some ([.own 2 (zbb (zcb b g rows k).1),bv (zcb b g rows k).2],[]):=by
 refine zah z6w rfl ?_
 cases hk:zaj k 1 8 with
 | false =>
  have e:=zdy k 1 8
  rw [hk] at e
  have e2:zcb b g rows k=([],false):=by unfold zcb; rw [hk]; rfl
  rw [e2]
  simp [-getElem?_pos,zsi,zsj,-zcp,e,zbb]
 | true =>
  have e:=zdy k 1 8
  rw [hk] at e
  have hk':=za3.mp hk
  obtain ⟨kn,rfl⟩ : ∃ n:Nat,k=n:=⟨k.toNat,by omega⟩
  have hro:zak 16 kn=true:=by simp [zak]; omega
  obtain ⟨R,hR⟩ : ∃ R,R=zcb b g rows kn:=⟨_,rfl⟩
  have hR':R=match zco b g rows (List.replicate kn ⟨0,0⟩) with
   | some h=>(h,true)
   | none=>([],false):=by rw [hR]; unfold zcb; rw [if_pos hk]; simp
  rw [← hR]
  clear hR
  simp [-getElem?_pos,zsi,zsj,-zcp,e,hro]
  refine za0 (fun n st => ∃ (i:Nat) (h:List Sl),i+n=rows.length∧h.length=kn∧(∀ s∈h,slI s)∧zco b g (rows.drop i) h=zco b g rows (List.replicate kn ⟨0,0⟩)∧st.V 0 = .sl 1 (zac b)∧st.V 1 = .sl 1 (zac g)∧st.V 3=iv kn∧st.V 10 = .ref 0 none 0 0 kn∧st.V 20 = .sl 1 (zac rows)∧st.V 21=iv rows.length∧st.V 22=iv i∧0<st.nx∧st.S 0=some (.row 2 (zbb h))) ?_ rows.length _ ⟨0,List.replicate kn ⟨0,0⟩,by omega,by simp,?_,by simp,by simp,by simp,by simp,by simp,by simp,by simp,by simp,by simp,by simp [yek]⟩
  ·rintro n st ⟨i,h,hi,hhl,hhi,hh,v0,v1,v3,v10,v20,v21,v22,hnx,hS⟩
   obtain ⟨z1,z2,z3,z4⟩:=fr hnx
   by_cases hlt:i<rows.length
   ·obtain ⟨r,hrr⟩ : ∃ r,rows[i]?=some r:=⟨_,List.getElem?_eq_getElem hlt⟩
    have hr':=zba hrr
    have hws:=wS hlt (by omega:rows.length≤9223372036854775807)
    have w1:=w64 (x:=min (b.length:Int) g.length-1) (by omega) (by omega)
    have w2:=w64 (x:=(kn:Int)-1) (by omega) (by omega)
    have e1:=zdy r 0 (min (b.length:Int) g.length-1)
    rw [zfg hrr,zco] at hh
    cases hbx:atI b r with
    | none =>
     rw [hbx] at hh
     have hn:=zia hbx
     have:zaj r 0 (min (b.length:Int) g.length-1)=false:=by
      cases hw:zaj r 0 (min (b.length:Int) g.length-1) with
      | false=>rfl
      | true=>have:=za3.mp hw; omega
     rw [this] at e1
     rw [← hh] at hR'
     subst hR'
     simp [-getElem?_pos,zm1,-zcp,v0,v1,v3,v10,v20,v21,v22,hS,hlt,hr',w1,e1,zbb]
    | some x =>
     obtain ⟨rn,rfl,hbr,hbl⟩:=zfx hbx
     cases hgy:atI g rn with
     | none =>
      rw [hbx,hgy] at hh
      have hn:=zia hgy
      have:zaj rn 0 (min (b.length:Int) g.length-1)=false:=by
       cases hw:zaj rn 0 (min (b.length:Int) g.length-1) with
       | false=>rfl
       | true=>have:=za3.mp hw; omega
      rw [this] at e1
      rw [← hh] at hR'
      subst hR'
      simp [-getElem?_pos,zm1,-zcp,v0,v1,v3,v10,v20,v21,v22,hS,hlt,hr',w1,e1,zbb]
     | some y =>
      obtain ⟨rn',hrn,hgr,hgl⟩:=zfx hgy
      have:rn'=rn:=by omega
      subst this
      have:zaj rn' 0 (min (b.length:Int) g.length-1)=true:=za3.mpr (by omega)
      rw [this] at e1
      rw [hbx,hgy] at hh
      simp only at hh
      have hb':=zba hbr
      have hg':=zba hgr
      have e2:=zdy x 0 ((kn:Int)-1)
      cases hhx:atI h x with
      | none =>
       rw [hhx] at hh
       have hn:=zia hhx
       have:zaj x 0 ((kn:Int)-1)=false:=by
        cases hw:zaj x 0 ((kn:Int)-1) with
        | false=>rfl
        | true=>have:=za3.mp hw; omega
       rw [this] at e2
       simp only at hh
       rw [← hh] at hR'
       subst hR'
       simp [-getElem?_pos,zm1,-zcp,v0,v1,v3,v10,v20,v21,v22,hS,hlt,hr',hb',hbl,w1,w2,e1,e2,zbb]
      | some s =>
       obtain ⟨xn,rfl,hhs,hhl2⟩:=zfx hhx
       have:zaj xn 0 ((kn:Int)-1)=true:=za3.mpr (by omega)
       rw [this] at e2
       rw [hhx] at hh
       have hs':=zkt hhs
       have hsi:=hhi s (List.mem_of_getElem? hhs)
       have hyi:=hgi y (List.mem_of_getElem? hgr)
       have hpi:=zk1 (b:=⟨1,y⟩) hsi
       have e3:=z15 s ⟨1,y⟩ hsi ⟨by unfold inI; simp,hyi⟩
       simp only [Int.toNat_natCast] at hh
       have hxk:xn<kn:=by omega
       generalize za8 s ⟨1,y⟩=p at *
       obtain ⟨⟨pn,pg⟩,pb⟩:=p
       simp only [slc] at e3 hh
       cases pb with
       | false =>
        rw [if_neg (by simp)] at hh
        rw [← hh] at hR'
        subst hR'
        simp [-getElem?_pos,zm1,-zcp,v0,v1,v3,v10,v20,v21,v22,hS,hlt,hr',hb',hbl,hg',hgl,hs',hxk,hhl,w1,w2,e1,e2,e3,z1,z2,z3,z4]
        simp [zbb]
       | true =>
        rw [if_pos rfl] at hh
        have hset:=ygj h xn pn pg
        simp [-getElem?_pos,zm1,-zcp,v0,v1,v3,v10,v20,v21,v22,hS,hlt,hr',hb',hbl,hg',hgl,hs',hxk,hhl,w1,w2,e1,e2,e3,hws,hset,z1,z2,z3,z4]
        refine zan (n-1) (by omega) ⟨i+1,h.set xn ⟨pn,pg⟩,by omega,by simp [hhl],fun q hq => ?_,hh,by simp [v0],by simp [v1],by simp [v3],by simp [v10],by simp [v20],by simp [v21],by simp,by simp,by simp⟩
        rcases List.mem_or_eq_of_mem_set hq with h' | h'
        ·exact hhi q h'
        ·subst h'; exact hpi
   ·rw [List.drop_eq_nil_of_le (by omega),zco] at hh
    rw [← hh] at hR'
    subst hR'
    simp [-getElem?_pos,zm1,v10,v21,v22,hS,hlt,hhl]
  ·intro s hs
   have:=List.eq_of_mem_replicate hs
   subst this
   exact ⟨by unfold inI; simp,by unfold inI; simp⟩
set_option maxHeartbeats 2000000 in
theorem yqh (b g rows:List Int) (k:Int) (hb:b.length≤1048576) (hg:g.length≤1048576) (hr:rows.length≤1048576) (hgi : ∀ x∈g,inI x):RUN T zoz [.sl 1 (zac b),.sl 1 (zac g),.sl 1 (zac rows),iv k]=some ([.own 2 (zbb (zcb b g rows k).1),bv (zcb b g rows k).2],[]):=by
 refine zah z60 rfl ?_
 cases hk:zaj k 1 8 with
 | false =>
  have e:=zbd k 1 8
  rw [hk] at e
  have e2:zcb b g rows k=([],false):=by unfold zcb; rw [hk]; rfl
  rw [e2]
  simp [-getElem?_pos,zsk,zsl,-za2,e,zbb]
 | true =>
  have e:=zbd k 1 8
  rw [hk] at e
  have hk':=za3.mp hk
  obtain ⟨kn,rfl⟩ : ∃ n:Nat,k=n:=⟨k.toNat,by omega⟩
  have hro:zak 16 kn=true:=by simp [zak]; omega
  have hr0:zak 16 0=true:=by decide
  obtain ⟨R,hR⟩ : ∃ R,R=zcb b g rows kn:=⟨_,rfl⟩
  have hR':R=match zco b g rows (List.replicate kn ⟨0,0⟩) with
   | some h=>(h,true)
   | none=>([],false):=by rw [hR]; unfold zcb; rw [if_pos hk]; simp
  rw [← hR]
  clear hR
  simp [-getElem?_pos,zsk,zsl,-za2,e,hro,hr0]
  refine za0 (fun n st => ∃ (i:Nat) (h:List Sl),i+n=rows.length∧h.length=kn∧(∀ s∈h,slI s)∧zco b g (rows.drop i) h=zco b g rows (List.replicate kn ⟨0,0⟩)∧st.V 0 = .sl 1 (zac b)∧st.V 1 = .sl 1 (zac g)∧st.V 2 = .sl 1 (zac rows)∧st.V 3=iv kn∧st.V 10 = .ref 0 none 0 0 0∧st.V 11 = .ref 1 none 0 0 kn∧st.V 12=iv i∧1<st.nx∧st.S 0=some (.row 2 [])∧st.S 1=some (.row 2 (zbb h))) ?_ rows.length _ ⟨0,List.replicate kn ⟨0,0⟩,by omega,by simp,?_,by simp,by simp,by simp,by simp,by simp,by simp,by simp,by simp,by simp,by simp,by simp [yek]⟩
  ·rintro n st ⟨i,h,hi,hhl,hhi,hh,v0,v1,v2,v3,v10,v11,v12,hnx,hS0,hS⟩
   obtain ⟨z1,z2,z3,z4⟩:=fr hnx
   obtain ⟨y1,y2,y3,y4⟩:=fr (show 0<st.nx by omega)
   by_cases hlt:i<rows.length
   ·obtain ⟨r,hrr⟩ : ∃ r,rows[i]?=some r:=⟨_,List.getElem?_eq_getElem hlt⟩
    have hr':=zba hrr
    have hws:=wS hlt (by omega:rows.length≤9223372036854775807)
    have w1:=w64 (x:=(b.length:Int)-1) (by omega) (by omega)
    have w1':=w64 (x:=(g.length:Int)-1) (by omega) (by omega)
    have w2:=w64 (x:=(kn:Int)-1) (by omega) (by omega)
    have e1:=zbd r 0 ((b.length:Int)-1)
    have e1':=zbd r 0 ((g.length:Int)-1)
    rw [zfg hrr,zco] at hh
    cases hbx:atI b r with
    | none =>
     rw [hbx] at hh
     have hn:=zia hbx
     have:zaj r 0 ((b.length:Int)-1)=false:=by
      cases hw:zaj r 0 ((b.length:Int)-1) with
      | false=>rfl
      | true=>have:=za3.mp hw; omega
     rw [this] at e1
     rw [← hh] at hR'
     subst hR'
     simp [-getElem?_pos,zm2,-za2,v0,v1,v2,v3,v10,v11,v12,hS0,hS,hlt,hr',w1,e1,zbb]
    | some x =>
     obtain ⟨rn,rfl,hbr,hbl⟩:=zfx hbx
     cases hgy:atI g rn with
     | none =>
      rw [hbx,hgy] at hh
      have hn:=zia hgy
      have:zaj rn 0 ((g.length:Int)-1)=false:=by
       cases hw:zaj rn 0 ((g.length:Int)-1) with
       | false=>rfl
       | true=>have:=za3.mp hw; omega
      rw [this] at e1'
      rw [show zaj rn 0 ((b.length:Int)-1)=true from za3.mpr (by omega)] at e1
      rw [← hh] at hR'
      subst hR'
      simp [-getElem?_pos,zm2,-za2,v0,v1,v2,v3,v10,v11,v12,hS0,hS,hlt,hr',w1,w1',e1,e1',zbb]
     | some y =>
      obtain ⟨rn',hrn,hgr,hgl⟩:=zfx hgy
      have:rn'=rn:=by omega
      subst this
      rw [show zaj rn' 0 ((b.length:Int)-1)=true from za3.mpr (by omega)] at e1
      rw [show zaj rn' 0 ((g.length:Int)-1)=true from za3.mpr (by omega)] at e1'
      rw [hbx,hgy] at hh
      simp only at hh
      have hb':=zba hbr
      have hg':=zba hgr
      have e2:=zbd x 0 ((kn:Int)-1)
      cases hhx:atI h x with
      | none =>
       rw [hhx] at hh
       have hn:=zia hhx
       have:zaj x 0 ((kn:Int)-1)=false:=by
        cases hw:zaj x 0 ((kn:Int)-1) with
        | false=>rfl
        | true=>have:=za3.mp hw; omega
       rw [this] at e2
       simp only at hh
       rw [← hh] at hR'
       subst hR'
       simp [-getElem?_pos,zm2,-za2,v0,v1,v2,v3,v10,v11,v12,hS0,hS,hlt,hr',hb',hbl,w1,w1',w2,e1,e1',e2,zbb]
      | some s =>
       obtain ⟨xn,rfl,hhs,hhl2⟩:=zfx hhx
       have:zaj xn 0 ((kn:Int)-1)=true:=za3.mpr (by omega)
       rw [this] at e2
       rw [hhx] at hh
       have hs':=zkt hhs
       have hsi:=hhi s (List.mem_of_getElem? hhs)
       have hyi:=hgi y (List.mem_of_getElem? hgr)
       have hpi:=zk1 (b:=⟨1,y⟩) hsi
       have e3:=z16 s ⟨1,y⟩ hsi ⟨by unfold inI; simp,hyi⟩
       simp only [Int.toNat_natCast] at hh
       have hxk:xn<kn:=by omega
       generalize za8 s ⟨1,y⟩=p at *
       obtain ⟨⟨pn,pg⟩,pb⟩:=p
       simp only [slc] at e3 hh
       cases pb with
       | false =>
        rw [if_neg (by simp)] at hh
        rw [← hh] at hR'
        subst hR'
        simp [-getElem?_pos,zm2,-za2,v0,v1,v2,v3,v10,v11,v12,hS0,hS,hlt,hr',hb',hbl,hg',hgl,hs',hxk,hhl,w1,w1',w2,e1,e1',e2,e3,z1,z2,z3,z4,y1,y2,y3,y4]
        simp [zbb]
       | true =>
        rw [if_pos rfl] at hh
        have hset:=ygj h xn pn pg
        simp [-getElem?_pos,zm2,-za2,v0,v1,v2,v3,v10,v11,v12,hS0,hS,hlt,hr',hb',hbl,hg',hgl,hs',hxk,hhl,w1,w1',w2,e1,e1',e2,e3,hws,hset,z1,z2,z3,z4,y1,y2,y3,y4]
        refine zan (n-1) (by omega) ⟨i+1,h.set xn ⟨pn,pg⟩,by omega,by simp [hhl],fun q hq => ?_,hh,by simp [v0],by simp [v1],by simp [v2],by simp [v3],by simp [v10],by simp [v11],by simp,by simp; omega,by simp [y1,y2,y3,y4,z1,z2,z3,z4,hS0],by simp⟩
        rcases List.mem_or_eq_of_mem_set hq with h' | h'
        ·exact hhi q h'
        ·subst h'; exact hpi
   ·rw [List.drop_eq_nil_of_le (by omega),zco] at hh
    rw [← hh] at hR'
    subst hR'
    simp [-getElem?_pos,zm2,v2,v11,v12,hS,hlt,hhl]
  ·intro s hs
   have:=List.eq_of_mem_replicate hs
   subst this
   exact ⟨by unfold inI; simp,by unfold inI; simp⟩
def ztq (q:Bool) (l:List Sl):PV:=if q then .own 2 (zbb l) else .sl 2 (zbb l)
@[simp] theorem y51 (q:Bool) (l:List Sl):fz (ztq q l) = .sl 2 (zbb l):=by cases q <;> simp [ztq]
def rss (q:Bool) (H:List (List Sl)):List (List PV):=H.map fun l=>[ztq q l]
@[simp] theorem y58 (q:Bool) (H:List (List Sl)):(rss q H).length=H.length:=by simp [rss]
theorem yci {q:Bool} {H:List (List Sl)} {i:Nat} {l:List Sl} (h:H[i]?=some l):(rss q H)[i]?=some [ztq q l]:=by simp [rss,h]
theorem yfx (H:List (List Sl)) (l:List Sl):rss true H++[[.own 2 (zbb l)]]=rss true (H++[l]):=by simp [rss,ztq]
def zbp (g rows:List Int):List (List Int)→List (List Int)→Option (List (List Sl))
 | x::c,y::v=>if (zcb y g rows (x.length+1)).2=true then (zbp g rows c v).map ((zcb y g rows (x.length+1)).1 :: ·) else none
 | _,_=>some []
def zbi (c v:List (List Int)) (g rows:List Int):List (List Sl)×Bool:=if zdr c v=true then match zbp g rows c v with
  | some h=>(h,true)
  | none=>([],false)
 else ([],false)
theorem ydc {g rows:List Int} {c v:List (List Int)} {i:Nat} {x y:List Int} (hx:c[i]?=some x) (hy:v[i]?=some y):zbp g rows (c.drop i) (v.drop i)=if (zcb y g rows (x.length+1)).2=true then (zbp g rows (c.drop (i+1)) (v.drop (i+1))).map ((zcb y g rows (x.length+1)).1 :: ·) else none:=by
 rw [zfg hx,zfg hy,zbp]
theorem ycs {g rows:List Int} {v:List (List Int)}:zbp g rows [] v=some []:=by simp [zbp]
theorem z3e {b g:List Int} : ∀ (rows:List Int) (h h':List Sl),zco b g rows h=some h'→h'.length=h.length
 | [],h,h',e=>by simp [zco] at e; subst e; rfl
 | r::rs,h,h',e=>by
  simp only [zco] at e
  split at e
  ·split at e
   ·split at e
    ·have:=z3e rs _ _ e
     simpa using this
    ·cases e
   ·cases e
  ·cases e
theorem ys8 (b g rows:List Int) (k:Int):(zcb b g rows k).1.length≤8:=by
 unfold zcb
 split
 ·rename_i hk
  have:=za3.mp hk
  cases h:zco b g rows (List.replicate k.toNat ⟨0,0⟩) with
  | none=>simp
  | some h'=>have:=z3e _ _ _ h; simp at this; simp; omega
 ·simp
theorem yhh {g rows:List Int} : ∀ (c v:List (List Int)) (H:List (List Sl)),zbp g rows c v=some H→H.length≤c.length∧∀ l∈H,l.length≤8
 | [],v,H,h=>by simp [zbp] at h; subst h; simp
 | x::c,[],H,h=>by simp [zbp] at h; subst h; simp
 | x::c,y::v,H,h=>by
  simp only [zbp] at h
  split at h
  ·simp only [Option.map_eq_some_iff] at h
   obtain ⟨H',h1,rfl⟩:=h
   obtain ⟨h2,h3⟩:=yhh c v H' h1
   refine ⟨by simp; omega,fun l hl => ?_⟩
   rcases List.mem_cons.mp hl with e | e
   ·subst e; exact ys8 _ _ _ _
   ·exact h3 l e
  ·cases h
theorem znv (c v:List (List Int)) (g rows:List Int):(zbi c v g rows).1.length≤c.length∧∀ l∈(zbi c v g rows).1,l.length≤8:=by
 unfold zbi
 split
 ·cases h:zbp g rows c v with
  | none=>simp
  | some H=>exact yhh c v H h
 ·simp
theorem z37 {c v:List (List Int)} (h:zdr c v=true):v.length=c.length∧c.length≤4:=by
 unfold zdr at h
 simp only [Bool.and_eq_true,decide_eq_true_eq] at h
 have:=za3.mp h.1.1.1
 omega
set_option maxHeartbeats 2000000 in
theorem yqi (q:Bool) (c v:List (List Int)) (g rows:List Int) (hc : ∀ l∈c,l.length≤1048576) (hv : ∀ l∈v,l.length≤1048576) (hg:g.length≤1048576) (hr:rows.length≤1048576) (hgi : ∀ x∈g,inI x):RUN T zob [.agg [.sl 1 (rws q c),.sl 1 (rws q v)],.sl 1 (zac g),.sl 1 (zac rows)]=some ([.own 1 (rss true (zbi c v g rows).1),bv (zbi c v g rows).2],[]):=by
 refine zah z5r rfl ?_
 have e:=z9j q c v (fun l hl=>Nat.le_trans (hc l hl) (by omega)) (fun l hl=>Nat.le_trans (hv l hl) (by omega))
 cases hk:zdr c v with
 | false =>
  rw [hk] at e
  have e2:zbi c v g rows=([],false):=by unfold zbi; rw [hk]; rfl
  rw [e2]
  simp [-getElem?_pos,zrw,zrx,e,rss]
 | true =>
  rw [hk] at e
  obtain ⟨hvc,hc4⟩:=z37 hk
  obtain ⟨R,hR⟩ : ∃ R,R=zbi c v g rows:=⟨_,rfl⟩
  have hR':R=match zbp g rows c v with
   | some h=>(h,true)
   | none=>([],false):=by rw [hR]; unfold zbi; rw [if_pos hk]
  rw [← hR]
  clear hR
  have hr0:zak 24 0=true:=by decide
  have hr1:zak 24 1=true:=by decide
  simp [-getElem?_pos,zrw,zrx,e,hr0]
  refine za0 (fun n st => ∃ (i o e:Nat) (H:List (List Sl)),i+n=c.length∧H.length=i∧zbp g rows c v=(zbp g rows (c.drop i) (v.drop i)).map (H ++ ·)∧st.V 1 = .sl 1 (zac g)∧st.V 2 = .sl 1 (zac rows)∧st.V 3 = .ptr 0 none 0 0 0∧st.V 8 = .ref o none e 0 H.length∧st.V 18 = .sl 1 (rws q c)∧st.V 19=iv c.length∧st.V 20=iv i∧0<o∧o<st.nx∧st.S 0=some (.box [.sl 1 (rws q c),.sl 1 (rws q v)])∧st.S o=some (.row 1 (rss true H))) ?_ c.length _ ⟨0,1,0,[],by simp [rss]⟩
  rintro n st ⟨i,o,ep,H,hi,hH,hL,v1,v2,v3,v8,v18,v19,v20,ho,hox,hS,hSo⟩
  obtain ⟨x1,x2,x3,x4⟩:=fr hox
  obtain ⟨g1,g2,g3,g4⟩:=fr ho
  obtain ⟨z1,z2,z3,z4⟩:=fr (show 0<st.nx by omega)
  by_cases hlt:i<c.length
  ·obtain ⟨x,hx⟩ : ∃ x,c[i]?=some x:=⟨_,List.getElem?_eq_getElem hlt⟩
   obtain ⟨y,hy⟩ : ∃ y,v[i]?=some y:=⟨_,List.getElem?_eq_getElem (by omega)⟩
   have hx':=zem (q:=q) hx
   have hy':=zem (q:=q) hy
   have hiv:i<v.length:=by omega
   have hxl:=hc x (List.mem_of_getElem? hx)
   have hws:=wS hlt (by omega:c.length≤9223372036854775807)
   have hwl:=w64 (x:=(x.length:Int)+1) (by omega) (by omega)
   have hh:=yqg y g rows (x.length+1) (hv y (List.mem_of_getElem? hy)) hg hr hgi
   have hr24:zak 24 (H.length+1)=true:=by simp [zak]; omega
   rw [ydc hx hy] at hL
   generalize zcb y g rows (x.length+1)=p at *
   obtain ⟨ph,pb⟩:=p
   simp only at hh hL
   cases pb with
   | false =>
    rw [if_neg (by simp)] at hL
    rw [hL] at hR'
    subst hR'
    simp [-getElem?_pos,zu2,v1,v2,v3,v8,v18,v19,v20,hS,hSo,hlt,hiv,hx',hy',hwl,hh,rss,x1,x2,x3,x4,g1,g2,g3,g4,z1,z2,z3,z4]
   | true =>
    rw [if_pos rfl] at hL
    have hsn:=yfx H ph
    simp [-getElem?_pos,zu2,v1,v2,v3,v8,v18,v19,v20,hS,hSo,hlt,hiv,hx',hy',hwl,hws,hh,hr1,hr24,hsn,x1,x2,x3,x4,g1,g2,g3,g4,z1,z2,z3,z4]
    exact zan (n-1) (by omega) ⟨i+1,st.nx+2,st.ep,H++[ph],by omega,by simp [hH],by rw [hL]; cases zbp g rows (c.drop (i+1)) (v.drop (i+1)) <;> simp,by simp [v1],by simp [v2],by simp [v3],by simp,by simp [v18],by simp [v19],by simp,by omega,by simp,by simp [x1,x2,x3,x4,g1,g2,g3,g4,z1,z2,z3,z4,hS],by simp⟩
  ·have h0:c.drop i=[]:=List.drop_eq_nil_of_le (by omega)
   rw [h0,ycs] at hL
   rw [hL] at hR'
   simp only [Option.map_some,List.append_nil] at hR'
   subst hR'
   simp [-getElem?_pos,zu2,v8,v19,v20,hSo,hlt]
set_option maxHeartbeats 2000000 in
theorem yqj (q:Bool) (c v:List (List Int)) (g rows:List Int) (hc : ∀ l∈c,l.length≤1048576) (hv : ∀ l∈v,l.length≤1048576) (hg:g.length≤1048576) (hr:rows.length≤1048576) (hgi : ∀ x∈g,inI x):RUN T zoe [.agg [.sl 1 (rws q c),.sl 1 (rws q v)],.sl 1 (zac g),.sl 1 (zac rows)]=some ([.own 1 (rss true (zbi c v g rows).1),bv (zbi c v g rows).2],[]):=by
 refine zah z5u rfl ?_
 have e:=z9k q c v (fun l hl=>Nat.le_trans (hc l hl) (by omega)) (fun l hl=>Nat.le_trans (hv l hl) (by omega))
 cases hk:zdr c v with
 | false =>
  rw [hk] at e
  have e2:zbi c v g rows=([],false):=by unfold zbi; rw [hk]; rfl
  rw [e2]
  have hr0:zak 24 0=true:=by decide
  simp [-getElem?_pos,zry,zrz,e,hr0,rss]
 | true =>
  rw [hk] at e
  obtain ⟨hvc,hc4⟩:=z37 hk
  obtain ⟨R,hR⟩ : ∃ R,R=zbi c v g rows:=⟨_,rfl⟩
  have hR':R=match zbp g rows c v with
   | some h=>(h,true)
   | none=>([],false):=by rw [hR]; unfold zbi; rw [if_pos hk]
  rw [← hR]
  clear hR
  have hr0:zak 24 0=true:=by decide
  have hr1:zak 24 1=true:=by decide
  simp [-getElem?_pos,zry,zrz,e,hr0]
  refine za0 (fun n st => ∃ (i o e:Nat) (H:List (List Sl)),i+n=c.length∧H.length=i∧zbp g rows c v=(zbp g rows (c.drop i) (v.drop i)).map (H ++ ·)∧st.V 1 = .sl 1 (zac g)∧st.V 2 = .sl 1 (zac rows)∧st.V 3 = .ptr 0 none 0 0 0∧st.V 8 = .ref o none e 0 H.length∧st.V 9=iv i∧0<o∧o<st.nx∧st.S 0=some (.box [.sl 1 (rws q c),.sl 1 (rws q v)])∧st.S o=some (.row 1 (rss true H))) ?_ c.length _ ⟨0,1,0,[],by simp [rss]⟩
  rintro n st ⟨i,o,ep,H,hi,hH,hL,v1,v2,v3,v8,v9,ho,hox,hS,hSo⟩
  obtain ⟨x1,x2,x3,x4⟩:=fr hox
  obtain ⟨g1,g2,g3,g4⟩:=fr ho
  obtain ⟨z1,z2,z3,z4⟩:=fr (show 0<st.nx by omega)
  by_cases hlt:i<c.length
  ·obtain ⟨x,hx⟩ : ∃ x,c[i]?=some x:=⟨_,List.getElem?_eq_getElem hlt⟩
   obtain ⟨y,hy⟩ : ∃ y,v[i]?=some y:=⟨_,List.getElem?_eq_getElem (by omega)⟩
   have hx':=zem (q:=q) hx
   have hy':=zem (q:=q) hy
   have hiv:i<v.length:=by omega
   have hxl:=hc x (List.mem_of_getElem? hx)
   have hws:=wS hlt (by omega:c.length≤9223372036854775807)
   have hwl:=w64 (x:=(x.length:Int)+1) (by omega) (by omega)
   have hh:=yqh y g rows (x.length+1) (hv y (List.mem_of_getElem? hy)) hg hr hgi
   have hr24:zak 24 (H.length+1)=true:=by simp [zak]; omega
   rw [ydc hx hy] at hL
   generalize zcb y g rows (x.length+1)=p at *
   obtain ⟨ph,pb⟩:=p
   simp only at hh hL
   cases pb with
   | false =>
    rw [if_neg (by simp)] at hL
    rw [hL] at hR'
    subst hR'
    simp [-getElem?_pos,zu9,v1,v2,v3,v8,v9,hr0,hS,hSo,hlt,hiv,hx',hy',hwl,hh,rss,x1,x2,x3,x4,g1,g2,g3,g4,z1,z2,z3,z4]
   | true =>
    rw [if_pos rfl] at hL
    have hsn:=yfx H ph
    simp [-getElem?_pos,zu9,v1,v2,v3,v8,v9,hr0,hS,hSo,hlt,hiv,hx',hy',hwl,hws,hh,hr1,hr24,hsn,x1,x2,x3,x4,g1,g2,g3,g4,z1,z2,z3,z4]
    exact zan (n-1) (by omega) ⟨i+1,st.nx+2,st.ep,H++[ph],by omega,by simp [hH],by rw [hL]; cases zbp g rows (c.drop (i+1)) (v.drop (i+1)) <;> simp,by simp [v1],by simp [v2],by simp [v3],by simp,by simp,by omega,by simp,by simp [x1,x2,x3,x4,g1,g2,g3,g4,z1,z2,z3,z4,hS],by simp⟩
  ·have h0:c.drop i=[]:=List.drop_eq_nil_of_le (by omega)
   rw [h0,ycs] at hL
   rw [hL] at hR'
   simp only [Option.map_some,List.append_nil] at hR'
   subst hR'
   simp [-getElem?_pos,zu9,v3,v8,v9,hS,hSo,hlt]
def ygh (k:Int) (n:Nat):List Sl:=(List.range n).map fun (i:Nat)=>⟨k+2*(i:Int),k+2*(i:Int)+1⟩
@[simp] theorem qdz (k:Int) (n:Nat):(ygh k n).length=n:=by simp [ygh]
theorem z90 (x:Int):RUN T zmh [iv x]=some ([bv false],[]):=by
 refine zah z84 rfl ?_
 simp [zzp,zzq]
theorem z91 (x y:Int):RUN T zl8 [iv x,iv y]=some ([iv (zca x y)],[]):=by
 refine zah z8h rfl ?_
 have e1:=z90 x
 have e2:=z90 y
 unfold zca
 by_cases h1:x<y
 ·simp [zqg,zqh,e1,e2,h1]
 ·by_cases h2:y<x
  ·simp [zqg,zqh,e1,e2,h1,h2]
  ·simp [zqg,zqh,e1,e2,h1,h2]
theorem yqk (a b:Wd) (ha:wfU a) (hb:wfU b):RUN T zpj [.agg (wd a),.agg (wd b)]=some ([iv (zjz a b)],[]):=by
 refine zah z74 rfl ?_
 have n1:(a.n && (decide (0<a.h) || decide (0<a.l)))=zeo a:=by
  obtain ⟨h0,_,h1,_⟩:=ha
  unfold zeo
  congr 1
  rw [Bool.eq_iff_iff]; simp; omega
 have n2:(b.n && (decide (0<b.h) || decide (0<b.l)))=zeo b:=by
  obtain ⟨h0,_,h1,_⟩:=hb
  unfold zeo
  congr 1
  rw [Bool.eq_iff_iff]; simp; omega
 have e1:=ztc a.n a.h a.l
 have e2:=ztc b.n b.h b.l
 rw [n1] at e1
 rw [n2] at e2
 have e3:=z13 ⟨zeo a,a.h,a.l⟩ ⟨zeo b,b.h,b.l⟩
 have e4:=z13 ⟨zeo b,b.h,b.l⟩ ⟨zeo a,a.h,a.l⟩
 have o1:zek ⟨zeo a,a.h,a.l⟩ ⟨zeo b,b.h,b.l⟩=zek a b:=rfl
 have o2:zek ⟨zeo b,b.h,b.l⟩ ⟨zeo a,a.h,a.l⟩=zek b a:=rfl
 rw [o1] at e3
 rw [o2] at e4
 clear o1 o2 n1 n2 ha hb
 unfold zjz
 generalize zek a b=x at *
 generalize zek b a=y at *
 generalize zeo a=p at *
 generalize zeo b=q at *
 obtain ⟨an,ah,al⟩:=a
 obtain ⟨bn,bh,bl⟩:=b
 simp only [wd] at e1 e2 e3 e4 ⊢
 cases p <;> cases q <;> simp [zyf,zyg,e1,e2,e3,e4]
structure Fr where
 w:Wd
 d:Int
def frc (f:Fr):List PV:=[bv f.w.n,uv f.w.h,uv f.w.l,iv f.d]
def frB (f:Fr):Bool:=wok f.w && zaj f.d 1 1000000
def zei:Fr:=⟨za5,0⟩
def zey (w:Wd) (d:Int):Fr×Bool:=if frB ⟨w,d⟩=true then (⟨w,d⟩,true) else (zei,false)
theorem z17 (f:Fr):RUN T zkc [.agg (frc f)]=some ([bv (frB f)],[]):=by
 refine zah z8o rfl ?_
 have e1:=zqr f.w
 have e2:=zdy f.d 1 1000000
 unfold frB
 generalize wok f.w=x at *
 generalize zaj f.d 1 1000000=y at *
 simp only [wd] at e1
 cases x <;> simp [zy6,zy7,-zcp,frc,e1,e2]
theorem zz3 (f:Fr):RUN T ziw [.agg (frc f)]=some ([bv (frB f)],[]):=by
 refine zah z8v rfl ?_
 have e1:=zqs f.w
 have e2:=zbd f.d 1 1000000
 unfold frB
 generalize wok f.w=x at *
 generalize zaj f.d 1 1000000=y at *
 simp only [wd] at e1
 cases x <;> simp [zze,zzf,-za2,frc,e1,e2]
theorem z92 (w:Wd) (d:Int):RUN T zma [.agg (wd w),iv d]=some ([.agg (frc (zey w d).1),bv (zey w d).2],[]):=by
 refine zah z8m rfl ?_
 have e1:=z17 ⟨w,d⟩
 unfold zey
 generalize frB ⟨w,d⟩=x at *
 simp only [frc] at e1
 cases x <;> simp [zy2,zy3,wd,frc,zei,za5,e1]
theorem yql (a d:Int) (ha:inI a):RUN T zpi [iv a,iv d]=some ([.agg (frc (zey (zd9 a a) d).1),bv (zey (zd9 a a) d).2],[]):=by
 refine zah z72 rfl ?_
 have e1:=yqb a a ha ha
 have e2:=z92 (zd9 a a) d
 generalize zd9 a a=m at *
 generalize zey m d=f at *
 obtain ⟨⟨fw,fd⟩,fb⟩:=f
 simp only [wd,frc] at e1 e2 ⊢
 simp [zyb,zyc,e1,e2]
theorem yqm (a d:Int) (ha:inI a):RUN T zpw [iv a,iv d]=some ([.agg (frc (zey (zd9 a a) d).1),bv (zey (zd9 a a) d).2],[]):=by
 refine zah z8w rfl ?_
 have e1:=yqc a a ha ha
 have e2:=zz3 ⟨zd9 a a,d⟩
 unfold zey
 generalize zd9 a a=m at *
 generalize frB ⟨m,d⟩=x at *
 simp only [wd,frc] at e1 e2
 cases x <;> simp [zzg,zzh,frc,zei,za5,e1,e2]
def frI (f:Fr):Prop:=wfU f.w∧inI f.d
theorem ztf:wfU za5:=⟨by decide,by decide,by decide,by decide⟩
theorem yb2 (w:Wd) (k:Int) (h:wfU w):wfU (zdc w k).1:=by
 unfold zdc
 split
 ·rename_i hc
  refine z4p ?_ (by omega)
  obtain ⟨h0,h1,h2,h3⟩:=h
  exact Int.mul_nonneg (by unfold mag; omega) (by omega)
 ·exact ztf
def zbh (a b:Fr):Wd×Wd×Bool:=if (frB a && frB b)=true then ((zdc a.w b.d).1,(zdc b.w a.d).1,(zdc a.w b.d).2 && (zdc b.w a.d).2) else (za5,za5,false)
theorem z3j (a b:Fr) (ha:wfU a.w) (hb:wfU b.w):wfU (zbh a b).1∧wfU (zbh a b).2.1:=by
 unfold zbh
 split
 ·exact ⟨yb2 _ _ ha,yb2 _ _ hb⟩
 ·exact ⟨ztf,ztf⟩
theorem ybq {a b:Fr} (h:(zbh a b).2.2=true):(1≤a.d∧a.d≤1000000)∧1≤b.d∧b.d≤1000000:=by
 unfold zbh at h
 split at h
 ·rename_i hc
  simp only [frB,Bool.and_eq_true] at hc
  exact ⟨za3.mp hc.1.2,za3.mp hc.2.2⟩
 ·cases h
theorem z93 (a b:Fr) (ha:frI a) (hb:frI b):RUN T zl3 [.agg (frc a),.agg (frc b)]=some ([.agg (wd (zbh a b).1),.agg (wd (zbh a b).2.1),bv (zbh a b).2.2],[]):=by
 refine zah z73 rfl ?_
 have e1:=z17 a
 have e2:=z17 b
 have e3:=z9x a.w b.d ha.1 hb.2
 have e4:=z9x b.w a.d hb.1 ha.2
 unfold zbh
 generalize zdc a.w b.d=x at *
 generalize zdc b.w a.d=y at *
 generalize frB a=p at *
 generalize frB b=q at *
 obtain ⟨⟨an,ah,al⟩,ad⟩:=a
 obtain ⟨⟨bn,bh,bl⟩,bd⟩:=b
 obtain ⟨x,xb⟩:=x
 obtain ⟨y,yb⟩:=y
 simp only [frc,wd] at e1 e2 e3 e4 ⊢
 cases p <;> cases q <;> cases xb <;> simp [zyd,zye,e1,e2,e3,e4,za5]
theorem z94 (a b:Fr) (ha:frI a) (hb:frI b):RUN T zl5 [.agg (frc a),.agg (frc b)]=some ([.agg (wd (zbh a b).1),.agg (wd (zbh a b).2.1),bv (zbh a b).2.2],[]):=by
 refine zah z79 rfl ?_
 have e1:=zz3 a
 have e2:=zz3 b
 have e3:=z9y a.w b.d ha.1 hb.2
 have e4:=z9y b.w a.d hb.1 ha.2
 unfold zbh
 generalize zdc a.w b.d=x at *
 generalize zdc b.w a.d=y at *
 generalize frB a=p at *
 generalize frB b=q at *
 obtain ⟨⟨an,ah,al⟩,ad⟩:=a
 obtain ⟨⟨bn,bh,bl⟩,bd⟩:=b
 obtain ⟨x,xb⟩:=x
 obtain ⟨y,yb⟩:=y
 simp only [frc,wd] at e1 e2 e3 e4 ⊢
 cases p <;> cases q <;> cases xb <;> simp [zyn,zyo,e1,e2,e3,e4,za5]
def zew (a b:Fr):Int×Bool:=if (zbh a b).2.2=true then (zjz (zbh a b).1 (zbh a b).2.1,true) else (0,false)
theorem z95 (a b:Fr) (ha:frI a) (hb:frI b):RUN T zlu [.agg (frc a),.agg (frc b)]=some ([iv (zew a b).1,bv (zew a b).2],[]):=by
 refine zah z7a rfl ?_
 have e1:=z93 a b ha hb
 obtain ⟨w1,w2⟩:=z3j a b ha.1 hb.1
 have e2:=yqk (zbh a b).1 (zbh a b).2.1 w1 w2
 unfold zew
 generalize zbh a b=r at *
 obtain ⟨x,y,o⟩:=r
 simp only at e2 ⊢
 generalize zjz x y=z at *
 simp only [frc,wd] at e1 e2 ⊢
 cases o <;> simp [zw5,zw6,e1,e2]
theorem z96 (a b:Fr) (ha:frI a) (hb:frI b):RUN T zl1 [.agg (frc a),.agg (frc b)]=some ([iv (zew a b).1,bv (zew a b).2],[]):=by
 refine zah z7o rfl ?_
 have e1:=z94 a b ha hb
 have e2:=yqf (zbh a b).1 (zbh a b).2.1
 unfold zew
 generalize zbh a b=r at *
 obtain ⟨x,y,o⟩:=r
 simp only at e2 ⊢
 generalize zjz x y=z at *
 simp only [frc,wd] at e1 e2 ⊢
 cases o <;> simp [zxv,zxw,e1,e2]
def zhu (a b:Fr):Fr×Bool:=if (zbh a b).2.2=true then (if (zb9 (zbh a b).1 (zbh a b).2.1).2=true then zey (zb9 (zbh a b).1 (zbh a b).2.1).1 (a.d*b.d) else (zei,false)) else (zei,false)
theorem ybd {a b:Int} (h:(1≤a∧a≤1000000)∧1≤b∧b≤1000000):IntKind.i64.wrap (a*b)=a*b:=by
 have h1:a*b≤1000000*1000000:=Int.mul_le_mul h.1.2 h.2.2 (by omega) (by decide)
 have h2:0≤a*b:=Int.mul_nonneg (by omega) (by omega)
 exact w64 (by omega) (by omega)
theorem yqn (a b:Fr) (ha:frI a) (hb:frI b):RUN T zph [.agg (frc a),.agg (frc b)]=some ([.agg (frc (zhu a b).1),bv (zhu a b).2],[]):=by
 refine zah z71 rfl ?_
 have e1:=z93 a b ha hb
 obtain ⟨w1,w2⟩:=z3j a b ha.1 hb.1
 have e2:=yqd (zbh a b).1 (zbh a b).2.1 w1 w2
 have hok := @ybq a b
 have e3:=z92 (zb9 (zbh a b).1 (zbh a b).2.1).1 (a.d*b.d)
 unfold zhu
 generalize zbh a b=r at *
 obtain ⟨x,y,o⟩:=r
 simp only at e2 e3 hok ⊢
 generalize zb9 x y=s at *
 obtain ⟨s,so⟩:=s
 simp only at e2 e3 ⊢
 cases o with
 | false =>
  simp only [frc,wd] at e1 ⊢
  simp [zs0,zs1,e1,zei,za5]
 | true =>
  have hm:=ybd (hok rfl)
  generalize zey s (a.d*b.d)=f at *
  obtain ⟨f,fo⟩:=f
  simp only [frc,wd] at e1 e2 e3 ⊢
  cases so <;> simp [zs0,zs1,e1,e2,e3,hm,zei,za5]
theorem yqo (a b:Fr) (ha:frI a) (hb:frI b):RUN T zpl [.agg (frc a),.agg (frc b)]=some ([.agg (frc (zhu a b).1),bv (zhu a b).2],[]):=by
 refine zah z78 rfl ?_
 have e1:=z94 a b ha hb
 obtain ⟨w1,w2⟩:=z3j a b ha.1 hb.1
 have e2:=yqe (zbh a b).1 (zbh a b).2.1 w1 w2
 have hok := @ybq a b
 have e3:=zz3 ⟨(zb9 (zbh a b).1 (zbh a b).2.1).1,a.d*b.d⟩
 unfold zhu zey
 generalize zbh a b=r at *
 obtain ⟨x,y,o⟩:=r
 simp only at e2 e3 hok ⊢
 generalize zb9 x y=s at *
 obtain ⟨s,so⟩:=s
 simp only at e2 e3 ⊢
 cases o with
 | false =>
  simp only [frc,wd] at e1 ⊢
  simp [zs2,zs3,e1,zei,za5]
 | true =>
  have hm:=ybd (hok rfl)
  generalize frB ⟨s,a.d*b.d⟩=fo at *
  simp only [frc,wd] at e1 e2 e3 ⊢
  cases so <;> cases fo <;> simp [zs2,zs3,e1,e2,e3,hm,frc,zei,za5]
structure Cnd where
 f:Int
 b:Int
 a:Sl
 z:Sl
deriving DecidableEq
def cnd (c:Cnd):List PV:=[iv c.f,iv c.b,iv c.a.n,iv c.a.g,iv c.z.n,iv c.z.g]
def zeg (c:Cnd):Prop:=inI c.f∧inI c.b∧slI c.a∧slI c.z
structure Bd where
 lo:Int
 hi:Int
def bnd (b:Bd):List PV:=[iv b.lo,iv b.hi]
def zg9 (b:Bd):Bool:=decide (b.lo≤b.hi) && zgz b.lo && zgz b.hi
def zfm (x lo hi:Int):Int:=if x<lo then lo else if hi<x then hi else x
def zhy (n l:Int):Bool:=zaj n 0 40 && zaj l 1 100
def zch (s:Sl) (l:Int) (b:Bd):Int×Bool:=if (zhy s.n l && zg9 b)=true then (zfm (fdv s.g (s.n+l)).1 b.lo b.hi,true) else (0,false)
def zcc (s:Sl) (l:Int):Fr×Bool:=if zhy s.n l=true then zey (zd9 s.g s.g) (s.n+l) else (zei,false)
def zbw (c:Cnd) (l:Int):Fr×Bool:=if ((zcc c.a l).2 && (zcc c.z l).2)=true then zhu (zcc c.a l).1 (zcc c.z l).1 else (zei,false)
theorem z97 (n l:Int):RUN T zlx [iv n,iv l]=some ([bv (zhy n l)],[]):=by
 refine zah z7h rfl ?_
 have e1:=zdy n 0 40
 have e2:=zdy l 1 100
 unfold zhy
 generalize zaj n 0 40=x at *
 cases x <;> simp [zxj,zxk,-zcp,e1,e2]
theorem z98 (b:Bd):RUN T zly [.agg (bnd b)]=some ([bv (zg9 b)],[]):=by
 refine zah z7i rfl ?_
 have e1:=z9i b.lo
 have e2:=z9i b.hi
 unfold zg9
 generalize zgz b.lo=x at *
 generalize zgz b.hi=y at *
 by_cases h:b.lo≤b.hi <;> cases x <;> simp [zxl,zxm,bnd,e1,e2,h]
theorem z99 (b:Bd):RUN T zlk [.agg (bnd b)]=some ([bv (zg9 b)],[]):=by
 refine zah z6g rfl ?_
 have e1:=z9h b.lo
 have e2:=z9h b.hi
 unfold zg9
 generalize zgz b.lo=x at *
 generalize zgz b.hi=y at *
 by_cases h:b.lo≤b.hi <;> cases x <;> simp [zv1,zv2,bnd,e1,e2,h]
theorem yaa (x lo hi:Int):RUN T zlz [iv x,iv lo,iv hi]=some ([iv (zfm x lo hi)],[]):=by
 refine zah z7k rfl ?_
 unfold zfm
 by_cases h1:x<lo
 ·simp [zsq,zsr,h1]
 ·by_cases h2:hi<x <;> simp [zsq,zsr,h1,h2]
theorem yab (x lo hi:Int):RUN T zll [iv x,iv lo,iv hi]=some ([iv (zfm x lo hi)],[]):=by
 refine zah z6i rfl ?_
 unfold zfm
 by_cases h1:x<lo
 ·simp [zse,zsf,h1]
 ·by_cases h2:hi<x <;> simp [zse,zsf,h1,h2]
theorem z06 {n l:Int} (h:zhy n l=true):IntKind.i64.wrap (n+l)=n+l:=by
 unfold zhy at h
 simp only [Bool.and_eq_true] at h
 have h1:=za3.mp h.1
 have h2:=za3.mp h.2
 exact w64 (by omega) (by omega)
theorem z18 (s:Sl) (l:Int) (b:Bd) (hs:slI s):RUN T zj2 [.agg (slc s),iv l,.agg (bnd b)]=some ([iv (zch s l b).1,bv (zch s l b).2],[]):=by
 refine zah z6c rfl ?_
 have e1:=z97 s.n l
 have e2:=z98 b
 have e3:=yp1 s.g (s.n+l) hs.2
 have e4:=yaa (fdv s.g (s.n+l)).1 b.lo b.hi
 have hw := @z06 s.n l
 unfold zch
 generalize zhy s.n l=x at *
 generalize zg9 b=y at *
 generalize fdv s.g (s.n+l)=q at *
 obtain ⟨q,qo⟩:=q
 simp only [bnd] at e2
 cases x with
 | false=>simp [zsb,zsc,slc,bnd,e1]
 | true =>
  have hw:=hw rfl
  cases y <;> simp [zsb,zsc,slc,bnd,e1,e2,e3,e4,hw]
theorem z19 (s:Sl) (l:Int) (b:Bd) (hs:slI s):RUN T zj1 [.agg (slc s),iv l,.agg (bnd b)]=some ([iv (zch s l b).1,bv (zch s l b).2],[]):=by
 refine zah z5m rfl ?_
 have e1:=zbd s.n 0 40
 have e1':=zbd l 1 100
 have e2:=z99 b
 have e3:=yp0 s.g (s.n+l) hs.2
 have e4:=yab (fdv s.g (s.n+l)).1 b.lo b.hi
 have hw := @z06 s.n l
 unfold zch
 unfold zhy at *
 generalize zaj s.n 0 40=x at *
 generalize zaj l 1 100=x' at *
 generalize zg9 b=y at *
 generalize fdv s.g (s.n+l)=q at *
 obtain ⟨q,qo⟩:=q
 simp only [bnd] at e2
 cases x with
 | false=>simp [zp3,zp4,-za2,slc,bnd,e1]
 | true =>
  cases x' with
  | false=>simp [zp3,zp4,-za2,slc,bnd,e1,e1']
  | true =>
   have hw:=hw rfl
   cases y <;> simp [zp3,zp4,-za2,slc,bnd,e1,e1',e2,e3,e4,hw]
theorem yqp (c:Cnd) (h:zeg c):RUN T zo2 [.agg (cnd c)]=some ([.agg (slc (za8 c.a c.z).1),bv (za8 c.a c.z).2],[]):=by
 refine zah z68 rfl ?_
 have e1:=z15 c.a c.z h.2.2.1 h.2.2.2
 generalize za8 c.a c.z=p at *
 obtain ⟨⟨pn,pg⟩,pb⟩:=p
 simp only [slc] at e1 ⊢
 simp [zw3,zw4,cnd,e1]
theorem yqq (c:Cnd) (h:zeg c):RUN T zpr [.agg (cnd c)]=some ([.agg (slc (za8 c.a c.z).1),bv (za8 c.a c.z).2],[]):=by
 refine zah z8j rfl ?_
 have e1:=z16 c.a c.z h.2.2.1 h.2.2.2
 generalize za8 c.a c.z=p at *
 obtain ⟨⟨pn,pg⟩,pb⟩:=p
 simp only [slc] at e1 ⊢
 simp [zy0,zy1,cnd,e1]
theorem z2a (s:Sl) (l:Int) (hs:slI s):RUN T zj5 [.agg (slc s),iv l]=some ([.agg (frc (zcc s l).1),bv (zcc s l).2],[]):=by
 refine zah z69 rfl ?_
 have e1:=z97 s.n l
 have e2:=yql s.g (s.n+l) hs.2
 have hw := @z06 s.n l
 unfold zcc
 generalize zhy s.n l=x at *
 generalize zey (zd9 s.g s.g) (s.n+l)=f at *
 obtain ⟨⟨fw,fd⟩,fb⟩:=f
 simp only [frc] at e2 ⊢
 cases x with
 | false=>simp [zsm,zsn,slc,e1,zei,za5]
 | true =>
  have hw:=hw rfl
  simp [zsm,zsn,slc,e1,e2,hw]
theorem z2b (s:Sl) (l:Int) (hs:slI s):RUN T zkb [.agg (slc s),iv l]=some ([.agg (frc (zcc s l).1),bv (zcc s l).2],[]):=by
 refine zah z8k rfl ?_
 have e1:=zbd s.n 0 40
 have e1':=zbd l 1 100
 have e2:=yqm s.g (s.n+l) hs.2
 have hw := @z06 s.n l
 unfold zcc
 unfold zhy at *
 generalize zaj s.n 0 40=x at *
 generalize zaj l 1 100=x' at *
 generalize zey (zd9 s.g s.g) (s.n+l)=f at *
 obtain ⟨⟨fw,fd⟩,fb⟩:=f
 simp only [frc] at e2 ⊢
 cases x with
 | false=>simp [zqi,zqj,-za2,slc,e1,zei,za5]
 | true =>
  cases x' with
  | false=>simp [zqi,zqj,-za2,slc,e1,e1',zei,za5]
  | true =>
   have hw:=hw rfl
   simp [zqi,zqj,-za2,slc,e1,e1',e2,hw]
theorem ya6 (w:Wd) (d:Int) (hw:wfU w):frI (zey w d).1:=by
 unfold zey
 split
 ·rename_i h
  simp only [frB,Bool.and_eq_true] at h
  have:=za3.mp h.2
  exact ⟨hw,by unfold inI; simp only; omega⟩
 ·exact ⟨ztf,by unfold inI zei; simp⟩
theorem z0z:frI zei:=⟨ztf,by unfold inI zei; simp⟩
theorem zrk (s:Sl) (l:Int) (hs:slI s):frI (zcc s l).1:=by
 unfold zcc
 split
 ·exact ya6 _ _ (yr4 hs.2 hs.2)
 ·exact z0z
theorem yxy (a b:Fr):frI (zhu a b).1:=by
 unfold zhu
 split
 ·split
  ·exact ya6 _ _ (yvh _ _)
  ·exact z0z
 ·exact z0z
theorem zq4 (c:Cnd) (l:Int):frI (zbw c l).1:=by
 unfold zbw
 split
 ·exact yxy _ _
 ·exact z0z
theorem z2c (c:Cnd) (l:Int) (h:zeg c):RUN T zj4 [.agg (cnd c),iv l]=some ([.agg (frc (zbw c l).1),bv (zbw c l).2],[]):=by
 refine zah z67 rfl ?_
 have e1:=z2a c.a l h.2.2.1
 have e2:=z2a c.z l h.2.2.2
 have e3:=yqn (zcc c.a l).1 (zcc c.z l).1 (zrk _ _ h.2.2.1) (zrk _ _ h.2.2.2)
 unfold zbw
 generalize zcc c.a l=p at *
 generalize zcc c.z l=q at *
 obtain ⟨p,pb⟩:=p
 obtain ⟨q,qb⟩:=q
 simp only at e1 e2 e3 ⊢
 generalize zhu p q=r at *
 obtain ⟨r,rb⟩:=r
 simp only [frc,slc] at e1 e2 e3 ⊢
 cases pb <;> cases qb <;> simp [zw1,zw2,cnd,e1,e2,e3,zei,za5]
theorem z2d (c:Cnd) (l:Int) (h:zeg c):RUN T zj9 [.agg (cnd c),iv l]=some ([.agg (frc (zbw c l).1),bv (zbw c l).2],[]):=by
 refine zah z7z rfl ?_
 have e1:=z2b c.a l h.2.2.1
 have e2:=z2b c.z l h.2.2.2
 have e3:=yqo (zcc c.a l).1 (zcc c.z l).1 (zrk _ _ h.2.2.1) (zrk _ _ h.2.2.2)
 unfold zbw
 generalize zcc c.a l=p at *
 generalize zcc c.z l=q at *
 obtain ⟨p,pb⟩:=p
 obtain ⟨q,qb⟩:=q
 simp only at e1 e2 e3 ⊢
 generalize zhu p q=r at *
 obtain ⟨r,rb⟩:=r
 simp only [frc,slc] at e1 e2 e3 ⊢
 cases pb <;> cases qb <;> simp [zx9,zya,cnd,e1,e2,e3,zei,za5]
abbrev cfS (c:Cfg):PV := .agg [iv c.ro,iv c.de,iv c.bi,iv c.la,iv c.rw,iv c.nu,iv c.dn,.sl 1 (zac c.sg)]
def zbs (c:Cfg) (b:Bd) (x:Cnd):Int×Int×Bool:=if ((zch x.a c.la b).2 && (zch x.z c.la b).2)=true then ((zch x.a c.la b).1,(zch x.z c.la b).1,true) else (0,0,false)
def zc0 (c:Cfg) (f:Int):Int:=(atI c.sg f).getD 0
def zju (s l r:Int):Bool:=if s=1 then decide (l≤r) else if s = -1 then decide (r≤l) else true
def zis (x:Cnd) (l:Int):Bool:=(zbw x l).2 && ((za8 x.a x.z).2 && ((zcc (za8 x.a x.z).1 l).2 && ((zew (zbw x l).1 (zcc (za8 x.a x.z).1 l).1).2 && decide (0<(zew (zbw x l).1 (zcc (za8 x.a x.z).1 l).1).1))))
def zg7 (a b:Cnd):Bool:=decide (a.f<b.f) || (decide (a.f=b.f) && decide (a.b<b.b))
def zc5 (a b:Cnd) (l:Int):Bool:=(zbw a l).2 && ((zbw b l).2 && ((zew (zbw a l).1 (zbw b l).1).2 && (decide (0<(zew (zbw a l).1 (zbw b l).1).1) || (decide ((zew (zbw a l).1 (zbw b l).1).1=0) && zg7 a b))))
theorem yac (c:Cfg) (b:Bd) (x:Cnd) (h:zeg x):RUN T zld [cfS c,.agg (bnd b),.agg (cnd x)]=some ([iv (zbs c b x).1,iv (zbs c b x).2.1,bv (zbs c b x).2.2],[]):=by
 have e1:=z18 x.a c.la b h.2.2.1
 have e2:=z18 x.z c.la b h.2.2.2
 unfold zbs
 generalize zch x.a c.la b=p at *
 generalize zch x.z c.la b=q at *
 obtain ⟨p,pb⟩:=p
 obtain ⟨q,qb⟩:=q
 simp only [slc,bnd] at e1 e2 ⊢
 refine zah z5y rfl ?_
 cases pb <;> cases qb <;> simp [zvh,zvi,cnd,e1,e2]
theorem yad (c:Cfg) (b:Bd) (x:Cnd) (h:zeg x):RUN T zlm [cfS c,.agg (bnd b),.agg (cnd x)]=some ([iv (zbs c b x).1,iv (zbs c b x).2.1,bv (zbs c b x).2.2],[]):=by
 have e1:=z19 x.a c.la b h.2.2.1
 have e2:=z19 x.z c.la b h.2.2.2
 unfold zbs
 generalize zch x.a c.la b=p at *
 generalize zch x.z c.la b=q at *
 obtain ⟨p,pb⟩:=p
 obtain ⟨q,qb⟩:=q
 simp only [slc,bnd] at e1 e2 ⊢
 refine zah z6k rfl ?_
 cases pb <;> cases qb <;> simp [zv7,zv8,cnd,e1,e2]
theorem yae (c:Cfg) (f:Int) (hl:c.sg.length≤9223372036854775807):RUN T zlf [cfS c,iv f]=some ([iv (zc0 c f)],[]):=by
 refine zah z51 rfl ?_
 have hw:=w64 (x:=(c.sg.length:Int)-1) (by omega) (by omega)
 have e1:=zdy f 0 ((c.sg.length:Int)-1)
 unfold zc0
 cases hs:atI c.sg f with
 | none =>
  have hn:=zia hs
  have:zaj f 0 ((c.sg.length:Int)-1)=false:=by
   cases hw:zaj f 0 ((c.sg.length:Int)-1) with
   | false=>rfl
   | true=>have:=za3.mp hw; omega
  rw [this] at e1
  simp [zr3,zr4,-zcp,e1,hw]
 | some x =>
  obtain ⟨j,rfl,hj,hjl⟩:=zfx hs
  rw [show zaj j 0 ((c.sg.length:Int)-1)=true from za3.mpr (by omega)] at e1
  have hj':=zba hj
  simp [-getElem?_pos,zr3,zr4,-zcp,e1,hw,hj',hjl]
theorem yaf (c:Cfg) (f:Int) (hl:c.sg.length≤9223372036854775807):RUN T zln [cfS c,iv f]=some ([iv (zc0 c f)],[]):=by
 refine zah z6m rfl ?_
 have hw:=w64 (x:=(c.sg.length:Int)-1) (by omega) (by omega)
 have e1:=zbd f 0 ((c.sg.length:Int)-1)
 unfold zc0
 cases hs:atI c.sg f with
 | none =>
  have hn:=zia hs
  have:zaj f 0 ((c.sg.length:Int)-1)=false:=by
   cases hw:zaj f 0 ((c.sg.length:Int)-1) with
   | false=>rfl
   | true=>have:=za3.mp hw; omega
  rw [this] at e1
  simp [zsg,zsh,-za2,e1,hw]
 | some x =>
  obtain ⟨j,rfl,hj,hjl⟩:=zfx hs
  rw [show zaj j 0 ((c.sg.length:Int)-1)=true from za3.mpr (by omega)] at e1
  have hj':=zba hj
  simp [-getElem?_pos,zsg,zsh,-za2,e1,hw,hj',hjl]
theorem yqr (s l r:Int):RUN T zoh [iv s,iv l,iv r]=some ([bv (zju s l r)],[]):=by
 refine zah z50 rfl ?_
 unfold zju
 by_cases h1:s=1
 ·simp [zr1,zr2,h1]
 ·by_cases h2:s = -1 <;> simp [zr1,zr2,h1,h2]
theorem yqs (s l r:Int):RUN T zpe [iv s,iv l,iv r]=some ([bv (zju s l r)],[]):=by
 refine zah z7x rfl ?_
 unfold zju
 by_cases h1:s=1
 ·by_cases h3:l≤r <;> simp [zsw,zsx,h1,h3]
 ·by_cases h2:s = -1 <;> simp [zsw,zsx,h1,h2]
theorem yqt (x:Cnd) (l:Int) (h:zeg x):RUN T zoi [.agg (cnd x),iv l]=some ([bv (zis x l)],[]):=by
 refine zah z52 rfl ?_
 have hp:=zk1 (b:=x.z) h.2.2.1
 have e1:=z2c x l h
 have e2:=yqp x h
 have e3:=z2a (za8 x.a x.z).1 l hp
 have e4:=z95 (zbw x l).1 (zcc (za8 x.a x.z).1 l).1 (zq4 _ _) (zrk _ _ hp)
 unfold zis
 generalize zbw x l=g at *
 generalize za8 x.a x.z=p at *
 obtain ⟨p,pb⟩:=p
 simp only at e2 e3 e4 ⊢
 generalize zcc p l=q at *
 obtain ⟨g,gb⟩:=g
 obtain ⟨q,qb⟩:=q
 simp only at e1 e3 e4 ⊢
 generalize zew g q=m at *
 obtain ⟨m,mb⟩:=m
 simp only [frc,slc,cnd] at e1 e2 e3 e4 ⊢
 cases gb <;> cases pb <;> cases qb <;> cases mb <;> simp [zvl,zvm,e1,e2,e3,e4]
theorem yqu (x:Cnd) (l:Int) (h:zeg x):RUN T zpf [.agg (cnd x),iv l]=some ([bv (zis x l)],[]):=by
 refine zah z7y rfl ?_
 have hp:=zk1 (b:=x.z) h.2.2.1
 have e1:=z2d x l h
 have e2:=yqq x h
 have e3:=z2b (za8 x.a x.z).1 l hp
 have e4:=z96 (zbw x l).1 (zcc (za8 x.a x.z).1 l).1 (zq4 _ _) (zrk _ _ hp)
 unfold zis
 generalize zbw x l=g at *
 generalize za8 x.a x.z=p at *
 obtain ⟨p,pb⟩:=p
 simp only at e2 e3 e4 ⊢
 generalize zcc p l=q at *
 obtain ⟨g,gb⟩:=g
 obtain ⟨q,qb⟩:=q
 simp only at e1 e3 e4 ⊢
 generalize zew g q=m at *
 obtain ⟨m,mb⟩:=m
 simp only [frc,slc,cnd] at e1 e2 e3 e4 ⊢
 cases gb <;> cases pb <;> cases qb <;> cases mb <;> simp [zx7,zx8,e1,e2,e3,e4]
theorem yqv (a b:Cnd):RUN T zpd [.agg (cnd a),.agg (cnd b)]=some ([bv (zg7 a b)],[]):=by
 refine zah z7u rfl ?_
 have e1:=z91 a.f b.f
 have e2:=z91 a.b b.b
 have e3:=z9w (zca a.f b.f) (zca a.b b.b)
 have hr:zak 8 2=true:=by decide
 have e4:zg7 a b=decide ((if zca a.f b.f=0 then zca a.b b.b else zca a.f b.f)<0):=by
  unfold zg7 zca
  rw [Bool.eq_iff_iff]
  simp only [Bool.or_eq_true,Bool.and_eq_true,decide_eq_true_eq]
  split <;> split <;> (try split) <;> (try split) <;> (try split) <;> (try split) <;> omega
 rw [e4]
 simp [zx3,zx4,cnd,e1,e2,e3,hr]
theorem yqw (a b:Cnd):RUN T zpg [.agg (cnd a),.agg (cnd b)]=some ([bv (zg7 a b)],[]):=by
 refine zah z70 rfl ?_
 unfold zg7
 by_cases h1:a.f<b.f
 ·simp [zsy,zsz,cnd,h1]
 ·by_cases h2:a.f=b.f <;> simp [zsy,zsz,cnd,h1,h2]
theorem yqx (a b:Cnd) (l:Int) (ha:zeg a) (hb:zeg b):RUN T zlq [.agg (cnd a),.agg (cnd b),iv l]=some ([bv (zc5 a b l)],[]):=by
 have e1:=z2c a l ha
 have e2:=z2c b l hb
 have e3:=z95 (zbw a l).1 (zbw b l).1 (zq4 _ _) (zq4 _ _)
 have e4:=yqv a b
 unfold zc5
 generalize zbw a l=g at *
 generalize zbw b l=q at *
 generalize zg7 a b=le at *
 obtain ⟨g,gb⟩:=g
 obtain ⟨q,qb⟩:=q
 simp only at e1 e2 e3 ⊢
 generalize zew g q=m at *
 obtain ⟨m,mb⟩:=m
 simp only [frc,cnd] at e1 e2 e3 e4 ⊢
 refine zah z6x rfl ?_
 cases gb <;> cases qb <;> cases mb <;> by_cases h1:0<m <;> by_cases h2:m=0 <;> simp [zwj,zwk,e1,e2,e3,e4,h1,h2]
theorem yqy (a b:Cnd) (l:Int) (ha:zeg a) (hb:zeg b):RUN T zj3 [.agg (cnd a),.agg (cnd b),iv l]=some ([bv (zc5 a b l)],[]):=by
 have e1:=z2d a l ha
 have e2:=z2d b l hb
 have e3:=z96 (zbw a l).1 (zbw b l).1 (zq4 _ _) (zq4 _ _)
 have e4:=yqw a b
 unfold zc5
 generalize zbw a l=g at *
 generalize zbw b l=q at *
 generalize zg7 a b=le at *
 obtain ⟨g,gb⟩:=g
 obtain ⟨q,qb⟩:=q
 simp only at e1 e2 e3 ⊢
 generalize zew g q=m at *
 obtain ⟨m,mb⟩:=m
 simp only [frc,cnd] at e1 e2 e3 e4 ⊢
 refine zah z62 rfl ?_
 cases gb <;> cases qb <;> cases mb <;> by_cases h1:0<m <;> by_cases h2:m=0 <;> simp [zws,zwt,e1,e2,e3,e4,h1,h2]
def zcz (c:Cfg) (b:Bd) (x:Cnd):Bool:=zcg c && ((zbs c b x).2.2 && (decide (c.rw≤x.a.n) && (decide (c.rw≤x.z.n) && (zju (zc0 c x.f) (zbs c b x).1 (zbs c b x).2.1 && zis x c.la))))
theorem yqz (c:Cfg) (b:Bd) (x:Cnd) (h:zeg x) (hl:c.sg.length≤9223372036854775807):RUN T zk9 [cfS c,.agg (bnd b),.agg (cnd x)]=some ([bv (zcz c b x)],[]):=by
 have e1:=yac c b x h
 have e2:=z9f c hl
 have e3:=yae c x.f hl
 have e5:=yqt x c.la h
 unfold zcz
 generalize zbs c b x=p at *
 obtain ⟨p1,p2,pb⟩:=p
 have e4:=yqr (zc0 c x.f) p1 p2
 simp only at e1 ⊢
 generalize zc0 c x.f=s at *
 generalize zju s p1 p2=ab at *
 generalize zis x c.la=ib at *
 generalize zcg c=cb at *
 simp only [cnd,bnd] at e1 e5 ⊢
 refine zah z5i rfl ?_
 cases cb <;> cases pb <;> by_cases h1:c.rw≤x.a.n <;> by_cases h2:c.rw≤x.z.n <;> cases ab <;> simp [zup,zuq,e1,e2,e3,e4,e5,h1,h2]
theorem yq0 (c:Cfg) (b:Bd) (x:Cnd) (h:zeg x) (hl:c.sg.length≤9223372036854775807):RUN T ziv [cfS c,.agg (bnd b),.agg (cnd x)]=some ([bv (zcz c b x)],[]):=by
 have e1:=yad c b x h
 have e2:=z9g c hl
 have e3:=yaf c x.f hl
 have e5:=yqu x c.la h
 unfold zcz
 generalize zbs c b x=p at *
 obtain ⟨p1,p2,pb⟩:=p
 have e4:=yqs (zc0 c x.f) p1 p2
 simp only at e1 ⊢
 generalize zc0 c x.f=s at *
 generalize zju s p1 p2=ab at *
 generalize zis x c.la=ib at *
 generalize zcg c=cb at *
 simp only [cnd,bnd] at e1 e5 ⊢
 refine zah z61 rfl ?_
 cases cb <;> cases pb <;> by_cases h1:c.rw≤x.a.n <;> by_cases h2:c.rw≤x.z.n <;> cases ab <;> simp [zwq,zwr,e1,e2,e3,e4,e5,h1,h2]
def zb5 (l:List Cnd):List (List PV):=l.map cnd
@[simp] theorem qea (l:List Cnd):(zb5 l).length=l.length:=by simp [zb5]
theorem zuc {l:List Cnd} {i:Nat} {x:Cnd} (h:l[i]?=some x):(zb5 l)[i]?=some (cnd x):=by simp [zb5,h]
def noB (c:Cfg) (b:Bd) (x y:Cnd):Bool := !zcz c b y || !zc5 y x c.la
def zg4 (c:Cfg) (b:Bd) (l:List Cnd) (x:Cnd):Bool:=zcz c b x && l.all (noB c b x)
def zhr:Cnd:=⟨0,0,⟨0,0⟩,⟨0,0⟩⟩
def zdo (c:Cfg) (b:Bd) (l:List Cnd):Cnd×Bool:=match l.find? (zg4 c b l) with
 | some x=>(x,true)
 | none=>(zhr,false)
set_option maxHeartbeats 1000000 in
theorem yq1 (c:Cfg) (b:Bd) (l:List Cnd) (hl:l.length≤1048576) (hc:c.sg.length≤1048576) (hi : ∀ x∈l,zeg x):RUN T zof [cfS c,.agg (bnd b),.sl 6 (zb5 l)]=some ([.agg (cnd (zdo c b l).1),bv (zdo c b l).2],[]):=by
 have eM : ∀ x∈l,RUN T ziv [cfS c,.agg (bnd b),.agg (cnd x)]=some ([bv (zcz c b x)],[]):=fun x hx=>yq0 c b x (hi x hx) (by omega)
 have eB : ∀ x∈l,∀ y∈l,RUN T zj3 [.agg (cnd x),.agg (cnd y),iv c.la]=some ([bv (zc5 x y c.la)],[]):=fun x hx y hy=>yqy x y c.la (hi x hx) (hi y hy)
 obtain ⟨R,hR⟩ : ∃ R,R=zdo c b l:=⟨_,rfl⟩
 unfold zdo at hR
 rw [show zdo c b l=R by rw [hR]; rfl]
 simp only [bnd] at eM ⊢
 refine zah z5v rfl ?_
 simp [-getElem?_pos,zva,zvb]
 refine za0 (fun n st => ∃ i:Nat,i+n=l.length∧(l.drop i).find? (zg4 c b l)=l.find? (zg4 c b l)∧st.V 2 = .sl 6 (zb5 l)∧st.V 3 = .ptr 0 none 0 0 0∧st.V 4 = .ptr 1 none 0 0 0∧st.V 6 = .ptr 2 none 0 0 0∧st.V 8=iv i∧st.S 0=some (.box [iv c.ro,iv c.de,iv c.bi,iv c.la,iv c.rw,iv c.nu,iv c.dn,.sl 1 (zac c.sg)])∧st.S 1=some (.box [iv b.lo,iv b.hi])∧st.S 2=some (.box [iv 0,iv 0,iv 0,iv 0,iv 0,iv 0])) ?_ l.length _ ⟨0,by simp⟩
 rintro n st ⟨i,hin,hf,v2,v3,v4,v6,v8,hS0,hS1,hS2⟩
 by_cases h:i<l.length
 ·obtain ⟨x,hx⟩ : ∃ x,l[i]?=some x:=⟨_,List.getElem?_eq_getElem h⟩
  have hx':=zuc hx
  have hxm:=List.mem_of_getElem? hx
  have hws:=wS h (by omega:l.length≤9223372036854775807)
  rw [zfg hx,List.find?_cons] at hf
  have e1:=eM x hxm
  simp only [cnd] at e1
  have eB' : ∀ y∈l,RUN T zj3 [.agg [iv y.f,iv y.b,iv y.a.n,iv y.a.g,iv y.z.n,iv y.z.g],.agg [iv x.f,iv x.b,iv x.a.n,iv x.a.g,iv x.z.n,iv x.z.g],iv c.la]=some ([bv (zc5 y x c.la)],[]):=fun y hy=>eB y hy x hxm
  have eM' : ∀ y∈l,RUN T ziv [cfS c,.agg [iv b.lo,iv b.hi],.agg [iv y.f,iv y.b,iv y.a.n,iv y.a.g,iv y.z.n,iv y.z.g]]=some ([bv (zcz c b y)],[]):=fun y hy=>eM y hy
  clear eM eB
  obtain ⟨kb0,hkb⟩ : ∃ k,k=zg4 c b l x:=⟨_,rfl⟩
  rw [← hkb] at hf
  have hkb2:kb0=(zcz c b x && (l.drop 0).all (noB c b x)):=by rw [hkb]; rfl
  clear hkb
  generalize hmx:zcz c b x=mx at *
  simp [-getElem?_pos,z1j,v2,v3,v4,v6,v8,hS0,hS1,hS2,h,hx',cnd,e1]
  refine za0 (fun n' s => ∃ (j:Nat) (k:Bool),j+n'=l.length∧(k && (l.drop j).all (noB c b x))=kb0∧s.V 2 = .sl 6 (zb5 l)∧s.V 3 = .ptr 0 none 0 0 0∧s.V 4 = .ptr 1 none 0 0 0∧s.V 6 = .ptr 2 none 0 0 0∧s.V 8=iv i∧s.V 9=bv k∧s.V 10=iv j∧s.S 0=some (.box [iv c.ro,iv c.de,iv c.bi,iv c.la,iv c.rw,iv c.nu,iv c.dn,.sl 1 (zac c.sg)])∧s.S 1=some (.box [iv b.lo,iv b.hi])∧s.S 2=some (.box [iv 0,iv 0,iv 0,iv 0,iv 0,iv 0])) ?_ l.length _ ⟨0,mx,by omega,hkb2.symm,by simp [v2],by simp [v3],by simp [v4],by simp [v6],by simp [v8],by simp,by simp,by simp [hS0],by simp [hS1],by simp [hS2]⟩
  clear v2 v3 v4 v6 v8 hS0 hS1 hS2
  rintro n' s ⟨j,k,hj,hk,v2,v3,v4,v6,v8,v9,v10,hS0,hS1,hS2⟩
  by_cases hjl:j<l.length
  ·cases k with
   | true =>
    obtain ⟨y,hy⟩ : ∃ y,l[j]?=some y:=⟨_,List.getElem?_eq_getElem hjl⟩
    have hy':=zuc hy
    have hym:=List.mem_of_getElem? hy
    have hwj:=wS hjl (by omega:l.length≤9223372036854775807)
    have e2:=eM' y hym
    have e3:=eB' y hym
    rw [zfg hy,List.all_cons] at hk
    have hno:noB c b x y=(!zcz c b y || !zc5 y x c.la):=rfl
    rw [hno] at hk
    clear eM' eB' e1 hno
    generalize zcz c b y=my at *
    generalize zc5 y x c.la=by' at *
    cases my <;> cases by' <;> simp [-getElem?_pos,zr0,v2,v3,v4,v6,v8,hS0,hS1,hS2,v9,v10,hjl,h,hx',hy',cnd,e2,e3,hwj]
    all_goals first
     | exact zan (n'-1) (by omega) ⟨j+1,true,by omega,(by simpa using hk),by simp [v2],by simp [v3],by simp [v4],by simp [v6],by simp [v8],by simp,by simp,by simp [hS0],by simp [hS1],by simp [hS2]⟩
     | exact zan (n'-1) (by omega) ⟨j+1,false,by omega,(by simpa using hk),by simp [v2],by simp [v3],by simp [v4],by simp [v6],by simp [v8],by simp,by simp,by simp [hS0],by simp [hS1],by simp [hS2]⟩
   | false =>
    have hk0:kb0=false:=by rw [← hk]; rfl
    subst hk0
    simp only at hf
    simp [-getElem?_pos,zr0,v2,v3,v4,v6,v8,hS0,hS1,hS2,v9,v10,hjl,hws]
    exact zan (n-1) (by omega) ⟨i+1,by omega,hf,by simp [v2],by simp [v3],by simp [v4],by simp [v6],by simp,by simp [hS0],by simp [hS1],by simp [hS2]⟩
  ·rw [List.drop_eq_nil_of_le (by omega)] at hk
   simp only [List.all_nil,Bool.and_true] at hk
   subst hk
   cases k with
   | true =>
    simp only at hf
    rw [← hf] at hR
    simp only at hR
    subst hR
    simp [-getElem?_pos,zr0,v2,v3,v4,v6,v8,hS0,hS1,hS2,v9,v10,hjl,h,hx',cnd]
   | false =>
    simp only at hf
    simp [-getElem?_pos,zr0,v2,v3,v4,v6,v8,hS0,hS1,hS2,v9,v10,hjl,hws]
    exact zan (n-1) (by omega) ⟨i+1,by omega,hf,by simp [v2],by simp [v3],by simp [v4],by simp [v6],by simp,by simp [hS0],by simp [hS1],by simp [hS2]⟩
 ·rw [List.drop_eq_nil_of_le (by omega)] at hf
  rw [← hf] at hR
  simp only [List.find?_nil] at hR
  subst hR
  simp [-getElem?_pos,z1j,v2,v6,v8,hS2,h,zhr,cnd]
theorem yuq (a:Wd):zek a a=0:=by
 have h : ∀ x,zca x x=0:=fun x=>by
  unfold zca
  rw [if_neg (by omega),if_neg (by omega)]
 unfold zek
 rw [h,h,if_pos rfl]
theorem yzb (a:Wd):zjz a a=0:=by
 unfold zjz
 rw [yuq]
 split <;> simp_all
theorem yxc (a:Fr):(zew a a).1=0:=by
 unfold zew
 split
 ·rename_i h
  have:(zbh a a).1=(zbh a a).2.1:=by
   unfold zbh
   split <;> rfl
  simp only
  rw [this,yzb]
 ·rfl
theorem ys2 (x:Cnd) (l:Int):zc5 x x l=false:=by
 have h1:=yxc (zbw x l).1
 have h2:zg7 x x=false:=by
  unfold zg7
  rw [decide_eq_false (show ¬ x.f<x.f by omega),decide_eq_false (show ¬ x.b<x.b by omega)]
  simp
 unfold zc5
 rw [h1,h2]
 simp
theorem yv0 {p q:Cnd→Bool} (l:List Cnd):(l.filter p).all q=l.all fun y => !p y || q y:=by
 induction l with
 | nil=>rfl
 | cons y l ih =>
  simp only [List.filter_cons,List.all_cons]
  cases h:p y with
  | true=>simp [ih]
  | false=>simp [ih]
theorem yu8 {p q:Cnd→Bool} (l:List Cnd):(l.filter p).find? q=l.find? fun x=>p x && q x:=by
 induction l with
 | nil=>rfl
 | cons y l ih =>
  simp only [List.filter_cons,List.find?_cons]
  cases h:p y with
  | true =>
   simp only [if_true,List.find?_cons,Bool.true_and]
   cases q y <;> simp [ih]
  | false=>simp [ih]
theorem yvm (c:Cfg) (b:Bd) (l:List Cnd):l.find? (zg4 c b l)=(l.filter (zcz c b)).find? fun x=>(l.filter (zcz c b)).all fun y => !zc5 y x c.la:=by
 rw [yu8]
 congr 1
 funext x
 unfold zg4
 rw [yv0]
 rfl
set_option maxHeartbeats 2000000 in
theorem yq2 (c:Cfg) (b:Bd) (l:List Cnd) (hl:l.length≤1048576) (hc:c.sg.length≤1048576) (hi : ∀ x∈l,zeg x):RUN T zoc [cfS c,.agg (bnd b),.sl 6 (zb5 l)]=some ([.agg (cnd (zdo c b l).1),bv (zdo c b l).2],[]):=by
 have eM : ∀ x∈l,RUN T zk9 [cfS c,.agg [iv b.lo,iv b.hi],.agg [iv x.f,iv x.b,iv x.a.n,iv x.a.g,iv x.z.n,iv x.z.g]]=some ([bv (zcz c b x)],[]):=fun x hx=>yqz c b x (hi x hx) (by omega)
 have eB : ∀ x∈l,∀ y∈l,RUN T zlq [.agg [iv x.f,iv x.b,iv x.a.n,iv x.a.g,iv x.z.n,iv x.z.g],.agg [iv y.f,iv y.b,iv y.a.n,iv y.a.g,iv y.z.n,iv y.z.g],iv c.la]=some ([bv (zc5 x y c.la)],[]):=fun x hx y hy=>yqx x y c.la (hi x hx) (hi y hy)
 obtain ⟨R,hR⟩ : ∃ R,R=zdo c b l:=⟨_,rfl⟩
 unfold zdo at hR
 rw [show zdo c b l=R by rw [hR]; rfl]
 rw [yvm] at hR
 simp only [bnd]
 refine zah z5s rfl ?_
 have hr0:zak 48 0=true:=by decide
 have hr1:zak 48 1=true:=by decide
 simp [-getElem?_pos,zu4,zu5,hr0]
 refine za0 (fun n st => ∃ (i o e:Nat) (m:List Cnd),i+n=l.length∧m=(l.take i).filter (zcz c b)∧st.V 3 = .ptr 0 none 0 0 0∧st.V 4 = .ptr 1 none 0 0 0∧st.V 6 = .ptr 2 none 0 0 0∧st.V 8 = .ref o none e 0 m.length∧st.V 17 = .sl 6 (zb5 l)∧st.V 18=iv l.length∧st.V 19=iv i∧2<o∧o<st.nx∧st.S 0=some (.box [iv c.ro,iv c.de,iv c.bi,iv c.la,iv c.rw,iv c.nu,iv c.dn,.sl 1 (zac c.sg)])∧st.S 1=some (.box [iv b.lo,iv b.hi])∧st.S 2=some (.box [iv 0,iv 0,iv 0,iv 0,iv 0,iv 0])∧st.S o=some (.row 6 (zb5 m))) ?_ l.length _ ⟨0,3,0,[],by simp [zb5]⟩
 rintro n st ⟨i,o,e,m,hin,hm,v3,v4,v6,v8,v17,v18,v19,ho,hox,hS0,hS1,hS2,hSo⟩
 obtain ⟨a01,a02,a03,a04⟩:=fr (show 0<st.nx by omega)
 obtain ⟨a11,a12,a13,a14⟩:=fr (show 1<st.nx by omega)
 obtain ⟨a21,a22,a23,a24⟩:=fr (show 2<st.nx by omega)
 obtain ⟨a31,a32,a33,a34⟩:=fr (show 0<o by omega)
 obtain ⟨a41,a42,a43,a44⟩:=fr (show 1<o by omega)
 obtain ⟨a51,a52,a53,a54⟩:=fr (show 2<o by omega)
 obtain ⟨a61,a62,a63,a64⟩:=fr (show o<st.nx by omega)
 obtain ⟨a71,a72,a73,a74⟩:=fr (show o<st.nx+1 by omega)
 by_cases h:i<l.length
 ·obtain ⟨x,hx⟩ : ∃ x,l[i]?=some x:=⟨_,List.getElem?_eq_getElem h⟩
  have hx':=zuc hx
  have hxm:=List.mem_of_getElem? hx
  have hws:=wS h (by omega:l.length≤9223372036854775807)
  have e1:=eM x hxm
  have hml:m.length≤i:=by rw [hm]; exact Nat.le_trans (List.length_filter_le _ _) (by simp; omega)
  have hr48:zak 48 (m.length+1)=true:=by simp [zak]; omega
  have htk:(l.take (i+1)).filter (zcz c b)=if zcz c b x=true then m++[x] else m:=by
   rw [List.take_succ,hx,List.filter_append,← hm]
   by_cases c':zcz c b x=true <;> simp [c']
  have hsn:zb5 m++[[iv x.f,iv x.b,iv x.a.n,iv x.a.g,iv x.z.n,iv x.z.g]]=zb5 (m++[x]):=by simp [zb5,cnd]
  clear eM eB hm
  cases hmx:zcz c b x with
  | true =>
   rw [hmx] at e1
   rw [if_pos hmx] at htk
   simp [-getElem?_pos,zu3,v3,v4,v6,v8,v17,v18,v19,hS0,hS1,hS2,hSo,h,hx',cnd,e1,hws,hr1,hr48,hsn,a01,a02,a03,a04,a11,a12,a13,a14,a21,a22,a23,a24,a31,a32,a33,a34,a41,a42,a43,a44,a51,a52,a53,a54,a61,a62,a63,a64,a71,a72,a73,a74]
   exact zan (n-1) (by omega) ⟨i+1,st.nx+2,st.ep,m++[x],by omega,htk.symm,by simp [v3],by simp [v4],by simp [v6],by simp,by simp [v17],by simp [v18],by simp,by omega,by simp,by simp [a01,a02,a03,a04,a11,a12,a13,a14,a21,a22,a23,a24,a31,a32,a33,a34,a41,a42,a43,a44,a51,a52,a53,a54,a61,a62,a63,a64,a71,a72,a73,a74,hS0],by simp [a01,a02,a03,a04,a11,a12,a13,a14,a21,a22,a23,a24,a31,a32,a33,a34,a41,a42,a43,a44,a51,a52,a53,a54,a61,a62,a63,a64,a71,a72,a73,a74,hS1],by simp [a01,a02,a03,a04,a11,a12,a13,a14,a21,a22,a23,a24,a31,a32,a33,a34,a41,a42,a43,a44,a51,a52,a53,a54,a61,a62,a63,a64,a71,a72,a73,a74,hS2],by simp⟩
  | false =>
   rw [hmx] at e1
   rw [if_neg (by simp [hmx])] at htk
   simp [-getElem?_pos,zu3,v3,v4,v6,v8,v17,v18,v19,hS0,hS1,hS2,hSo,h,hx',cnd,e1,hws,a01,a02,a03,a04,a11,a12,a13,a14,a21,a22,a23,a24,a31,a32,a33,a34,a41,a42,a43,a44,a51,a52,a53,a54,a61,a62,a63,a64,a71,a72,a73,a74]
   exact zan (n-1) (by omega) ⟨i+1,o,e,m,by omega,htk.symm,by simp [v3],by simp [v4],by simp [v6],by simp [v8],by simp [v17],by simp [v18],by simp,by omega,by simp; omega,by simp [a01,a02,a03,a04,a11,a12,a13,a14,a21,a22,a23,a24,a31,a32,a33,a34,a41,a42,a43,a44,a51,a52,a53,a54,a61,a62,a63,a64,a71,a72,a73,a74,hS0],by simp [a01,a02,a03,a04,a11,a12,a13,a14,a21,a22,a23,a24,a31,a32,a33,a34,a41,a42,a43,a44,a51,a52,a53,a54,a61,a62,a63,a64,a71,a72,a73,a74,hS1],by simp [a01,a02,a03,a04,a11,a12,a13,a14,a21,a22,a23,a24,a31,a32,a33,a34,a41,a42,a43,a44,a51,a52,a53,a54,a61,a62,a63,a64,a71,a72,a73,a74,hS2],by simp [a01,a02,a03,a04,a11,a12,a13,a14,a21,a22,a23,a24,a31,a32,a33,a34,a41,a42,a43,a44,a51,a52,a53,a54,a61,a62,a63,a64,a71,a72,a73,a74,hSo]⟩
 ·rw [List.take_of_length_le (by omega)] at hm
  rw [← hm] at hR
  have hmem : ∀ y∈m,y∈l:=fun y hy=>by rw [hm] at hy; exact (List.mem_filter.mp hy).1
  have hml:m.length≤1048576:=by rw [hm]; exact Nat.le_trans (List.length_filter_le _ _) hl
  simp [-getElem?_pos,zu3,v8,v18,v19,hSo,h]
  obtain ⟨q,hq⟩ : ∃ q:Cnd→Bool,q=fun x=>m.all fun y => !zc5 y x c.la:=⟨_,rfl⟩
  rw [← hq] at hR
  clear eM hm hin
  refine za0 (fun n st => ∃ i:Nat,i+n=m.length∧(m.drop i).find? q=m.find? q∧st.V 3 = .ptr 0 none 0 0 0∧st.V 4 = .ptr 1 none 0 0 0∧st.V 6 = .ptr 2 none 0 0 0∧st.V 8 = .ref o none e 0 m.length∧st.V 32 = .ref o none e 0 m.length∧st.V 33=iv m.length∧st.V 34=iv i∧2<o∧o<st.nx∧st.S 0=some (.box [iv c.ro,iv c.de,iv c.bi,iv c.la,iv c.rw,iv c.nu,iv c.dn,.sl 1 (zac c.sg)])∧st.S 1=some (.box [iv b.lo,iv b.hi])∧st.S 2=some (.box [iv 0,iv 0,iv 0,iv 0,iv 0,iv 0])∧st.S o=some (.row 6 (zb5 m))) ?_ m.length _ ⟨0,by simp,by simp,by simp [v3],by simp [v4],by simp [v6],by simp [v8],by simp,by simp,by simp,ho,by simp [hox],by simp [hS0],by simp [hS1],by simp [hS2],by simp [hSo]⟩
  clear v3 v4 v6 v8 v17 v18 v19 hS0 hS1 hS2 hSo hox ho
  clear a01 a02 a03 a04 a11 a12 a13 a14 a21 a22 a23 a24 a31 a32 a33 a34 a41 a42 a43 a44 a51 a52 a53 a54 a61 a62 a63 a64 a71 a72 a73 a74
  rintro n st ⟨i,hin,hf,v3,v4,v6,v8,v32,v33,v34,ho,hox,hS0,hS1,hS2,hSo⟩
  obtain ⟨b01,b02,b03,b04⟩:=fr (show 0<st.nx by omega)
  obtain ⟨b11,b12,b13,b14⟩:=fr (show 1<st.nx by omega)
  obtain ⟨b21,b22,b23,b24⟩:=fr (show 2<st.nx by omega)
  obtain ⟨b31,b32,b33,b34⟩:=fr (show 0<o by omega)
  obtain ⟨b41,b42,b43,b44⟩:=fr (show 1<o by omega)
  obtain ⟨b51,b52,b53,b54⟩:=fr (show 2<o by omega)
  obtain ⟨b61,b62,b63,b64⟩:=fr (show o<st.nx by omega)
  by_cases h:i<m.length
  ·obtain ⟨x,hx⟩ : ∃ x,m[i]?=some x:=⟨_,List.getElem?_eq_getElem h⟩
   have hx':=zuc hx
   have hxm:=List.mem_of_getElem? hx
   have hws:=wS h (by omega:m.length≤9223372036854775807)
   rw [zfg hx,List.find?_cons] at hf
   obtain ⟨kb0,hkb⟩ : ∃ k,k=q x:=⟨_,rfl⟩
   rw [← hkb] at hf
   have hkb2:kb0=(true && (m.drop 0).all fun y => !zc5 y x c.la):=by rw [hkb,hq]; rfl
   clear hkb hq
   simp [-getElem?_pos,z1i,v3,v4,v6,v8,v32,v33,v34,hS0,hS1,hS2,hSo,h,hx',cnd,b01,b02,b03,b04,b11,b12,b13,b14,b21,b22,b23,b24,b31,b32,b33,b34,b41,b42,b43,b44,b51,b52,b53,b54,b61,b62,b63,b64]
   generalize hpp:st.nx=pp at *
   refine za0 (fun n' s => ∃ (j:Nat) (k:Bool),j+n'=m.length∧(k && (m.drop j).all fun y => !zc5 y x c.la)=kb0∧s.V 3 = .ptr 0 none 0 0 0∧s.V 4 = .ptr 1 none 0 0 0∧s.V 6 = .ptr 2 none 0 0 0∧s.V 8 = .ref o none e 0 m.length∧s.V 32 = .ref o none e 0 m.length∧s.V 33=iv m.length∧s.V 34=iv i∧s.V 11=iv i∧s.V 12 = .ptr pp none st.ep 0 0∧s.V 13=bv k∧s.V 39 = .ref o none e 0 m.length∧s.V 40=iv m.length∧s.V 41=iv j∧pp<s.nx∧s.S 0=some (.box [iv c.ro,iv c.de,iv c.bi,iv c.la,iv c.rw,iv c.nu,iv c.dn,.sl 1 (zac c.sg)])∧s.S 1=some (.box [iv b.lo,iv b.hi])∧s.S 2=some (.box [iv 0,iv 0,iv 0,iv 0,iv 0,iv 0])∧s.S o=some (.row 6 (zb5 m))∧s.S pp=some (.box [iv x.f,iv x.b,iv x.a.n,iv x.a.g,iv x.z.n,iv x.z.g])) ?_ m.length _ ⟨0,true,by omega,hkb2.symm,by simp [v3],by simp [v4],by simp [v6],by simp [v8],by simp [v32],by simp [v33],by simp [v34],by simp,by simp,by simp,by simp,by simp,by simp,by simp,by simp [b01,b02,b03,b04,b11,b12,b13,b14,b21,b22,b23,b24,b31,b32,b33,b34,b41,b42,b43,b44,b51,b52,b53,b54,b61,b62,b63,b64,hS0],by simp [b01,b02,b03,b04,b11,b12,b13,b14,b21,b22,b23,b24,b31,b32,b33,b34,b41,b42,b43,b44,b51,b52,b53,b54,b61,b62,b63,b64,hS1],by simp [b01,b02,b03,b04,b11,b12,b13,b14,b21,b22,b23,b24,b31,b32,b33,b34,b41,b42,b43,b44,b51,b52,b53,b54,b61,b62,b63,b64,hS2],by simp [b01,b02,b03,b04,b11,b12,b13,b14,b21,b22,b23,b24,b31,b32,b33,b34,b41,b42,b43,b44,b51,b52,b53,b54,b61,b62,b63,b64,hSo],by simp [b01,b02,b03,b04,b11,b12,b13,b14,b21,b22,b23,b24,b31,b32,b33,b34,b41,b42,b43,b44,b51,b52,b53,b54,b61,b62,b63,b64]⟩
   clear v3 v4 v6 v8 v32 v33 v34 hS0 hS1 hS2 hSo
   rintro n' s ⟨j,k,hj,hk,v3,v4,v6,v8,v32,v33,v34,v11,v12,v13,v39,v40,v41,hpn,hS0,hS1,hS2,hSo,hSp⟩
   obtain ⟨d01,d02,d03,d04⟩:=fr (show 0<s.nx by omega)
   obtain ⟨d11,d12,d13,d14⟩:=fr (show 1<s.nx by omega)
   obtain ⟨d21,d22,d23,d24⟩:=fr (show 2<s.nx by omega)
   obtain ⟨d31,d32,d33,d34⟩:=fr (show 0<o by omega)
   obtain ⟨d41,d42,d43,d44⟩:=fr (show 1<o by omega)
   obtain ⟨d51,d52,d53,d54⟩:=fr (show 2<o by omega)
   obtain ⟨d61,d62,d63,d64⟩:=fr (show o<s.nx by omega)
   obtain ⟨d71,d72,d73,d74⟩:=fr (show 0<pp by omega)
   obtain ⟨d81,d82,d83,d84⟩:=fr (show 1<pp by omega)
   obtain ⟨d91,d92,d93,d94⟩:=fr (show 2<pp by omega)
   obtain ⟨d101,d102,d103,d104⟩:=fr (show o<pp by omega)
   obtain ⟨d111,d112,d113,d114⟩:=fr (show pp<s.nx by omega)
   by_cases hjl:j<m.length
   ·obtain ⟨y,hy⟩ : ∃ y,m[j]?=some y:=⟨_,List.getElem?_eq_getElem hjl⟩
    have hy':=zuc hy
    have hym:=List.mem_of_getElem? hy
    have hwj:=wS hjl (by omega:m.length≤9223372036854775807)
    have e3:=eB y (hmem y hym) x (hmem x hxm)
    rw [zfg hy,List.all_cons] at hk
    clear eB
    cases k with
    | false =>
     have hk':(false && (m.drop (j+1)).all fun y => !zc5 y x c.la)=kb0:=by rw [← hk]; rfl
     simp [-getElem?_pos,zmq,v3,v4,v6,v8,v11,v12,v13,v39,v40,v41,hS0,hS1,hS2,hSo,hSp,hjl,hy',cnd,hwj,d01,d02,d03,d04,d11,d12,d13,d14,d21,d22,d23,d24,d31,d32,d33,d34,d41,d42,d43,d44,d51,d52,d53,d54,d61,d62,d63,d64,d71,d72,d73,d74,d81,d82,d83,d84,d91,d92,d93,d94,d101,d102,d103,d104,d111,d112,d113,d114]
     exact zan (n'-1) (by omega) ⟨j+1,false,by omega,hk',by simp [v3],by simp [v4],by simp [v6],by simp [v8],by simp [v32],by simp [v33],by simp [v34],by simp [v11],by simp [v12],by simp [v13],by simp [v39],by simp [v40],by simp,by simp; omega,by simp [d01,d02,d03,d04,d11,d12,d13,d14,d21,d22,d23,d24,d31,d32,d33,d34,d41,d42,d43,d44,d51,d52,d53,d54,d61,d62,d63,d64,d71,d72,d73,d74,d81,d82,d83,d84,d91,d92,d93,d94,d101,d102,d103,d104,d111,d112,d113,d114,hS0],by simp [d01,d02,d03,d04,d11,d12,d13,d14,d21,d22,d23,d24,d31,d32,d33,d34,d41,d42,d43,d44,d51,d52,d53,d54,d61,d62,d63,d64,d71,d72,d73,d74,d81,d82,d83,d84,d91,d92,d93,d94,d101,d102,d103,d104,d111,d112,d113,d114,hS1],by simp [d01,d02,d03,d04,d11,d12,d13,d14,d21,d22,d23,d24,d31,d32,d33,d34,d41,d42,d43,d44,d51,d52,d53,d54,d61,d62,d63,d64,d71,d72,d73,d74,d81,d82,d83,d84,d91,d92,d93,d94,d101,d102,d103,d104,d111,d112,d113,d114,hS2],by simp [d01,d02,d03,d04,d11,d12,d13,d14,d21,d22,d23,d24,d31,d32,d33,d34,d41,d42,d43,d44,d51,d52,d53,d54,d61,d62,d63,d64,d71,d72,d73,d74,d81,d82,d83,d84,d91,d92,d93,d94,d101,d102,d103,d104,d111,d112,d113,d114,hSo],by simp [d01,d02,d03,d04,d11,d12,d13,d14,d21,d22,d23,d24,d31,d32,d33,d34,d41,d42,d43,d44,d51,d52,d53,d54,d61,d62,d63,d64,d71,d72,d73,d74,d81,d82,d83,d84,d91,d92,d93,d94,d101,d102,d103,d104,d111,d112,d113,d114,hSp]⟩
    | true =>
     by_cases hij:j=i
     ·have hyx:y=x:=by
       subst hij
       rw [hx] at hy; exact (Option.some.inj hy).symm
      subst hyx
      rw [ys2] at hk
      have hk':(true && (m.drop (j+1)).all fun z => !zc5 z y c.la)=kb0:=by rw [← hk]; rfl
      subst hij
      simp [-getElem?_pos,zmq,v3,v4,v6,v8,v11,v12,v13,v39,v40,v41,hS0,hS1,hS2,hSo,hSp,hjl,hy',cnd,hwj,d01,d02,d03,d04,d11,d12,d13,d14,d21,d22,d23,d24,d31,d32,d33,d34,d41,d42,d43,d44,d51,d52,d53,d54,d61,d62,d63,d64,d71,d72,d73,d74,d81,d82,d83,d84,d91,d92,d93,d94,d101,d102,d103,d104,d111,d112,d113,d114]
      exact zan (n'-1) (by omega) ⟨j+1,true,by omega,hk',by simp [v3],by simp [v4],by simp [v6],by simp [v8],by simp [v32],by simp [v33],by simp [v34],by simp [v11],by simp [v12],by simp [v13],by simp [v39],by simp [v40],by simp,by simp; omega,by simp [d01,d02,d03,d04,d11,d12,d13,d14,d21,d22,d23,d24,d31,d32,d33,d34,d41,d42,d43,d44,d51,d52,d53,d54,d61,d62,d63,d64,d71,d72,d73,d74,d81,d82,d83,d84,d91,d92,d93,d94,d101,d102,d103,d104,d111,d112,d113,d114,hS0],by simp [d01,d02,d03,d04,d11,d12,d13,d14,d21,d22,d23,d24,d31,d32,d33,d34,d41,d42,d43,d44,d51,d52,d53,d54,d61,d62,d63,d64,d71,d72,d73,d74,d81,d82,d83,d84,d91,d92,d93,d94,d101,d102,d103,d104,d111,d112,d113,d114,hS1],by simp [d01,d02,d03,d04,d11,d12,d13,d14,d21,d22,d23,d24,d31,d32,d33,d34,d41,d42,d43,d44,d51,d52,d53,d54,d61,d62,d63,d64,d71,d72,d73,d74,d81,d82,d83,d84,d91,d92,d93,d94,d101,d102,d103,d104,d111,d112,d113,d114,hS2],by simp [d01,d02,d03,d04,d11,d12,d13,d14,d21,d22,d23,d24,d31,d32,d33,d34,d41,d42,d43,d44,d51,d52,d53,d54,d61,d62,d63,d64,d71,d72,d73,d74,d81,d82,d83,d84,d91,d92,d93,d94,d101,d102,d103,d104,d111,d112,d113,d114,hSo],by simp [d01,d02,d03,d04,d11,d12,d13,d14,d21,d22,d23,d24,d31,d32,d33,d34,d41,d42,d43,d44,d51,d52,d53,d54,d61,d62,d63,d64,d71,d72,d73,d74,d81,d82,d83,d84,d91,d92,d93,d94,d101,d102,d103,d104,d111,d112,d113,d114,hSp]⟩
     ·have h1:((j:Int)=i)=False:=eq_false (by omega)
      have h2:((i:Int)=j)=False:=eq_false (by omega)
      have hji : ¬ i=j:=fun e=>hij e.symm
      generalize zc5 y x c.la=bb at *
      cases bb with
      | true =>
       have hk':(false && (m.drop (j+1)).all fun y => !zc5 y x c.la)=kb0:=by rw [← hk]; rfl
       simp [-getElem?_pos,zmq,v3,v4,v6,v8,v11,v12,v13,v39,v40,v41,hS0,hS1,hS2,hSo,hSp,hjl,hy',cnd,hwj,d01,d02,d03,d04,d11,d12,d13,d14,d21,d22,d23,d24,d31,d32,d33,d34,d41,d42,d43,d44,d51,d52,d53,d54,d61,d62,d63,d64,d71,d72,d73,d74,d81,d82,d83,d84,d91,d92,d93,d94,d101,d102,d103,d104,d111,d112,d113,d114,h1,h2,hij,hji,e3]
       exact zan (n'-1) (by omega) ⟨j+1,false,by omega,hk',by simp [v3],by simp [v4],by simp [v6],by simp [v8],by simp [v32],by simp [v33],by simp [v34],by simp [v11],by simp [v12],by simp [v13],by simp [v39],by simp [v40],by simp,by simp; omega,by simp [d01,d02,d03,d04,d11,d12,d13,d14,d21,d22,d23,d24,d31,d32,d33,d34,d41,d42,d43,d44,d51,d52,d53,d54,d61,d62,d63,d64,d71,d72,d73,d74,d81,d82,d83,d84,d91,d92,d93,d94,d101,d102,d103,d104,d111,d112,d113,d114,hS0],by simp [d01,d02,d03,d04,d11,d12,d13,d14,d21,d22,d23,d24,d31,d32,d33,d34,d41,d42,d43,d44,d51,d52,d53,d54,d61,d62,d63,d64,d71,d72,d73,d74,d81,d82,d83,d84,d91,d92,d93,d94,d101,d102,d103,d104,d111,d112,d113,d114,hS1],by simp [d01,d02,d03,d04,d11,d12,d13,d14,d21,d22,d23,d24,d31,d32,d33,d34,d41,d42,d43,d44,d51,d52,d53,d54,d61,d62,d63,d64,d71,d72,d73,d74,d81,d82,d83,d84,d91,d92,d93,d94,d101,d102,d103,d104,d111,d112,d113,d114,hS2],by simp [d01,d02,d03,d04,d11,d12,d13,d14,d21,d22,d23,d24,d31,d32,d33,d34,d41,d42,d43,d44,d51,d52,d53,d54,d61,d62,d63,d64,d71,d72,d73,d74,d81,d82,d83,d84,d91,d92,d93,d94,d101,d102,d103,d104,d111,d112,d113,d114,hSo],by simp [d01,d02,d03,d04,d11,d12,d13,d14,d21,d22,d23,d24,d31,d32,d33,d34,d41,d42,d43,d44,d51,d52,d53,d54,d61,d62,d63,d64,d71,d72,d73,d74,d81,d82,d83,d84,d91,d92,d93,d94,d101,d102,d103,d104,d111,d112,d113,d114,hSp]⟩
      | false =>
       have hk':(true && (m.drop (j+1)).all fun y => !zc5 y x c.la)=kb0:=by rw [← hk]; rfl
       simp [-getElem?_pos,zmq,v3,v4,v6,v8,v11,v12,v13,v39,v40,v41,hS0,hS1,hS2,hSo,hSp,hjl,hy',cnd,hwj,d01,d02,d03,d04,d11,d12,d13,d14,d21,d22,d23,d24,d31,d32,d33,d34,d41,d42,d43,d44,d51,d52,d53,d54,d61,d62,d63,d64,d71,d72,d73,d74,d81,d82,d83,d84,d91,d92,d93,d94,d101,d102,d103,d104,d111,d112,d113,d114,h1,h2,hij,hji,e3]
       exact zan (n'-1) (by omega) ⟨j+1,true,by omega,hk',by simp [v3],by simp [v4],by simp [v6],by simp [v8],by simp [v32],by simp [v33],by simp [v34],by simp [v11],by simp [v12],by simp [v13],by simp [v39],by simp [v40],by simp,by simp; omega,by simp [d01,d02,d03,d04,d11,d12,d13,d14,d21,d22,d23,d24,d31,d32,d33,d34,d41,d42,d43,d44,d51,d52,d53,d54,d61,d62,d63,d64,d71,d72,d73,d74,d81,d82,d83,d84,d91,d92,d93,d94,d101,d102,d103,d104,d111,d112,d113,d114,hS0],by simp [d01,d02,d03,d04,d11,d12,d13,d14,d21,d22,d23,d24,d31,d32,d33,d34,d41,d42,d43,d44,d51,d52,d53,d54,d61,d62,d63,d64,d71,d72,d73,d74,d81,d82,d83,d84,d91,d92,d93,d94,d101,d102,d103,d104,d111,d112,d113,d114,hS1],by simp [d01,d02,d03,d04,d11,d12,d13,d14,d21,d22,d23,d24,d31,d32,d33,d34,d41,d42,d43,d44,d51,d52,d53,d54,d61,d62,d63,d64,d71,d72,d73,d74,d81,d82,d83,d84,d91,d92,d93,d94,d101,d102,d103,d104,d111,d112,d113,d114,hS2],by simp [d01,d02,d03,d04,d11,d12,d13,d14,d21,d22,d23,d24,d31,d32,d33,d34,d41,d42,d43,d44,d51,d52,d53,d54,d61,d62,d63,d64,d71,d72,d73,d74,d81,d82,d83,d84,d91,d92,d93,d94,d101,d102,d103,d104,d111,d112,d113,d114,hSo],by simp [d01,d02,d03,d04,d11,d12,d13,d14,d21,d22,d23,d24,d31,d32,d33,d34,d41,d42,d43,d44,d51,d52,d53,d54,d61,d62,d63,d64,d71,d72,d73,d74,d81,d82,d83,d84,d91,d92,d93,d94,d101,d102,d103,d104,d111,d112,d113,d114,hSp]⟩
   ·rw [List.drop_eq_nil_of_le (by omega)] at hk
    simp only [List.all_nil,Bool.and_true] at hk
    subst hk
    cases k with
    | true =>
     simp only at hf
     rw [← hf] at hR
     simp only at hR
     subst hR
     simp [-getElem?_pos,zmq,v3,v4,v6,v8,v11,v12,v13,v39,v40,v41,hS0,hS1,hS2,hSo,hSp,hjl,cnd,d01,d02,d03,d04,d11,d12,d13,d14,d21,d22,d23,d24,d31,d32,d33,d34,d41,d42,d43,d44,d51,d52,d53,d54,d61,d62,d63,d64,d71,d72,d73,d74,d81,d82,d83,d84,d91,d92,d93,d94,d101,d102,d103,d104,d111,d112,d113,d114]
    | false =>
     simp only at hf
     simp [-getElem?_pos,zmq,v3,v4,v6,v8,v11,v12,v13,v34,v39,v40,v41,hS0,hS1,hS2,hSo,hSp,hjl,hws,d01,d02,d03,d04,d11,d12,d13,d14,d21,d22,d23,d24,d31,d32,d33,d34,d41,d42,d43,d44,d51,d52,d53,d54,d61,d62,d63,d64,d71,d72,d73,d74,d81,d82,d83,d84,d91,d92,d93,d94,d101,d102,d103,d104,d111,d112,d113,d114]
     exact zan (n-1) (by omega) ⟨i+1,by omega,hf,by simp [v3],by simp [v4],by simp [v6],by simp [v8],by simp [v32],by simp [v33],by simp,ho,by simp; omega,by simp [hS0],by simp [hS1],by simp [hS2],by simp [hSo]⟩
  ·rw [List.drop_eq_nil_of_le (by omega)] at hf
   rw [← hf] at hR
   simp only [List.find?_nil] at hR
   subst hR
   simp [-getElem?_pos,z1i,v6,v33,v34,hS2,h,zhr,cnd]
def zc6 (a b:Sl):Sl×Bool:=if ((sbi a.n b.n).2 && (sbi a.g b.g).2)=true then (⟨(sbi a.n b.n).1,(sbi a.g b.g).1⟩,true) else (⟨0,0⟩,false)
theorem ydj {a b:Int}:inI (sbi a b).1:=by
 unfold sbi inI
 split
 ·rename_i h; simpa using h
 ·simp
theorem ysu (a b:Sl):slI (zc6 a b).1:=by
 unfold zc6
 split
 ·exact ⟨ydj,ydj⟩
 ·unfold slI inI; simp
def zbz (s:Sl):List Sl→Option (List Sl)
 | []=>some []
 | x::xs=>if (za8 s x).2=true then (zbz (za8 s x).1 xs).map ((za8 s x).1 :: ·) else none
def zbj (h:List Sl):List Sl×Bool:=match zbz ⟨0,0⟩ h with
 | some l=>(l,true)
 | none=>([],false)
theorem yge : ∀ (h:List Sl) (s:Sl) (l:List Sl),slI s→zbz s h=some l→l.length=h.length∧∀ x∈l,slI x
 | [],s,l,_,e=>by simp [zbz] at e; subst e; simp
 | x::xs,s,l,hs,e=>by
  simp only [zbz] at e
  split at e
  ·simp only [Option.map_eq_some_iff] at e
   obtain ⟨l',h1,rfl⟩:=e
   have hp:=zk1 (b:=x) hs
   obtain ⟨h2,h3⟩:=yge xs _ _ hp h1
   refine ⟨by simp [h2],fun y hy => ?_⟩
   rcases List.mem_cons.mp hy with e | e
   ·subst e; exact hp
   ·exact h3 y e
  ·cases e
theorem z0j:slI ⟨0,0⟩:=⟨by unfold inI; simp,by unfold inI; simp⟩
theorem z3p (h:List Sl):(zbj h).1.length≤h.length∧(∀ x∈(zbj h).1,slI x)∧((zbj h).2=true→(zbj h).1.length=h.length):=by
 unfold zbj
 cases e:zbz ⟨0,0⟩ h with
 | none=>simp
 | some l =>
  obtain ⟨h1,h2⟩:=yge h _ l z0j e
  exact ⟨by simp [h1],h2,fun _=>h1⟩
def zec (f:Int) (all:Sl) (least:Int):Int→List Sl→List Cnd→Option (List Cnd)
 | b,x::y::xs,acc=>if (zc6 all x).2=true then zec f all least (b+1) (y::xs) (if least≤x.n∧least≤(zc6 all x).1.n then acc++[⟨f,b,x,(zc6 all x).1⟩] else acc) else none
 | _,_,acc=>some acc
def zef (l:List Sl):Sl:=l.getLast?.getD ⟨0,0⟩
def zcu (least:Int):Int→List (List Sl)→List Cnd→Option (List Cnd)
 | _,[],acc=>some acc
 | f,h::hs,acc=>if (zbj h).2=true then match zec f (zef (zbj h).1) least 0 (zbj h).1 acc with
  | some a=>zcu least (f+1) hs a
  | none=>none
  else none
def zdp (H:List (List Sl)) (least:Int):List Cnd:=(zcu least 0 H []).getD []
theorem zrm {f:Int} {all:Sl} {least:Int} {l:List Sl} {i:Nat} {x:Sl} (acc:List Cnd) (hx:l[i]?=some x) (hi:i+1<l.length):zec f all least i (l.drop i) acc=if (zc6 all x).2=true then zec f all least (i+1:Nat) (l.drop (i+1)) (if least≤x.n∧least≤(zc6 all x).1.n then acc++[⟨f,i,x,(zc6 all x).1⟩] else acc) else none:=by
 rw [zfg hx,zfg (List.getElem?_eq_getElem hi),zec]
 simp
theorem zim {f:Int} {all:Sl} {least:Int} {l:List Sl} {i:Nat} (acc:List Cnd) (hi : ¬ i+1<l.length):zec f all least i (l.drop i) acc=some acc:=by
 match h:l.drop i with
 | []=>rw [zec]; simp
 | [x]=>rw [zec]; simp
 | x::y::xs =>
  have:=congrArg List.length h
  simp at this; omega
theorem ycv {l:List Sl} {x:Sl} (h:l[l.length-1]?=some x):zef l=x:=by
 unfold zef; rw [List.getLast?_eq_getElem?,h]; rfl
def zrf (H:List (List Sl)) (x:Cnd):Prop := ∃ (f b:Nat) (h:List Sl),x.f=f∧x.b=b∧H[f]?=some h∧b+1<h.length∧slI x.a∧slI x.z
theorem z2l {f:Int} {all:Sl} {least:Int} {p:Cnd→Prop} {l:List Sl} (hl : ∀ x∈l,slI x) (hp : ∀ (b:Nat) (x z:Sl),b+1<l.length→slI x→slI z→p ⟨f,b,x,z⟩) : ∀ (k i:Nat) (acc a:List Cnd),i+k=l.length→(∀ x∈acc,p x)→zec f all least i (l.drop i) acc=some a→a.length≤acc.length+k∧∀ x∈a,p x
 | 0,i,acc,a,hk,ha,h=>by
  rw [zim acc (by omega)] at h
  cases h
  exact ⟨by omega,ha⟩
 | k+1,i,acc,a,hk,ha,h=>by
  by_cases hi:i+1<l.length
  ·obtain ⟨x,hx⟩ : ∃ x,l[i]?=some x:=⟨_,List.getElem?_eq_getElem (by omega)⟩
   rw [zrm acc hx hi] at h
   have hxi:=hl x (List.mem_of_getElem? hx)
   split at h
   ·split at h
    ·obtain ⟨h1,h2⟩:=z2l hl hp k (i+1) _ _ (by omega) (fun y hy=>by
      rcases List.mem_append.mp hy with e | e
      ·exact ha y e
      ·simp only [List.mem_singleton] at e; subst e; exact hp i x _ hi hxi (ysu _ _)) h
     exact ⟨by simp at h1; omega,h2⟩
    ·obtain ⟨h1,h2⟩:=z2l hl hp k (i+1) _ _ (by omega) ha h
     exact ⟨by omega,h2⟩
   ·cases h
  ·rw [zim acc hi] at h
   cases h
   exact ⟨by omega,ha⟩
theorem zre {least:Int} {H:List (List Sl)} {i:Nat} {h:List Sl} (acc:List Cnd) (hx:H[i]?=some h):zcu least i (H.drop i) acc=if (zbj h).2=true then match zec i (zef (zbj h).1) least 0 (zbj h).1 acc with
  | some a=>zcu least (i+1:Nat) (H.drop (i+1)) a
  | none=>none
  else none:=by
 rw [zfg hx,zcu]
 simp
theorem yan {least:Int} {H:List (List Sl)} {m:Nat} (hm : ∀ l∈H,l.length≤m) : ∀ (k i:Nat) (acc a:List Cnd),i+k=H.length→(∀ x∈acc,zrf H x)→zcu least i (H.drop i) acc=some a→a.length≤acc.length+m*k∧∀ x∈a,zrf H x
 | 0,i,acc,a,hk,ha,h=>by
  rw [List.drop_eq_nil_of_le (by omega),zcu] at h
  cases h
  exact ⟨by omega,ha⟩
 | k+1,i,acc,a,hk,ha,h=>by
  obtain ⟨l,hx⟩ : ∃ x,H[i]?=some x:=⟨_,List.getElem?_eq_getElem (by omega)⟩
  rw [zre acc hx] at h
  obtain ⟨p1,p2,p3⟩:=z3p l
  split at h
  ·rename_i hp
   split at h
   ·rename_i a' h'
    have h'':zec i (zef (zbj l).1) least ((0:Nat):Int) ((zbj l).1.drop 0) acc=some a':=by simpa using h'
    obtain ⟨q1,q2⟩:=z2l (p:=zrf H) p2 (fun b x z hb hx' hz'=>⟨i,b,l,rfl,rfl,hx,by omega,hx',hz'⟩) (zbj l).1.length 0 acc a' (by omega) ha h''
    obtain ⟨r1,r2⟩:=yan hm k (i+1) a' a (by omega) q2 h
    have:=hm l (List.mem_of_getElem? hx)
    refine ⟨?_,r2⟩
    rw [Nat.mul_add]
    omega
   ·cases h
  ·cases h
theorem yfv {least:Int} {H:List (List Sl)} {m:Nat} (hm : ∀ l∈H,l.length≤m):(zdp H least).length≤m*H.length∧∀ x∈zdp H least,zrf H x:=by
 unfold zdp
 cases h:zcu least 0 H [] with
 | none=>simp
 | some a =>
  have h':zcu least ((0:Nat):Int) (H.drop 0) []=some a:=by simpa using h
  obtain ⟨h1,h2⟩:=yan hm H.length 0 [] a (by omega) (fun x hx=>by cases hx) h'
  exact ⟨by simpa using h1,h2⟩
theorem ybp {H:List (List Sl)} {x:Cnd} (hH:H.length≤1048576) (hl : ∀ l∈H,l.length≤1048576) (h:zrf H x):zeg x:=by
 obtain ⟨f,b,l,h1,h2,h3,h4,h5,h6⟩:=h
 have:=(List.getElem?_eq_some_iff.mp h3).1
 have:=hl l (List.mem_of_getElem? h3)
 exact ⟨by unfold inI; omega,by unfold inI; omega,h5,h6⟩
theorem yvv {c:Cfg} {b:Bd} {l:List Cnd} (h:(zdo c b l).2=true):(zdo c b l).1∈l∧zcz c b (zdo c b l).1=true∧∀ y∈l,zcz c b y=true→zc5 y (zdo c b l).1 c.la=false:=by
 unfold zdo at h ⊢
 cases e:l.find? (zg4 c b l) with
 | none=>rw [e] at h; cases h
 | some x =>
  simp only
  have h1:=List.mem_of_find?_eq_some e
  have h2:=List.find?_some e
  unfold zg4 at h2
  simp only [Bool.and_eq_true] at h2
  refine ⟨h1,h2.1,fun y hy hm => ?_⟩
  have:=List.all_eq_true.mp h2.2 y hy
  unfold noB at this
  rw [hm] at this
  simpa using this
theorem ytx : ∀ x y:Nat,2*(x &&& y)+(x ^^^ y)=x+y:=by
 intro x
 induction x using Nat.strongRecOn with
 | _ x ih =>
  intro y
  by_cases hx:x=0
  ·subst hx; simp
  ·have h1:=ih (x / 2) (by omega) (y / 2)
   have h2:(x &&& y) / 2=x / 2 &&& y / 2:=by rw [Nat.and_div_two]
   have h3:(x ^^^ y) / 2=x / 2 ^^^ y / 2:=by rw [Nat.xor_div_two]
   have h4:(x &&& y) % 2=1↔x % 2=1∧y % 2=1:=Nat.and_mod_two_eq_one
   have h5:(x ^^^ y) % 2=1↔¬ (x % 2=1↔y % 2=1):=Nat.xor_mod_two_eq_one
   omega
def zcr (a:Int):Nat:=(a % 18446744073709551616).toNat
theorem z0u {a:Int} (h:inI a):(zcr a:Int)=if a<0 then a+18446744073709551616 else a:=by
 unfold inI at h
 unfold zcr
 split <;> omega
theorem z00 (a:Int):zcr a<18446744073709551616:=by
 unfold zcr; omega
theorem z3f {n:Nat} (h:n<18446744073709551616):IntKind.i64.wrap n=if n<9223372036854775808 then (n:Int) else n-18446744073709551616:=by
 split
 ·exact w64 (by omega) (by omega)
 ·simp [IntKind.wrap,IntKind.signed,IntKind.bits]
  omega
theorem yy3 (x y:Nat) (hx:x<18446744073709551616) (hy:y<18446744073709551616):(9223372036854775808≤(x &&& y)↔9223372036854775808≤x∧9223372036854775808≤y)∧(9223372036854775808≤(x ^^^ y)↔¬ (9223372036854775808≤x↔9223372036854775808≤y)):=by
 have h1:(x &&& y) >>> 63=x >>> 63 &&& y >>> 63:=Nat.shiftRight_and_distrib
 have h2:(x ^^^ y) >>> 63=x >>> 63 ^^^ y >>> 63:=Nat.shiftRight_xor_distrib
 rw [Nat.shiftRight_eq_div_pow,Nat.shiftRight_eq_div_pow,Nat.shiftRight_eq_div_pow] at h1 h2
 have hx':x / 2 ^ 63=0∨x / 2 ^ 63=1:=by omega
 have hy':y / 2 ^ 63=0∨y / 2 ^ 63=1:=by omega
 rcases hx' with e1 | e1 <;> rcases hy' with e2 | e2 <;> rw [e1,e2] at h1 h2 <;> simp at h1 h2 <;> omega
theorem yfb {x y:Nat} (hx:x<18446744073709551616):(x &&& y)<18446744073709551616:=Nat.lt_of_le_of_lt Nat.and_le_left hx
theorem yza {x y:Nat} (hx:x<18446744073709551616) (hy:y<18446744073709551616):(x ^^^ y)<18446744073709551616:=Nat.xor_lt_two_pow (n:=64) hx hy
theorem ys6 {a b:Int} (ha:inI a) (hb:inI b):2*IntKind.i64.wrap ((zcr a &&& zcr b:Nat):Int)+IntKind.i64.wrap ((zcr a ^^^ zcr b:Nat):Int)=a+b:=by
 have la:=z00 a
 have lb:=z00 b
 have ea:=z0u ha
 have eb:=z0u hb
 obtain ⟨t1,t2⟩:=yy3 _ _ la lb
 have hs:=ytx (zcr a) (zcr b)
 rw [z3f (yfb la),z3f (yza la lb)]
 unfold inI at ha hb
 generalize zcr a &&& zcr b=p at *
 generalize zcr a ^^^ zcr b=q at *
 split at ea <;> split at eb <;> split <;> split <;> omega
theorem ybf {a b:Int} (ha:inI a) (hb:inI b):inI (IntKind.i64.wrap ((zcr a &&& zcr b:Nat):Int))∧(IntKind.i64.wrap ((zcr a &&& zcr b:Nat):Int) % 2=1↔a % 2=1∧b % 2=1):=by
 have la:=z00 a
 have lb:=z00 b
 have ea:=z0u ha
 have eb:=z0u hb
 have h4:(zcr a &&& zcr b) % 2=1↔zcr a % 2=1∧zcr b % 2=1:=Nat.and_mod_two_eq_one
 have hl:=yfb (y:=zcr b) la
 rw [z3f hl]
 unfold inI at *
 generalize zcr a &&& zcr b=p at *
 split at ea <;> split at eb <;> split <;> omega
def zgt (a b:Int):Int:=(a+b) / 2
theorem yq3 (a b:Int) (ha:inI a) (hb:inI b):RUN T zpa [iv a,iv b]=some ([iv (zgt a b)],[]):=by
 refine zah z7n rfl ?_
 have h:=ys6 ha hb
 obtain ⟨h1,_⟩:=ybf ha hb
 unfold zcr at h h1
 unfold inI at ha hb h1
 have hb64:IntKind.i64.bits=64:=rfl
 simp [zxt,zxu,hb64]
 rw [Int.fdiv_eq_ediv_of_nonneg _ (by omega)]
 unfold zgt
 generalize IntKind.i64.wrap (((a % 18446744073709551616).toNat &&& (b % 18446744073709551616).toNat:Nat):Int)=p at *
 generalize IntKind.i64.wrap (((a % 18446744073709551616).toNat ^^^ (b % 18446744073709551616).toNat:Nat):Int)=q at *
 rw [w64 (by omega) (by omega)]
 omega
theorem yq4 (a b:Int) (ha:inI a) (hb:inI b):RUN T zo9 [iv a,iv b]=some ([iv (zgt a b)],[]):=by
 refine zah z7l rfl ?_
 obtain ⟨h1,h2⟩:=ybf ha hb
 unfold zcr at h1 h2
 unfold inI at ha hb h1
 have hb64:IntKind.i64.bits=64:=rfl
 simp [zxp,zxq,hb64]
 rw [Int.fdiv_eq_ediv_of_nonneg _ (by omega),Int.fdiv_eq_ediv_of_nonneg _ (by omega)]
 unfold zgt
 generalize IntKind.i64.wrap (((a % 18446744073709551616).toNat &&& (b % 18446744073709551616).toNat:Nat):Int)=p at *
 have h3:max (p % 18446744073709551616) 0 % 2=p % 2:=by omega
 rw [h3,w64 (x:=p % 2) (by omega) (by omega),w64 (x:=a / 2+b / 2) (by omega) (by omega),w64 (by omega) (by omega)]
 omega
def zfa (s:Int) (b:Bd) (l r:Int):Bd×Bd:=if zg9 b=true then (if s=1 then (⟨b.lo,zfm (zgt l r) b.lo b.hi⟩,⟨zfm (zgt l r) b.lo b.hi,b.hi⟩) else if s = -1 then (⟨zfm (zgt l r) b.lo b.hi,b.hi⟩,⟨b.lo,zfm (zgt l r) b.lo b.hi⟩) else (b,b)) else (b,b)
theorem yq5 (s:Int) (b:Bd) (l r:Int) (hl:inI l) (hr:inI r):RUN T zoq [iv s,.agg (bnd b),iv l,iv r]=some ([.agg (bnd (zfa s b l r).1),.agg (bnd (zfa s b l r).2)],[]):=by
 have e1:=z99 b
 have e2:=yq3 l r hl hr
 have e3:=yab (zgt l r) b.lo b.hi
 refine zah z6l rfl ?_
 unfold zfa
 generalize zg9 b=q at *
 generalize zfm (zgt l r) b.lo b.hi=m at *
 obtain ⟨lo,hi⟩:=b
 simp only [bnd] at *
 cases q with
 | false=>simp [zp8,zp9,e1]
 | true =>
  by_cases h1:s=1
  ·simp [zp8,zp9,e1,e2,e3,h1]
  ·by_cases h2:s = -1 <;> simp [zp8,zp9,e1,e2,e3,h1,h2]
theorem yq6 (s:Int) (b:Bd) (l r:Int) (hl:inI l) (hr:inI r):RUN T zom [iv s,.agg (bnd b),iv l,iv r]=some ([.agg (bnd (zfa s b l r).1),.agg (bnd (zfa s b l r).2)],[]):=by
 have e1:=z98 b
 have e2:=yq4 l r hl hr
 have e3:=yaa (zgt l r) b.lo b.hi
 refine zah z6e rfl ?_
 unfold zfa
 generalize zg9 b=q at *
 generalize zfm (zgt l r) b.lo b.hi=m at *
 obtain ⟨lo,hi⟩:=b
 simp only [bnd] at *
 cases q with
 | false=>simp [zp6,zp7,e1,e2,e3]
 | true =>
  by_cases h1:s=1
  ·simp [zp6,zp7,e1,e2,e3,h1]
  ·by_cases h2:s = -1 <;> simp [zp6,zp7,e1,e2,e3,h1,h2]
theorem yq7 (a b:Sl) (ha:slI a) (hb:slI b):RUN T zoy [.agg (slc a),.agg (slc b)]=some ([.agg (slc (zc6 a b).1),bv (zc6 a b).2],[]):=by
 have e1:=z9p a.n b.n ha.1 hb.1
 have e2:=z9p a.g b.g ha.2 hb.2
 unfold zc6
 generalize sbi a.n b.n=x at *
 generalize sbi a.g b.g=y at *
 obtain ⟨x,xb⟩:=x
 obtain ⟨y,yb⟩:=y
 simp only at e1 e2 ⊢
 refine zah z6z rfl ?_
 cases xb <;> cases yb <;> simp [zwo,zwp,e1,e2,slc]
theorem yfd (m:List Sl) (x:Sl):zbb m++[[iv x.n,iv x.g]]=zbb (m++[x]):=by simp [zbb,slc]
theorem ycu {s x:Sl} {h:List Sl} {i:Nat} (hx:h[i]?=some x):zbz s (h.drop i)=if (za8 s x).2=true then (zbz (za8 s x).1 (h.drop (i+1))).map ((za8 s x).1 :: ·) else none:=by
 rw [zfg hx,zbz]
set_option maxHeartbeats 1000000 in
theorem yq8 (h:List Sl) (hl:h.length≤1048576) (hi : ∀ x∈h,slI x):RUN T zox [.sl 2 (zbb h)]=some ([.own 2 (zbb (zbj h).1),bv (zbj h).2],[]):=by
 obtain ⟨R,hR⟩ : ∃ R,R=zbj h:=⟨_,rfl⟩
 have hR':R=match zbz ⟨0,0⟩ h with
  | some l=>(l,true)
  | none=>([],false):=by rw [hR]; rfl
 rw [← hR]
 clear hR
 have hr0:zak 16 0=true:=by decide
 have hr1:zak 16 1=true:=by decide
 refine zah z6y rfl ?_
 simp [-getElem?_pos,zwm,zwn,hr0]
 refine za0 (fun n st => ∃ (i o e:Nat) (m:List Sl) (s:Sl),i+n=h.length∧m.length=i∧slI s∧zbz ⟨0,0⟩ h=(zbz s (h.drop i)).map (m ++ ·)∧st.V 4 = .ref o none e 0 m.length∧st.V 5 = .ptr 1 none 0 0 0∧st.V 12 = .sl 2 (zbb h)∧st.V 13=iv h.length∧st.V 14=iv i∧¬ o=1∧o<st.nx∧1<st.nx∧st.S o=some (.row 2 (zbb m))∧st.S 1=some (.box [iv s.n,iv s.g])) ?_ h.length _ ⟨0,0,0,[],⟨0,0⟩,by omega,rfl,z0j,by simp,by simp,by simp,by simp,by simp,by simp,by simp,by simp,by simp,by simp [zbb],by simp⟩
 rintro n st ⟨i,o,ep,m,s,hin,hm,hs,hp,v4,v5,v12,v13,v14,ho1,hox,h1x,hSo,hS1⟩
 obtain ⟨x1,x2,x3,x4⟩:=fr hox
 obtain ⟨z1,z2,z3,z4⟩:=fr h1x
 obtain ⟨a1,a2,a3,a4⟩:=fr (show o<st.nx+1 by omega)
 obtain ⟨b1,b2,b3,b4⟩:=fr (show o<st.nx+2 by omega)
 obtain ⟨c1,c2,c3,c4⟩:=fr (show 1<st.nx+1 by omega)
 obtain ⟨d1,d2,d3,d4⟩:=fr (show 1<st.nx+2 by omega)
 have ho2 : ¬ 1=o:=fun e=>ho1 e.symm
 have hn0 : ¬ st.nx=0:=by omega
 have hn1 : ¬ 1=st.nx+1:=by omega
 by_cases hlt:i<h.length
 ·obtain ⟨x,hx⟩ : ∃ x,h[i]?=some x:=⟨_,List.getElem?_eq_getElem hlt⟩
  have hx':=zkt hx
  have hws:=wS hlt (by omega:h.length≤9223372036854775807)
  have hr16:zak 16 (m.length+1)=true:=by simp [zak]; omega
  have e1:=z15 s x hs (hi x (List.mem_of_getElem? hx))
  have hpi:=zk1 (b:=x) hs
  rw [ycu hx] at hp
  generalize za8 s x=p at *
  obtain ⟨⟨pn,pg⟩,pb⟩:=p
  simp only [slc] at e1 hp hpi
  cases pb with
  | false =>
   rw [if_neg (by simp)] at hp
   rw [hp] at hR'
   subst hR'
   simp [-getElem?_pos,zwl,v4,v5,v12,v13,v14,hlt,hx',hSo,hS1,e1,ho1,ho2,hn0,x1,x2,x3,x4,z1,z2,z3,z4,a1,a2,a3,a4,b1,b2,b3,b4,c1,c2,c3,c4,d1,d2,d3,d4]
   simp [zbb]
  | true =>
   rw [if_pos rfl] at hp
   have hsn:=yfd m ⟨pn,pg⟩
   simp only at hsn
   simp [-getElem?_pos,zwl,v4,v5,v12,v13,v14,hlt,hx',hSo,hS1,hr1,hr16,hws,hsn,e1,ho1,ho2,hn0,x1,x2,x3,x4,z1,z2,z3,z4,a1,a2,a3,a4,b1,b2,b3,b4,c1,c2,c3,c4,d1,d2,d3,d4]
   exact zan (n-1) (by omega) ⟨i+1,st.nx+1+2,st.ep,m++[⟨pn,pg⟩],⟨pn,pg⟩,by omega,by simp [hm],hpi,by rw [hp]; cases zbz ⟨pn,pg⟩ (h.drop (i+1)) <;> simp,by simp,by simp [v5],by simp [v12],by simp [v13],by simp,by omega,by simp,by simp <;> omega,by simp [hn0],by simp [hn0]⟩
 ·rw [List.drop_eq_nil_of_le (by omega),zbz] at hp
  simp only [Option.map_some,List.append_nil] at hp
  rw [hp] at hR'
  subst hR'
  simp [-getElem?_pos,zwl,v4,v13,v14,hlt,hSo]
set_option maxHeartbeats 1000000 in
theorem yq9 (h:List Sl) (hl:h.length≤1048576) (hi : ∀ x∈h,slI x):RUN T zo0 [.sl 2 (zbb h)]=some ([.own 2 (zbb (zbj h).1),bv (zbj h).2],[]):=by
 obtain ⟨R,hR⟩ : ∃ R,R=zbj h:=⟨_,rfl⟩
 have hR':R=match zbz ⟨0,0⟩ h with
  | some l=>(l,true)
  | none=>([],false):=by rw [hR]; rfl
 rw [← hR]
 clear hR
 have hr0:zak 16 0=true:=by decide
 have hr1:zak 16 1=true:=by decide
 refine zah z63 rfl ?_
 simp [-getElem?_pos,zwv,zww,hr0]
 refine za0 (fun n st => ∃ (i o e:Nat) (m:List Sl) (s:Sl),i+n=h.length∧m.length=i∧slI s∧zbz ⟨0,0⟩ h=(zbz s (h.drop i)).map (m ++ ·)∧st.V 0 = .sl 2 (zbb h)∧st.V 4 = .ref o none e 0 m.length∧st.V 5 = .ptr 1 none 0 0 0∧st.V 6=iv i∧¬ o=1∧o<st.nx∧1<st.nx∧st.S o=some (.row 2 (zbb m))∧st.S 1=some (.box [iv s.n,iv s.g])) ?_ h.length _ ⟨0,0,0,[],⟨0,0⟩,by omega,rfl,z0j,by simp,by simp,by simp,by simp,by simp,by simp,by simp,by simp,by simp [zbb],by simp⟩
 rintro n st ⟨i,o,ep,m,s,hin,hm,hs,hp,v0,v4,v5,v6,ho1,hox,h1x,hSo,hS1⟩
 obtain ⟨x1,x2,x3,x4⟩:=fr hox
 obtain ⟨z1,z2,z3,z4⟩:=fr h1x
 obtain ⟨a1,a2,a3,a4⟩:=fr (show o<st.nx+1 by omega)
 obtain ⟨c1,c2,c3,c4⟩:=fr (show 1<st.nx+1 by omega)
 have ho2 : ¬ 1=o:=fun e=>ho1 e.symm
 have hn0 : ¬ st.nx=0:=by omega
 have hn1 : ¬ 1=st.nx+1:=by omega
 by_cases hlt:i<h.length
 ·obtain ⟨x,hx⟩ : ∃ x,h[i]?=some x:=⟨_,List.getElem?_eq_getElem hlt⟩
  have hx':=zkt hx
  have hws:=wS hlt (by omega:h.length≤9223372036854775807)
  have hr16:zak 16 (m.length+1)=true:=by simp [zak]; omega
  have e1:=z16 s x hs (hi x (List.mem_of_getElem? hx))
  have hpi:=zk1 (b:=x) hs
  rw [ycu hx] at hp
  generalize za8 s x=p at *
  obtain ⟨⟨pn,pg⟩,pb⟩:=p
  simp only [slc] at e1 hp hpi
  cases pb with
  | false =>
   rw [if_neg (by simp)] at hp
   rw [hp] at hR'
   subst hR'
   simp [-getElem?_pos,zwu,v0,v4,v5,v6,hlt,hx',hSo,hS1,hr0,e1,ho1,ho2,hn0,x1,x2,x3,x4,z1,z2,z3,z4,a1,a2,a3,a4,c1,c2,c3,c4]
   simp [zbb]
  | true =>
   rw [if_pos rfl] at hp
   have hsn:=yfd m ⟨pn,pg⟩
   simp only at hsn
   simp [-getElem?_pos,zwu,v0,v4,v5,v6,hlt,hx',hSo,hS1,hr1,hr16,hws,hsn,e1,ho1,ho2,hn0,x1,x2,x3,x4,z1,z2,z3,z4,a1,a2,a3,a4,c1,c2,c3,c4]
   exact zan (n-1) (by omega) ⟨i+1,st.nx+2,st.ep,m++[⟨pn,pg⟩],⟨pn,pg⟩,by omega,by simp [hm],hpi,by rw [hp]; cases zbz ⟨pn,pg⟩ (h.drop (i+1)) <;> simp,by simp [v0],by simp,by simp [v5],by simp,by omega,by simp,by simp <;> omega,by simp [hn0],by simp [hn0,ho1,ho2]⟩
 ·rw [List.drop_eq_nil_of_le (by omega),zbz] at hp
  simp only [Option.map_some,List.append_nil] at hp
  rw [hp] at hR'
  subst hR'
  simp [-getElem?_pos,zwu,v0,v4,v6,hlt,hSo]
theorem ye4 (m:List Cnd) (x:Cnd):zb5 m++[[iv x.f,iv x.b,iv x.a.n,iv x.a.g,iv x.z.n,iv x.z.g]]=zb5 (m++[x]):=by simp [zb5,cnd]
set_option maxHeartbeats 4000000 in
set_option maxRecDepth 4000 in
theorem yra (q:Bool) (H:List (List Sl)) (least:Int) (hH:H.length≤16) (hl : ∀ l∈H,l.length≤16) (hi : ∀ l∈H,∀ x∈l,slI x):RUN T zod [.sl 1 (rss q H),iv least]=some ([.own 6 (zb5 (zdp H least))],[]):=by
 obtain ⟨R,hR⟩ : ∃ R,R=zdp H least:=⟨_,rfl⟩
 have hR':R=(zcu least 0 H []).getD []:=hR
 rw [← hR]
 clear hR
 have hr0:zak 48 0=true:=by decide
 have hr1:zak 48 1=true:=by decide
 refine zah z5t rfl ?_
 simp [-getElem?_pos,zu7,zu8,hr0]
 refine za0 (fun n st => ∃ (i o e:Nat) (acc:List Cnd),i+n=H.length∧acc.length≤16*i∧zcu least i (H.drop i) acc=zcu least 0 H []∧st.V 1=iv least∧st.V 5 = .ref o none e 0 acc.length∧st.V 14 = .sl 1 (rss q H)∧st.V 15=iv H.length∧st.V 16=iv i∧o<st.nx∧st.S o=some (.row 6 (zb5 acc))) ?_ H.length _ ⟨0,0,0,[],by omega,by simp,by simp,by simp,by simp,by simp,by simp,by simp,by simp,by simp [zb5]⟩
 rintro n st ⟨i,o,ep,acc,hin,hacc,hF,v1,v5,v14,v15,v16,hox,hSo⟩
 obtain ⟨x1,x2,x3,x4⟩:=fr hox
 by_cases hlt:i<H.length
 ·obtain ⟨l,hx⟩ : ∃ x,H[i]?=some x:=⟨_,List.getElem?_eq_getElem hlt⟩
  have hx':=yci (q:=q) hx
  have hlm:=List.mem_of_getElem? hx
  have hws:=wS hlt (by omega:H.length≤9223372036854775807)
  have hll:=hl l hlm
  have e1:=yq8 l (by omega) (hi l hlm)
  obtain ⟨p1,p2,p3⟩:=z3p l
  rw [zre acc hx] at hF
  generalize zbj l=p at *
  obtain ⟨sums,pb⟩:=p
  simp only at e1 p1 p2 p3 hF
  cases pb with
  | false =>
   rw [if_neg (by simp)] at hF
   rw [← hF] at hR'
   subst hR'
   simp [-getElem?_pos,zu6,v1,v5,v14,v15,v16,hlt,hx',hSo,e1,x1,x2,x3,x4]
   simp [zb5]
  | true =>
   rw [if_pos rfl] at hF
   have p3:=p3 rfl
   simp [-getElem?_pos,zu6,v1,v5,v14,v15,v16,hlt,hx',hSo,e1,x1,x2,x3,x4]
   obtain ⟨tgt,htgt⟩ : ∃ t,t=zec i (zef sums) least 0 sums acc:=⟨_,rfl⟩
   rw [← htgt] at hF
   obtain ⟨p,hpe⟩ : ∃ p,p=st.nx:=⟨_,rfl⟩
   refine za0 (fun n' s => ∃ (b o' e':Nat) (acc':List Cnd),b+n'=sums.length∧acc'.length≤16*i+b∧zec i (zef sums) least b (sums.drop b) acc'=tgt∧s.V 1=iv least∧s.V 5 = .ref o' none e' 0 acc'.length∧s.V 6=iv i∧s.V 8 = .ref p none st.ep 0 sums.length∧s.V 10=iv b∧s.V 14 = .sl 1 (rss q H)∧s.V 15=iv H.length∧s.V 16=iv i∧¬ o'=p∧o'<s.nx∧p<s.nx∧s.S o'=some (.row 6 (zb5 acc'))∧s.S p=some (.row 2 (zbb sums))) ?_ sums.length _ ⟨0,o,ep,acc,by omega,by omega,by rw [htgt]; simp,by simp [v1],by simp [v5],by simp,by simp [hpe],by simp,by simp [v14],by simp [v15],by simp [v16],by omega,by simp; omega,by simp; omega,by simp [x1,x2,x3,x4,hSo],by simp [hpe]⟩
   clear v1 v5 v14 v15 v16 hox hSo x1 x2 x3 x4
   generalize st.ep=ep2
   rintro n' s ⟨b,o',e',acc',hbn,hacc',hB,v1,v5,v6,v8,v10,v14,v15,v16,hop,hox,hpx,hSo,hSp⟩
   obtain ⟨x1,x2,x3,x4⟩:=fr hox
   obtain ⟨z1,z2,z3,z4⟩:=fr hpx
   obtain ⟨a1,a2,a3,a4⟩:=fr (show o'<s.nx+1 by omega)
   obtain ⟨c1,c2,c3,c4⟩:=fr (show p<s.nx+1 by omega)
   have hpo : ¬ p=o':=fun e=>hop e.symm
   by_cases hb:b+1<sums.length
   ·obtain ⟨x,hx⟩ : ∃ x,sums[b]?=some x:=⟨_,List.getElem?_eq_getElem (by omega)⟩
    obtain ⟨y,hy⟩ : ∃ x,sums[sums.length-1]?=some x:=⟨_,List.getElem?_eq_getElem (by omega)⟩
    have hxs:=zkt hx
    have hys:=zkt hy
    have hly:=ycv hy
    have w1:IntKind.i64.wrap ((sums.length:Int)-1)=((sums.length-1:Nat):Int):=by rw [w64 (by omega) (by omega)]; omega
    have w2:=w64 (x:=(b:Int)+1) (by omega) (by omega)
    have k1:b<sums.length-1:=by omega
    have k2:b<sums.length:=by omega
    have k3:sums.length-1<sums.length:=by omega
    have hr48:zak 48 (acc'.length+1)=true:=by simp [zak]; omega
    have e2:=yq7 y x (p2 y (List.mem_of_getElem? hy)) (p2 x (List.mem_of_getElem? hx))
    rw [zrm acc' hx hb,hly] at hB
    generalize zc6 y x=d at *
    obtain ⟨⟨dn,dg⟩,db⟩:=d
    simp only [slc] at e2 hB
    cases db with
    | false =>
     rw [if_neg (by simp)] at hB
     rw [← hB] at hF
     simp only at hF
     rw [← hF] at hR'
     simp only [Option.getD_none] at hR'
     subst hR'
     simp [-getElem?_pos,zp5,v1,v5,v6,v8,v10,v14,v15,v16,hSo,hSp,hxs,hys,w1,k1,k2,k3,e2,hop,hpo,x1,x2,x3,x4,z1,z2,z3,z4]
     simp [zb5]
    | true =>
     rw [if_pos rfl] at hB
     by_cases g1:least≤x.n
     ·by_cases g2:least≤dn
      ·rw [if_pos ⟨g1,g2⟩] at hB
       have hsn:=ye4 acc' ⟨i,b,x,⟨dn,dg⟩⟩
       simp only at hsn
       simp [-getElem?_pos,zp5,v1,v5,v6,v8,v10,v14,v15,v16,hSo,hSp,hxs,hys,w1,w2,k1,k2,k3,e2,g1,g2,hr1,hr48,hsn,hop,hpo,x1,x2,x3,x4,z1,z2,z3,z4,a1,a2,a3,a4,c1,c2,c3,c4]
       refine zan (n'-1) (by omega) ⟨b+1,s.nx+2,s.ep,acc'++[⟨i,b,x,⟨dn,dg⟩⟩],by omega,by simp; omega,by rw [hly]; exact hB,by simp [v1],by simp,by simp [v6],by simp [v8],by simp,by simp [v14],by simp [v15],by simp [v16],by omega,by simp,by simp; omega,by simp,by simp [hop,hpo,x1,x2,x3,x4,z1,z2,z3,z4,hSp]⟩
      ·rw [if_neg (fun h=>g2 h.2)] at hB
       simp [-getElem?_pos,zp5,v1,v5,v6,v8,v10,v14,v15,v16,hSo,hSp,hxs,hys,w1,w2,k1,k2,k3,e2,g1,g2,hop,hpo,x1,x2,x3,x4,z1,z2,z3,z4]
       refine zan (n'-1) (by omega) ⟨b+1,o',e',acc',by omega,by omega,by rw [hly]; exact hB,by simp [v1],by simp [v5],by simp [v6],by simp [v8],by simp,by simp [v14],by simp [v15],by simp [v16],hop,by simp; omega,by simp; omega,by simp [x1,x2,x3,x4,hSo],by simp [z1,z2,z3,z4,hSp]⟩
     ·rw [if_neg (fun h=>g1 h.1)] at hB
      simp [-getElem?_pos,zp5,v1,v5,v6,v8,v10,v14,v15,v16,hSo,hSp,hxs,hys,w1,w2,k1,k2,k3,e2,g1,hop,hpo,x1,x2,x3,x4,z1,z2,z3,z4]
      refine zan (n'-1) (by omega) ⟨b+1,o',e',acc',by omega,by omega,by rw [hly]; exact hB,by simp [v1],by simp [v5],by simp [v6],by simp [v8],by simp,by simp [v14],by simp [v15],by simp [v16],hop,by simp; omega,by simp; omega,by simp [x1,x2,x3,x4,hSo],by simp [z1,z2,z3,z4,hSp]⟩
   ·rw [zim acc' hb] at hB
    rw [← hB] at hF
    simp only at hF
    have w1:IntKind.i64.wrap ((sums.length:Int)-1)=(sums.length:Int)-1:=w64 (by omega) (by omega)
    have k1 : ¬ (b:Int)<(sums.length:Int)-1:=by omega
    simp [-getElem?_pos,zp5,v8,v10,v16,hSp,w1,k1,hws]
    exact zan (n-1) (by omega) ⟨i+1,o',e',acc',by omega,by omega,hF,by simp [v1],by simp [v5],by simp [v14],by simp [v15],by simp,by simp [hox],by simp [hSo]⟩
 ·rw [List.drop_eq_nil_of_le (by omega),zcu] at hF
  rw [← hF] at hR'
  simp only [Option.getD_some] at hR'
  subst hR'
  simp [-getElem?_pos,zu6,v5,v15,v16,hlt,hSo]
set_option maxHeartbeats 4000000 in
set_option maxRecDepth 4000 in
theorem yrb (q:Bool) (H:List (List Sl)) (least:Int) (hH:H.length≤16) (hl : ∀ l∈H,l.length≤16) (hi : ∀ l∈H,∀ x∈l,slI x):RUN T zog [.sl 1 (rss q H),iv least]=some ([.own 6 (zb5 (zdp H least))],[]):=by
 obtain ⟨R,hR⟩ : ∃ R,R=zdp H least:=⟨_,rfl⟩
 have hR':R=(zcu least 0 H []).getD []:=hR
 rw [← hR]
 clear hR
 have hr0:zak 48 0=true:=by decide
 have hr1:zak 48 1=true:=by decide
 refine zah z5w rfl ?_
 simp [-getElem?_pos,zvd,zve,hr0]
 refine za0 (fun n st => ∃ (i o e:Nat) (acc:List Cnd),i+n=H.length∧acc.length≤16*i∧zcu least i (H.drop i) acc=zcu least 0 H []∧st.V 1=iv least∧st.V 5 = .ref o none e 0 acc.length∧st.V 0 = .sl 1 (rss q H)∧st.V 6=iv i∧o<st.nx∧st.S o=some (.row 6 (zb5 acc))) ?_ H.length _ ⟨0,0,0,[],by omega,by simp,by simp,by simp,by simp,by simp,by simp,by simp,by simp [zb5]⟩
 rintro n st ⟨i,o,ep,acc,hin,hacc,hF,v1,v5,v0,v6,hox,hSo⟩
 obtain ⟨x1,x2,x3,x4⟩:=fr hox
 by_cases hlt:i<H.length
 ·obtain ⟨l,hx⟩ : ∃ x,H[i]?=some x:=⟨_,List.getElem?_eq_getElem hlt⟩
  have hx':=yci (q:=q) hx
  have hlm:=List.mem_of_getElem? hx
  have hws:=wS hlt (by omega:H.length≤9223372036854775807)
  have hll:=hl l hlm
  have e1:=yq9 l (by omega) (hi l hlm)
  obtain ⟨p1,p2,p3⟩:=z3p l
  rw [zre acc hx] at hF
  generalize zbj l=p at *
  obtain ⟨sums,pb⟩:=p
  simp only at e1 p1 p2 p3 hF
  cases pb with
  | false =>
   rw [if_neg (by simp)] at hF
   rw [← hF] at hR'
   subst hR'
   simp [-getElem?_pos,zvc,v0,v1,v5,v6,hlt,hx',hSo,e1,hr0,x1,x2,x3,x4]
   simp [zb5]
  | true =>
   rw [if_pos rfl] at hF
   have p3:=p3 rfl
   simp [-getElem?_pos,zvc,v0,v1,v5,v6,hlt,hx',hSo,e1,hr0,x1,x2,x3,x4]
   obtain ⟨tgt,htgt⟩ : ∃ t,t=zec i (zef sums) least 0 sums acc:=⟨_,rfl⟩
   rw [← htgt] at hF
   obtain ⟨p,hpe⟩ : ∃ p,p=st.nx:=⟨_,rfl⟩
   refine za0 (fun n' s => ∃ (b o' e':Nat) (acc':List Cnd),b+n'=sums.length∧acc'.length≤16*i+b∧zec i (zef sums) least b (sums.drop b) acc'=tgt∧s.V 0 = .sl 1 (rss q H)∧s.V 1=iv least∧s.V 5 = .ref o' none e' 0 acc'.length∧s.V 6=iv i∧s.V 7 = .ref p none st.ep 0 sums.length∧s.V 9=iv b∧¬ o'=p∧o'<s.nx∧p<s.nx∧s.S o'=some (.row 6 (zb5 acc'))∧s.S p=some (.row 2 (zbb sums))) ?_ sums.length _ ⟨0,o,ep,acc,by omega,by omega,by rw [htgt]; simp,by simp [v0],by simp [v1],by simp [v5],by simp [v6],by simp [hpe],by simp,by omega,by simp; omega,by simp; omega,by simp [x1,x2,x3,x4,hSo],by simp [hpe]⟩
   clear v0 v1 v5 v6 hox hSo x1 x2 x3 x4
   generalize st.ep=ep2
   rintro n' s ⟨b,o',e',acc',hbn,hacc',hB,v0,v1,v5,v6,v7,v9,hop,hox,hpx,hSo,hSp⟩
   obtain ⟨x1,x2,x3,x4⟩:=fr hox
   obtain ⟨z1,z2,z3,z4⟩:=fr hpx
   obtain ⟨a1,a2,a3,a4⟩:=fr (show o'<s.nx+1 by omega)
   obtain ⟨c1,c2,c3,c4⟩:=fr (show p<s.nx+1 by omega)
   have hpo : ¬ p=o':=fun e=>hop e.symm
   by_cases hb:b+1<sums.length
   ·obtain ⟨x,hx⟩ : ∃ x,sums[b]?=some x:=⟨_,List.getElem?_eq_getElem (by omega)⟩
    obtain ⟨y,hy⟩ : ∃ x,sums[sums.length-1]?=some x:=⟨_,List.getElem?_eq_getElem (by omega)⟩
    have hxs:=zkt hx
    have hys:=zkt hy
    have hly:=ycv hy
    have w1:IntKind.i64.wrap ((sums.length:Int)-1)=((sums.length-1:Nat):Int):=by rw [w64 (by omega) (by omega)]; omega
    have w2:=w64 (x:=(b:Int)+1) (by omega) (by omega)
    have k1:(b:Int)+1<(sums.length:Int):=by omega
    have k2:b<sums.length:=by omega
    have k3:sums.length-1<sums.length:=by omega
    have hr48:zak 48 (acc'.length+1)=true:=by simp [zak]; omega
    have e2:=z9q y.n x.n (p2 y (List.mem_of_getElem? hy)).1 (p2 x (List.mem_of_getElem? hx)).1
    have e3:=z9q y.g x.g (p2 y (List.mem_of_getElem? hy)).2 (p2 x (List.mem_of_getElem? hx)).2
    rw [zrm acc' hx hb,hly] at hB
    unfold zc6 at hB
    generalize sbi y.n x.n=d at *
    generalize sbi y.g x.g=d' at *
    obtain ⟨dn,db⟩:=d
    obtain ⟨dg,db'⟩:=d'
    simp only at e2 e3 hB
    obtain ⟨dd,hdd⟩ : ∃ dd,dd=(db && db'):=⟨_,rfl⟩
    rw [← hdd] at hB
    cases dd with
    | false =>
     simp only [Bool.false_eq_true,if_false] at hB
     rw [← hB] at hF
     simp only at hF
     rw [← hF] at hR'
     simp only [Option.getD_none] at hR'
     subst hR'
     cases db with
     | false =>
      simp [-getElem?_pos,zmr,v0,v1,v5,v6,v7,v9,hSo,hSp,hxs,hys,w1,w2,k1,k2,k3,e2,e3,hr0,hop,hpo,x1,x2,x3,x4,z1,z2,z3,z4,a1,a2,a3,a4,c1,c2,c3,c4]
      simp [zb5]
     | true =>
      have hd2:db'=false:=by simpa using hdd.symm
      subst hd2
      simp [-getElem?_pos,zmr,v0,v1,v5,v6,v7,v9,hSo,hSp,hxs,hys,w1,w2,k1,k2,k3,e2,e3,hr0,hop,hpo,x1,x2,x3,x4,z1,z2,z3,z4,a1,a2,a3,a4,c1,c2,c3,c4]
      simp [zb5]
    | true =>
     obtain ⟨hd1,hd2⟩:db=true∧db'=true:=by simpa using hdd.symm
     subst hd1 hd2
     simp only [if_true] at hB
     by_cases g1:least≤x.n
     ·by_cases g2:least≤dn
      ·rw [if_pos ⟨g1,g2⟩] at hB
       have hsn:=ye4 acc' ⟨i,b,x,⟨dn,dg⟩⟩
       simp only at hsn
       simp [-getElem?_pos,zmr,v0,v1,v5,v6,v7,v9,hSo,hSp,hxs,hys,w1,w2,k1,k2,k3,e2,e3,hr0,hop,hpo,x1,x2,x3,x4,z1,z2,z3,z4,a1,a2,a3,a4,c1,c2,c3,c4,g1,g2,hr1,hr48,hsn]
       refine zan (n'-1) (by omega) ⟨b+1,s.nx+2,s.ep,acc'++[⟨i,b,x,⟨dn,dg⟩⟩],by omega,by simp; omega,by rw [hly]; exact hB,by simp [v0],by simp [v1],by simp,by simp [v6],by simp [v7],by simp,by omega,by simp,by simp; omega,by simp,by simp [hop,hpo,x1,x2,x3,x4,z1,z2,z3,z4,hSp]⟩
      ·rw [if_neg (fun h=>g2 h.2)] at hB
       simp [-getElem?_pos,zmr,v0,v1,v5,v6,v7,v9,hSo,hSp,hxs,hys,w1,w2,k1,k2,k3,e2,e3,hr0,hop,hpo,x1,x2,x3,x4,z1,z2,z3,z4,a1,a2,a3,a4,c1,c2,c3,c4,g1,g2]
       refine zan (n'-1) (by omega) ⟨b+1,o',e',acc',by omega,by omega,by rw [hly]; exact hB,by simp [v0],by simp [v1],by simp [v5],by simp [v6],by simp [v7],by simp,hop,by simp; omega,by simp; omega,by simp [x1,x2,x3,x4,hSo],by simp [z1,z2,z3,z4,hSp]⟩
     ·rw [if_neg (fun h=>g1 h.1)] at hB
      simp [-getElem?_pos,zmr,v0,v1,v5,v6,v7,v9,hSo,hSp,hxs,hys,w1,w2,k1,k2,k3,e2,e3,hr0,hop,hpo,x1,x2,x3,x4,z1,z2,z3,z4,a1,a2,a3,a4,c1,c2,c3,c4,g1]
      refine zan (n'-1) (by omega) ⟨b+1,o',e',acc',by omega,by omega,by rw [hly]; exact hB,by simp [v0],by simp [v1],by simp [v5],by simp [v6],by simp [v7],by simp,hop,by simp; omega,by simp; omega,by simp [x1,x2,x3,x4,hSo],by simp [z1,z2,z3,z4,hSp]⟩
   ·rw [zim acc' hb] at hB
    rw [← hB] at hF
    simp only at hF
    have w1:IntKind.i64.wrap ((sums.length:Int)-1)=(sums.length:Int)-1:=w64 (by omega) (by omega)
    have w2:=w64 (x:=(b:Int)+1) (by omega) (by omega)
    have k1 : ¬ (b:Int)+1<(sums.length:Int):=by omega
    simp [-getElem?_pos,zmr,v6,v7,v9,hSp,w2,k1,hws]
    exact zan (n-1) (by omega) ⟨i+1,o',e',acc',by omega,by omega,hF,by simp [v1],by simp [v5],by simp [v0],by simp,by simp [hox],by simp [hSo]⟩
 ·rw [List.drop_eq_nil_of_le (by omega),zcu] at hF
  rw [← hF] at hR'
  simp only [Option.getD_some] at hR'
  subst hR'
  simp [-getElem?_pos,zvc,v0,v5,v6,hlt,hSo]
def zb2 (c v:List (List Int)) (g:List Int) (cfg:Cfg) (rows:List Int) (b:Bd):Cnd×Bool:=if zd0 c v g cfg=true then (if (zbi c v g rows).2=true then zdo cfg b (zdp (zbi c v g rows).1 cfg.rw) else (zhr,false)) else (zhr,false)
theorem yhg {b g:List Int} : ∀ (rows:List Int) (h h':List Sl),(∀ x∈h,slI x)→zco b g rows h=some h'→∀ x∈h',slI x
 | [],h,h',hh,e=>by simp [zco] at e; subst e; exact hh
 | r::rs,h,h',hh,e=>by
  simp only [zco] at e
  split at e
  ·split at e
   ·rename_i s hs
    split at e
    ·refine yhg rs _ _ (fun x hx => ?_) e
     rcases List.mem_or_eq_of_mem_set hx with h1 | h1
     ·exact hh x h1
     ·subst h1
      obtain ⟨_,_,h3,_⟩:=zfx hs
      exact zk1 (hh _ (List.mem_of_getElem? h3))
    ·cases e
   ·cases e
  ·cases e
theorem yv6 (b g rows:List Int) (k:Int) : ∀ x∈(zcb b g rows k).1,slI x:=by
 unfold zcb
 split
 ·cases h:zco b g rows (List.replicate k.toNat ⟨0,0⟩) with
  | none=>simp
  | some h'=>exact yhg _ _ _ (fun x hx=>by rw [List.eq_of_mem_replicate hx]; exact z0j) h
 ·simp
theorem yf8 {g rows:List Int} : ∀ (c v:List (List Int)) (H:List (List Sl)),zbp g rows c v=some H→∀ l∈H,∀ x∈l,slI x
 | [],v,H,h=>by simp [zbp] at h; subst h; simp
 | x::c,[],H,h=>by simp [zbp] at h; subst h; simp
 | x::c,y::v,H,h=>by
  simp only [zbp] at h
  split at h
  ·simp only [Option.map_eq_some_iff] at h
   obtain ⟨H',h1,rfl⟩:=h
   intro l hl
   rcases List.mem_cons.mp hl with e | e
   ·subst e; exact yv6 _ _ _ _
   ·exact yf8 c v H' h1 l e
  ·cases h
theorem ydv (c v:List (List Int)) (g rows:List Int) : ∀ l∈(zbi c v g rows).1,∀ x∈l,slI x:=by
 unfold zbi
 split
 ·cases h:zbp g rows c v with
  | none=>simp
  | some H=>exact yf8 c v H h
 ·simp
theorem z0s (c v:List (List Int)) (g rows:List Int):(zbi c v g rows).1.length≤4:=by
 by_cases h:zdr c v=true
 ·have:=(znv c v g rows).1
  have:=z37 h
  omega
 ·unfold zbi
  rw [if_neg h]; simp
end Go.Pe
