/- What each function answers by the evaluator,and the law; for each answer its own conditions stand ahead of it. -/
import Derived.Test.YtadpenaldhkjcaaGreatK1
import Derived.Test.YtadpenaldhkjcaaGreatEvB2
import Derived.IntWalk
set_option linter.all false
namespace Go.Pe
open Go
theorem w64 {x:Int} (h1 : -9223372036854775808≤x) (h2:x≤9223372036854775807):IntKind.i64.wrap x=x:=IntWalk.i64_in x ⟨h1,h2⟩
@[simp] theorem y81 {x:Int} (h1 : -9223372036854775808≤x) (h2:x≤9223372036854775807):IntKind.i64.wrap x=x:=w64 h1 h2
structure Nd where
 f:Int
 c:Int
 l:Int
 r:Int
 v:Int
deriving DecidableEq
def nd (n:Nd):List PV:=[iv n.f,iv n.c,iv n.l,iv n.r,iv n.v]
@[simp] theorem zck (a b c:Int):RUN T zch [iv a,iv b,iv c]=some ([bv (decide (b≤a) && decide (a≤c))],[]):=by
 refine zag z8r rfl ?_
 simp [zw6,zw7]
 refine zd2 (fun h => ?_) (fun h => ?_) <;> simp [h]
@[simp] theorem za6 (a b c:Int):RUN T zbz [iv a,iv b,iv c]=some ([bv (decide (b≤a) && decide (a≤c))],[]):=by
 refine zag z8f rfl ?_
 simp [zwu,zwv]
 refine zd2 (fun h => ?_) (fun h => ?_) <;> simp [h]
def zj4 {α:Type} (p:α→Bool) (l:List α):Int:=match l.findIdx? p with
 | some i=>(i:Int)
 | none => -1
theorem yg7 {α:Type} {p:α→Bool} {l:List α} (h : ∀ (j:Nat) (x:α),j<l.length→l[j]?=some x→p x=false):zj4 p l = -1:=by
 unfold zj4
 have:l.findIdx? p=none:=by
  rw [List.findIdx?_eq_none_iff]
  intro x hx
  obtain ⟨j,hj⟩:=List.getElem?_of_mem hx
  exact h j x (List.getElem?_eq_some_iff.mp hj).1 hj
 rw [this]
theorem yj2 {α:Type} {p:α→Bool} {l:List α} {i:Nat} {x:α} (hi:l[i]?=some x) (hp:p x=true) (h : ∀ (j:Nat) (x:α),j<i→l[j]?=some x→p x=false):zj4 p l=i:=by
 unfold zj4
 have:l.findIdx? p=some i:=by
  rw [List.findIdx?_eq_some_iff_getElem]
  obtain ⟨h1,h2⟩:=List.getElem?_eq_some_iff.mp hi
  refine ⟨h1,by rw [h2]; exact hp,fun j hj => ?_⟩
  have:=h j l[j] hj (List.getElem?_eq_getElem (by omega))
  simp [this]
 rw [this]
theorem ygz {α:Type} {p:α→Bool} {l:List α} {i:Nat} {x:α} (h : ∀ (j:Nat) (x:α),j<i→l[j]?=some x→p x=false) (hi:l[i]?=some x) (hp:p x=false) : ∀ (j:Nat) (x:α),j<i+1→l[j]?=some x→p x=false:=by
 intro j y hj hy
 by_cases e:j=i
 ·subst e; rw [hi] at hy; cases hy; exact hp
 ·exact h j y (by omega) hy
def yiy (k:Int) (n:Nd):Bool := !decide (n.f = -1) && (decide (n.l=k) || decide (n.r=k))
def par (t:List Nd) (k:Int):Int:=zj4 (yiy k) t
theorem wS {i n:Nat} (h:i<n) (hn:n≤9223372036854775807):IntKind.i64.wrap ((i:Int)+1)=(i:Int)+1:=w64 (by omega) (by omega)
def zac (l:List Int):List (List PV):=l.map fun n=>[iv n]
@[simp] theorem y9n (l:List Int):(zac l).length=l.length:=by simp [zac]
theorem zbg {l:List Int} {i:Nat} {x:Int} (h:l[i]?=some x):(zac l)[i]?=some [iv x]:=by simp [zac,h]
@[simp] theorem qm3:zac []=[]:=rfl
theorem zve (x:Int) (l:List Int):zac (x::l)=[iv x]::zac l:=rfl
theorem ykn (l:List Int) (i:Nat) (x:Int):(zac l).set i [iv x]=zac (l.set i x):=by simp [zac,List.map_set]
theorem yz8 (l m:List Int):zac l++zac m=zac (l++m):=by simp [zac]
theorem zdd (l:List Int) (x:Int):zac l++[[iv x]]=zac (l++[x]):=by simp [zac]
theorem yjb (l:List Int):zd8 (zac l)=true:=by simp [zd8,zac]
def anc (t:List Nd):Nat→Int→Option (List Int)
 | 0,_=>none
 | n+1,k=>if par t k<0 then some [] else (anc t n (par t k)).map (par t k :: ·)
def way (t:List Nd) (k:Int):List Int:=if 0≤k∧k≤t.length-1 then match anc t 32 k with
  | some l=>(k::l).reverse
  | none=>[]
 else []
theorem zd0 {n:Nat} (h:n≤17592186044416):zak 8 n=true:=by simp [zak]; omega
def upto (k:Int) (n:Nat):List Int:=(List.range n).map fun (i:Nat)=>k+(i:Int)
@[simp] theorem qi9 (k:Int) (n:Nat):(upto k n).length=n:=by simp [upto]
theorem zeo {α:Type} {l:List α} {i:Nat} {x:α} (h:l[i]?=some x):l.drop i=x::l.drop (i+1):=by
 obtain ⟨h1,h2⟩:=List.getElem?_eq_some_iff.mp h
 rw [List.drop_eq_getElem_cons h1,h2]
def inI (n:Int):Prop := -9223372036854775808≤n∧n≤9223372036854775807
def box (t:List Nd) (f:Int):List Int→Int→Int→Int×Int
 | a::b::r,lo,hi=>match t[a.toNat]? with
  | none=>(lo,hi)
  | some x=>if x.f=f then (if x.l=b then box t f (b::r) lo (min hi x.c) else if x.c=9223372036854775807 then box t f (b::r) lo hi else box t f (b::r) (max lo (x.c+1)) hi) else box t f (b::r) lo hi
 | _,lo,hi=>(lo,hi)
def wfN (n:Nd):Prop:=inI n.f∧inI n.c∧inI n.l∧inI n.r∧inI n.v
theorem ytq {f:Nat} {p:Int→Bool} (l:List Int) (hl:l.length≤9223372036854775807) (hm:zad T f=[]) (hp : ∀ n∈l,RUN T f [iv n]=some ([bv (p n)],[])) :
  RUN T zmj [.sl 1 (zac l),.fn f []]=some ([iv (zj4 p l)],[]):=by
 refine zag z3v rfl ?_
 simp [zts,ztt]
 refine za4 (fun n st => ∃ i:Nat,i+n=l.length∧st.V 0 = .sl 1 (zac l)∧st.V 1 = .fn f []∧st.V 8=iv i∧st.V 7=iv l.length∧∀ (j:Nat) (x:Int),j<i→l[j]?=some x→p x=false) ?_ l.length _ ⟨0,by simp⟩
 rintro n st ⟨i,hi,h0,h1,h8,h7,hj⟩
 simp [z3m,h0,h1,h8,h7]
 refine zd2 (fun h => ?_) (fun h => ?_)
 ·simp at h
  obtain ⟨x,hx⟩ : ∃ x,l[i]?=some x:=⟨_,List.getElem?_eq_getElem h⟩
  have hw:=wS h hl
  have hx':=zbg hx
  have hpx:=hp x (List.mem_of_getElem? hx)
  simp [-getElem?_pos,h0,h1,h8,h7,hx',hw,hm,hpx,h]
  refine zd2 (fun b0 => ?_) (fun b0 => ?_) <;> (try simp at b0) <;> simp [-getElem?_pos,b0,h0,h1,h8,h7,hx',hw]
  all_goals first
   | exact (yj2 hx b0 hj).symm
   | exact zam (n-1) (by omega) ⟨i+1,by omega,by simp [h0],by simp [h1],by simp,by simp [h7],ygz hj hx b0⟩
 ·simp at h
  simp [h]
  exact (yg7 fun j x hl hx=>hj j x (by omega) hx).symm
theorem ydv {α:Type} {p:α→Bool} {l:List α}:decide (0≤zj4 p l)=l.any p:=by
 unfold zj4
 cases h:l.findIdx? p with
 | none =>
  rw [List.findIdx?_eq_none_iff] at h
  simp
  exact fun x hx=>h x hx
 | some i =>
  obtain ⟨h1,h2,_⟩:=List.findIdx?_eq_some_iff_getElem.mp h
  simp
  exact ⟨_,List.getElem_mem h1,h2⟩
theorem z3x {f:Nat} {p:Int→Bool} (l:List Int) (hl:l.length≤9223372036854775807) (hm:zad T f=[]) (hp : ∀ n∈l,RUN T f [iv n]=some ([bv (p n)],[])) :
  RUN T zim [.sl 1 (zac l),.fn f []]=some ([bv (l.any p)],[]):=by
 refine zag z3s rfl ?_
 have e:=ytq l hl hm hp
 simp [zs9,zta,e,ydv]
structure Cfg where
 ro:Int
 de:Int
 bi:Int
 la:Int
 rw:Int
 nu:Int
 dn:Int
 sg:List Int
def zai (n a b:Int):Bool:=decide (a≤n) && decide (n≤b)
def zcn (c:Cfg):Bool:=zai c.ro 1 8 && zai c.de 0 4 && zai c.bi 2 8 && zai c.la 1 100 && zai c.rw 1 20 && zai c.dn 1 1000 && zai c.nu 1 c.dn && decide ((c.sg.length:Int)≤4) && c.sg.all fun n=>zai n (-1) 1
@[simp] theorem y7u (n:Int):RUN T zpr [iv n]=some ([bv (zai n (-1) 1)],[]):=by
 refine zag z9o rfl ?_
 simp [zyg,zyh,zai]
@[simp] theorem ytr (n:Int):RUN T zmg [iv n]=some ([bv (!zai n (-1) 1)],[]):=by
 refine zag z9n rfl ?_
 simp [zye,zyf]
theorem zdr (a b c:Int):RUN T zch [iv a,iv b,iv c]=some ([bv (zai a b c)],[]):=zck a b c
theorem zbm (a b c:Int):RUN T zbz [iv a,iv b,iv c]=some ([bv (zai a b c)],[]):=za6 a b c
theorem ybx (c:Cfg) (hl:c.sg.length≤9223372036854775807):RUN T zl1 [.agg [iv c.ro,iv c.de,iv c.bi,iv c.la,iv c.rw,iv c.nu,iv c.dn,.sl 1 (zac c.sg)]]=some ([bv (zcn c)],[]):=by
 refine zag z8h rfl ?_
 have e:=z3x (f:=zmg) (p:=fun n => !zai n (-1) 1) c.sg hl (by simp) (fun n _=>ytr n)
 have e2 : ∀ l:List Int,(l.any fun n => !zai n (-1) 1) = !(l.all fun n=>zai n (-1) 1):=by intro l; induction l <;> simp_all
 rw [e2] at e
 simp [zwy,zwz,zdr,-zck]
 cases h0:zai c.ro 1 8 <;> cases h1:zai c.de 0 4 <;> simp [h0,h1,zdr,-zck]
 all_goals try (simp [zcn,h0,h1]; done)
 cases h2:zai c.bi 2 8 <;> cases h3:zai c.la 1 100 <;> simp [h2,h3,zdr,-zck]
 all_goals try (simp [zcn,h2,h3]; done)
 cases h4:zai c.rw 1 20 <;> cases h5:zai c.dn 1 1000 <;> simp [h4,h5,zdr,-zck]
 all_goals try (simp [zcn,h4,h5]; done)
 cases h6:zai c.nu 1 c.dn <;> simp [h6,zdr,-zck]
 all_goals try (simp [zcn,h6]; done)
 by_cases h7:(c.sg.length:Int)≤4
 ·simp [h7,e,zcn,h0,h1,h2,h3,h4,h5,h6]
 ·simp [h7,zcn]
theorem zr8 {m:Nat→List Bool} {R:zaj} {c:IC} {st:St} {Q:Ex→St→Prop} (h:W m R c st (Nx (fun s=>W m R (.loop c) s Q) Q ⟨⟩ ⟨⟩)):W m R (.loop c) st Q:=yvz ▸ h
theorem yts (a b c d e f g:Int) (x:PV) (sg:List (List PV)):RUN T zpu [.agg [iv a,iv b,iv c,iv d,iv e,iv f,iv g,.sl 1 sg]]=some ([.own 1 (zac [a,b,c,d,e])],[]):=by
 refine zag z9u rfl ?_
 simp [zyq,zyr,zac]
theorem zuf:RUN T zpv []=some ([.own 1 (zac [1,0,2,1,1])],[]):=by
 refine zag z9v rfl ?_
 simp [zys,zyt,zac]
theorem zug:RUN T zpw []=some ([.own 1 (zac [8,4,8,100,20])],[]):=by
 refine zag z9w rfl ?_
 simp [zyu,zyv,zac]
theorem yby (c:Cfg) (hl:c.sg.length≤9223372036854775807):RUN T zl3 [.agg [iv c.ro,iv c.de,iv c.bi,iv c.la,iv c.rw,iv c.nu,iv c.dn,.sl 1 (zac c.sg)]]=some ([bv (zcn c)],[]):=by
 refine zag z8m rfl ?_
 have e1:=yts c.ro c.de c.bi c.la c.rw c.nu c.dn .undef (zac c.sg)
 simp [zw2,zw3,e1]
 refine zr8 ?_
 simp [znh,zuf,zug,zbm,-za6,zve]
 cases h0:zai c.ro 1 8 <;> simp [h0]
 ·simp [zcn,h0]
 refine zr8 ?_
 simp [znh,zuf,zug,zbm,-za6,zve]
 cases h1:zai c.de 0 4 <;> simp [h1]
 ·simp [zcn,h1]
 refine zr8 ?_
 simp [znh,zuf,zug,zbm,-za6,zve]
 cases h2:zai c.bi 2 8 <;> simp [h2]
 ·simp [zcn,h2]
 refine zr8 ?_
 simp [znh,zuf,zug,zbm,-za6,zve]
 cases h3:zai c.la 1 100 <;> simp [h3]
 ·simp [zcn,h3]
 refine zr8 ?_
 simp [znh,zuf,zug,zbm,-za6,zve]
 cases h4:zai c.rw 1 20 <;> simp [h4]
 ·simp [zcn,h4]
 refine zr8 ?_
 simp [znh]
 refine za4 (fun n st => ∃ i:Nat,i+n=c.sg.length∧st.V 1 = .ptr 0 none 0 0 0∧st.V 5=iv i∧st.S 0=some (.box [iv c.ro,iv c.de,iv c.bi,iv c.la,iv c.rw,iv c.nu,iv c.dn,.sl 1 (zac c.sg)])∧∀ (j:Nat) (x:Int),j<i→c.sg[j]?=some x→zai x (-1) 1=true) ?_ c.sg.length _ ⟨0,by simp⟩
 rintro n st ⟨i,hi,h1',h5,hS,hj⟩
 simp [z7j,h1',h5,hS]
 refine zd2 (fun h => ?_) (fun h => ?_)
 ·simp at h
  obtain ⟨x,hx⟩ : ∃ x,c.sg[i]?=some x:=⟨_,List.getElem?_eq_getElem h⟩
  have hw:=wS h hl
  have hx':=zbg hx
  simp [-getElem?_pos,h1',h5,hS,hx',hw,h,zbm,-za6]
  cases hb:zai x (-1) 1 with
  | true =>
   simp [-getElem?_pos,h1',h5,hS,hw]
   refine zam (n-1) (by omega) ⟨i+1,by omega,by simp [h1'],by simp,by simp [hS],fun j y hj' hy => ?_⟩
   by_cases e:j=i
   ·subst e; rw [hx] at hy; cases hy; exact hb
   ·exact hj j y (by omega) hy
  | false =>
   simp [zcn]
   intros
   exact ⟨x,List.mem_of_getElem? hx,hb⟩
 ·simp at h
  have hall:(c.sg.all fun n=>zai n (-1) 1)=true:=by
   rw [List.all_eq_true]
   intro x hx
   obtain ⟨j,hj'⟩:=List.getElem?_of_mem hx
   exact hj j x (by have:=(List.getElem?_eq_some_iff.mp hj').1; omega) hj'
  simp [h1',hS,zbm,-za6]
  cases h5:zai c.dn 1 1000 <;> simp [h1',hS,h5,zbm,-za6]
  ·simp [zcn,h5]
  cases h6:zai c.nu 1 c.dn <;> simp [h1',hS,h6,zbm,-za6]
  ·simp [zcn,h6]
  simp [zcn,h0,h1,h2,h3,h4,h5,h6,hall]
def fdv (a b:Int):Int×Bool:=if b=0∨(b = -1∧a = -9223372036854775808) then (0,false) else (a.fdiv b,true)
theorem yg2 {a b:Int} (ha:inI a) (hb:b≠0) (h : ¬ (b = -1∧a = -9223372036854775808)) : -9223372036854775808≤a.tdiv b∧a.tdiv b≤9223372036854775807∧(b≠1 → -9223372036854775808≤a.tdiv b-1):=by
 obtain ⟨h1,h2⟩:=ha
 have h3:(a.tdiv b).natAbs=a.natAbs / b.natAbs:=Int.natAbs_tdiv a b
 have h4:a.natAbs / b.natAbs≤a.natAbs:=Nat.div_le_self _ _
 by_cases c:b=1
 ·subst c; simp; omega
 by_cases c2:b = -1
 ·subst c2; simp; omega
 have h5:a.natAbs / b.natAbs≤a.natAbs / 2:=Nat.div_le_div_left (by omega) (by omega)
 omega
theorem yf0 (a b:Int) (hb:b≠0):a.fdiv b=if a.tmod b≠0∧¬ (a<0↔b<0) then a.tdiv b-1 else a.tdiv b:=by
 rw [Int.fdiv_eq_tdiv]
 have hd:b ∣ a↔a.tmod b=0:=Int.dvd_iff_tmod_eq_zero
 by_cases c:b ∣ a
 ·rw [if_pos c,if_neg (by rw [hd.mp c]; simp)]; simp
 ·have hc:a.tmod b≠0:=fun e=>c (hd.mpr e)
  have ha:a≠0:=fun e=>c (by subst e; exact ⟨0,by simp⟩)
  rw [if_neg c]
  rcases Int.lt_or_gt_of_ne hb with s2 | s2
  ·rw [if_neg (by omega : ¬ 0≤b),if_neg (by omega : ¬ 0≤b),Int.sign_eq_neg_one_of_neg s2]
   by_cases s1:0≤a
   ·rw [if_pos s1,if_pos ⟨hc,by omega⟩]
   ·rw [if_neg s1,if_neg (fun h=>h.2 (by omega))]; omega
  ·rw [if_pos (by omega:0≤b),if_pos (by omega:0≤b),Int.sign_eq_one_of_pos s2]
   by_cases s1:0≤a
   ·rw [if_pos s1,if_neg (fun h=>h.2 (by omega))]; omega
   ·rw [if_neg s1,if_pos ⟨hc,by omega⟩]
theorem ytt (a b:Int) (ha:inI a):RUN T zpd [iv a,iv b]=some ([iv (fdv a b).1,bv (fdv a b).2],[]):=by
 refine zag z8z rfl ?_
 simp [zxi,zxj]
 by_cases h0:b=0
 ·subst h0; simp [fdv]
 by_cases hbad:b = -1∧a = -9223372036854775808
 ·obtain ⟨rfl,rfl⟩:=hbad; simp [fdv]
 have hr:=yg2 ha h0 hbad
 have hq:=w64 hr.1 hr.2.1
 have hf:=yf0 a b h0
 have e1:fdv a b=(a.fdiv b,true):=by unfold fdv; rw [if_neg (by simp [h0]; intro h; exact fun h2=>hbad ⟨h,h2⟩)]
 rw [e1]
 have hq2:a.tmod b≠0→IntKind.i64.wrap (a.tdiv b-1)=a.tdiv b-1:=fun h=>w64 (hr.2.2 (by rintro rfl; simp at h)) (by omega)
 have f0:=eq_false h0
 obtain ⟨p1,hp1⟩ : ∃ p,(b = -1)=p:=⟨_,rfl⟩
 obtain ⟨p2,hp2⟩ : ∃ p,(a = -9223372036854775808)=p:=⟨_,rfl⟩
 rw [hp1,hp2] at hbad
 by_cases c1:p1 <;> by_cases c2:p2
 ·exact (hbad ⟨c1,c2⟩).elim
 all_goals
  simp only [c1,c2] at hp1 hp2
  simp [f0,hp1,hp2,hq]
  by_cases d0:a.tmod b=0
  ·rw [if_neg (by simp [d0])] at hf
   simp [d0,hf]
  ·have hq3:=hq2 d0
   have d1:=eq_false d0
   by_cases d2:a<0 <;> by_cases d3:b<0
   all_goals
    simp only [d2,d3,ne_eq,d1,not_false_eq_true,iff_self,not_true_eq_false,and_false,if_false,iff_true,iff_false,and_true,if_true,true_iff,false_iff] at hf
    simp [d1,d2,d3,hq3,hf]
theorem ytu (a b:Int) (ha:inI a):RUN T zpy [iv a,iv b]=some ([iv (fdv a b).1,bv (fdv a b).2],[]):=by
 refine zag z91 rfl ?_
 simp [zy4,zy5]
 by_cases h0:b=0
 ·subst h0; simp [fdv]
 by_cases hbad:b = -1∧a = -9223372036854775808
 ·obtain ⟨rfl,rfl⟩:=hbad; simp [fdv]
 have hr:=yg2 ha h0 hbad
 have hq:=w64 hr.1 hr.2.1
 have hf:=yf0 a b h0
 have e1:fdv a b=(a.fdiv b,true):=by unfold fdv; rw [if_neg (by simp [h0]; intro h; exact fun h2=>hbad ⟨h,h2⟩)]
 rw [e1]
 have hq2:a.tmod b≠0→IntKind.i64.wrap (a.tdiv b-1)=a.tdiv b-1:=fun h=>w64 (hr.2.2 (by rintro rfl; simp at h)) (by omega)
 have f0:=eq_false h0
 obtain ⟨p1,hp1⟩ : ∃ p,(b = -1)=p:=⟨_,rfl⟩
 obtain ⟨p2,hp2⟩ : ∃ p,(a = -9223372036854775808)=p:=⟨_,rfl⟩
 rw [hp1,hp2] at hbad
 by_cases c1:p1 <;> by_cases c2:p2
 ·exact (hbad ⟨c1,c2⟩).elim
 all_goals
  simp only [c1,c2] at hp1 hp2
  simp [f0,hp1,hp2,hq]
  by_cases d0:a.tmod b=0
  ·rw [if_neg (by simp [d0])] at hf
   simp [d0,hf]
  ·have hq3:=hq2 d0
   have d1:=eq_false d0
   by_cases d2:a<0 <;> by_cases d3:b<0
   all_goals
    simp only [d2,d3,ne_eq,d1,not_false_eq_true,iff_self,not_true_eq_false,and_false,if_false,iff_true,iff_false,and_true,if_true,true_iff,false_iff] at hf
    simp [d1,d2,d3,hq3,hf]
abbrev zf4 (c:Cfg):PV := .agg [iv c.ro,iv c.de,iv c.bi,iv c.la,iv c.rw,iv c.nu,iv c.dn,.sl 1 (zac c.sg)]
abbrev zkh (c:Cfg):PV := .agg [iv c.ro,iv c.de,iv c.bi,iv c.la,iv c.rw,iv c.nu,iv c.dn,.own 1 (zac c.sg)]
theorem zax {n a b:Int}:zai n a b=true↔a≤n∧n≤b:=by simp [zai]
def zfn (v:Int):Bool:=zai v (-1099511627776) 1099511627776
@[simp] theorem ybz (v:Int):RUN T zmn [iv v]=some ([bv (zfn v)],[]):=by
 refine zag z94 rfl ?_
 simp [zy8,zy9,zfn,zai]
@[simp] theorem yb0 (v:Int):RUN T zmr [iv v]=some ([bv (zfn v)],[]):=by
 refine zag yap rfl ?_
 simp [zz2,zz3,zfn,zai]
def shr (v:Int) (c:Cfg):Int×Bool:=if zcn c && zfn v then (( v*c.nu).fdiv c.dn,true) else (0,false)
theorem yh1 (a b c d e a' b' c' d' e':Int):eqP [.i .i64,.i .i64,.i .i64,.i .i64,.i .i64] (.agg [iv a,iv b,iv c,iv d,iv e]) (.agg [iv a',iv b',iv c',iv d',iv e'])=some (decide (a=a'∧b=b'∧c=c'∧d=d'∧e=e')):=by
 simp only [eqP,zb6,y2l,Option.bind_some]
 by_cases h1:a=a' <;> by_cases h2:b=b' <;> by_cases h3:c=c' <;> by_cases h4:d=d' <;> by_cases h5:e=e' <;> simp [h1,h2,h3,h4,h5]
def zbr (n:Int):Bool:=zai n (-2147483647) 2147483647
@[simp] theorem znu (v:Int):RUN T zkz [iv v]=some ([bv (zbr v)],[]):=by
 refine zag yan rfl ?_
 simp [zzy,zzz,zbr,zai]
@[simp] theorem y7v (v:Int):RUN T zqk [iv v]=some ([bv (zbr v)],[]):=by
 refine zag ybb rfl ?_
 simp [z0t,z0u,zbr,zai]
structure yxy (F:Int) (x:Nd) (i n m:Int):Prop where
 lo:n≤x.l
 lt:i<x.l
 r:x.r=x.l+1
 hi:x.r<m
 f:0≤x.f∧x.f≤F-1
 c:zbr x.c=true
 v:x.v=0
structure Shaped (t:List Nd) (F:Int):Prop where
 leaf : ∀ (j:Nat) (x:Nd),t[j]?=some x→x.f = -1→x.c=0∧x.l=0∧x.r=0∧zfn x.v=true
 inner : ∀ (j:Nat) (x:Nd),t[j]?=some x→x.f ≠ -1→yxy F x j 1 t.length
 ord : ∀ (j j':Nat) (x y:Nd),j<j'→t[j]?=some x→t[j']?=some y→x.f ≠ -1→y.f ≠ -1→x.r<y.l
 cover : ∀ k:Int,1≤k→k<t.length→∃ (j:Nat) (x:Nd),t[j]?=some x∧x.f ≠ -1∧(x.l=k∨x.r=k)
 pos:1≤t.length
def adj (p:Int→Int→Bool):List Int→Bool
 | a::b::r=>p a b || adj p (b::r)
 | _=>false
theorem z46 {p:Int→Int→Bool} : ∀ {l:List Int},adj p l=true↔∃ (i:Nat) (a b:Int),l[i]?=some a∧l[i+1]?=some b∧p a b=true
 | []=>by simp [adj]
 | [x]=>by simp [adj]
 | x::y::r=>by
  simp only [adj,Bool.or_eq_true]
  rw [z46 (l:=y::r)]
  constructor
  ·rintro (h | ⟨i,a,b,h1,h2,h3⟩)
   ·exact ⟨0,x,y,rfl,rfl,h⟩
   ·exact ⟨i+1,a,b,by simpa using h1,by simpa using h2,h3⟩
  ·rintro ⟨i,a,b,h1,h2,h3⟩
   cases i with
   | zero=>simp at h1 h2; subst h1; subst h2; exact .inl h3
   | succ i=>exact .inr ⟨i,a,b,by simpa using h1,by simpa using h2,h3⟩
theorem zsk {α:Type} {P:Nat→α→Prop} {l:List α} {i:Nat} {x:α} (h : ∀ (j:Nat) (x:α),j<i→l[j]?=some x→P j x) (hi:l[i]?=some x) (hp:P i x) : ∀ (j:Nat) (x:α),j<i+1→l[j]?=some x→P j x:=by
 intro j y hj hy
 by_cases e:j=i
 ·subst e; rw [hi] at hy; cases hy; exact hp
 ·exact h j y (by omega) hy
def cel (q:Bool) (l:List Int):PV:=if q then .own 1 (zac l) else .sl 1 (zac l)
@[simp] theorem qdy (q:Bool) (l:List Int):fz (cel q l) = .sl 1 (zac l):=by cases q <;> simp [cel]
def rws (q:Bool) (L:List (List Int)):List (List PV):=L.map fun l=>[cel q l]
@[simp] theorem qfz (q:Bool) (L:List (List Int)):(rws q L).length=L.length:=by simp [rws]
theorem zd1 {q:Bool} {L:List (List Int)} {i:Nat} {l:List Int} (h:L[i]?=some l):(rws q L)[i]?=some [cel q l]:=by simp [rws,h]
@[simp] theorem y7w (n:Int):RUN T zmz [iv n]=some ([bv (!zbr n)],[]):=by
 refine zag yba rfl ?_
 simp [z0r,z0s]
theorem ytv (l:List Int) (hl:l.length≤9223372036854775807):RUN T zqa [.sl 1 (zac l)]=some ([bv (l.all zbr)],[]):=by
 refine zag yao rfl ?_
 have e:=z3x (f:=zmz) (p:=fun n => !zbr n) l hl (by simp) (fun n _=>by simp)
 simp [zz0,zz1,e]
 simp [List.any_eq_not_all_not]
def zf6 (l:List Int):Bool := !adj (fun a b=>decide (b≤a)) l && l.all zbr && decide ((l.length:Int)≤7)
theorem yih {p:Int→Int→Bool} {l:List Int} (h : ∀ (j:Nat) (a b:Int),l[j]?=some a→l[j+1]?=some b→p a b=false):adj p l=false:=by
 cases e:adj p l with
 | false=>rfl
 | true =>
  obtain ⟨j,a,b,h1,h2,h3⟩:=z46.mp e
  rw [h j a b h1 h2] at h3; cases h3
theorem yii {p:Int→Int→Bool} {l:List Int} {j:Nat} {a b:Int} (h1:l[j]?=some a) (h2:l[j+1]?=some b) (h3:p a b=true):adj p l=true:=z46.mpr ⟨j,a,b,h1,h2,h3⟩
theorem zur {l:List Int} {p:Int→Bool} {j:Nat} {a:Int} (h1:l[j]?=some a) (h2:p a=false):l.all p=false:=by
 cases e:l.all p with
 | false=>rfl
 | true=>rw [List.all_eq_true.mp e a (List.mem_of_getElem? h1)] at h2; cases h2
theorem zu5 {l:List Int} {p:Int→Bool} (h : ∀ (j:Nat) (a:Int),j<l.length→l[j]?=some a→p a=true):l.all p=true:=by
 rw [List.all_eq_true]
 intro x hx
 obtain ⟨j,hj⟩:=List.getElem?_of_mem hx
 exact h j x (List.getElem?_eq_some_iff.mp hj).1 hj
theorem ytw (l:List Int) (hl:l.length≤9223372036854775807):RUN T zpx [.sl 1 (zac l)]=some ([bv (zf6 l)],[]):=by
 refine zag z9x rfl ?_
 have hd:=ytv l hl
 simp [zyw,zyx]
 refine za4 (fun n st => ∃ i:Nat,i+n=l.length+1∧1≤i∧st.V 0 = .sl 1 (zac l)∧st.V 3=iv i∧∀ (j:Nat) (a b:Int),j+1<i→l[j]?=some a→l[j+1]?=some b→decide (b≤a)=false) ?_ l.length _ ⟨1,by omega,by omega,by simp,by simp,fun j a b h=>by omega⟩
 rintro n st ⟨i,hi,h1,v0,v3,hj⟩
 simp [z7n,v0,v3]
 refine zd2 (fun h => ?_) (fun h => ?_)
 ·simp at h
  obtain ⟨k,rfl⟩ : ∃ k,i=k+1:=⟨i-1,by omega⟩
  obtain ⟨a,ha⟩ : ∃ a,l[k]?=some a:=⟨_,List.getElem?_eq_getElem (by omega)⟩
  obtain ⟨b,hb⟩ : ∃ b,l[k+1]?=some b:=⟨_,List.getElem?_eq_getElem h⟩
  have ha':=zbg ha
  have hb':=zbg hb
  have hw:IntKind.i64.wrap ((k:Int)+1+1)=(k:Int)+1+1:=w64 (by omega) (by omega)
  have hw1:IntKind.i64.wrap (k:Int)=k:=w64 (by omega) (by omega)
  have hkl:k<l.length:=by omega
  simp [-getElem?_pos,v0,v3,ha',hb',hw1,h,hkl]
  refine zd2 (fun h2 => ?_) (fun h2 => ?_)
  ·simp at h2
   have:zf6 l=false:=by unfold zf6; rw [yii ha hb (by simpa using h2)]; rfl
   simp [this]
  ·simp at h2
   simp [-getElem?_pos,v0,v3,hw]
   refine zam (n-1) (by omega) ⟨k+2,by omega,by omega,by simp [v0],by simp; omega,fun j x y hjk hx hy => ?_⟩
   by_cases e:j=k
   ·subst e; rw [ha] at hx; rw [hb] at hy; cases hx; cases hy; simp; omega
   ·exact hj j x y (by omega) hx hy
 ·simp at h
  have e:adj (fun a b=>decide (b≤a)) l=false:=yih fun j a b h1 h2=>hj j a b (by have:=(List.getElem?_eq_some_iff.mp h2).1; omega) h1 h2
  unfold zf6
  rw [e]
  by_cases c:(l.length:Int)≤7
  ·simp [v0,hd,c]
  ·simp [v0,c]
theorem ytx (l:List Int) (hl:l.length≤9223372036854775807):RUN T zpt [.sl 1 (zac l)]=some ([bv (zf6 l)],[]):=by
 refine zag z9t rfl ?_
 simp [zyo,zyp]
 refine za4 (fun n st => ∃ i:Nat,i+n=l.length∧st.V 0 = .sl 1 (zac l)∧st.V 3=iv i∧(∀ (j:Nat) (a:Int),j<i→l[j]?=some a→zbr a=true)∧∀ (j:Nat) (a b:Int),j+1<i→l[j]?=some a→l[j+1]?=some b→decide (b≤a)=false) ?_ l.length _ ⟨0,by simp⟩
 rintro n st ⟨i,hi,v0,v3,hd,hj⟩
 simp [z7m,v0,v3]
 refine zd2 (fun h => ?_) (fun h => ?_)
 ·simp at h
  obtain ⟨b,hb⟩ : ∃ b,l[i]?=some b:=⟨_,List.getElem?_eq_getElem h⟩
  have hb':=zbg hb
  have hw:=wS h hl
  rcases Bool.eq_false_or_eq_true (zbr b) with d | d
  ·have hd':=zsk (P:=fun _ a=>zbr a=true) hd hb d
   rcases i with _ | k
   ·simp [-getElem?_pos,v0,v3,hb',d,h,hw]
    exact zam (n-1) (by omega) ⟨1,by omega,by simp [v0],by simp,by simpa using hd',fun j x y hjk hx hy=>by omega⟩
   ·obtain ⟨a,ha⟩ : ∃ a,l[k]?=some a:=⟨_,List.getElem?_eq_getElem (by omega)⟩
    have ha':=zbg ha
    have hw:IntKind.i64.wrap ((k:Int)+1+1)=(k:Int)+1+1:=w64 (by omega) (by omega)
    have hw1:IntKind.i64.wrap (k:Int)=k:=w64 (by omega) (by omega)
    have hkl:k<l.length:=by omega
    have hk0:(0:Int)<((k+1:Nat):Int):=by omega
    rcases Classical.propComplete (b≤a) with c | c
    ·have:zf6 l=false:=by unfold zf6; rw [yii ha hb (by simp [c])]; rfl
     simp [-getElem?_pos,v0,v3,ha',hb',d,h,hw,hw1,hkl,hk0,c,this]
    ·simp [-getElem?_pos,v0,v3,ha',hb',d,h,hw,hw1,hkl,hk0,c]
     refine zam (n-1) (by omega) ⟨k+2,by omega,by simp [v0],by simp; omega,hd',fun j x y hjk hx hy => ?_⟩
     by_cases e:j=k
     ·subst e; rw [ha] at hx; rw [hb] at hy; cases hx; cases hy; simp [c]
     ·exact hj j x y (by omega) hx hy
  ·have:zf6 l=false:=by unfold zf6; rw [zur hb d]; simp
   simp [-getElem?_pos,v0,v3,hb',d,h,this]
 ·simp at h
  have e:adj (fun a b=>decide (b≤a)) l=false:=yih fun j a b h1 h2=>hj j a b (by have:=(List.getElem?_eq_some_iff.mp h2).1; omega) h1 h2
  have e2:l.all zbr=true:=zu5 fun j a h1 h2=>hd j a (by omega) h2
  unfold zf6
  rw [e,e2]
  simp [v0]
def zcl:List (List Int)→Nat
 | []=>0
 | l::_=>l.length
theorem z3y (q:Bool) (c v:List (List Int)):RUN T zi6 [.agg [.sl 1 (rws q c),.sl 1 (rws q v)]]=some ([iv (zcl v)],[]):=by
 refine zag z8n rfl ?_
 cases v with
 | nil=>simp [zs5,zs6,zcl]
 | cons l L =>
  have h:rws q (l::L)=[cel q l]::rws q L:=rfl
  have h0:((L.length:Int)+1=0)=False:=eq_false (by omega)
  simp [h0,zs5,zs6,zcl,h]
theorem z1l (q:Bool) (c v:List (List Int)):RUN T zil [.agg [.sl 1 (rws q c),.sl 1 (rws q v)]]=some ([iv (zcl v)],[]):=by
 refine zag z8p rfl ?_
 cases v with
 | nil=>simp [zs7,zs8,zcl]
 | cons l L =>
  have h:rws q (l::L)=[cel q l]::rws q L:=rfl
  have h0:((L.length:Int)+1=0)=False:=eq_false (by omega)
  simp [h0,zs7,zs8,zcl,h]
theorem yty {f:Nat} {c:PV} {p:Int→Bool} (l:List Int) (hl:l.length≤9223372036854775807) (hm:zad T f=[]) (hp : ∀ n∈l,RUN T f [iv n,.fptr [c] 0]=some ([bv (p n)],[])) :
  RUN T zmj [.sl 1 (zac l),.fn f [.fptr [c] 0]]=some ([iv (zj4 p l)],[]):=by
 refine zag z3v rfl ?_
 simp [zts,ztt]
 refine za4 (fun n st => ∃ i:Nat,i+n=l.length∧st.V 0 = .sl 1 (zac l)∧st.V 1 = .fn f [.fptr [c] 0]∧st.V 8=iv i∧st.V 7=iv l.length∧∀ (j:Nat) (x:Int),j<i→l[j]?=some x→p x=false) ?_ l.length _ ⟨0,by simp⟩
 rintro n st ⟨i,hi,h0,h1,h8,h7,hj⟩
 simp [z3m,h0,h1,h8,h7]
 refine zd2 (fun h => ?_) (fun h => ?_)
 ·simp at h
  obtain ⟨x,hx⟩ : ∃ x,l[i]?=some x:=⟨_,List.getElem?_eq_getElem h⟩
  have hw:=wS h hl
  have hx':=zbg hx
  have hpx:=hp x (List.mem_of_getElem? hx)
  simp [-getElem?_pos,h0,h1,h8,h7,hx',hw,hm,hpx,h]
  refine zd2 (fun b0 => ?_) (fun b0 => ?_) <;> (try simp at b0) <;> simp [-getElem?_pos,b0,h0,h1,h8,h7,hx',hw]
  all_goals first
   | exact (yj2 hx b0 hj).symm
   | exact zam (n-1) (by omega) ⟨i+1,by omega,by simp [h0],by simp [h1],by simp,by simp [h7],ygz hj hx b0⟩
 ·simp at h
  simp [h]
  exact (yg7 fun j x hl hx=>hj j x (by omega) hx).symm
theorem ytz {f:Nat} {c:PV} {p:Int→Bool} (l:List Int) (hl:l.length≤9223372036854775807) (hm:zad T f=[]) (hp : ∀ n∈l,RUN T f [iv n,.fptr [c] 0]=some ([bv (p n)],[])) :
  RUN T zim [.sl 1 (zac l),.fn f [.fptr [c] 0]]=some ([bv (l.any p)],[]):=by
 refine zag z3s rfl ?_
 have e:=yty l hl hm hp
 simp [zs9,zta,e,ydv]
@[simp] theorem y7x (n:Int) (a:List Int):RUN T zmi [iv n,.fptr [.sl 1 (zac a)] 0]=some ([bv (!zai n 0 a.length)],[]):=by
 refine zag z9y rfl ?_
 simp [zyy,zyz,zdr,-zck]
theorem yeu {s:St} {d:Option Dst} {op:IOp} {g:Opd} {v:Bool} {x:PV}:(yv s ⟨d,op,some (g,v)⟩=some x)=(Ob' (zhz v (g.get s)) fun t=>Br t (WI (fun _=>[]) (fun _ _=>none) op s (fun y _=>y=x)) (PV.v Go.undef=x)):=by
 simp only [yv,ye8,WI,Ob',Br,Option.map_eq_some_iff,Option.bind_eq_some_iff,eq_iff_iff]
 constructor
 ·rintro ⟨⟨y,s'⟩,⟨t,h1,h2⟩,h3⟩
  refine ⟨t,h1,fun ht => ?_,fun ht => ?_⟩ <;> subst ht
  ·exact ⟨y,s',by simpa using h2,h3⟩
  ·simp at h2; obtain ⟨rfl,rfl⟩:=h2; exact h3
 ·rintro ⟨t,h1,h2,h3⟩
  cases t with
  | true=>obtain ⟨y,s',h4,h5⟩:=h2 rfl; exact ⟨(y,s'),⟨true,h1,by simpa using h4⟩,h5⟩
  | false=>exact ⟨_,⟨false,h1,rfl⟩,h3 rfl⟩
@[simp] theorem y8m {s:St} {d:Option Dst} {op:IOp} {g:Opd} {v:Bool} {x:PV} {n:Nat} {r:List (zab×PV×Nat)}:zci s ((⟨d,op,some (g,v)⟩,x,n+1)::r)=((Ob' (zhz v (g.get s)) fun t=>Br t (WI (fun _=>[]) (fun _ _=>none) op s (fun y _=>y=x)) (PV.v Go.undef=x))∧zci s r):=by
 simp only [zci,yeu]
@[simp] theorem qel {V E:Nat→PV} {d:Option Dst} {op:IOp} {g:Opd} {v:Bool} {x:PV} {n:Nat} {s:St} {ms:List St}:za3 V E ⟨d,op,some (g,v)⟩ x (n+1) (s::ms)=((Ob' (zhz v (g.get { s with V:=V,E:=E })) fun t=>Br t (WI (fun _=>[]) (fun _ _=>none) op { s with V:=V,E:=E } (fun y _=>y=x)) (PV.v Go.undef=x))∧za3 V E ⟨d,op,some (g,v)⟩ x n ms):=by
 simp only [za3,yeu]
def zft (c v:List (List Int)) (f:Nat):Bool:=match c[f]?,v[f]? with
 | some a,some b=>zf6 a && decide ((b.length:Int)=zcl v) && b.all fun x=>zai x 0 a.length
 | _,_=>true
def zdl (c v:List (List Int)):Bool:=zai c.length 1 4 && decide ((v.length:Int)=c.length) && zai (zcl v) 1 40 && (List.range c.length).all (zft c v)
theorem yj5 {c v:List (List Int)} (h1:zai c.length 1 4=true) (h2:(v.length:Int)=c.length) (h3:zai (zcl v) 1 40=true):zdl c v=(List.range c.length).all (zft c v):=by
 simp [zdl,h1,h2,h3]
theorem z1r {p:Nat→Bool} {n:Nat} (h : ∀ i,i<n→p i=true):(List.range n).all p=true:=by
 rw [List.all_eq_true]
 intro x hx
 exact h x (by simpa using hx)
theorem ziq {p:Nat→Bool} {n i:Nat} (hi:i<n) (h:p i=false):(List.range n).all p=false:=by
 cases e:(List.range n).all p with
 | false=>rfl
 | true=>rw [List.all_eq_true.mp e i (by simpa using hi)] at h; cases h
theorem ye4 {c v:List (List Int)} {f:Nat} {a b:List Int} (ha:c[f]?=some a) (hb:v[f]?=some b):zft c v f=(zf6 a && decide ((b.length:Int)=zcl v) && b.all fun x=>zai x 0 a.length):=by
 simp [zft,ha,hb]
theorem zr0 {P:Nat→Prop} {i:Nat} (h : ∀ j,j<i→P j) (hi:P i) : ∀ j,j<i+1→P j:=by
 intro j hj
 by_cases e:j=i
 ·subst e; exact hi
 ·exact h j (by omega)
set_option maxHeartbeats 1000000 in
theorem yb1 (q:Bool) (c v:List (List Int)) (hc : ∀ l∈c,l.length≤9223372036854775807) (hv : ∀ l∈v,l.length≤9223372036854775807):RUN T zl4 [.agg [.sl 1 (rws q c),.sl 1 (rws q v)]]=some ([bv (zdl c v)],[]):=by
 refine zag z8o rfl ?_
 have hR:=z1l q c v
 by_cases h1:zai c.length 1 4=true
 case neg=>simp [zni,znj,zdr,-zck,h1,zdl]
 by_cases h2:(v.length:Int)=c.length
 case neg=>simp [zni,znj,zdr,-zck,h1,h2,zdl]
 by_cases h3:zai (zcl v) 1 40=true
 case neg=>simp [zni,znj,zdr,-zck,h1,h2,h3,hR,zdl]
 have h1':=zax.mp h1
 rw [yj5 h1 h2 h3]
 simp [zni,znj,zdr,-zck,h1,h2,h3,hR]
 refine za4 (fun n st => ∃ i:Nat,i+n=c.length∧(∀ j,j<i→zft c v j=true)∧st.V 1 = .ptr 0 none 0 0 0∧st.V 26 = .sl 1 (rws q c)∧st.V 27=iv c.length∧st.V 28=iv i∧0<st.nx∧st.S 0=some (.box [.sl 1 (rws q c),.sl 1 (rws q v)])) ?_ c.length _ ⟨0,by simp⟩
 rintro n st ⟨i,hi,hk,v1,v26,v27,v28,hnx,hS⟩
 simp [z7k,v26,v27,v28]
 have z:=fr hnx
 refine zd2 (fun h => ?_) (fun h => ?_)
 ·simp at h
  obtain ⟨a,ha⟩ : ∃ a,c[i]?=some a:=⟨_,List.getElem?_eq_getElem h⟩
  obtain ⟨b,hb⟩ : ∃ b,v[i]?=some b:=⟨_,List.getElem?_eq_getElem (by omega)⟩
  have ha':=zd1 (q:=q) ha
  have hb':=zd1 (q:=q) hb
  have hal:=hc a (List.mem_of_getElem? ha)
  have hbl:=hv b (List.mem_of_getElem? hb)
  have hC:=ytw a hal
  have hF:=ytz (f:=zmi) (c := .sl 1 (zac a)) (p:=fun n => !zai n 0 a.length) b hbl (by simp) (fun n _=>by simp)
  have hw:=wS h (by omega:c.length≤9223372036854775807)
  have hiv:i<v.length:=by omega
  have hfe:=ye4 ha hb
  by_cases d1:zf6 a=true
  ·rcases Classical.propComplete ((b.length:Int)=zcl v) with d2 | d2
   ·by_cases d3:(b.all fun x=>zai x 0 a.length)=true
    ·have d3':(b.any fun n => !zai n 0 a.length)=false:=by simpa [List.any_eq_not_all_not] using d3
     simp [-getElem?_pos,v1,v26,v27,v28,hS,z,ha',hb',hC,hF,hR,hw,h,hiv,d1,d2,d3']
     exact zam (n-1) (by omega) ⟨i+1,by omega,zr0 hk (by rw [hfe,d1,d3]; simp [d2]),by simp [v1],by simp [v26],by simp [v27],by simp,by simp,by simp [z,hS]⟩
    ·have d3':(b.any fun n => !zai n 0 a.length)=true:=by simpa [List.any_eq_not_all_not] using d3
     have no:=ziq h (by rw [hfe,d1]; simp [d3]:zft c v i=false)
     simp [-getElem?_pos,v1,v26,v27,v28,hS,z,ha',hb',hC,hF,hR,hw,h,hiv,d1,d2,d3',no]
   ·have no:=ziq h (by rw [hfe,d1]; simp [d2]:zft c v i=false)
    simp [-getElem?_pos,v1,v26,v27,v28,hS,z,ha',hb',hC,hF,hR,hw,h,hiv,d1,d2,no]
  ·have no:=ziq h (by rw [hfe]; simp [d1]:zft c v i=false)
   simp [-getElem?_pos,v1,v26,v27,v28,hS,z,ha',hb',hC,hF,hR,hw,h,hiv,d1,no]
 ·simp at h
  have:=z1r (p:=zft c v) (n:=c.length) fun j hj=>hk j (by omega)
  simp [this]
set_option maxHeartbeats 1000000 in
theorem yb2 (q:Bool) (c v:List (List Int)) (hc : ∀ l∈c,l.length≤9223372036854775807) (hv : ∀ l∈v,l.length≤9223372036854775807):RUN T zl2 [.agg [.sl 1 (rws q c),.sl 1 (rws q v)]]=some ([bv (zdl c v)],[]):=by
 refine zag z8l rfl ?_
 have hR:=z3y q c v
 by_cases h1:zai c.length 1 4=true
 case neg=>simp [znf,zng,zbm,-za6,h1,zdl]
 by_cases h2:(v.length:Int)=c.length
 case neg=>simp [znf,zng,zbm,-za6,h1,h2,zdl]
 by_cases h3:zai (zcl v) 1 40=true
 case neg=>simp [znf,zng,zbm,-za6,h1,h2,h3,hR,zdl]
 have h1':=zax.mp h1
 rw [yj5 h1 h2 h3]
 simp [znf,zng,zbm,-za6,h1,h2,h3,hR]
 refine za4 (fun n st => ∃ i:Nat,i+n=c.length∧(∀ j,j<i→zft c v j=true)∧st.V 1 = .ptr 0 none 0 0 0∧st.V 3=iv i∧0<st.nx∧st.S 0=some (.box [.sl 1 (rws q c),.sl 1 (rws q v)])) ?_ c.length _ ⟨0,by simp⟩
 rintro n st ⟨i,hi,hk,v1,v3,hnx,hS⟩
 simp [z7i,v1,v3,hS]
 have z:=fr hnx
 refine zd2 (fun h => ?_) (fun h => ?_)
 ·simp at h
  obtain ⟨a,ha⟩ : ∃ a,c[i]?=some a:=⟨_,List.getElem?_eq_getElem h⟩
  obtain ⟨b,hb⟩ : ∃ b,v[i]?=some b:=⟨_,List.getElem?_eq_getElem (by omega)⟩
  have ha':=zd1 (q:=q) ha
  have hb':=zd1 (q:=q) hb
  have hal:=hc a (List.mem_of_getElem? ha)
  have hbl:=hv b (List.mem_of_getElem? hb)
  have hC:=ytx a hal
  have hw:=wS h (by omega:c.length≤9223372036854775807)
  have hiv:i<v.length:=by omega
  have hfe:=ye4 ha hb
  by_cases d1:zf6 a=true
  case neg =>
   have no:=ziq h (by rw [hfe]; simp [d1]:zft c v i=false)
   simp [-getElem?_pos,v1,v3,hS,z,ha',hb',hC,hR,hw,h,hiv,d1,no]
  rcases Classical.propComplete ((b.length:Int)=zcl v) with d2 | d2
  case inr =>
   have no:=ziq h (by rw [hfe,d1]; simp [d2]:zft c v i=false)
   simp [-getElem?_pos,v1,v3,hS,z,ha',hb',hC,hR,hw,h,hiv,d1,d2,no]
  simp [-getElem?_pos,v1,v3,hS,z,ha',hb',hC,hR,hw,h,hiv,d1,d2]
  refine za4 (fun n st => ∃ j:Nat,j+n=b.length∧(∀ (k:Nat) (x:Int),k<j→b[k]?=some x→zai x 0 a.length=true)∧st.V 1 = .ptr 0 none 0 0 0∧st.V 3=iv i∧st.V 4=iv j∧0<st.nx∧st.S 0=some (.box [.sl 1 (rws q c),.sl 1 (rws q v)])) ?_ b.length _ ⟨0,by omega,fun _ _ h=>by omega,by simp [v1],by simp [v3],by simp,by simp [hnx],by simp [hS]⟩
  clear v1 v3 hnx hS z
  rintro n' st ⟨j,hj,hjk,v1,v3,v4,hnx,hS⟩
  simp [-getElem?_pos,z7h,v1,v3,v4,hS,hb',hiv]
  refine zd2 (fun h4 => ?_) (fun h4 => ?_)
  ·simp at h4
   obtain ⟨x,hx⟩ : ∃ x,b[j]?=some x:=⟨_,List.getElem?_eq_getElem h4⟩
   have hx':=zbg hx
   have hwj:=wS h4 hbl
   rcases Bool.eq_false_or_eq_true (zai x 0 a.length) with d3 | d3
   ·simp [-getElem?_pos,v1,v3,v4,hS,ha',hb',hx',hiv,h,h4,d3,hwj,zbm,-za6]
    exact zam (n'-1) (by omega) ⟨j+1,by omega,zsk (P:=fun _ x=>zai x 0 a.length=true) hjk hx d3,by simp [v1],by simp [v3],by simp,by simp [hnx],by simp [hS]⟩
   ·have no:=ziq h (by rw [hfe,zur hx d3]; simp:zft c v i=false)
    simp [-getElem?_pos,v1,v3,v4,hS,ha',hb',hx',hiv,h,h4,d3,hwj,no,zbm,-za6]
  ·simp at h4
   have ok:zft c v i=true:=by
    rw [hfe,d1,zu5 fun k x hk hx=>hjk k x (by omega) hx]; simp [d2]
   simp [-getElem?_pos,v1,v3,v4,hS,hw]
   exact zam (n-1) (by omega) ⟨i+1,by omega,zr0 hk ok,by simp [v1],by simp,by simp [hnx],by simp [hS]⟩
 ·simp at h
  have:=z1r (p:=zft c v) (n:=c.length) fun j hj=>hk j (by omega)
  simp [this]
def zib (x:Int):Bool:=zai x (-2199023255552) 2199023255552
def zd7 (c v:List (List Int)) (lab:List Int) (g:Cfg):Bool:=zdl c v && zcn g && decide ((lab.length:Int)=zcl v) && lab.all zib
@[simp] theorem y7y (n:Int):RUN T zl5 [iv n]=some ([bv (!zib n)],[]):=by
 refine zag z8q rfl ?_
 simp [zw4,zw5,zdr,-zck,zib]
theorem z3z (q:Bool) (c v:List (List Int)) (lab:List Int) (g:Cfg) (hc : ∀ l∈c,l.length≤9223372036854775807) (hv : ∀ l∈v,l.length≤9223372036854775807) (hlab:lab.length≤9223372036854775807) (hg:g.sg.length≤9223372036854775807):RUN T zkk [.agg [.sl 1 (rws q c),.sl 1 (rws q v)],.sl 1 (zac lab),zf4 g]=some ([bv (zd7 c v lab g)],[]):=by
 refine zag z7z rfl ?_
 have e1:=yb1 q c v hc hv
 have e2:=ybx g hg
 have e3:=z1l q c v
 have e4:=z3x (f:=zl5) (p:=fun n => !zib n) lab hlab (by simp) (fun n _=>by simp)
 unfold zd7
 cases d1:zdl c v with
 | false=>simp [zm9,zna,zf4,e1,d1]
 | true =>
  cases d2:zcn g with
  | false=>simp [zm9,zna,zf4,e1,d1,e2,d2]
  | true =>
   rcases Classical.propComplete ((lab.length:Int)=zcl v) with d3 | d3
   ·have d4:(!(lab.any fun n => !zib n))=lab.all zib:=by simp [List.any_eq_not_all_not]
    simp [zm9,zna,zf4,e1,d1,e2,d2,e3,d3,e4,d4]
   ·simp [zm9,zna,zf4,e1,d1,e2,d2,e3,d3]
theorem yb3 (q:Bool) (c v:List (List Int)) (lab:List Int) (g:Cfg) (hc : ∀ l∈c,l.length≤9223372036854775807) (hv : ∀ l∈v,l.length≤9223372036854775807) (hlab:lab.length≤9223372036854775807) (hg:g.sg.length≤9223372036854775807):RUN T zl0 [.agg [.sl 1 (rws q c),.sl 1 (rws q v)],.sl 1 (zac lab),zf4 g]=some ([bv (zd7 c v lab g)],[]):=by
 refine zag z7y rfl ?_
 have e1:=yb2 q c v hc hv
 have e2:=yby g hg
 have e3:=z3y q c v
 unfold zd7
 cases d1:zdl c v with
 | false=>simp [zm7,zm8,zf4,e1,d1]
 | true =>
  cases d2:zcn g with
  | false=>simp [zm7,zm8,zf4,e1,d1,e2,d2]
  | true =>
   rcases Classical.propComplete ((lab.length:Int)=zcl v) with d3 | d3
   ·simp [zm7,zm8,zf4,e1,d1,e2,d2,e3,d3]
    refine za4 (fun n st => ∃ i:Nat,i+n=lab.length∧(∀ (j:Nat) (x:Int),j<i→lab[j]?=some x→zib x=true)∧st.V 1 = .sl 1 (zac lab)∧st.V 7=iv i) ?_ lab.length _ ⟨0,by omega,fun _ _ h=>by omega,by simp,by simp⟩
    rintro n st ⟨i,hi,hj,v1,v7⟩
    simp [z7f,v1,v7]
    refine zd2 (fun h => ?_) (fun h => ?_)
    ·simp at h
     obtain ⟨x,hx⟩ : ∃ x,lab[i]?=some x:=⟨_,List.getElem?_eq_getElem h⟩
     have hx':=zbg hx
     have hw:=wS h hlab
     have hlb:zib x=zai x (-2199023255552) 2199023255552:=rfl
     cases d4:zib x with
     | true =>
      have d5:=hlb.symm.trans d4
      simp [-getElem?_pos,v1,v7,hx',hw,h,d5,zbm,-za6]
      exact zam (n-1) (by omega) ⟨i+1,by omega,zsk (P:=fun _ x=>zib x=true) hj hx d4,by simp [v1],by simp⟩
     | false =>
      have d5:=hlb.symm.trans d4
      have no:=zur hx d4
      simp [-getElem?_pos,v1,v7,hx',hw,h,d5,no,zbm,-za6]
    ·simp at h
     have:=zu5 (p:=zib) fun j a h1 h2=>hj j a (by omega) h2
     simp [this,d3]
   ·simp [zm7,zm8,zf4,e1,d1,e2,d2,e3,d3]
theorem yiz {α:Type} {f:α→List PV} {p:α→Prop} {tys:List TY} (h : ∀ cs,zca tys cs→∃ a,f a=cs∧p a) : ∀ {es:List (List PV)},(∀ cs∈es,zca tys cs)→∃ l:List α,l.map f=es∧∀ a∈l,p a
 | [],_=>⟨[],rfl,by simp⟩
 | e::es,hs=>by
  obtain ⟨a,ha,hp⟩:=h e (hs e (by simp))
  obtain ⟨l,hl,hq⟩:=yiz h (es:=es) (fun cs hc=>hs cs (by simp [hc]))
  refine ⟨a::l,by simp [ha,hl],fun b hb => ?_⟩
  rcases List.mem_cons.mp hb with e | e
  ·subst e; exact hp
  ·exact hq b e
theorem yyz {P:Program} {l:List TypeId} (h:(l.all fun t=>P.readableRec t && decide (t<P.types.size))=true) : ∀ t∈l,P.readableRec t=true∧t<P.types.size:=by
 intro t ht
 have:=List.all_eq_true.mp h t ht
 simpa using this
theorem yx7 {p:Bool×List TY} {pvs:List PV} (h:zdo (fun p c=>zlj p.1 p.2 c) [p] pvs) : ∃ a,pvs=[a]∧zlj p.1 p.2 a:=by
 cases h with
 | cons h1 t=>cases t with
  | nil=>exact ⟨_,rfl,h1⟩
def zbo (B:List Int):List (List PV):=B.map fun n=>[.v (.int .u8 n)]
@[simp] theorem ywl (B:List Int):(zbo B).length=B.length:=by simp [zbo]
theorem yhh {B:List Int} {i:Nat} {x:Int} (h:B[i]?=some x):(zbo B)[i]?=some [.v (.int .u8 x)]:=by simp [zbo,h]
def ziw (rv:List RV) (io:Nat) (G:List PV×List PV→Prop) (_:Dm rv) (_:Dm G) (e:Ex) (s:St):Prop:=(e = .normal∨e = .ret)∧∃ r,zgn ⟨[],rv,.skip⟩ io s=some r∧G r
@[simp] theorem y8o {rv:List RV} {io:Nat} {G:List PV×List PV→Prop} {s:St}:ziw rv io G ⟨⟩ ⟨⟩ .normal s = ∃ r,zgn ⟨[],rv,.skip⟩ io s=some r∧G r:=by simp [ziw]
@[simp] theorem ql4 {rv:List RV} {io:Nat} {G:List PV×List PV→Prop} {s:St}:ziw rv io G ⟨⟩ ⟨⟩ .ret s = ∃ r,zgn ⟨[],rv,.skip⟩ io s=some r∧G r:=by simp [ziw]
theorem zd9 {T:zc2} {f:Nat} {ms:List Bool} {rv:List RV} {ic:IC} {G:List PV×List PV→Prop} (hT:T f=some (.code ⟨ms,rv,ic⟩)) {args:List PV} {st:St} (hi:zlr args=some st) (h:W (zad T) (RUN T) ic st (ziw rv st.nx G ⟨⟩ ⟨⟩)) : ∃ r,RUN T f args=some r∧G r:=by
 unfold W at h
 obtain ⟨e,s,h1,h2,r,h3,hG⟩:=h
 refine ⟨r,ygy hT ?_,hG⟩
 unfold zuq
 rw [hi]
 simp only [Option.bind_some,h1]
 rcases h2 with rfl | rfl <;> exact h3
attribute [irreducible] ziw
theorem z17 (X:Nat):0≤IntKind.i64.wrap ((X &&& 255 % 2 ^ IntKind.i64.bits:Nat):Int)∧IntKind.i64.wrap ((X &&& 255 % 2 ^ IntKind.i64.bits:Nat):Int)≤255:=by
 have h:X &&& 255 % 2 ^ IntKind.i64.bits≤255:=Nat.le_trans Nat.and_le_right (by decide)
 rw [w64 (by omega) (by omega)]
 omega
def zf1 (B:List Int) (P:PV→Prop) (r:List PV×List PV):Prop := ∃ (v:PV) (p:Nat) (s:Int),P v∧p≤B.length∧r=([v],[.bx [.sl 1 (zbo B),iv p,iv s]])
def PB (v:PV):Prop := ∃ b,v=bv b
def PM (l:List Int) (v:PV):Prop := ∃ n,v=iv n∧n∈l
def PI (v:PV):Prop := ∃ n,v=iv n∧inI n
def PN (n:Int) (v:PV):Prop := ∃ m,v=iv m∧0≤m∧(0<n→m<n)
theorem zuh (B:List Int) (p:Nat) (s:Int) (hp:p≤B.length) (hB:B.length≤9223372036854775807) : ∃ r,RUN T zhm [.bx [.sl 1 (zbo B),iv p,iv s]]=some r∧zf1 B (fun v => ∃ n,v=iv n∧0≤n∧n≤255) r:=by
 refine zd9 z99 rfl ?_
 by_cases h:p<B.length
 ·obtain ⟨x,hx⟩ : ∃ x,B[p]?=some x:=⟨_,List.getElem?_eq_getElem h⟩
  have hx':=yhh hx
  have hw:=wS h hB
  simp [-getElem?_pos,zty,ztz,h,hx',hw]
  exact ⟨_,p+1,_,⟨_,rfl,(z17 _).1,(z17 _).2⟩,h,rfl⟩
 ·have h' : ¬ ((p:Int)<B.length):=by omega
  simp [-getElem?_pos,zty,ztz,h,h']
  exact ⟨_,p,_,⟨_,rfl,(z17 _).1,(z17 _).2⟩,hp,rfl⟩
theorem zbu (B:List Int) (p:Nat) (s:Int) (hp:p≤B.length) (hB:B.length≤9223372036854775807) (n:Int) (hn:n≤9223372036854775807) : ∃ r,RUN T zbt [.bx [.sl 1 (zbo B),iv p,iv s],iv n]=some r∧zf1 B (PN n) r:=by
 refine zd9 z87 rfl ?_
 obtain ⟨r1,h1,v1,p1,s1,⟨a1,rfl,a10,a11⟩,hp1,rfl⟩:=zuh B p s hp hB
 by_cases c1:n≤0
 ·simp [-getElem?_pos,zq5,zq6,c1]
  exact ⟨_,p,s,⟨0,rfl,by omega,by omega⟩,hp,rfl⟩
 have c0 : ¬ (n=0):=by omega
 by_cases c2:n≤256
 ·simp [-getElem?_pos,zq5,zq6,c0,c1,c2,h1]
  refine ⟨_,p1,s1,⟨_,rfl,?_,fun _ => ?_⟩,hp1,rfl⟩
  ·exact Int.tmod_nonneg _ a10
  ·exact Int.tmod_lt_of_pos _ (by omega)
 obtain ⟨r2,h2,v2,p2,s2,⟨a2,rfl,a20,a21⟩,hp2,rfl⟩:=zuh B p1 s1 hp1 hB
 obtain ⟨r3,h3,v3,p3,s3,⟨a3,rfl,a30,a31⟩,hp3,rfl⟩:=zuh B p2 s2 hp2 hB
 obtain ⟨r4,h4,v4,p4,s4,⟨a4,rfl,a40,a41⟩,hp4,rfl⟩:=zuh B p3 s3 hp3 hB
 have w1:=w64 (x:=a1*16777216) (by omega) (by omega)
 have w2:=w64 (x:=a2*65536) (by omega) (by omega)
 have w3:=w64 (x:=a1*16777216+a2*65536) (by omega) (by omega)
 have w4:=w64 (x:=a3*256) (by omega) (by omega)
 have w5:=w64 (x:=a1*16777216+a2*65536+a3*256) (by omega) (by omega)
 have w6:=w64 (x:=a1*16777216+a2*65536+a3*256+a4) (by omega) (by omega)
 simp [-getElem?_pos,zq5,zq6,c0,c1,c2,h1,h2,h3,h4,w1,w2,w3,w4,w5,w6]
 refine ⟨_,p4,s4,⟨_,rfl,?_,fun _ => ?_⟩,hp4,rfl⟩
 ·exact Int.tmod_nonneg _ (by omega)
 ·exact Int.tmod_lt_of_pos _ (by omega)
theorem ze5 (B:List Int) (p:Nat) (s:Int) (hp:p≤B.length) (hB:B.length≤9223372036854775807) (n:Int) (hn:n≤9223372036854775807) : ∃ r,RUN T zen [.bx [.sl 1 (zbo B),iv p,iv s],iv n]=some r∧zf1 B PB r:=by
 refine zd9 z78 rfl ?_
 obtain ⟨r1,h1,v1,p1,s1,⟨a1,rfl,a10,a11⟩,hp1,rfl⟩:=zbu B p s hp hB n hn
 simp [-getElem?_pos,zwf,zwg,h1]
 exact ⟨_,p1,s1,⟨_,rfl⟩,hp1,rfl⟩
def y17 (B:List Int) (l:List Int) (P:PV→Prop) (r:List PV×List PV):Prop := ∃ (v:PV) (p:Nat) (s:Int),P v∧p≤B.length∧r=([v],[.bx [.sl 1 (zbo B),iv p,iv s],.own 1 (zac l)])
theorem zg3 (B:List Int) (p:Nat) (s:Int) (hp:p≤B.length) (hB:B.length≤9223372036854775807) (l:List Int) (hl:0<l.length∧l.length≤9223372036854775807) : ∃ r,RUN T ze4 [.bx [.sl 1 (zbo B),iv p,iv s],.own 1 (zac l)]=some r∧y17 B l (PM l) r:=by
 refine zd9 z89 rfl ?_
 obtain ⟨r1,h1,v1,p1,s1,⟨a1,rfl,a10,a11⟩,hp1,rfl⟩:=zbu B p s hp hB l.length (by omega)
 obtain ⟨i,rfl⟩ : ∃ i:Nat,a1=i:=⟨a1.toNat,by omega⟩
 have hi:i<l.length:=by have:=a11 (by omega); omega
 obtain ⟨x,hx⟩ : ∃ x,l[i]?=some x:=⟨_,List.getElem?_eq_getElem hi⟩
 have hx':=zbg hx
 simp [-getElem?_pos,zxy,zxz,h1,hx',hi]
 exact ⟨_,p1,s1,⟨x,rfl,List.mem_of_getElem? hx⟩,hp1,rfl⟩
theorem y2m (x:Int):inI (IntKind.i64.wrap x):=by
 unfold inI IntKind.wrap
 simp [IntKind.bits,IntKind.signed]
 omega
theorem yt0 (B:List Int) (p:Nat) (s:Int) (hp:p≤B.length) (hB:B.length≤9223372036854775807) : ∃ r,RUN T zpl [.bx [.sl 1 (zbo B),iv p,iv s]]=some r∧zf1 B PI r:=by
 refine zd9 z9d rfl ?_
 obtain ⟨r1,h1,v1,p1,s1,⟨a1,rfl,a10,a11⟩,hp1,rfl⟩:=zbu B p s hp hB 4 (by omega)
 by_cases c0:a1=0
 ·obtain ⟨r2,h2,v2,p2,s2,⟨a2,rfl,hm⟩,hp2,rfl⟩:=zg3 B p1 s1 hp1 hB [0,1,-1,9,10,999,1000,2147483647,-2147483648,3037000499,3037000500,9223372036854775807,-9223372036854775807,-9223372036854775808] (by simp)
  simp only [zac,List.map] at h2
  simp [-getElem?_pos,znm,znn,h1,c0,h2]
  refine ⟨_,p2,s2,⟨a2,rfl,?_⟩,hp2,rfl⟩
  simp at hm
  unfold inI
  omega
 by_cases c1:a1=1
 ·simp [-getElem?_pos,znm,znn,h1,c0,c1]
  refine za4 (fun n st => ∃ (i p:Nat) (x s:Int),i+n=8∧p≤B.length∧inI x∧st.V 0 = .ptr 0 none 0 0 0∧st.V 3=iv x∧st.V 4=iv i∧0<st.nx∧st.ep=0∧st.S 0=some (.box [.sl 1 (zbo B),iv p,iv s])) ?_ 8 _ ⟨0,p1,0,s1,by omega,hp1,by unfold inI; omega,by simp⟩
  clear h1
  rintro n st ⟨i,p,x,s,hi,hp,hx,v0,v3,v4,hnx,hep,hS⟩
  simp [z7l,v4]
  refine zd2 (fun h => ?_) (fun h => ?_)
  ·simp at h
   obtain ⟨r2,h2,v2,p2,s2,⟨a2,rfl,a20,a21⟩,hp2,rfl⟩:=zuh B p s hp hB
   have w:=w64 (x:=(i:Int)+1) (by omega) (by omega)
   simp [-getElem?_pos,v0,v3,v4,hep,hS,h2,w]
   exact zam (n-1) (by omega) ⟨i+1,p2,_,s2,by omega,hp2,y2m _,by simp [v0],by simp; rfl,by simp,by simp [hnx],by simp [hep],by simp⟩
  ·simp [-getElem?_pos,v3,v0,hS]
   exact ⟨_,p,s,⟨x,rfl,hx⟩,hp,rfl⟩
 by_cases c2:a1=2
 ·obtain ⟨r2,h2,v2,p2,s2,⟨a2,rfl,a20,a21⟩,hp2,rfl⟩:=zbu B p1 s1 hp1 hB 1000000 (by omega)
  have a22:=a21 (by omega)
  have w:=w64 (x:=a2-500000) (by omega) (by omega)
  simp [-getElem?_pos,znm,znn,h1,c0,c1,c2,h2,w]
  exact ⟨_,p2,s2,⟨_,rfl,by unfold inI; omega⟩,hp2,rfl⟩
 ·obtain ⟨r2,h2,v2,p2,s2,⟨a2,rfl,a20,a21⟩,hp2,rfl⟩:=zbu B p1 s1 hp1 hB 41 (by omega)
  have a22:=a21 (by omega)
  have w:=w64 (x:=a2-20) (by omega) (by omega)
  simp [-getElem?_pos,znm,znn,h1,c0,c1,c2,h2,w]
  exact ⟨_,p2,s2,⟨_,rfl,by unfold inI; omega⟩,hp2,rfl⟩
theorem yt1 (B:List Int) (hB:B.length≤9223372036854775807) : ∃ r,RUN T zph [.sl 1 (zbo B)]=some r∧∃ s:Int,r=([.bx [.sl 1 (zbo B),iv (0:Nat),iv s]],[]):=by
 refine zd9 z85 rfl ?_
 simp [-getElem?_pos,zxr,zxs]
 refine za4 (fun n st => ∃ (i:Nat) (x:Int),i+n=B.length∧st.V 0 = .sl 1 (zbo B)∧st.V 3=iv x∧st.V 4=iv i) ?_ B.length _ ⟨0,_,by omega,by simp,by simp; rfl,by simp⟩
 rintro n st ⟨i,x,hi,v0,v3,v4⟩
 by_cases h:i<B.length
 ·obtain ⟨b,hx⟩ : ∃ b,B[i]?=some b:=⟨_,List.getElem?_eq_getElem h⟩
  have hx':=yhh hx
  have hw:=wS h hB
  by_cases h2:(i:Int)<4000
  ·have h2':=eq_true h2
   simp [-getElem?_pos,zxq,v0,v3,v4,h,h2',hx',hw]
   exact zam (n-1) (by omega) ⟨i+1,_,by omega,by simp [v0],by simp; rfl,by simp⟩
  ·have h2':=eq_false h2
   simp [-getElem?_pos,zxq,v0,v3,v4,h,h2']
 ·simp [-getElem?_pos,zxq,v0,v3,v4,h]
def adi (a b:Int):Int×Bool:=if -9223372036854775808≤a+b∧a+b≤9223372036854775807 then (a+b,true) else (0,false)
theorem yjq {a b:Int} (ha:inI a) (hb:inI b):IntKind.i64.wrap (a+b)=if 9223372036854775807<a+b then a+b-18446744073709551616 else if a+b < -9223372036854775808 then a+b+18446744073709551616 else a+b:=by
 unfold inI at ha hb
 unfold IntKind.wrap
 simp [IntKind.bits,IntKind.signed]
 omega
theorem yb4 (a b:Int) (ha:inI a) (hb:inI b):RUN T zmt [iv a,iv b]=some ([iv (adi a b).1,bv (adi a b).2],[]):=by
 refine zag yax rfl ?_
 have hw:=yjq ha hb
 unfold inI at ha hb
 unfold adi
 by_cases c1:9223372036854775807<a+b
 ·rw [if_pos c1] at hw
  rw [if_neg (by omega)]
  have d1:=eq_false (by omega : ¬ a<0)
  have d2:=eq_false (by omega : ¬ b<0)
  have d3:=eq_true (by omega:a+b-18446744073709551616<0)
  simp [-getElem?_pos,zjk,zjl,hw,d1,d2,d3]
 ·rw [if_neg c1] at hw
  by_cases c2:a+b < -9223372036854775808
  ·rw [if_pos c2] at hw
   rw [if_neg (by omega)]
   have d1:=eq_true (by omega:a<0)
   have d2:=eq_true (by omega:b<0)
   have d3:=eq_false (by omega : ¬ a+b+18446744073709551616<0)
   simp [-getElem?_pos,zjk,zjl,hw,d1,d2,d3]
  ·rw [if_neg c2] at hw
   rw [if_pos (by omega)]
   rcases Classical.propComplete (a<0) with d1 | d1
   all_goals rcases Classical.propComplete (b<0) with d2 | d2
   all_goals simp at d1 d2
   ·have d3:=eq_true (by omega:a+b<0)
    simp [-getElem?_pos,zjk,zjl,hw,eq_true d1,eq_true d2,d3]
   ·have d2':=eq_false (by omega : ¬ b<0)
    simp [-getElem?_pos,zjk,zjl,hw,eq_true d1,d2']
   ·have d1':=eq_false (by omega : ¬ a<0)
    simp [-getElem?_pos,zjk,zjl,hw,eq_true d2,d1']
   ·have d1':=eq_false (by omega : ¬ a<0)
    have d2':=eq_false (by omega : ¬ b<0)
    have d3:=eq_false (by omega : ¬ a+b<0)
    simp [-getElem?_pos,zjk,zjl,hw,d1',d2',d3]
theorem yb5 (a b:Int) (ha:inI a) (hb:inI b):RUN T zmw [iv a,iv b]=some ([iv (adi a b).1,bv (adi a b).2],[]):=by
 refine zag ya0 rfl ?_
 have hw:=yjq ha hb
 unfold inI at ha hb
 unfold adi
 rcases Int.lt_trichotomy b 0 with c | c | c
 ·have d1:=eq_false (by omega : ¬ 0<b)
  have d2:=eq_true c
  have w:=w64 (x := -9223372036854775808-b) (by omega) (by omega)
  by_cases e:a < -9223372036854775808-b
  ·rw [if_neg (by omega)]
   simp [-getElem?_pos,zlc,zld,d1,d2,w,e]
  ·rw [if_neg (by omega),if_neg (by omega)] at hw
   rw [if_pos (by omega)]
   simp [-getElem?_pos,zlc,zld,d1,d2,w,e,hw]
 ·subst c
  rw [if_neg (by omega),if_neg (by omega)] at hw
  rw [if_pos (by omega)]
  simp at hw
  simp [zlc,zld,hw]
 ·have d1:=eq_true c
  have d2:=eq_false (by omega : ¬ b<0)
  have w:=w64 (x:=9223372036854775807-b) (by omega) (by omega)
  by_cases e:9223372036854775807-b<a
  ·rw [if_neg (by omega)]
   simp [-getElem?_pos,zlc,zld,d1,d2,w,e]
  ·rw [if_neg (by omega),if_neg (by omega)] at hw
   rw [if_pos (by omega)]
   simp [-getElem?_pos,zlc,zld,d1,d2,w,e,hw]
theorem yku {a b:Int} (ha:inI a):inI (adi a b).1:=by
 unfold adi
 split
 ·rename_i h; exact h
 ·unfold inI; omega
theorem yt2 (es:List (List PV)):RUN T zoq [.sl 1 es]=some ([bv (decide ((1048576:Int)<es.length))],[]):=by
 refine zag z7s rfl ?_
 simp [-getElem?_pos,zvu,zvv]
theorem y3b {x y:Nd}:x=y↔x.f=y.f∧x.c=y.c∧x.l=y.l∧x.r=y.r∧x.v=y.v:=by
 cases x; cases y; simp
open Classical in
theorem yt3 (t u:List Nd) (ht:t.length≤9223372036854775807) (hu:u.length≤9223372036854775807):RUN T zoy [.agg [.sl 5 (t.map nd)],.agg [.sl 5 (u.map nd)]]=some ([bv (decide (t=u))],[]):=by
 refine zag z73 rfl ?_
 rcases Classical.propComplete ((t.length:Int)=u.length) with hl | hl
 case inr =>
  have:decide (t=u)=false:=by simp; rintro rfl; simp at hl
  simp [-getElem?_pos,zsq,zsr,hl,this]
 simp [-getElem?_pos,zsq,zsr,hl]
 have hlen:t.length=u.length:=by simp at hl; omega
 refine za4 (fun n st => ∃ i:Nat,i+n=t.length∧(∀ j,j<i→t[j]?=u[j]?)∧st.V 2 = .ptr 0 none 0 0 0∧st.V 3 = .ptr 1 none 0 0 0∧st.V 5=iv i∧st.S 0=some (.box [.sl 5 (t.map nd)])∧st.S 1=some (.box [.sl 5 (u.map nd)])) ?_ t.length _ ⟨0,by simp⟩
 rintro n st ⟨i,hi,hj,v2,v3,v5,hS,hS1⟩
 simp [z7g,v2,v3,v5,hS]
 refine zd2 (fun h => ?_) (fun h => ?_)
 ·simp at h
  obtain ⟨x,hx⟩ : ∃ x,t[i]?=some x:=⟨_,List.getElem?_eq_getElem h⟩
  obtain ⟨y,hy⟩ : ∃ y,u[i]?=some y:=⟨_,List.getElem?_eq_getElem (by omega)⟩
  have hw:=wS h ht
  have hiu:i<u.length:=by omega
  rcases Classical.propComplete (x.f=y.f∧x.c=y.c∧x.l=y.l∧x.r=y.r∧x.v=y.v) with e | e
  ·simp [-getElem?_pos,v2,v3,v5,hS,hS1,hx,hy,nd,h,hiu,hw,yh1,e]
   refine zam (n-1) (by omega) ⟨i+1,by omega,zr0 hj ?_,by simp [v2],by simp [v3],by simp,by simp [hS],by simp [hS1]⟩
   rw [hx,hy,y3b.mpr (of_eq_true e)]
  ·have:decide (t=u)=false:=by
    simp
    rintro rfl
    rw [hx] at hy
    cases hy
    simp at e
   simp [-getElem?_pos,v2,v3,v5,hS,hS1,hx,hy,nd,h,hiu,hw,yh1,e,this]
 ·simp at h
  have:t=u:=by
   apply List.ext_getElem?
   intro j
   by_cases c:j<i
   ·exact hj j c
   ·rw [List.getElem?_eq_none (by omega),List.getElem?_eq_none (by omega)]
  simp [this]
def sbi (a b:Int):Int×Bool:=if -9223372036854775808≤a-b∧a-b≤9223372036854775807 then (a-b,true) else (0,false)
theorem yfn {a b:Int} (ha:inI a) (hb:inI b):IntKind.i64.wrap (a-b)=if 9223372036854775807<a-b then a-b-18446744073709551616 else if a-b < -9223372036854775808 then a-b+18446744073709551616 else a-b:=by
 unfold inI at ha hb
 unfold IntKind.wrap
 simp [IntKind.bits,IntKind.signed]
 omega
theorem yb6 (a b:Int) (ha:inI a) (hb:inI b):RUN T zmp [iv a,iv b]=some ([iv (sbi a b).1,bv (sbi a b).2],[]):=by
 refine zag yad rfl ?_
 have hw:=yfn ha hb
 unfold inI at ha hb
 unfold sbi
 by_cases c1:9223372036854775807<a-b
 ·rw [if_pos c1] at hw
  rw [if_neg (by omega)]
  have d1:=eq_false (by omega : ¬ a<0)
  have d2:=eq_true (by omega:b<0)
  have d3:=eq_true (by omega:a-b-18446744073709551616<0)
  simp [-getElem?_pos,zjg,zjh,hw,d1,d2,d3]
 ·rw [if_neg c1] at hw
  by_cases c2:a-b < -9223372036854775808
  ·rw [if_pos c2] at hw
   rw [if_neg (by omega)]
   have d1:=eq_true (by omega:a<0)
   have d2:=eq_false (by omega : ¬ b<0)
   have d3:=eq_false (by omega : ¬ a-b+18446744073709551616<0)
   simp [-getElem?_pos,zjg,zjh,hw,d1,d2,d3]
  ·rw [if_neg c2] at hw
   rw [if_pos (by omega)]
   rcases Classical.propComplete (a<0) with d1 | d1
   all_goals rcases Classical.propComplete (b<0) with d2 | d2
   all_goals simp at d1 d2
   ·simp [-getElem?_pos,zjg,zjh,hw,eq_true d1,eq_true d2]
   ·have d2':=eq_false (by omega : ¬ b<0)
    have d3:=eq_true (by omega:a-b<0)
    simp [-getElem?_pos,zjg,zjh,hw,eq_true d1,d2',d3]
   ·have d1':=eq_false (by omega : ¬ a<0)
    have d3:=eq_false (by omega : ¬ a-b<0)
    simp [-getElem?_pos,zjg,zjh,hw,eq_true d2,d1',d3]
   ·have d1':=eq_false (by omega : ¬ a<0)
    have d2':=eq_false (by omega : ¬ b<0)
    simp [-getElem?_pos,zjg,zjh,hw,d1',d2']
theorem yb7 (a b:Int) (ha:inI a) (hb:inI b):RUN T zmf [iv a,iv b]=some ([iv (sbi a b).1,bv (sbi a b).2],[]):=by
 refine zag z9m rfl ?_
 have hw:=yfn ha hb
 unfold inI at ha hb
 unfold sbi
 rcases Int.lt_trichotomy b 0 with c | c | c
 ·have d1:=eq_false (by omega : ¬ 0<b)
  have d2:=eq_true c
  have w:=w64 (x:=9223372036854775807+b) (by omega) (by omega)
  by_cases e:9223372036854775807+b<a
  ·rw [if_neg (by omega)]
   simp [-getElem?_pos,zk9,zla,d1,d2,w,e]
  ·rw [if_neg (by omega),if_neg (by omega)] at hw
   rw [if_pos (by omega)]
   simp [-getElem?_pos,zk9,zla,d1,d2,w,e,hw]
 ·subst c
  rw [if_neg (by omega),if_neg (by omega)] at hw
  rw [if_pos (by omega)]
  simp at hw
  simp [zk9,zla,hw]
 ·have d1:=eq_true c
  have d2:=eq_false (by omega : ¬ b<0)
  have w:=w64 (x := -9223372036854775808+b) (by omega) (by omega)
  by_cases e:a < -9223372036854775808+b
  ·rw [if_neg (by omega)]
   simp [-getElem?_pos,zk9,zla,d1,d2,w,e]
  ·rw [if_neg (by omega),if_neg (by omega)] at hw
   rw [if_pos (by omega)]
   simp [-getElem?_pos,zk9,zla,d1,d2,w,e,hw]
def PC (n:Nat) (v:PV):Prop := ∃ c:Cfg,v=zkh c∧c.sg.length≤n
def LC (S:Nat→Option Ob) (nx:Nat) (lo:Nat) (m:List Int) (x:PV):Prop:=(x = .e0∧m=[])∨∃ o e,x = .ref o none e 0 m.length∧lo<o∧o<nx∧S o=some (.row 1 (zac m))
theorem yb8 (B:List Int) (p:Nat) (s:Int) (hp:p≤B.length) (hB:B.length≤9223372036854775807) : ∃ r,RUN T zme [.bx [.sl 1 (zbo B),iv p,iv s]]=some r∧zf1 B (PC 60) r:=by
 refine zd9 z9a rfl ?_
 obtain ⟨r1,h1,v1,p1,s1,⟨a1,rfl,a10,a11⟩,hp1,rfl⟩:=zbu B p s hp hB 4 (by omega)
 obtain ⟨r2,h2,v2,p2,s2,⟨a2,rfl,a20,a21⟩,hp2,rfl⟩:=zbu B p1 s1 hp1 hB 4 (by omega)
 obtain ⟨r3,h3,v3,p3,s3,⟨a3,rfl,a30,a31⟩,hp3,rfl⟩:=zbu B p2 s2 hp2 hB 5 (by omega)
 obtain ⟨r4,h4,v4,p4,s4,⟨a4,rfl,a40,a41⟩,hp4,rfl⟩:=zbu B p3 s3 hp3 hB 3 (by omega)
 obtain ⟨r5,h5,v5,p5,s5,⟨a5,rfl,a50,a51⟩,hp5,rfl⟩:=zbu B p4 s4 hp4 hB 3 (by omega)
 obtain ⟨r6,h6,v6,p6,s6,⟨a6,rfl,a60,a61⟩,hp6,rfl⟩:=zbu B p5 s5 hp5 hB 3 (by omega)
 obtain ⟨r7,h7,v7,p7,s7,⟨b1,rfl⟩,hp7,rfl⟩:=ze5 B p6 s6 hp6 hB 8 (by omega)
 have w6:IntKind.i64.wrap (1+a6)=1+a6:=by have:=a61 (by omega); exact w64 (by omega) (by omega)
 have key : ∀ (k:Int) (x0 x1 x2 x3 x4 x5 x6:Int) (st:St) (p:Nat) (s:Int),0≤k→k≤60→p≤B.length→st.V 0 = .ptr 0 none 0 0 0→st.V 2 = .ptr 1 none 0 0 0→st.V 3 = .ptr 2 none 0 0 0→st.V 4=iv k→st.V 5=iv (0:Nat)→st.nx=3→st.S 0=some (.box [.sl 1 (zbo B),iv p,iv s])→st.S 1=some (.box [iv 0,iv 0,iv 0,iv 0,iv 0,iv 0,iv 0,.e0])→st.S 2=some (.box [iv x0,iv x1,iv x2,iv x3,iv x4,iv x5,iv x6,.e0])→W (zad T) (RUN T) (.loop z3l) st (Bl 0 (Nx (fun s=>W (zad T) (RUN T) (.seq (.reg [⟨some (.E 53),.load true 8 (.V 3),none⟩,⟨none,.store [0,0,0,0,0,0,0,1] (.V 2) (.E 53),none⟩]) .ret) s (ziw [.cell [0,0,0,0,0,0,0,1] 2 true] 1 (zf1 B (PC 60)) ⟨⟩ ⟨⟩)) (ziw [.cell [0,0,0,0,0,0,0,1] 2 true] 1 (zf1 B (PC 60)) ⟨⟩ ⟨⟩) ⟨⟩ ⟨⟩) ⟨⟩):=by
  intro k x0 x1 x2 x3 x4 x5 x6 st p s hk0 hk hp v0 v2 v3 v4 v5 hnx hS hS1 hS2
  obtain ⟨kn,rfl⟩ : ∃ n:Nat,k=n:=⟨k.toNat,by omega⟩
  refine za4 (fun n st => ∃ (i p:Nat) (s:Int) (m:List Int) (x:PV),i+n=kn∧m.length=i∧p≤B.length∧st.V 0 = .ptr 0 none 0 0 0∧st.V 2 = .ptr 1 none 0 0 0∧st.V 3 = .ptr 2 none 0 0 0∧st.V 4=iv kn∧st.V 5=iv i∧2<st.nx∧LC st.S st.nx 2 m x∧st.S 0=some (.box [.sl 1 (zbo B),iv p,iv s])∧st.S 1=some (.box [iv 0,iv 0,iv 0,iv 0,iv 0,iv 0,iv 0,.e0])∧st.S 2=some (.box [iv x0,iv x1,iv x2,iv x3,iv x4,iv x5,iv x6,x])) ?_ kn _ ⟨0,p,s,[],.e0,by omega,rfl,hp,v0,v2,v3,v4,v5,by omega,.inl ⟨rfl,rfl⟩,hS,hS1,hS2⟩
  clear v0 v2 v3 v4 v5 hnx hS hS1 hS2 hp
  rintro n st ⟨i,p,s,m,x,hi,hm,hp,v0,v2,v3,v4,v5,hnx,hx,hS,hS1,hS2⟩
  have z1:=fr hnx
  have z2:=fr (by omega:0<st.nx)
  have z3:=fr (by omega:1<st.nx)
  simp [z3l,v4,v5]
  refine zd2 (fun h => ?_) (fun h => ?_)
  ·simp at h
   have hw:=w64 (x:=(i:Int)+1) (by omega) (by omega)
   obtain ⟨r1,h1,v1,p1,s1,⟨a,rfl,a0,a1⟩,hp1,rfl⟩:=zbu B p s hp hB 3 (by omega)
   have a2:=a1 (by omega)
   have w:=w64 (x:=a-1) (by omega) (by omega)
   rcases hx with ⟨rfl,rfl⟩ | ⟨o,e,rfl,ho,hox,hSo⟩
   ·have hr8:zak 8 1=true:=by decide
    have hone:[[iv (a-1)]]=zac [a-1]:=rfl
    simp [-getElem?_pos,v0,v2,v3,v4,v5,hS,hS1,hS2,z1,z2,z3,h1,w,hw,hr8]
    exact zam (n-1) (by omega) ⟨i+1,p1,s1,[a-1],.ref (st.nx+1) none st.ep 0 1,by omega,by simp at hm; simp; omega,hp1,by simp [v0],by simp [v2],by simp [v3],by simp [v4],by simp,by simp; omega,.inr ⟨st.nx+1,st.ep,rfl,by omega,by simp,by
     have n2 : ¬ st.nx+1=2:=by omega
     simp [n2,zac]⟩,by simp [z1,z2,z3],by simp [z1,z2,z3,hS1],by simp⟩
   ·have hr8:=zd0 (n:=m.length+1) (by omega)
    have y1:=fr hox
    have y2:=fr ho
    have y3:=fr (by omega:0<o)
    have y4:=fr (by omega:1<o)
    simp [-getElem?_pos,v0,v2,v3,v4,v5,hS,hS1,hS2,hSo,z1,z2,z3,y1,y2,y3,y4,h1,w,hw,hr8,zdd]
    exact zam (n-1) (by omega) ⟨i+1,p1,s1,m++[a-1],.ref (st.nx+1) none st.ep 0 (m.length+1),by omega,by simp [hm],hp1,by simp [v0],by simp [v2],by simp [v3],by simp [v4],by simp,by simp; omega,.inr ⟨st.nx+1,st.ep,by simp,by omega,by simp,by
     have n2 : ¬ st.nx+1=2:=by omega
     simp [n2]⟩,by simp [z1,z2,z3,y1,y2,y3,y4],by simp [z1,z2,z3,y1,y2,y3,y4,hS1],by simp⟩
  ·simp at h
   rcases hx with ⟨rfl,rfl⟩ | ⟨o,e,rfl,ho,hox,hSo⟩
   ·simp [-getElem?_pos,v0,v2,v3,hS,hS1,hS2]
    exact ⟨_,p,s,⟨⟨x0,x1,x2,x3,x4,x5,x6,[]⟩,rfl,by simp⟩,hp,rfl⟩
   ·have y2:=fr ho
    have y3:=fr (by omega:0<o)
    have y4:=fr (by omega:1<o)
    have y5:1≤o:=by omega
    simp [-getElem?_pos,v0,v2,v3,hS,hS1,hS2,hSo,y2,y3,y4,y5]
    exact ⟨_,p,s,⟨⟨x0,x1,x2,x3,x4,x5,x6,m⟩,rfl,by simp only; omega⟩,hp,rfl⟩
 cases b1 with
 | true =>
  obtain ⟨r8,h8,v8,p8,s8,⟨a8,rfl,a80,a81⟩,hp8,rfl⟩:=zbu B p7 s7 hp7 hB 100 (by omega)
  obtain ⟨r9,h9,v9,p9,s9,⟨b2,rfl⟩,hp9,rfl⟩:=ze5 B p8 s8 hp8 hB 4 (by omega)
  cases b2 with
  | true =>
   obtain ⟨r10,h10,v10,p10,s10,⟨a10',rfl,_,_⟩,hp10,rfl⟩:=zbu B p9 s9 hp9 hB (1+a6) (by have:=a61 (by omega); omega)
   obtain ⟨r11,h11,v11,p11,s11,⟨k,rfl,k0,k1⟩,hp11,rfl⟩:=zbu B p10 s10 hp10 hB 5 (by omega)
   have k2:=k1 (by omega)
   simp [-getElem?_pos,znk,znl,h1,h2,h3,h4,h5,h6,h7,h8,h9,h10,h11,w6]
   exact key k _ _ _ _ _ _ _ _ p11 s11 k0 (by omega) hp11 (by simp) (by simp) (by simp) (by simp) (by simp) (by simp) (by simp) (by simp) (by simp; exact ⟨rfl,rfl,rfl,rfl,rfl,rfl,rfl⟩)
  | false =>
   obtain ⟨r11,h11,v11,p11,s11,⟨k,rfl,k0,k1⟩,hp11,rfl⟩:=zbu B p9 s9 hp9 hB 5 (by omega)
   have k2:=k1 (by omega)
   simp [-getElem?_pos,znk,znl,h1,h2,h3,h4,h5,h6,h7,h8,h9,h11,w6]
   exact key k _ _ _ _ _ _ _ _ p11 s11 k0 (by omega) hp11 (by simp) (by simp) (by simp) (by simp) (by simp) (by simp) (by simp) (by simp) (by simp; exact ⟨rfl,rfl,rfl,rfl,rfl,rfl,rfl⟩)
 | false =>
  obtain ⟨r9,h9,v9,p9,s9,⟨b2,rfl⟩,hp9,rfl⟩:=ze5 B p7 s7 hp7 hB 4 (by omega)
  cases b2 with
  | true =>
   obtain ⟨r10,h10,v10,p10,s10,⟨a10',rfl,_,_⟩,hp10,rfl⟩:=zbu B p9 s9 hp9 hB (1+a6) (by have:=a61 (by omega); omega)
   obtain ⟨r11,h11,v11,p11,s11,⟨k,rfl,k0,k1⟩,hp11,rfl⟩:=zbu B p10 s10 hp10 hB 5 (by omega)
   have k2:=k1 (by omega)
   simp [-getElem?_pos,znk,znl,h1,h2,h3,h4,h5,h6,h7,h9,h10,h11,w6]
   exact key k _ _ _ _ _ _ _ _ p11 s11 k0 (by omega) hp11 (by simp) (by simp) (by simp) (by simp) (by simp) (by simp) (by simp) (by simp) (by simp; exact ⟨rfl,rfl,rfl,rfl,rfl,rfl,rfl⟩)
  | false =>
   obtain ⟨r11,h11,v11,p11,s11,⟨k,rfl,k0,k1⟩,hp11,rfl⟩:=zbu B p9 s9 hp9 hB 5 (by omega)
   have k2:=k1 (by omega)
   simp [-getElem?_pos,znk,znl,h1,h2,h3,h4,h5,h6,h7,h9,h11,w6]
   exact key k _ _ _ _ _ _ _ _ p11 s11 k0 (by omega) hp11 (by simp) (by simp) (by simp) (by simp) (by simp) (by simp) (by simp) (by simp) (by simp; exact ⟨rfl,rfl,rfl,rfl,rfl,rfl,rfl⟩)
theorem yt4 (B:List Int) (p:Nat) (s:Int) (hp:p≤B.length) (hB:B.length≤9223372036854775807) : ∃ r,RUN T zpj [.bx [.sl 1 (zbo B),iv p,iv s]]=some r∧zf1 B (PC 64) r:=by
 refine zd9 z9b rfl ?_
 obtain ⟨r1,h1,v1,p1,s1,⟨c,rfl,hc⟩,hp1,rfl⟩:=yb8 B p s hp hB
 obtain ⟨r2,h2,v2,p2,s2,⟨a,rfl,a0,a1⟩,hp2,rfl⟩:=zbu B p1 s1 hp1 hB 12 (by omega)
 have hr8:zak 8 1=true:=by decide
 by_cases c0:a=0
 ·obtain ⟨r3,h3,v,p3,s3,⟨x,rfl,hx⟩,hp3,rfl⟩:=zg3 B p2 s2 hp2 hB [0,1,8,9,-1] (by simp)
  simp only [zac,List.map] at h3
  simp [-getElem?_pos,zg1,zg2,hr8,h1,h2,c0,h3]
  exact ⟨_,p3,s3,⟨⟨x,c.de,c.bi,c.la,c.rw,c.nu,c.dn,c.sg⟩,rfl,by simp only; omega⟩,hp3,rfl⟩
 by_cases c1:a=1
 ·obtain ⟨r3,h3,v,p3,s3,⟨x,rfl,hx⟩,hp3,rfl⟩:=zg3 B p2 s2 hp2 hB [-1,0,4,5] (by simp)
  simp only [zac,List.map] at h3
  simp [-getElem?_pos,zg1,zg2,hr8,h1,h2,c0,c1,h3]
  exact ⟨_,p3,s3,⟨⟨c.ro,x,c.bi,c.la,c.rw,c.nu,c.dn,c.sg⟩,rfl,by simp only; omega⟩,hp3,rfl⟩
 by_cases c2:a=2
 ·obtain ⟨r3,h3,v,p3,s3,⟨x,rfl,hx⟩,hp3,rfl⟩:=zg3 B p2 s2 hp2 hB [1,2,8,9] (by simp)
  simp only [zac,List.map] at h3
  simp [-getElem?_pos,zg1,zg2,hr8,h1,h2,c0,c1,c2,h3]
  exact ⟨_,p3,s3,⟨⟨c.ro,c.de,x,c.la,c.rw,c.nu,c.dn,c.sg⟩,rfl,by simp only; omega⟩,hp3,rfl⟩
 by_cases c3:a=3
 ·obtain ⟨r3,h3,v,p3,s3,⟨x,rfl,hx⟩,hp3,rfl⟩:=zg3 B p2 s2 hp2 hB [0,1,100,101,9223372036854775807] (by simp)
  simp only [zac,List.map] at h3
  simp [-getElem?_pos,zg1,zg2,hr8,h1,h2,c0,c1,c2,c3,h3]
  exact ⟨_,p3,s3,⟨⟨c.ro,c.de,c.bi,x,c.rw,c.nu,c.dn,c.sg⟩,rfl,by simp only; omega⟩,hp3,rfl⟩
 by_cases c4:a=4
 ·obtain ⟨r3,h3,v,p3,s3,⟨x,rfl,hx⟩,hp3,rfl⟩:=zg3 B p2 s2 hp2 hB [0,1,20,21] (by simp)
  simp only [zac,List.map] at h3
  simp [-getElem?_pos,zg1,zg2,hr8,h1,h2,c0,c1,c2,c3,c4,h3]
  exact ⟨_,p3,s3,⟨⟨c.ro,c.de,c.bi,c.la,x,c.nu,c.dn,c.sg⟩,rfl,by simp only; omega⟩,hp3,rfl⟩
 by_cases c5:a=5
 ·obtain ⟨r3,h3,v,p3,s3,⟨x,rfl,hx⟩,hp3,rfl⟩:=zg3 B p2 s2 hp2 hB [0,1,c.dn,IntKind.i64.wrap (c.dn+1),-1] (by simp)
  simp only [zac,List.map] at h3
  simp [-getElem?_pos,zg1,zg2,hr8,h1,h2,c0,c1,c2,c3,c4,c5,h3]
  exact ⟨_,p3,s3,⟨⟨c.ro,c.de,c.bi,c.la,c.rw,x,c.dn,c.sg⟩,rfl,by simp only; omega⟩,hp3,rfl⟩
 by_cases c6:a=6
 ·obtain ⟨r3,h3,v,p3,s3,⟨x,rfl,hx⟩,hp3,rfl⟩:=zg3 B p2 s2 hp2 hB [0,1,1000,1001,9223372036854775807] (by simp)
  simp only [zac,List.map] at h3
  simp [-getElem?_pos,zg1,zg2,hr8,h1,h2,c0,c1,c2,c3,c4,c5,c6,h3]
  exact ⟨_,p3,s3,⟨⟨c.ro,c.de,c.bi,c.la,c.rw,c.nu,x,c.sg⟩,rfl,by simp only; omega⟩,hp3,rfl⟩
 by_cases c7:a=7
 ·obtain ⟨r3,h3,v,p3,s3,⟨x,rfl,x0,x1⟩,hp3,rfl⟩:=zbu B p2 s2 hp2 hB 5 (by omega)
  have x2:=x1 (by omega)
  have w:=w64 (x:=x-2) (by omega) (by omega)
  have hr9:=zd0 (n:=c.sg.length+1) (by omega)
  simp [-getElem?_pos,zg1,zg2,hr8,hr9,h1,h2,c0,c1,c2,c3,c4,c5,c6,c7,h3,w,zdd]
  exact ⟨_,p3,s3,⟨⟨c.ro,c.de,c.bi,c.la,c.rw,c.nu,c.dn,c.sg++[x-2]⟩,rfl,by simp; omega⟩,hp3,rfl⟩
 ·simp [-getElem?_pos,zg1,zg2,hr8,h1,h2,c0,c1,c2,c3,c4,c5,c6,c7]
  exact ⟨_,p2,s2,⟨c,rfl,by omega⟩,hp2,rfl⟩
def sv (s:ByteArray):PV := .v (.string s)
def zdx (l:List ByteArray):List (List PV):=l.map fun s=>[.v (.string s)]
@[simp] theorem qa5 (l:List ByteArray):(zdx l).length=l.length:=by simp [zdx]
theorem yek {l:List ByteArray} {i:Nat} {x:ByteArray} (h:l[i]?=some x):(zdx l)[i]?=some [.v (.string x)]:=by simp [zdx,h]
def z44 (q:Bool) (t:List Nd):PV:=if q then .own 5 (t.map nd) else .sl 5 (t.map nd)
@[simp] theorem qgw (q:Bool) (t:List Nd):fz (z44 q t) = .sl 5 (t.map nd):=by cases q <;> simp [z44]
def trs (q:Bool) (M:List (List Nd)):List (List PV):=M.map fun t=>[z44 q t]
@[simp] theorem qlz (q:Bool) (M:List (List Nd)):(trs q M).length=M.length:=by simp [trs]
structure Mo where
 ns:List ByteArray
 ix:List Int
 b:Int
 ts:List (List Nd)
structure MoL (n:Nat) (m:Mo):Prop where
 ns:m.ns.length≤n
 ss : ∀ x∈m.ns,x.size≤n
 ix:m.ix.length≤n
 ts:m.ts.length≤n
 tl : ∀ l∈m.ts,l.length≤n
theorem MoL.mono {n k:Nat} {m:Mo} (h:MoL n m) (hk:n≤k):MoL k m:=⟨Nat.le_trans h.ns hk,fun x hx=>Nat.le_trans (h.ss x hx) hk,Nat.le_trans h.ix hk,Nat.le_trans h.ts hk,fun x hx=>Nat.le_trans (h.tl x hx) hk⟩
theorem yy7 (s:ByteArray) : ∀ (n i:Nat) (r:List UInt8),s.size-i≤n→ByteArray.toList.loop s i r=r.reverse++s.data.toList.drop i:=by
 have hs:s.data.toList.length=s.size:=by cases s; rfl
 intro n
 induction n with
 | zero =>
  intro i r h
  rw [ByteArray.toList.loop,if_neg (by omega),List.drop_eq_nil_of_le (by omega)]
  simp
 | succ n ih =>
  intro i r h
  rw [ByteArray.toList.loop]
  split
  ·rename_i hi
   rw [ih _ _ (by omega)]
   have hi':i<s.data.toList.length:=by omega
   rw [List.drop_eq_getElem_cons hi']
   have:s.get! i=s.data.toList[i]:=by
    cases s with
    | mk d =>
     show d[i]! = _
     rw [getElem!_pos d i (by simpa using hi')]
     simp
   simp [this]
  ·rename_i hi
   rw [List.drop_eq_nil_of_le (by omega)]
   simp
theorem yhj (s:ByteArray):s.toList=s.data.toList:=by
 unfold ByteArray.toList
 rw [yy7 s s.size 0 [] (by omega)]
 simp
theorem yzr {x y:ByteArray} (h:x.toList=y.toList):x=y:=by
 rw [yhj,yhj] at h
 cases x; cases y
 simp at h
 simp [h]
theorem yw6 {x y:ByteArray} (h : ¬ x=y):(x.toList == y.toList)=false:=by
 simp only [beq_eq_false_iff_ne,ne_eq]
 exact fun e=>h (yzr e)
def rwS (q:Bool) (l:List ByteArray):PV:=if q then .own 1 (zdx l) else .sl 1 (zdx l)
@[simp] theorem y8v (q:Bool) (l:List ByteArray):fz (rwS q l) = .sl 1 (zdx l):=by cases q <;> simp [rwS]
def yht (q:Bool) (L:List (List ByteArray)):List (List PV):=L.map fun l=>[rwS q l]
@[simp] theorem qab (q:Bool) (L:List (List ByteArray)):(yht q L).length=L.length:=by simp [yht]
def ltr (n:Int):Bool:=decide (97≤n) && decide (n≤122)
def dgt (n:Int):Bool:=decide (48≤n) && decide (n≤57)
def chB (s:ByteArray) (i:Nat):Bool:=match s[i]? with
 | none=>true
 | some b=>ltr b.toNat || (decide (i≠0) && dgt b.toNat)
def zfl (s:ByteArray):Bool:=zai s.size 1 12 && (List.range s.size).all (chB s)
theorem yjn {s:ByteArray} {i:Nat} {b:UInt8} (h:s[i]?=some b):chB s i=(ltr b.toNat || (decide (i≠0) && dgt b.toNat)):=by simp [chB,h]
theorem yb9 (s:ByteArray) (hs:s.size≤9223372036854775807):RUN T zm1 [.v (.string s)]=some ([bv (zfl s)],[]):=by
 refine zag ybi rfl ?_
 rcases Bool.eq_false_or_eq_true (zai s.size 1 12) with h0 | h0
 case inr =>
  have no:zfl s=false:=by unfold zfl; rw [h0]; rfl
  simp [-getElem?_pos,zrh,zri,zbm,-za6,h0,no]
 have hr:=zax.mp h0
 obtain ⟨b0,hb0⟩ : ∃ b,s[0]?=some b:=⟨_,getElem?_pos s 0 (by omega)⟩
 have hn0:zb0 (.v (.int .i64 0))=some 0:=rfl
 rcases Classical.propComplete (((b0.toNat:Nat):Int)<97) with f | f
 case inl =>
  have hc:chB s 0=false:=by
   rw [yjn hb0]
   have : ¬ (97≤(b0.toNat:Int)):=by have:=of_eq_true f; omega
   simp [ltr,this]
  have no:zfl s=false:=by unfold zfl; rw [ziq (by omega) hc]; simp
  simp [-getElem?_pos,zrh,zri,zbm,-za6,h0,no,hb0,f]
 simp [-getElem?_pos,zrh,zri,zbm,-za6,h0,hb0,f]
 refine za4 (fun n st => ∃ i:Nat,i+n=s.size∧(∀ j,j<i→chB s j=true)∧st.V 0 = .v (.string s)∧st.V 3=iv i) ?_ s.size _ ⟨0,by simp⟩
 rintro n st ⟨i,hi,hj,v0,v3⟩
 simp [z7p,v0,v3]
 refine zd2 (fun h => ?_) (fun h => ?_)
 ·simp at h
  obtain ⟨b,hb⟩ : ∃ b,s[i]?=some b:=⟨_,getElem?_pos s i h⟩
  have hw:=wS h hs
  have hc:=yjn hb
  have hcv:IntKind.i64.wrap (b.toNat:Int)=b.toNat:=w64 (by omega) (by have:=b.toNat_lt; omega)
  have e1:zai (b.toNat:Int) 97 122=ltr b.toNat:=rfl
  have e2:zai (b.toNat:Int) 48 57=dgt b.toNat:=rfl
  cases a1:ltr b.toNat with
  | true =>
   have e3:=e1.trans a1
   simp [-getElem?_pos,v0,v3,hb,hcv,e3,hw,zbm,-za6]
   exact zam (n-1) (by omega) ⟨i+1,by omega,zr0 hj (by rw [hc,a1]; rfl),by simp [v0],by simp⟩
  | false =>
   have e3:=e1.trans a1
   cases a2:dgt b.toNat with
   | true =>
    have e4:=e2.trans a2
    have hi0:i≠0:=by
     rintro rfl
     rw [hb0] at hb
     cases hb
     simp [dgt] at a2
     have:=of_eq_false f
     omega
    simp [-getElem?_pos,v0,v3,hb,hcv,e3,e4,hw,zbm,-za6]
    exact zam (n-1) (by omega) ⟨i+1,by omega,zr0 hj (by rw [hc,a1,a2]; simp [hi0]),by simp [v0],by simp⟩
   | false =>
    have e4:=e2.trans a2
    have no:zfl s=false:=by unfold zfl; rw [ziq h (by rw [hc,a1,a2]; simp:chB s i=false)]; simp
    simp [-getElem?_pos,v0,v3,hb,hcv,e3,e4,hw,no,zbm,-za6]
 ·simp at h
  have:=z1r (p:=chB s) (n:=s.size) fun j hj'=>hj j (by omega)
  have ok:zfl s=true:=by unfold zfl; rw [this,h0]; rfl
  simp [ok]
theorem yf3 (l:List ByteArray) (i:Nat):List.take i (zdx l)=zdx (l.take i):=by simp [zdx]
def zg6 (l:List ByteArray) (x:ByteArray):Bool:=l.any fun y=>decide (y=x)
theorem yca (l:List ByteArray) (x:ByteArray) (hl:l.length≤9223372036854775807):RUN T zm2 [.sl 1 (zdx l),.v (.string x)]=some ([bv (zg6 l x)],[]):=by
 refine zag ybj rfl ?_
 simp [-getElem?_pos,z0z,z00]
 refine za4 (fun n st => ∃ i:Nat,i+n=l.length∧(∀ (j:Nat) (y:ByteArray),j<i→l[j]?=some y→¬ y=x)∧st.V 0 = .sl 1 (zdx l)∧st.V 1 = .v (.string x)∧st.V 5=iv i) ?_ l.length _ ⟨0,by simp⟩
 rintro n st ⟨i,hi,hj,v0,v1,v5⟩
 simp [z7q,v0,v5]
 refine zd2 (fun h => ?_) (fun h => ?_)
 ·simp at h
  obtain ⟨y,hy⟩ : ∃ y,l[i]?=some y:=⟨_,List.getElem?_eq_getElem h⟩
  have hy':=yek hy
  have hw:=wS h hl
  by_cases e:y=x
  ·subst e
   have:zg6 l y=true:=by
    unfold zg6; rw [List.any_eq_true]; exact ⟨y,List.mem_of_getElem? hy,by simp⟩
   simp [-getElem?_pos,v0,v1,v5,hy',h,this]
  ·simp [-getElem?_pos,v0,v1,v5,hy',h,hw,yw6 e]
   exact zam (n-1) (by omega) ⟨i+1,by omega,zsk (P:=fun _ y => ¬ y=x) hj hy e,by simp [v0],by simp [v1],by simp⟩
 ·simp at h
  have:zg6 l x=false:=by
   unfold zg6
   rw [List.any_eq_false]
   intro y hy
   obtain ⟨j,hjy⟩:=List.getElem?_of_mem hy
   simpa using hj j y (by have:=(List.getElem?_eq_some_iff.mp hjy).1; omega) hjy
  simp [this]
def nmB (L:List ByteArray) (i:Nat):Bool:=match L[i]? with
 | none=>true
 | some x=>zfl x && !zg6 (L.take i) x
def zjp (L:List ByteArray):Bool:=(List.range L.length).all (nmB L)
theorem z3d {L:List ByteArray} {i:Nat} {x:ByteArray} (h:L[i]?=some x):nmB L i=(zfl x && !zg6 (L.take i) x):=by simp [nmB,h]
def y0n (p:Nat→Bool) (i:Nat):List Int:=((List.range i).filter p).map fun (j:Nat)=>(j:Int)
@[simp] theorem qbw (p:Nat→Bool):y0n p 0=[]:=rfl
theorem zi1 (x:Int):IntKind.u64.wrap x=x % 18446744073709551616:=IntKind.wrap_u64 x
theorem ykg (a b:Int):zbd .mul (.int .u64 a) (.int .u64 b)=some (.int .u64 (a*b % 18446744073709551616)):=by rw [z45,zi1]
theorem yfj (a b:Int):zbd .add (.int .u64 a) (.int .u64 b)=some (.int .u64 ((a+b) % 18446744073709551616)):=by rw [z6q,zi1]
theorem yh2 (x:Int):zbd .shr (.int .u64 x) (.int .u64 32)=some (.int .u64 (x / 4294967296)):=by
 rw [z6y,if_pos (by decide)]
 have:(2:Int) ^ min (32:Int).toNat IntKind.u64.bits=4294967296:=by decide
 rw [this,Int.fdiv_eq_ediv_of_nonneg _ (by decide)]
theorem ywx (x:Int):zbd .shl (.int .u64 x) (.int .u64 32)=some (.int .u64 (x*4294967296 % 18446744073709551616)):=by
 rw [yhr,if_pos (by decide),zi1]
 have:(2:Int) ^ min (32:Int).toNat IntKind.u64.bits=4294967296:=by decide
 rw [this]
theorem zol {x:Int} (h0:0≤x) (h1:x<18446744073709551616):zbd .and (.int .u64 x) (.int .u64 4294967295)=some (.int .u64 (x % 4294967296)):=by
 rw [z6a,zi1]
 have e:((BitVec.ofInt IntKind.u64.bits x &&& BitVec.ofInt IntKind.u64.bits 4294967295).toNat:Int)=x % 4294967296:=by
  obtain ⟨n,rfl⟩:=Int.eq_ofNat_of_zero_le h0
  have hn:n<2 ^ 64:=by omega
  have e2:(BitVec.ofInt 64 (n:Int) &&& BitVec.ofInt 64 4294967295).toNat=n % 4294967296:=by
   rw [BitVec.toNat_and]
   have e3:(BitVec.ofInt 64 (n:Int)).toNat=n:=by
    rw [BitVec.ofInt_natCast,BitVec.toNat_ofNat,Nat.mod_eq_of_lt hn]
   have e4:(BitVec.ofInt 64 4294967295).toNat=2 ^ 32-1:=by decide
   rw [e3,e4,Nat.and_two_pow_sub_one_eq_mod]
  show (((BitVec.ofInt 64 (n:Int) &&& BitVec.ofInt 64 4294967295).toNat:Nat):Int)=_
  rw [e2]; omega
 rw [e]; congr 2; omega
theorem parts {x y:Int} (hx:0≤x) (hx1:x<18446744073709551616) (hy:0≤y) (hy1:y<18446744073709551616) :
  ∃ a b c d:Int,a=x % 4294967296*(y % 4294967296)∧b=x / 4294967296*(y % 4294967296)∧c=x % 4294967296*(y / 4294967296)∧d=x / 4294967296*(y / 4294967296)∧0≤a∧a≤18446744065119617025∧0≤b∧b≤18446744065119617025∧0≤c∧c≤18446744065119617025∧0≤d∧d≤18446744065119617025∧x*y=d*18446744073709551616+(b+c)*4294967296+a:=by
 have bd : ∀ u v:Int,0≤u→u≤4294967295→0≤v→v≤4294967295→0≤u*v∧u*v≤18446744065119617025:=fun u v h1 h2 h3 h4 =>
  ⟨Int.mul_nonneg h1 h3,Int.le_trans (Int.mul_le_mul h2 h4 h3 (by decide)) (by decide)⟩
 have x0:0≤x % 4294967296∧x % 4294967296≤4294967295:=by omega
 have x1:0≤x / 4294967296∧x / 4294967296≤4294967295:=by omega
 have y0:0≤y % 4294967296∧y % 4294967296≤4294967295:=by omega
 have y1:0≤y / 4294967296∧y / 4294967296≤4294967295:=by omega
 refine ⟨_,_,_,_,rfl,rfl,rfl,rfl,(bd _ _ x0.1 x0.2 y0.1 y0.2).1,(bd _ _ x0.1 x0.2 y0.1 y0.2).2,(bd _ _ x1.1 x1.2 y0.1 y0.2).1,(bd _ _ x1.1 x1.2 y0.1 y0.2).2,(bd _ _ x0.1 x0.2 y1.1 y1.2).1,(bd _ _ x0.1 x0.2 y1.1 y1.2).2,(bd _ _ x1.1 x1.2 y1.1 y1.2).1,(bd _ _ x1.1 x1.2 y1.1 y1.2).2,?_⟩
 have ex:x=x / 4294967296*4294967296+x % 4294967296:=by omega
 have ey:y=y / 4294967296*4294967296+y % 4294967296:=by omega
 generalize x / 4294967296=p at *
 generalize x % 4294967296=q at *
 generalize y / 4294967296=r at *
 generalize y % 4294967296=s at *
 rw [ex,ey,Int.add_mul,Int.mul_add,Int.mul_add]
 have e1:p*4294967296*(r*4294967296)=p*r*18446744073709551616:=by
  rw [show (18446744073709551616:Int)=4294967296*4294967296 by decide,Int.mul_assoc,Int.mul_comm 4294967296 (r*4294967296),Int.mul_assoc r,← Int.mul_assoc p r]
 have e2:p*4294967296*s=p*s*4294967296:=by rw [Int.mul_assoc,Int.mul_comm 4294967296 s,← Int.mul_assoc]
 have e3:q*(r*4294967296)=q*r*4294967296:=by rw [← Int.mul_assoc]
 rw [e1,e2,e3,Int.add_mul]
 omega
theorem z30 (x y:Int) (hx:0≤x) (hx1:x<18446744073709551616) (hy:0≤y) (hy1:y<18446744073709551616):RUN T zk5 [.v (.int .u64 x),.v (.int .u64 y)]=some ([.v (.int .u64 (x*y / 18446744073709551616)),.v (.int .u64 (x*y % 18446744073709551616))],[]):=by
 refine zag ybp rfl ?_
 obtain ⟨a,b,c,d,ea,eb,ec,ed,a0,a1,b0,b1,c0,c1,d0,d1,hp⟩:=parts hx hx1 hy hy1
 have f1:=zol hx hx1
 have f2:=zol hy hy1
 have g1:a % 18446744073709551616=a:=by omega
 have g2:b % 18446744073709551616=b:=by omega
 have g3:c % 18446744073709551616=c:=by omega
 have g4:d % 18446744073709551616=d:=by omega
 have g5:(b+a / 4294967296) % 18446744073709551616=b+a / 4294967296:=by omega
 have f3:=zol (x:=b+a / 4294967296) (by omega) (by omega)
 simp [-z45,-z6q,-z6a,-z6y,ykg,yfj,yh2,f1,f2,f3,z08,z09,← ea,← eb,← ec,← ed,g1,g2,g3,g4,g5]
 omega
theorem z31 (x y:Int) (hx:0≤x) (hx1:x<18446744073709551616) (hy:0≤y) (hy1:y<18446744073709551616):RUN T zk8 [.v (.int .u64 x),.v (.int .u64 y)]=some ([.v (.int .u64 (x*y / 18446744073709551616)),.v (.int .u64 (x*y % 18446744073709551616))],[]):=by
 refine zag ybv rfl ?_
 obtain ⟨a,b,c,d,ea,eb,ec,ed,a0,a1,b0,b1,c0,c1,d0,d1,hp⟩:=parts hx hx1 hy hy1
 have f1:=zol hx hx1
 have f2:=zol hy hy1
 have g1:a % 18446744073709551616=a:=by omega
 have g2:b % 18446744073709551616=b:=by omega
 have g3:c % 18446744073709551616=c:=by omega
 have g4:d % 18446744073709551616=d:=by omega
 have g5:(b+a / 4294967296) % 18446744073709551616=b+a / 4294967296:=by omega
 have f3:=zol (x:=b+a / 4294967296) (by omega) (by omega)
 have f4:=zol (x:=a) (by omega) (by omega)
 simp [-z45,-z6q,-z6a,-z6y,-yhr,ykg,yfj,yh2,ywx,f1,f2,f3,f4,z1g,z1h,← ea,← eb,← ec,← ed,g1,g2,g3,g4,g5]
 omega
structure Wd where
 n:Bool
 h:Int
 l:Int
deriving DecidableEq
abbrev uv (x:Int):PV := .v (.int .u64 x)
def wd (w:Wd):List PV:=[bv w.n,uv w.h,uv w.l]
def wfU (w:Wd):Prop:=0≤w.h∧w.h<18446744073709551616∧0≤w.l∧w.l<18446744073709551616
def wok (w:Wd):Bool:=decide (w.h<9223372036854775808) && (!w.n || decide (0<w.h) || decide (0<w.l))
def mag (w:Wd):Int:=w.h*18446744073709551616+w.l
def mkW (n:Bool) (m:Int):Wd:=⟨n && decide (0<m),m / 18446744073709551616,m % 18446744073709551616⟩
def za9:Wd:=⟨false,0,0⟩
theorem zrs {n:Bool} {m:Int} (h0:0≤m) (h1:m<340282366920938463463374607431768211456):wfU (mkW n m):=by
 unfold wfU mkW; simp only; omega
theorem z1t {n:Bool} {m:Int}:mag (mkW n m)=m:=by unfold mag mkW; simp only; omega
theorem zrr {n:Bool} {m:Int} (h0:0≤m):wok (mkW n m)=decide (m<170141183460469231731687303715884105728):=by
 unfold wok mkW
 simp only
 by_cases h:m<170141183460469231731687303715884105728
 ·have e:m / 18446744073709551616<9223372036854775808:=by omega
  rw [decide_eq_true h,decide_eq_true e]
  by_cases hz:0<m
  ·by_cases h2:0<m / 18446744073709551616
   ·simp [h2]
   ·have:0<m % 18446744073709551616:=by omega
    simp [this]
  ·simp [hz]
 ·have e : ¬ m / 18446744073709551616<9223372036854775808:=by omega
  rw [decide_eq_false h,decide_eq_false e]; rfl
theorem z32 (n:Int) (h:inI n):RUN T zk6 [iv n]=some ([uv n.natAbs],[]):=by
 refine zag ybq rfl ?_
 obtain ⟨h0,h1⟩:=h
 simp [z1a,z1b]
 refine zd2 (fun h => ?_) (fun h => ?_) <;> simp at h <;> simp [zi1] <;> omega
theorem z33 (n:Int) (h:inI n):RUN T zk7 [iv n]=some ([uv n.natAbs],[]):=by
 refine zag ybu rfl ?_
 obtain ⟨h0,h1⟩:=h
 have e1:n<0→IntKind.i64.wrap (n+1)=n+1:=fun h=>w64 (by omega) (by omega)
 have e2:n<0→IntKind.i64.wrap (0-(n+1))=0-(n+1):=fun h=>w64 (by omega) (by omega)
 simp [z1e,z1f]
 refine zd2 (fun h => ?_) (fun h => ?_) <;> simp at h
 ·have e1:=e1 h
  have e2:=e2 h
  simp at e2
  simp [e1,e2,zi1]; omega
 ·simp [zi1]; omega
theorem zui (n:Bool) (h l:Int):RUN T zg0 [bv n,uv h,uv l]=some ([.agg (wd ⟨n && (decide (0<h) || decide (0<l)),h,l⟩)],[]):=by
 refine zag ya8 rfl ?_
 cases n with
 | false=>simp [zrf,zrg,wd]
 | true =>
  by_cases h1:0<h
  ·simp [zrf,zrg,wd,h1]
  ·simp [zrf,zrg,wd,h1]
theorem zrl (w:Wd):RUN T zhn [.agg (wd w)]=some ([bv (wok w)],[]):=by
 refine zag ybn rfl ?_
 obtain ⟨n,h,l⟩:=w
 unfold wok
 by_cases h1:h<9223372036854775808
 ·cases n with
  | false=>simp [znq,znr,wd,h1]
  | true =>
   by_cases h2:0<h
   ·simp [znq,znr,wd,h1,h2]
   ·simp [znq,znr,wd,h1,h2]
 ·simp [znq,znr,wd,h1]
theorem zrm (w:Wd):RUN T zho [.agg (wd w)]=some ([bv (wok w)],[]):=by
 refine zag ybs rfl ?_
 obtain ⟨n,h,l⟩:=w
 unfold wok
 by_cases h1:h<9223372036854775808
 ·cases n with
  | false=>simp [zns,znt,wd,h1]
  | true =>
   by_cases h2:0<h
   ·simp [zns,znt,wd,h1,h2]
   ·simp [zns,znt,wd,h1,h2]
 ·simp [zns,znt,wd,h1]
theorem zuj (w:Wd):RUN T zjb [.agg (wd w)]=some ([bv (decide (w.h=0) && decide (w.l=0))],[]):=by
 refine zag ybg rfl ?_
 by_cases h1:w.h=0
 ·simp [zua,zub,wd,h1]
 ·simp [zua,zub,wd,h1]
def zb5 (a b:Int):Int:=if a<b then -1 else if b<a then 1 else 0
theorem ycb (x:Int):RUN T zm6 [uv x]=some ([bv false],[]):=by
 refine zag ybw rfl ?_
 simp [z1i,z1j]
theorem ycc (x y:Int):RUN T zm5 [uv x,uv y]=some ([iv (zb5 x y)],[]):=by
 refine zag ybr rfl ?_
 have e1:=ycb x
 have e2:=ycb y
 unfold zb5
 by_cases h1:x<y
 ·simp [zrj,zrk,e1,e2,h1]
 ·by_cases h2:y<x
  ·simp [zrj,zrk,e1,e2,h1,h2]
  ·simp [zrj,zrk,e1,e2,h1,h2]
theorem ycd (x y:Int):RUN T zmu [.sl 1 [[iv x],[iv y]]]=some ([iv (if x=0 then y else x)],[]):=by
 refine zag yay rfl ?_
 simp [z0f,z0g]
 refine za4 (fun n st => ∃ i:Nat,i+n=2∧(1≤i→x=0)∧(2≤i→y=0)∧st.V 3=iv 0∧st.V 6 = .sl 1 [[iv x],[iv y]]∧st.V 7=iv 2∧st.V 8=iv i) ?_ 2 _ ⟨0,by simp⟩
 rintro n st ⟨i,hi,hx,hy,v3,v6,v7,v8⟩
 simp [z7o,v7,v8]
 have h3:i=0∨i=1∨i=2:=by omega
 rcases h3 with rfl | rfl | rfl
 ·have hw:IntKind.i64.wrap 1=1:=w64 (by omega) (by omega)
  by_cases h:x=0
  ·simp [v3,v6,v7,v8,h,hw]
   exact zam (n-1) (by omega) ⟨1,by omega,fun _=>h,by simp,by simp [v3],by simp [v6,h],by simp [v7],by simp⟩
  ·simp [v3,v6,v7,v8,h]
 ·have hx:=hx (by omega)
  have hw:IntKind.i64.wrap 2=2:=w64 (by omega) (by omega)
  by_cases h:y=0
  ·simp [v3,v6,v7,v8,h,hx,hw]
   exact zam (n-1) (by omega) ⟨2,by omega,fun _=>hx,fun _=>h,by simp [v3],by simp [v6,h,hx],by simp [v7],by simp⟩
  ·simp [v3,v6,v7,v8,h,hx]
 ·have hx:=hx (by omega)
  have hy:=hy (by omega)
  simp [v3,hx,hy]
def zeu (a b:Wd):Int:=if zb5 a.h b.h=0 then zb5 a.l b.l else zb5 a.h b.h
theorem z2n {a b:Wd} (ha:wfU a) (hb:wfU b):zeu a b=zb5 (mag a) (mag b):=by
 obtain ⟨_,_,_,_⟩:=ha
 obtain ⟨_,_,_,_⟩:=hb
 unfold zeu zb5 mag
 split <;> split <;> split <;> (try split) <;> (try split) <;> omega
theorem z34 (a b:Wd):RUN T zk2 [.agg (wd a),.agg (wd b)]=some ([iv (zeu a b)],[]):=by
 refine zag ya9 rfl ?_
 have e1:=ycc a.h b.h
 have e2:=ycc a.l b.l
 have e3:=ycd (zb5 a.h b.h) (zb5 a.l b.l)
 simp [z0p,z0q,wd,e1,e2,e3,zeu]
theorem z35 (a b:Wd):RUN T zk3 [.agg (wd a),.agg (wd b)]=some ([iv (zeu a b)],[]):=by
 refine zag ybh rfl ?_
 unfold zeu zb5
 by_cases h1:a.h<b.h
 ·simp [zle,zlf,wd,h1]
 ·by_cases h2:b.h<a.h
  ·have h3 : ¬ a.h=b.h:=by omega
   simp [zle,zlf,wd,h1,h2,h3]
  ·have h3:a.h=b.h:=by omega
   by_cases h4:a.l<b.l
   ·simp [zle,zlf,wd,h3,h4]
   ·by_cases h5:b.l<a.l
    ·simp [zle,zlf,wd,h3,h4,h5]
    ·simp [zle,zlf,wd,h3,h4,h5]
def zcr (a b:Int):Wd:=mkW (decide (a<0) != decide (b<0)) ((a.natAbs:Int)*b.natAbs)
theorem zj2 {a:Int} (h:inI a):0≤(a.natAbs:Int)∧(a.natAbs:Int)≤9223372036854775808:=by
 obtain ⟨h0,h1⟩:=h; omega
theorem ygh {a b:Int} (ha:inI a) (hb:inI b):0≤(a.natAbs:Int)*b.natAbs∧(a.natAbs:Int)*b.natAbs≤85070591730234615865843651857942052864:=by
 obtain ⟨a0,a1⟩:=zj2 ha
 obtain ⟨b0,b1⟩:=zj2 hb
 exact ⟨Int.mul_nonneg a0 b0,Int.le_trans (Int.mul_le_mul a1 b1 b0 (by decide)) (by decide)⟩
theorem yt5 (a b:Int) (ha:inI a) (hb:inI b):RUN T zqj [iv a,iv b]=some ([.agg (wd (zcr a b))],[]):=by
 refine zag ya5 rfl ?_
 obtain ⟨a0,a1⟩:=zj2 ha
 obtain ⟨b0,b1⟩:=zj2 hb
 have e1:=z32 a ha
 have e2:=z32 b hb
 have e3:=z30 a.natAbs b.natAbs a0 (by omega) b0 (by omega)
 have e4:=zui (decide (a<0) != decide (b<0)) ((a.natAbs:Int)*b.natAbs / 18446744073709551616) ((a.natAbs:Int)*b.natAbs % 18446744073709551616)
 obtain ⟨m0,m1⟩:=ygh ha hb
 have e5:(⟨(decide (a<0) != decide (b<0)) && (decide (0<(a.natAbs:Int)*b.natAbs / 18446744073709551616) || decide (0<(a.natAbs:Int)*b.natAbs % 18446744073709551616)),(a.natAbs:Int)*b.natAbs / 18446744073709551616,(a.natAbs:Int)*b.natAbs % 18446744073709551616⟩:Wd)=zcr a b:=by
  unfold zcr mkW
  congr 2
  generalize (a.natAbs:Int)*b.natAbs=m at *
  rw [Bool.eq_iff_iff]; simp; omega
 rw [e5] at e4
 generalize zcr a b=w at *
 obtain ⟨wn,wh,wl⟩:=w
 simp only [wd] at e4 ⊢
 by_cases sa:a<0 <;> by_cases sb:b<0 <;> simp [sa,sb] at e4 <;> simp [z0l,z0m,e1,e2,e3,sa,sb,e4]
theorem yt6 (a b:Int) (ha:inI a) (hb:inI b):RUN T zqo [iv a,iv b]=some ([.agg (wd (zcr a b))],[]):=by
 refine zag ybt rfl ?_
 obtain ⟨a0,a1⟩:=zj2 ha
 obtain ⟨b0,b1⟩:=zj2 hb
 have e1:=z33 a ha
 have e2:=z33 b hb
 have e3:=z31 a.natAbs b.natAbs a0 (by omega) b0 (by omega)
 have hpos:(0<(a.natAbs:Int)*b.natAbs)↔(a≠0∧b≠0):=by
  constructor
  ·intro h
   refine ⟨?_,?_⟩ <;> rintro rfl <;> simp at h
  ·rintro ⟨h1,h2⟩
   exact Int.mul_pos (by omega) (by omega)
 have e5:zcr a b=⟨((decide (a<0) != decide (b<0)) && !decide (a=0)) && !decide (b=0),(a.natAbs:Int)*b.natAbs / 18446744073709551616,(a.natAbs:Int)*b.natAbs % 18446744073709551616⟩:=by
  unfold zcr mkW
  congr 1
  rw [Bool.eq_iff_iff]; simp [hpos,and_assoc]
 rw [e5]
 by_cases sa:a<0 <;> by_cases sb:b<0 <;> rcases Classical.propComplete (a=0) with h0 | h0 <;> simp [z1c,z1d,e1,e2,e3,sa,sb,wd,h0]
def zbf (w:Wd):Int:=if w.n then -mag w else mag w
def zco (a b:Wd):Wd×Bool :=
 if wok a && wok b then
  if ((zbf a+zbf b).natAbs:Int)<170141183460469231731687303715884105728 then (mkW (decide (zbf a+zbf b<0)) (zbf a+zbf b).natAbs,true) else (za9,false)
 else (za9,false)
theorem y2v (a b:Wd):wfU (zco a b).1:=by
 unfold zco
 split
 ·split
  ·exact zrs (by omega) (by omega)
  ·exact ⟨by decide,by decide,by decide,by decide⟩
 ·exact ⟨by decide,by decide,by decide,by decide⟩
theorem zlo {w:Wd} (h:wfU w) (hk:wok w=true):0≤mag w∧mag w<170141183460469231731687303715884105728∧(w.n=true→0<mag w):=by
 obtain ⟨h0,h1,h2,h3⟩:=h
 unfold wok at hk
 simp only [Bool.and_eq_true,Bool.or_eq_true,Bool.not_eq_true',decide_eq_true_eq] at hk
 unfold mag
 obtain ⟨k1,k2⟩:=hk
 refine ⟨by omega,by omega,fun hn => ?_⟩
 rw [hn] at k2
 rcases k2 with (k2 | k2) | k2
 ·cases k2
 ·omega
 ·omega
theorem y0w (a b:Wd) (ha:wfU a) (hb:wfU b) (h:mag a+mag b<340282366920938463463374607431768211456) : ∃ c d:Int,
  RUN T zjc [uv a.l,uv b.l,uv 0]=some ([uv ((mag a+mag b) % 18446744073709551616),uv c],[])∧RUN T zjc [uv a.h,uv b.h,uv c]=some ([uv ((mag a+mag b) / 18446744073709551616),uv d],[]):=by
 obtain ⟨a0,a1,a2,a3⟩:=ha
 obtain ⟨b0,b1,b2,b3⟩:=hb
 have e1:=z6g z3w (x:=a.l) (y:=b.l) (c:=0) a2 b2 (by decide) (by decide)
 have e2:=z6g z3w (x:=a.h) (y:=b.h) (c:=(a.l+b.l+0) / 18446744073709551616) a0 b0 (by omega) (by omega)
 have f1:(a.l+b.l+0) % 18446744073709551616=(mag a+mag b) % 18446744073709551616:=by unfold mag; omega
 have f2:(a.h+b.h+(a.l+b.l+0) / 18446744073709551616) % 18446744073709551616=(mag a+mag b) / 18446744073709551616:=by unfold mag at *; omega
 rw [f1] at e1
 rw [f2] at e2
 exact ⟨_,_,e1,e2⟩
theorem ygj (a b:Wd) (ha:wfU a) (hb:wfU b) (h:mag b≤mag a) : ∃ c d:Int,
  RUN T zk4 [uv a.l,uv b.l,uv 0]=some ([uv ((mag a-mag b) % 18446744073709551616),uv c],[])∧RUN T zk4 [uv a.h,uv b.h,uv c]=some ([uv ((mag a-mag b) / 18446744073709551616),uv d],[]):=by
 obtain ⟨a0,a1,a2,a3⟩:=ha
 obtain ⟨b0,b1,b2,b3⟩:=hb
 have e1:=yfp ybo (x:=a.l) (y:=b.l) (c:=0) a2 b2 a3 b3 (by decide) (by decide)
 have e2:=yfp ybo (x:=a.h) (y:=b.h) (c:=if a.l<b.l+0 then 1 else 0) a0 b0 a1 b1 (by split <;> omega) (by split <;> omega)
 have f1:(a.l-b.l-0) % 18446744073709551616=(mag a-mag b) % 18446744073709551616:=by unfold mag; omega
 have f2:(a.h-b.h-(if a.l<b.l+0 then 1 else 0)) % 18446744073709551616=(mag a-mag b) / 18446744073709551616:=by
  unfold mag at *
  split <;> omega
 rw [f1] at e1
 rw [f2] at e2
 exact ⟨_,_,e1,e2⟩
theorem z6x {n:Bool} {m:Int} (h:0≤m):RUN T zg0 [bv n,uv (m / 18446744073709551616),uv (m % 18446744073709551616)]=some ([.agg (wd (mkW n m))],[]):=by
 rw [zui]
 have:(⟨n && (decide (0<m / 18446744073709551616) || decide (0<m % 18446744073709551616)),m / 18446744073709551616,m % 18446744073709551616⟩:Wd)=mkW n m:=by
  unfold mkW
  congr 2
  rw [Bool.eq_iff_iff]; simp; omega
 rw [this]
theorem yt7 (a b:Wd) (ha:wfU a) (hb:wfU b):RUN T zqi [.agg (wd a),.agg (wd b)]=some ([.agg (wd (zco a b).1),bv (zco a b).2],[]):=by
 refine zag ya3 rfl ?_
 have ea:=zrl a
 have eb:=zrl b
 cases ka:wok a with
 | false =>
  have es:zco a b=(za9,false):=by unfold zco; simp [ka]
  rw [es]; rw [ka] at ea
  simp only [wd] at ea
  simp [zjm,zjn,wd,ea,za9]
 | true =>
  cases kb:wok b with
  | false =>
   have es:zco a b=(za9,false):=by unfold zco; simp [kb]
   rw [es]; rw [ka] at ea; rw [kb] at eb
   simp only [wd] at ea eb
   simp [zjm,zjn,wd,ea,eb,za9]
  | true =>
   obtain ⟨ma0,ma1,ma2⟩:=zlo ha ka
   obtain ⟨mb0,mb1,mb2⟩:=zlo hb kb
   rw [ka] at ea; rw [kb] at eb
   by_cases hn:a.n=b.n
   ·obtain ⟨c,d,f1,f2⟩:=y0w a b ha hb (by omega)
    have f3:=z6x (n:=a.n) (m:=mag a+mag b) (by omega)
    have f4:=zrl (mkW a.n (mag a+mag b))
    rw [zrr (by omega)] at f4
    have es:zco a b=if mag a+mag b<170141183460469231731687303715884105728 then (mkW a.n (mag a+mag b),true) else (za9,false):=by
     unfold zco zbf
     rw [ka,kb,← hn]
     simp only [Bool.and_self,if_true]
     cases h:a.n with
     | true =>
      have e1:(-mag a + -mag b).natAbs=mag a+mag b:=by omega
      have e2 : -mag a + -mag b<0:=by have:=ma2 h; omega
      simp only [if_true,e1,decide_eq_true e2]
     | false =>
      have e1:((mag a+mag b).natAbs:Int)=mag a+mag b:=by omega
      have e2 : ¬ mag a+mag b<0:=by omega
      simp only [Bool.false_eq_true,if_false,e1,decide_eq_false e2]
    rw [es]
    generalize hm:mag a+mag b=m at *
    generalize mkW a.n m=w at *
    generalize m / 18446744073709551616=hi at *
    generalize m % 18446744073709551616=lo at *
    simp only [wd] at ea eb f3 f4 ⊢
    rw [hn] at ea f3
    by_cases hk:m<170141183460469231731687303715884105728
    ·rw [decide_eq_true hk] at f4
     rw [if_pos hk]
     simp [zjm,zjn,ea,eb,hn,f1,f2,f3,f4]
    ·rw [decide_eq_false hk] at f4
     rw [if_neg hk]
     simp [zjm,zjn,ea,eb,hn,f1,f2,f3,f4,za9]
   ·have ho:=z34 a b
    rw [z2n ha hb] at ho
    have es:zco a b=(mkW (if mag a<mag b then b.n else a.n) (if mag a<mag b then mag b-mag a else mag a-mag b),true):=by
     have gen : ∀ (n:Bool) (m:Int),((zbf a+zbf b).natAbs:Int)=m→m<170141183460469231731687303715884105728→(decide (zbf a+zbf b<0) && decide (0<m))=(n && decide (0<m))→zco a b=(mkW n m,true):=by
      intro n m h1 h2 h3
      unfold zco
      rw [ka,kb,h1]
      simp only [Bool.and_self,if_true,if_pos h2]
      unfold mkW
      rw [h3]
     unfold zbf at gen
     cases h:a.n <;> cases h':b.n <;> simp only [h,h'] at gen hn ⊢
     ·exact (hn trivial).elim
     ·by_cases hl:mag a<mag b
      ·rw [if_pos hl,if_pos hl]
       exact gen _ _ (by simp; omega) (by omega) (by rw [Bool.eq_iff_iff]; simp; omega)
      ·rw [if_neg hl,if_neg hl]
       exact gen _ _ (by simp; omega) (by omega) (by rw [Bool.eq_iff_iff]; simp; omega)
     ·by_cases hl:mag a<mag b
      ·rw [if_pos hl,if_pos hl]
       exact gen _ _ (by simp; omega) (by omega) (by rw [Bool.eq_iff_iff]; simp; omega)
      ·rw [if_neg hl,if_neg hl]
       exact gen _ _ (by simp; omega) (by omega) (by rw [Bool.eq_iff_iff]; simp; omega)
     ·exact (hn trivial).elim
    rw [es]
    have hnb:(a.n == b.n)=false:=by cases h:a.n <;> cases h':b.n <;> simp [h,h'] at hn ⊢
    by_cases hl:mag a<mag b
    ·obtain ⟨c,d,f1,f2⟩:=ygj b a hb ha (by omega)
     have f3:=z6x (n:=b.n) (m:=mag b-mag a) (by omega)
     have hs:zb5 (mag a) (mag b) = -1:=by unfold zb5; rw [if_pos hl]
     rw [hs] at ho
     rw [if_pos hl,if_pos hl]
     generalize mag b-mag a=m at *
     generalize mkW b.n m=w at *
     generalize m / 18446744073709551616=hi at *
     generalize m % 18446744073709551616=lo at *
     simp only [wd] at ea eb f3 ho ⊢
     simp [zjm,zjn,ea,eb,hnb,ho,f1,f2,f3]
    ·obtain ⟨c,d,f1,f2⟩:=ygj a b ha hb (by omega)
     have f3:=z6x (n:=a.n) (m:=mag a-mag b) (by omega)
     have hs : ¬ zb5 (mag a) (mag b)<0:=by unfold zb5; rw [if_neg hl]; split <;> omega
     rw [if_neg hl,if_neg hl]
     generalize mag a-mag b=m at *
     generalize mkW a.n m=w at *
     generalize m / 18446744073709551616=hi at *
     generalize m % 18446744073709551616=lo at *
     generalize zb5 (mag a) (mag b)=sg at *
     simp only [wd] at ea eb f3 ho ⊢
     simp [zjm,zjn,ea,eb,hnb,ho,hs,f1,f2,f3]
theorem yf2 {a b:Wd} (ha:wfU a) (hb:wfU b) (ka:wok a=true) (kb:wok b=true) (hn:a.n=b.n):zco a b=if mag a+mag b<170141183460469231731687303715884105728 then (mkW a.n (mag a+mag b),true) else (za9,false):=by
 obtain ⟨ma0,ma1,ma2⟩:=zlo ha ka
 obtain ⟨mb0,mb1,mb2⟩:=zlo hb kb
 unfold zco zbf
 rw [ka,kb,← hn]
 simp only [Bool.and_self,if_true]
 cases h:a.n with
 | true =>
  have e1:(-mag a + -mag b).natAbs=mag a+mag b:=by omega
  have e2 : -mag a + -mag b<0:=by have:=ma2 h; omega
  simp only [if_true,e1,decide_eq_true e2]
 | false =>
  have e1:((mag a+mag b).natAbs:Int)=mag a+mag b:=by omega
  have e2 : ¬ mag a+mag b<0:=by omega
  simp only [Bool.false_eq_true,if_false,e1,decide_eq_false e2]
theorem yz7 {a b:Wd} (ha:wfU a) (hb:wfU b) (ka:wok a=true) (kb:wok b=true) (hn : ¬ a.n=b.n):zco a b=(mkW (if mag a<mag b then b.n else a.n) (if mag a<mag b then mag b-mag a else mag a-mag b),true):=by
 obtain ⟨ma0,ma1,ma2⟩:=zlo ha ka
 obtain ⟨mb0,mb1,mb2⟩:=zlo hb kb
 have gen : ∀ (n:Bool) (m:Int),((zbf a+zbf b).natAbs:Int)=m→m<170141183460469231731687303715884105728→(decide (zbf a+zbf b<0) && decide (0<m))=(n && decide (0<m))→zco a b=(mkW n m,true):=by
  intro n m h1 h2 h3
  unfold zco
  rw [ka,kb,h1]
  simp only [Bool.and_self,if_true,if_pos h2]
  unfold mkW
  rw [h3]
 unfold zbf at gen
 cases h:a.n <;> cases h':b.n <;> simp only [h,h'] at gen hn ⊢
 ·exact (hn trivial).elim
 ·by_cases hl:mag a<mag b
  ·rw [if_pos hl,if_pos hl]
   exact gen _ _ (by simp; omega) (by omega) (by rw [Bool.eq_iff_iff]; simp; omega)
  ·rw [if_neg hl,if_neg hl]
   exact gen _ _ (by simp; omega) (by omega) (by rw [Bool.eq_iff_iff]; simp; omega)
 ·by_cases hl:mag a<mag b
  ·rw [if_pos hl,if_pos hl]
   exact gen _ _ (by simp; omega) (by omega) (by rw [Bool.eq_iff_iff]; simp; omega)
  ·rw [if_neg hl,if_neg hl]
   exact gen _ _ (by simp; omega) (by omega) (by rw [Bool.eq_iff_iff]; simp; omega)
 ·exact (hn trivial).elim
theorem yyh (a b:Wd) (ha:wfU a) (hb:wfU b) (h:mag a+mag b<340282366920938463463374607431768211456) :
  IntKind.u64.wrap (a.l+b.l)=(mag a+mag b) % 18446744073709551616∧((mag a+mag b) % 18446744073709551616<a.l→IntKind.u64.wrap (IntKind.u64.wrap (a.h+b.h)+1)=(mag a+mag b) / 18446744073709551616)∧(¬ (mag a+mag b) % 18446744073709551616<a.l→IntKind.u64.wrap (a.h+b.h)=(mag a+mag b) / 18446744073709551616):=by
 obtain ⟨a0,a1,a2,a3⟩:=ha
 obtain ⟨b0,b1,b2,b3⟩:=hb
 unfold mag at *
 refine ⟨?_,fun h => ?_,fun h => ?_⟩ <;> simp only [zi1] at * <;> omega
theorem yhe (a b:Wd) (ha:wfU a) (hb:wfU b) (h:mag b≤mag a) :
  IntKind.u64.wrap (a.l-b.l)=(mag a-mag b) % 18446744073709551616∧(a.l<b.l→IntKind.u64.wrap (IntKind.u64.wrap (a.h-b.h)-1)=(mag a-mag b) / 18446744073709551616)∧(¬ a.l<b.l→IntKind.u64.wrap (a.h-b.h)=(mag a-mag b) / 18446744073709551616):=by
 obtain ⟨a0,a1,a2,a3⟩:=ha
 obtain ⟨b0,b1,b2,b3⟩:=hb
 unfold mag at *
 refine ⟨?_,fun h => ?_,fun h => ?_⟩ <;> simp only [zi1] at * <;> omega
theorem yt8 (a b:Wd) (ha:wfU a) (hb:wfU b):RUN T zql [.agg (wd a),.agg (wd b)]=some ([.agg (wd (zco a b).1),bv (zco a b).2],[]):=by
 refine zag ybc rfl ?_
 have ea:=zrm a
 have eb:=zrm b
 cases ka:wok a with
 | false =>
  have es:zco a b=(za9,false):=by unfold zco; simp [ka]
  rw [es]; rw [ka] at ea
  simp only [wd] at ea
  simp [zfw,zfx,wd,ea,za9]
 | true =>
  cases kb:wok b with
  | false =>
   have es:zco a b=(za9,false):=by unfold zco; simp [kb]
   rw [es]; rw [ka] at ea; rw [kb] at eb
   simp only [wd] at ea eb
   simp [zfw,zfx,wd,ea,eb,za9]
  | true =>
   obtain ⟨ma0,ma1,ma2⟩:=zlo ha ka
   obtain ⟨mb0,mb1,mb2⟩:=zlo hb kb
   rw [ka] at ea; rw [kb] at eb
   by_cases hn:a.n=b.n
   ·obtain ⟨f1,f2,f3⟩:=yyh a b ha hb (by omega)
    have f4:=zrm (mkW a.n (mag a+mag b))
    rw [zrr (by omega)] at f4
    rw [yf2 ha hb ka kb hn]
    have e6:mkW a.n (mag a+mag b)=⟨a.n,(mag a+mag b) / 18446744073709551616,(mag a+mag b) % 18446744073709551616⟩:=by
     unfold mkW
     congr 1
     cases h:a.n with
     | false=>rfl
     | true=>have:=ma2 h; simp; omega
    rw [e6] at f4 ⊢
    generalize hm:mag a+mag b=m at *
    generalize m / 18446744073709551616=hi at *
    generalize m % 18446744073709551616=lo at *
    simp only [wd] at ea eb f4 ⊢
    rw [hn] at ea f4
    by_cases hc:lo<a.l
    ·have f2:=f2 hc
     by_cases hk:m<170141183460469231731687303715884105728
     ·rw [decide_eq_true hk] at f4
      rw [if_pos hk]
      simp [zfw,zfx,ea,eb,hn,hc,f1,f2,f4]
     ·rw [decide_eq_false hk] at f4
      rw [if_neg hk]
      simp [zfw,zfx,ea,eb,hn,hc,f1,f2,f4,za9]
    ·have f3:=f3 hc
     by_cases hk:m<170141183460469231731687303715884105728
     ·rw [decide_eq_true hk] at f4
      rw [if_pos hk]
      simp [zfw,zfx,ea,eb,hn,hc,f1,f3,f4]
     ·rw [decide_eq_false hk] at f4
      rw [if_neg hk]
      simp [zfw,zfx,ea,eb,hn,hc,f1,f3,f4,za9]
   ·have ho:=z35 a b
    rw [z2n ha hb] at ho
    rw [yz7 ha hb ka kb hn]
    have hnb:(a.n == b.n)=false:=by cases h:a.n <;> cases h':b.n <;> simp [h,h'] at hn ⊢
    by_cases hl:mag a<mag b
    ·obtain ⟨f1,f2,f3⟩:=yhe b a hb ha (by omega)
     have hz:=zuj ⟨b.n,(mag b-mag a) / 18446744073709551616,(mag b-mag a) % 18446744073709551616⟩
     have hs:zb5 (mag a) (mag b) = -1:=by unfold zb5; rw [if_pos hl]
     rw [hs] at ho
     rw [if_pos hl,if_pos hl]
     have e6:mkW b.n (mag b-mag a)=⟨b.n,(mag b-mag a) / 18446744073709551616,(mag b-mag a) % 18446744073709551616⟩:=by
      unfold mkW
      congr 1
      rw [decide_eq_true (show 0<mag b-mag a by omega),Bool.and_true]
     have e7:(decide ((mag b-mag a) / 18446744073709551616=0) && decide ((mag b-mag a) % 18446744073709551616=0))=false:=by
      rw [Bool.eq_false_iff]; simp; omega
     simp only at hz
     rw [e7] at hz
     rw [e6]
     clear e6 e7
     generalize mag b-mag a=m at *
     generalize m / 18446744073709551616=hi at *
     generalize m % 18446744073709551616=lo at *
     simp only [wd] at ea eb ho hz ⊢
     by_cases hc:b.l<a.l
     ·have f2:=f2 hc
      simp [zfw,zfx,ea,eb,hnb,ho,hc,f1,f2,hz]
     ·have f3:=f3 hc
      simp [zfw,zfx,ea,eb,hnb,ho,hc,f1,f3,hz]
    ·obtain ⟨f1,f2,f3⟩:=yhe a b ha hb (by omega)
     have hz:=zuj ⟨a.n,(mag a-mag b) / 18446744073709551616,(mag a-mag b) % 18446744073709551616⟩
     have hs : ¬ zb5 (mag a) (mag b)<0:=by unfold zb5; rw [if_neg hl]; split <;> omega
     rw [if_neg hl,if_neg hl]
     generalize zb5 (mag a) (mag b)=sg at *
     by_cases h0:mag a-mag b=0
     ·have e6:mkW a.n (mag a-mag b)=⟨false,(mag a-mag b) / 18446744073709551616,(mag a-mag b) % 18446744073709551616⟩:=by
       unfold mkW
       congr 1
       simp [h0]
      have e7:(decide ((mag a-mag b) / 18446744073709551616=0) && decide ((mag a-mag b) % 18446744073709551616=0))=true:=by
       simp; omega
      simp only at hz
      rw [e7] at hz
      rw [e6]
      clear e6 e7 h0
      generalize mag a-mag b=m at *
      generalize m / 18446744073709551616=hi at *
      generalize m % 18446744073709551616=lo at *
      simp only [wd] at ea eb ho hz ⊢
      by_cases hc:a.l<b.l
      ·have f2:=f2 hc
       simp [zfw,zfx,ea,eb,hnb,ho,hs,hc,f1,f2,hz]
      ·have f3:=f3 hc
       simp [zfw,zfx,ea,eb,hnb,ho,hs,hc,f1,f3,hz]
     ·have e6:mkW a.n (mag a-mag b)=⟨a.n,(mag a-mag b) / 18446744073709551616,(mag a-mag b) % 18446744073709551616⟩:=by
       unfold mkW
       congr 1
       rw [decide_eq_true (show 0<mag a-mag b by omega),Bool.and_true]
      have e7:(decide ((mag a-mag b) / 18446744073709551616=0) && decide ((mag a-mag b) % 18446744073709551616=0))=false:=by
       rw [Bool.eq_false_iff]; simp; omega
      simp only at hz
      rw [e7] at hz
      rw [e6]
      clear e6 e7 h0
      generalize mag a-mag b=m at *
      generalize m / 18446744073709551616=hi at *
      generalize m % 18446744073709551616=lo at *
      simp only [wd] at ea eb ho hz ⊢
      by_cases hc:a.l<b.l
      ·have f2:=f2 hc
       simp [zfw,zfx,ea,eb,hnb,ho,hs,hc,f1,f2,hz]
      ·have f3:=f3 hc
       simp [zfw,zfx,ea,eb,hnb,ho,hs,hc,f1,f3,hz]
theorem yzv {a b:Int} (ha:inI a) (hb:inI b):wfU (zcr a b):=by
 obtain ⟨m0,m1⟩:=ygh ha hb
 exact zrs m0 (by omega)
def zcp (w:Wd) (k:Int):Wd×Bool:=if wok w=true∧mag w*k.natAbs<170141183460469231731687303715884105728 then (mkW (w.n != decide (k<0)) (mag w*k.natAbs),true) else (za9,false)
theorem yfs (w:Wd) (k:Int) (hw:wfU w) (hk:inI k) : ∃ p q:Int,w.h*k.natAbs=p∧w.l*k.natAbs=q∧0≤p∧0≤q∧q≤170141183460469231722463931679029329920∧mag w*k.natAbs=p*18446744073709551616+q:=by
 obtain ⟨a0,a1,a2,a3⟩:=hw
 obtain ⟨k0,k1⟩:=zj2 hk
 refine ⟨_,_,rfl,rfl,Int.mul_nonneg a0 k0,Int.mul_nonneg a2 k0,Int.le_trans (Int.mul_le_mul (show w.l≤18446744073709551615 by omega) k1 k0 (by decide)) (by decide),?_⟩
 unfold mag
 rw [Int.add_mul,Int.mul_assoc,Int.mul_comm 18446744073709551616,← Int.mul_assoc]
theorem yiu (w:Wd) (k:Int) (ka:wok w=true) (p q:Int) (p0:0≤p) (q0:0≤q) (q1:q≤170141183460469231722463931679029329920) (hP:mag w*k.natAbs=p*18446744073709551616+q) :
  (zcp w k=(za9,false)∧(0<p / 18446744073709551616∨0<(p % 18446744073709551616+q / 18446744073709551616) / 18446744073709551616∨wok ⟨(w.n != decide (k<0)) && (decide (0<(p % 18446744073709551616+q / 18446744073709551616) % 18446744073709551616) || decide (0<q % 18446744073709551616)),(p % 18446744073709551616+q / 18446744073709551616) % 18446744073709551616,q % 18446744073709551616⟩=false)) ∨
  (zcp w k=(⟨(w.n != decide (k<0)) && (decide (0<(p % 18446744073709551616+q / 18446744073709551616) % 18446744073709551616) || decide (0<q % 18446744073709551616)),(p % 18446744073709551616+q / 18446744073709551616) % 18446744073709551616,q % 18446744073709551616⟩,true)∧¬ 0<p / 18446744073709551616∧¬ 0<(p % 18446744073709551616+q / 18446744073709551616) / 18446744073709551616∧wok ⟨(w.n != decide (k<0)) && (decide (0<(p % 18446744073709551616+q / 18446744073709551616) % 18446744073709551616) || decide (0<q % 18446744073709551616)),(p % 18446744073709551616+q / 18446744073709551616) % 18446744073709551616,q % 18446744073709551616⟩=true):=by
 by_cases hk:p*18446744073709551616+q<170141183460469231731687303715884105728
 ·right
  have e:(⟨(w.n != decide (k<0)) && (decide (0<(p % 18446744073709551616+q / 18446744073709551616) % 18446744073709551616) || decide (0<q % 18446744073709551616)),(p % 18446744073709551616+q / 18446744073709551616) % 18446744073709551616,q % 18446744073709551616⟩:Wd)=mkW (w.n != decide (k<0)) (p*18446744073709551616+q):=by
   unfold mkW
   congr 1
   ·congr 1
    rw [Bool.eq_iff_iff]; simp; omega
   ·omega
   ·omega
  rw [e,zrr (by omega)]
  refine ⟨?_,by omega,by omega,decide_eq_true hk⟩
  unfold zcp
  rw [hP,if_pos ⟨ka,hk⟩]
 ·left
  refine ⟨?_,?_⟩
  ·unfold zcp
   rw [hP,if_neg (fun h=>hk h.2)]
  ·by_cases h1:0<p / 18446744073709551616
   ·exact .inl h1
   ·by_cases h2:0<(p % 18446744073709551616+q / 18446744073709551616) / 18446744073709551616
    ·exact .inr (.inl h2)
    ·refine .inr (.inr ?_)
     unfold wok
     rw [decide_eq_false (show ¬ (p % 18446744073709551616+q / 18446744073709551616) % 18446744073709551616<9223372036854775808 by omega)]
     rfl
set_option maxHeartbeats 1000000 in
theorem yce (w:Wd) (k:Int) (hw:wfU w) (hk:inI k):RUN T zmy [.agg (wd w),iv k]=some ([.agg (wd (zcp w k).1),bv (zcp w k).2],[]):=by
 refine zag ya7 rfl ?_
 have ea:=zrl w
 cases ka:wok w with
 | false =>
  have es:zcp w k=(za9,false):=by unfold zcp; simp [ka]
  rw [es]; rw [ka] at ea
  simp only [wd] at ea
  simp [zhr,zhs,wd,ea,za9]
 | true =>
  rw [ka] at ea
  obtain ⟨a0,a1,a2,a3⟩:=hw
  obtain ⟨k0,k1⟩:=zj2 hk
  have e1:=z32 k hk
  have e2:=z30 w.h k.natAbs a0 a1 k0 (by omega)
  have e3:=z30 w.l k.natAbs a2 a3 k0 (by omega)
  obtain ⟨p,q,hp,hq,p0,q0,q1,hP⟩:=yfs w k ⟨a0,a1,a2,a3⟩ hk
  rw [hp] at e2
  rw [hq] at e3
  have e4:=z6g z3w (x:=p % 18446744073709551616) (y:=q / 18446744073709551616) (c:=0) (by omega) (by omega) (by decide) (by decide)
  rw [Int.add_zero] at e4
  have e5:=zui (w.n != decide (k<0)) ((p % 18446744073709551616+q / 18446744073709551616) % 18446744073709551616) (q % 18446744073709551616)
  have e6:=zrl ⟨(w.n != decide (k<0)) && (decide (0<(p % 18446744073709551616+q / 18446744073709551616) % 18446744073709551616) || decide (0<q % 18446744073709551616)),(p % 18446744073709551616+q / 18446744073709551616) % 18446744073709551616,q % 18446744073709551616⟩
  have key:=yiu w k ka p q p0 q0 q1 hP
  generalize ((w.n != decide (k<0)) && (decide (0<(p % 18446744073709551616+q / 18446744073709551616) % 18446744073709551616) || decide (0<q % 18446744073709551616)))=sn at *
  generalize p / 18446744073709551616=P1 at *
  generalize p % 18446744073709551616=P2 at *
  generalize q / 18446744073709551616=Q1 at *
  generalize q % 18446744073709551616=Q2 at *
  generalize (P2+Q1) / 18446744073709551616=S1 at *
  generalize (P2+Q1) % 18446744073709551616=S2 at *
  generalize zcp w k=r at *
  generalize wok ⟨sn,S2,Q2⟩=o at *
  obtain ⟨wn,wh,wl⟩:=w
  simp only [wd] at ea e5 e6 ⊢
  simp only at e2 e3
  rcases key with ⟨rfl,c | c | rfl⟩ | ⟨rfl,c1,c2,rfl⟩
  ·cases wn <;> by_cases sb:k<0 <;> simp [sb] at e5 <;> simp [zhr,zhs,ea,e1,e2,e3,e4,e5,sb,c,za9]
  ·by_cases c':0<P1
   ·cases wn <;> by_cases sb:k<0 <;> simp [sb] at e5 <;> simp [zhr,zhs,ea,e1,e2,e3,e4,e5,sb,c',za9]
   ·cases wn <;> by_cases sb:k<0 <;> simp [sb] at e5 <;> simp [zhr,zhs,ea,e1,e2,e3,e4,e5,sb,c',c,za9]
  ·by_cases c':0<P1
   ·cases wn <;> by_cases sb:k<0 <;> simp [sb] at e5 <;> simp [zhr,zhs,ea,e1,e2,e3,e4,e5,sb,c',za9]
   ·by_cases c:0<S1
    ·cases wn <;> by_cases sb:k<0 <;> simp [sb] at e5 <;> simp [zhr,zhs,ea,e1,e2,e3,e4,e5,sb,c',c,za9]
    ·cases wn <;> by_cases sb:k<0 <;> simp [sb] at e5 <;> simp [zhr,zhs,ea,e1,e2,e3,e4,e5,e6,sb,c',c,za9]
  ·cases wn <;> by_cases sb:k<0 <;> simp [sb] at e5 <;> simp [zhr,zhs,ea,e1,e2,e3,e4,e5,e6,sb,c1,c2]
set_option maxHeartbeats 1000000 in
theorem ycf (w:Wd) (k:Int) (hw:wfU w) (hk:inI k):RUN T zm0 [.agg (wd w),iv k]=some ([.agg (wd (zcp w k).1),bv (zcp w k).2],[]):=by
 refine zag ybf rfl ?_
 have ea:=zrm w
 cases ka:wok w with
 | false =>
  have es:zcp w k=(za9,false):=by unfold zcp; simp [ka]
  rw [es]; rw [ka] at ea
  simp only [wd] at ea
  simp [zht,zhu,wd,ea,za9]
 | true =>
  rw [ka] at ea
  obtain ⟨a0,a1,a2,a3⟩:=hw
  obtain ⟨k0,k1⟩:=zj2 hk
  have e1:=z33 k hk
  have e2:=z31 w.h k.natAbs a0 a1 k0 (by omega)
  have e3:=z31 w.l k.natAbs a2 a3 k0 (by omega)
  obtain ⟨p,q,hp,hq,p0,q0,q1,hP⟩:=yfs w k ⟨a0,a1,a2,a3⟩ hk
  rw [hp] at e2
  rw [hq] at e3
  have e4:=zuj ⟨w.n != decide (k<0),(p % 18446744073709551616+q / 18446744073709551616) % 18446744073709551616,q % 18446744073709551616⟩
  have e5:(decide (0<(p % 18446744073709551616+q / 18446744073709551616) % 18446744073709551616) || decide (0<q % 18446744073709551616)) = !(decide ((p % 18446744073709551616+q / 18446744073709551616) % 18446744073709551616=0) && decide (q % 18446744073709551616=0)):=by
   rw [Bool.eq_iff_iff]; simp; omega
  have e6:=zrm ⟨(w.n != decide (k<0)) && (decide (0<(p % 18446744073709551616+q / 18446744073709551616) % 18446744073709551616) || decide (0<q % 18446744073709551616)),(p % 18446744073709551616+q / 18446744073709551616) % 18446744073709551616,q % 18446744073709551616⟩
  have e7:0<(p % 18446744073709551616+q / 18446744073709551616) / 18446744073709551616↔(p % 18446744073709551616+q / 18446744073709551616) % 18446744073709551616<p % 18446744073709551616:=by omega
  have e8:=zi1 (p % 18446744073709551616+q / 18446744073709551616)
  have key:=yiu w k ka p q p0 q0 q1 hP
  rw [e7] at key
  rw [e5] at key e6
  clear e7 e5
  simp only at e4
  generalize (decide ((p % 18446744073709551616+q / 18446744073709551616) % 18446744073709551616=0) && decide (q % 18446744073709551616=0))=z at *
  generalize p / 18446744073709551616=P1 at *
  generalize p % 18446744073709551616=P2 at *
  generalize q / 18446744073709551616=Q1 at *
  generalize q % 18446744073709551616=Q2 at *
  generalize (P2+Q1) % 18446744073709551616=S2 at *
  generalize zcp w k=r at *
  generalize hsn:((w.n != decide (k<0)) && !z)=sn at *
  generalize wok ⟨sn,S2,Q2⟩=o at *
  obtain ⟨wn,wh,wl⟩:=w
  simp only [wd] at ea e4 e6 ⊢
  simp only at e2 e3 hsn
  rcases key with ⟨rfl,c | c | rfl⟩ | ⟨rfl,c1,c2,rfl⟩
  ·cases wn <;> by_cases sb:k<0 <;> cases z <;> simp [sb] at e4 <;> simp [zht,zhu,ea,e1,e2,e3,e4,e8,sb,c,za9]
  ·by_cases c':0<P1
   ·cases wn <;> by_cases sb:k<0 <;> cases z <;> simp [sb] at e4 <;> simp [zht,zhu,ea,e1,e2,e3,e4,e8,sb,c',za9]
   ·cases wn <;> by_cases sb:k<0 <;> cases z <;> simp [sb] at e4 <;> simp [zht,zhu,ea,e1,e2,e3,e4,e8,sb,c',c,za9]
  ·by_cases c':0<P1
   ·cases wn <;> by_cases sb:k<0 <;> cases z <;> simp [sb] at e4 <;> simp [zht,zhu,ea,e1,e2,e3,e4,e8,sb,c',za9]
   ·by_cases c:S2<P2
    ·cases wn <;> by_cases sb:k<0 <;> cases z <;> simp [sb] at e4 <;> simp [zht,zhu,ea,e1,e2,e3,e4,e8,sb,c',c,za9]
    ·cases wn <;> by_cases sb:k<0 <;> cases z <;> simp [sb] at e4 hsn <;> subst hsn <;> simp [zht,zhu,ea,e1,e2,e3,e4,e6,e8,sb,c',c,za9]
  ·cases wn <;> by_cases sb:k<0 <;> cases z <;> simp [sb] at e4 hsn <;> subst hsn <;> simp [zht,zhu,ea,e1,e2,e3,e4,e6,e8,sb,c1,c2]
def zem (w:Wd):Bool:=w.n && !(decide (w.h=0) && decide (w.l=0))
def zhv (a b:Wd):Int:=if zem a=true then (if zem b=true then zeu b a else -1) else (if zem b=true then 1 else zeu a b)
theorem yt9 (a b:Wd):RUN T zqc [.agg (wd a),.agg (wd b)]=some ([iv (zhv a b)],[]):=by
 refine zag yas rfl ?_
 have e1:=zuj a
 have e2:=zuj b
 have e3:=z35 a b
 have e4:=z35 b a
 unfold zhv zem
 generalize zeu a b=x at *
 generalize zeu b a=y at *
 generalize (decide (a.h=0) && decide (a.l=0))=z at *
 generalize (decide (b.h=0) && decide (b.l=0))=z' at *
 obtain ⟨an,ah,al⟩:=a
 obtain ⟨bn,bh,bl⟩:=b
 simp only [wd] at e1 e2 e3 e4 ⊢
 cases an <;> cases bn <;> cases z <;> cases z' <;> simp [zz6,zz7,e1,e2,e3,e4]
theorem z2o (l:List Nd) (x:Nd):l.map nd++[[iv x.f,iv x.c,iv x.l,iv x.r,iv x.v]]=(l++[x]).map nd:=by simp [nd]
def yeb (t:List Nd) (k:Nat) (f c a b:Int):List Nd:=t.set k ⟨f,c,t.length,t.length+1,0⟩++[⟨-1,0,0,0,a⟩,⟨-1,0,0,0,b⟩]
def PRw (n:Nat) (v:PV):Prop := ∃ l:List Int,v = .own 1 (zac l)∧l.length=n∧∀ x∈l,inI x
theorem yez (l:List ByteArray):zd8 (zdx l)=true:=by simp [zd8,zdx]
theorem zu8 (L:List (List Int)) (r:List Int):rws true L++[[.own 1 (zac r)]]=rws true (L++[r]):=by simp [rws,cel]
theorem z2q (L:List (List Int)) (i:Nat) (r:List Int):(rws true L).set i [.own 1 (zac r)]=rws true (L.set i r):=by simp [rws,cel]
def pos (x:Int) (l:List Int):Nat→Nat
 | 0=>0
 | k+1=>if x<l.getD k 0 then pos x l k else k+1
def ins (l:List Int) (x:Int):List Int:=l.take (pos x l l.length)++x::l.drop (pos x l l.length)
def zsb (l:List Int):List Int:=l.foldl ins []
theorem yge (x:Int) (l:List Int) : ∀ k,pos x l k≤k
 | 0=>by simp [pos]
 | k+1=>by
  have:=yge x l k
  simp only [pos]; split <;> omega
theorem yvx (l:List Int) (x:Int):(ins l x).length=l.length+1:=by
 have:=yge x l l.length
 unfold ins
 simp; omega
theorem y2w {l:List Int} {i:Nat} {x:Int} (h:l[i]?=some x):(l.take (i+1)).foldl ins []=ins ((l.take i).foldl ins []) x:=by
 rw [List.take_succ,h]
 simp [List.foldl_append]
theorem ywf (l:List Int) : ∀ a:List Int,(l.foldl ins a).length=a.length+l.length:=by
 induction l with
 | nil=>intro a; rfl
 | cons x l ih=>intro a; simp only [List.foldl_cons,ih,yvx,List.length_cons]; omega
theorem ywd (a:List Int) (p:Nat):List.take (a.length-p) (List.drop p (zac a))=zac (a.drop p):=by
 rw [List.take_of_length_le (by simp)]
 simp [zac,List.map_drop]
theorem yv8 (a:List Int) (p:Nat) (h:p≤a.length):(if p=a.length then zac a else List.take p (zac a))=zac (a.take p):=by
 split
 ·rename_i e; subst e; rw [List.take_length]
 ·simp [zac,List.map_take]
theorem yef (x:Int) (l:List Int) (k:Nat):pos x l (k+1)=if x<l.getD k 0 then pos x l k else k+1:=rfl
def zfb (x:Int) (l:List Int) (k P:Nat):Prop:=pos x l k=P
theorem zfb.on {x y:Int} {l:List Int} {k P:Nat} (h:zfb x l (k+1) P) (hy:l[k]?=some y) (hc:x<y):zfb x l k P:=by
 unfold zfb at *
 rw [yef] at h
 simp only [List.getD,hy,Option.getD_some,if_pos hc] at h
 exact h
theorem zfb.off {x y:Int} {l:List Int} {k P:Nat} (h:zfb x l (k+1) P) (hy:l[k]?=some y) (hc : ¬ x<y):k+1=P:=by
 unfold zfb at *
 rw [yef] at h
 simp only [List.getD,hy,Option.getD_some,if_neg hc] at h
 exact h
theorem zfb.ex (x:Int) (l:List Int) (k:Nat) : ∃ P,zfb x l k P:=⟨_,rfl⟩
theorem zfb.z {x:Int} {l:List Int} {P:Nat} (h:zfb x l 0 P):0=P:=h
theorem yi5 {x:Int} {l:List Int} {P:Nat} (h:zfb x l l.length P):ins l x=l.take P++x::l.drop P:=by unfold zfb at h; unfold ins; rw [h]
attribute [irreducible] pos ins zfb
set_option maxHeartbeats 800000 in
theorem ycg (l:List Int) (hl:l.length≤1048576):RUN T zm3 [.sl 1 (zac l)]=some ([.own 1 (zac (zsb l))],[]):=by
 refine zag ybk rfl ?_
 have hr0:zak 8 0=true:=by decide
 simp [-getElem?_pos,z02,z03,hr0]
 refine za4 (fun n st => ∃ (i o e:Nat) (a:List Int),i+n=l.length∧a=(l.take i).foldl ins []∧a.length=i∧st.V 0 = .sl 1 (zac l)∧st.V 3 = .ref o none e 0 a.length∧st.V 4=iv i∧o<st.nx∧st.S o=some (.row 1 (zac a))) ?_ l.length _ ⟨0,0,0,[],by simp [zac]⟩
 rintro n st ⟨i,o,e,a,hi,ha,hal,v0,v3,v4,hox,hSo⟩
 simp [z7r,v0,v4]
 obtain ⟨f1,f2,f3,f4⟩:=fr hox
 refine zd2 (fun h => ?_) (fun h => ?_)
 ·simp at h
  obtain ⟨x,hx⟩ : ∃ x,l[i]?=some x:=⟨_,List.getElem?_eq_getElem h⟩
  have hx':=zbg hx
  have hws:=wS h (by omega:l.length≤9223372036854775807)
  have hft:=y2w hx
  rw [← ha] at hft
  obtain ⟨P,hP⟩ : ∃ P,zfb x a a.length P:=zfb.ex x a a.length
  simp [-getElem?_pos,v0,v3,v4,hSo]
  refine za4 (fun n' s => ∃ j:Nat,n'=j∧j≤a.length∧zfb x a j P∧s.V 0 = .sl 1 (zac l)∧s.V 3 = .ref o none e 0 a.length∧s.V 4=iv i∧s.V 5=iv j∧s.nx=st.nx∧s.S o=some (.row 1 (zac a))) ?_ a.length _ ⟨a.length,by omega,by omega,hP,by simp [v0],by simp [v3],by simp [v4],by simp,by simp,by simp [hSo]⟩
  rintro n' s ⟨j,hjn,hj,hp,u0,u3,u4,u5,unx,hSo'⟩
  clear v0 v3 v4 hSo
  obtain ⟨g1,g2,g3,g4⟩:=fr (show o<s.nx by omega)
  obtain ⟨_,_,g5,g6⟩:=fr (show o<s.nx+1 by omega)
  obtain ⟨_,_,g7,g8⟩:=fr (show o<s.nx+2 by omega)
  have hcr : ∀ c:Nat,c≤a.length+1→zak 8 c=true:=fun c hc=>zd0 (by omega)
  have hr1:zak 8 1=true:=by decide
  by_cases h0:0<j
  ·obtain ⟨q,rfl⟩ : ∃ q:Nat,j=q+1:=⟨j-1,by omega⟩
   have hw:=w64 (x:=(q:Int)) (by omega) (by omega)
   obtain ⟨y,hy⟩ : ∃ y,a[q]?=some y:=⟨_,List.getElem?_eq_getElem (by omega)⟩
   have hy':=zbg hy
   have hqa:q<a.length:=by omega
   by_cases hc:x<y
   ·have hp':=hp.on hy hc
    simp [-getElem?_pos,z01,u0,u3,u4,u5,hSo',hx',h,h0,hw,hy',hqa,hc]
    exact zam q (by omega) ⟨q,rfl,by omega,hp',by simp [u0],by simp [u3],by simp [u4],by simp,by simp [unx],by simp [hSo']⟩
   ·have hp':=hp.off hy hc
    have hk1:=hcr (q+1) (by omega)
    have hk2:=zd0 (n:=q+1+1) (by omega)
    have hk3:=hcr (a.length+1) (by omega)
    have hcut:=yv8 a (q+1) (by omega)
    have hal2 : ∀ b:List Int,zd8 (zac b)=true:=yjb
    have hmin:(a.take (q+1)).length=q+1:=by simp; omega
    have hdr:=ywd a (q+1)
    have hmd:(a.drop (q+1)).length=a.length-(q+1):=by simp
    have hsn:=zdd (a.take (q+1)) x
    have hap:=yz8 (a.take (q+1)++[x]) (a.drop (q+1))
    have hk4:=zd0 (n:=q+2+(a.length-(q+1))) (by omega)
    have hin:=yi5 hP
    rw [← hp'] at hin
    have hlen2:q+2+(a.length-(q+1))=a.length+1:=by omega
    simp [-getElem?_pos,z01,u0,u3,u4,u5,hSo',hx',h,h0,hw,hy',hqa,hc,hj,g1,g2,g3,g4,g5,g6,g7,g8,hr1,hk1,hk2,hk3,hcut,hal2,hmin,hdr,hmd,hsn,hap,hk4,hlen2]
    refine zam (n-1) (by omega) ⟨i+1,s.nx+2+2,s.ep,a.take (q+1)++x::a.drop (q+1),by omega,by rw [hft,hin],by simp; omega,by simp [u0],by simp; omega,by simp [hws],by simp,by simp⟩
  ·have h0':j=0:=by omega
   subst h0'
   have hp':=hp.z
   have hk0:=hcr 0 (by omega)
   have hk3:=hcr (a.length+1) (by omega)
   have hcut:(if 0=a.length then zac a else [])=([]:List (List PV)):=by
    split
    ·rename_i e
     have:a=[]:=List.length_eq_zero_iff.mp e.symm
     subst this; rfl
    ·rfl
   have hal2 : ∀ b:List Int,zd8 (zac b)=true:=yjb
   have hin:=yi5 hP
   rw [← hp'] at hin
   have hcons:[iv x]::zac a=zac (x::a):=rfl
   have hk4:=hcr (1+a.length) (by omega)
   have hk5:=hcr (a.length+1) (by omega)
   simp [-getElem?_pos,z01,u0,u3,u4,u5,hSo',hx',h,g1,g2,g3,g4,g5,g6,g7,g8,hr1,hk0,hk3,hcut,hal2,hcons,hk4,hk5]
   refine zam (n-1) (by omega) ⟨i+1,s.nx+2+2,s.ep,x::a,by omega,by rw [hft,hin]; simp,by (try simp); try omega,by simp [u0],by (try simp); try omega,by simp [hws],by simp,by simp⟩
 ·simp at h
  have e1:i=l.length:=by omega
  rw [e1,List.take_length] at ha
  simp [-getElem?_pos,v3,hSo,zsb,← ha]
theorem Shaped.wf {t:List Nd} {F:Int} (h:Shaped t F) (hF:F≤100) (hl:t.length≤31) : ∀ n∈t,wfN n:=by
 intro n hn
 obtain ⟨j,hj⟩:=List.getElem?_of_mem hn
 unfold wfN inI
 by_cases hf:n.f = -1
 ·obtain ⟨h1,h2,h3,h4⟩:=h.leaf j n hj hf
  have:=zax.mp h4
  omega
 ·have hi:=h.inner j n hj hf
  have h1:=zax.mp hi.c
  have h2:=hi.f
  have h3:=hi.lo
  have h4:=hi.r
  have h5:=hi.hi
  have h6:=hi.v
  omega
structure Ta where
 ns:List ByteArray
 nm:ByteArray
 rw:List (List Int)
 lb:List Int
abbrev taS (q:Bool) (t:Ta):PV := .agg [.sl 1 (zdx t.ns),.v (.string t.nm),.sl 1 (rws q t.rw),.sl 1 (zac t.lb)]
abbrev taO (t:Ta):PV := .agg [.own 1 (zdx t.ns),.v (.string t.nm),.own 1 (rws true t.rw),.own 1 (zac t.lb)]
structure TaL (n:Nat) (t:Ta):Prop where
 ns:t.ns.length≤n
 ss : ∀ x∈t.ns,x.size≤n
 nm:t.nm.size≤n
 rw:t.rw.length≤n
 rr : ∀ l∈t.rw,l.length≤n
 lb:t.lb.length≤n
structure Sl where
 n:Int
 g:Int
deriving DecidableEq
def slc (x:Sl):List PV:=[iv x.n,iv x.g]
def zbh (l:List Sl):List (List PV):=l.map slc
@[simp] theorem qgx (l:List Sl):(zbh l).length=l.length:=by simp [zbh]
theorem zli {l:List Sl} {i:Nat} {x:Sl} (h:l[i]?=some x):(zbh l)[i]?=some [iv x.n,iv x.g]:=by simp [zbh,h,slc]
theorem ydl (l:List Sl) (i:Nat) (a b:Int):(zbh l).set i [iv a,iv b]=zbh (l.set i ⟨a,b⟩):=by simp [zbh,List.map_set,slc]
def slI (x:Sl):Prop:=inI x.n∧inI x.g
def zbc (a b:Sl):Sl×Bool:=if ((adi a.n b.n).2 && (adi a.g b.g).2)=true then (⟨(adi a.n b.n).1,(adi a.g b.g).1⟩,true) else (⟨0,0⟩,false)
theorem zly {a b:Sl} (h:slI a):slI (zbc a b).1:=by
 unfold zbc
 split
 ·exact ⟨yku h.1,yku h.2⟩
 ·unfold slI inI; simp
theorem z36 (a b:Sl) (ha:slI a) (hb:slI b):RUN T zkw [.agg (slc a),.agg (slc b)]=some ([.agg (slc (zbc a b).1),bv (zbc a b).2],[]):=by
 refine zag yab rfl ?_
 have e1:=yb4 a.n b.n ha.1 hb.1
 have e2:=yb4 a.g b.g ha.2 hb.2
 unfold zbc
 generalize adi a.n b.n=x at *
 generalize adi a.g b.g=y at *
 obtain ⟨x,xb⟩:=x
 obtain ⟨y,yb⟩:=y
 simp only at e1 e2 ⊢
 cases xb <;> cases yb <;> simp [zzi,zzj,e1,e2,slc]
theorem z37 (a b:Sl) (ha:slI a) (hb:slI b):RUN T zkx [.agg (slc a),.agg (slc b)]=some ([.agg (slc (zbc a b).1),bv (zbc a b).2],[]):=by
 refine zag yae rfl ?_
 have e1:=yb5 a.n b.n ha.1 hb.1
 have e2:=yb5 a.g b.g ha.2 hb.2
 unfold zbc
 generalize adi a.n b.n=x at *
 generalize adi a.g b.g=y at *
 obtain ⟨x,xb⟩:=x
 obtain ⟨y,yb⟩:=y
 simp only at e1 e2 ⊢
 cases xb <;> cases yb <;> simp [zzm,zzn,e1,e2,slc]
def atI {α:Type} (l:List α) (i:Int):Option α:=if 0≤i then l[i.toNat]? else none
theorem ze0 {α:Type} {l:List α} {i:Int} {x:α} (h:atI l i=some x) : ∃ j:Nat,i=j∧l[j]?=some x∧j<l.length:=by
 unfold atI at h
 split at h
 ·refine ⟨i.toNat,by omega,h,?_⟩
  rcases Nat.lt_or_ge i.toNat l.length with h' | h'
  ·exact h'
  ·rw [List.getElem?_eq_none (by omega)] at h; cases h
 ·cases h
theorem zi5 {α:Type} {l:List α} {i:Int} (h:atI l i=none):i<0∨(l.length:Int)≤i:=by
 unfold atI at h
 split at h
 ·right
  rcases Nat.lt_or_ge i.toNat l.length with h' | h'
  ·rw [List.getElem?_eq_getElem h'] at h; cases h
  ·omega
 ·omega
def zb3 (b g:List Int):List Int→List Sl→Option (List Sl)
 | [],h=>some h
 | r::rs,h=>match atI b r,atI g r with
  | some x,some y=>match atI h x with
   | some s=>if (zbc s ⟨1,y⟩).2=true then zb3 b g rs (h.set x.toNat (zbc s ⟨1,y⟩).1) else none
   | none=>none
  | _,_=>none
def zb8 (b g rows:List Int) (k:Int):List Sl×Bool:=if zai k 1 8=true then match zb3 b g rows (List.replicate k.toNat ⟨0,0⟩) with
  | some h=>(h,true)
  | none=>([],false)
 else ([],false)
theorem yhl (n:Nat):zbh (List.replicate n ⟨0,0⟩)=List.replicate n [iv 0,iv 0]:=by simp [zbh,slc]
set_option maxHeartbeats 2000000 in
theorem yua (b g rows:List Int) (k:Int) (hb:b.length≤1048576) (hg:g.length≤1048576) (hr:rows.length≤1048576) (hgi : ∀ x∈g,inI x):RUN T zpm [.sl 1 (zac b),.sl 1 (zac g),.sl 1 (zac rows),iv k]=some ([.own 2 (zbh (zb8 b g rows k).1),bv (zb8 b g rows k).2],[]):=by
 refine zag z9e rfl ?_
 cases hk:zai k 1 8 with
 | false =>
  have e:=zdr k 1 8
  rw [hk] at e
  have e2:zb8 b g rows k=([],false):=by unfold zb8; rw [hk]; rfl
  rw [e2]
  simp [-getElem?_pos,ztm,ztn,-zck,e,zbh]
 | true =>
  have e:=zdr k 1 8
  rw [hk] at e
  have hk':=zax.mp hk
  obtain ⟨kn,rfl⟩ : ∃ n:Nat,k=n:=⟨k.toNat,by omega⟩
  have hro:zak 16 kn=true:=by simp [zak]; omega
  obtain ⟨R,hR⟩ : ∃ R,R=zb8 b g rows kn:=⟨_,rfl⟩
  have hR':R=match zb3 b g rows (List.replicate kn ⟨0,0⟩) with
   | some h=>(h,true)
   | none=>([],false):=by rw [hR]; unfold zb8; rw [if_pos hk]; simp
  rw [← hR]
  clear hR
  simp [-getElem?_pos,ztm,ztn,-zck,e,hro]
  refine za4 (fun n st => ∃ (i:Nat) (h:List Sl),i+n=rows.length∧h.length=kn∧(∀ s∈h,slI s)∧zb3 b g (rows.drop i) h=zb3 b g rows (List.replicate kn ⟨0,0⟩)∧st.V 0 = .sl 1 (zac b)∧st.V 1 = .sl 1 (zac g)∧st.V 3=iv kn∧st.V 10 = .ref 0 none 0 0 kn∧st.V 20 = .sl 1 (zac rows)∧st.V 21=iv rows.length∧st.V 22=iv i∧0<st.nx∧st.S 0=some (.row 2 (zbh h))) ?_ rows.length _ ⟨0,List.replicate kn ⟨0,0⟩,by omega,by simp,?_,by simp,by simp,by simp,by simp,by simp,by simp,by simp,by simp,by simp,by simp [yhl]⟩
  ·rintro n st ⟨i,h,hi,hhl,hhi,hh,v0,v1,v3,v10,v20,v21,v22,hnx,hS⟩
   obtain ⟨z1,z2,z3,z4⟩:=fr hnx
   by_cases hlt:i<rows.length
   ·obtain ⟨r,hrr⟩ : ∃ r,rows[i]?=some r:=⟨_,List.getElem?_eq_getElem hlt⟩
    have hr':=zbg hrr
    have hws:=wS hlt (by omega:rows.length≤9223372036854775807)
    have w1:=w64 (x:=min (b.length:Int) g.length-1) (by omega) (by omega)
    have w2:=w64 (x:=(kn:Int)-1) (by omega) (by omega)
    have e1:=zdr r 0 (min (b.length:Int) g.length-1)
    rw [zeo hrr,zb3] at hh
    cases hbx:atI b r with
    | none =>
     rw [hbx] at hh
     have hn:=zi5 hbx
     have:zai r 0 (min (b.length:Int) g.length-1)=false:=by
      cases hw:zai r 0 (min (b.length:Int) g.length-1) with
      | false=>rfl
      | true=>have:=zax.mp hw; omega
     rw [this] at e1
     rw [← hh] at hR'
     subst hR'
     simp [-getElem?_pos,zno,-zck,v0,v1,v3,v10,v20,v21,v22,hS,hlt,hr',w1,e1,zbh]
    | some x =>
     obtain ⟨rn,rfl,hbr,hbl⟩:=ze0 hbx
     cases hgy:atI g rn with
     | none =>
      rw [hbx,hgy] at hh
      have hn:=zi5 hgy
      have:zai rn 0 (min (b.length:Int) g.length-1)=false:=by
       cases hw:zai rn 0 (min (b.length:Int) g.length-1) with
       | false=>rfl
       | true=>have:=zax.mp hw; omega
      rw [this] at e1
      rw [← hh] at hR'
      subst hR'
      simp [-getElem?_pos,zno,-zck,v0,v1,v3,v10,v20,v21,v22,hS,hlt,hr',w1,e1,zbh]
     | some y =>
      obtain ⟨rn',hrn,hgr,hgl⟩:=ze0 hgy
      have:rn'=rn:=by omega
      subst this
      have:zai rn' 0 (min (b.length:Int) g.length-1)=true:=zax.mpr (by omega)
      rw [this] at e1
      rw [hbx,hgy] at hh
      simp only at hh
      have hb':=zbg hbr
      have hg':=zbg hgr
      have e2:=zdr x 0 ((kn:Int)-1)
      cases hhx:atI h x with
      | none =>
       rw [hhx] at hh
       have hn:=zi5 hhx
       have:zai x 0 ((kn:Int)-1)=false:=by
        cases hw:zai x 0 ((kn:Int)-1) with
        | false=>rfl
        | true=>have:=zax.mp hw; omega
       rw [this] at e2
       simp only at hh
       rw [← hh] at hR'
       subst hR'
       simp [-getElem?_pos,zno,-zck,v0,v1,v3,v10,v20,v21,v22,hS,hlt,hr',hb',hbl,w1,w2,e1,e2,zbh]
      | some s =>
       obtain ⟨xn,rfl,hhs,hhl2⟩:=ze0 hhx
       have:zai xn 0 ((kn:Int)-1)=true:=zax.mpr (by omega)
       rw [this] at e2
       rw [hhx] at hh
       have hs':=zli hhs
       have hsi:=hhi s (List.mem_of_getElem? hhs)
       have hyi:=hgi y (List.mem_of_getElem? hgr)
       have hpi:=zly (b:=⟨1,y⟩) hsi
       have e3:=z36 s ⟨1,y⟩ hsi ⟨by unfold inI; simp,hyi⟩
       simp only [Int.toNat_natCast] at hh
       have hxk:xn<kn:=by omega
       generalize zbc s ⟨1,y⟩=p at *
       obtain ⟨⟨pn,pg⟩,pb⟩:=p
       simp only [slc] at e3 hh
       cases pb with
       | false =>
        rw [if_neg (by simp)] at hh
        rw [← hh] at hR'
        subst hR'
        simp [-getElem?_pos,zno,-zck,v0,v1,v3,v10,v20,v21,v22,hS,hlt,hr',hb',hbl,hg',hgl,hs',hxk,hhl,w1,w2,e1,e2,e3,z1,z2,z3,z4]
        simp [zbh]
       | true =>
        rw [if_pos rfl] at hh
        have hset:=ydl h xn pn pg
        simp [-getElem?_pos,zno,-zck,v0,v1,v3,v10,v20,v21,v22,hS,hlt,hr',hb',hbl,hg',hgl,hs',hxk,hhl,w1,w2,e1,e2,e3,hws,hset,z1,z2,z3,z4]
        refine zam (n-1) (by omega) ⟨i+1,h.set xn ⟨pn,pg⟩,by omega,by simp [hhl],fun q hq => ?_,hh,by simp [v0],by simp [v1],by simp [v3],by simp [v10],by simp [v20],by simp [v21],by simp,by simp,by simp⟩
        rcases List.mem_or_eq_of_mem_set hq with h' | h'
        ·exact hhi q h'
        ·subst h'; exact hpi
   ·rw [List.drop_eq_nil_of_le (by omega),zb3] at hh
    rw [← hh] at hR'
    subst hR'
    simp [-getElem?_pos,zno,v10,v21,v22,hS,hlt,hhl]
  ·intro s hs
   have:=List.eq_of_mem_replicate hs
   subst this
   exact ⟨by unfold inI; simp,by unfold inI; simp⟩
set_option maxHeartbeats 2000000 in
theorem yub (b g rows:List Int) (k:Int) (hb:b.length≤1048576) (hg:g.length≤1048576) (hr:rows.length≤1048576) (hgi : ∀ x∈g,inI x):RUN T zpp [.sl 1 (zac b),.sl 1 (zac g),.sl 1 (zac rows),iv k]=some ([.own 2 (zbh (zb8 b g rows k).1),bv (zb8 b g rows k).2],[]):=by
 refine zag z9i rfl ?_
 cases hk:zai k 1 8 with
 | false =>
  have e:=zbm k 1 8
  rw [hk] at e
  have e2:zb8 b g rows k=([],false):=by unfold zb8; rw [hk]; rfl
  rw [e2]
  simp [-getElem?_pos,zto,ztp,-za6,e,zbh]
 | true =>
  have e:=zbm k 1 8
  rw [hk] at e
  have hk':=zax.mp hk
  obtain ⟨kn,rfl⟩ : ∃ n:Nat,k=n:=⟨k.toNat,by omega⟩
  have hro:zak 16 kn=true:=by simp [zak]; omega
  have hr0:zak 16 0=true:=by decide
  obtain ⟨R,hR⟩ : ∃ R,R=zb8 b g rows kn:=⟨_,rfl⟩
  have hR':R=match zb3 b g rows (List.replicate kn ⟨0,0⟩) with
   | some h=>(h,true)
   | none=>([],false):=by rw [hR]; unfold zb8; rw [if_pos hk]; simp
  rw [← hR]
  clear hR
  simp [-getElem?_pos,zto,ztp,-za6,e,hro,hr0]
  refine za4 (fun n st => ∃ (i:Nat) (h:List Sl),i+n=rows.length∧h.length=kn∧(∀ s∈h,slI s)∧zb3 b g (rows.drop i) h=zb3 b g rows (List.replicate kn ⟨0,0⟩)∧st.V 0 = .sl 1 (zac b)∧st.V 1 = .sl 1 (zac g)∧st.V 2 = .sl 1 (zac rows)∧st.V 3=iv kn∧st.V 10 = .ref 0 none 0 0 0∧st.V 11 = .ref 1 none 0 0 kn∧st.V 12=iv i∧1<st.nx∧st.S 0=some (.row 2 [])∧st.S 1=some (.row 2 (zbh h))) ?_ rows.length _ ⟨0,List.replicate kn ⟨0,0⟩,by omega,by simp,?_,by simp,by simp,by simp,by simp,by simp,by simp,by simp,by simp,by simp,by simp,by simp [yhl]⟩
  ·rintro n st ⟨i,h,hi,hhl,hhi,hh,v0,v1,v2,v3,v10,v11,v12,hnx,hS0,hS⟩
   obtain ⟨z1,z2,z3,z4⟩:=fr hnx
   obtain ⟨y1,y2,y3,y4⟩:=fr (show 0<st.nx by omega)
   by_cases hlt:i<rows.length
   ·obtain ⟨r,hrr⟩ : ∃ r,rows[i]?=some r:=⟨_,List.getElem?_eq_getElem hlt⟩
    have hr':=zbg hrr
    have hws:=wS hlt (by omega:rows.length≤9223372036854775807)
    have w1:=w64 (x:=(b.length:Int)-1) (by omega) (by omega)
    have w1':=w64 (x:=(g.length:Int)-1) (by omega) (by omega)
    have w2:=w64 (x:=(kn:Int)-1) (by omega) (by omega)
    have e1:=zbm r 0 ((b.length:Int)-1)
    have e1':=zbm r 0 ((g.length:Int)-1)
    rw [zeo hrr,zb3] at hh
    cases hbx:atI b r with
    | none =>
     rw [hbx] at hh
     have hn:=zi5 hbx
     have:zai r 0 ((b.length:Int)-1)=false:=by
      cases hw:zai r 0 ((b.length:Int)-1) with
      | false=>rfl
      | true=>have:=zax.mp hw; omega
     rw [this] at e1
     rw [← hh] at hR'
     subst hR'
     simp [-getElem?_pos,znp,-za6,v0,v1,v2,v3,v10,v11,v12,hS0,hS,hlt,hr',w1,e1,zbh]
    | some x =>
     obtain ⟨rn,rfl,hbr,hbl⟩:=ze0 hbx
     cases hgy:atI g rn with
     | none =>
      rw [hbx,hgy] at hh
      have hn:=zi5 hgy
      have:zai rn 0 ((g.length:Int)-1)=false:=by
       cases hw:zai rn 0 ((g.length:Int)-1) with
       | false=>rfl
       | true=>have:=zax.mp hw; omega
      rw [this] at e1'
      rw [show zai rn 0 ((b.length:Int)-1)=true from zax.mpr (by omega)] at e1
      rw [← hh] at hR'
      subst hR'
      simp [-getElem?_pos,znp,-za6,v0,v1,v2,v3,v10,v11,v12,hS0,hS,hlt,hr',w1,w1',e1,e1',zbh]
     | some y =>
      obtain ⟨rn',hrn,hgr,hgl⟩:=ze0 hgy
      have:rn'=rn:=by omega
      subst this
      rw [show zai rn' 0 ((b.length:Int)-1)=true from zax.mpr (by omega)] at e1
      rw [show zai rn' 0 ((g.length:Int)-1)=true from zax.mpr (by omega)] at e1'
      rw [hbx,hgy] at hh
      simp only at hh
      have hb':=zbg hbr
      have hg':=zbg hgr
      have e2:=zbm x 0 ((kn:Int)-1)
      cases hhx:atI h x with
      | none =>
       rw [hhx] at hh
       have hn:=zi5 hhx
       have:zai x 0 ((kn:Int)-1)=false:=by
        cases hw:zai x 0 ((kn:Int)-1) with
        | false=>rfl
        | true=>have:=zax.mp hw; omega
       rw [this] at e2
       simp only at hh
       rw [← hh] at hR'
       subst hR'
       simp [-getElem?_pos,znp,-za6,v0,v1,v2,v3,v10,v11,v12,hS0,hS,hlt,hr',hb',hbl,w1,w1',w2,e1,e1',e2,zbh]
      | some s =>
       obtain ⟨xn,rfl,hhs,hhl2⟩:=ze0 hhx
       have:zai xn 0 ((kn:Int)-1)=true:=zax.mpr (by omega)
       rw [this] at e2
       rw [hhx] at hh
       have hs':=zli hhs
       have hsi:=hhi s (List.mem_of_getElem? hhs)
       have hyi:=hgi y (List.mem_of_getElem? hgr)
       have hpi:=zly (b:=⟨1,y⟩) hsi
       have e3:=z37 s ⟨1,y⟩ hsi ⟨by unfold inI; simp,hyi⟩
       simp only [Int.toNat_natCast] at hh
       have hxk:xn<kn:=by omega
       generalize zbc s ⟨1,y⟩=p at *
       obtain ⟨⟨pn,pg⟩,pb⟩:=p
       simp only [slc] at e3 hh
       cases pb with
       | false =>
        rw [if_neg (by simp)] at hh
        rw [← hh] at hR'
        subst hR'
        simp [-getElem?_pos,znp,-za6,v0,v1,v2,v3,v10,v11,v12,hS0,hS,hlt,hr',hb',hbl,hg',hgl,hs',hxk,hhl,w1,w1',w2,e1,e1',e2,e3,z1,z2,z3,z4,y1,y2,y3,y4]
        simp [zbh]
       | true =>
        rw [if_pos rfl] at hh
        have hset:=ydl h xn pn pg
        simp [-getElem?_pos,znp,-za6,v0,v1,v2,v3,v10,v11,v12,hS0,hS,hlt,hr',hb',hbl,hg',hgl,hs',hxk,hhl,w1,w1',w2,e1,e1',e2,e3,hws,hset,z1,z2,z3,z4,y1,y2,y3,y4]
        refine zam (n-1) (by omega) ⟨i+1,h.set xn ⟨pn,pg⟩,by omega,by simp [hhl],fun q hq => ?_,hh,by simp [v0],by simp [v1],by simp [v2],by simp [v3],by simp [v10],by simp [v11],by simp,by simp; omega,by simp [y1,y2,y3,y4,z1,z2,z3,z4,hS0],by simp⟩
        rcases List.mem_or_eq_of_mem_set hq with h' | h'
        ·exact hhi q h'
        ·subst h'; exact hpi
   ·rw [List.drop_eq_nil_of_le (by omega),zb3] at hh
    rw [← hh] at hR'
    subst hR'
    simp [-getElem?_pos,znp,v2,v11,v12,hS,hlt,hhl]
  ·intro s hs
   have:=List.eq_of_mem_replicate hs
   subst this
   exact ⟨by unfold inI; simp,by unfold inI; simp⟩
def zu4 (q:Bool) (l:List Sl):PV:=if q then .own 2 (zbh l) else .sl 2 (zbh l)
@[simp] theorem y8c (q:Bool) (l:List Sl):fz (zu4 q l) = .sl 2 (zbh l):=by cases q <;> simp [zu4]
def rss (q:Bool) (H:List (List Sl)):List (List PV):=H.map fun l=>[zu4 q l]
@[simp] theorem qde (q:Bool) (H:List (List Sl)):(rss q H).length=H.length:=by simp [rss]
theorem yj6 {q:Bool} {H:List (List Sl)} {i:Nat} {l:List Sl} (h:H[i]?=some l):(rss q H)[i]?=some [zu4 q l]:=by simp [rss,h]
theorem yjv (H:List (List Sl)) (l:List Sl):rss true H++[[.own 2 (zbh l)]]=rss true (H++[l]):=by simp [rss,zu4]
def zcg (g rows:List Int):List (List Int)→List (List Int)→Option (List (List Sl))
 | x::c,y::v=>if (zb8 y g rows (x.length+1)).2=true then (zcg g rows c v).map ((zb8 y g rows (x.length+1)).1 :: ·) else none
 | _,_=>some []
def zb1 (c v:List (List Int)) (g rows:List Int):List (List Sl)×Bool:=if zdl c v=true then match zcg g rows c v with
  | some h=>(h,true)
  | none=>([],false)
 else ([],false)
theorem yi8 {g rows:List Int} {c v:List (List Int)} {i:Nat} {x y:List Int} (hx:c[i]?=some x) (hy:v[i]?=some y):zcg g rows (c.drop i) (v.drop i)=if (zb8 y g rows (x.length+1)).2=true then (zcg g rows (c.drop (i+1)) (v.drop (i+1))).map ((zb8 y g rows (x.length+1)).1 :: ·) else none:=by
 rw [zeo hx,zeo hy,zcg]
theorem yhu {g rows:List Int} {v:List (List Int)}:zcg g rows [] v=some []:=by simp [zcg]
theorem z7d {b g:List Int} : ∀ (rows:List Int) (h h':List Sl),zb3 b g rows h=some h'→h'.length=h.length
 | [],h,h',e=>by simp [zb3] at e; subst e; rfl
 | r::rs,h,h',e=>by
  simp only [zb3] at e
  split at e
  ·split at e
   ·split at e
    ·have:=z7d rs _ _ e
     simpa using this
    ·cases e
   ·cases e
  ·cases e
theorem y1d (b g rows:List Int) (k:Int):(zb8 b g rows k).1.length≤8:=by
 unfold zb8
 split
 ·rename_i hk
  have:=zax.mp hk
  cases h:zb3 b g rows (List.replicate k.toNat ⟨0,0⟩) with
  | none=>simp
  | some h'=>have:=z7d _ _ _ h; simp at this; simp; omega
 ·simp
theorem yhb {g rows:List Int} : ∀ (c v:List (List Int)) (H:List (List Sl)),zcg g rows c v=some H→H.length≤c.length∧∀ l∈H,l.length≤8
 | [],v,H,h=>by simp [zcg] at h; subst h; simp
 | x::c,[],H,h=>by simp [zcg] at h; subst h; simp
 | x::c,y::v,H,h=>by
  simp only [zcg] at h
  split at h
  ·simp only [Option.map_eq_some_iff] at h
   obtain ⟨H',h1,rfl⟩:=h
   obtain ⟨h2,h3⟩:=yhb c v H' h1
   refine ⟨by simp; omega,fun l hl => ?_⟩
   rcases List.mem_cons.mp hl with e | e
   ·subst e; exact y1d _ _ _ _
   ·exact h3 l e
  ·cases h
theorem zsg (c v:List (List Int)) (g rows:List Int):(zb1 c v g rows).1.length≤c.length∧∀ l∈(zb1 c v g rows).1,l.length≤8:=by
 unfold zb1
 split
 ·cases h:zcg g rows c v with
  | none=>simp
  | some H=>exact yhb c v H h
 ·simp
theorem zrp {c v:List (List Int)} (h:zdl c v=true):v.length=c.length∧c.length≤4:=by
 unfold zdl at h
 simp only [Bool.and_eq_true,decide_eq_true_eq] at h
 have:=zax.mp h.1.1.1
 omega
set_option maxHeartbeats 2000000 in
theorem yuc (q:Bool) (c v:List (List Int)) (g rows:List Int) (hc : ∀ l∈c,l.length≤1048576) (hv : ∀ l∈v,l.length≤1048576) (hg:g.length≤1048576) (hr:rows.length≤1048576) (hgi : ∀ x∈g,inI x):RUN T zo5 [.agg [.sl 1 (rws q c),.sl 1 (rws q v)],.sl 1 (zac g),.sl 1 (zac rows)]=some ([.own 1 (rss true (zb1 c v g rows).1),bv (zb1 c v g rows).2],[]):=by
 refine zag z79 rfl ?_
 have e:=yb1 q c v (fun l hl=>Nat.le_trans (hc l hl) (by omega)) (fun l hl=>Nat.le_trans (hv l hl) (by omega))
 cases hk:zdl c v with
 | false =>
  rw [hk] at e
  have e2:zb1 c v g rows=([],false):=by unfold zb1; rw [hk]; rfl
  rw [e2]
  simp [-getElem?_pos,zsw,zsx,e,rss]
 | true =>
  rw [hk] at e
  obtain ⟨hvc,hc4⟩:=zrp hk
  obtain ⟨R,hR⟩ : ∃ R,R=zb1 c v g rows:=⟨_,rfl⟩
  have hR':R=match zcg g rows c v with
   | some h=>(h,true)
   | none=>([],false):=by rw [hR]; unfold zb1; rw [if_pos hk]
  rw [← hR]
  clear hR
  have hr0:zak 24 0=true:=by decide
  have hr1:zak 24 1=true:=by decide
  simp [-getElem?_pos,zsw,zsx,e,hr0]
  refine za4 (fun n st => ∃ (i o e:Nat) (H:List (List Sl)),i+n=c.length∧H.length=i∧zcg g rows c v=(zcg g rows (c.drop i) (v.drop i)).map (H ++ ·)∧st.V 1 = .sl 1 (zac g)∧st.V 2 = .sl 1 (zac rows)∧st.V 3 = .ptr 0 none 0 0 0∧st.V 8 = .ref o none e 0 H.length∧st.V 18 = .sl 1 (rws q c)∧st.V 19=iv c.length∧st.V 20=iv i∧0<o∧o<st.nx∧st.S 0=some (.box [.sl 1 (rws q c),.sl 1 (rws q v)])∧st.S o=some (.row 1 (rss true H))) ?_ c.length _ ⟨0,1,0,[],by simp [rss]⟩
  rintro n st ⟨i,o,ep,H,hi,hH,hL,v1,v2,v3,v8,v18,v19,v20,ho,hox,hS,hSo⟩
  obtain ⟨x1,x2,x3,x4⟩:=fr hox
  obtain ⟨g1,g2,g3,g4⟩:=fr ho
  obtain ⟨z1,z2,z3,z4⟩:=fr (show 0<st.nx by omega)
  by_cases hlt:i<c.length
  ·obtain ⟨x,hx⟩ : ∃ x,c[i]?=some x:=⟨_,List.getElem?_eq_getElem hlt⟩
   obtain ⟨y,hy⟩ : ∃ y,v[i]?=some y:=⟨_,List.getElem?_eq_getElem (by omega)⟩
   have hx':=zd1 (q:=q) hx
   have hy':=zd1 (q:=q) hy
   have hiv:i<v.length:=by omega
   have hxl:=hc x (List.mem_of_getElem? hx)
   have hws:=wS hlt (by omega:c.length≤9223372036854775807)
   have hwl:=w64 (x:=(x.length:Int)+1) (by omega) (by omega)
   have hh:=yua y g rows (x.length+1) (hv y (List.mem_of_getElem? hy)) hg hr hgi
   have hr24:zak 24 (H.length+1)=true:=by simp [zak]; omega
   rw [yi8 hx hy] at hL
   generalize zb8 y g rows (x.length+1)=p at *
   obtain ⟨ph,pb⟩:=p
   simp only at hh hL
   cases pb with
   | false =>
    rw [if_neg (by simp)] at hL
    rw [hL] at hR'
    subst hR'
    simp [-getElem?_pos,zwh,v1,v2,v3,v8,v18,v19,v20,hS,hSo,hlt,hiv,hx',hy',hwl,hh,rss,x1,x2,x3,x4,g1,g2,g3,g4,z1,z2,z3,z4]
   | true =>
    rw [if_pos rfl] at hL
    have hsn:=yjv H ph
    simp [-getElem?_pos,zwh,v1,v2,v3,v8,v18,v19,v20,hS,hSo,hlt,hiv,hx',hy',hwl,hws,hh,hr1,hr24,hsn,x1,x2,x3,x4,g1,g2,g3,g4,z1,z2,z3,z4]
    exact zam (n-1) (by omega) ⟨i+1,st.nx+2,st.ep,H++[ph],by omega,by simp [hH],by rw [hL]; cases zcg g rows (c.drop (i+1)) (v.drop (i+1)) <;> simp,by simp [v1],by simp [v2],by simp [v3],by simp,by simp [v18],by simp [v19],by simp,by omega,by simp,by simp [x1,x2,x3,x4,g1,g2,g3,g4,z1,z2,z3,z4,hS],by simp⟩
  ·have h0:c.drop i=[]:=List.drop_eq_nil_of_le (by omega)
   rw [h0,yhu] at hL
   rw [hL] at hR'
   simp only [Option.map_some,List.append_nil] at hR'
   subst hR'
   simp [-getElem?_pos,zwh,v8,v19,v20,hSo,hlt]
set_option maxHeartbeats 2000000 in
theorem yud (q:Bool) (c v:List (List Int)) (g rows:List Int) (hc : ∀ l∈c,l.length≤1048576) (hv : ∀ l∈v,l.length≤1048576) (hg:g.length≤1048576) (hr:rows.length≤1048576) (hgi : ∀ x∈g,inI x):RUN T zo8 [.agg [.sl 1 (rws q c),.sl 1 (rws q v)],.sl 1 (zac g),.sl 1 (zac rows)]=some ([.own 1 (rss true (zb1 c v g rows).1),bv (zb1 c v g rows).2],[]):=by
 refine zag z8c rfl ?_
 have e:=yb2 q c v (fun l hl=>Nat.le_trans (hc l hl) (by omega)) (fun l hl=>Nat.le_trans (hv l hl) (by omega))
 cases hk:zdl c v with
 | false =>
  rw [hk] at e
  have e2:zb1 c v g rows=([],false):=by unfold zb1; rw [hk]; rfl
  rw [e2]
  have hr0:zak 24 0=true:=by decide
  simp [-getElem?_pos,zsy,zsz,e,hr0,rss]
 | true =>
  rw [hk] at e
  obtain ⟨hvc,hc4⟩:=zrp hk
  obtain ⟨R,hR⟩ : ∃ R,R=zb1 c v g rows:=⟨_,rfl⟩
  have hR':R=match zcg g rows c v with
   | some h=>(h,true)
   | none=>([],false):=by rw [hR]; unfold zb1; rw [if_pos hk]
  rw [← hR]
  clear hR
  have hr0:zak 24 0=true:=by decide
  have hr1:zak 24 1=true:=by decide
  simp [-getElem?_pos,zsy,zsz,e,hr0]
  refine za4 (fun n st => ∃ (i o e:Nat) (H:List (List Sl)),i+n=c.length∧H.length=i∧zcg g rows c v=(zcg g rows (c.drop i) (v.drop i)).map (H ++ ·)∧st.V 1 = .sl 1 (zac g)∧st.V 2 = .sl 1 (zac rows)∧st.V 3 = .ptr 0 none 0 0 0∧st.V 8 = .ref o none e 0 H.length∧st.V 9=iv i∧0<o∧o<st.nx∧st.S 0=some (.box [.sl 1 (rws q c),.sl 1 (rws q v)])∧st.S o=some (.row 1 (rss true H))) ?_ c.length _ ⟨0,1,0,[],by simp [rss]⟩
  rintro n st ⟨i,o,ep,H,hi,hH,hL,v1,v2,v3,v8,v9,ho,hox,hS,hSo⟩
  obtain ⟨x1,x2,x3,x4⟩:=fr hox
  obtain ⟨g1,g2,g3,g4⟩:=fr ho
  obtain ⟨z1,z2,z3,z4⟩:=fr (show 0<st.nx by omega)
  by_cases hlt:i<c.length
  ·obtain ⟨x,hx⟩ : ∃ x,c[i]?=some x:=⟨_,List.getElem?_eq_getElem hlt⟩
   obtain ⟨y,hy⟩ : ∃ y,v[i]?=some y:=⟨_,List.getElem?_eq_getElem (by omega)⟩
   have hx':=zd1 (q:=q) hx
   have hy':=zd1 (q:=q) hy
   have hiv:i<v.length:=by omega
   have hxl:=hc x (List.mem_of_getElem? hx)
   have hws:=wS hlt (by omega:c.length≤9223372036854775807)
   have hwl:=w64 (x:=(x.length:Int)+1) (by omega) (by omega)
   have hh:=yub y g rows (x.length+1) (hv y (List.mem_of_getElem? hy)) hg hr hgi
   have hr24:zak 24 (H.length+1)=true:=by simp [zak]; omega
   rw [yi8 hx hy] at hL
   generalize zb8 y g rows (x.length+1)=p at *
   obtain ⟨ph,pb⟩:=p
   simp only at hh hL
   cases pb with
   | false =>
    rw [if_neg (by simp)] at hL
    rw [hL] at hR'
    subst hR'
    simp [-getElem?_pos,zwo,v1,v2,v3,v8,v9,hr0,hS,hSo,hlt,hiv,hx',hy',hwl,hh,rss,x1,x2,x3,x4,g1,g2,g3,g4,z1,z2,z3,z4]
   | true =>
    rw [if_pos rfl] at hL
    have hsn:=yjv H ph
    simp [-getElem?_pos,zwo,v1,v2,v3,v8,v9,hr0,hS,hSo,hlt,hiv,hx',hy',hwl,hws,hh,hr1,hr24,hsn,x1,x2,x3,x4,g1,g2,g3,g4,z1,z2,z3,z4]
    exact zam (n-1) (by omega) ⟨i+1,st.nx+2,st.ep,H++[ph],by omega,by simp [hH],by rw [hL]; cases zcg g rows (c.drop (i+1)) (v.drop (i+1)) <;> simp,by simp [v1],by simp [v2],by simp [v3],by simp,by simp,by omega,by simp,by simp [x1,x2,x3,x4,g1,g2,g3,g4,z1,z2,z3,z4,hS],by simp⟩
  ·have h0:c.drop i=[]:=List.drop_eq_nil_of_le (by omega)
   rw [h0,yhu] at hL
   rw [hL] at hR'
   simp only [Option.map_some,List.append_nil] at hR'
   subst hR'
   simp [-getElem?_pos,zwo,v3,v8,v9,hS,hSo,hlt]
def yc5 (k:Int) (n:Nat):List Sl:=(List.range n).map fun (i:Nat)=>⟨k+2*(i:Int),k+2*(i:Int)+1⟩
@[simp] theorem qap (k:Int) (n:Nat):(yc5 k n).length=n:=by simp [yc5]
theorem ych (x:Int):RUN T zm4 [iv x]=some ([bv false],[]):=by
 refine zag ybm rfl ?_
 simp [z06,z07]
theorem yci (x y:Int):RUN T zmv [iv x,iv y]=some ([iv (zb5 x y)],[]):=by
 refine zag yaz rfl ?_
 have e1:=ych x
 have e2:=ych y
 unfold zb5
 by_cases h1:x<y
 ·simp [zrb,zrc,e1,e2,h1]
 ·by_cases h2:y<x
  ·simp [zrb,zrc,e1,e2,h1,h2]
  ·simp [zrb,zrc,e1,e2,h1,h2]
theorem yue (a b:Wd) (ha:wfU a) (hb:wfU b):RUN T zp9 [.agg (wd a),.agg (wd b)]=some ([iv (zhv a b)],[]):=by
 refine zag yam rfl ?_
 have n1:(a.n && (decide (0<a.h) || decide (0<a.l)))=zem a:=by
  obtain ⟨h0,_,h1,_⟩:=ha
  unfold zem
  congr 1
  rw [Bool.eq_iff_iff]; simp; omega
 have n2:(b.n && (decide (0<b.h) || decide (0<b.l)))=zem b:=by
  obtain ⟨h0,_,h1,_⟩:=hb
  unfold zem
  congr 1
  rw [Bool.eq_iff_iff]; simp; omega
 have e1:=zui a.n a.h a.l
 have e2:=zui b.n b.h b.l
 rw [n1] at e1
 rw [n2] at e2
 have e3:=z34 ⟨zem a,a.h,a.l⟩ ⟨zem b,b.h,b.l⟩
 have e4:=z34 ⟨zem b,b.h,b.l⟩ ⟨zem a,a.h,a.l⟩
 have o1:zeu ⟨zem a,a.h,a.l⟩ ⟨zem b,b.h,b.l⟩=zeu a b:=rfl
 have o2:zeu ⟨zem b,b.h,b.l⟩ ⟨zem a,a.h,a.l⟩=zeu b a:=rfl
 rw [o1] at e3
 rw [o2] at e4
 clear o1 o2 n1 n2 ha hb
 unfold zhv
 generalize zeu a b=x at *
 generalize zeu b a=y at *
 generalize zem a=p at *
 generalize zem b=q at *
 obtain ⟨an,ah,al⟩:=a
 obtain ⟨bn,bh,bl⟩:=b
 simp only [wd] at e1 e2 e3 e4 ⊢
 cases p <;> cases q <;> simp [zzw,zzx,e1,e2,e3,e4]
structure Fr where
 w:Wd
 d:Int
def frc (f:Fr):List PV:=[bv f.w.n,uv f.w.h,uv f.w.l,iv f.d]
def frB (f:Fr):Bool:=wok f.w && zai f.d 1 1000000
def zet:Fr:=⟨za9,0⟩
def zcm (w:Wd) (d:Int):Fr×Bool:=if frB ⟨w,d⟩=true then (⟨w,d⟩,true) else (zet,false)
theorem z38 (f:Fr):RUN T zk1 [.agg (frc f)]=some ([bv (frB f)],[]):=by
 refine zag ya6 rfl ?_
 have e1:=zrl f.w
 have e2:=zdr f.d 1 1000000
 unfold frB
 generalize wok f.w=x at *
 generalize zai f.d 1 1000000=y at *
 simp only [wd] at e1
 cases x <;> simp [z0n,z0o,-zck,frc,e1,e2]
theorem z1m (f:Fr):RUN T zja [.agg (frc f)]=some ([bv (frB f)],[]):=by
 refine zag ybd rfl ?_
 have e1:=zrm f.w
 have e2:=zbm f.d 1 1000000
 unfold frB
 generalize wok f.w=x at *
 generalize zai f.d 1 1000000=y at *
 simp only [wd] at e1
 cases x <;> simp [z0v,z0w,-za6,frc,e1,e2]
theorem ycj (w:Wd) (d:Int):RUN T zmx [.agg (wd w),iv d]=some ([.agg (frc (zcm w d).1),bv (zcm w d).2],[]):=by
 refine zag ya4 rfl ?_
 have e1:=z38 ⟨w,d⟩
 unfold zcm
 generalize frB ⟨w,d⟩=x at *
 simp only [frc] at e1
 cases x <;> simp [z0j,z0k,wd,frc,zet,za9,e1]
theorem yuf (a d:Int) (ha:inI a):RUN T zp8 [iv a,iv d]=some ([.agg (frc (zcm (zcr a a) d).1),bv (zcm (zcr a a) d).2],[]):=by
 refine zag yak rfl ?_
 have e1:=yt5 a a ha ha
 have e2:=ycj (zcr a a) d
 generalize zcr a a=m at *
 generalize zcm m d=f at *
 obtain ⟨⟨fw,fd⟩,fb⟩:=f
 simp only [wd,frc] at e1 e2 ⊢
 simp [zzs,zzt,e1,e2]
theorem yug (a d:Int) (ha:inI a):RUN T zqm [iv a,iv d]=some ([.agg (frc (zcm (zcr a a) d).1),bv (zcm (zcr a a) d).2],[]):=by
 refine zag ybe rfl ?_
 have e1:=yt6 a a ha ha
 have e2:=z1m ⟨zcr a a,d⟩
 unfold zcm
 generalize zcr a a=m at *
 generalize frB ⟨m,d⟩=x at *
 simp only [wd,frc] at e1 e2
 cases x <;> simp [z0x,z0y,frc,zet,za9,e1,e2]
def frI (f:Fr):Prop:=wfU f.w∧inI f.d
theorem zvm:wfU za9:=⟨by decide,by decide,by decide,by decide⟩
theorem yi9 (w:Wd) (k:Int) (h:wfU w):wfU (zcp w k).1:=by
 unfold zcp
 split
 ·rename_i hc
  refine zrs ?_ (by omega)
  obtain ⟨h0,h1,h2,h3⟩:=h
  exact Int.mul_nonneg (by unfold mag; omega) (by omega)
 ·exact zvm
def zbi (a b:Fr):Wd×Wd×Bool:=if (frB a && frB b)=true then ((zcp a.w b.d).1,(zcp b.w a.d).1,(zcp a.w b.d).2 && (zcp b.w a.d).2) else (za9,za9,false)
theorem z2r (a b:Fr) (ha:wfU a.w) (hb:wfU b.w):wfU (zbi a b).1∧wfU (zbi a b).2.1:=by
 unfold zbi
 split
 ·exact ⟨yi9 _ _ ha,yi9 _ _ hb⟩
 ·exact ⟨zvm,zvm⟩
theorem z6w {a b:Fr} (h:(zbi a b).2.2=true):(1≤a.d∧a.d≤1000000)∧1≤b.d∧b.d≤1000000:=by
 unfold zbi at h
 split at h
 ·rename_i hc
  simp only [frB,Bool.and_eq_true] at hc
  exact ⟨zax.mp hc.1.2,zax.mp hc.2.2⟩
 ·cases h
theorem yck (a b:Fr) (ha:frI a) (hb:frI b):RUN T zmq [.agg (frc a),.agg (frc b)]=some ([.agg (wd (zbi a b).1),.agg (wd (zbi a b).2.1),bv (zbi a b).2.2],[]):=by
 refine zag yal rfl ?_
 have e1:=z38 a
 have e2:=z38 b
 have e3:=yce a.w b.d ha.1 hb.2
 have e4:=yce b.w a.d hb.1 ha.2
 unfold zbi
 generalize zcp a.w b.d=x at *
 generalize zcp b.w a.d=y at *
 generalize frB a=p at *
 generalize frB b=q at *
 obtain ⟨⟨an,ah,al⟩,ad⟩:=a
 obtain ⟨⟨bn,bh,bl⟩,bd⟩:=b
 obtain ⟨x,xb⟩:=x
 obtain ⟨y,yb⟩:=y
 simp only [frc,wd] at e1 e2 e3 e4 ⊢
 cases p <;> cases q <;> cases xb <;> simp [zzu,zzv,e1,e2,e3,e4,za9]
theorem ycl (a b:Fr) (ha:frI a) (hb:frI b):RUN T zms [.agg (frc a),.agg (frc b)]=some ([.agg (wd (zbi a b).1),.agg (wd (zbi a b).2.1),bv (zbi a b).2.2],[]):=by
 refine zag yar rfl ?_
 have e1:=z1m a
 have e2:=z1m b
 have e3:=ycf a.w b.d ha.1 hb.2
 have e4:=ycf b.w a.d hb.1 ha.2
 unfold zbi
 generalize zcp a.w b.d=x at *
 generalize zcp b.w a.d=y at *
 generalize frB a=p at *
 generalize frB b=q at *
 obtain ⟨⟨an,ah,al⟩,ad⟩:=a
 obtain ⟨⟨bn,bh,bl⟩,bd⟩:=b
 obtain ⟨x,xb⟩:=x
 obtain ⟨y,yb⟩:=y
 simp only [frc,wd] at e1 e2 e3 e4 ⊢
 cases p <;> cases q <;> cases xb <;> simp [zz4,zz5,e1,e2,e3,e4,za9]
def zdu (a b:Fr):Int×Bool:=if (zbi a b).2.2=true then (zhv (zbi a b).1 (zbi a b).2.1,true) else (0,false)
theorem ycm (a b:Fr) (ha:frI a) (hb:frI b):RUN T zmh [.agg (frc a),.agg (frc b)]=some ([iv (zdu a b).1,bv (zdu a b).2],[]):=by
 refine zag z9s rfl ?_
 have e1:=yck a b ha hb
 obtain ⟨w1,w2⟩:=z2r a b ha.1 hb.1
 have e2:=yue (zbi a b).1 (zbi a b).2.1 w1 w2
 unfold zdu
 generalize zbi a b=r at *
 obtain ⟨x,y,o⟩:=r
 simp only at e2 ⊢
 generalize zhv x y=z at *
 simp only [frc,wd] at e1 e2 ⊢
 cases o <;> simp [zym,zyn,e1,e2]
theorem ycn (a b:Fr) (ha:frI a) (hb:frI b):RUN T zmo [.agg (frc a),.agg (frc b)]=some ([iv (zdu a b).1,bv (zdu a b).2],[]):=by
 refine zag z96 rfl ?_
 have e1:=ycl a b ha hb
 have e2:=yt9 (zbi a b).1 (zbi a b).2.1
 unfold zdu
 generalize zbi a b=r at *
 obtain ⟨x,y,o⟩:=r
 simp only at e2 ⊢
 generalize zhv x y=z at *
 simp only [frc,wd] at e1 e2 ⊢
 cases o <;> simp [zzc,zzd,e1,e2]
def zfc (a b:Fr):Fr×Bool:=if (zbi a b).2.2=true then (if (zco (zbi a b).1 (zbi a b).2.1).2=true then zcm (zco (zbi a b).1 (zbi a b).2.1).1 (a.d*b.d) else (zet,false)) else (zet,false)
theorem yid {a b:Int} (h:(1≤a∧a≤1000000)∧1≤b∧b≤1000000):IntKind.i64.wrap (a*b)=a*b:=by
 have h1:a*b≤1000000*1000000:=Int.mul_le_mul h.1.2 h.2.2 (by omega) (by decide)
 have h2:0≤a*b:=Int.mul_nonneg (by omega) (by omega)
 exact w64 (by omega) (by omega)
theorem yuh (a b:Fr) (ha:frI a) (hb:frI b):RUN T zp7 [.agg (frc a),.agg (frc b)]=some ([.agg (frc (zfc a b).1),bv (zfc a b).2],[]):=by
 refine zag yaj rfl ?_
 have e1:=yck a b ha hb
 obtain ⟨w1,w2⟩:=z2r a b ha.1 hb.1
 have e2:=yt7 (zbi a b).1 (zbi a b).2.1 w1 w2
 have hok := @z6w a b
 have e3:=ycj (zco (zbi a b).1 (zbi a b).2.1).1 (a.d*b.d)
 unfold zfc
 generalize zbi a b=r at *
 obtain ⟨x,y,o⟩:=r
 simp only at e2 e3 hok ⊢
 generalize zco x y=s at *
 obtain ⟨s,so⟩:=s
 simp only at e2 e3 ⊢
 cases o with
 | false =>
  simp only [frc,wd] at e1 ⊢
  simp [zt4,zt5,e1,zet,za9]
 | true =>
  have hm:=yid (hok rfl)
  generalize zcm s (a.d*b.d)=f at *
  obtain ⟨f,fo⟩:=f
  simp only [frc,wd] at e1 e2 e3 ⊢
  cases so <;> simp [zt4,zt5,e1,e2,e3,hm,zet,za9]
theorem yui (a b:Fr) (ha:frI a) (hb:frI b):RUN T zqb [.agg (frc a),.agg (frc b)]=some ([.agg (frc (zfc a b).1),bv (zfc a b).2],[]):=by
 refine zag yaq rfl ?_
 have e1:=ycl a b ha hb
 obtain ⟨w1,w2⟩:=z2r a b ha.1 hb.1
 have e2:=yt8 (zbi a b).1 (zbi a b).2.1 w1 w2
 have hok := @z6w a b
 have e3:=z1m ⟨(zco (zbi a b).1 (zbi a b).2.1).1,a.d*b.d⟩
 unfold zfc zcm
 generalize zbi a b=r at *
 obtain ⟨x,y,o⟩:=r
 simp only at e2 e3 hok ⊢
 generalize zco x y=s at *
 obtain ⟨s,so⟩:=s
 simp only at e2 e3 ⊢
 cases o with
 | false =>
  simp only [frc,wd] at e1 ⊢
  simp [zt6,zt7,e1,zet,za9]
 | true =>
  have hm:=yid (hok rfl)
  generalize frB ⟨s,a.d*b.d⟩=fo at *
  simp only [frc,wd] at e1 e2 e3 ⊢
  cases so <;> cases fo <;> simp [zt6,zt7,e1,e2,e3,hm,frc,zet,za9]
structure Cnd where
 f:Int
 b:Int
 a:Sl
 z:Sl
deriving DecidableEq
def cnd (c:Cnd):List PV:=[iv c.f,iv c.b,iv c.a.n,iv c.a.g,iv c.z.n,iv c.z.g]
def zeb (c:Cnd):Prop:=inI c.f∧inI c.b∧slI c.a∧slI c.z
structure Bd where
 lo:Int
 hi:Int
def bnd (b:Bd):List PV:=[iv b.lo,iv b.hi]
def zc3 (b:Bd):Bool:=decide (b.lo≤b.hi) && zfn b.lo && zfn b.hi
def zb7 (x lo hi:Int):Int:=if x<lo then lo else if hi<x then hi else x
def zhd (n l:Int):Bool:=zai n 0 40 && zai l 1 100
def zdj (s:Sl) (l:Int) (b:Bd):Int×Bool:=if (zhd s.n l && zc3 b)=true then (zb7 (fdv s.g (s.n+l)).1 b.lo b.hi,true) else (0,false)
def zct (s:Sl) (l:Int):Fr×Bool:=if zhd s.n l=true then zcm (zcr s.g s.g) (s.n+l) else (zet,false)
def zav (c:Cnd) (l:Int):Fr×Bool:=if ((zct c.a l).2 && (zct c.z l).2)=true then zfc (zct c.a l).1 (zct c.z l).1 else (zet,false)
theorem yco (n l:Int):RUN T zmk [iv n,iv l]=some ([bv (zhd n l)],[]):=by
 refine zag z9z rfl ?_
 have e1:=zdr n 0 40
 have e2:=zdr l 1 100
 unfold zhd
 generalize zai n 0 40=x at *
 cases x <;> simp [zy0,zy1,-zck,e1,e2]
theorem ycp (b:Bd):RUN T zml [.agg (bnd b)]=some ([bv (zc3 b)],[]):=by
 refine zag z90 rfl ?_
 have e1:=yb0 b.lo
 have e2:=yb0 b.hi
 unfold zc3
 generalize zfn b.lo=x at *
 generalize zfn b.hi=y at *
 by_cases h:b.lo≤b.hi <;> cases x <;> simp [zy2,zy3,bnd,e1,e2,h]
theorem ycq (b:Bd):RUN T zl9 [.agg (bnd b)]=some ([bv (zc3 b)],[]):=by
 refine zag z8y rfl ?_
 have e1:=ybz b.lo
 have e2:=ybz b.hi
 unfold zc3
 generalize zfn b.lo=x at *
 generalize zfn b.hi=y at *
 by_cases h:b.lo≤b.hi <;> cases x <;> simp [zxg,zxh,bnd,e1,e2,h]
theorem ycr (x lo hi:Int):RUN T zmm [iv x,iv lo,iv hi]=some ([iv (zb7 x lo hi)],[]):=by
 refine zag z92 rfl ?_
 unfold zb7
 by_cases h1:x<lo
 ·simp [ztu,ztv,h1]
 ·by_cases h2:hi<x <;> simp [ztu,ztv,h1,h2]
theorem ycs (x lo hi:Int):RUN T zma [iv x,iv lo,iv hi]=some ([iv (zb7 x lo hi)],[]):=by
 refine zag z80 rfl ?_
 unfold zb7
 by_cases h1:x<lo
 ·simp [zte,ztf,h1]
 ·by_cases h2:hi<x <;> simp [zte,ztf,h1,h2]
theorem z12 {n l:Int} (h:zhd n l=true):IntKind.i64.wrap (n+l)=n+l:=by
 unfold zhd at h
 simp only [Bool.and_eq_true] at h
 have h1:=zax.mp h.1
 have h2:=zax.mp h.2
 exact w64 (by omega) (by omega)
theorem zuk (s:Sl) (l:Int) (b:Bd) (hs:slI s):RUN T zi7 [.agg (slc s),iv l,.agg (bnd b)]=some ([iv (zdj s l b).1,bv (zdj s l b).2],[]):=by
 refine zag z8u rfl ?_
 have e1:=yco s.n l
 have e2:=ycp b
 have e3:=ytu s.g (s.n+l) hs.2
 have e4:=ycr (fdv s.g (s.n+l)).1 b.lo b.hi
 have hw := @z12 s.n l
 unfold zdj
 generalize zhd s.n l=x at *
 generalize zc3 b=y at *
 generalize fdv s.g (s.n+l)=q at *
 obtain ⟨q,qo⟩:=q
 simp only [bnd] at e2
 cases x with
 | false=>simp [ztb,ztc,slc,bnd,e1]
 | true =>
  have hw:=hw rfl
  cases y <;> simp [ztb,ztc,slc,bnd,e1,e2,e3,e4,hw]
theorem z39 (s:Sl) (l:Int) (b:Bd) (hs:slI s):RUN T zkl [.agg (slc s),iv l,.agg (bnd b)]=some ([iv (zdj s l b).1,bv (zdj s l b).2],[]):=by
 refine zag z70 rfl ?_
 have e1:=zbm s.n 0 40
 have e1':=zbm l 1 100
 have e2:=ycq b
 have e3:=ytt s.g (s.n+l) hs.2
 have e4:=ycs (fdv s.g (s.n+l)).1 b.lo b.hi
 have hw := @z12 s.n l
 unfold zdj
 unfold zhd at *
 generalize zai s.n 0 40=x at *
 generalize zai l 1 100=x' at *
 generalize zc3 b=y at *
 generalize fdv s.g (s.n+l)=q at *
 obtain ⟨q,qo⟩:=q
 simp only [bnd] at e2
 cases x with
 | false=>simp [zqv,zqw,-za6,slc,bnd,e1]
 | true =>
  cases x' with
  | false=>simp [zqv,zqw,-za6,slc,bnd,e1,e1']
  | true =>
   have hw:=hw rfl
   cases y <;> simp [zqv,zqw,-za6,slc,bnd,e1,e1',e2,e3,e4,hw]
theorem yuj (c:Cnd) (h:zeb c):RUN T zps [.agg (cnd c)]=some ([.agg (slc (zbc c.a c.z).1),bv (zbc c.a c.z).2],[]):=by
 refine zag z9q rfl ?_
 have e1:=z36 c.a c.z h.2.2.1 h.2.2.2
 generalize zbc c.a c.z=p at *
 obtain ⟨⟨pn,pg⟩,pb⟩:=p
 simp only [slc] at e1 ⊢
 simp [zyk,zyl,cnd,e1]
theorem yuk (c:Cnd) (h:zeb c):RUN T zqh [.agg (cnd c)]=some ([.agg (slc (zbc c.a c.z).1),bv (zbc c.a c.z).2],[]):=by
 refine zag ya1 rfl ?_
 have e1:=z37 c.a c.z h.2.2.1 h.2.2.2
 generalize zbc c.a c.z=p at *
 obtain ⟨⟨pn,pg⟩,pb⟩:=p
 simp only [slc] at e1 ⊢
 simp [z0h,z0i,cnd,e1]
theorem z4a (s:Sl) (l:Int) (hs:slI s):RUN T zku [.agg (slc s),iv l]=some ([.agg (frc (zct s l).1),bv (zct s l).2],[]):=by
 refine zag z9r rfl ?_
 have e1:=yco s.n l
 have e2:=yuf s.g (s.n+l) hs.2
 have hw := @z12 s.n l
 unfold zct
 generalize zhd s.n l=x at *
 generalize zcm (zcr s.g s.g) (s.n+l)=f at *
 obtain ⟨⟨fw,fd⟩,fb⟩:=f
 simp only [frc] at e2 ⊢
 cases x with
 | false=>simp [ztq,ztr,slc,e1,zet,za9]
 | true =>
  have hw:=hw rfl
  simp [ztq,ztr,slc,e1,e2,hw]
theorem z4b (s:Sl) (l:Int) (hs:slI s):RUN T zk0 [.agg (slc s),iv l]=some ([.agg (frc (zct s l).1),bv (zct s l).2],[]):=by
 refine zag ya2 rfl ?_
 have e1:=zbm s.n 0 40
 have e1':=zbm l 1 100
 have e2:=yug s.g (s.n+l) hs.2
 have hw := @z12 s.n l
 unfold zct
 unfold zhd at *
 generalize zai s.n 0 40=x at *
 generalize zai l 1 100=x' at *
 generalize zcm (zcr s.g s.g) (s.n+l)=f at *
 obtain ⟨⟨fw,fd⟩,fb⟩:=f
 simp only [frc] at e2 ⊢
 cases x with
 | false=>simp [zrd,zre,-za6,slc,e1,zet,za9]
 | true =>
  cases x' with
  | false=>simp [zrd,zre,-za6,slc,e1,e1',zet,za9]
  | true =>
   have hw:=hw rfl
   simp [zrd,zre,-za6,slc,e1,e1',e2,hw]
theorem yde (w:Wd) (d:Int) (hw:wfU w):frI (zcm w d).1:=by
 unfold zcm
 split
 ·rename_i h
  simp only [frB,Bool.and_eq_true] at h
  have:=zax.mp h.2
  exact ⟨hw,by unfold inI; simp only; omega⟩
 ·exact ⟨zvm,by unfold inI zet; simp⟩
theorem z2y:frI zet:=⟨zvm,by unfold inI zet; simp⟩
theorem zsl (s:Sl) (l:Int) (hs:slI s):frI (zct s l).1:=by
 unfold zct
 split
 ·exact yde _ _ (yzv hs.2 hs.2)
 ·exact z2y
theorem y08 (a b:Fr):frI (zfc a b).1:=by
 unfold zfc
 split
 ·split
  ·exact yde _ _ (y2v _ _)
  ·exact z2y
 ·exact z2y
theorem zlx (c:Cnd) (l:Int):frI (zav c l).1:=by
 unfold zav
 split
 ·exact y08 _ _
 ·exact z2y
theorem z4c (c:Cnd) (l:Int) (h:zeb c):RUN T zkt [.agg (cnd c),iv l]=some ([.agg (frc (zav c l).1),bv (zav c l).2],[]):=by
 refine zag z9p rfl ?_
 have e1:=z4a c.a l h.2.2.1
 have e2:=z4a c.z l h.2.2.2
 have e3:=yuh (zct c.a l).1 (zct c.z l).1 (zsl _ _ h.2.2.1) (zsl _ _ h.2.2.2)
 unfold zav
 generalize zct c.a l=p at *
 generalize zct c.z l=q at *
 obtain ⟨p,pb⟩:=p
 obtain ⟨q,qb⟩:=q
 simp only at e1 e2 e3 ⊢
 generalize zfc p q=r at *
 obtain ⟨r,rb⟩:=r
 simp only [frc,slc] at e1 e2 e3 ⊢
 cases pb <;> cases qb <;> simp [zyi,zyj,cnd,e1,e2,e3,zet,za9]
theorem z4d (c:Cnd) (l:Int) (h:zeb c):RUN T zky [.agg (cnd c),iv l]=some ([.agg (frc (zav c l).1),bv (zav c l).2],[]):=by
 refine zag yah rfl ?_
 have e1:=z4b c.a l h.2.2.1
 have e2:=z4b c.z l h.2.2.2
 have e3:=yui (zct c.a l).1 (zct c.z l).1 (zsl _ _ h.2.2.1) (zsl _ _ h.2.2.2)
 unfold zav
 generalize zct c.a l=p at *
 generalize zct c.z l=q at *
 obtain ⟨p,pb⟩:=p
 obtain ⟨q,qb⟩:=q
 simp only at e1 e2 e3 ⊢
 generalize zfc p q=r at *
 obtain ⟨r,rb⟩:=r
 simp only [frc,slc] at e1 e2 e3 ⊢
 cases pb <;> cases qb <;> simp [zzq,zzr,cnd,e1,e2,e3,zet,za9]
abbrev cfS (c:Cfg):PV := .agg [iv c.ro,iv c.de,iv c.bi,iv c.la,iv c.rw,iv c.nu,iv c.dn,.sl 1 (zac c.sg)]
def zby (c:Cfg) (b:Bd) (x:Cnd):Int×Int×Bool:=if ((zdj x.a c.la b).2 && (zdj x.z c.la b).2)=true then ((zdj x.a c.la b).1,(zdj x.z c.la b).1,true) else (0,0,false)
def zdm (c:Cfg) (f:Int):Int:=(atI c.sg f).getD 0
def zlq (s l r:Int):Bool:=if s=1 then decide (l≤r) else if s = -1 then decide (r≤l) else true
def zjt (x:Cnd) (l:Int):Bool:=(zav x l).2 && ((zbc x.a x.z).2 && ((zct (zbc x.a x.z).1 l).2 && ((zdu (zav x l).1 (zct (zbc x.a x.z).1 l).1).2 && decide (0<(zdu (zav x l).1 (zct (zbc x.a x.z).1 l).1).1))))
def zf2 (a b:Cnd):Bool:=decide (a.f<b.f) || (decide (a.f=b.f) && decide (a.b<b.b))
def zcd (a b:Cnd) (l:Int):Bool:=(zav a l).2 && ((zav b l).2 && ((zdu (zav a l).1 (zav b l).1).2 && (decide (0<(zdu (zav a l).1 (zav b l).1).1) || (decide ((zdu (zav a l).1 (zav b l).1).1=0) && zf2 a b))))
theorem z4e (c:Cfg) (b:Bd) (x:Cnd) (h:zeb x):RUN T zkm [cfS c,.agg (bnd b),.agg (cnd x)]=some ([iv (zby c b x).1,iv (zby c b x).2.1,bv (zby c b x).2.2],[]):=by
 have e1:=zuk x.a c.la b h.2.2.1
 have e2:=zuk x.z c.la b h.2.2.2
 unfold zby
 generalize zdj x.a c.la b=p at *
 generalize zdj x.z c.la b=q at *
 obtain ⟨p,pb⟩:=p
 obtain ⟨q,qb⟩:=q
 simp only [slc,bnd] at e1 e2 ⊢
 refine zag z8g rfl ?_
 cases pb <;> cases qb <;> simp [zww,zwx,cnd,e1,e2]
theorem yct (c:Cfg) (b:Bd) (x:Cnd) (h:zeb x):RUN T zmb [cfS c,.agg (bnd b),.agg (cnd x)]=some ([iv (zby c b x).1,iv (zby c b x).2.1,bv (zby c b x).2.2],[]):=by
 have e1:=z39 x.a c.la b h.2.2.1
 have e2:=z39 x.z c.la b h.2.2.2
 unfold zby
 generalize zdj x.a c.la b=p at *
 generalize zdj x.z c.la b=q at *
 obtain ⟨p,pb⟩:=p
 obtain ⟨q,qb⟩:=q
 simp only [slc,bnd] at e1 e2 ⊢
 refine zag z82 rfl ?_
 cases pb <;> cases qb <;> simp [zxm,zxn,cnd,e1,e2]
theorem z4f (c:Cfg) (f:Int) (hl:c.sg.length≤9223372036854775807):RUN T zkn [cfS c,iv f]=some ([iv (zdm c f)],[]):=by
 refine zag z8j rfl ?_
 have hw:=w64 (x:=(c.sg.length:Int)-1) (by omega) (by omega)
 have e1:=zdr f 0 ((c.sg.length:Int)-1)
 unfold zdm
 cases hs:atI c.sg f with
 | none =>
  have hn:=zi5 hs
  have:zai f 0 ((c.sg.length:Int)-1)=false:=by
   cases hw:zai f 0 ((c.sg.length:Int)-1) with
   | false=>rfl
   | true=>have:=zax.mp hw; omega
  rw [this] at e1
  simp [zs3,zs4,-zck,e1,hw]
 | some x =>
  obtain ⟨j,rfl,hj,hjl⟩:=ze0 hs
  rw [show zai j 0 ((c.sg.length:Int)-1)=true from zax.mpr (by omega)] at e1
  have hj':=zbg hj
  simp [-getElem?_pos,zs3,zs4,-zck,e1,hw,hj',hjl]
theorem ycu (c:Cfg) (f:Int) (hl:c.sg.length≤9223372036854775807):RUN T zmc [cfS c,iv f]=some ([iv (zdm c f)],[]):=by
 refine zag z84 rfl ?_
 have hw:=w64 (x:=(c.sg.length:Int)-1) (by omega) (by omega)
 have e1:=zbm f 0 ((c.sg.length:Int)-1)
 unfold zdm
 cases hs:atI c.sg f with
 | none =>
  have hn:=zi5 hs
  have:zai f 0 ((c.sg.length:Int)-1)=false:=by
   cases hw:zai f 0 ((c.sg.length:Int)-1) with
   | false=>rfl
   | true=>have:=zax.mp hw; omega
  rw [this] at e1
  simp [ztg,zth,-za6,e1,hw]
 | some x =>
  obtain ⟨j,rfl,hj,hjl⟩:=ze0 hs
  rw [show zai j 0 ((c.sg.length:Int)-1)=true from zax.mpr (by omega)] at e1
  have hj':=zbg hj
  simp [-getElem?_pos,ztg,zth,-za6,e1,hw,hj',hjl]
theorem yul (s l r:Int):RUN T zpb [iv s,iv l,iv r]=some ([bv (zlq s l r)],[]):=by
 refine zag z8i rfl ?_
 unfold zlq
 by_cases h1:s=1
 ·simp [zs1,zs2,h1]
 ·by_cases h2:s = -1 <;> simp [zs1,zs2,h1,h2]
theorem yum (s l r:Int):RUN T zp4 [iv s,iv l,iv r]=some ([bv (zlq s l r)],[]):=by
 refine zag yaf rfl ?_
 unfold zlq
 by_cases h1:s=1
 ·by_cases h3:l≤r <;> simp [zt0,zt1,h1,h3]
 ·by_cases h2:s = -1 <;> simp [zt0,zt1,h1,h2]
theorem yun (x:Cnd) (l:Int) (h:zeb x):RUN T zpc [.agg (cnd x),iv l]=some ([bv (zjt x l)],[]):=by
 refine zag z8k rfl ?_
 have hp:=zly (b:=x.z) h.2.2.1
 have e1:=z4c x l h
 have e2:=yuj x h
 have e3:=z4a (zbc x.a x.z).1 l hp
 have e4:=ycm (zav x l).1 (zct (zbc x.a x.z).1 l).1 (zlx _ _) (zsl _ _ hp)
 unfold zjt
 generalize zav x l=g at *
 generalize zbc x.a x.z=p at *
 obtain ⟨p,pb⟩:=p
 simp only at e2 e3 e4 ⊢
 generalize zct p l=q at *
 obtain ⟨g,gb⟩:=g
 obtain ⟨q,qb⟩:=q
 simp only at e1 e3 e4 ⊢
 generalize zdu g q=m at *
 obtain ⟨m,mb⟩:=m
 simp only [frc,slc,cnd] at e1 e2 e3 e4 ⊢
 cases gb <;> cases pb <;> cases qb <;> cases mb <;> simp [zw0,zw1,e1,e2,e3,e4]
theorem yuo (x:Cnd) (l:Int) (h:zeb x):RUN T zp5 [.agg (cnd x),iv l]=some ([bv (zjt x l)],[]):=by
 refine zag yag rfl ?_
 have hp:=zly (b:=x.z) h.2.2.1
 have e1:=z4d x l h
 have e2:=yuk x h
 have e3:=z4b (zbc x.a x.z).1 l hp
 have e4:=ycn (zav x l).1 (zct (zbc x.a x.z).1 l).1 (zlx _ _) (zsl _ _ hp)
 unfold zjt
 generalize zav x l=g at *
 generalize zbc x.a x.z=p at *
 obtain ⟨p,pb⟩:=p
 simp only at e2 e3 e4 ⊢
 generalize zct p l=q at *
 obtain ⟨g,gb⟩:=g
 obtain ⟨q,qb⟩:=q
 simp only at e1 e3 e4 ⊢
 generalize zdu g q=m at *
 obtain ⟨m,mb⟩:=m
 simp only [frc,slc,cnd] at e1 e2 e3 e4 ⊢
 cases gb <;> cases pb <;> cases qb <;> cases mb <;> simp [zzo,zzp,e1,e2,e3,e4]
theorem yup (a b:Cnd):RUN T zp3 [.agg (cnd a),.agg (cnd b)]=some ([bv (zf2 a b)],[]):=by
 refine zag yac rfl ?_
 have e1:=yci a.f b.f
 have e2:=yci a.b b.b
 have e3:=ycd (zb5 a.f b.f) (zb5 a.b b.b)
 have hr:zak 8 2=true:=by decide
 have e4:zf2 a b=decide ((if zb5 a.f b.f=0 then zb5 a.b b.b else zb5 a.f b.f)<0):=by
  unfold zf2 zb5
  rw [Bool.eq_iff_iff]
  simp only [Bool.or_eq_true,Bool.and_eq_true,decide_eq_true_eq]
  split <;> split <;> (try split) <;> (try split) <;> (try split) <;> (try split) <;> omega
 rw [e4]
 simp [zzk,zzl,cnd,e1,e2,e3,hr]
theorem yuq (a b:Cnd):RUN T zp6 [.agg (cnd a),.agg (cnd b)]=some ([bv (zf2 a b)],[]):=by
 refine zag yai rfl ?_
 unfold zf2
 by_cases h1:a.f<b.f
 ·simp [zt2,zt3,cnd,h1]
 ·by_cases h2:a.f=b.f <;> simp [zt2,zt3,cnd,h1,h2]
theorem ycv (a b:Cnd) (l:Int) (ha:zeb a) (hb:zeb b):RUN T zkr [.agg (cnd a),.agg (cnd b),iv l]=some ([bv (zcd a b l)],[]):=by
 have e1:=z4c a l ha
 have e2:=z4c b l hb
 have e3:=ycm (zav a l).1 (zav b l).1 (zlx _ _) (zlx _ _)
 have e4:=yup a b
 unfold zcd
 generalize zav a l=g at *
 generalize zav b l=q at *
 generalize zf2 a b=le at *
 obtain ⟨g,gb⟩:=g
 obtain ⟨q,qb⟩:=q
 simp only at e1 e2 e3 ⊢
 generalize zdu g q=m at *
 obtain ⟨m,mb⟩:=m
 simp only [frc,cnd] at e1 e2 e3 e4 ⊢
 refine zag z9f rfl ?_
 cases gb <;> cases qb <;> cases mb <;> by_cases h1:0<m <;> by_cases h2:m=0 <;> simp [zx0,zx1,e1,e2,e3,e4,h1,h2]
theorem yur (a b:Cnd) (l:Int) (ha:zeb a) (hb:zeb b):RUN T zks [.agg (cnd a),.agg (cnd b),iv l]=some ([bv (zcd a b l)],[]):=by
 have e1:=z4d a l ha
 have e2:=z4d b l hb
 have e3:=ycn (zav a l).1 (zav b l).1 (zlx _ _) (zlx _ _)
 have e4:=yuq a b
 unfold zcd
 generalize zav a l=g at *
 generalize zav b l=q at *
 generalize zf2 a b=le at *
 obtain ⟨g,gb⟩:=g
 obtain ⟨q,qb⟩:=q
 simp only at e1 e2 e3 ⊢
 generalize zdu g q=m at *
 obtain ⟨m,mb⟩:=m
 simp only [frc,cnd] at e1 e2 e3 e4 ⊢
 refine zag z9k rfl ?_
 cases gb <;> cases qb <;> cases mb <;> by_cases h1:0<m <;> by_cases h2:m=0 <;> simp [zx9,zya,e1,e2,e3,e4,h1,h2]
def zbj (c:Cfg) (b:Bd) (x:Cnd):Bool:=zcn c && ((zby c b x).2.2 && (decide (c.rw≤x.a.n) && (decide (c.rw≤x.z.n) && (zlq (zdm c x.f) (zby c b x).1 (zby c b x).2.1 && zjt x c.la))))
theorem ycw (c:Cfg) (b:Bd) (x:Cnd) (h:zeb x) (hl:c.sg.length≤9223372036854775807):RUN T zkj [cfS c,.agg (bnd b),.agg (cnd x)]=some ([bv (zbj c b x)],[]):=by
 have e1:=z4e c b x h
 have e2:=ybx c hl
 have e3:=z4f c x.f hl
 have e5:=yun x c.la h
 unfold zbj
 generalize zby c b x=p at *
 obtain ⟨p1,p2,pb⟩:=p
 have e4:=yul (zdm c x.f) p1 p2
 simp only at e1 ⊢
 generalize zdm c x.f=s at *
 generalize zlq s p1 p2=ab at *
 generalize zjt x c.la=ib at *
 generalize zcn c=cb at *
 simp only [cnd,bnd] at e1 e5 ⊢
 refine zag z7w rfl ?_
 cases cb <;> cases pb <;> by_cases h1:c.rw≤x.a.n <;> by_cases h2:c.rw≤x.z.n <;> cases ab <;> simp [zvy,zvz,e1,e2,e3,e4,e5,h1,h2]
theorem yus (c:Cfg) (b:Bd) (x:Cnd) (h:zeb x) (hl:c.sg.length≤9223372036854775807):RUN T zi9 [cfS c,.agg (bnd b),.agg (cnd x)]=some ([bv (zbj c b x)],[]):=by
 have e1:=yct c b x h
 have e2:=yby c hl
 have e3:=ycu c x.f hl
 have e5:=yuo x c.la h
 unfold zbj
 generalize zby c b x=p at *
 obtain ⟨p1,p2,pb⟩:=p
 have e4:=yum (zdm c x.f) p1 p2
 simp only at e1 ⊢
 generalize zdm c x.f=s at *
 generalize zlq s p1 p2=ab at *
 generalize zjt x c.la=ib at *
 generalize zcn c=cb at *
 simp only [cnd,bnd] at e1 e5 ⊢
 refine zag z9j rfl ?_
 cases cb <;> cases pb <;> by_cases h1:c.rw≤x.a.n <;> by_cases h2:c.rw≤x.z.n <;> cases ab <;> simp [zx7,zx8,e1,e2,e3,e4,e5,h1,h2]
def zce (l:List Cnd):List (List PV):=l.map cnd
@[simp] theorem qag (l:List Cnd):(zce l).length=l.length:=by simp [zce]
theorem zvq {l:List Cnd} {i:Nat} {x:Cnd} (h:l[i]?=some x):(zce l)[i]?=some (cnd x):=by simp [zce,h]
def noB (c:Cfg) (b:Bd) (x y:Cnd):Bool := !zbj c b y || !zcd y x c.la
def ziz (c:Cfg) (b:Bd) (l:List Cnd) (x:Cnd):Bool:=zbj c b x && l.all (noB c b x)
def zhh:Cnd:=⟨0,0,⟨0,0⟩,⟨0,0⟩⟩
def zdb (c:Cfg) (b:Bd) (l:List Cnd):Cnd×Bool:=match l.find? (ziz c b l) with
 | some x=>(x,true)
 | none=>(zhh,false)
set_option maxHeartbeats 1000000 in
theorem yut (c:Cfg) (b:Bd) (l:List Cnd) (hl:l.length≤1048576) (hc:c.sg.length≤1048576) (hi : ∀ x∈l,zeb x):RUN T zo9 [cfS c,.agg (bnd b),.sl 6 (zce l)]=some ([.agg (cnd (zdb c b l).1),bv (zdb c b l).2],[]):=by
 have eM : ∀ x∈l,RUN T zi9 [cfS c,.agg (bnd b),.agg (cnd x)]=some ([bv (zbj c b x)],[]):=fun x hx=>yus c b x (hi x hx) (by omega)
 have eB : ∀ x∈l,∀ y∈l,RUN T zks [.agg (cnd x),.agg (cnd y),iv c.la]=some ([bv (zcd x y c.la)],[]):=fun x hx y hy=>yur x y c.la (hi x hx) (hi y hy)
 obtain ⟨R,hR⟩ : ∃ R,R=zdb c b l:=⟨_,rfl⟩
 unfold zdb at hR
 rw [show zdb c b l=R by rw [hR]; rfl]
 simp only [bnd] at eM ⊢
 refine zag z8d rfl ?_
 simp [-getElem?_pos,zwp,zwq]
 refine za4 (fun n st => ∃ i:Nat,i+n=l.length∧(l.drop i).find? (ziz c b l)=l.find? (ziz c b l)∧st.V 2 = .sl 6 (zce l)∧st.V 3 = .ptr 0 none 0 0 0∧st.V 4 = .ptr 1 none 0 0 0∧st.V 6 = .ptr 2 none 0 0 0∧st.V 8=iv i∧st.S 0=some (.box [iv c.ro,iv c.de,iv c.bi,iv c.la,iv c.rw,iv c.nu,iv c.dn,.sl 1 (zac c.sg)])∧st.S 1=some (.box [iv b.lo,iv b.hi])∧st.S 2=some (.box [iv 0,iv 0,iv 0,iv 0,iv 0,iv 0])) ?_ l.length _ ⟨0,by simp⟩
 rintro n st ⟨i,hin,hf,v2,v3,v4,v6,v8,hS0,hS1,hS2⟩
 by_cases h:i<l.length
 ·obtain ⟨x,hx⟩ : ∃ x,l[i]?=some x:=⟨_,List.getElem?_eq_getElem h⟩
  have hx':=zvq hx
  have hxm:=List.mem_of_getElem? hx
  have hws:=wS h (by omega:l.length≤9223372036854775807)
  rw [zeo hx,List.find?_cons] at hf
  have e1:=eM x hxm
  simp only [cnd] at e1
  have eB' : ∀ y∈l,RUN T zks [.agg [iv y.f,iv y.b,iv y.a.n,iv y.a.g,iv y.z.n,iv y.z.g],.agg [iv x.f,iv x.b,iv x.a.n,iv x.a.g,iv x.z.n,iv x.z.g],iv c.la]=some ([bv (zcd y x c.la)],[]):=fun y hy=>eB y hy x hxm
  have eM' : ∀ y∈l,RUN T zi9 [cfS c,.agg [iv b.lo,iv b.hi],.agg [iv y.f,iv y.b,iv y.a.n,iv y.a.g,iv y.z.n,iv y.z.g]]=some ([bv (zbj c b y)],[]):=fun y hy=>eM y hy
  clear eM eB
  obtain ⟨kb0,hkb⟩ : ∃ k,k=ziz c b l x:=⟨_,rfl⟩
  rw [← hkb] at hf
  have hkb2:kb0=(zbj c b x && (l.drop 0).all (noB c b x)):=by rw [hkb]; rfl
  clear hkb
  generalize hmx:zbj c b x=mx at *
  simp [-getElem?_pos,z3h,v2,v3,v4,v6,v8,hS0,hS1,hS2,h,hx',cnd,e1]
  refine za4 (fun n' s => ∃ (j:Nat) (k:Bool),j+n'=l.length∧(k && (l.drop j).all (noB c b x))=kb0∧s.V 2 = .sl 6 (zce l)∧s.V 3 = .ptr 0 none 0 0 0∧s.V 4 = .ptr 1 none 0 0 0∧s.V 6 = .ptr 2 none 0 0 0∧s.V 8=iv i∧s.V 9=bv k∧s.V 10=iv j∧s.S 0=some (.box [iv c.ro,iv c.de,iv c.bi,iv c.la,iv c.rw,iv c.nu,iv c.dn,.sl 1 (zac c.sg)])∧s.S 1=some (.box [iv b.lo,iv b.hi])∧s.S 2=some (.box [iv 0,iv 0,iv 0,iv 0,iv 0,iv 0])) ?_ l.length _ ⟨0,mx,by omega,hkb2.symm,by simp [v2],by simp [v3],by simp [v4],by simp [v6],by simp [v8],by simp,by simp,by simp [hS0],by simp [hS1],by simp [hS2]⟩
  clear v2 v3 v4 v6 v8 hS0 hS1 hS2
  rintro n' s ⟨j,k,hj,hk,v2,v3,v4,v6,v8,v9,v10,hS0,hS1,hS2⟩
  by_cases hjl:j<l.length
  ·cases k with
   | true =>
    obtain ⟨y,hy⟩ : ∃ y,l[j]?=some y:=⟨_,List.getElem?_eq_getElem hjl⟩
    have hy':=zvq hy
    have hym:=List.mem_of_getElem? hy
    have hwj:=wS hjl (by omega:l.length≤9223372036854775807)
    have e2:=eM' y hym
    have e3:=eB' y hym
    rw [zeo hy,List.all_cons] at hk
    have hno:noB c b x y=(!zbj c b y || !zcd y x c.la):=rfl
    rw [hno] at hk
    clear eM' eB' e1 hno
    generalize zbj c b y=my at *
    generalize zcd y x c.la=by' at *
    cases my <;> cases by' <;> simp [-getElem?_pos,zs0,v2,v3,v4,v6,v8,hS0,hS1,hS2,v9,v10,hjl,h,hx',hy',cnd,e2,e3,hwj]
    all_goals first
     | exact zam (n'-1) (by omega) ⟨j+1,true,by omega,(by simpa using hk),by simp [v2],by simp [v3],by simp [v4],by simp [v6],by simp [v8],by simp,by simp,by simp [hS0],by simp [hS1],by simp [hS2]⟩
     | exact zam (n'-1) (by omega) ⟨j+1,false,by omega,(by simpa using hk),by simp [v2],by simp [v3],by simp [v4],by simp [v6],by simp [v8],by simp,by simp,by simp [hS0],by simp [hS1],by simp [hS2]⟩
   | false =>
    have hk0:kb0=false:=by rw [← hk]; rfl
    subst hk0
    simp only at hf
    simp [-getElem?_pos,zs0,v2,v3,v4,v6,v8,hS0,hS1,hS2,v9,v10,hjl,hws]
    exact zam (n-1) (by omega) ⟨i+1,by omega,hf,by simp [v2],by simp [v3],by simp [v4],by simp [v6],by simp,by simp [hS0],by simp [hS1],by simp [hS2]⟩
  ·rw [List.drop_eq_nil_of_le (by omega)] at hk
   simp only [List.all_nil,Bool.and_true] at hk
   subst hk
   cases k with
   | true =>
    simp only at hf
    rw [← hf] at hR
    simp only at hR
    subst hR
    simp [-getElem?_pos,zs0,v2,v3,v4,v6,v8,hS0,hS1,hS2,v9,v10,hjl,h,hx',cnd]
   | false =>
    simp only at hf
    simp [-getElem?_pos,zs0,v2,v3,v4,v6,v8,hS0,hS1,hS2,v9,v10,hjl,hws]
    exact zam (n-1) (by omega) ⟨i+1,by omega,hf,by simp [v2],by simp [v3],by simp [v4],by simp [v6],by simp,by simp [hS0],by simp [hS1],by simp [hS2]⟩
 ·rw [List.drop_eq_nil_of_le (by omega)] at hf
  rw [← hf] at hR
  simp only [List.find?_nil] at hR
  subst hR
  simp [-getElem?_pos,z3h,v2,v6,v8,hS2,h,zhh,cnd]
theorem yxj (a:Wd):zeu a a=0:=by
 have h : ∀ x,zb5 x x=0:=fun x=>by
  unfold zb5
  rw [if_neg (by omega),if_neg (by omega)]
 unfold zeu
 rw [h,h,if_pos rfl]
theorem yzw (a:Wd):zhv a a=0:=by
 unfold zhv
 rw [yxj]
 split <;> simp_all
theorem yxi (a:Fr):(zdu a a).1=0:=by
 unfold zdu
 split
 ·rename_i h
  have:(zbi a a).1=(zbi a a).2.1:=by
   unfold zbi
   split <;> rfl
  simp only
  rw [this,yzw]
 ·rfl
theorem yzh (x:Cnd) (l:Int):zcd x x l=false:=by
 have h1:=yxi (zav x l).1
 have h2:zf2 x x=false:=by
  unfold zf2
  rw [decide_eq_false (show ¬ x.f<x.f by omega),decide_eq_false (show ¬ x.b<x.b by omega)]
  simp
 unfold zcd
 rw [h1,h2]
 simp
theorem y3a {p q:Cnd→Bool} (l:List Cnd):(l.filter p).all q=l.all fun y => !p y || q y:=by
 induction l with
 | nil=>rfl
 | cons y l ih =>
  simp only [List.filter_cons,List.all_cons]
  cases h:p y with
  | true=>simp [ih]
  | false=>simp [ih]
theorem yx8 {p q:Cnd→Bool} (l:List Cnd):(l.filter p).find? q=l.find? fun x=>p x && q x:=by
 induction l with
 | nil=>rfl
 | cons y l ih =>
  simp only [List.filter_cons,List.find?_cons]
  cases h:p y with
  | true =>
   simp only [if_true,List.find?_cons,Bool.true_and]
   cases q y <;> simp [ih]
  | false=>simp [ih]
theorem y1q (c:Cfg) (b:Bd) (l:List Cnd):l.find? (ziz c b l)=(l.filter (zbj c b)).find? fun x=>(l.filter (zbj c b)).all fun y => !zcd y x c.la:=by
 rw [yx8]
 congr 1
 funext x
 unfold ziz
 rw [y3a]
 rfl
set_option maxHeartbeats 2000000 in
theorem yuu (c:Cfg) (b:Bd) (l:List Cnd) (hl:l.length≤1048576) (hc:c.sg.length≤1048576) (hi : ∀ x∈l,zeb x):RUN T zo6 [cfS c,.agg (bnd b),.sl 6 (zce l)]=some ([.agg (cnd (zdb c b l).1),bv (zdb c b l).2],[]):=by
 have eM : ∀ x∈l,RUN T zkj [cfS c,.agg [iv b.lo,iv b.hi],.agg [iv x.f,iv x.b,iv x.a.n,iv x.a.g,iv x.z.n,iv x.z.g]]=some ([bv (zbj c b x)],[]):=fun x hx=>ycw c b x (hi x hx) (by omega)
 have eB : ∀ x∈l,∀ y∈l,RUN T zkr [.agg [iv x.f,iv x.b,iv x.a.n,iv x.a.g,iv x.z.n,iv x.z.g],.agg [iv y.f,iv y.b,iv y.a.n,iv y.a.g,iv y.z.n,iv y.z.g],iv c.la]=some ([bv (zcd x y c.la)],[]):=fun x hx y hy=>ycv x y c.la (hi x hx) (hi y hy)
 obtain ⟨R,hR⟩ : ∃ R,R=zdb c b l:=⟨_,rfl⟩
 unfold zdb at hR
 rw [show zdb c b l=R by rw [hR]; rfl]
 rw [y1q] at hR
 simp only [bnd]
 refine zag z8a rfl ?_
 have hr0:zak 48 0=true:=by decide
 have hr1:zak 48 1=true:=by decide
 simp [-getElem?_pos,zwj,zwk,hr0]
 refine za4 (fun n st => ∃ (i o e:Nat) (m:List Cnd),i+n=l.length∧m=(l.take i).filter (zbj c b)∧st.V 3 = .ptr 0 none 0 0 0∧st.V 4 = .ptr 1 none 0 0 0∧st.V 6 = .ptr 2 none 0 0 0∧st.V 8 = .ref o none e 0 m.length∧st.V 17 = .sl 6 (zce l)∧st.V 18=iv l.length∧st.V 19=iv i∧2<o∧o<st.nx∧st.S 0=some (.box [iv c.ro,iv c.de,iv c.bi,iv c.la,iv c.rw,iv c.nu,iv c.dn,.sl 1 (zac c.sg)])∧st.S 1=some (.box [iv b.lo,iv b.hi])∧st.S 2=some (.box [iv 0,iv 0,iv 0,iv 0,iv 0,iv 0])∧st.S o=some (.row 6 (zce m))) ?_ l.length _ ⟨0,3,0,[],by simp [zce]⟩
 rintro n st ⟨i,o,e,m,hin,hm,v3,v4,v6,v8,v17,v18,v19,ho,hox,hS0,hS1,hS2,hSo⟩
 obtain ⟨a01,a02,a03,a04⟩:=fr (show 0<st.nx by omega)
 obtain ⟨a11,a12,a13,a14⟩:=fr (show 1<st.nx by omega)
 obtain ⟨a21,a22,a23,a24⟩:=fr (show 2<st.nx by omega)
 obtain ⟨a31,a32,a33,a34⟩:=fr (show 0<o by omega)
 obtain ⟨a41,a42,a43,a44⟩:=fr (show 1<o by omega)
 obtain ⟨a51,a52,a53,a54⟩:=fr (show 2<o by omega)
 obtain ⟨a61,a62,a63,a64⟩:=fr (show o<st.nx by omega)
 obtain ⟨a71,a72,a73,a74⟩:=fr (show o<st.nx+1 by omega)
 by_cases h:i<l.length
 ·obtain ⟨x,hx⟩ : ∃ x,l[i]?=some x:=⟨_,List.getElem?_eq_getElem h⟩
  have hx':=zvq hx
  have hxm:=List.mem_of_getElem? hx
  have hws:=wS h (by omega:l.length≤9223372036854775807)
  have e1:=eM x hxm
  have hml:m.length≤i:=by rw [hm]; exact Nat.le_trans (List.length_filter_le _ _) (by simp; omega)
  have hr48:zak 48 (m.length+1)=true:=by simp [zak]; omega
  have htk:(l.take (i+1)).filter (zbj c b)=if zbj c b x=true then m++[x] else m:=by
   rw [List.take_succ,hx,List.filter_append,← hm]
   by_cases c':zbj c b x=true <;> simp [c']
  have hsn:zce m++[[iv x.f,iv x.b,iv x.a.n,iv x.a.g,iv x.z.n,iv x.z.g]]=zce (m++[x]):=by simp [zce,cnd]
  clear eM eB hm
  cases hmx:zbj c b x with
  | true =>
   rw [hmx] at e1
   rw [if_pos hmx] at htk
   simp [-getElem?_pos,zwi,v3,v4,v6,v8,v17,v18,v19,hS0,hS1,hS2,hSo,h,hx',cnd,e1,hws,hr1,hr48,hsn,a01,a02,a03,a04,a11,a12,a13,a14,a21,a22,a23,a24,a31,a32,a33,a34,a41,a42,a43,a44,a51,a52,a53,a54,a61,a62,a63,a64,a71,a72,a73,a74]
   exact zam (n-1) (by omega) ⟨i+1,st.nx+2,st.ep,m++[x],by omega,htk.symm,by simp [v3],by simp [v4],by simp [v6],by simp,by simp [v17],by simp [v18],by simp,by omega,by simp,by simp [a01,a02,a03,a04,a11,a12,a13,a14,a21,a22,a23,a24,a31,a32,a33,a34,a41,a42,a43,a44,a51,a52,a53,a54,a61,a62,a63,a64,a71,a72,a73,a74,hS0],by simp [a01,a02,a03,a04,a11,a12,a13,a14,a21,a22,a23,a24,a31,a32,a33,a34,a41,a42,a43,a44,a51,a52,a53,a54,a61,a62,a63,a64,a71,a72,a73,a74,hS1],by simp [a01,a02,a03,a04,a11,a12,a13,a14,a21,a22,a23,a24,a31,a32,a33,a34,a41,a42,a43,a44,a51,a52,a53,a54,a61,a62,a63,a64,a71,a72,a73,a74,hS2],by simp⟩
  | false =>
   rw [hmx] at e1
   rw [if_neg (by simp [hmx])] at htk
   simp [-getElem?_pos,zwi,v3,v4,v6,v8,v17,v18,v19,hS0,hS1,hS2,hSo,h,hx',cnd,e1,hws,a01,a02,a03,a04,a11,a12,a13,a14,a21,a22,a23,a24,a31,a32,a33,a34,a41,a42,a43,a44,a51,a52,a53,a54,a61,a62,a63,a64,a71,a72,a73,a74]
   exact zam (n-1) (by omega) ⟨i+1,o,e,m,by omega,htk.symm,by simp [v3],by simp [v4],by simp [v6],by simp [v8],by simp [v17],by simp [v18],by simp,by omega,by simp; omega,by simp [a01,a02,a03,a04,a11,a12,a13,a14,a21,a22,a23,a24,a31,a32,a33,a34,a41,a42,a43,a44,a51,a52,a53,a54,a61,a62,a63,a64,a71,a72,a73,a74,hS0],by simp [a01,a02,a03,a04,a11,a12,a13,a14,a21,a22,a23,a24,a31,a32,a33,a34,a41,a42,a43,a44,a51,a52,a53,a54,a61,a62,a63,a64,a71,a72,a73,a74,hS1],by simp [a01,a02,a03,a04,a11,a12,a13,a14,a21,a22,a23,a24,a31,a32,a33,a34,a41,a42,a43,a44,a51,a52,a53,a54,a61,a62,a63,a64,a71,a72,a73,a74,hS2],by simp [a01,a02,a03,a04,a11,a12,a13,a14,a21,a22,a23,a24,a31,a32,a33,a34,a41,a42,a43,a44,a51,a52,a53,a54,a61,a62,a63,a64,a71,a72,a73,a74,hSo]⟩
 ·rw [List.take_of_length_le (by omega)] at hm
  rw [← hm] at hR
  have hmem : ∀ y∈m,y∈l:=fun y hy=>by rw [hm] at hy; exact (List.mem_filter.mp hy).1
  have hml:m.length≤1048576:=by rw [hm]; exact Nat.le_trans (List.length_filter_le _ _) hl
  simp [-getElem?_pos,zwi,v8,v18,v19,hSo,h]
  obtain ⟨q,hq⟩ : ∃ q:Cnd→Bool,q=fun x=>m.all fun y => !zcd y x c.la:=⟨_,rfl⟩
  rw [← hq] at hR
  clear eM hm hin
  refine za4 (fun n st => ∃ i:Nat,i+n=m.length∧(m.drop i).find? q=m.find? q∧st.V 3 = .ptr 0 none 0 0 0∧st.V 4 = .ptr 1 none 0 0 0∧st.V 6 = .ptr 2 none 0 0 0∧st.V 8 = .ref o none e 0 m.length∧st.V 32 = .ref o none e 0 m.length∧st.V 33=iv m.length∧st.V 34=iv i∧2<o∧o<st.nx∧st.S 0=some (.box [iv c.ro,iv c.de,iv c.bi,iv c.la,iv c.rw,iv c.nu,iv c.dn,.sl 1 (zac c.sg)])∧st.S 1=some (.box [iv b.lo,iv b.hi])∧st.S 2=some (.box [iv 0,iv 0,iv 0,iv 0,iv 0,iv 0])∧st.S o=some (.row 6 (zce m))) ?_ m.length _ ⟨0,by simp,by simp,by simp [v3],by simp [v4],by simp [v6],by simp [v8],by simp,by simp,by simp,ho,by simp [hox],by simp [hS0],by simp [hS1],by simp [hS2],by simp [hSo]⟩
  clear v3 v4 v6 v8 v17 v18 v19 hS0 hS1 hS2 hSo hox ho
  clear a01 a02 a03 a04 a11 a12 a13 a14 a21 a22 a23 a24 a31 a32 a33 a34 a41 a42 a43 a44 a51 a52 a53 a54 a61 a62 a63 a64 a71 a72 a73 a74
  rintro n st ⟨i,hin,hf,v3,v4,v6,v8,v32,v33,v34,ho,hox,hS0,hS1,hS2,hSo⟩
  obtain ⟨b01,b02,b03,b04⟩:=fr (show 0<st.nx by omega)
  obtain ⟨b11,b12,b13,b14⟩:=fr (show 1<st.nx by omega)
  obtain ⟨b21,b22,b23,b24⟩:=fr (show 2<st.nx by omega)
  obtain ⟨b31,b32,b33,b34⟩:=fr (show 0<o by omega)
  obtain ⟨b41,b42,b43,b44⟩:=fr (show 1<o by omega)
  obtain ⟨b51,b52,b53,b54⟩:=fr (show 2<o by omega)
  obtain ⟨b61,b62,b63,b64⟩:=fr (show o<st.nx by omega)
  by_cases h:i<m.length
  ·obtain ⟨x,hx⟩ : ∃ x,m[i]?=some x:=⟨_,List.getElem?_eq_getElem h⟩
   have hx':=zvq hx
   have hxm:=List.mem_of_getElem? hx
   have hws:=wS h (by omega:m.length≤9223372036854775807)
   rw [zeo hx,List.find?_cons] at hf
   obtain ⟨kb0,hkb⟩ : ∃ k,k=q x:=⟨_,rfl⟩
   rw [← hkb] at hf
   have hkb2:kb0=(true && (m.drop 0).all fun y => !zcd y x c.la):=by rw [hkb,hq]; rfl
   clear hkb hq
   simp [-getElem?_pos,z3g,v3,v4,v6,v8,v32,v33,v34,hS0,hS1,hS2,hSo,h,hx',cnd,b01,b02,b03,b04,b11,b12,b13,b14,b21,b22,b23,b24,b31,b32,b33,b34,b41,b42,b43,b44,b51,b52,b53,b54,b61,b62,b63,b64]
   generalize hpp:st.nx=pp at *
   refine za4 (fun n' s => ∃ (j:Nat) (k:Bool),j+n'=m.length∧(k && (m.drop j).all fun y => !zcd y x c.la)=kb0∧s.V 3 = .ptr 0 none 0 0 0∧s.V 4 = .ptr 1 none 0 0 0∧s.V 6 = .ptr 2 none 0 0 0∧s.V 8 = .ref o none e 0 m.length∧s.V 32 = .ref o none e 0 m.length∧s.V 33=iv m.length∧s.V 34=iv i∧s.V 11=iv i∧s.V 12 = .ptr pp none st.ep 0 0∧s.V 13=bv k∧s.V 39 = .ref o none e 0 m.length∧s.V 40=iv m.length∧s.V 41=iv j∧pp<s.nx∧s.S 0=some (.box [iv c.ro,iv c.de,iv c.bi,iv c.la,iv c.rw,iv c.nu,iv c.dn,.sl 1 (zac c.sg)])∧s.S 1=some (.box [iv b.lo,iv b.hi])∧s.S 2=some (.box [iv 0,iv 0,iv 0,iv 0,iv 0,iv 0])∧s.S o=some (.row 6 (zce m))∧s.S pp=some (.box [iv x.f,iv x.b,iv x.a.n,iv x.a.g,iv x.z.n,iv x.z.g])) ?_ m.length _ ⟨0,true,by omega,hkb2.symm,by simp [v3],by simp [v4],by simp [v6],by simp [v8],by simp [v32],by simp [v33],by simp [v34],by simp,by simp,by simp,by simp,by simp,by simp,by simp,by simp [b01,b02,b03,b04,b11,b12,b13,b14,b21,b22,b23,b24,b31,b32,b33,b34,b41,b42,b43,b44,b51,b52,b53,b54,b61,b62,b63,b64,hS0],by simp [b01,b02,b03,b04,b11,b12,b13,b14,b21,b22,b23,b24,b31,b32,b33,b34,b41,b42,b43,b44,b51,b52,b53,b54,b61,b62,b63,b64,hS1],by simp [b01,b02,b03,b04,b11,b12,b13,b14,b21,b22,b23,b24,b31,b32,b33,b34,b41,b42,b43,b44,b51,b52,b53,b54,b61,b62,b63,b64,hS2],by simp [b01,b02,b03,b04,b11,b12,b13,b14,b21,b22,b23,b24,b31,b32,b33,b34,b41,b42,b43,b44,b51,b52,b53,b54,b61,b62,b63,b64,hSo],by simp [b01,b02,b03,b04,b11,b12,b13,b14,b21,b22,b23,b24,b31,b32,b33,b34,b41,b42,b43,b44,b51,b52,b53,b54,b61,b62,b63,b64]⟩
   clear v3 v4 v6 v8 v32 v33 v34 hS0 hS1 hS2 hSo
   rintro n' s ⟨j,k,hj,hk,v3,v4,v6,v8,v32,v33,v34,v11,v12,v13,v39,v40,v41,hpn,hS0,hS1,hS2,hSo,hSp⟩
   obtain ⟨d01,d02,d03,d04⟩:=fr (show 0<s.nx by omega)
   obtain ⟨d11,d12,d13,d14⟩:=fr (show 1<s.nx by omega)
   obtain ⟨d21,d22,d23,d24⟩:=fr (show 2<s.nx by omega)
   obtain ⟨d31,d32,d33,d34⟩:=fr (show 0<o by omega)
   obtain ⟨d41,d42,d43,d44⟩:=fr (show 1<o by omega)
   obtain ⟨d51,d52,d53,d54⟩:=fr (show 2<o by omega)
   obtain ⟨d61,d62,d63,d64⟩:=fr (show o<s.nx by omega)
   obtain ⟨d71,d72,d73,d74⟩:=fr (show 0<pp by omega)
   obtain ⟨d81,d82,d83,d84⟩:=fr (show 1<pp by omega)
   obtain ⟨d91,d92,d93,d94⟩:=fr (show 2<pp by omega)
   obtain ⟨d101,d102,d103,d104⟩:=fr (show o<pp by omega)
   obtain ⟨d111,d112,d113,d114⟩:=fr (show pp<s.nx by omega)
   by_cases hjl:j<m.length
   ·obtain ⟨y,hy⟩ : ∃ y,m[j]?=some y:=⟨_,List.getElem?_eq_getElem hjl⟩
    have hy':=zvq hy
    have hym:=List.mem_of_getElem? hy
    have hwj:=wS hjl (by omega:m.length≤9223372036854775807)
    have e3:=eB y (hmem y hym) x (hmem x hxm)
    rw [zeo hy,List.all_cons] at hk
    clear eB
    cases k with
    | false =>
     have hk':(false && (m.drop (j+1)).all fun y => !zcd y x c.la)=kb0:=by rw [← hk]; rfl
     simp [-getElem?_pos,znd,v3,v4,v6,v8,v11,v12,v13,v39,v40,v41,hS0,hS1,hS2,hSo,hSp,hjl,hy',cnd,hwj,d01,d02,d03,d04,d11,d12,d13,d14,d21,d22,d23,d24,d31,d32,d33,d34,d41,d42,d43,d44,d51,d52,d53,d54,d61,d62,d63,d64,d71,d72,d73,d74,d81,d82,d83,d84,d91,d92,d93,d94,d101,d102,d103,d104,d111,d112,d113,d114]
     exact zam (n'-1) (by omega) ⟨j+1,false,by omega,hk',by simp [v3],by simp [v4],by simp [v6],by simp [v8],by simp [v32],by simp [v33],by simp [v34],by simp [v11],by simp [v12],by simp [v13],by simp [v39],by simp [v40],by simp,by simp; omega,by simp [d01,d02,d03,d04,d11,d12,d13,d14,d21,d22,d23,d24,d31,d32,d33,d34,d41,d42,d43,d44,d51,d52,d53,d54,d61,d62,d63,d64,d71,d72,d73,d74,d81,d82,d83,d84,d91,d92,d93,d94,d101,d102,d103,d104,d111,d112,d113,d114,hS0],by simp [d01,d02,d03,d04,d11,d12,d13,d14,d21,d22,d23,d24,d31,d32,d33,d34,d41,d42,d43,d44,d51,d52,d53,d54,d61,d62,d63,d64,d71,d72,d73,d74,d81,d82,d83,d84,d91,d92,d93,d94,d101,d102,d103,d104,d111,d112,d113,d114,hS1],by simp [d01,d02,d03,d04,d11,d12,d13,d14,d21,d22,d23,d24,d31,d32,d33,d34,d41,d42,d43,d44,d51,d52,d53,d54,d61,d62,d63,d64,d71,d72,d73,d74,d81,d82,d83,d84,d91,d92,d93,d94,d101,d102,d103,d104,d111,d112,d113,d114,hS2],by simp [d01,d02,d03,d04,d11,d12,d13,d14,d21,d22,d23,d24,d31,d32,d33,d34,d41,d42,d43,d44,d51,d52,d53,d54,d61,d62,d63,d64,d71,d72,d73,d74,d81,d82,d83,d84,d91,d92,d93,d94,d101,d102,d103,d104,d111,d112,d113,d114,hSo],by simp [d01,d02,d03,d04,d11,d12,d13,d14,d21,d22,d23,d24,d31,d32,d33,d34,d41,d42,d43,d44,d51,d52,d53,d54,d61,d62,d63,d64,d71,d72,d73,d74,d81,d82,d83,d84,d91,d92,d93,d94,d101,d102,d103,d104,d111,d112,d113,d114,hSp]⟩
    | true =>
     by_cases hij:j=i
     ·have hyx:y=x:=by
       subst hij
       rw [hx] at hy; exact (Option.some.inj hy).symm
      subst hyx
      rw [yzh] at hk
      have hk':(true && (m.drop (j+1)).all fun z => !zcd z y c.la)=kb0:=by rw [← hk]; rfl
      subst hij
      simp [-getElem?_pos,znd,v3,v4,v6,v8,v11,v12,v13,v39,v40,v41,hS0,hS1,hS2,hSo,hSp,hjl,hy',cnd,hwj,d01,d02,d03,d04,d11,d12,d13,d14,d21,d22,d23,d24,d31,d32,d33,d34,d41,d42,d43,d44,d51,d52,d53,d54,d61,d62,d63,d64,d71,d72,d73,d74,d81,d82,d83,d84,d91,d92,d93,d94,d101,d102,d103,d104,d111,d112,d113,d114]
      exact zam (n'-1) (by omega) ⟨j+1,true,by omega,hk',by simp [v3],by simp [v4],by simp [v6],by simp [v8],by simp [v32],by simp [v33],by simp [v34],by simp [v11],by simp [v12],by simp [v13],by simp [v39],by simp [v40],by simp,by simp; omega,by simp [d01,d02,d03,d04,d11,d12,d13,d14,d21,d22,d23,d24,d31,d32,d33,d34,d41,d42,d43,d44,d51,d52,d53,d54,d61,d62,d63,d64,d71,d72,d73,d74,d81,d82,d83,d84,d91,d92,d93,d94,d101,d102,d103,d104,d111,d112,d113,d114,hS0],by simp [d01,d02,d03,d04,d11,d12,d13,d14,d21,d22,d23,d24,d31,d32,d33,d34,d41,d42,d43,d44,d51,d52,d53,d54,d61,d62,d63,d64,d71,d72,d73,d74,d81,d82,d83,d84,d91,d92,d93,d94,d101,d102,d103,d104,d111,d112,d113,d114,hS1],by simp [d01,d02,d03,d04,d11,d12,d13,d14,d21,d22,d23,d24,d31,d32,d33,d34,d41,d42,d43,d44,d51,d52,d53,d54,d61,d62,d63,d64,d71,d72,d73,d74,d81,d82,d83,d84,d91,d92,d93,d94,d101,d102,d103,d104,d111,d112,d113,d114,hS2],by simp [d01,d02,d03,d04,d11,d12,d13,d14,d21,d22,d23,d24,d31,d32,d33,d34,d41,d42,d43,d44,d51,d52,d53,d54,d61,d62,d63,d64,d71,d72,d73,d74,d81,d82,d83,d84,d91,d92,d93,d94,d101,d102,d103,d104,d111,d112,d113,d114,hSo],by simp [d01,d02,d03,d04,d11,d12,d13,d14,d21,d22,d23,d24,d31,d32,d33,d34,d41,d42,d43,d44,d51,d52,d53,d54,d61,d62,d63,d64,d71,d72,d73,d74,d81,d82,d83,d84,d91,d92,d93,d94,d101,d102,d103,d104,d111,d112,d113,d114,hSp]⟩
     ·have h1:((j:Int)=i)=False:=eq_false (by omega)
      have h2:((i:Int)=j)=False:=eq_false (by omega)
      have hji : ¬ i=j:=fun e=>hij e.symm
      generalize zcd y x c.la=bb at *
      cases bb with
      | true =>
       have hk':(false && (m.drop (j+1)).all fun y => !zcd y x c.la)=kb0:=by rw [← hk]; rfl
       simp [-getElem?_pos,znd,v3,v4,v6,v8,v11,v12,v13,v39,v40,v41,hS0,hS1,hS2,hSo,hSp,hjl,hy',cnd,hwj,d01,d02,d03,d04,d11,d12,d13,d14,d21,d22,d23,d24,d31,d32,d33,d34,d41,d42,d43,d44,d51,d52,d53,d54,d61,d62,d63,d64,d71,d72,d73,d74,d81,d82,d83,d84,d91,d92,d93,d94,d101,d102,d103,d104,d111,d112,d113,d114,h1,h2,hij,hji,e3]
       exact zam (n'-1) (by omega) ⟨j+1,false,by omega,hk',by simp [v3],by simp [v4],by simp [v6],by simp [v8],by simp [v32],by simp [v33],by simp [v34],by simp [v11],by simp [v12],by simp [v13],by simp [v39],by simp [v40],by simp,by simp; omega,by simp [d01,d02,d03,d04,d11,d12,d13,d14,d21,d22,d23,d24,d31,d32,d33,d34,d41,d42,d43,d44,d51,d52,d53,d54,d61,d62,d63,d64,d71,d72,d73,d74,d81,d82,d83,d84,d91,d92,d93,d94,d101,d102,d103,d104,d111,d112,d113,d114,hS0],by simp [d01,d02,d03,d04,d11,d12,d13,d14,d21,d22,d23,d24,d31,d32,d33,d34,d41,d42,d43,d44,d51,d52,d53,d54,d61,d62,d63,d64,d71,d72,d73,d74,d81,d82,d83,d84,d91,d92,d93,d94,d101,d102,d103,d104,d111,d112,d113,d114,hS1],by simp [d01,d02,d03,d04,d11,d12,d13,d14,d21,d22,d23,d24,d31,d32,d33,d34,d41,d42,d43,d44,d51,d52,d53,d54,d61,d62,d63,d64,d71,d72,d73,d74,d81,d82,d83,d84,d91,d92,d93,d94,d101,d102,d103,d104,d111,d112,d113,d114,hS2],by simp [d01,d02,d03,d04,d11,d12,d13,d14,d21,d22,d23,d24,d31,d32,d33,d34,d41,d42,d43,d44,d51,d52,d53,d54,d61,d62,d63,d64,d71,d72,d73,d74,d81,d82,d83,d84,d91,d92,d93,d94,d101,d102,d103,d104,d111,d112,d113,d114,hSo],by simp [d01,d02,d03,d04,d11,d12,d13,d14,d21,d22,d23,d24,d31,d32,d33,d34,d41,d42,d43,d44,d51,d52,d53,d54,d61,d62,d63,d64,d71,d72,d73,d74,d81,d82,d83,d84,d91,d92,d93,d94,d101,d102,d103,d104,d111,d112,d113,d114,hSp]⟩
      | false =>
       have hk':(true && (m.drop (j+1)).all fun y => !zcd y x c.la)=kb0:=by rw [← hk]; rfl
       simp [-getElem?_pos,znd,v3,v4,v6,v8,v11,v12,v13,v39,v40,v41,hS0,hS1,hS2,hSo,hSp,hjl,hy',cnd,hwj,d01,d02,d03,d04,d11,d12,d13,d14,d21,d22,d23,d24,d31,d32,d33,d34,d41,d42,d43,d44,d51,d52,d53,d54,d61,d62,d63,d64,d71,d72,d73,d74,d81,d82,d83,d84,d91,d92,d93,d94,d101,d102,d103,d104,d111,d112,d113,d114,h1,h2,hij,hji,e3]
       exact zam (n'-1) (by omega) ⟨j+1,true,by omega,hk',by simp [v3],by simp [v4],by simp [v6],by simp [v8],by simp [v32],by simp [v33],by simp [v34],by simp [v11],by simp [v12],by simp [v13],by simp [v39],by simp [v40],by simp,by simp; omega,by simp [d01,d02,d03,d04,d11,d12,d13,d14,d21,d22,d23,d24,d31,d32,d33,d34,d41,d42,d43,d44,d51,d52,d53,d54,d61,d62,d63,d64,d71,d72,d73,d74,d81,d82,d83,d84,d91,d92,d93,d94,d101,d102,d103,d104,d111,d112,d113,d114,hS0],by simp [d01,d02,d03,d04,d11,d12,d13,d14,d21,d22,d23,d24,d31,d32,d33,d34,d41,d42,d43,d44,d51,d52,d53,d54,d61,d62,d63,d64,d71,d72,d73,d74,d81,d82,d83,d84,d91,d92,d93,d94,d101,d102,d103,d104,d111,d112,d113,d114,hS1],by simp [d01,d02,d03,d04,d11,d12,d13,d14,d21,d22,d23,d24,d31,d32,d33,d34,d41,d42,d43,d44,d51,d52,d53,d54,d61,d62,d63,d64,d71,d72,d73,d74,d81,d82,d83,d84,d91,d92,d93,d94,d101,d102,d103,d104,d111,d112,d113,d114,hS2],by simp [d01,d02,d03,d04,d11,d12,d13,d14,d21,d22,d23,d24,d31,d32,d33,d34,d41,d42,d43,d44,d51,d52,d53,d54,d61,d62,d63,d64,d71,d72,d73,d74,d81,d82,d83,d84,d91,d92,d93,d94,d101,d102,d103,d104,d111,d112,d113,d114,hSo],by simp [d01,d02,d03,d04,d11,d12,d13,d14,d21,d22,d23,d24,d31,d32,d33,d34,d41,d42,d43,d44,d51,d52,d53,d54,d61,d62,d63,d64,d71,d72,d73,d74,d81,d82,d83,d84,d91,d92,d93,d94,d101,d102,d103,d104,d111,d112,d113,d114,hSp]⟩
   ·rw [List.drop_eq_nil_of_le (by omega)] at hk
    simp only [List.all_nil,Bool.and_true] at hk
    subst hk
    cases k with
    | true =>
     simp only at hf
     rw [← hf] at hR
     simp only at hR
     subst hR
     simp [-getElem?_pos,znd,v3,v4,v6,v8,v11,v12,v13,v39,v40,v41,hS0,hS1,hS2,hSo,hSp,hjl,cnd,d01,d02,d03,d04,d11,d12,d13,d14,d21,d22,d23,d24,d31,d32,d33,d34,d41,d42,d43,d44,d51,d52,d53,d54,d61,d62,d63,d64,d71,d72,d73,d74,d81,d82,d83,d84,d91,d92,d93,d94,d101,d102,d103,d104,d111,d112,d113,d114]
    | false =>
     simp only at hf
     simp [-getElem?_pos,znd,v3,v4,v6,v8,v11,v12,v13,v34,v39,v40,v41,hS0,hS1,hS2,hSo,hSp,hjl,hws,d01,d02,d03,d04,d11,d12,d13,d14,d21,d22,d23,d24,d31,d32,d33,d34,d41,d42,d43,d44,d51,d52,d53,d54,d61,d62,d63,d64,d71,d72,d73,d74,d81,d82,d83,d84,d91,d92,d93,d94,d101,d102,d103,d104,d111,d112,d113,d114]
     exact zam (n-1) (by omega) ⟨i+1,by omega,hf,by simp [v3],by simp [v4],by simp [v6],by simp [v8],by simp [v32],by simp [v33],by simp,ho,by simp; omega,by simp [hS0],by simp [hS1],by simp [hS2],by simp [hSo]⟩
  ·rw [List.drop_eq_nil_of_le (by omega)] at hf
   rw [← hf] at hR
   simp only [List.find?_nil] at hR
   subst hR
   simp [-getElem?_pos,z3g,v6,v33,v34,hS2,h,zhh,cnd]
def zex (a b:Sl):Sl×Bool:=if ((sbi a.n b.n).2 && (sbi a.g b.g).2)=true then (⟨(sbi a.n b.n).1,(sbi a.g b.g).1⟩,true) else (⟨0,0⟩,false)
theorem yft {a b:Int}:inI (sbi a b).1:=by
 unfold sbi inI
 split
 ·rename_i h; simpa using h
 ·simp
theorem yzf (a b:Sl):slI (zex a b).1:=by
 unfold zex
 split
 ·exact ⟨yft,yft⟩
 ·unfold slI inI; simp
def zc4 (s:Sl):List Sl→Option (List Sl)
 | []=>some []
 | x::xs=>if (zbc s x).2=true then (zc4 (zbc s x).1 xs).map ((zbc s x).1 :: ·) else none
def zcf (h:List Sl):List Sl×Bool:=match zc4 ⟨0,0⟩ h with
 | some l=>(l,true)
 | none=>([],false)
theorem ydg : ∀ (h:List Sl) (s:Sl) (l:List Sl),slI s→zc4 s h=some l→l.length=h.length∧∀ x∈l,slI x
 | [],s,l,_,e=>by simp [zc4] at e; subst e; simp
 | x::xs,s,l,hs,e=>by
  simp only [zc4] at e
  split at e
  ·simp only [Option.map_eq_some_iff] at e
   obtain ⟨l',h1,rfl⟩:=e
   have hp:=zly (b:=x) hs
   obtain ⟨h2,h3⟩:=ydg xs _ _ hp h1
   refine ⟨by simp [h2],fun y hy => ?_⟩
   rcases List.mem_cons.mp hy with e | e
   ·subst e; exact hp
   ·exact h3 y e
  ·cases e
theorem z1v:slI ⟨0,0⟩:=⟨by unfold inI; simp,by unfold inI; simp⟩
theorem z57 (h:List Sl):(zcf h).1.length≤h.length∧(∀ x∈(zcf h).1,slI x)∧((zcf h).2=true→(zcf h).1.length=h.length):=by
 unfold zcf
 cases e:zc4 ⟨0,0⟩ h with
 | none=>simp
 | some l =>
  obtain ⟨h1,h2⟩:=ydg h _ l z1v e
  exact ⟨by simp [h1],h2,fun _=>h1⟩
def zfh (f:Int) (all:Sl) (least:Int):Int→List Sl→List Cnd→Option (List Cnd)
 | b,x::y::xs,acc=>if (zex all x).2=true then zfh f all least (b+1) (y::xs) (if least≤x.n∧least≤(zex all x).1.n then acc++[⟨f,b,x,(zex all x).1⟩] else acc) else none
 | _,_,acc=>some acc
def zgh (l:List Sl):Sl:=l.getLast?.getD ⟨0,0⟩
def zed (least:Int):Int→List (List Sl)→List Cnd→Option (List Cnd)
 | _,[],acc=>some acc
 | f,h::hs,acc=>if (zcf h).2=true then match zfh f (zgh (zcf h).1) least 0 (zcf h).1 acc with
  | some a=>zed least (f+1) hs a
  | none=>none
  else none
def zer (H:List (List Sl)) (least:Int):List Cnd:=(zed least 0 H []).getD []
theorem z23 {f:Int} {all:Sl} {least:Int} {l:List Sl} {i:Nat} {x:Sl} (acc:List Cnd) (hx:l[i]?=some x) (hi:i+1<l.length):zfh f all least i (l.drop i) acc=if (zex all x).2=true then zfh f all least (i+1:Nat) (l.drop (i+1)) (if least≤x.n∧least≤(zex all x).1.n then acc++[⟨f,i,x,(zex all x).1⟩] else acc) else none:=by
 rw [zeo hx,zeo (List.getElem?_eq_getElem hi),zfh]
 simp
theorem zr2 {f:Int} {all:Sl} {least:Int} {l:List Sl} {i:Nat} (acc:List Cnd) (hi : ¬ i+1<l.length):zfh f all least i (l.drop i) acc=some acc:=by
 match h:l.drop i with
 | []=>rw [zfh]; simp
 | [x]=>rw [zfh]; simp
 | x::y::xs =>
  have:=congrArg List.length h
  simp at this; omega
theorem yio {l:List Sl} {x:Sl} (h:l[l.length-1]?=some x):zgh l=x:=by
 unfold zgh; rw [List.getLast?_eq_getElem?,h]; rfl
def zrz (H:List (List Sl)) (x:Cnd):Prop := ∃ (f b:Nat) (h:List Sl),x.f=f∧x.b=b∧H[f]?=some h∧b+1<h.length∧slI x.a∧slI x.z
theorem z6n {f:Int} {all:Sl} {least:Int} {p:Cnd→Prop} {l:List Sl} (hl : ∀ x∈l,slI x) (hp : ∀ (b:Nat) (x z:Sl),b+1<l.length→slI x→slI z→p ⟨f,b,x,z⟩) : ∀ (k i:Nat) (acc a:List Cnd),i+k=l.length→(∀ x∈acc,p x)→zfh f all least i (l.drop i) acc=some a→a.length≤acc.length+k∧∀ x∈a,p x
 | 0,i,acc,a,hk,ha,h=>by
  rw [zr2 acc (by omega)] at h
  cases h
  exact ⟨by omega,ha⟩
 | k+1,i,acc,a,hk,ha,h=>by
  by_cases hi:i+1<l.length
  ·obtain ⟨x,hx⟩ : ∃ x,l[i]?=some x:=⟨_,List.getElem?_eq_getElem (by omega)⟩
   rw [z23 acc hx hi] at h
   have hxi:=hl x (List.mem_of_getElem? hx)
   split at h
   ·split at h
    ·obtain ⟨h1,h2⟩:=z6n hl hp k (i+1) _ _ (by omega) (fun y hy=>by
      rcases List.mem_append.mp hy with e | e
      ·exact ha y e
      ·simp only [List.mem_singleton] at e; subst e; exact hp i x _ hi hxi (yzf _ _)) h
     exact ⟨by simp at h1; omega,h2⟩
    ·obtain ⟨h1,h2⟩:=z6n hl hp k (i+1) _ _ (by omega) ha h
     exact ⟨by omega,h2⟩
   ·cases h
  ·rw [zr2 acc hi] at h
   cases h
   exact ⟨by omega,ha⟩
theorem z15 {least:Int} {H:List (List Sl)} {i:Nat} {h:List Sl} (acc:List Cnd) (hx:H[i]?=some h):zed least i (H.drop i) acc=if (zcf h).2=true then match zfh i (zgh (zcf h).1) least 0 (zcf h).1 acc with
  | some a=>zed least (i+1:Nat) (H.drop (i+1)) a
  | none=>none
  else none:=by
 rw [zeo hx,zed]
 simp
theorem yej {least:Int} {H:List (List Sl)} {m:Nat} (hm : ∀ l∈H,l.length≤m) : ∀ (k i:Nat) (acc a:List Cnd),i+k=H.length→(∀ x∈acc,zrz H x)→zed least i (H.drop i) acc=some a→a.length≤acc.length+m*k∧∀ x∈a,zrz H x
 | 0,i,acc,a,hk,ha,h=>by
  rw [List.drop_eq_nil_of_le (by omega),zed] at h
  cases h
  exact ⟨by omega,ha⟩
 | k+1,i,acc,a,hk,ha,h=>by
  obtain ⟨l,hx⟩ : ∃ x,H[i]?=some x:=⟨_,List.getElem?_eq_getElem (by omega)⟩
  rw [z15 acc hx] at h
  obtain ⟨p1,p2,p3⟩:=z57 l
  split at h
  ·rename_i hp
   split at h
   ·rename_i a' h'
    have h'':zfh i (zgh (zcf l).1) least ((0:Nat):Int) ((zcf l).1.drop 0) acc=some a':=by simpa using h'
    obtain ⟨q1,q2⟩:=z6n (p:=zrz H) p2 (fun b x z hb hx' hz'=>⟨i,b,l,rfl,rfl,hx,by omega,hx',hz'⟩) (zcf l).1.length 0 acc a' (by omega) ha h''
    obtain ⟨r1,r2⟩:=yej hm k (i+1) a' a (by omega) q2 h
    have:=hm l (List.mem_of_getElem? hx)
    refine ⟨?_,r2⟩
    rw [Nat.mul_add]
    omega
   ·cases h
  ·cases h
theorem yda {least:Int} {H:List (List Sl)} {m:Nat} (hm : ∀ l∈H,l.length≤m):(zer H least).length≤m*H.length∧∀ x∈zer H least,zrz H x:=by
 unfold zer
 cases h:zed least 0 H [] with
 | none=>simp
 | some a =>
  have h':zed least ((0:Nat):Int) (H.drop 0) []=some a:=by simpa using h
  obtain ⟨h1,h2⟩:=yej hm H.length 0 [] a (by omega) (fun x hx=>by cases hx) h'
  exact ⟨by simpa using h1,h2⟩
theorem yjz {H:List (List Sl)} {x:Cnd} (hH:H.length≤1048576) (hl : ∀ l∈H,l.length≤1048576) (h:zrz H x):zeb x:=by
 obtain ⟨f,b,l,h1,h2,h3,h4,h5,h6⟩:=h
 have:=(List.getElem?_eq_some_iff.mp h3).1
 have:=hl l (List.mem_of_getElem? h3)
 exact ⟨by unfold inI; omega,by unfold inI; omega,h5,h6⟩
theorem z16 {a:Wd} (h:wfU a):0≤mag a:=by
 obtain ⟨h0,h1,h2,h3⟩:=h
 unfold mag; omega
theorem yhg {a:Wd} (h:wfU a):zem a=decide (zbf a<0):=by
 obtain ⟨h0,h1,h2,h3⟩:=h
 unfold zem zbf mag
 cases a.n with
 | false =>
  simp only [Bool.false_and,Bool.false_eq_true,if_false]
  rw [decide_eq_false (by omega)]
 | true =>
  simp only [Bool.true_and,if_true]
  by_cases e1:a.h=0
  ·by_cases e2:a.l=0
   ·rw [decide_eq_true e1,decide_eq_true e2,decide_eq_false (by omega)]; rfl
   ·rw [decide_eq_false e2,decide_eq_true (show -(a.h*18446744073709551616+a.l)<0 by omega)]; simp
  ·rw [decide_eq_false e1,decide_eq_true (show -(a.h*18446744073709551616+a.l)<0 by omega)]; simp
theorem y0c {a b:Wd} (ha:wfU a) (hb:wfU b):zhv a b=zb5 (zbf a) (zbf b):=by
 have ma:=z16 ha
 have mb:=z16 hb
 have va:zbf a=if a.n=true then -mag a else mag a:=rfl
 have vb:zbf b=if b.n=true then -mag b else mag b:=rfl
 unfold zhv
 rw [yhg ha,yhg hb,z2n ha hb,z2n hb ha]
 generalize mag a=x at *
 generalize mag b=y at *
 generalize zbf a=p at *
 generalize zbf b=q at *
 unfold zb5
 simp only [decide_eq_true_eq]
 split at va <;> split at vb <;> (repeat' split) <;> omega
theorem yys {n:Bool} {m:Int} (h:0≤m):zbf (mkW n m)=if n=true then -m else m:=by
 unfold zbf
 rw [z1t]
 cases n with
 | false=>simp [mkW]
 | true =>
  by_cases e:0<m
  ·simp [mkW,e]
  ·simp [mkW,e]; omega
theorem yjg {w:Wd} {k:Int} (hw:wfU w) (hk:0<k) (h:(zcp w k).2=true):zbf (zcp w k).1=zbf w*k:=by
 unfold zcp at h ⊢
 split
 ·have hn:(k.natAbs:Int)=k:=by omega
  rw [hn]
  have:decide (k<0)=false:=decide_eq_false (by omega)
  rw [this]
  rw [yys (Int.mul_nonneg (z16 hw) (by omega))]
  unfold zbf
  cases w.n <;> simp [Int.neg_mul]
 ·rename_i hc
  rw [if_neg hc] at h
  cases h
theorem yee {a b:Fr} (ha:frI a) (hb:frI b) (h:(zdu a b).2=true):1≤a.d∧1≤b.d∧(zdu a b).1=zb5 (zbf a.w*b.d) (zbf b.w*a.d):=by
 unfold zdu at h ⊢
 split
 ·rename_i hc
  obtain ⟨h1,h2⟩:=z6w hc
  obtain ⟨w1,w2⟩:=z2r a b ha.1 hb.1
  refine ⟨h1.1,h2.1,?_⟩
  simp only
  rw [y0c w1 w2]
  unfold zbi at hc ⊢
  split
  ·rename_i hq
   rw [if_pos hq] at hc
   simp only [Bool.and_eq_true] at hc
   simp only
   rw [yjg ha.1 (by omega) hc.1,yjg hb.1 (by omega) hc.2]
  ·rename_i hq
   rw [if_neg hq] at hc
   cases hc
 ·rename_i hc
  rw [if_neg hc] at h
  cases h
theorem yzk {w:Wd} {d:Int} (h:(zcm w d).2=true):1≤(zcm w d).1.d:=by
 unfold zcm at h ⊢
 split
 ·rename_i hc
  simp only [frB,Bool.and_eq_true] at hc
  have:=zax.mp hc.2
  simp only; omega
 ·rename_i hc
  rw [if_neg hc] at h
  cases h
theorem z43 {x:Cnd} {l:Int} (h:(zav x l).2=true):1≤(zav x l).1.d:=by
 unfold zav at h ⊢
 split
 ·rename_i hc
  rw [if_pos hc] at h
  unfold zfc at h ⊢
  split
  ·rename_i hd
   rw [if_pos hd] at h
   split
   ·rename_i he
    rw [if_pos he] at h
    exact yzk h
   ·rename_i he
    rw [if_neg he] at h
    cases h
  ·rename_i hd
   rw [if_neg hd] at h
   cases h
 ·rename_i hc
  rw [if_neg hc] at h
  cases h
def ovr (l:Int) (a b:Cnd):Prop:=zbf (zav b l).1.w*(zav a l).1.d<zbf (zav a l).1.w*(zav b l).1.d∨(zbf (zav b l).1.w*(zav a l).1.d=zbf (zav a l).1.w*(zav b l).1.d∧zf2 a b=true)
theorem z2x {a b:Cnd}:zf2 a b=true↔a.f<b.f∨(a.f=b.f∧a.b<b.b):=by
 unfold zf2; simp
theorem z68 (l:Int) (a:Cnd) : ¬ ovr l a a:=by
 unfold ovr
 rw [z2x]
 omega
theorem yx3 {x y z p q r:Int} (hp:0<p) (hq:0<q) (hr:0<r) (h1:x*q≤y*p) (h2:y*r≤z*q):x*r≤z*p∧((x*q<y*p∨y*r<z*q)→x*r<z*p):=by
 have a1:x*r*q=x*q*r:=by rw [Int.mul_assoc,Int.mul_comm r q,← Int.mul_assoc]
 have a2:y*p*r=y*r*p:=by rw [Int.mul_assoc,Int.mul_comm p r,← Int.mul_assoc]
 have a3:z*q*p=z*p*q:=by rw [Int.mul_assoc,Int.mul_comm q p,← Int.mul_assoc]
 have b1:x*q*r≤y*p*r:=Int.mul_le_mul_of_nonneg_right h1 (by omega)
 have b2:y*r*p≤z*q*p:=Int.mul_le_mul_of_nonneg_right h2 (by omega)
 refine ⟨Int.le_of_mul_le_mul_right (a:=q) (by omega) hq,fun h => ?_⟩
 refine Int.lt_of_mul_lt_mul_right (a:=q) ?_ (by omega)
 rcases h with h | h
 ·have c1:x*q*r<y*p*r:=Int.mul_lt_mul_of_pos_right h hr
  omega
 ·have c1:y*r*p<z*q*p:=Int.mul_lt_mul_of_pos_right h hp
  omega
theorem ye9 {l:Int} {a b c:Cnd} (ha:(zav a l).2=true) (hb:(zav b l).2=true) (hc:(zav c l).2=true) (h1:ovr l a b) (h2:ovr l b c):ovr l a c:=by
 have da:=z43 ha
 have db:=z43 hb
 have dc:=z43 hc
 unfold ovr at *
 rw [z2x] at *
 generalize zbf (zav a l).1.w=x at *
 generalize zbf (zav b l).1.w=y at *
 generalize zbf (zav c l).1.w=z at *
 generalize (zav a l).1.d=p at *
 generalize (zav b l).1.d=q at *
 generalize (zav c l).1.d=r at *
 obtain ⟨k1,k2⟩:=yx3 (x:=z) (y:=y) (z:=x) (p:=r) (q:=q) (r:=p) (by omega) (by omega) (by omega) (by omega) (by omega)
 rcases h1 with h1 | ⟨h1,e1⟩
 ·exact .inl (k2 (.inr h1))
 ·rcases h2 with h2 | ⟨h2,e2⟩
  ·exact .inl (k2 (.inl h2))
  ·by_cases hlt:z*p<x*r
   ·exact .inl hlt
   ·exact .inr ⟨by omega,by omega⟩
theorem ygf {a b:Cnd} {l:Int} (h:zcd a b l=true):ovr l a b:=by
 unfold zcd at h
 simp only [Bool.and_eq_true] at h
 obtain ⟨h1,h2,h3,h4⟩:=h
 obtain ⟨d1,d2,e⟩:=yee (zlx a l) (zlx b l) h3
 rw [e] at h4
 unfold ovr
 generalize zbf (zav a l).1.w*(zav b l).1.d=x at *
 generalize zbf (zav b l).1.w*(zav a l).1.d=y at *
 simp only [Bool.or_eq_true,Bool.and_eq_true,decide_eq_true_eq] at h4
 unfold zb5 at h4
 rcases h4 with h4 | ⟨h4,h5⟩
 ·left
  split at h4
  ·omega
  ·split at h4 <;> omega
 ·right
  refine ⟨?_,h5⟩
  split at h4
  ·omega
  ·split at h4 <;> omega
theorem yei {p:Cnd→Prop} {R:Cnd→Cnd→Prop} (irr : ∀ x,¬ R x x) (tr : ∀ x y z,p x→p y→p z→R x y→R y z→R x z) : ∀ l:List Cnd,l≠[]→(∀ x∈l,p x)→∃ x∈l,∀ y∈l,¬ R y x
 | [],h,_=>absurd rfl h
 | a::l,_,hp=>by
  by_cases hl:l=[]
  ·subst hl
   refine ⟨a,by simp,fun y hy => ?_⟩
   simp only [List.mem_singleton] at hy
   subst hy
   exact irr _
  ·obtain ⟨m,hm,hx⟩:=yei irr tr l hl (fun x hx=>hp x (List.mem_cons_of_mem _ hx))
   by_cases ham:R a m
   ·refine ⟨a,by simp,fun y hy => ?_⟩
    rcases List.mem_cons.mp hy with e | e
    ·subst e; exact irr _
    ·exact fun h=>hx y e (tr y a m (hp y hy) (hp a (by simp)) (hp m (List.mem_cons_of_mem _ hm)) h ham)
   ·refine ⟨m,List.mem_cons_of_mem _ hm,fun y hy => ?_⟩
    rcases List.mem_cons.mp hy with e | e
    ·subst e; exact ham
    ·exact hx y e
theorem z2a {c:Cfg} {b:Bd} {x:Cnd} (h:zbj c b x=true):(zav x c.la).2=true:=by
 unfold zbj zjt at h
 simp only [Bool.and_eq_true] at h
 exact h.2.2.2.2.2.1
theorem z60 {c:Cfg} {b:Bd} {l:List Cnd} (h:(zdb c b l).2=true):(zdb c b l).1∈l∧zbj c b (zdb c b l).1=true∧∀ y∈l,zbj c b y=true→zcd y (zdb c b l).1 c.la=false:=by
 unfold zdb at h ⊢
 cases e:l.find? (ziz c b l) with
 | none=>rw [e] at h; cases h
 | some x =>
  simp only
  have h1:=List.mem_of_find?_eq_some e
  have h2:=List.find?_some e
  unfold ziz at h2
  simp only [Bool.and_eq_true] at h2
  refine ⟨h1,h2.1,fun y hy hm => ?_⟩
  have:=List.all_eq_true.mp h2.2 y hy
  unfold noB at this
  rw [hm] at this
  simpa using this
theorem ywq {c:Cfg} {b:Bd} {l:List Cnd} (h:l.any (zbj c b)=true):(zdb c b l).2=true:=by
 obtain ⟨x,hx,hm⟩:=List.any_eq_true.mp h
 obtain ⟨m,hm1,hm2⟩:=yei (p:=fun x=>(zav x c.la).2=true) (R:=ovr c.la) (z68 c.la) (fun x y z h1 h2 h3=>ye9 h1 h2 h3) (l.filter (zbj c b)) (by
  intro e
  have:x∈l.filter (zbj c b):=List.mem_filter.mpr ⟨hx,hm⟩
  rw [e] at this; cases this) (fun y hy=>z2a (List.mem_filter.mp hy).2)
 unfold zdb
 cases e:l.find? (ziz c b l) with
 | some x=>rfl
 | none =>
  exfalso
  obtain ⟨h1,h2⟩:=List.mem_filter.mp hm1
  have h3:=List.find?_eq_none.mp e m h1
  apply h3
  unfold ziz
  rw [h2,Bool.true_and,List.all_eq_true]
  intro y hy
  unfold noB
  cases hmy:zbj c b y with
  | false=>rfl
  | true =>
   cases hb:zcd y m c.la with
   | false=>rfl
   | true=>exact absurd (ygf hb) (hm2 y (List.mem_filter.mpr ⟨hy,hmy⟩))
theorem yf4 (c:Cfg) (b:Bd) (l:List Cnd):(zdb c b l).2=l.any (zbj c b):=by
 cases h:l.any (zbj c b) with
 | true=>exact ywq h
 | false =>
  cases e:(zdb c b l).2 with
  | false=>rfl
  | true =>
   obtain ⟨h1,h2,_⟩:=z60 e
   have:l.any (zbj c b)=true:=List.any_eq_true.mpr ⟨_,h1,h2⟩
   rw [h] at this; cases this
theorem ywc : ∀ x y:Nat,2*(x &&& y)+(x ^^^ y)=x+y:=by
 intro x
 induction x using Nat.strongRecOn with
 | _ x ih =>
  intro y
  by_cases hx:x=0
  ·subst hx; simp
  ·have h1:=ih (x / 2) (by omega) (y / 2)
   have h2:(x &&& y) / 2=x / 2 &&& y / 2:=by rw [Nat.and_div_two]
   have h3:(x ^^^ y) / 2=x / 2 ^^^ y / 2:=by rw [Nat.xor_div_two]
   have h4:(x &&& y) % 2=1↔x % 2=1∧y % 2=1:=Nat.and_mod_two_eq_one
   have h5:(x ^^^ y) % 2=1↔¬ (x % 2=1↔y % 2=1):=Nat.xor_mod_two_eq_one
   omega
def zc1 (a:Int):Nat:=(a % 18446744073709551616).toNat
theorem z1u {a:Int} (h:inI a):(zc1 a:Int)=if a<0 then a+18446744073709551616 else a:=by
 unfold inI at h
 unfold zc1
 split <;> omega
theorem z2j (a:Int):zc1 a<18446744073709551616:=by
 unfold zc1; omega
theorem z5p {n:Nat} (h:n<18446744073709551616):IntKind.i64.wrap n=if n<9223372036854775808 then (n:Int) else n-18446744073709551616:=by
 split
 ·exact w64 (by omega) (by omega)
 ·simp [IntKind.wrap,IntKind.signed,IntKind.bits]
  omega
theorem yxw (x y:Nat) (hx:x<18446744073709551616) (hy:y<18446744073709551616):(9223372036854775808≤(x &&& y)↔9223372036854775808≤x∧9223372036854775808≤y)∧(9223372036854775808≤(x ^^^ y)↔¬ (9223372036854775808≤x↔9223372036854775808≤y)):=by
 have h1:(x &&& y) >>> 63=x >>> 63 &&& y >>> 63:=Nat.shiftRight_and_distrib
 have h2:(x ^^^ y) >>> 63=x >>> 63 ^^^ y >>> 63:=Nat.shiftRight_xor_distrib
 rw [Nat.shiftRight_eq_div_pow,Nat.shiftRight_eq_div_pow,Nat.shiftRight_eq_div_pow] at h1 h2
 have hx':x / 2 ^ 63=0∨x / 2 ^ 63=1:=by omega
 have hy':y / 2 ^ 63=0∨y / 2 ^ 63=1:=by omega
 rcases hx' with e1 | e1 <;> rcases hy' with e2 | e2 <;> rw [e1,e2] at h1 h2 <;> simp at h1 h2 <;> omega
theorem ykd {x y:Nat} (hx:x<18446744073709551616):(x &&& y)<18446744073709551616:=Nat.lt_of_le_of_lt Nat.and_le_left hx
theorem yz6 {x y:Nat} (hx:x<18446744073709551616) (hy:y<18446744073709551616):(x ^^^ y)<18446744073709551616:=Nat.xor_lt_two_pow (n:=64) hx hy
theorem yy3 {a b:Int} (ha:inI a) (hb:inI b):2*IntKind.i64.wrap ((zc1 a &&& zc1 b:Nat):Int)+IntKind.i64.wrap ((zc1 a ^^^ zc1 b:Nat):Int)=a+b:=by
 have la:=z2j a
 have lb:=z2j b
 have ea:=z1u ha
 have eb:=z1u hb
 obtain ⟨t1,t2⟩:=yxw _ _ la lb
 have hs:=ywc (zc1 a) (zc1 b)
 rw [z5p (ykd la),z5p (yz6 la lb)]
 unfold inI at ha hb
 generalize zc1 a &&& zc1 b=p at *
 generalize zc1 a ^^^ zc1 b=q at *
 split at ea <;> split at eb <;> split <;> split <;> omega
theorem yig {a b:Int} (ha:inI a) (hb:inI b):inI (IntKind.i64.wrap ((zc1 a &&& zc1 b:Nat):Int))∧(IntKind.i64.wrap ((zc1 a &&& zc1 b:Nat):Int) % 2=1↔a % 2=1∧b % 2=1):=by
 have la:=z2j a
 have lb:=z2j b
 have ea:=z1u ha
 have eb:=z1u hb
 have h4:(zc1 a &&& zc1 b) % 2=1↔zc1 a % 2=1∧zc1 b % 2=1:=Nat.and_mod_two_eq_one
 have hl:=ykd (y:=zc1 b) la
 rw [z5p hl]
 unfold inI at *
 generalize zc1 a &&& zc1 b=p at *
 split at ea <;> split at eb <;> split <;> omega
def zfy (a b:Int):Int:=(a+b) / 2
theorem yuv (a b:Int) (ha:inI a) (hb:inI b):RUN T zp0 [iv a,iv b]=some ([iv (zfy a b)],[]):=by
 refine zag z95 rfl ?_
 have h:=yy3 ha hb
 obtain ⟨h1,_⟩:=yig ha hb
 unfold zc1 at h h1
 unfold inI at ha hb h1
 have hb64:IntKind.i64.bits=64:=rfl
 simp [zza,zzb,hb64]
 rw [Int.fdiv_eq_ediv_of_nonneg _ (by omega)]
 unfold zfy
 generalize IntKind.i64.wrap (((a % 18446744073709551616).toNat &&& (b % 18446744073709551616).toNat:Nat):Int)=p at *
 generalize IntKind.i64.wrap (((a % 18446744073709551616).toNat ^^^ (b % 18446744073709551616).toNat:Nat):Int)=q at *
 rw [w64 (by omega) (by omega)]
 omega
theorem yuw (a b:Int) (ha:inI a) (hb:inI b):RUN T zpz [iv a,iv b]=some ([iv (zfy a b)],[]):=by
 refine zag z93 rfl ?_
 obtain ⟨h1,h2⟩:=yig ha hb
 unfold zc1 at h1 h2
 unfold inI at ha hb h1
 have hb64:IntKind.i64.bits=64:=rfl
 simp [zy6,zy7,hb64]
 rw [Int.fdiv_eq_ediv_of_nonneg _ (by omega),Int.fdiv_eq_ediv_of_nonneg _ (by omega)]
 unfold zfy
 generalize IntKind.i64.wrap (((a % 18446744073709551616).toNat &&& (b % 18446744073709551616).toNat:Nat):Int)=p at *
 have h3:max (p % 18446744073709551616) 0 % 2=p % 2:=by omega
 rw [h3,w64 (x:=p % 2) (by omega) (by omega),w64 (x:=a / 2+b / 2) (by omega) (by omega),w64 (by omega) (by omega)]
 omega
def zej (s:Int) (b:Bd) (l r:Int):Bd×Bd:=if zc3 b=true then (if s=1 then (⟨b.lo,zb7 (zfy l r) b.lo b.hi⟩,⟨zb7 (zfy l r) b.lo b.hi,b.hi⟩) else if s = -1 then (⟨zb7 (zfy l r) b.lo b.hi,b.hi⟩,⟨b.lo,zb7 (zfy l r) b.lo b.hi⟩) else (b,b)) else (b,b)
theorem yux (s:Int) (b:Bd) (l r:Int) (hl:inI l) (hr:inI r):RUN T zpf [iv s,.agg (bnd b),iv l,iv r]=some ([.agg (bnd (zej s b l r).1),.agg (bnd (zej s b l r).2)],[]):=by
 have e1:=ycq b
 have e2:=yuv l r hl hr
 have e3:=ycs (zfy l r) b.lo b.hi
 refine zag z83 rfl ?_
 unfold zej
 generalize zc3 b=q at *
 generalize zb7 (zfy l r) b.lo b.hi=m at *
 obtain ⟨lo,hi⟩:=b
 simp only [bnd] at *
 cases q with
 | false=>simp [zq0,zq1,e1]
 | true =>
  by_cases h1:s=1
  ·simp [zq0,zq1,e1,e2,e3,h1]
  ·by_cases h2:s = -1 <;> simp [zq0,zq1,e1,e2,e3,h1,h2]
theorem ycx (s:Int) (b:Bd) (l r:Int) (hl:inI l) (hr:inI r):RUN T zl8 [iv s,.agg (bnd b),iv l,iv r]=some ([.agg (bnd (zej s b l r).1),.agg (bnd (zej s b l r).2)],[]):=by
 have e1:=ycp b
 have e2:=yuw l r hl hr
 have e3:=ycr (zfy l r) b.lo b.hi
 refine zag z8w rfl ?_
 unfold zej
 generalize zc3 b=q at *
 generalize zb7 (zfy l r) b.lo b.hi=m at *
 obtain ⟨lo,hi⟩:=b
 simp only [bnd] at *
 cases q with
 | false=>simp [zqy,zqz,e1,e2,e3]
 | true =>
  by_cases h1:s=1
  ·simp [zqy,zqz,e1,e2,e3,h1]
  ·by_cases h2:s = -1 <;> simp [zqy,zqz,e1,e2,e3,h1,h2]
theorem yuy (a b:Sl) (ha:slI a) (hb:slI b):RUN T zpo [.agg (slc a),.agg (slc b)]=some ([.agg (slc (zex a b).1),bv (zex a b).2],[]):=by
 have e1:=yb6 a.n b.n ha.1 hb.1
 have e2:=yb6 a.g b.g ha.2 hb.2
 unfold zex
 generalize sbi a.n b.n=x at *
 generalize sbi a.g b.g=y at *
 obtain ⟨x,xb⟩:=x
 obtain ⟨y,yb⟩:=y
 simp only at e1 e2 ⊢
 refine zag z9h rfl ?_
 cases xb <;> cases yb <;> simp [zx5,zx6,e1,e2,slc]
theorem ydk (m:List Sl) (x:Sl):zbh m++[[iv x.n,iv x.g]]=zbh (m++[x]):=by simp [zbh,slc]
theorem yer {s x:Sl} {h:List Sl} {i:Nat} (hx:h[i]?=some x):zc4 s (h.drop i)=if (zbc s x).2=true then (zc4 (zbc s x).1 (h.drop (i+1))).map ((zbc s x).1 :: ·) else none:=by
 rw [zeo hx,zc4]
set_option maxHeartbeats 1000000 in
theorem yuz (h:List Sl) (hl:h.length≤1048576) (hi : ∀ x∈h,slI x):RUN T zpn [.sl 2 (zbh h)]=some ([.own 2 (zbh (zcf h).1),bv (zcf h).2],[]):=by
 obtain ⟨R,hR⟩ : ∃ R,R=zcf h:=⟨_,rfl⟩
 have hR':R=match zc4 ⟨0,0⟩ h with
  | some l=>(l,true)
  | none=>([],false):=by rw [hR]; rfl
 rw [← hR]
 clear hR
 have hr0:zak 16 0=true:=by decide
 have hr1:zak 16 1=true:=by decide
 refine zag z9g rfl ?_
 simp [-getElem?_pos,zx3,zx4,hr0]
 refine za4 (fun n st => ∃ (i o e:Nat) (m:List Sl) (s:Sl),i+n=h.length∧m.length=i∧slI s∧zc4 ⟨0,0⟩ h=(zc4 s (h.drop i)).map (m ++ ·)∧st.V 4 = .ref o none e 0 m.length∧st.V 5 = .ptr 1 none 0 0 0∧st.V 12 = .sl 2 (zbh h)∧st.V 13=iv h.length∧st.V 14=iv i∧¬ o=1∧o<st.nx∧1<st.nx∧st.S o=some (.row 2 (zbh m))∧st.S 1=some (.box [iv s.n,iv s.g])) ?_ h.length _ ⟨0,0,0,[],⟨0,0⟩,by omega,rfl,z1v,by simp,by simp,by simp,by simp,by simp,by simp,by simp,by simp,by simp,by simp [zbh],by simp⟩
 rintro n st ⟨i,o,ep,m,s,hin,hm,hs,hp,v4,v5,v12,v13,v14,ho1,hox,h1x,hSo,hS1⟩
 obtain ⟨x1,x2,x3,x4⟩:=fr hox
 obtain ⟨z1,z2,z3,z4⟩:=fr h1x
 obtain ⟨a1,a2,a3,a4⟩:=fr (show o<st.nx+1 by omega)
 obtain ⟨b1,b2,b3,b4⟩:=fr (show o<st.nx+2 by omega)
 obtain ⟨c1,c2,c3,c4⟩:=fr (show 1<st.nx+1 by omega)
 obtain ⟨d1,d2,d3,d4⟩:=fr (show 1<st.nx+2 by omega)
 have ho2 : ¬ 1=o:=fun e=>ho1 e.symm
 have hn0 : ¬ st.nx=0:=by omega
 have hn1 : ¬ 1=st.nx+1:=by omega
 by_cases hlt:i<h.length
 ·obtain ⟨x,hx⟩ : ∃ x,h[i]?=some x:=⟨_,List.getElem?_eq_getElem hlt⟩
  have hx':=zli hx
  have hws:=wS hlt (by omega:h.length≤9223372036854775807)
  have hr16:zak 16 (m.length+1)=true:=by simp [zak]; omega
  have e1:=z36 s x hs (hi x (List.mem_of_getElem? hx))
  have hpi:=zly (b:=x) hs
  rw [yer hx] at hp
  generalize zbc s x=p at *
  obtain ⟨⟨pn,pg⟩,pb⟩:=p
  simp only [slc] at e1 hp hpi
  cases pb with
  | false =>
   rw [if_neg (by simp)] at hp
   rw [hp] at hR'
   subst hR'
   simp [-getElem?_pos,zx2,v4,v5,v12,v13,v14,hlt,hx',hSo,hS1,e1,ho1,ho2,hn0,x1,x2,x3,x4,z1,z2,z3,z4,a1,a2,a3,a4,b1,b2,b3,b4,c1,c2,c3,c4,d1,d2,d3,d4]
   simp [zbh]
  | true =>
   rw [if_pos rfl] at hp
   have hsn:=ydk m ⟨pn,pg⟩
   simp only at hsn
   simp [-getElem?_pos,zx2,v4,v5,v12,v13,v14,hlt,hx',hSo,hS1,hr1,hr16,hws,hsn,e1,ho1,ho2,hn0,x1,x2,x3,x4,z1,z2,z3,z4,a1,a2,a3,a4,b1,b2,b3,b4,c1,c2,c3,c4,d1,d2,d3,d4]
   exact zam (n-1) (by omega) ⟨i+1,st.nx+1+2,st.ep,m++[⟨pn,pg⟩],⟨pn,pg⟩,by omega,by simp [hm],hpi,by rw [hp]; cases zc4 ⟨pn,pg⟩ (h.drop (i+1)) <;> simp,by simp,by simp [v5],by simp [v12],by simp [v13],by simp,by omega,by simp,by simp <;> omega,by simp [hn0],by simp [hn0]⟩
 ·rw [List.drop_eq_nil_of_le (by omega),zc4] at hp
  simp only [Option.map_some,List.append_nil] at hp
  rw [hp] at hR'
  subst hR'
  simp [-getElem?_pos,zx2,v4,v13,v14,hlt,hSo]
set_option maxHeartbeats 1000000 in
theorem yu0 (h:List Sl) (hl:h.length≤1048576) (hi : ∀ x∈h,slI x):RUN T zpq [.sl 2 (zbh h)]=some ([.own 2 (zbh (zcf h).1),bv (zcf h).2],[]):=by
 obtain ⟨R,hR⟩ : ∃ R,R=zcf h:=⟨_,rfl⟩
 have hR':R=match zc4 ⟨0,0⟩ h with
  | some l=>(l,true)
  | none=>([],false):=by rw [hR]; rfl
 rw [← hR]
 clear hR
 have hr0:zak 16 0=true:=by decide
 have hr1:zak 16 1=true:=by decide
 refine zag z9l rfl ?_
 simp [-getElem?_pos,zyc,zyd,hr0]
 refine za4 (fun n st => ∃ (i o e:Nat) (m:List Sl) (s:Sl),i+n=h.length∧m.length=i∧slI s∧zc4 ⟨0,0⟩ h=(zc4 s (h.drop i)).map (m ++ ·)∧st.V 0 = .sl 2 (zbh h)∧st.V 4 = .ref o none e 0 m.length∧st.V 5 = .ptr 1 none 0 0 0∧st.V 6=iv i∧¬ o=1∧o<st.nx∧1<st.nx∧st.S o=some (.row 2 (zbh m))∧st.S 1=some (.box [iv s.n,iv s.g])) ?_ h.length _ ⟨0,0,0,[],⟨0,0⟩,by omega,rfl,z1v,by simp,by simp,by simp,by simp,by simp,by simp,by simp,by simp,by simp [zbh],by simp⟩
 rintro n st ⟨i,o,ep,m,s,hin,hm,hs,hp,v0,v4,v5,v6,ho1,hox,h1x,hSo,hS1⟩
 obtain ⟨x1,x2,x3,x4⟩:=fr hox
 obtain ⟨z1,z2,z3,z4⟩:=fr h1x
 obtain ⟨a1,a2,a3,a4⟩:=fr (show o<st.nx+1 by omega)
 obtain ⟨c1,c2,c3,c4⟩:=fr (show 1<st.nx+1 by omega)
 have ho2 : ¬ 1=o:=fun e=>ho1 e.symm
 have hn0 : ¬ st.nx=0:=by omega
 have hn1 : ¬ 1=st.nx+1:=by omega
 by_cases hlt:i<h.length
 ·obtain ⟨x,hx⟩ : ∃ x,h[i]?=some x:=⟨_,List.getElem?_eq_getElem hlt⟩
  have hx':=zli hx
  have hws:=wS hlt (by omega:h.length≤9223372036854775807)
  have hr16:zak 16 (m.length+1)=true:=by simp [zak]; omega
  have e1:=z37 s x hs (hi x (List.mem_of_getElem? hx))
  have hpi:=zly (b:=x) hs
  rw [yer hx] at hp
  generalize zbc s x=p at *
  obtain ⟨⟨pn,pg⟩,pb⟩:=p
  simp only [slc] at e1 hp hpi
  cases pb with
  | false =>
   rw [if_neg (by simp)] at hp
   rw [hp] at hR'
   subst hR'
   simp [-getElem?_pos,zyb,v0,v4,v5,v6,hlt,hx',hSo,hS1,hr0,e1,ho1,ho2,hn0,x1,x2,x3,x4,z1,z2,z3,z4,a1,a2,a3,a4,c1,c2,c3,c4]
   simp [zbh]
  | true =>
   rw [if_pos rfl] at hp
   have hsn:=ydk m ⟨pn,pg⟩
   simp only at hsn
   simp [-getElem?_pos,zyb,v0,v4,v5,v6,hlt,hx',hSo,hS1,hr1,hr16,hws,hsn,e1,ho1,ho2,hn0,x1,x2,x3,x4,z1,z2,z3,z4,a1,a2,a3,a4,c1,c2,c3,c4]
   exact zam (n-1) (by omega) ⟨i+1,st.nx+2,st.ep,m++[⟨pn,pg⟩],⟨pn,pg⟩,by omega,by simp [hm],hpi,by rw [hp]; cases zc4 ⟨pn,pg⟩ (h.drop (i+1)) <;> simp,by simp [v0],by simp,by simp [v5],by simp,by omega,by simp,by simp <;> omega,by simp [hn0],by simp [hn0,ho1,ho2]⟩
 ·rw [List.drop_eq_nil_of_le (by omega),zc4] at hp
  simp only [Option.map_some,List.append_nil] at hp
  rw [hp] at hR'
  subst hR'
  simp [-getElem?_pos,zyb,v0,v4,v6,hlt,hSo]
theorem ydn (m:List Cnd) (x:Cnd):zce m++[[iv x.f,iv x.b,iv x.a.n,iv x.a.g,iv x.z.n,iv x.z.g]]=zce (m++[x]):=by simp [zce,cnd]
end Go.Pe
