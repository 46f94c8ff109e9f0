/- What each function answers by the evaluator,and the law; for each answer its own conditions stand ahead of it. -/
import Derived.Test.YtadpenaldhkjcaaGreatK0
import Derived.Test.YtadpenaldhkjcaaGreatEvB2
import Derived.IntWalk
set_option linter.all false
namespace Go.Pe
open Go
theorem w64 {x:Int} (h1 : -9223372036854775808≤x) (h2:x≤9223372036854775807):IntKind.i64.wrap x=x:=IntWalk.i64_in x ⟨h1,h2⟩
@[simp] theorem y6u {x:Int} (h1 : -9223372036854775808≤x) (h2:x≤9223372036854775807):IntKind.i64.wrap x=x:=w64 h1 h2
structure Nd where
 f:Int
 c:Int
 l:Int
 r:Int
 v:Int
deriving DecidableEq
def nd (n:Nd):List PV:=[iv n.f,iv n.c,iv n.l,iv n.r,iv n.v]
@[simp] theorem zcz (a b c:Int):RUN T zcf [iv a,iv b,iv c]=some ([bv (decide (b≤a) && decide (a≤c))],[]):=by
 refine zai z4g rfl ?_
 simp [zuw,zux]
 refine zdm (fun h => ?_) (fun h => ?_) <;> simp [h]
@[simp] theorem zay (a b c:Int):RUN T zbm [iv a,iv b,iv c]=some ([bv (decide (b≤a) && decide (a≤c))],[]):=by
 refine zai z34 rfl ?_
 simp [zuk,zul]
 refine zdm (fun h => ?_) (fun h => ?_) <;> simp [h]
def zi1 {α:Type} (p:α→Bool) (l:List α):Int:=match l.findIdx? p with
 | some i=>(i:Int)
 | none => -1
theorem ycc {α:Type} {p:α→Bool} {l:List α} (h : ∀ (j:Nat) (x:α),j<l.length→l[j]?=some x→p x=false):zi1 p l = -1:=by
 unfold zi1
 have:l.findIdx? p=none:=by
  rw [List.findIdx?_eq_none_iff]
  intro x hx
  obtain ⟨j,hj⟩:=List.getElem?_of_mem hx
  exact h j x (List.getElem?_eq_some_iff.mp hj).1 hj
 rw [this]
theorem yby {α:Type} {p:α→Bool} {l:List α} {i:Nat} {x:α} (hi:l[i]?=some x) (hp:p x=true) (h : ∀ (j:Nat) (x:α),j<i→l[j]?=some x→p x=false):zi1 p l=i:=by
 unfold zi1
 have:l.findIdx? p=some i:=by
  rw [List.findIdx?_eq_some_iff_getElem]
  obtain ⟨h1,h2⟩:=List.getElem?_eq_some_iff.mp hi
  refine ⟨h1,by rw [h2]; exact hp,fun j hj => ?_⟩
  have:=h j l[j] hj (List.getElem?_eq_getElem (by omega))
  simp [this]
 rw [this]
theorem ydb {α:Type} {p:α→Bool} {l:List α} {i:Nat} {x:α} (h : ∀ (j:Nat) (x:α),j<i→l[j]?=some x→p x=false) (hi:l[i]?=some x) (hp:p x=false) : ∀ (j:Nat) (x:α),j<i+1→l[j]?=some x→p x=false:=by
 intro j y hj hy
 by_cases e:j=i
 ·subst e; rw [hi] at hy; cases hy; exact hp
 ·exact h j y (by omega) hy
def yaj (k:Int) (n:Nd):Bool := !decide (n.f = -1) && (decide (n.l=k) || decide (n.r=k))
def par (t:List Nd) (k:Int):Int:=zi1 (yaj k) t
theorem wS {i n:Nat} (h:i<n) (hn:n≤9223372036854775807):IntKind.i64.wrap ((i:Int)+1)=(i:Int)+1:=w64 (by omega) (by omega)
def zac (l:List Int):List (List PV):=l.map fun n=>[iv n]
@[simp] theorem y0f (l:List Int):(zac l).length=l.length:=by simp [zac]
theorem zbj {l:List Int} {i:Nat} {x:Int} (h:l[i]?=some x):(zac l)[i]?=some [iv x]:=by simp [zac,h]
@[simp] theorem qdy:zac []=[]:=rfl
theorem zs3 (x:Int) (l:List Int):zac (x::l)=[iv x]::zac l:=rfl
theorem yds (l:List Int) (i:Nat) (x:Int):(zac l).set i [iv x]=zac (l.set i x):=by simp [zac,List.map_set]
theorem yvd (l m:List Int):zac l++zac m=zac (l++m):=by simp [zac]
theorem zc3 (l:List Int) (x:Int):zac l++[[iv x]]=zac (l++[x]):=by simp [zac]
theorem ybk (l:List Int):zdf (zac l)=true:=by simp [zdf,zac]
def anc (t:List Nd):Nat→Int→Option (List Int)
 | 0,_=>none
 | n+1,k=>if par t k<0 then some [] else (anc t n (par t k)).map (par t k :: ·)
def way (t:List Nd) (k:Int):List Int:=if 0≤k∧k≤t.length-1 then match anc t 32 k with
  | some l=>(k::l).reverse
  | none=>[]
 else []
theorem zd1 {n:Nat} (h:n≤17592186044416):zam 8 n=true:=by simp [zam]; omega
def upto (k:Int) (n:Nat):List Int:=(List.range n).map fun (i:Nat)=>k+(i:Int)
@[simp] theorem qae (k:Int) (n:Nat):(upto k n).length=n:=by simp [upto]
theorem zfr {α:Type} {l:List α} {i:Nat} {x:α} (h:l[i]?=some x):l.drop i=x::l.drop (i+1):=by
 obtain ⟨h1,h2⟩:=List.getElem?_eq_some_iff.mp h
 rw [List.drop_eq_getElem_cons h1,h2]
def inI (n:Int):Prop := -9223372036854775808≤n∧n≤9223372036854775807
def box (t:List Nd) (f:Int):List Int→Int→Int→Int×Int
 | a::b::r,lo,hi=>match t[a.toNat]? with
  | none=>(lo,hi)
  | some x=>if x.f=f then (if x.l=b then box t f (b::r) lo (min hi x.c) else if x.c=9223372036854775807 then box t f (b::r) lo hi else box t f (b::r) (max lo (x.c+1)) hi) else box t f (b::r) lo hi
 | _,lo,hi=>(lo,hi)
theorem ymz {f:Nat} {p:Int→Bool} (l:List Int) (hl:l.length≤9223372036854775807) (hm:zad T f=[]) (hp : ∀ n∈l,RUN T f [iv n]=some ([bv (p n)],[])) :
  RUN T zk2 [.sl 1 (zac l),.fn f []]=some ([iv (zi1 p l)],[]):=by
 refine zai z0a rfl ?_
 simp [zrs,zrt]
 refine za3 (fun n st => ∃ i:Nat,i+n=l.length∧st.V 0 = .sl 1 (zac l)∧st.V 1 = .fn f []∧st.V 8=iv i∧st.V 7=iv l.length∧∀ (j:Nat) (x:Int),j<i→l[j]?=some x→p x=false) ?_ l.length _ ⟨0,by simp⟩
 rintro n st ⟨i,hi,h0,h1,h8,h7,hj⟩
 simp [zz6,h0,h1,h8,h7]
 refine zdm (fun h => ?_) (fun h => ?_)
 ·simp at h
  obtain ⟨x,hx⟩ : ∃ x,l[i]?=some x:=⟨_,List.getElem?_eq_getElem h⟩
  have hw:=wS h hl
  have hx':=zbj hx
  have hpx:=hp x (List.mem_of_getElem? hx)
  simp [-getElem?_pos,h0,h1,h8,h7,hx',hw,hm,hpx,h]
  refine zdm (fun b0 => ?_) (fun b0 => ?_) <;> (try simp at b0) <;> simp [-getElem?_pos,b0,h0,h1,h8,h7,hx',hw]
  all_goals first
   | exact (yby hx b0 hj).symm
   | exact zao (n-1) (by omega) ⟨i+1,by omega,by simp [h0],by simp [h1],by simp,by simp [h7],ydb hj hx b0⟩
 ·simp at h
  simp [h]
  exact (ycc fun j x hl hx=>hj j x (by omega) hx).symm
theorem yc5 {α:Type} {p:α→Bool} {l:List α}:decide (0≤zi1 p l)=l.any p:=by
 unfold zi1
 cases h:l.findIdx? p with
 | none =>
  rw [List.findIdx?_eq_none_iff] at h
  simp
  exact fun x hx=>h x hx
 | some i =>
  obtain ⟨h1,h2,_⟩:=List.findIdx?_eq_some_iff_getElem.mp h
  simp
  exact ⟨_,List.getElem_mem h1,h2⟩
theorem z0c {f:Nat} {p:Int→Bool} (l:List Int) (hl:l.length≤9223372036854775807) (hm:zad T f=[]) (hp : ∀ n∈l,RUN T f [iv n]=some ([bv (p n)],[])) :
  RUN T zhk [.sl 1 (zac l),.fn f []]=some ([bv (l.any p)],[]):=by
 refine zai zz9 rfl ?_
 have e:=ymz l hl hm hp
 simp [zre,zrf,e,yc5]
structure Cfg where
 ro:Int
 de:Int
 bi:Int
 la:Int
 rw:Int
 nu:Int
 dn:Int
 sg:List Int
def zaj (n a b:Int):Bool:=decide (a≤n) && decide (n≤b)
def zci (c:Cfg):Bool:=zaj c.ro 1 8 && zaj c.de 0 4 && zaj c.bi 2 8 && zaj c.la 1 100 && zaj c.rw 1 20 && zaj c.dn 1 1000 && zaj c.nu 1 c.dn && decide ((c.sg.length:Int)≤4) && c.sg.all fun n=>zaj n (-1) 1
@[simp] theorem yzq (n:Int):RUN T zoa [iv n]=some ([bv (zaj n (-1) 1)],[]):=by
 refine zai z46 rfl ?_
 simp [zvu,zvv,zaj]
@[simp] theorem ym0 (n:Int):RUN T zkz [iv n]=some ([bv (!zaj n (-1) 1)],[]):=by
 refine zai z45 rfl ?_
 simp [zvs,zvt]
theorem zdx (a b c:Int):RUN T zcf [iv a,iv b,iv c]=some ([bv (zaj a b c)],[]):=zcz a b c
theorem za9 (a b c:Int):RUN T zbm [iv a,iv b,iv c]=some ([bv (zaj a b c)],[]):=zay a b c
theorem z7d (c:Cfg) (hl:c.sg.length≤9223372036854775807):RUN T zkp [.agg [iv c.ro,iv c.de,iv c.bi,iv c.la,iv c.rw,iv c.nu,iv c.dn,.sl 1 (zac c.sg)]]=some ([bv (zci c)],[]):=by
 refine zai z36 rfl ?_
 have e:=z0c (f:=zkz) (p:=fun n => !zaj n (-1) 1) c.sg hl (by simp) (fun n _=>ym0 n)
 have e2 : ∀ l:List Int,(l.any fun n => !zaj n (-1) 1) = !(l.all fun n=>zaj n (-1) 1):=by intro l; induction l <;> simp_all
 rw [e2] at e
 simp [zuo,zup,zdx,-zcz]
 cases h0:zaj c.ro 1 8 <;> cases h1:zaj c.de 0 4 <;> simp [h0,h1,zdx,-zcz]
 all_goals try (simp [zci,h0,h1]; done)
 cases h2:zaj c.bi 2 8 <;> cases h3:zaj c.la 1 100 <;> simp [h2,h3,zdx,-zcz]
 all_goals try (simp [zci,h2,h3]; done)
 cases h4:zaj c.rw 1 20 <;> cases h5:zaj c.dn 1 1000 <;> simp [h4,h5,zdx,-zcz]
 all_goals try (simp [zci,h4,h5]; done)
 cases h6:zaj c.nu 1 c.dn <;> simp [h6,zdx,-zcz]
 all_goals try (simp [zci,h6]; done)
 by_cases h7:(c.sg.length:Int)≤4
 ·simp [h7,e,zci,h0,h1,h2,h3,h4,h5,h6]
 ·simp [h7,zci]
theorem zqi {m:Nat→List Bool} {R:zah} {c:IC} {st:St} {Q:Ex→St→Prop} (h:W m R c st (Nx (fun s=>W m R (.loop c) s Q) Q ⟨⟩ ⟨⟩)):W m R (.loop c) st Q:=yup ▸ h
theorem ym1 (a b c d e f g:Int) (x:PV) (sg:List (List PV)):RUN T zod [.agg [iv a,iv b,iv c,iv d,iv e,iv f,iv g,.sl 1 sg]]=some ([.own 1 (zac [a,b,c,d,e])],[]):=by
 refine zai z5c rfl ?_
 simp [zv4,zv5,zac]
theorem zsd:RUN T zoe []=some ([.own 1 (zac [1,0,2,1,1])],[]):=by
 refine zai z5d rfl ?_
 simp [zv6,zv7,zac]
theorem zse:RUN T zof []=some ([.own 1 (zac [8,4,8,100,20])],[]):=by
 refine zai z5e rfl ?_
 simp [zv8,zv9,zac]
theorem z7e (c:Cfg) (hl:c.sg.length≤9223372036854775807):RUN T zkr [.agg [iv c.ro,iv c.de,iv c.bi,iv c.la,iv c.rw,iv c.nu,iv c.dn,.sl 1 (zac c.sg)]]=some ([bv (zci c)],[]):=by
 refine zai z4b rfl ?_
 have e1:=ym1 c.ro c.de c.bi c.la c.rw c.nu c.dn .undef (zac c.sg)
 simp [zus,zut,e1]
 refine zqi ?_
 simp [zl0,zsd,zse,za9,-zay,zs3]
 cases h0:zaj c.ro 1 8 <;> simp [h0]
 ·simp [zci,h0]
 refine zqi ?_
 simp [zl0,zsd,zse,za9,-zay,zs3]
 cases h1:zaj c.de 0 4 <;> simp [h1]
 ·simp [zci,h1]
 refine zqi ?_
 simp [zl0,zsd,zse,za9,-zay,zs3]
 cases h2:zaj c.bi 2 8 <;> simp [h2]
 ·simp [zci,h2]
 refine zqi ?_
 simp [zl0,zsd,zse,za9,-zay,zs3]
 cases h3:zaj c.la 1 100 <;> simp [h3]
 ·simp [zci,h3]
 refine zqi ?_
 simp [zl0,zsd,zse,za9,-zay,zs3]
 cases h4:zaj c.rw 1 20 <;> simp [h4]
 ·simp [zci,h4]
 refine zqi ?_
 simp [zl0]
 refine za3 (fun n st => ∃ i:Nat,i+n=c.sg.length∧st.V 1 = .ptr 0 none 0 0 0∧st.V 5=iv i∧st.S 0=some (.box [iv c.ro,iv c.de,iv c.bi,iv c.la,iv c.rw,iv c.nu,iv c.dn,.sl 1 (zac c.sg)])∧∀ (j:Nat) (x:Int),j<i→c.sg[j]?=some x→zaj x (-1) 1=true) ?_ c.sg.length _ ⟨0,by simp⟩
 rintro n st ⟨i,hi,h1',h5,hS,hj⟩
 simp [z29,h1',h5,hS]
 refine zdm (fun h => ?_) (fun h => ?_)
 ·simp at h
  obtain ⟨x,hx⟩ : ∃ x,c.sg[i]?=some x:=⟨_,List.getElem?_eq_getElem h⟩
  have hw:=wS h hl
  have hx':=zbj hx
  simp [-getElem?_pos,h1',h5,hS,hx',hw,h,za9,-zay]
  cases hb:zaj x (-1) 1 with
  | true =>
   simp [-getElem?_pos,h1',h5,hS,hw]
   refine zao (n-1) (by omega) ⟨i+1,by omega,by simp [h1'],by simp,by simp [hS],fun j y hj' hy => ?_⟩
   by_cases e:j=i
   ·subst e; rw [hx] at hy; cases hy; exact hb
   ·exact hj j y (by omega) hy
  | false =>
   simp [zci]
   intros
   exact ⟨x,List.mem_of_getElem? hx,hb⟩
 ·simp at h
  have hall:(c.sg.all fun n=>zaj n (-1) 1)=true:=by
   rw [List.all_eq_true]
   intro x hx
   obtain ⟨j,hj'⟩:=List.getElem?_of_mem hx
   exact hj j x (by have:=(List.getElem?_eq_some_iff.mp hj').1; omega) hj'
  simp [h1',hS,za9,-zay]
  cases h5:zaj c.dn 1 1000 <;> simp [h1',hS,h5,za9,-zay]
  ·simp [zci,h5]
  cases h6:zaj c.nu 1 c.dn <;> simp [h1',hS,h6,za9,-zay]
  ·simp [zci,h6]
  simp [zci,h0,h1,h2,h3,h4,h5,h6,hall]
def fdv (a b:Int):Int×Bool:=if b=0∨(b = -1∧a = -9223372036854775808) then (0,false) else (a.fdiv b,true)
theorem yc4 {a b:Int} (ha:inI a) (hb:b≠0) (h : ¬ (b = -1∧a = -9223372036854775808)) : -9223372036854775808≤a.tdiv b∧a.tdiv b≤9223372036854775807∧(b≠1 → -9223372036854775808≤a.tdiv b-1):=by
 obtain ⟨h1,h2⟩:=ha
 have h3:(a.tdiv b).natAbs=a.natAbs / b.natAbs:=Int.natAbs_tdiv a b
 have h4:a.natAbs / b.natAbs≤a.natAbs:=Nat.div_le_self _ _
 by_cases c:b=1
 ·subst c; simp; omega
 by_cases c2:b = -1
 ·subst c2; simp; omega
 have h5:a.natAbs / b.natAbs≤a.natAbs / 2:=Nat.div_le_div_left (by omega) (by omega)
 omega
theorem ybw (a b:Int) (hb:b≠0):a.fdiv b=if a.tmod b≠0∧¬ (a<0↔b<0) then a.tdiv b-1 else a.tdiv b:=by
 rw [Int.fdiv_eq_tdiv]
 have hd:b ∣ a↔a.tmod b=0:=Int.dvd_iff_tmod_eq_zero
 by_cases c:b ∣ a
 ·rw [if_pos c,if_neg (by rw [hd.mp c]; simp)]; simp
 ·have hc:a.tmod b≠0:=fun e=>c (hd.mpr e)
  have ha:a≠0:=fun e=>c (by subst e; exact ⟨0,by simp⟩)
  rw [if_neg c]
  rcases Int.lt_or_gt_of_ne hb with s2 | s2
  ·rw [if_neg (by omega : ¬ 0≤b),if_neg (by omega : ¬ 0≤b),Int.sign_eq_neg_one_of_neg s2]
   by_cases s1:0≤a
   ·rw [if_pos s1,if_pos ⟨hc,by omega⟩]
   ·rw [if_neg s1,if_neg (fun h=>h.2 (by omega))]; omega
  ·rw [if_pos (by omega:0≤b),if_pos (by omega:0≤b),Int.sign_eq_one_of_pos s2]
   by_cases s1:0≤a
   ·rw [if_pos s1,if_neg (fun h=>h.2 (by omega))]; omega
   ·rw [if_neg s1,if_pos ⟨hc,by omega⟩]
theorem ym2 (a b:Int) (ha:inI a):RUN T znx [iv a,iv b]=some ([iv (fdv a b).1,bv (fdv a b).2],[]):=by
 refine zai z4j rfl ?_
 simp [zu0,zu1]
 by_cases h0:b=0
 ·subst h0; simp [fdv]
 by_cases hbad:b = -1∧a = -9223372036854775808
 ·obtain ⟨rfl,rfl⟩:=hbad; simp [fdv]
 have hr:=yc4 ha h0 hbad
 have hq:=w64 hr.1 hr.2.1
 have hf:=ybw a b h0
 have e1:fdv a b=(a.fdiv b,true):=by unfold fdv; rw [if_neg (by simp [h0]; intro h; exact fun h2=>hbad ⟨h,h2⟩)]
 rw [e1]
 have hq2:a.tmod b≠0→IntKind.i64.wrap (a.tdiv b-1)=a.tdiv b-1:=fun h=>w64 (hr.2.2 (by rintro rfl; simp at h)) (by omega)
 have f0:=eq_false h0
 obtain ⟨p1,hp1⟩ : ∃ p,(b = -1)=p:=⟨_,rfl⟩
 obtain ⟨p2,hp2⟩ : ∃ p,(a = -9223372036854775808)=p:=⟨_,rfl⟩
 rw [hp1,hp2] at hbad
 by_cases c1:p1 <;> by_cases c2:p2
 ·exact (hbad ⟨c1,c2⟩).elim
 all_goals
  simp only [c1,c2] at hp1 hp2
  simp [f0,hp1,hp2,hq]
  by_cases d0:a.tmod b=0
  ·rw [if_neg (by simp [d0])] at hf
   simp [d0,hf]
  ·have hq3:=hq2 d0
   have d1:=eq_false d0
   by_cases d2:a<0 <;> by_cases d3:b<0
   all_goals
    simp only [d2,d3,ne_eq,d1,not_false_eq_true,iff_self,not_true_eq_false,and_false,if_false,iff_true,iff_false,and_true,if_true,true_iff,false_iff] at hf
    simp [d1,d2,d3,hq3,hf]
theorem ym3 (a b:Int) (ha:inI a):RUN T zoi [iv a,iv b]=some ([iv (fdv a b).1,bv (fdv a b).2],[]):=by
 refine zai z5j rfl ?_
 simp [zwi,zwj]
 by_cases h0:b=0
 ·subst h0; simp [fdv]
 by_cases hbad:b = -1∧a = -9223372036854775808
 ·obtain ⟨rfl,rfl⟩:=hbad; simp [fdv]
 have hr:=yc4 ha h0 hbad
 have hq:=w64 hr.1 hr.2.1
 have hf:=ybw a b h0
 have e1:fdv a b=(a.fdiv b,true):=by unfold fdv; rw [if_neg (by simp [h0]; intro h; exact fun h2=>hbad ⟨h,h2⟩)]
 rw [e1]
 have hq2:a.tmod b≠0→IntKind.i64.wrap (a.tdiv b-1)=a.tdiv b-1:=fun h=>w64 (hr.2.2 (by rintro rfl; simp at h)) (by omega)
 have f0:=eq_false h0
 obtain ⟨p1,hp1⟩ : ∃ p,(b = -1)=p:=⟨_,rfl⟩
 obtain ⟨p2,hp2⟩ : ∃ p,(a = -9223372036854775808)=p:=⟨_,rfl⟩
 rw [hp1,hp2] at hbad
 by_cases c1:p1 <;> by_cases c2:p2
 ·exact (hbad ⟨c1,c2⟩).elim
 all_goals
  simp only [c1,c2] at hp1 hp2
  simp [f0,hp1,hp2,hq]
  by_cases d0:a.tmod b=0
  ·rw [if_neg (by simp [d0])] at hf
   simp [d0,hf]
  ·have hq3:=hq2 d0
   have d1:=eq_false d0
   by_cases d2:a<0 <;> by_cases d3:b<0
   all_goals
    simp only [d2,d3,ne_eq,d1,not_false_eq_true,iff_self,not_true_eq_false,and_false,if_false,iff_true,iff_false,and_true,if_true,true_iff,false_iff] at hf
    simp [d1,d2,d3,hq3,hf]
abbrev zgj (c:Cfg):PV := .agg [iv c.ro,iv c.de,iv c.bi,iv c.la,iv c.rw,iv c.nu,iv c.dn,.sl 1 (zac c.sg)]
abbrev zi0 (c:Cfg):PV := .agg [iv c.ro,iv c.de,iv c.bi,iv c.la,iv c.rw,iv c.nu,iv c.dn,.own 1 (zac c.sg)]
theorem zbb {n a b:Int}:zaj n a b=true↔a≤n∧n≤b:=by simp [zaj]
def zg8 (v:Int):Bool:=zaj v (-1099511627776) 1099511627776
@[simp] theorem z7f (v:Int):RUN T zk4 [iv v]=some ([bv (zg8 v)],[]):=by
 refine zai z5l rfl ?_
 simp [zwk,zwl,zg8,zaj]
@[simp] theorem z7g (v:Int):RUN T zk8 [iv v]=some ([bv (zg8 v)],[]):=by
 refine zai z55 rfl ?_
 simp [zxc,zxd,zg8,zaj]
def shr (v:Int) (c:Cfg):Int×Bool:=if zci c && zg8 v then (( v*c.nu).fdiv c.dn,true) else (0,false)
def zbk (n:Int):Bool:=zaj n (-2147483647) 2147483647
@[simp] theorem zmd (v:Int):RUN T zjn [iv v]=some ([bv (zbk v)],[]):=by
 refine zai z53 rfl ?_
 simp [zw8,zw9,zbk,zaj]
@[simp] theorem yzr (v:Int):RUN T zo3 [iv v]=some ([bv (zbk v)],[]):=by
 refine zai z6r rfl ?_
 simp [zx3,zx4,zbk,zaj]
def adj (p:Int→Int→Bool):List Int→Bool
 | a::b::r=>p a b || adj p (b::r)
 | _=>false
theorem z23 {p:Int→Int→Bool} : ∀ {l:List Int},adj p l=true↔∃ (i:Nat) (a b:Int),l[i]?=some a∧l[i+1]?=some b∧p a b=true
 | []=>by simp [adj]
 | [x]=>by simp [adj]
 | x::y::r=>by
  simp only [adj,Bool.or_eq_true]
  rw [z23 (l:=y::r)]
  constructor
  ·rintro (h | ⟨i,a,b,h1,h2,h3⟩)
   ·exact ⟨0,x,y,rfl,rfl,h⟩
   ·exact ⟨i+1,a,b,by simpa using h1,by simpa using h2,h3⟩
  ·rintro ⟨i,a,b,h1,h2,h3⟩
   cases i with
   | zero=>simp at h1 h2; subst h1; subst h2; exact .inl h3
   | succ i=>exact .inr ⟨i,a,b,by simpa using h1,by simpa using h2,h3⟩
theorem zmo {α:Type} {P:Nat→α→Prop} {l:List α} {i:Nat} {x:α} (h : ∀ (j:Nat) (x:α),j<i→l[j]?=some x→P j x) (hi:l[i]?=some x) (hp:P i x) : ∀ (j:Nat) (x:α),j<i+1→l[j]?=some x→P j x:=by
 intro j y hj hy
 by_cases e:j=i
 ·subst e; rw [hi] at hy; cases hy; exact hp
 ·exact h j y (by omega) hy
def cel (q:Bool) (l:List Int):PV:=if q then .own 1 (zac l) else .sl 1 (zac l)
@[simp] theorem y06 (q:Bool) (l:List Int):fz (cel q l) = .sl 1 (zac l):=by cases q <;> simp [cel]
def rws (q:Bool) (L:List (List Int)):List (List PV):=L.map fun l=>[cel q l]
@[simp] theorem y1k (q:Bool) (L:List (List Int)):(rws q L).length=L.length:=by simp [rws]
theorem ze9 {q:Bool} {L:List (List Int)} {i:Nat} {l:List Int} (h:L[i]?=some l):(rws q L)[i]?=some [cel q l]:=by simp [rws,h]
@[simp] theorem yzs (n:Int):RUN T zlg [iv n]=some ([bv (!zbk n)],[]):=by
 refine zai z6q rfl ?_
 simp [zx1,zx2]
theorem ym4 (l:List Int) (hl:l.length≤9223372036854775807):RUN T zot [.sl 1 (zac l)]=some ([bv (l.all zbk)],[]):=by
 refine zai z54 rfl ?_
 have e:=z0c (f:=zlg) (p:=fun n => !zbk n) l hl (by simp) (fun n _=>by simp)
 simp [zxa,zxb,e]
 simp [List.any_eq_not_all_not]
def zfk (l:List Int):Bool := !adj (fun a b=>decide (b≤a)) l && l.all zbk && decide ((l.length:Int)≤7)
theorem z8k {p:Int→Int→Bool} {l:List Int} (h : ∀ (j:Nat) (a b:Int),l[j]?=some a→l[j+1]?=some b→p a b=false):adj p l=false:=by
 cases e:adj p l with
 | false=>rfl
 | true =>
  obtain ⟨j,a,b,h1,h2,h3⟩:=z23.mp e
  rw [h j a b h1 h2] at h3; cases h3
theorem ydw {p:Int→Int→Bool} {l:List Int} {j:Nat} {a b:Int} (h1:l[j]?=some a) (h2:l[j+1]?=some b) (h3:p a b=true):adj p l=true:=z23.mpr ⟨j,a,b,h1,h2,h3⟩
theorem zs8 {l:List Int} {p:Int→Bool} {j:Nat} {a:Int} (h1:l[j]?=some a) (h2:p a=false):l.all p=false:=by
 cases e:l.all p with
 | false=>rfl
 | true=>rw [List.all_eq_true.mp e a (List.mem_of_getElem? h1)] at h2; cases h2
theorem zsp {l:List Int} {p:Int→Bool} (h : ∀ (j:Nat) (a:Int),j<l.length→l[j]?=some a→p a=true):l.all p=true:=by
 rw [List.all_eq_true]
 intro x hx
 obtain ⟨j,hj⟩:=List.getElem?_of_mem hx
 exact h j x (List.getElem?_eq_some_iff.mp hj).1 hj
theorem ym5 (l:List Int) (hl:l.length≤9223372036854775807):RUN T zog [.sl 1 (zac l)]=some ([bv (zfk l)],[]):=by
 refine zai z5f rfl ?_
 have hd:=ym4 l hl
 simp [zwa,zwb]
 refine za3 (fun n st => ∃ i:Nat,i+n=l.length+1∧1≤i∧st.V 0 = .sl 1 (zac l)∧st.V 3=iv i∧∀ (j:Nat) (a b:Int),j+1<i→l[j]?=some a→l[j+1]?=some b→decide (b≤a)=false) ?_ l.length _ ⟨1,by omega,by omega,by simp,by simp,fun j a b h=>by omega⟩
 rintro n st ⟨i,hi,h1,v0,v3,hj⟩
 simp [z3d,v0,v3]
 refine zdm (fun h => ?_) (fun h => ?_)
 ·simp at h
  obtain ⟨k,rfl⟩ : ∃ k,i=k+1:=⟨i-1,by omega⟩
  obtain ⟨a,ha⟩ : ∃ a,l[k]?=some a:=⟨_,List.getElem?_eq_getElem (by omega)⟩
  obtain ⟨b,hb⟩ : ∃ b,l[k+1]?=some b:=⟨_,List.getElem?_eq_getElem h⟩
  have ha':=zbj ha
  have hb':=zbj hb
  have hw:IntKind.i64.wrap ((k:Int)+1+1)=(k:Int)+1+1:=w64 (by omega) (by omega)
  have hw1:IntKind.i64.wrap (k:Int)=k:=w64 (by omega) (by omega)
  have hkl:k<l.length:=by omega
  simp [-getElem?_pos,v0,v3,ha',hb',hw1,h,hkl]
  refine zdm (fun h2 => ?_) (fun h2 => ?_)
  ·simp at h2
   have:zfk l=false:=by unfold zfk; rw [ydw ha hb (by simpa using h2)]; rfl
   simp [this]
  ·simp at h2
   simp [-getElem?_pos,v0,v3,hw]
   refine zao (n-1) (by omega) ⟨k+2,by omega,by omega,by simp [v0],by simp; omega,fun j x y hjk hx hy => ?_⟩
   by_cases e:j=k
   ·subst e; rw [ha] at hx; rw [hb] at hy; cases hx; cases hy; simp; omega
   ·exact hj j x y (by omega) hx hy
 ·simp at h
  have e:adj (fun a b=>decide (b≤a)) l=false:=z8k fun j a b h1 h2=>hj j a b (by have:=(List.getElem?_eq_some_iff.mp h2).1; omega) h1 h2
  unfold zfk
  rw [e]
  by_cases c:(l.length:Int)≤7
  ·simp [v0,hd,c]
  ·simp [v0,c]
theorem ym6 (l:List Int) (hl:l.length≤9223372036854775807):RUN T zoc [.sl 1 (zac l)]=some ([bv (zfk l)],[]):=by
 refine zai z5b rfl ?_
 simp [zv2,zv3]
 refine za3 (fun n st => ∃ i:Nat,i+n=l.length∧st.V 0 = .sl 1 (zac l)∧st.V 3=iv i∧(∀ (j:Nat) (a:Int),j<i→l[j]?=some a→zbk a=true)∧∀ (j:Nat) (a b:Int),j+1<i→l[j]?=some a→l[j+1]?=some b→decide (b≤a)=false) ?_ l.length _ ⟨0,by simp⟩
 rintro n st ⟨i,hi,v0,v3,hd,hj⟩
 simp [z3c,v0,v3]
 refine zdm (fun h => ?_) (fun h => ?_)
 ·simp at h
  obtain ⟨b,hb⟩ : ∃ b,l[i]?=some b:=⟨_,List.getElem?_eq_getElem h⟩
  have hb':=zbj hb
  have hw:=wS h hl
  rcases Bool.eq_false_or_eq_true (zbk b) with d | d
  ·have hd':=zmo (P:=fun _ a=>zbk a=true) hd hb d
   rcases i with _ | k
   ·simp [-getElem?_pos,v0,v3,hb',d,h,hw]
    exact zao (n-1) (by omega) ⟨1,by omega,by simp [v0],by simp,by simpa using hd',fun j x y hjk hx hy=>by omega⟩
   ·obtain ⟨a,ha⟩ : ∃ a,l[k]?=some a:=⟨_,List.getElem?_eq_getElem (by omega)⟩
    have ha':=zbj ha
    have hw:IntKind.i64.wrap ((k:Int)+1+1)=(k:Int)+1+1:=w64 (by omega) (by omega)
    have hw1:IntKind.i64.wrap (k:Int)=k:=w64 (by omega) (by omega)
    have hkl:k<l.length:=by omega
    have hk0:(0:Int)<((k+1:Nat):Int):=by omega
    rcases Classical.propComplete (b≤a) with c | c
    ·have:zfk l=false:=by unfold zfk; rw [ydw ha hb (by simp [c])]; rfl
     simp [-getElem?_pos,v0,v3,ha',hb',d,h,hw,hw1,hkl,hk0,c,this]
    ·simp [-getElem?_pos,v0,v3,ha',hb',d,h,hw,hw1,hkl,hk0,c]
     refine zao (n-1) (by omega) ⟨k+2,by omega,by simp [v0],by simp; omega,hd',fun j x y hjk hx hy => ?_⟩
     by_cases e:j=k
     ·subst e; rw [ha] at hx; rw [hb] at hy; cases hx; cases hy; simp [c]
     ·exact hj j x y (by omega) hx hy
  ·have:zfk l=false:=by unfold zfk; rw [zs8 hb d]; simp
   simp [-getElem?_pos,v0,v3,hb',d,h,this]
 ·simp at h
  have e:adj (fun a b=>decide (b≤a)) l=false:=z8k fun j a b h1 h2=>hj j a b (by have:=(List.getElem?_eq_some_iff.mp h2).1; omega) h1 h2
  have e2:l.all zbk=true:=zsp fun j a h1 h2=>hd j a (by omega) h2
  unfold zfk
  rw [e,e2]
  simp [v0]
def zdt:List (List Int)→Nat
 | []=>0
 | l::_=>l.length
theorem z0d (q:Bool) (c v:List (List Int)):RUN T zh4 [.agg [.sl 1 (rws q c),.sl 1 (rws q v)]]=some ([iv (zdt v)],[]):=by
 refine zai z4c rfl ?_
 cases v with
 | nil=>simp [zra,zrb,zdt]
 | cons l L =>
  have h:rws q (l::L)=[cel q l]::rws q L:=rfl
  have h0:((L.length:Int)+1=0)=False:=eq_false (by omega)
  simp [h0,zra,zrb,zdt,h]
theorem z7h (q:Bool) (c v:List (List Int)):RUN T zje [.agg [.sl 1 (rws q c),.sl 1 (rws q v)]]=some ([iv (zdt v)],[]):=by
 refine zai z4e rfl ?_
 cases v with
 | nil=>simp [zrc,zrd,zdt]
 | cons l L =>
  have h:rws q (l::L)=[cel q l]::rws q L:=rfl
  have h0:((L.length:Int)+1=0)=False:=eq_false (by omega)
  simp [h0,zrc,zrd,zdt,h]
theorem ym7 {f:Nat} {c:PV} {p:Int→Bool} (l:List Int) (hl:l.length≤9223372036854775807) (hm:zad T f=[]) (hp : ∀ n∈l,RUN T f [iv n,.fptr [c] 0]=some ([bv (p n)],[])) :
  RUN T zk2 [.sl 1 (zac l),.fn f [.fptr [c] 0]]=some ([iv (zi1 p l)],[]):=by
 refine zai z0a rfl ?_
 simp [zrs,zrt]
 refine za3 (fun n st => ∃ i:Nat,i+n=l.length∧st.V 0 = .sl 1 (zac l)∧st.V 1 = .fn f [.fptr [c] 0]∧st.V 8=iv i∧st.V 7=iv l.length∧∀ (j:Nat) (x:Int),j<i→l[j]?=some x→p x=false) ?_ l.length _ ⟨0,by simp⟩
 rintro n st ⟨i,hi,h0,h1,h8,h7,hj⟩
 simp [zz6,h0,h1,h8,h7]
 refine zdm (fun h => ?_) (fun h => ?_)
 ·simp at h
  obtain ⟨x,hx⟩ : ∃ x,l[i]?=some x:=⟨_,List.getElem?_eq_getElem h⟩
  have hw:=wS h hl
  have hx':=zbj hx
  have hpx:=hp x (List.mem_of_getElem? hx)
  simp [-getElem?_pos,h0,h1,h8,h7,hx',hw,hm,hpx,h]
  refine zdm (fun b0 => ?_) (fun b0 => ?_) <;> (try simp at b0) <;> simp [-getElem?_pos,b0,h0,h1,h8,h7,hx',hw]
  all_goals first
   | exact (yby hx b0 hj).symm
   | exact zao (n-1) (by omega) ⟨i+1,by omega,by simp [h0],by simp [h1],by simp,by simp [h7],ydb hj hx b0⟩
 ·simp at h
  simp [h]
  exact (ycc fun j x hl hx=>hj j x (by omega) hx).symm
theorem ym8 {f:Nat} {c:PV} {p:Int→Bool} (l:List Int) (hl:l.length≤9223372036854775807) (hm:zad T f=[]) (hp : ∀ n∈l,RUN T f [iv n,.fptr [c] 0]=some ([bv (p n)],[])) :
  RUN T zhk [.sl 1 (zac l),.fn f [.fptr [c] 0]]=some ([bv (l.any p)],[]):=by
 refine zai zz9 rfl ?_
 have e:=ym7 l hl hm hp
 simp [zre,zrf,e,yc5]
@[simp] theorem yzt (n:Int) (a:List Int):RUN T zk1 [iv n,.fptr [.sl 1 (zac a)] 0]=some ([bv (!zaj n 0 a.length)],[]):=by
 refine zai z5g rfl ?_
 simp [zwc,zwd,zdx,-zcz]
theorem yb1 {s:St} {d:Option Dst} {op:IOp} {g:Opd} {v:Bool} {x:PV}:(yv s ⟨d,op,some (g,v)⟩=some x)=(Ob' (zg2 v (g.get s)) fun t=>Br t (WI (fun _=>[]) (fun _ _=>none) op s (fun y _=>y=x)) (PV.v Go.undef=x)):=by
 simp only [yv,ydx,WI,Ob',Br,Option.map_eq_some_iff,Option.bind_eq_some_iff,eq_iff_iff]
 constructor
 ·rintro ⟨⟨y,s'⟩,⟨t,h1,h2⟩,h3⟩
  refine ⟨t,h1,fun ht => ?_,fun ht => ?_⟩ <;> subst ht
  ·exact ⟨y,s',by simpa using h2,h3⟩
  ·simp at h2; obtain ⟨rfl,rfl⟩:=h2; exact h3
 ·rintro ⟨t,h1,h2,h3⟩
  cases t with
  | true=>obtain ⟨y,s',h4,h5⟩:=h2 rfl; exact ⟨(y,s'),⟨true,h1,by simpa using h4⟩,h5⟩
  | false=>exact ⟨_,⟨false,h1,rfl⟩,h3 rfl⟩
@[simp] theorem y9n {s:St} {d:Option Dst} {op:IOp} {g:Opd} {v:Bool} {x:PV} {n:Nat} {r:List (zab×PV×Nat)}:zb1 s ((⟨d,op,some (g,v)⟩,x,n+1)::r)=((Ob' (zg2 v (g.get s)) fun t=>Br t (WI (fun _=>[]) (fun _ _=>none) op s (fun y _=>y=x)) (PV.v Go.undef=x))∧zb1 s r):=by
 simp only [zb1,yb1]
@[simp] theorem qbo {V E:Nat→PV} {d:Option Dst} {op:IOp} {g:Opd} {v:Bool} {x:PV} {n:Nat} {s:St} {ms:List St}:zaz V E ⟨d,op,some (g,v)⟩ x (n+1) (s::ms)=((Ob' (zg2 v (g.get { s with V:=V,E:=E })) fun t=>Br t (WI (fun _=>[]) (fun _ _=>none) op { s with V:=V,E:=E } (fun y _=>y=x)) (PV.v Go.undef=x))∧zaz V E ⟨d,op,some (g,v)⟩ x n ms):=by
 simp only [zaz,yb1]
def ze7 (c v:List (List Int)) (f:Nat):Bool:=match c[f]?,v[f]? with
 | some a,some b=>zfk a && decide ((b.length:Int)=zdt v) && b.all fun x=>zaj x 0 a.length
 | _,_=>true
def zdq (c v:List (List Int)):Bool:=zaj c.length 1 4 && decide ((v.length:Int)=c.length) && zaj (zdt v) 1 40 && (List.range c.length).all (ze7 c v)
theorem z9p {c v:List (List Int)} (h1:zaj c.length 1 4=true) (h2:(v.length:Int)=c.length) (h3:zaj (zdt v) 1 40=true):zdq c v=(List.range c.length).all (ze7 c v):=by
 simp [zdq,h1,h2,h3]
theorem zzm {p:Nat→Bool} {n:Nat} (h : ∀ i,i<n→p i=true):(List.range n).all p=true:=by
 rw [List.all_eq_true]
 intro x hx
 exact h x (by simpa using hx)
theorem zhv {p:Nat→Bool} {n i:Nat} (hi:i<n) (h:p i=false):(List.range n).all p=false:=by
 cases e:(List.range n).all p with
 | false=>rfl
 | true=>rw [List.all_eq_true.mp e i (by simpa using hi)] at h; cases h
theorem z8s {c v:List (List Int)} {f:Nat} {a b:List Int} (ha:c[f]?=some a) (hb:v[f]?=some b):ze7 c v f=(zfk a && decide ((b.length:Int)=zdt v) && b.all fun x=>zaj x 0 a.length):=by
 simp [ze7,ha,hb]
theorem zsl {P:Nat→Prop} {i:Nat} (h : ∀ j,j<i→P j) (hi:P i) : ∀ j,j<i+1→P j:=by
 intro j hj
 by_cases e:j=i
 ·subst e; exact hi
 ·exact h j (by omega)
set_option maxHeartbeats 1000000 in
theorem z7i (q:Bool) (c v:List (List Int)) (hc : ∀ l∈c,l.length≤9223372036854775807) (hv : ∀ l∈v,l.length≤9223372036854775807):RUN T zks [.agg [.sl 1 (rws q c),.sl 1 (rws q v)]]=some ([bv (zdq c v)],[]):=by
 refine zai z4d rfl ?_
 have hR:=z7h q c v
 by_cases h1:zaj c.length 1 4=true
 case neg=>simp [zl1,zl2,zdx,-zcz,h1,zdq]
 by_cases h2:(v.length:Int)=c.length
 case neg=>simp [zl1,zl2,zdx,-zcz,h1,h2,zdq]
 by_cases h3:zaj (zdt v) 1 40=true
 case neg=>simp [zl1,zl2,zdx,-zcz,h1,h2,h3,hR,zdq]
 have h1':=zbb.mp h1
 rw [z9p h1 h2 h3]
 simp [zl1,zl2,zdx,-zcz,h1,h2,h3,hR]
 refine za3 (fun n st => ∃ i:Nat,i+n=c.length∧(∀ j,j<i→ze7 c v j=true)∧st.V 1 = .ptr 0 none 0 0 0∧st.V 26 = .sl 1 (rws q c)∧st.V 27=iv c.length∧st.V 28=iv i∧0<st.nx∧st.S 0=some (.box [.sl 1 (rws q c),.sl 1 (rws q v)])) ?_ c.length _ ⟨0,by simp⟩
 rintro n st ⟨i,hi,hk,v1,v26,v27,v28,hnx,hS⟩
 simp [z3a,v26,v27,v28]
 have z:=fr hnx
 refine zdm (fun h => ?_) (fun h => ?_)
 ·simp at h
  obtain ⟨a,ha⟩ : ∃ a,c[i]?=some a:=⟨_,List.getElem?_eq_getElem h⟩
  obtain ⟨b,hb⟩ : ∃ b,v[i]?=some b:=⟨_,List.getElem?_eq_getElem (by omega)⟩
  have ha':=ze9 (q:=q) ha
  have hb':=ze9 (q:=q) hb
  have hal:=hc a (List.mem_of_getElem? ha)
  have hbl:=hv b (List.mem_of_getElem? hb)
  have hC:=ym5 a hal
  have hF:=ym8 (f:=zk1) (c := .sl 1 (zac a)) (p:=fun n => !zaj n 0 a.length) b hbl (by simp) (fun n _=>by simp)
  have hw:=wS h (by omega:c.length≤9223372036854775807)
  have hiv:i<v.length:=by omega
  have hfe:=z8s ha hb
  by_cases d1:zfk a=true
  ·rcases Classical.propComplete ((b.length:Int)=zdt v) with d2 | d2
   ·by_cases d3:(b.all fun x=>zaj x 0 a.length)=true
    ·have d3':(b.any fun n => !zaj n 0 a.length)=false:=by simpa [List.any_eq_not_all_not] using d3
     simp [-getElem?_pos,v1,v26,v27,v28,hS,z,ha',hb',hC,hF,hR,hw,h,hiv,d1,d2,d3']
     exact zao (n-1) (by omega) ⟨i+1,by omega,zsl hk (by rw [hfe,d1,d3]; simp [d2]),by simp [v1],by simp [v26],by simp [v27],by simp,by simp,by simp [z,hS]⟩
    ·have d3':(b.any fun n => !zaj n 0 a.length)=true:=by simpa [List.any_eq_not_all_not] using d3
     have no:=zhv h (by rw [hfe,d1]; simp [d3]:ze7 c v i=false)
     simp [-getElem?_pos,v1,v26,v27,v28,hS,z,ha',hb',hC,hF,hR,hw,h,hiv,d1,d2,d3',no]
   ·have no:=zhv h (by rw [hfe,d1]; simp [d2]:ze7 c v i=false)
    simp [-getElem?_pos,v1,v26,v27,v28,hS,z,ha',hb',hC,hF,hR,hw,h,hiv,d1,d2,no]
  ·have no:=zhv h (by rw [hfe]; simp [d1]:ze7 c v i=false)
   simp [-getElem?_pos,v1,v26,v27,v28,hS,z,ha',hb',hC,hF,hR,hw,h,hiv,d1,no]
 ·simp at h
  have:=zzm (p:=ze7 c v) (n:=c.length) fun j hj=>hk j (by omega)
  simp [this]
set_option maxHeartbeats 1000000 in
theorem z7j (q:Bool) (c v:List (List Int)) (hc : ∀ l∈c,l.length≤9223372036854775807) (hv : ∀ l∈v,l.length≤9223372036854775807):RUN T zkq [.agg [.sl 1 (rws q c),.sl 1 (rws q v)]]=some ([bv (zdq c v)],[]):=by
 refine zai z4a rfl ?_
 have hR:=z0d q c v
 by_cases h1:zaj c.length 1 4=true
 case neg=>simp [zly,zlz,za9,-zay,h1,zdq]
 by_cases h2:(v.length:Int)=c.length
 case neg=>simp [zly,zlz,za9,-zay,h1,h2,zdq]
 by_cases h3:zaj (zdt v) 1 40=true
 case neg=>simp [zly,zlz,za9,-zay,h1,h2,h3,hR,zdq]
 have h1':=zbb.mp h1
 rw [z9p h1 h2 h3]
 simp [zly,zlz,za9,-zay,h1,h2,h3,hR]
 refine za3 (fun n st => ∃ i:Nat,i+n=c.length∧(∀ j,j<i→ze7 c v j=true)∧st.V 1 = .ptr 0 none 0 0 0∧st.V 3=iv i∧0<st.nx∧st.S 0=some (.box [.sl 1 (rws q c),.sl 1 (rws q v)])) ?_ c.length _ ⟨0,by simp⟩
 rintro n st ⟨i,hi,hk,v1,v3,hnx,hS⟩
 simp [z28,v1,v3,hS]
 have z:=fr hnx
 refine zdm (fun h => ?_) (fun h => ?_)
 ·simp at h
  obtain ⟨a,ha⟩ : ∃ a,c[i]?=some a:=⟨_,List.getElem?_eq_getElem h⟩
  obtain ⟨b,hb⟩ : ∃ b,v[i]?=some b:=⟨_,List.getElem?_eq_getElem (by omega)⟩
  have ha':=ze9 (q:=q) ha
  have hb':=ze9 (q:=q) hb
  have hal:=hc a (List.mem_of_getElem? ha)
  have hbl:=hv b (List.mem_of_getElem? hb)
  have hC:=ym6 a hal
  have hw:=wS h (by omega:c.length≤9223372036854775807)
  have hiv:i<v.length:=by omega
  have hfe:=z8s ha hb
  by_cases d1:zfk a=true
  case neg =>
   have no:=zhv h (by rw [hfe]; simp [d1]:ze7 c v i=false)
   simp [-getElem?_pos,v1,v3,hS,z,ha',hb',hC,hR,hw,h,hiv,d1,no]
  rcases Classical.propComplete ((b.length:Int)=zdt v) with d2 | d2
  case inr =>
   have no:=zhv h (by rw [hfe,d1]; simp [d2]:ze7 c v i=false)
   simp [-getElem?_pos,v1,v3,hS,z,ha',hb',hC,hR,hw,h,hiv,d1,d2,no]
  simp [-getElem?_pos,v1,v3,hS,z,ha',hb',hC,hR,hw,h,hiv,d1,d2]
  refine za3 (fun n st => ∃ j:Nat,j+n=b.length∧(∀ (k:Nat) (x:Int),k<j→b[k]?=some x→zaj x 0 a.length=true)∧st.V 1 = .ptr 0 none 0 0 0∧st.V 3=iv i∧st.V 4=iv j∧0<st.nx∧st.S 0=some (.box [.sl 1 (rws q c),.sl 1 (rws q v)])) ?_ b.length _ ⟨0,by omega,fun _ _ h=>by omega,by simp [v1],by simp [v3],by simp,by simp [hnx],by simp [hS]⟩
  clear v1 v3 hnx hS z
  rintro n' st ⟨j,hj,hjk,v1,v3,v4,hnx,hS⟩
  simp [-getElem?_pos,z27,v1,v3,v4,hS,hb',hiv]
  refine zdm (fun h4 => ?_) (fun h4 => ?_)
  ·simp at h4
   obtain ⟨x,hx⟩ : ∃ x,b[j]?=some x:=⟨_,List.getElem?_eq_getElem h4⟩
   have hx':=zbj hx
   have hwj:=wS h4 hbl
   rcases Bool.eq_false_or_eq_true (zaj x 0 a.length) with d3 | d3
   ·simp [-getElem?_pos,v1,v3,v4,hS,ha',hb',hx',hiv,h,h4,d3,hwj,za9,-zay]
    exact zao (n'-1) (by omega) ⟨j+1,by omega,zmo (P:=fun _ x=>zaj x 0 a.length=true) hjk hx d3,by simp [v1],by simp [v3],by simp,by simp [hnx],by simp [hS]⟩
   ·have no:=zhv h (by rw [hfe,zs8 hx d3]; simp:ze7 c v i=false)
    simp [-getElem?_pos,v1,v3,v4,hS,ha',hb',hx',hiv,h,h4,d3,hwj,no,za9,-zay]
  ·simp at h4
   have ok:ze7 c v i=true:=by
    rw [hfe,d1,zsp fun k x hk hx=>hjk k x (by omega) hx]; simp [d2]
   simp [-getElem?_pos,v1,v3,v4,hS,hw]
   exact zao (n-1) (by omega) ⟨i+1,by omega,zsl hk ok,by simp [v1],by simp,by simp [hnx],by simp [hS]⟩
 ·simp at h
  have:=zzm (p:=ze7 c v) (n:=c.length) fun j hj=>hk j (by omega)
  simp [this]
def zha (x:Int):Bool:=zaj x (-2199023255552) 2199023255552
def zh3 (c v:List (List Int)) (lab:List Int) (g:Cfg):Bool:=zdq c v && zci g && decide ((lab.length:Int)=zdt v) && lab.all zha
@[simp] theorem yzu (n:Int):RUN T zkt [iv n]=some ([bv (!zha n)],[]):=by
 refine zai z4f rfl ?_
 simp [zuu,zuv,zdx,-zcz,zha]
theorem ym9 (q:Bool) (c v:List (List Int)) (lab:List Int) (g:Cfg) (hc : ∀ l∈c,l.length≤9223372036854775807) (hv : ∀ l∈v,l.length≤9223372036854775807) (hlab:lab.length≤9223372036854775807) (hg:g.sg.length≤9223372036854775807):RUN T zni [.agg [.sl 1 (rws q c),.sl 1 (rws q v)],.sl 1 (zac lab),zgj g]=some ([bv (zh3 c v lab g)],[]):=by
 refine zai z3r rfl ?_
 have e1:=z7i q c v hc hv
 have e2:=z7d g hg
 have e3:=z7h q c v
 have e4:=z0c (f:=zkt) (p:=fun n => !zha n) lab hlab (by simp) (fun n _=>by simp)
 unfold zh3
 cases d1:zdq c v with
 | false=>simp [zlu,zlv,zgj,e1,d1]
 | true =>
  cases d2:zci g with
  | false=>simp [zlu,zlv,zgj,e1,d1,e2,d2]
  | true =>
   rcases Classical.propComplete ((lab.length:Int)=zdt v) with d3 | d3
   ·have d4:(!(lab.any fun n => !zha n))=lab.all zha:=by simp [List.any_eq_not_all_not]
    simp [zlu,zlv,zgj,e1,d1,e2,d2,e3,d3,e4,d4]
   ·simp [zlu,zlv,zgj,e1,d1,e2,d2,e3,d3]
theorem yna (q:Bool) (c v:List (List Int)) (lab:List Int) (g:Cfg) (hc : ∀ l∈c,l.length≤9223372036854775807) (hv : ∀ l∈v,l.length≤9223372036854775807) (hlab:lab.length≤9223372036854775807) (hg:g.sg.length≤9223372036854775807):RUN T znh [.agg [.sl 1 (rws q c),.sl 1 (rws q v)],.sl 1 (zac lab),zgj g]=some ([bv (zh3 c v lab g)],[]):=by
 refine zai z3q rfl ?_
 have e1:=z7j q c v hc hv
 have e2:=z7e g hg
 have e3:=z0d q c v
 unfold zh3
 cases d1:zdq c v with
 | false=>simp [zlr,zls,zgj,e1,d1]
 | true =>
  cases d2:zci g with
  | false=>simp [zlr,zls,zgj,e1,d1,e2,d2]
  | true =>
   rcases Classical.propComplete ((lab.length:Int)=zdt v) with d3 | d3
   ·simp [zlr,zls,zgj,e1,d1,e2,d2,e3,d3]
    refine za3 (fun n st => ∃ i:Nat,i+n=lab.length∧(∀ (j:Nat) (x:Int),j<i→lab[j]?=some x→zha x=true)∧st.V 1 = .sl 1 (zac lab)∧st.V 7=iv i) ?_ lab.length _ ⟨0,by omega,fun _ _ h=>by omega,by simp,by simp⟩
    rintro n st ⟨i,hi,hj,v1,v7⟩
    simp [z26,v1,v7]
    refine zdm (fun h => ?_) (fun h => ?_)
    ·simp at h
     obtain ⟨x,hx⟩ : ∃ x,lab[i]?=some x:=⟨_,List.getElem?_eq_getElem h⟩
     have hx':=zbj hx
     have hw:=wS h hlab
     have hlb:zha x=zaj x (-2199023255552) 2199023255552:=rfl
     cases d4:zha x with
     | true =>
      have d5:=hlb.symm.trans d4
      simp [-getElem?_pos,v1,v7,hx',hw,h,d5,za9,-zay]
      exact zao (n-1) (by omega) ⟨i+1,by omega,zmo (P:=fun _ x=>zha x=true) hj hx d4,by simp [v1],by simp⟩
     | false =>
      have d5:=hlb.symm.trans d4
      have no:=zs8 hx d4
      simp [-getElem?_pos,v1,v7,hx',hw,h,d5,no,za9,-zay]
    ·simp at h
     have:=zsp (p:=zha) fun j a h1 h2=>hj j a (by omega) h2
     simp [this,d3]
   ·simp [zlr,zls,zgj,e1,d1,e2,d2,e3,d3]
theorem z93 {α:Type} {f:α→List PV} {p:α→Prop} {tys:List TY} (h : ∀ cs,zbx tys cs→∃ a,f a=cs∧p a) : ∀ {es:List (List PV)},(∀ cs∈es,zbx tys cs)→∃ l:List α,l.map f=es∧∀ a∈l,p a
 | [],_=>⟨[],rfl,by simp⟩
 | e::es,hs=>by
  obtain ⟨a,ha,hp⟩:=h e (hs e (by simp))
  obtain ⟨l,hl,hq⟩:=z93 h (es:=es) (fun cs hc=>hs cs (by simp [hc]))
  refine ⟨a::l,by simp [ha,hl],fun b hb => ?_⟩
  rcases List.mem_cons.mp hb with e | e
  ·subst e; exact hp
  ·exact hq b e
theorem yq8 {P:Program} {l:List TypeId} (h:(l.all fun t=>P.readableRec t && decide (t<P.types.size))=true) : ∀ t∈l,P.readableRec t=true∧t<P.types.size:=by
 intro t ht
 have:=List.all_eq_true.mp h t ht
 simpa using this
theorem yrs {p:Bool×List TY} {pvs:List PV} (h:zcu (fun p c=>zkg p.1 p.2 c) [p] pvs) : ∃ a,pvs=[a]∧zkg p.1 p.2 a:=by
 cases h with
 | cons h1 t=>cases t with
  | nil=>exact ⟨_,rfl,h1⟩
def za8 (B:List Int):List (List PV):=B.map fun n=>[.v (.int .u8 n)]
@[simp] theorem yqn (B:List Int):(za8 B).length=B.length:=by simp [za8]
theorem yc2 {B:List Int} {i:Nat} {x:Int} (h:B[i]?=some x):(za8 B)[i]?=some [.v (.int .u8 x)]:=by simp [za8,h]
def zhr (rv:List RV) (io:Nat) (G:List PV×List PV→Prop) (_:Dm rv) (_:Dm G) (e:Ex) (s:St):Prop:=(e = .normal∨e = .ret)∧∃ r,zfx ⟨[],rv,.skip⟩ io s=some r∧G r
@[simp] theorem y5a {rv:List RV} {io:Nat} {G:List PV×List PV→Prop} {s:St}:zhr rv io G ⟨⟩ ⟨⟩ .normal s = ∃ r,zfx ⟨[],rv,.skip⟩ io s=some r∧G r:=by simp [zhr]
@[simp] theorem y61 {rv:List RV} {io:Nat} {G:List PV×List PV→Prop} {s:St}:zhr rv io G ⟨⟩ ⟨⟩ .ret s = ∃ r,zfx ⟨[],rv,.skip⟩ io s=some r∧G r:=by simp [zhr]
theorem zc1 {T:zcg} {f:Nat} {ms:List Bool} {rv:List RV} {ic:IC} {G:List PV×List PV→Prop} (hT:T f=some (.code ⟨ms,rv,ic⟩)) {args:List PV} {st:St} (hi:zki args=some st) (h:W (zad T) (RUN T) ic st (zhr rv st.nx G ⟨⟩ ⟨⟩)) : ∃ r,RUN T f args=some r∧G r:=by
 unfold W at h
 obtain ⟨e,s,h1,h2,r,h3,hG⟩:=h
 refine ⟨r,ycz hT ?_,hG⟩
 unfold zsu
 rw [hi]
 simp only [Option.bind_some,h1]
 rcases h2 with rfl | rfl <;> exact h3
attribute [irreducible] zhr
theorem zzx (X:Nat):0≤IntKind.i64.wrap ((X &&& 255 % 2 ^ IntKind.i64.bits:Nat):Int)∧IntKind.i64.wrap ((X &&& 255 % 2 ^ IntKind.i64.bits:Nat):Int)≤255:=by
 have h:X &&& 255 % 2 ^ IntKind.i64.bits≤255:=Nat.le_trans Nat.and_le_right (by decide)
 rw [w64 (by omega) (by omega)]
 omega
def zej (B:List Int) (P:PV→Prop) (r:List PV×List PV):Prop := ∃ (v:PV) (p:Nat) (s:Int),P v∧p≤B.length∧r=([v],[.bx [.sl 1 (za8 B),iv p,iv s]])
def PB (v:PV):Prop := ∃ b,v=bv b
def PM (l:List Int) (v:PV):Prop := ∃ n,v=iv n∧n∈l
def PI (v:PV):Prop := ∃ n,v=iv n∧inI n
def PN (n:Int) (v:PV):Prop := ∃ m,v=iv m∧0≤m∧(0<n→m<n)
theorem zsf (B:List Int) (p:Nat) (s:Int) (hp:p≤B.length) (hB:B.length≤9223372036854775807) : ∃ r,RUN T zgn [.bx [.sl 1 (za8 B),iv p,iv s]]=some r∧zej B (fun v => ∃ n,v=iv n∧0≤n∧n≤255) r:=by
 refine zc1 z5p rfl ?_
 by_cases h:p<B.length
 ·obtain ⟨x,hx⟩ : ∃ x,B[p]?=some x:=⟨_,List.getElem?_eq_getElem h⟩
  have hx':=yc2 hx
  have hw:=wS h hB
  simp [-getElem?_pos,zry,zrz,h,hx',hw]
  exact ⟨_,p+1,_,⟨_,rfl,(zzx _).1,(zzx _).2⟩,h,rfl⟩
 ·have h' : ¬ ((p:Int)<B.length):=by omega
  simp [-getElem?_pos,zry,zrz,h,h']
  exact ⟨_,p,_,⟨_,rfl,(zzx _).1,(zzx _).2⟩,hp,rfl⟩
theorem zbe (B:List Int) (p:Nat) (s:Int) (hp:p≤B.length) (hB:B.length≤9223372036854775807) (n:Int) (hn:n≤9223372036854775807) : ∃ r,RUN T zbd [.bx [.sl 1 (za8 B),iv p,iv s],iv n]=some r∧zej B (PN n) r:=by
 refine zc1 z4p rfl ?_
 obtain ⟨r1,h1,v1,p1,s1,⟨a1,rfl,a10,a11⟩,hp1,rfl⟩:=zsf B p s hp hB
 by_cases c1:n≤0
 ·simp [-getElem?_pos,zph,zpi,c1]
  exact ⟨_,p,s,⟨0,rfl,by omega,by omega⟩,hp,rfl⟩
 have c0 : ¬ (n=0):=by omega
 by_cases c2:n≤256
 ·simp [-getElem?_pos,zph,zpi,c0,c1,c2,h1]
  refine ⟨_,p1,s1,⟨_,rfl,?_,fun _ => ?_⟩,hp1,rfl⟩
  ·exact Int.tmod_nonneg _ a10
  ·exact Int.tmod_lt_of_pos _ (by omega)
 obtain ⟨r2,h2,v2,p2,s2,⟨a2,rfl,a20,a21⟩,hp2,rfl⟩:=zsf B p1 s1 hp1 hB
 obtain ⟨r3,h3,v3,p3,s3,⟨a3,rfl,a30,a31⟩,hp3,rfl⟩:=zsf B p2 s2 hp2 hB
 obtain ⟨r4,h4,v4,p4,s4,⟨a4,rfl,a40,a41⟩,hp4,rfl⟩:=zsf B p3 s3 hp3 hB
 have w1:=w64 (x:=a1*16777216) (by omega) (by omega)
 have w2:=w64 (x:=a2*65536) (by omega) (by omega)
 have w3:=w64 (x:=a1*16777216+a2*65536) (by omega) (by omega)
 have w4:=w64 (x:=a3*256) (by omega) (by omega)
 have w5:=w64 (x:=a1*16777216+a2*65536+a3*256) (by omega) (by omega)
 have w6:=w64 (x:=a1*16777216+a2*65536+a3*256+a4) (by omega) (by omega)
 simp [-getElem?_pos,zph,zpi,c0,c1,c2,h1,h2,h3,h4,w1,w2,w3,w4,w5,w6]
 refine ⟨_,p4,s4,⟨_,rfl,?_,fun _ => ?_⟩,hp4,rfl⟩
 ·exact Int.tmod_nonneg _ (by omega)
 ·exact Int.tmod_lt_of_pos _ (by omega)
theorem zdn (B:List Int) (p:Nat) (s:Int) (hp:p≤B.length) (hB:B.length≤9223372036854775807) (n:Int) (hn:n≤9223372036854775807) : ∃ r,RUN T zc9 [.bx [.sl 1 (za8 B),iv p,iv s],iv n]=some r∧zej B PB r:=by
 refine zc1 z3v rfl ?_
 obtain ⟨r1,h1,v1,p1,s1,⟨a1,rfl,a10,a11⟩,hp1,rfl⟩:=zbe B p s hp hB n hn
 simp [-getElem?_pos,zt3,zt4,h1]
 exact ⟨_,p1,s1,⟨_,rfl⟩,hp1,rfl⟩
def yrn (B:List Int) (l:List Int) (P:PV→Prop) (r:List PV×List PV):Prop := ∃ (v:PV) (p:Nat) (s:Int),P v∧p≤B.length∧r=([v],[.bx [.sl 1 (za8 B),iv p,iv s],.own 1 (zac l)])
theorem zfl (B:List Int) (p:Nat) (s:Int) (hp:p≤B.length) (hB:B.length≤9223372036854775807) (l:List Int) (hl:0<l.length∧l.length≤9223372036854775807) : ∃ r,RUN T zd5 [.bx [.sl 1 (za8 B),iv p,iv s],.own 1 (zac l)]=some r∧yrn B l (PM l) r:=by
 refine zc1 z4r rfl ?_
 obtain ⟨r1,h1,v1,p1,s1,⟨a1,rfl,a10,a11⟩,hp1,rfl⟩:=zbe B p s hp hB l.length (by omega)
 obtain ⟨i,rfl⟩ : ∃ i:Nat,a1=i:=⟨a1.toNat,by omega⟩
 have hi:i<l.length:=by have:=a11 (by omega); omega
 obtain ⟨x,hx⟩ : ∃ x,l[i]?=some x:=⟨_,List.getElem?_eq_getElem hi⟩
 have hx':=zbj hx
 simp [-getElem?_pos,zvc,zvd,h1,hx',hi]
 exact ⟨_,p1,s1,⟨x,rfl,List.mem_of_getElem? hx⟩,hp1,rfl⟩
theorem yvg (x:Int):inI (IntKind.i64.wrap x):=by
 unfold inI IntKind.wrap
 simp [IntKind.bits,IntKind.signed]
 omega
theorem z0e (B:List Int) (p:Nat) (s:Int) (hp:p≤B.length) (hB:B.length≤9223372036854775807) : ∃ r,RUN T zjf [.bx [.sl 1 (za8 B),iv p,iv s]]=some r∧zej B PI r:=by
 refine zc1 z4v rfl ?_
 obtain ⟨r1,h1,v1,p1,s1,⟨a1,rfl,a10,a11⟩,hp1,rfl⟩:=zbe B p s hp hB 4 (by omega)
 by_cases c0:a1=0
 ·obtain ⟨r2,h2,v2,p2,s2,⟨a2,rfl,hm⟩,hp2,rfl⟩:=zfl B p1 s1 hp1 hB [0,1,-1,9,10,999,1000,2147483647,-2147483648,3037000499,3037000500,9223372036854775807,-9223372036854775807,-9223372036854775808] (by simp)
  simp only [zac,List.map] at h2
  simp [-getElem?_pos,zl5,zl6,h1,c0,h2]
  refine ⟨_,p2,s2,⟨a2,rfl,?_⟩,hp2,rfl⟩
  simp at hm
  unfold inI
  omega
 by_cases c1:a1=1
 ·simp [-getElem?_pos,zl5,zl6,h1,c0,c1]
  refine za3 (fun n st => ∃ (i p:Nat) (x s:Int),i+n=8∧p≤B.length∧inI x∧st.V 0 = .ptr 0 none 0 0 0∧st.V 3=iv x∧st.V 4=iv i∧0<st.nx∧st.ep=0∧st.S 0=some (.box [.sl 1 (za8 B),iv p,iv s])) ?_ 8 _ ⟨0,p1,0,s1,by omega,hp1,by unfold inI; omega,by simp⟩
  clear h1
  rintro n st ⟨i,p,x,s,hi,hp,hx,v0,v3,v4,hnx,hep,hS⟩
  simp [z3b,v4]
  refine zdm (fun h => ?_) (fun h => ?_)
  ·simp at h
   obtain ⟨r2,h2,v2,p2,s2,⟨a2,rfl,a20,a21⟩,hp2,rfl⟩:=zsf B p s hp hB
   have w:=w64 (x:=(i:Int)+1) (by omega) (by omega)
   simp [-getElem?_pos,v0,v3,v4,hep,hS,h2,w]
   exact zao (n-1) (by omega) ⟨i+1,p2,_,s2,by omega,hp2,yvg _,by simp [v0],by simp; rfl,by simp,by simp [hnx],by simp [hep],by simp⟩
  ·simp [-getElem?_pos,v3,v0,hS]
   exact ⟨_,p,s,⟨x,rfl,hx⟩,hp,rfl⟩
 by_cases c2:a1=2
 ·obtain ⟨r2,h2,v2,p2,s2,⟨a2,rfl,a20,a21⟩,hp2,rfl⟩:=zbe B p1 s1 hp1 hB 1000000 (by omega)
  have a22:=a21 (by omega)
  have w:=w64 (x:=a2-500000) (by omega) (by omega)
  simp [-getElem?_pos,zl5,zl6,h1,c0,c1,c2,h2,w]
  exact ⟨_,p2,s2,⟨_,rfl,by unfold inI; omega⟩,hp2,rfl⟩
 ·obtain ⟨r2,h2,v2,p2,s2,⟨a2,rfl,a20,a21⟩,hp2,rfl⟩:=zbe B p1 s1 hp1 hB 41 (by omega)
  have a22:=a21 (by omega)
  have w:=w64 (x:=a2-20) (by omega) (by omega)
  simp [-getElem?_pos,zl5,zl6,h1,c0,c1,c2,h2,w]
  exact ⟨_,p2,s2,⟨_,rfl,by unfold inI; omega⟩,hp2,rfl⟩
theorem ynb (B:List Int) (hB:B.length≤9223372036854775807) : ∃ r,RUN T zn1 [.sl 1 (za8 B)]=some r∧∃ s:Int,r=([.bx [.sl 1 (za8 B),iv (0:Nat),iv s]],[]):=by
 refine zc1 z4n rfl ?_
 simp [-getElem?_pos,zu5,zu6]
 refine za3 (fun n st => ∃ (i:Nat) (x:Int),i+n=B.length∧st.V 0 = .sl 1 (za8 B)∧st.V 3=iv x∧st.V 4=iv i) ?_ B.length _ ⟨0,_,by omega,by simp,by simp; rfl,by simp⟩
 rintro n st ⟨i,x,hi,v0,v3,v4⟩
 by_cases h:i<B.length
 ·obtain ⟨b,hx⟩ : ∃ b,B[i]?=some b:=⟨_,List.getElem?_eq_getElem h⟩
  have hx':=yc2 hx
  have hw:=wS h hB
  by_cases h2:(i:Int)<4000
  ·have h2':=eq_true h2
   simp [-getElem?_pos,zu4,v0,v3,v4,h,h2',hx',hw]
   exact zao (n-1) (by omega) ⟨i+1,_,by omega,by simp [v0],by simp; rfl,by simp⟩
  ·have h2':=eq_false h2
   simp [-getElem?_pos,zu4,v0,v3,v4,h,h2']
 ·simp [-getElem?_pos,zu4,v0,v3,v4,h]
def adi (a b:Int):Int×Bool:=if -9223372036854775808≤a+b∧a+b≤9223372036854775807 then (a+b,true) else (0,false)
theorem ye1 {a b:Int} (ha:inI a) (hb:inI b):IntKind.i64.wrap (a+b)=if 9223372036854775807<a+b then a+b-18446744073709551616 else if a+b < -9223372036854775808 then a+b+18446744073709551616 else a+b:=by
 unfold inI at ha hb
 unfold IntKind.wrap
 simp [IntKind.bits,IntKind.signed]
 omega
theorem z7k (a b:Int) (ha:inI a) (hb:inI b):RUN T zla [iv a,iv b]=some ([iv (adi a b).1,bv (adi a b).2],[]):=by
 refine zai z6d rfl ?_
 have hw:=ye1 ha hb
 unfold inI at ha hb
 unfold adi
 by_cases c1:9223372036854775807<a+b
 ·rw [if_pos c1] at hw
  rw [if_neg (by omega)]
  have d1:=eq_false (by omega : ¬ a<0)
  have d2:=eq_false (by omega : ¬ b<0)
  have d3:=eq_true (by omega:a+b-18446744073709551616<0)
  simp [-getElem?_pos,zid,zie,hw,d1,d2,d3]
 ·rw [if_neg c1] at hw
  by_cases c2:a+b < -9223372036854775808
  ·rw [if_pos c2] at hw
   rw [if_neg (by omega)]
   have d1:=eq_true (by omega:a<0)
   have d2:=eq_true (by omega:b<0)
   have d3:=eq_false (by omega : ¬ a+b+18446744073709551616<0)
   simp [-getElem?_pos,zid,zie,hw,d1,d2,d3]
  ·rw [if_neg c2] at hw
   rw [if_pos (by omega)]
   rcases Classical.propComplete (a<0) with d1 | d1
   all_goals rcases Classical.propComplete (b<0) with d2 | d2
   all_goals simp at d1 d2
   ·have d3:=eq_true (by omega:a+b<0)
    simp [-getElem?_pos,zid,zie,hw,eq_true d1,eq_true d2,d3]
   ·have d2':=eq_false (by omega : ¬ b<0)
    simp [-getElem?_pos,zid,zie,hw,eq_true d1,d2']
   ·have d1':=eq_false (by omega : ¬ a<0)
    simp [-getElem?_pos,zid,zie,hw,eq_true d2,d1']
   ·have d1':=eq_false (by omega : ¬ a<0)
    have d2':=eq_false (by omega : ¬ b<0)
    have d3:=eq_false (by omega : ¬ a+b<0)
    simp [-getElem?_pos,zid,zie,hw,d1',d2',d3]
theorem z7l (a b:Int) (ha:inI a) (hb:inI b):RUN T zld [iv a,iv b]=some ([iv (adi a b).1,bv (adi a b).2],[]):=by
 refine zai z6g rfl ?_
 have hw:=ye1 ha hb
 unfold inI at ha hb
 unfold adi
 rcases Int.lt_trichotomy b 0 with c | c | c
 ·have d1:=eq_false (by omega : ¬ 0<b)
  have d2:=eq_true c
  have w:=w64 (x := -9223372036854775808-b) (by omega) (by omega)
  by_cases e:a < -9223372036854775808-b
  ·rw [if_neg (by omega)]
   simp [-getElem?_pos,zj0,zj1,d1,d2,w,e]
  ·rw [if_neg (by omega),if_neg (by omega)] at hw
   rw [if_pos (by omega)]
   simp [-getElem?_pos,zj0,zj1,d1,d2,w,e,hw]
 ·subst c
  rw [if_neg (by omega),if_neg (by omega)] at hw
  rw [if_pos (by omega)]
  simp at hw
  simp [zj0,zj1,hw]
 ·have d1:=eq_true c
  have d2:=eq_false (by omega : ¬ b<0)
  have w:=w64 (x:=9223372036854775807-b) (by omega) (by omega)
  by_cases e:9223372036854775807-b<a
  ·rw [if_neg (by omega)]
   simp [-getElem?_pos,zj0,zj1,d1,d2,w,e]
  ·rw [if_neg (by omega),if_neg (by omega)] at hw
   rw [if_pos (by omega)]
   simp [-getElem?_pos,zj0,zj1,d1,d2,w,e,hw]
theorem yai {a b:Int} (ha:inI a):inI (adi a b).1:=by
 unfold adi
 split
 ·rename_i h; exact h
 ·unfold inI; omega
theorem ync (es:List (List PV)):RUN T znb [.sl 1 es]=some ([bv (decide ((1048576:Int)<es.length))],[]):=by
 refine zai z3i rfl ?_
 simp [-getElem?_pos,zto,ztp]
def sbi (a b:Int):Int×Bool:=if -9223372036854775808≤a-b∧a-b≤9223372036854775807 then (a-b,true) else (0,false)
theorem yaf {a b:Int} (ha:inI a) (hb:inI b):IntKind.i64.wrap (a-b)=if 9223372036854775807<a-b then a-b-18446744073709551616 else if a-b < -9223372036854775808 then a-b+18446744073709551616 else a-b:=by
 unfold inI at ha hb
 unfold IntKind.wrap
 simp [IntKind.bits,IntKind.signed]
 omega
theorem z7m (a b:Int) (ha:inI a) (hb:inI b):RUN T zk6 [iv a,iv b]=some ([iv (sbi a b).1,bv (sbi a b).2],[]):=by
 refine zai z5t rfl ?_
 have hw:=yaf ha hb
 unfold inI at ha hb
 unfold sbi
 by_cases c1:9223372036854775807<a-b
 ·rw [if_pos c1] at hw
  rw [if_neg (by omega)]
  have d1:=eq_false (by omega : ¬ a<0)
  have d2:=eq_true (by omega:b<0)
  have d3:=eq_true (by omega:a-b-18446744073709551616<0)
  simp [-getElem?_pos,zh9,zia,hw,d1,d2,d3]
 ·rw [if_neg c1] at hw
  by_cases c2:a-b < -9223372036854775808
  ·rw [if_pos c2] at hw
   rw [if_neg (by omega)]
   have d1:=eq_true (by omega:a<0)
   have d2:=eq_false (by omega : ¬ b<0)
   have d3:=eq_false (by omega : ¬ a-b+18446744073709551616<0)
   simp [-getElem?_pos,zh9,zia,hw,d1,d2,d3]
  ·rw [if_neg c2] at hw
   rw [if_pos (by omega)]
   rcases Classical.propComplete (a<0) with d1 | d1
   all_goals rcases Classical.propComplete (b<0) with d2 | d2
   all_goals simp at d1 d2
   ·simp [-getElem?_pos,zh9,zia,hw,eq_true d1,eq_true d2]
   ·have d2':=eq_false (by omega : ¬ b<0)
    have d3:=eq_true (by omega:a-b<0)
    simp [-getElem?_pos,zh9,zia,hw,eq_true d1,d2',d3]
   ·have d1':=eq_false (by omega : ¬ a<0)
    have d3:=eq_false (by omega : ¬ a-b<0)
    simp [-getElem?_pos,zh9,zia,hw,eq_true d2,d1',d3]
   ·have d1':=eq_false (by omega : ¬ a<0)
    have d2':=eq_false (by omega : ¬ b<0)
    simp [-getElem?_pos,zh9,zia,hw,d1',d2']
theorem z7n (a b:Int) (ha:inI a) (hb:inI b):RUN T zky [iv a,iv b]=some ([iv (sbi a b).1,bv (sbi a b).2],[]):=by
 refine zai z44 rfl ?_
 have hw:=yaf ha hb
 unfold inI at ha hb
 unfold sbi
 rcases Int.lt_trichotomy b 0 with c | c | c
 ·have d1:=eq_false (by omega : ¬ 0<b)
  have d2:=eq_true c
  have w:=w64 (x:=9223372036854775807+b) (by omega) (by omega)
  by_cases e:9223372036854775807+b<a
  ·rw [if_neg (by omega)]
   simp [-getElem?_pos,zjx,zjy,d1,d2,w,e]
  ·rw [if_neg (by omega),if_neg (by omega)] at hw
   rw [if_pos (by omega)]
   simp [-getElem?_pos,zjx,zjy,d1,d2,w,e,hw]
 ·subst c
  rw [if_neg (by omega),if_neg (by omega)] at hw
  rw [if_pos (by omega)]
  simp at hw
  simp [zjx,zjy,hw]
 ·have d1:=eq_true c
  have d2:=eq_false (by omega : ¬ b<0)
  have w:=w64 (x := -9223372036854775808+b) (by omega) (by omega)
  by_cases e:a < -9223372036854775808+b
  ·rw [if_neg (by omega)]
   simp [-getElem?_pos,zjx,zjy,d1,d2,w,e]
  ·rw [if_neg (by omega),if_neg (by omega)] at hw
   rw [if_pos (by omega)]
   simp [-getElem?_pos,zjx,zjy,d1,d2,w,e,hw]
def PC (n:Nat) (v:PV):Prop := ∃ c:Cfg,v=zi0 c∧c.sg.length≤n
def LC (S:Nat→Option Ob) (nx:Nat) (lo:Nat) (m:List Int) (x:PV):Prop:=(x = .e0∧m=[])∨∃ o e,x = .ref o none e 0 m.length∧lo<o∧o<nx∧S o=some (.row 1 (zac m))
theorem z7o (B:List Int) (p:Nat) (s:Int) (hp:p≤B.length) (hB:B.length≤9223372036854775807) : ∃ r,RUN T zkw [.bx [.sl 1 (za8 B),iv p,iv s]]=some r∧zej B (PC 60) r:=by
 refine zc1 z4s rfl ?_
 obtain ⟨r1,h1,v1,p1,s1,⟨a1,rfl,a10,a11⟩,hp1,rfl⟩:=zbe B p s hp hB 4 (by omega)
 obtain ⟨r2,h2,v2,p2,s2,⟨a2,rfl,a20,a21⟩,hp2,rfl⟩:=zbe B p1 s1 hp1 hB 4 (by omega)
 obtain ⟨r3,h3,v3,p3,s3,⟨a3,rfl,a30,a31⟩,hp3,rfl⟩:=zbe B p2 s2 hp2 hB 5 (by omega)
 obtain ⟨r4,h4,v4,p4,s4,⟨a4,rfl,a40,a41⟩,hp4,rfl⟩:=zbe B p3 s3 hp3 hB 3 (by omega)
 obtain ⟨r5,h5,v5,p5,s5,⟨a5,rfl,a50,a51⟩,hp5,rfl⟩:=zbe B p4 s4 hp4 hB 3 (by omega)
 obtain ⟨r6,h6,v6,p6,s6,⟨a6,rfl,a60,a61⟩,hp6,rfl⟩:=zbe B p5 s5 hp5 hB 3 (by omega)
 obtain ⟨r7,h7,v7,p7,s7,⟨b1,rfl⟩,hp7,rfl⟩:=zdn B p6 s6 hp6 hB 8 (by omega)
 have w6:IntKind.i64.wrap (1+a6)=1+a6:=by have:=a61 (by omega); exact w64 (by omega) (by omega)
 have key : ∀ (k:Int) (x0 x1 x2 x3 x4 x5 x6:Int) (st:St) (p:Nat) (s:Int),0≤k→k≤60→p≤B.length→st.V 0 = .ptr 0 none 0 0 0→st.V 2 = .ptr 1 none 0 0 0→st.V 3 = .ptr 2 none 0 0 0→st.V 4=iv k→st.V 5=iv (0:Nat)→st.nx=3→st.S 0=some (.box [.sl 1 (za8 B),iv p,iv s])→st.S 1=some (.box [iv 0,iv 0,iv 0,iv 0,iv 0,iv 0,iv 0,.e0])→st.S 2=some (.box [iv x0,iv x1,iv x2,iv x3,iv x4,iv x5,iv x6,.e0])→W (zad T) (RUN T) (.loop zz5) st (Bl 0 (Nx (fun s=>W (zad T) (RUN T) (.seq (.reg [⟨some (.E 53),.load true 8 (.V 3),none⟩,⟨none,.store [0,0,0,0,0,0,0,1] (.V 2) (.E 53),none⟩]) .ret) s (zhr [.cell [0,0,0,0,0,0,0,1] 2 true] 1 (zej B (PC 60)) ⟨⟩ ⟨⟩)) (zhr [.cell [0,0,0,0,0,0,0,1] 2 true] 1 (zej B (PC 60)) ⟨⟩ ⟨⟩) ⟨⟩ ⟨⟩) ⟨⟩):=by
  intro k x0 x1 x2 x3 x4 x5 x6 st p s hk0 hk hp v0 v2 v3 v4 v5 hnx hS hS1 hS2
  obtain ⟨kn,rfl⟩ : ∃ n:Nat,k=n:=⟨k.toNat,by omega⟩
  refine za3 (fun n st => ∃ (i p:Nat) (s:Int) (m:List Int) (x:PV),i+n=kn∧m.length=i∧p≤B.length∧st.V 0 = .ptr 0 none 0 0 0∧st.V 2 = .ptr 1 none 0 0 0∧st.V 3 = .ptr 2 none 0 0 0∧st.V 4=iv kn∧st.V 5=iv i∧2<st.nx∧LC st.S st.nx 2 m x∧st.S 0=some (.box [.sl 1 (za8 B),iv p,iv s])∧st.S 1=some (.box [iv 0,iv 0,iv 0,iv 0,iv 0,iv 0,iv 0,.e0])∧st.S 2=some (.box [iv x0,iv x1,iv x2,iv x3,iv x4,iv x5,iv x6,x])) ?_ kn _ ⟨0,p,s,[],.e0,by omega,rfl,hp,v0,v2,v3,v4,v5,by omega,.inl ⟨rfl,rfl⟩,hS,hS1,hS2⟩
  clear v0 v2 v3 v4 v5 hnx hS hS1 hS2 hp
  rintro n st ⟨i,p,s,m,x,hi,hm,hp,v0,v2,v3,v4,v5,hnx,hx,hS,hS1,hS2⟩
  have z1:=fr hnx
  have z2:=fr (by omega:0<st.nx)
  have z3:=fr (by omega:1<st.nx)
  simp [zz5,v4,v5]
  refine zdm (fun h => ?_) (fun h => ?_)
  ·simp at h
   have hw:=w64 (x:=(i:Int)+1) (by omega) (by omega)
   obtain ⟨r1,h1,v1,p1,s1,⟨a,rfl,a0,a1⟩,hp1,rfl⟩:=zbe B p s hp hB 3 (by omega)
   have a2:=a1 (by omega)
   have w:=w64 (x:=a-1) (by omega) (by omega)
   rcases hx with ⟨rfl,rfl⟩ | ⟨o,e,rfl,ho,hox,hSo⟩
   ·have hr8:zam 8 1=true:=by decide
    have hone:[[iv (a-1)]]=zac [a-1]:=rfl
    simp [-getElem?_pos,v0,v2,v3,v4,v5,hS,hS1,hS2,z1,z2,z3,h1,w,hw,hr8]
    exact zao (n-1) (by omega) ⟨i+1,p1,s1,[a-1],.ref (st.nx+1) none st.ep 0 1,by omega,by simp at hm; simp; omega,hp1,by simp [v0],by simp [v2],by simp [v3],by simp [v4],by simp,by simp; omega,.inr ⟨st.nx+1,st.ep,rfl,by omega,by simp,by
     have n2 : ¬ st.nx+1=2:=by omega
     simp [n2,zac]⟩,by simp [z1,z2,z3],by simp [z1,z2,z3,hS1],by simp⟩
   ·have hr8:=zd1 (n:=m.length+1) (by omega)
    have y1:=fr hox
    have y2:=fr ho
    have y3:=fr (by omega:0<o)
    have y4:=fr (by omega:1<o)
    simp [-getElem?_pos,v0,v2,v3,v4,v5,hS,hS1,hS2,hSo,z1,z2,z3,y1,y2,y3,y4,h1,w,hw,hr8,zc3]
    exact zao (n-1) (by omega) ⟨i+1,p1,s1,m++[a-1],.ref (st.nx+1) none st.ep 0 (m.length+1),by omega,by simp [hm],hp1,by simp [v0],by simp [v2],by simp [v3],by simp [v4],by simp,by simp; omega,.inr ⟨st.nx+1,st.ep,by simp,by omega,by simp,by
     have n2 : ¬ st.nx+1=2:=by omega
     simp [n2]⟩,by simp [z1,z2,z3,y1,y2,y3,y4],by simp [z1,z2,z3,y1,y2,y3,y4,hS1],by simp⟩
  ·simp at h
   rcases hx with ⟨rfl,rfl⟩ | ⟨o,e,rfl,ho,hox,hSo⟩
   ·simp [-getElem?_pos,v0,v2,v3,hS,hS1,hS2]
    exact ⟨_,p,s,⟨⟨x0,x1,x2,x3,x4,x5,x6,[]⟩,rfl,by simp⟩,hp,rfl⟩
   ·have y2:=fr ho
    have y3:=fr (by omega:0<o)
    have y4:=fr (by omega:1<o)
    have y5:1≤o:=by omega
    simp [-getElem?_pos,v0,v2,v3,hS,hS1,hS2,hSo,y2,y3,y4,y5]
    exact ⟨_,p,s,⟨⟨x0,x1,x2,x3,x4,x5,x6,m⟩,rfl,by simp only; omega⟩,hp,rfl⟩
 cases b1 with
 | true =>
  obtain ⟨r8,h8,v8,p8,s8,⟨a8,rfl,a80,a81⟩,hp8,rfl⟩:=zbe B p7 s7 hp7 hB 100 (by omega)
  obtain ⟨r9,h9,v9,p9,s9,⟨b2,rfl⟩,hp9,rfl⟩:=zdn B p8 s8 hp8 hB 4 (by omega)
  cases b2 with
  | true =>
   obtain ⟨r10,h10,v10,p10,s10,⟨a10',rfl,_,_⟩,hp10,rfl⟩:=zbe B p9 s9 hp9 hB (1+a6) (by have:=a61 (by omega); omega)
   obtain ⟨r11,h11,v11,p11,s11,⟨k,rfl,k0,k1⟩,hp11,rfl⟩:=zbe B p10 s10 hp10 hB 5 (by omega)
   have k2:=k1 (by omega)
   simp [-getElem?_pos,zl3,zl4,h1,h2,h3,h4,h5,h6,h7,h8,h9,h10,h11,w6]
   exact key k _ _ _ _ _ _ _ _ p11 s11 k0 (by omega) hp11 (by simp) (by simp) (by simp) (by simp) (by simp) (by simp) (by simp) (by simp) (by simp; exact ⟨rfl,rfl,rfl,rfl,rfl,rfl,rfl⟩)
  | false =>
   obtain ⟨r11,h11,v11,p11,s11,⟨k,rfl,k0,k1⟩,hp11,rfl⟩:=zbe B p9 s9 hp9 hB 5 (by omega)
   have k2:=k1 (by omega)
   simp [-getElem?_pos,zl3,zl4,h1,h2,h3,h4,h5,h6,h7,h8,h9,h11,w6]
   exact key k _ _ _ _ _ _ _ _ p11 s11 k0 (by omega) hp11 (by simp) (by simp) (by simp) (by simp) (by simp) (by simp) (by simp) (by simp) (by simp; exact ⟨rfl,rfl,rfl,rfl,rfl,rfl,rfl⟩)
 | false =>
  obtain ⟨r9,h9,v9,p9,s9,⟨b2,rfl⟩,hp9,rfl⟩:=zdn B p7 s7 hp7 hB 4 (by omega)
  cases b2 with
  | true =>
   obtain ⟨r10,h10,v10,p10,s10,⟨a10',rfl,_,_⟩,hp10,rfl⟩:=zbe B p9 s9 hp9 hB (1+a6) (by have:=a61 (by omega); omega)
   obtain ⟨r11,h11,v11,p11,s11,⟨k,rfl,k0,k1⟩,hp11,rfl⟩:=zbe B p10 s10 hp10 hB 5 (by omega)
   have k2:=k1 (by omega)
   simp [-getElem?_pos,zl3,zl4,h1,h2,h3,h4,h5,h6,h7,h9,h10,h11,w6]
   exact key k _ _ _ _ _ _ _ _ p11 s11 k0 (by omega) hp11 (by simp) (by simp) (by simp) (by simp) (by simp) (by simp) (by simp) (by simp) (by simp; exact ⟨rfl,rfl,rfl,rfl,rfl,rfl,rfl⟩)
  | false =>
   obtain ⟨r11,h11,v11,p11,s11,⟨k,rfl,k0,k1⟩,hp11,rfl⟩:=zbe B p9 s9 hp9 hB 5 (by omega)
   have k2:=k1 (by omega)
   simp [-getElem?_pos,zl3,zl4,h1,h2,h3,h4,h5,h6,h7,h9,h11,w6]
   exact key k _ _ _ _ _ _ _ _ p11 s11 k0 (by omega) hp11 (by simp) (by simp) (by simp) (by simp) (by simp) (by simp) (by simp) (by simp) (by simp; exact ⟨rfl,rfl,rfl,rfl,rfl,rfl,rfl⟩)
theorem ynd (B:List Int) (p:Nat) (s:Int) (hp:p≤B.length) (hB:B.length≤9223372036854775807) : ∃ r,RUN T zn3 [.bx [.sl 1 (za8 B),iv p,iv s]]=some r∧zej B (PC 64) r:=by
 refine zc1 z4t rfl ?_
 obtain ⟨r1,h1,v1,p1,s1,⟨c,rfl,hc⟩,hp1,rfl⟩:=z7o B p s hp hB
 obtain ⟨r2,h2,v2,p2,s2,⟨a,rfl,a0,a1⟩,hp2,rfl⟩:=zbe B p1 s1 hp1 hB 12 (by omega)
 have hr8:zam 8 1=true:=by decide
 by_cases c0:a=0
 ·obtain ⟨r3,h3,v,p3,s3,⟨x,rfl,hx⟩,hp3,rfl⟩:=zfl B p2 s2 hp2 hB [0,1,8,9,-1] (by simp)
  simp only [zac,List.map] at h3
  simp [-getElem?_pos,zf5,zf6,hr8,h1,h2,c0,h3]
  exact ⟨_,p3,s3,⟨⟨x,c.de,c.bi,c.la,c.rw,c.nu,c.dn,c.sg⟩,rfl,by simp only; omega⟩,hp3,rfl⟩
 by_cases c1:a=1
 ·obtain ⟨r3,h3,v,p3,s3,⟨x,rfl,hx⟩,hp3,rfl⟩:=zfl B p2 s2 hp2 hB [-1,0,4,5] (by simp)
  simp only [zac,List.map] at h3
  simp [-getElem?_pos,zf5,zf6,hr8,h1,h2,c0,c1,h3]
  exact ⟨_,p3,s3,⟨⟨c.ro,x,c.bi,c.la,c.rw,c.nu,c.dn,c.sg⟩,rfl,by simp only; omega⟩,hp3,rfl⟩
 by_cases c2:a=2
 ·obtain ⟨r3,h3,v,p3,s3,⟨x,rfl,hx⟩,hp3,rfl⟩:=zfl B p2 s2 hp2 hB [1,2,8,9] (by simp)
  simp only [zac,List.map] at h3
  simp [-getElem?_pos,zf5,zf6,hr8,h1,h2,c0,c1,c2,h3]
  exact ⟨_,p3,s3,⟨⟨c.ro,c.de,x,c.la,c.rw,c.nu,c.dn,c.sg⟩,rfl,by simp only; omega⟩,hp3,rfl⟩
 by_cases c3:a=3
 ·obtain ⟨r3,h3,v,p3,s3,⟨x,rfl,hx⟩,hp3,rfl⟩:=zfl B p2 s2 hp2 hB [0,1,100,101,9223372036854775807] (by simp)
  simp only [zac,List.map] at h3
  simp [-getElem?_pos,zf5,zf6,hr8,h1,h2,c0,c1,c2,c3,h3]
  exact ⟨_,p3,s3,⟨⟨c.ro,c.de,c.bi,x,c.rw,c.nu,c.dn,c.sg⟩,rfl,by simp only; omega⟩,hp3,rfl⟩
 by_cases c4:a=4
 ·obtain ⟨r3,h3,v,p3,s3,⟨x,rfl,hx⟩,hp3,rfl⟩:=zfl B p2 s2 hp2 hB [0,1,20,21] (by simp)
  simp only [zac,List.map] at h3
  simp [-getElem?_pos,zf5,zf6,hr8,h1,h2,c0,c1,c2,c3,c4,h3]
  exact ⟨_,p3,s3,⟨⟨c.ro,c.de,c.bi,c.la,x,c.nu,c.dn,c.sg⟩,rfl,by simp only; omega⟩,hp3,rfl⟩
 by_cases c5:a=5
 ·obtain ⟨r3,h3,v,p3,s3,⟨x,rfl,hx⟩,hp3,rfl⟩:=zfl B p2 s2 hp2 hB [0,1,c.dn,IntKind.i64.wrap (c.dn+1),-1] (by simp)
  simp only [zac,List.map] at h3
  simp [-getElem?_pos,zf5,zf6,hr8,h1,h2,c0,c1,c2,c3,c4,c5,h3]
  exact ⟨_,p3,s3,⟨⟨c.ro,c.de,c.bi,c.la,c.rw,x,c.dn,c.sg⟩,rfl,by simp only; omega⟩,hp3,rfl⟩
 by_cases c6:a=6
 ·obtain ⟨r3,h3,v,p3,s3,⟨x,rfl,hx⟩,hp3,rfl⟩:=zfl B p2 s2 hp2 hB [0,1,1000,1001,9223372036854775807] (by simp)
  simp only [zac,List.map] at h3
  simp [-getElem?_pos,zf5,zf6,hr8,h1,h2,c0,c1,c2,c3,c4,c5,c6,h3]
  exact ⟨_,p3,s3,⟨⟨c.ro,c.de,c.bi,c.la,c.rw,c.nu,x,c.sg⟩,rfl,by simp only; omega⟩,hp3,rfl⟩
 by_cases c7:a=7
 ·obtain ⟨r3,h3,v,p3,s3,⟨x,rfl,x0,x1⟩,hp3,rfl⟩:=zbe B p2 s2 hp2 hB 5 (by omega)
  have x2:=x1 (by omega)
  have w:=w64 (x:=x-2) (by omega) (by omega)
  have hr9:=zd1 (n:=c.sg.length+1) (by omega)
  simp [-getElem?_pos,zf5,zf6,hr8,hr9,h1,h2,c0,c1,c2,c3,c4,c5,c6,c7,h3,w,zc3]
  exact ⟨_,p3,s3,⟨⟨c.ro,c.de,c.bi,c.la,c.rw,c.nu,c.dn,c.sg++[x-2]⟩,rfl,by simp; omega⟩,hp3,rfl⟩
 ·simp [-getElem?_pos,zf5,zf6,hr8,h1,h2,c0,c1,c2,c3,c4,c5,c6,c7]
  exact ⟨_,p2,s2,⟨c,rfl,by omega⟩,hp2,rfl⟩
def zc5 (l:List ByteArray):List (List PV):=l.map fun s=>[.v (.string s)]
@[simp] theorem y5n (l:List ByteArray):(zc5 l).length=l.length:=by simp [zc5]
theorem z8o {l:List ByteArray} {i:Nat} {x:ByteArray} (h:l[i]?=some x):(zc5 l)[i]?=some [.v (.string x)]:=by simp [zc5,h]
def z0x (q:Bool) (t:List Nd):PV:=if q then .own 5 (t.map nd) else .sl 5 (t.map nd)
@[simp] theorem y39 (q:Bool) (t:List Nd):fz (z0x q t) = .sl 5 (t.map nd):=by cases q <;> simp [z0x]
def trs (q:Bool) (M:List (List Nd)):List (List PV):=M.map fun t=>[z0x q t]
@[simp] theorem qdu (q:Bool) (M:List (List Nd)):(trs q M).length=M.length:=by simp [trs]
structure Mo where
 ns:List ByteArray
 ix:List Int
 b:Int
 ts:List (List Nd)
structure MoL (n:Nat) (m:Mo):Prop where
 ns:m.ns.length≤n
 ss : ∀ x∈m.ns,x.size≤n
 ix:m.ix.length≤n
 ts:m.ts.length≤n
 tl : ∀ l∈m.ts,l.length≤n
theorem MoL.mono {n k:Nat} {m:Mo} (h:MoL n m) (hk:n≤k):MoL k m:=⟨Nat.le_trans h.ns hk,fun x hx=>Nat.le_trans (h.ss x hx) hk,Nat.le_trans h.ix hk,Nat.le_trans h.ts hk,fun x hx=>Nat.le_trans (h.tl x hx) hk⟩
theorem yrm (s:ByteArray) : ∀ (n i:Nat) (r:List UInt8),s.size-i≤n→ByteArray.toList.loop s i r=r.reverse++s.data.toList.drop i:=by
 have hs:s.data.toList.length=s.size:=by cases s; rfl
 intro n
 induction n with
 | zero =>
  intro i r h
  rw [ByteArray.toList.loop,if_neg (by omega),List.drop_eq_nil_of_le (by omega)]
  simp
 | succ n ih =>
  intro i r h
  rw [ByteArray.toList.loop]
  split
  ·rename_i hi
   rw [ih _ _ (by omega)]
   have hi':i<s.data.toList.length:=by omega
   rw [List.drop_eq_getElem_cons hi']
   have:s.get! i=s.data.toList[i]:=by
    cases s with
    | mk d =>
     show d[i]! = _
     rw [getElem!_pos d i (by simpa using hi')]
     simp
   simp [this]
  ·rename_i hi
   rw [List.drop_eq_nil_of_le (by omega)]
   simp
theorem yej (s:ByteArray):s.toList=s.data.toList:=by
 unfold ByteArray.toList
 rw [yrm s s.size 0 [] (by omega)]
 simp
theorem yq7 {x y:ByteArray} (h:x.toList=y.toList):x=y:=by
 rw [yej,yej] at h
 cases x; cases y
 simp at h
 simp [h]
theorem yva {x y:ByteArray} (h : ¬ x=y):(x.toList == y.toList)=false:=by
 simp only [beq_eq_false_iff_ne,ne_eq]
 exact fun e=>h (yq7 e)
def rwS (q:Bool) (l:List ByteArray):PV:=if q then .own 1 (zc5 l) else .sl 1 (zc5 l)
@[simp] theorem y92 (q:Bool) (l:List ByteArray):fz (rwS q l) = .sl 1 (zc5 l):=by cases q <;> simp [rwS]
def yab (q:Bool) (L:List (List ByteArray)):List (List PV):=L.map fun l=>[rwS q l]
@[simp] theorem y2h (q:Bool) (L:List (List ByteArray)):(yab q L).length=L.length:=by simp [yab]
def ltr (n:Int):Bool:=decide (97≤n) && decide (n≤122)
def dgt (n:Int):Bool:=decide (48≤n) && decide (n≤57)
def chB (s:ByteArray) (i:Nat):Bool:=match s[i]? with
 | none=>true
 | some b=>ltr b.toNat || (decide (i≠0) && dgt b.toNat)
def ze3 (s:ByteArray):Bool:=zaj s.size 1 12 && (List.range s.size).all (chB s)
theorem yag {s:ByteArray} {i:Nat} {b:UInt8} (h:s[i]?=some b):chB s i=(ltr b.toNat || (decide (i≠0) && dgt b.toNat)):=by simp [chB,h]
theorem z7p (s:ByteArray) (hs:s.size≤9223372036854775807):RUN T zli [.v (.string s)]=some ([bv (ze3 s)],[]):=by
 refine zai z6y rfl ?_
 rcases Bool.eq_false_or_eq_true (zaj s.size 1 12) with h0 | h0
 case inr =>
  have no:ze3 s=false:=by unfold ze3; rw [h0]; rfl
  simp [-getElem?_pos,zpt,zpu,za9,-zay,h0,no]
 have hr:=zbb.mp h0
 obtain ⟨b0,hb0⟩ : ∃ b,s[0]?=some b:=⟨_,getElem?_pos s 0 (by omega)⟩
 have hn0:zbp (.v (.int .i64 0))=some 0:=rfl
 rcases Classical.propComplete (((b0.toNat:Nat):Int)<97) with f | f
 case inl =>
  have hc:chB s 0=false:=by
   rw [yag hb0]
   have : ¬ (97≤(b0.toNat:Int)):=by have:=of_eq_true f; omega
   simp [ltr,this]
  have no:ze3 s=false:=by unfold ze3; rw [zhv (by omega) hc]; simp
  simp [-getElem?_pos,zpt,zpu,za9,-zay,h0,no,hb0,f]
 simp [-getElem?_pos,zpt,zpu,za9,-zay,h0,hb0,f]
 refine za3 (fun n st => ∃ i:Nat,i+n=s.size∧(∀ j,j<i→chB s j=true)∧st.V 0 = .v (.string s)∧st.V 3=iv i) ?_ s.size _ ⟨0,by simp⟩
 rintro n st ⟨i,hi,hj,v0,v3⟩
 simp [z3f,v0,v3]
 refine zdm (fun h => ?_) (fun h => ?_)
 ·simp at h
  obtain ⟨b,hb⟩ : ∃ b,s[i]?=some b:=⟨_,getElem?_pos s i h⟩
  have hw:=wS h hs
  have hc:=yag hb
  have hcv:IntKind.i64.wrap (b.toNat:Int)=b.toNat:=w64 (by omega) (by have:=b.toNat_lt; omega)
  have e1:zaj (b.toNat:Int) 97 122=ltr b.toNat:=rfl
  have e2:zaj (b.toNat:Int) 48 57=dgt b.toNat:=rfl
  cases a1:ltr b.toNat with
  | true =>
   have e3:=e1.trans a1
   simp [-getElem?_pos,v0,v3,hb,hcv,e3,hw,za9,-zay]
   exact zao (n-1) (by omega) ⟨i+1,by omega,zsl hj (by rw [hc,a1]; rfl),by simp [v0],by simp⟩
  | false =>
   have e3:=e1.trans a1
   cases a2:dgt b.toNat with
   | true =>
    have e4:=e2.trans a2
    have hi0:i≠0:=by
     rintro rfl
     rw [hb0] at hb
     cases hb
     simp [dgt] at a2
     have:=of_eq_false f
     omega
    simp [-getElem?_pos,v0,v3,hb,hcv,e3,e4,hw,za9,-zay]
    exact zao (n-1) (by omega) ⟨i+1,by omega,zsl hj (by rw [hc,a1,a2]; simp [hi0]),by simp [v0],by simp⟩
   | false =>
    have e4:=e2.trans a2
    have no:ze3 s=false:=by unfold ze3; rw [zhv h (by rw [hc,a1,a2]; simp:chB s i=false)]; simp
    simp [-getElem?_pos,v0,v3,hb,hcv,e3,e4,hw,no,za9,-zay]
 ·simp at h
  have:=zzm (p:=chB s) (n:=s.size) fun j hj'=>hj j (by omega)
  have ok:ze3 s=true:=by unfold ze3; rw [this,h0]; rfl
  simp [ok]
theorem ybo (l:List ByteArray) (i:Nat):List.take i (zc5 l)=zc5 (l.take i):=by simp [zc5]
def zgg (l:List ByteArray) (x:ByteArray):Bool:=l.any fun y=>decide (y=x)
theorem z7q (l:List ByteArray) (x:ByteArray) (hl:l.length≤9223372036854775807):RUN T zlj [.sl 1 (zc5 l),.v (.string x)]=some ([bv (zgg l x)],[]):=by
 refine zai z6z rfl ?_
 simp [-getElem?_pos,zx9,zya]
 refine za3 (fun n st => ∃ i:Nat,i+n=l.length∧(∀ (j:Nat) (y:ByteArray),j<i→l[j]?=some y→¬ y=x)∧st.V 0 = .sl 1 (zc5 l)∧st.V 1 = .v (.string x)∧st.V 5=iv i) ?_ l.length _ ⟨0,by simp⟩
 rintro n st ⟨i,hi,hj,v0,v1,v5⟩
 simp [z3g,v0,v5]
 refine zdm (fun h => ?_) (fun h => ?_)
 ·simp at h
  obtain ⟨y,hy⟩ : ∃ y,l[i]?=some y:=⟨_,List.getElem?_eq_getElem h⟩
  have hy':=z8o hy
  have hw:=wS h hl
  by_cases e:y=x
  ·subst e
   have:zgg l y=true:=by
    unfold zgg; rw [List.any_eq_true]; exact ⟨y,List.mem_of_getElem? hy,by simp⟩
   simp [-getElem?_pos,v0,v1,v5,hy',h,this]
  ·simp [-getElem?_pos,v0,v1,v5,hy',h,hw,yva e]
   exact zao (n-1) (by omega) ⟨i+1,by omega,zmo (P:=fun _ y => ¬ y=x) hj hy e,by simp [v0],by simp [v1],by simp⟩
 ·simp at h
  have:zgg l x=false:=by
   unfold zgg
   rw [List.any_eq_false]
   intro y hy
   obtain ⟨j,hjy⟩:=List.getElem?_of_mem hy
   simpa using hj j y (by have:=(List.getElem?_eq_some_iff.mp hjy).1; omega) hjy
  simp [this]
def nmB (L:List ByteArray) (i:Nat):Bool:=match L[i]? with
 | none=>true
 | some x=>ze3 x && !zgg (L.take i) x
def zi8 (L:List ByteArray):Bool:=(List.range L.length).all (nmB L)
theorem zzr {L:List ByteArray} {i:Nat} {x:ByteArray} (h:L[i]?=some x):nmB L i=(ze3 x && !zgg (L.take i) x):=by simp [nmB,h]
def yps (p:Nat→Bool) (i:Nat):List Int:=((List.range i).filter p).map fun (j:Nat)=>(j:Int)
@[simp] theorem y1l (p:Nat→Bool):yps p 0=[]:=rfl
theorem zht (x:Int):IntKind.u64.wrap x=x % 18446744073709551616:=IntKind.wrap_u64 x
theorem ybt (a b:Int):za5 .mul (.int .u64 a) (.int .u64 b)=some (.int .u64 (a*b % 18446744073709551616)):=by rw [z2i,zht]
theorem ybf (a b:Int):za5 .add (.int .u64 a) (.int .u64 b)=some (.int .u64 ((a+b) % 18446744073709551616)):=by rw [z1y,zht]
theorem yau (x:Int):za5 .shr (.int .u64 x) (.int .u64 32)=some (.int .u64 (x / 4294967296)):=by
 rw [z2d,if_pos (by decide)]
 have:(2:Int) ^ min (32:Int).toNat IntKind.u64.bits=4294967296:=by decide
 rw [this,Int.fdiv_eq_ediv_of_nonneg _ (by decide)]
theorem ys7 (x:Int):za5 .shl (.int .u64 x) (.int .u64 32)=some (.int .u64 (x*4294967296 % 18446744073709551616)):=by
 rw [ybc,if_pos (by decide),zht]
 have:(2:Int) ^ min (32:Int).toNat IntKind.u64.bits=4294967296:=by decide
 rw [this]
theorem zm3 {x:Int} (h0:0≤x) (h1:x<18446744073709551616):za5 .and (.int .u64 x) (.int .u64 4294967295)=some (.int .u64 (x % 4294967296)):=by
 rw [z1r,zht]
 have e:((BitVec.ofInt IntKind.u64.bits x &&& BitVec.ofInt IntKind.u64.bits 4294967295).toNat:Int)=x % 4294967296:=by
  obtain ⟨n,rfl⟩:=Int.eq_ofNat_of_zero_le h0
  have hn:n<2 ^ 64:=by omega
  have e2:(BitVec.ofInt 64 (n:Int) &&& BitVec.ofInt 64 4294967295).toNat=n % 4294967296:=by
   rw [BitVec.toNat_and]
   have e3:(BitVec.ofInt 64 (n:Int)).toNat=n:=by
    rw [BitVec.ofInt_natCast,BitVec.toNat_ofNat,Nat.mod_eq_of_lt hn]
   have e4:(BitVec.ofInt 64 4294967295).toNat=2 ^ 32-1:=by decide
   rw [e3,e4,Nat.and_two_pow_sub_one_eq_mod]
  show (((BitVec.ofInt 64 (n:Int) &&& BitVec.ofInt 64 4294967295).toNat:Nat):Int)=_
  rw [e2]; omega
 rw [e]; congr 2; omega
theorem parts {x y:Int} (hx:0≤x) (hx1:x<18446744073709551616) (hy:0≤y) (hy1:y<18446744073709551616) :
  ∃ a b c d:Int,a=x % 4294967296*(y % 4294967296)∧b=x / 4294967296*(y % 4294967296)∧c=x % 4294967296*(y / 4294967296)∧d=x / 4294967296*(y / 4294967296)∧0≤a∧a≤18446744065119617025∧0≤b∧b≤18446744065119617025∧0≤c∧c≤18446744065119617025∧0≤d∧d≤18446744065119617025∧x*y=d*18446744073709551616+(b+c)*4294967296+a:=by
 have bd : ∀ u v:Int,0≤u→u≤4294967295→0≤v→v≤4294967295→0≤u*v∧u*v≤18446744065119617025:=fun u v h1 h2 h3 h4 =>
  ⟨Int.mul_nonneg h1 h3,Int.le_trans (Int.mul_le_mul h2 h4 h3 (by decide)) (by decide)⟩
 have x0:0≤x % 4294967296∧x % 4294967296≤4294967295:=by omega
 have x1:0≤x / 4294967296∧x / 4294967296≤4294967295:=by omega
 have y0:0≤y % 4294967296∧y % 4294967296≤4294967295:=by omega
 have y1:0≤y / 4294967296∧y / 4294967296≤4294967295:=by omega
 refine ⟨_,_,_,_,rfl,rfl,rfl,rfl,(bd _ _ x0.1 x0.2 y0.1 y0.2).1,(bd _ _ x0.1 x0.2 y0.1 y0.2).2,(bd _ _ x1.1 x1.2 y0.1 y0.2).1,(bd _ _ x1.1 x1.2 y0.1 y0.2).2,(bd _ _ x0.1 x0.2 y1.1 y1.2).1,(bd _ _ x0.1 x0.2 y1.1 y1.2).2,(bd _ _ x1.1 x1.2 y1.1 y1.2).1,(bd _ _ x1.1 x1.2 y1.1 y1.2).2,?_⟩
 have ex:x=x / 4294967296*4294967296+x % 4294967296:=by omega
 have ey:y=y / 4294967296*4294967296+y % 4294967296:=by omega
 generalize x / 4294967296=p at *
 generalize x % 4294967296=q at *
 generalize y / 4294967296=r at *
 generalize y % 4294967296=s at *
 rw [ex,ey,Int.add_mul,Int.mul_add,Int.mul_add]
 have e1:p*4294967296*(r*4294967296)=p*r*18446744073709551616:=by
  rw [show (18446744073709551616:Int)=4294967296*4294967296 by decide,Int.mul_assoc,Int.mul_comm 4294967296 (r*4294967296),Int.mul_assoc r,← Int.mul_assoc p r]
 have e2:p*4294967296*s=p*s*4294967296:=by rw [Int.mul_assoc,Int.mul_comm 4294967296 s,← Int.mul_assoc]
 have e3:q*(r*4294967296)=q*r*4294967296:=by rw [← Int.mul_assoc]
 rw [e1,e2,e3,Int.add_mul]
 omega
theorem z0f (x y:Int) (hx:0≤x) (hx1:x<18446744073709551616) (hy:0≤y) (hy1:y<18446744073709551616):RUN T zjt [.v (.int .u64 x),.v (.int .u64 y)]=some ([.v (.int .u64 (x*y / 18446744073709551616)),.v (.int .u64 (x*y % 18446744073709551616))],[]):=by
 refine zai z65 rfl ?_
 obtain ⟨a,b,c,d,ea,eb,ec,ed,a0,a1,b0,b1,c0,c1,d0,d1,hp⟩:=parts hx hx1 hy hy1
 have f1:=zm3 hx hx1
 have f2:=zm3 hy hy1
 have g1:a % 18446744073709551616=a:=by omega
 have g2:b % 18446744073709551616=b:=by omega
 have g3:c % 18446744073709551616=c:=by omega
 have g4:d % 18446744073709551616=d:=by omega
 have g5:(b+a / 4294967296) % 18446744073709551616=b+a / 4294967296:=by omega
 have f3:=zm3 (x:=b+a / 4294967296) (by omega) (by omega)
 simp [-z2i,-z1y,-z1r,-z2d,ybt,ybf,yau,f1,f2,f3,zyi,zyj,← ea,← eb,← ec,← ed,g1,g2,g3,g4,g5]
 omega
theorem z0g (x y:Int) (hx:0≤x) (hx1:x<18446744073709551616) (hy:0≤y) (hy1:y<18446744073709551616):RUN T zjw [.v (.int .u64 x),.v (.int .u64 y)]=some ([.v (.int .u64 (x*y / 18446744073709551616)),.v (.int .u64 (x*y % 18446744073709551616))],[]):=by
 refine zai z7b rfl ?_
 obtain ⟨a,b,c,d,ea,eb,ec,ed,a0,a1,b0,b1,c0,c1,d0,d1,hp⟩:=parts hx hx1 hy hy1
 have f1:=zm3 hx hx1
 have f2:=zm3 hy hy1
 have g1:a % 18446744073709551616=a:=by omega
 have g2:b % 18446744073709551616=b:=by omega
 have g3:c % 18446744073709551616=c:=by omega
 have g4:d % 18446744073709551616=d:=by omega
 have g5:(b+a / 4294967296) % 18446744073709551616=b+a / 4294967296:=by omega
 have f3:=zm3 (x:=b+a / 4294967296) (by omega) (by omega)
 have f4:=zm3 (x:=a) (by omega) (by omega)
 simp [-z2i,-z1y,-z1r,-z2d,-ybc,ybt,ybf,yau,ys7,f1,f2,f3,f4,zyq,zyr,← ea,← eb,← ec,← ed,g1,g2,g3,g4,g5]
 omega
structure Wd where
 n:Bool
 h:Int
 l:Int
deriving DecidableEq
abbrev uv (x:Int):PV := .v (.int .u64 x)
def wd (w:Wd):List PV:=[bv w.n,uv w.h,uv w.l]
def wfU (w:Wd):Prop:=0≤w.h∧w.h<18446744073709551616∧0≤w.l∧w.l<18446744073709551616
def wok (w:Wd):Bool:=decide (w.h<9223372036854775808) && (!w.n || decide (0<w.h) || decide (0<w.l))
def mag (w:Wd):Int:=w.h*18446744073709551616+w.l
def mkW (n:Bool) (m:Int):Wd:=⟨n && decide (0<m),m / 18446744073709551616,m % 18446744073709551616⟩
def za2:Wd:=⟨false,0,0⟩
theorem z2j {n:Bool} {m:Int} (h0:0≤m) (h1:m<340282366920938463463374607431768211456):wfU (mkW n m):=by
 unfold wfU mkW; simp only; omega
theorem z20 {n:Bool} {m:Int} (h0:0≤m):wok (mkW n m)=decide (m<170141183460469231731687303715884105728):=by
 unfold wok mkW
 simp only
 by_cases h:m<170141183460469231731687303715884105728
 ·have e:m / 18446744073709551616<9223372036854775808:=by omega
  rw [decide_eq_true h,decide_eq_true e]
  by_cases hz:0<m
  ·by_cases h2:0<m / 18446744073709551616
   ·simp [h2]
   ·have:0<m % 18446744073709551616:=by omega
    simp [this]
  ·simp [hz]
 ·have e : ¬ m / 18446744073709551616<9223372036854775808:=by omega
  rw [decide_eq_false h,decide_eq_false e]; rfl
theorem z0h (n:Int) (h:inI n):RUN T zju [iv n]=some ([uv n.natAbs],[]):=by
 refine zai z66 rfl ?_
 obtain ⟨h0,h1⟩:=h
 simp [zyk,zyl]
 refine zdm (fun h => ?_) (fun h => ?_) <;> simp at h <;> simp [zht] <;> omega
theorem z0i (n:Int) (h:inI n):RUN T zjv [iv n]=some ([uv n.natAbs],[]):=by
 refine zai z7a rfl ?_
 obtain ⟨h0,h1⟩:=h
 have e1:n<0→IntKind.i64.wrap (n+1)=n+1:=fun h=>w64 (by omega) (by omega)
 have e2:n<0→IntKind.i64.wrap (0-(n+1))=0-(n+1):=fun h=>w64 (by omega) (by omega)
 simp [zyo,zyp]
 refine zdm (fun h => ?_) (fun h => ?_) <;> simp at h
 ·have e1:=e1 h
  have e2:=e2 h
  simp at e2
  simp [e1,e2,zht]; omega
 ·simp [zht]; omega
theorem zsg (n:Bool) (h l:Int):RUN T zf4 [bv n,uv h,uv l]=some ([.agg (wd ⟨n && (decide (0<h) || decide (0<l)),h,l⟩)],[]):=by
 refine zai z6o rfl ?_
 cases n with
 | false=>simp [zpr,zps,wd]
 | true =>
  by_cases h1:0<h
  ·simp [zpr,zps,wd,h1]
  ·simp [zpr,zps,wd,h1]
theorem zpy (w:Wd):RUN T zgo [.agg (wd w)]=some ([bv (wok w)],[]):=by
 refine zai z63 rfl ?_
 obtain ⟨n,h,l⟩:=w
 unfold wok
 by_cases h1:h<9223372036854775808
 ·cases n with
  | false=>simp [zl9,zma,wd,h1]
  | true =>
   by_cases h2:0<h
   ·simp [zl9,zma,wd,h1,h2]
   ·simp [zl9,zma,wd,h1,h2]
 ·simp [zl9,zma,wd,h1]
theorem zpz (w:Wd):RUN T zgp [.agg (wd w)]=some ([bv (wok w)],[]):=by
 refine zai z68 rfl ?_
 obtain ⟨n,h,l⟩:=w
 unfold wok
 by_cases h1:h<9223372036854775808
 ·cases n with
  | false=>simp [zmb,zmc,wd,h1]
  | true =>
   by_cases h2:0<h
   ·simp [zmb,zmc,wd,h1,h2]
   ·simp [zmb,zmc,wd,h1,h2]
 ·simp [zmb,zmc,wd,h1]
theorem zsh (w:Wd):RUN T zh7 [.agg (wd w)]=some ([bv (decide (w.h=0) && decide (w.l=0))],[]):=by
 refine zai z6w rfl ?_
 by_cases h1:w.h=0
 ·simp [zsa,zsb,wd,h1]
 ·simp [zsa,zsb,wd,h1]
def zb6 (a b:Int):Int:=if a<b then -1 else if b<a then 1 else 0
theorem z7r (x:Int):RUN T zln [uv x]=some ([bv false],[]):=by
 refine zai z7c rfl ?_
 simp [zys,zyt]
theorem z7s (x y:Int):RUN T zlm [uv x,uv y]=some ([iv (zb6 x y)],[]):=by
 refine zai z67 rfl ?_
 have e1:=z7r x
 have e2:=z7r y
 unfold zb6
 by_cases h1:x<y
 ·simp [zpv,zpw,e1,e2,h1]
 ·by_cases h2:y<x
  ·simp [zpv,zpw,e1,e2,h1,h2]
  ·simp [zpv,zpw,e1,e2,h1,h2]
theorem z7t (x y:Int):RUN T zlb [.sl 1 [[iv x],[iv y]]]=some ([iv (if x=0 then y else x)],[]):=by
 refine zai z6e rfl ?_
 simp [zxp,zxq]
 refine za3 (fun n st => ∃ i:Nat,i+n=2∧(1≤i→x=0)∧(2≤i→y=0)∧st.V 3=iv 0∧st.V 6 = .sl 1 [[iv x],[iv y]]∧st.V 7=iv 2∧st.V 8=iv i) ?_ 2 _ ⟨0,by simp⟩
 rintro n st ⟨i,hi,hx,hy,v3,v6,v7,v8⟩
 simp [z3e,v7,v8]
 have h3:i=0∨i=1∨i=2:=by omega
 rcases h3 with rfl | rfl | rfl
 ·have hw:IntKind.i64.wrap 1=1:=w64 (by omega) (by omega)
  by_cases h:x=0
  ·simp [v3,v6,v7,v8,h,hw]
   exact zao (n-1) (by omega) ⟨1,by omega,fun _=>h,by simp,by simp [v3],by simp [v6,h],by simp [v7],by simp⟩
  ·simp [v3,v6,v7,v8,h]
 ·have hx:=hx (by omega)
  have hw:IntKind.i64.wrap 2=2:=w64 (by omega) (by omega)
  by_cases h:y=0
  ·simp [v3,v6,v7,v8,h,hx,hw]
   exact zao (n-1) (by omega) ⟨2,by omega,fun _=>hx,fun _=>h,by simp [v3],by simp [v6,h,hx],by simp [v7],by simp⟩
  ·simp [v3,v6,v7,v8,h,hx]
 ·have hx:=hx (by omega)
  have hy:=hy (by omega)
  simp [v3,hx,hy]
def zeb (a b:Wd):Int:=if zb6 a.h b.h=0 then zb6 a.l b.l else zb6 a.h b.h
theorem z8l {a b:Wd} (ha:wfU a) (hb:wfU b):zeb a b=zb6 (mag a) (mag b):=by
 obtain ⟨_,_,_,_⟩:=ha
 obtain ⟨_,_,_,_⟩:=hb
 unfold zeb zb6 mag
 split <;> split <;> split <;> (try split) <;> (try split) <;> omega
theorem z0j (a b:Wd):RUN T zjq [.agg (wd a),.agg (wd b)]=some ([iv (zeb a b)],[]):=by
 refine zai z6p rfl ?_
 have e1:=z7s a.h b.h
 have e2:=z7s a.l b.l
 have e3:=z7t (zb6 a.h b.h) (zb6 a.l b.l)
 simp [zxz,zx0,wd,e1,e2,e3,zeb]
theorem z0k (a b:Wd):RUN T zjr [.agg (wd a),.agg (wd b)]=some ([iv (zeb a b)],[]):=by
 refine zai z6x rfl ?_
 unfold zeb zb6
 by_cases h1:a.h<b.h
 ·simp [zj2,zj3,wd,h1]
 ·by_cases h2:b.h<a.h
  ·have h3 : ¬ a.h=b.h:=by omega
   simp [zj2,zj3,wd,h1,h2,h3]
  ·have h3:a.h=b.h:=by omega
   by_cases h4:a.l<b.l
   ·simp [zj2,zj3,wd,h3,h4]
   ·by_cases h5:b.l<a.l
    ·simp [zj2,zj3,wd,h3,h4,h5]
    ·simp [zj2,zj3,wd,h3,h4,h5]
def zd0 (a b:Int):Wd:=mkW (decide (a<0) != decide (b<0)) ((a.natAbs:Int)*b.natAbs)
theorem ziy {a:Int} (h:inI a):0≤(a.natAbs:Int)∧(a.natAbs:Int)≤9223372036854775808:=by
 obtain ⟨h0,h1⟩:=h; omega
theorem ya1 {a b:Int} (ha:inI a) (hb:inI b):0≤(a.natAbs:Int)*b.natAbs∧(a.natAbs:Int)*b.natAbs≤85070591730234615865843651857942052864:=by
 obtain ⟨a0,a1⟩:=ziy ha
 obtain ⟨b0,b1⟩:=ziy hb
 exact ⟨Int.mul_nonneg a0 b0,Int.le_trans (Int.mul_le_mul a1 b1 b0 (by decide)) (by decide)⟩
theorem yne (a b:Int) (ha:inI a) (hb:inI b):RUN T zo2 [iv a,iv b]=some ([.agg (wd (zd0 a b))],[]):=by
 refine zai z6l rfl ?_
 obtain ⟨a0,a1⟩:=ziy ha
 obtain ⟨b0,b1⟩:=ziy hb
 have e1:=z0h a ha
 have e2:=z0h b hb
 have e3:=z0f a.natAbs b.natAbs a0 (by omega) b0 (by omega)
 have e4:=zsg (decide (a<0) != decide (b<0)) ((a.natAbs:Int)*b.natAbs / 18446744073709551616) ((a.natAbs:Int)*b.natAbs % 18446744073709551616)
 obtain ⟨m0,m1⟩:=ya1 ha hb
 have e5:(⟨(decide (a<0) != decide (b<0)) && (decide (0<(a.natAbs:Int)*b.natAbs / 18446744073709551616) || decide (0<(a.natAbs:Int)*b.natAbs % 18446744073709551616)),(a.natAbs:Int)*b.natAbs / 18446744073709551616,(a.natAbs:Int)*b.natAbs % 18446744073709551616⟩:Wd)=zd0 a b:=by
  unfold zd0 mkW
  congr 2
  generalize (a.natAbs:Int)*b.natAbs=m at *
  rw [Bool.eq_iff_iff]; simp; omega
 rw [e5] at e4
 generalize zd0 a b=w at *
 obtain ⟨wn,wh,wl⟩:=w
 simp only [wd] at e4 ⊢
 by_cases sa:a<0 <;> by_cases sb:b<0 <;> simp [sa,sb] at e4 <;> simp [zxv,zxw,e1,e2,e3,sa,sb,e4]
theorem ynf (a b:Int) (ha:inI a) (hb:inI b):RUN T zo7 [iv a,iv b]=some ([.agg (wd (zd0 a b))],[]):=by
 refine zai z69 rfl ?_
 obtain ⟨a0,a1⟩:=ziy ha
 obtain ⟨b0,b1⟩:=ziy hb
 have e1:=z0i a ha
 have e2:=z0i b hb
 have e3:=z0g a.natAbs b.natAbs a0 (by omega) b0 (by omega)
 have hpos:(0<(a.natAbs:Int)*b.natAbs)↔(a≠0∧b≠0):=by
  constructor
  ·intro h
   refine ⟨?_,?_⟩ <;> rintro rfl <;> simp at h
  ·rintro ⟨h1,h2⟩
   exact Int.mul_pos (by omega) (by omega)
 have e5:zd0 a b=⟨((decide (a<0) != decide (b<0)) && !decide (a=0)) && !decide (b=0),(a.natAbs:Int)*b.natAbs / 18446744073709551616,(a.natAbs:Int)*b.natAbs % 18446744073709551616⟩:=by
  unfold zd0 mkW
  congr 1
  rw [Bool.eq_iff_iff]; simp [hpos,and_assoc]
 rw [e5]
 by_cases sa:a<0 <;> by_cases sb:b<0 <;> rcases Classical.propComplete (a=0) with h0 | h0 <;> simp [zym,zyn,e1,e2,e3,sa,sb,wd,h0]
def zd8 (w:Wd):Int:=if w.n then -mag w else mag w
def zb4 (a b:Wd):Wd×Bool :=
 if wok a && wok b then
  if ((zd8 a+zd8 b).natAbs:Int)<170141183460469231731687303715884105728 then (mkW (decide (zd8 a+zd8 b<0)) (zd8 a+zd8 b).natAbs,true) else (za2,false)
 else (za2,false)
theorem ytl (a b:Wd):wfU (zb4 a b).1:=by
 unfold zb4
 split
 ·split
  ·exact z2j (by omega) (by omega)
  ·exact ⟨by decide,by decide,by decide,by decide⟩
 ·exact ⟨by decide,by decide,by decide,by decide⟩
theorem zkk {w:Wd} (h:wfU w) (hk:wok w=true):0≤mag w∧mag w<170141183460469231731687303715884105728∧(w.n=true→0<mag w):=by
 obtain ⟨h0,h1,h2,h3⟩:=h
 unfold wok at hk
 simp only [Bool.and_eq_true,Bool.or_eq_true,Bool.not_eq_true',decide_eq_true_eq] at hk
 unfold mag
 obtain ⟨k1,k2⟩:=hk
 refine ⟨by omega,by omega,fun hn => ?_⟩
 rw [hn] at k2
 rcases k2 with (k2 | k2) | k2
 ·cases k2
 ·omega
 ·omega
theorem ytg (a b:Wd) (ha:wfU a) (hb:wfU b) (h:mag a+mag b<340282366920938463463374607431768211456) : ∃ c d:Int,
  RUN T zh8 [uv a.l,uv b.l,uv 0]=some ([uv ((mag a+mag b) % 18446744073709551616),uv c],[])∧RUN T zh8 [uv a.h,uv b.h,uv c]=some ([uv ((mag a+mag b) / 18446744073709551616),uv d],[]):=by
 obtain ⟨a0,a1,a2,a3⟩:=ha
 obtain ⟨b0,b1,b2,b3⟩:=hb
 have e1:=z25 z0b (x:=a.l) (y:=b.l) (c:=0) a2 b2 (by decide) (by decide)
 have e2:=z25 z0b (x:=a.h) (y:=b.h) (c:=(a.l+b.l+0) / 18446744073709551616) a0 b0 (by omega) (by omega)
 have f1:(a.l+b.l+0) % 18446744073709551616=(mag a+mag b) % 18446744073709551616:=by unfold mag; omega
 have f2:(a.h+b.h+(a.l+b.l+0) / 18446744073709551616) % 18446744073709551616=(mag a+mag b) / 18446744073709551616:=by unfold mag at *; omega
 rw [f1] at e1
 rw [f2] at e2
 exact ⟨_,_,e1,e2⟩
theorem ycp (a b:Wd) (ha:wfU a) (hb:wfU b) (h:mag b≤mag a) : ∃ c d:Int,
  RUN T zjs [uv a.l,uv b.l,uv 0]=some ([uv ((mag a-mag b) % 18446744073709551616),uv c],[])∧RUN T zjs [uv a.h,uv b.h,uv c]=some ([uv ((mag a-mag b) / 18446744073709551616),uv d],[]):=by
 obtain ⟨a0,a1,a2,a3⟩:=ha
 obtain ⟨b0,b1,b2,b3⟩:=hb
 have e1:=ydf z64 (x:=a.l) (y:=b.l) (c:=0) a2 b2 a3 b3 (by decide) (by decide)
 have e2:=ydf z64 (x:=a.h) (y:=b.h) (c:=if a.l<b.l+0 then 1 else 0) a0 b0 a1 b1 (by split <;> omega) (by split <;> omega)
 have f1:(a.l-b.l-0) % 18446744073709551616=(mag a-mag b) % 18446744073709551616:=by unfold mag; omega
 have f2:(a.h-b.h-(if a.l<b.l+0 then 1 else 0)) % 18446744073709551616=(mag a-mag b) / 18446744073709551616:=by
  unfold mag at *
  split <;> omega
 rw [f1] at e1
 rw [f2] at e2
 exact ⟨_,_,e1,e2⟩
theorem z01 {n:Bool} {m:Int} (h:0≤m):RUN T zf4 [bv n,uv (m / 18446744073709551616),uv (m % 18446744073709551616)]=some ([.agg (wd (mkW n m))],[]):=by
 rw [zsg]
 have:(⟨n && (decide (0<m / 18446744073709551616) || decide (0<m % 18446744073709551616)),m / 18446744073709551616,m % 18446744073709551616⟩:Wd)=mkW n m:=by
  unfold mkW
  congr 2
  rw [Bool.eq_iff_iff]; simp; omega
 rw [this]
theorem yng (a b:Wd) (ha:wfU a) (hb:wfU b):RUN T zo1 [.agg (wd a),.agg (wd b)]=some ([.agg (wd (zb4 a b).1),bv (zb4 a b).2],[]):=by
 refine zai z6j rfl ?_
 have ea:=zpy a
 have eb:=zpy b
 cases ka:wok a with
 | false =>
  have es:zb4 a b=(za2,false):=by unfold zb4; simp [ka]
  rw [es]; rw [ka] at ea
  simp only [wd] at ea
  simp [zif,zig,wd,ea,za2]
 | true =>
  cases kb:wok b with
  | false =>
   have es:zb4 a b=(za2,false):=by unfold zb4; simp [kb]
   rw [es]; rw [ka] at ea; rw [kb] at eb
   simp only [wd] at ea eb
   simp [zif,zig,wd,ea,eb,za2]
  | true =>
   obtain ⟨ma0,ma1,ma2⟩:=zkk ha ka
   obtain ⟨mb0,mb1,mb2⟩:=zkk hb kb
   rw [ka] at ea; rw [kb] at eb
   by_cases hn:a.n=b.n
   ·obtain ⟨c,d,f1,f2⟩:=ytg a b ha hb (by omega)
    have f3:=z01 (n:=a.n) (m:=mag a+mag b) (by omega)
    have f4:=zpy (mkW a.n (mag a+mag b))
    rw [z20 (by omega)] at f4
    have es:zb4 a b=if mag a+mag b<170141183460469231731687303715884105728 then (mkW a.n (mag a+mag b),true) else (za2,false):=by
     unfold zb4 zd8
     rw [ka,kb,← hn]
     simp only [Bool.and_self,if_true]
     cases h:a.n with
     | true =>
      have e1:(-mag a + -mag b).natAbs=mag a+mag b:=by omega
      have e2 : -mag a + -mag b<0:=by have:=ma2 h; omega
      simp only [if_true,e1,decide_eq_true e2]
     | false =>
      have e1:((mag a+mag b).natAbs:Int)=mag a+mag b:=by omega
      have e2 : ¬ mag a+mag b<0:=by omega
      simp only [Bool.false_eq_true,if_false,e1,decide_eq_false e2]
    rw [es]
    generalize hm:mag a+mag b=m at *
    generalize mkW a.n m=w at *
    generalize m / 18446744073709551616=hi at *
    generalize m % 18446744073709551616=lo at *
    simp only [wd] at ea eb f3 f4 ⊢
    rw [hn] at ea f3
    by_cases hk:m<170141183460469231731687303715884105728
    ·rw [decide_eq_true hk] at f4
     rw [if_pos hk]
     simp [zif,zig,ea,eb,hn,f1,f2,f3,f4]
    ·rw [decide_eq_false hk] at f4
     rw [if_neg hk]
     simp [zif,zig,ea,eb,hn,f1,f2,f3,f4,za2]
   ·have ho:=z0j a b
    rw [z8l ha hb] at ho
    have es:zb4 a b=(mkW (if mag a<mag b then b.n else a.n) (if mag a<mag b then mag b-mag a else mag a-mag b),true):=by
     have gen : ∀ (n:Bool) (m:Int),((zd8 a+zd8 b).natAbs:Int)=m→m<170141183460469231731687303715884105728→(decide (zd8 a+zd8 b<0) && decide (0<m))=(n && decide (0<m))→zb4 a b=(mkW n m,true):=by
      intro n m h1 h2 h3
      unfold zb4
      rw [ka,kb,h1]
      simp only [Bool.and_self,if_true,if_pos h2]
      unfold mkW
      rw [h3]
     unfold zd8 at gen
     cases h:a.n <;> cases h':b.n <;> simp only [h,h'] at gen hn ⊢
     ·exact (hn trivial).elim
     ·by_cases hl:mag a<mag b
      ·rw [if_pos hl,if_pos hl]
       exact gen _ _ (by simp; omega) (by omega) (by rw [Bool.eq_iff_iff]; simp; omega)
      ·rw [if_neg hl,if_neg hl]
       exact gen _ _ (by simp; omega) (by omega) (by rw [Bool.eq_iff_iff]; simp; omega)
     ·by_cases hl:mag a<mag b
      ·rw [if_pos hl,if_pos hl]
       exact gen _ _ (by simp; omega) (by omega) (by rw [Bool.eq_iff_iff]; simp; omega)
      ·rw [if_neg hl,if_neg hl]
       exact gen _ _ (by simp; omega) (by omega) (by rw [Bool.eq_iff_iff]; simp; omega)
     ·exact (hn trivial).elim
    rw [es]
    have hnb:(a.n == b.n)=false:=by cases h:a.n <;> cases h':b.n <;> simp [h,h'] at hn ⊢
    by_cases hl:mag a<mag b
    ·obtain ⟨c,d,f1,f2⟩:=ycp b a hb ha (by omega)
     have f3:=z01 (n:=b.n) (m:=mag b-mag a) (by omega)
     have hs:zb6 (mag a) (mag b) = -1:=by unfold zb6; rw [if_pos hl]
     rw [hs] at ho
     rw [if_pos hl,if_pos hl]
     generalize mag b-mag a=m at *
     generalize mkW b.n m=w at *
     generalize m / 18446744073709551616=hi at *
     generalize m % 18446744073709551616=lo at *
     simp only [wd] at ea eb f3 ho ⊢
     simp [zif,zig,ea,eb,hnb,ho,f1,f2,f3]
    ·obtain ⟨c,d,f1,f2⟩:=ycp a b ha hb (by omega)
     have f3:=z01 (n:=a.n) (m:=mag a-mag b) (by omega)
     have hs : ¬ zb6 (mag a) (mag b)<0:=by unfold zb6; rw [if_neg hl]; split <;> omega
     rw [if_neg hl,if_neg hl]
     generalize mag a-mag b=m at *
     generalize mkW a.n m=w at *
     generalize m / 18446744073709551616=hi at *
     generalize m % 18446744073709551616=lo at *
     generalize zb6 (mag a) (mag b)=sg at *
     simp only [wd] at ea eb f3 ho ⊢
     simp [zif,zig,ea,eb,hnb,ho,hs,f1,f2,f3]
theorem yqb {a b:Wd} (ha:wfU a) (hb:wfU b) (ka:wok a=true) (kb:wok b=true) (hn:a.n=b.n):zb4 a b=if mag a+mag b<170141183460469231731687303715884105728 then (mkW a.n (mag a+mag b),true) else (za2,false):=by
 obtain ⟨ma0,ma1,ma2⟩:=zkk ha ka
 obtain ⟨mb0,mb1,mb2⟩:=zkk hb kb
 unfold zb4 zd8
 rw [ka,kb,← hn]
 simp only [Bool.and_self,if_true]
 cases h:a.n with
 | true =>
  have e1:(-mag a + -mag b).natAbs=mag a+mag b:=by omega
  have e2 : -mag a + -mag b<0:=by have:=ma2 h; omega
  simp only [if_true,e1,decide_eq_true e2]
 | false =>
  have e1:((mag a+mag b).natAbs:Int)=mag a+mag b:=by omega
  have e2 : ¬ mag a+mag b<0:=by omega
  simp only [Bool.false_eq_true,if_false,e1,decide_eq_false e2]
theorem yp5 {a b:Wd} (ha:wfU a) (hb:wfU b) (ka:wok a=true) (kb:wok b=true) (hn : ¬ a.n=b.n):zb4 a b=(mkW (if mag a<mag b then b.n else a.n) (if mag a<mag b then mag b-mag a else mag a-mag b),true):=by
 obtain ⟨ma0,ma1,ma2⟩:=zkk ha ka
 obtain ⟨mb0,mb1,mb2⟩:=zkk hb kb
 have gen : ∀ (n:Bool) (m:Int),((zd8 a+zd8 b).natAbs:Int)=m→m<170141183460469231731687303715884105728→(decide (zd8 a+zd8 b<0) && decide (0<m))=(n && decide (0<m))→zb4 a b=(mkW n m,true):=by
  intro n m h1 h2 h3
  unfold zb4
  rw [ka,kb,h1]
  simp only [Bool.and_self,if_true,if_pos h2]
  unfold mkW
  rw [h3]
 unfold zd8 at gen
 cases h:a.n <;> cases h':b.n <;> simp only [h,h'] at gen hn ⊢
 ·exact (hn trivial).elim
 ·by_cases hl:mag a<mag b
  ·rw [if_pos hl,if_pos hl]
   exact gen _ _ (by simp; omega) (by omega) (by rw [Bool.eq_iff_iff]; simp; omega)
  ·rw [if_neg hl,if_neg hl]
   exact gen _ _ (by simp; omega) (by omega) (by rw [Bool.eq_iff_iff]; simp; omega)
 ·by_cases hl:mag a<mag b
  ·rw [if_pos hl,if_pos hl]
   exact gen _ _ (by simp; omega) (by omega) (by rw [Bool.eq_iff_iff]; simp; omega)
  ·rw [if_neg hl,if_neg hl]
   exact gen _ _ (by simp; omega) (by omega) (by rw [Bool.eq_iff_iff]; simp; omega)
 ·exact (hn trivial).elim
theorem yph (a b:Wd) (ha:wfU a) (hb:wfU b) (h:mag a+mag b<340282366920938463463374607431768211456) :
  IntKind.u64.wrap (a.l+b.l)=(mag a+mag b) % 18446744073709551616∧((mag a+mag b) % 18446744073709551616<a.l→IntKind.u64.wrap (IntKind.u64.wrap (a.h+b.h)+1)=(mag a+mag b) / 18446744073709551616)∧(¬ (mag a+mag b) % 18446744073709551616<a.l→IntKind.u64.wrap (a.h+b.h)=(mag a+mag b) / 18446744073709551616):=by
 obtain ⟨a0,a1,a2,a3⟩:=ha
 obtain ⟨b0,b1,b2,b3⟩:=hb
 unfold mag at *
 refine ⟨?_,fun h => ?_,fun h => ?_⟩ <;> simp only [zht] at * <;> omega
theorem z8p (a b:Wd) (ha:wfU a) (hb:wfU b) (h:mag b≤mag a) :
  IntKind.u64.wrap (a.l-b.l)=(mag a-mag b) % 18446744073709551616∧(a.l<b.l→IntKind.u64.wrap (IntKind.u64.wrap (a.h-b.h)-1)=(mag a-mag b) / 18446744073709551616)∧(¬ a.l<b.l→IntKind.u64.wrap (a.h-b.h)=(mag a-mag b) / 18446744073709551616):=by
 obtain ⟨a0,a1,a2,a3⟩:=ha
 obtain ⟨b0,b1,b2,b3⟩:=hb
 unfold mag at *
 refine ⟨?_,fun h => ?_,fun h => ?_⟩ <;> simp only [zht] at * <;> omega
theorem ynh (a b:Wd) (ha:wfU a) (hb:wfU b):RUN T zo4 [.agg (wd a),.agg (wd b)]=some ([.agg (wd (zb4 a b).1),bv (zb4 a b).2],[]):=by
 refine zai z6s rfl ?_
 have ea:=zpz a
 have eb:=zpz b
 cases ka:wok a with
 | false =>
  have es:zb4 a b=(za2,false):=by unfold zb4; simp [ka]
  rw [es]; rw [ka] at ea
  simp only [wd] at ea
  simp [ze4,ze5,wd,ea,za2]
 | true =>
  cases kb:wok b with
  | false =>
   have es:zb4 a b=(za2,false):=by unfold zb4; simp [kb]
   rw [es]; rw [ka] at ea; rw [kb] at eb
   simp only [wd] at ea eb
   simp [ze4,ze5,wd,ea,eb,za2]
  | true =>
   obtain ⟨ma0,ma1,ma2⟩:=zkk ha ka
   obtain ⟨mb0,mb1,mb2⟩:=zkk hb kb
   rw [ka] at ea; rw [kb] at eb
   by_cases hn:a.n=b.n
   ·obtain ⟨f1,f2,f3⟩:=yph a b ha hb (by omega)
    have f4:=zpz (mkW a.n (mag a+mag b))
    rw [z20 (by omega)] at f4
    rw [yqb ha hb ka kb hn]
    have e6:mkW a.n (mag a+mag b)=⟨a.n,(mag a+mag b) / 18446744073709551616,(mag a+mag b) % 18446744073709551616⟩:=by
     unfold mkW
     congr 1
     cases h:a.n with
     | false=>rfl
     | true=>have:=ma2 h; simp; omega
    rw [e6] at f4 ⊢
    generalize hm:mag a+mag b=m at *
    generalize m / 18446744073709551616=hi at *
    generalize m % 18446744073709551616=lo at *
    simp only [wd] at ea eb f4 ⊢
    rw [hn] at ea f4
    by_cases hc:lo<a.l
    ·have f2:=f2 hc
     by_cases hk:m<170141183460469231731687303715884105728
     ·rw [decide_eq_true hk] at f4
      rw [if_pos hk]
      simp [ze4,ze5,ea,eb,hn,hc,f1,f2,f4]
     ·rw [decide_eq_false hk] at f4
      rw [if_neg hk]
      simp [ze4,ze5,ea,eb,hn,hc,f1,f2,f4,za2]
    ·have f3:=f3 hc
     by_cases hk:m<170141183460469231731687303715884105728
     ·rw [decide_eq_true hk] at f4
      rw [if_pos hk]
      simp [ze4,ze5,ea,eb,hn,hc,f1,f3,f4]
     ·rw [decide_eq_false hk] at f4
      rw [if_neg hk]
      simp [ze4,ze5,ea,eb,hn,hc,f1,f3,f4,za2]
   ·have ho:=z0k a b
    rw [z8l ha hb] at ho
    rw [yp5 ha hb ka kb hn]
    have hnb:(a.n == b.n)=false:=by cases h:a.n <;> cases h':b.n <;> simp [h,h'] at hn ⊢
    by_cases hl:mag a<mag b
    ·obtain ⟨f1,f2,f3⟩:=z8p b a hb ha (by omega)
     have hz:=zsh ⟨b.n,(mag b-mag a) / 18446744073709551616,(mag b-mag a) % 18446744073709551616⟩
     have hs:zb6 (mag a) (mag b) = -1:=by unfold zb6; rw [if_pos hl]
     rw [hs] at ho
     rw [if_pos hl,if_pos hl]
     have e6:mkW b.n (mag b-mag a)=⟨b.n,(mag b-mag a) / 18446744073709551616,(mag b-mag a) % 18446744073709551616⟩:=by
      unfold mkW
      congr 1
      rw [decide_eq_true (show 0<mag b-mag a by omega),Bool.and_true]
     have e7:(decide ((mag b-mag a) / 18446744073709551616=0) && decide ((mag b-mag a) % 18446744073709551616=0))=false:=by
      rw [Bool.eq_false_iff]; simp; omega
     simp only at hz
     rw [e7] at hz
     rw [e6]
     clear e6 e7
     generalize mag b-mag a=m at *
     generalize m / 18446744073709551616=hi at *
     generalize m % 18446744073709551616=lo at *
     simp only [wd] at ea eb ho hz ⊢
     by_cases hc:b.l<a.l
     ·have f2:=f2 hc
      simp [ze4,ze5,ea,eb,hnb,ho,hc,f1,f2,hz]
     ·have f3:=f3 hc
      simp [ze4,ze5,ea,eb,hnb,ho,hc,f1,f3,hz]
    ·obtain ⟨f1,f2,f3⟩:=z8p a b ha hb (by omega)
     have hz:=zsh ⟨a.n,(mag a-mag b) / 18446744073709551616,(mag a-mag b) % 18446744073709551616⟩
     have hs : ¬ zb6 (mag a) (mag b)<0:=by unfold zb6; rw [if_neg hl]; split <;> omega
     rw [if_neg hl,if_neg hl]
     generalize zb6 (mag a) (mag b)=sg at *
     by_cases h0:mag a-mag b=0
     ·have e6:mkW a.n (mag a-mag b)=⟨false,(mag a-mag b) / 18446744073709551616,(mag a-mag b) % 18446744073709551616⟩:=by
       unfold mkW
       congr 1
       simp [h0]
      have e7:(decide ((mag a-mag b) / 18446744073709551616=0) && decide ((mag a-mag b) % 18446744073709551616=0))=true:=by
       simp; omega
      simp only at hz
      rw [e7] at hz
      rw [e6]
      clear e6 e7 h0
      generalize mag a-mag b=m at *
      generalize m / 18446744073709551616=hi at *
      generalize m % 18446744073709551616=lo at *
      simp only [wd] at ea eb ho hz ⊢
      by_cases hc:a.l<b.l
      ·have f2:=f2 hc
       simp [ze4,ze5,ea,eb,hnb,ho,hs,hc,f1,f2,hz]
      ·have f3:=f3 hc
       simp [ze4,ze5,ea,eb,hnb,ho,hs,hc,f1,f3,hz]
     ·have e6:mkW a.n (mag a-mag b)=⟨a.n,(mag a-mag b) / 18446744073709551616,(mag a-mag b) % 18446744073709551616⟩:=by
       unfold mkW
       congr 1
       rw [decide_eq_true (show 0<mag a-mag b by omega),Bool.and_true]
      have e7:(decide ((mag a-mag b) / 18446744073709551616=0) && decide ((mag a-mag b) % 18446744073709551616=0))=false:=by
       rw [Bool.eq_false_iff]; simp; omega
      simp only at hz
      rw [e7] at hz
      rw [e6]
      clear e6 e7 h0
      generalize mag a-mag b=m at *
      generalize m / 18446744073709551616=hi at *
      generalize m % 18446744073709551616=lo at *
      simp only [wd] at ea eb ho hz ⊢
      by_cases hc:a.l<b.l
      ·have f2:=f2 hc
       simp [ze4,ze5,ea,eb,hnb,ho,hs,hc,f1,f2,hz]
      ·have f3:=f3 hc
       simp [ze4,ze5,ea,eb,hnb,ho,hs,hc,f1,f3,hz]
theorem ypd {a b:Int} (ha:inI a) (hb:inI b):wfU (zd0 a b):=by
 obtain ⟨m0,m1⟩:=ya1 ha hb
 exact z2j m0 (by omega)
def zcv (w:Wd) (k:Int):Wd×Bool:=if wok w=true∧mag w*k.natAbs<170141183460469231731687303715884105728 then (mkW (w.n != decide (k<0)) (mag w*k.natAbs),true) else (za2,false)
theorem z86 (w:Wd) (k:Int) (hw:wfU w) (hk:inI k) : ∃ p q:Int,w.h*k.natAbs=p∧w.l*k.natAbs=q∧0≤p∧0≤q∧q≤170141183460469231722463931679029329920∧mag w*k.natAbs=p*18446744073709551616+q:=by
 obtain ⟨a0,a1,a2,a3⟩:=hw
 obtain ⟨k0,k1⟩:=ziy hk
 refine ⟨_,_,rfl,rfl,Int.mul_nonneg a0 k0,Int.mul_nonneg a2 k0,Int.le_trans (Int.mul_le_mul (show w.l≤18446744073709551615 by omega) k1 k0 (by decide)) (by decide),?_⟩
 unfold mag
 rw [Int.add_mul,Int.mul_assoc,Int.mul_comm 18446744073709551616,← Int.mul_assoc]
theorem yd6 (w:Wd) (k:Int) (ka:wok w=true) (p q:Int) (p0:0≤p) (q0:0≤q) (q1:q≤170141183460469231722463931679029329920) (hP:mag w*k.natAbs=p*18446744073709551616+q) :
  (zcv w k=(za2,false)∧(0<p / 18446744073709551616∨0<(p % 18446744073709551616+q / 18446744073709551616) / 18446744073709551616∨wok ⟨(w.n != decide (k<0)) && (decide (0<(p % 18446744073709551616+q / 18446744073709551616) % 18446744073709551616) || decide (0<q % 18446744073709551616)),(p % 18446744073709551616+q / 18446744073709551616) % 18446744073709551616,q % 18446744073709551616⟩=false)) ∨
  (zcv w k=(⟨(w.n != decide (k<0)) && (decide (0<(p % 18446744073709551616+q / 18446744073709551616) % 18446744073709551616) || decide (0<q % 18446744073709551616)),(p % 18446744073709551616+q / 18446744073709551616) % 18446744073709551616,q % 18446744073709551616⟩,true)∧¬ 0<p / 18446744073709551616∧¬ 0<(p % 18446744073709551616+q / 18446744073709551616) / 18446744073709551616∧wok ⟨(w.n != decide (k<0)) && (decide (0<(p % 18446744073709551616+q / 18446744073709551616) % 18446744073709551616) || decide (0<q % 18446744073709551616)),(p % 18446744073709551616+q / 18446744073709551616) % 18446744073709551616,q % 18446744073709551616⟩=true):=by
 by_cases hk:p*18446744073709551616+q<170141183460469231731687303715884105728
 ·right
  have e:(⟨(w.n != decide (k<0)) && (decide (0<(p % 18446744073709551616+q / 18446744073709551616) % 18446744073709551616) || decide (0<q % 18446744073709551616)),(p % 18446744073709551616+q / 18446744073709551616) % 18446744073709551616,q % 18446744073709551616⟩:Wd)=mkW (w.n != decide (k<0)) (p*18446744073709551616+q):=by
   unfold mkW
   congr 1
   ·congr 1
    rw [Bool.eq_iff_iff]; simp; omega
   ·omega
   ·omega
  rw [e,z20 (by omega)]
  refine ⟨?_,by omega,by omega,decide_eq_true hk⟩
  unfold zcv
  rw [hP,if_pos ⟨ka,hk⟩]
 ·left
  refine ⟨?_,?_⟩
  ·unfold zcv
   rw [hP,if_neg (fun h=>hk h.2)]
  ·by_cases h1:0<p / 18446744073709551616
   ·exact .inl h1
   ·by_cases h2:0<(p % 18446744073709551616+q / 18446744073709551616) / 18446744073709551616
    ·exact .inr (.inl h2)
    ·refine .inr (.inr ?_)
     unfold wok
     rw [decide_eq_false (show ¬ (p % 18446744073709551616+q / 18446744073709551616) % 18446744073709551616<9223372036854775808 by omega)]
     rfl
set_option maxHeartbeats 1000000 in
theorem z7u (w:Wd) (k:Int) (hw:wfU w) (hk:inI k):RUN T zlf [.agg (wd w),iv k]=some ([.agg (wd (zcv w k).1),bv (zcv w k).2],[]):=by
 refine zai z6n rfl ?_
 have ea:=zpy w
 cases ka:wok w with
 | false =>
  have es:zcv w k=(za2,false):=by unfold zcv; simp [ka]
  rw [es]; rw [ka] at ea
  simp only [wd] at ea
  simp [zgs,zgt,wd,ea,za2]
 | true =>
  rw [ka] at ea
  obtain ⟨a0,a1,a2,a3⟩:=hw
  obtain ⟨k0,k1⟩:=ziy hk
  have e1:=z0h k hk
  have e2:=z0f w.h k.natAbs a0 a1 k0 (by omega)
  have e3:=z0f w.l k.natAbs a2 a3 k0 (by omega)
  obtain ⟨p,q,hp,hq,p0,q0,q1,hP⟩:=z86 w k ⟨a0,a1,a2,a3⟩ hk
  rw [hp] at e2
  rw [hq] at e3
  have e4:=z25 z0b (x:=p % 18446744073709551616) (y:=q / 18446744073709551616) (c:=0) (by omega) (by omega) (by decide) (by decide)
  rw [Int.add_zero] at e4
  have e5:=zsg (w.n != decide (k<0)) ((p % 18446744073709551616+q / 18446744073709551616) % 18446744073709551616) (q % 18446744073709551616)
  have e6:=zpy ⟨(w.n != decide (k<0)) && (decide (0<(p % 18446744073709551616+q / 18446744073709551616) % 18446744073709551616) || decide (0<q % 18446744073709551616)),(p % 18446744073709551616+q / 18446744073709551616) % 18446744073709551616,q % 18446744073709551616⟩
  have key:=yd6 w k ka p q p0 q0 q1 hP
  generalize ((w.n != decide (k<0)) && (decide (0<(p % 18446744073709551616+q / 18446744073709551616) % 18446744073709551616) || decide (0<q % 18446744073709551616)))=sn at *
  generalize p / 18446744073709551616=P1 at *
  generalize p % 18446744073709551616=P2 at *
  generalize q / 18446744073709551616=Q1 at *
  generalize q % 18446744073709551616=Q2 at *
  generalize (P2+Q1) / 18446744073709551616=S1 at *
  generalize (P2+Q1) % 18446744073709551616=S2 at *
  generalize zcv w k=r at *
  generalize wok ⟨sn,S2,Q2⟩=o at *
  obtain ⟨wn,wh,wl⟩:=w
  simp only [wd] at ea e5 e6 ⊢
  simp only at e2 e3
  rcases key with ⟨rfl,c | c | rfl⟩ | ⟨rfl,c1,c2,rfl⟩
  ·cases wn <;> by_cases sb:k<0 <;> simp [sb] at e5 <;> simp [zgs,zgt,ea,e1,e2,e3,e4,e5,sb,c,za2]
  ·by_cases c':0<P1
   ·cases wn <;> by_cases sb:k<0 <;> simp [sb] at e5 <;> simp [zgs,zgt,ea,e1,e2,e3,e4,e5,sb,c',za2]
   ·cases wn <;> by_cases sb:k<0 <;> simp [sb] at e5 <;> simp [zgs,zgt,ea,e1,e2,e3,e4,e5,sb,c',c,za2]
  ·by_cases c':0<P1
   ·cases wn <;> by_cases sb:k<0 <;> simp [sb] at e5 <;> simp [zgs,zgt,ea,e1,e2,e3,e4,e5,sb,c',za2]
   ·by_cases c:0<S1
    ·cases wn <;> by_cases sb:k<0 <;> simp [sb] at e5 <;> simp [zgs,zgt,ea,e1,e2,e3,e4,e5,sb,c',c,za2]
    ·cases wn <;> by_cases sb:k<0 <;> simp [sb] at e5 <;> simp [zgs,zgt,ea,e1,e2,e3,e4,e5,e6,sb,c',c,za2]
  ·cases wn <;> by_cases sb:k<0 <;> simp [sb] at e5 <;> simp [zgs,zgt,ea,e1,e2,e3,e4,e5,e6,sb,c1,c2]
set_option maxHeartbeats 1000000 in
theorem z7v (w:Wd) (k:Int) (hw:wfU w) (hk:inI k):RUN T zlh [.agg (wd w),iv k]=some ([.agg (wd (zcv w k).1),bv (zcv w k).2],[]):=by
 refine zai z6v rfl ?_
 have ea:=zpz w
 cases ka:wok w with
 | false =>
  have es:zcv w k=(za2,false):=by unfold zcv; simp [ka]
  rw [es]; rw [ka] at ea
  simp only [wd] at ea
  simp [zgu,zgv,wd,ea,za2]
 | true =>
  rw [ka] at ea
  obtain ⟨a0,a1,a2,a3⟩:=hw
  obtain ⟨k0,k1⟩:=ziy hk
  have e1:=z0i k hk
  have e2:=z0g w.h k.natAbs a0 a1 k0 (by omega)
  have e3:=z0g w.l k.natAbs a2 a3 k0 (by omega)
  obtain ⟨p,q,hp,hq,p0,q0,q1,hP⟩:=z86 w k ⟨a0,a1,a2,a3⟩ hk
  rw [hp] at e2
  rw [hq] at e3
  have e4:=zsh ⟨w.n != decide (k<0),(p % 18446744073709551616+q / 18446744073709551616) % 18446744073709551616,q % 18446744073709551616⟩
  have e5:(decide (0<(p % 18446744073709551616+q / 18446744073709551616) % 18446744073709551616) || decide (0<q % 18446744073709551616)) = !(decide ((p % 18446744073709551616+q / 18446744073709551616) % 18446744073709551616=0) && decide (q % 18446744073709551616=0)):=by
   rw [Bool.eq_iff_iff]; simp; omega
  have e6:=zpz ⟨(w.n != decide (k<0)) && (decide (0<(p % 18446744073709551616+q / 18446744073709551616) % 18446744073709551616) || decide (0<q % 18446744073709551616)),(p % 18446744073709551616+q / 18446744073709551616) % 18446744073709551616,q % 18446744073709551616⟩
  have e7:0<(p % 18446744073709551616+q / 18446744073709551616) / 18446744073709551616↔(p % 18446744073709551616+q / 18446744073709551616) % 18446744073709551616<p % 18446744073709551616:=by omega
  have e8:=zht (p % 18446744073709551616+q / 18446744073709551616)
  have key:=yd6 w k ka p q p0 q0 q1 hP
  rw [e7] at key
  rw [e5] at key e6
  clear e7 e5
  simp only at e4
  generalize (decide ((p % 18446744073709551616+q / 18446744073709551616) % 18446744073709551616=0) && decide (q % 18446744073709551616=0))=z at *
  generalize p / 18446744073709551616=P1 at *
  generalize p % 18446744073709551616=P2 at *
  generalize q / 18446744073709551616=Q1 at *
  generalize q % 18446744073709551616=Q2 at *
  generalize (P2+Q1) % 18446744073709551616=S2 at *
  generalize zcv w k=r at *
  generalize hsn:((w.n != decide (k<0)) && !z)=sn at *
  generalize wok ⟨sn,S2,Q2⟩=o at *
  obtain ⟨wn,wh,wl⟩:=w
  simp only [wd] at ea e4 e6 ⊢
  simp only at e2 e3 hsn
  rcases key with ⟨rfl,c | c | rfl⟩ | ⟨rfl,c1,c2,rfl⟩
  ·cases wn <;> by_cases sb:k<0 <;> cases z <;> simp [sb] at e4 <;> simp [zgu,zgv,ea,e1,e2,e3,e4,e8,sb,c,za2]
  ·by_cases c':0<P1
   ·cases wn <;> by_cases sb:k<0 <;> cases z <;> simp [sb] at e4 <;> simp [zgu,zgv,ea,e1,e2,e3,e4,e8,sb,c',za2]
   ·cases wn <;> by_cases sb:k<0 <;> cases z <;> simp [sb] at e4 <;> simp [zgu,zgv,ea,e1,e2,e3,e4,e8,sb,c',c,za2]
  ·by_cases c':0<P1
   ·cases wn <;> by_cases sb:k<0 <;> cases z <;> simp [sb] at e4 <;> simp [zgu,zgv,ea,e1,e2,e3,e4,e8,sb,c',za2]
   ·by_cases c:S2<P2
    ·cases wn <;> by_cases sb:k<0 <;> cases z <;> simp [sb] at e4 <;> simp [zgu,zgv,ea,e1,e2,e3,e4,e8,sb,c',c,za2]
    ·cases wn <;> by_cases sb:k<0 <;> cases z <;> simp [sb] at e4 hsn <;> subst hsn <;> simp [zgu,zgv,ea,e1,e2,e3,e4,e6,e8,sb,c',c,za2]
  ·cases wn <;> by_cases sb:k<0 <;> cases z <;> simp [sb] at e4 hsn <;> subst hsn <;> simp [zgu,zgv,ea,e1,e2,e3,e4,e6,e8,sb,c1,c2]
def zd7 (w:Wd):Bool:=w.n && !(decide (w.h=0) && decide (w.l=0))
def zi3 (a b:Wd):Int:=if zd7 a=true then (if zd7 b=true then zeb b a else -1) else (if zd7 b=true then 1 else zeb a b)
theorem yni (a b:Wd):RUN T zov [.agg (wd a),.agg (wd b)]=some ([iv (zi3 a b)],[]):=by
 refine zai z58 rfl ?_
 have e1:=zsh a
 have e2:=zsh b
 have e3:=z0k a b
 have e4:=z0k b a
 unfold zi3 zd7
 generalize zeb a b=x at *
 generalize zeb b a=y at *
 generalize (decide (a.h=0) && decide (a.l=0))=z at *
 generalize (decide (b.h=0) && decide (b.l=0))=z' at *
 obtain ⟨an,ah,al⟩:=a
 obtain ⟨bn,bh,bl⟩:=b
 simp only [wd] at e1 e2 e3 e4 ⊢
 cases an <;> cases bn <;> cases z <;> cases z' <;> simp [zxg,zxh,e1,e2,e3,e4]
def yeo (t:List Nd) (k:Nat) (f c a b:Int):List Nd:=t.set k ⟨f,c,t.length,t.length+1,0⟩++[⟨-1,0,0,0,a⟩,⟨-1,0,0,0,b⟩]
def PRw (n:Nat) (v:PV):Prop := ∃ l:List Int,v = .own 1 (zac l)∧l.length=n∧∀ x∈l,inI x
theorem yes (l:List ByteArray):zdf (zc5 l)=true:=by simp [zdf,zc5]
theorem ztl (L:List (List Int)) (r:List Int):rws true L++[[.own 1 (zac r)]]=rws true (L++[r]):=by simp [rws,cel]
theorem zzs (L:List (List Int)) (i:Nat) (r:List Int):(rws true L).set i [.own 1 (zac r)]=rws true (L.set i r):=by simp [rws,cel]
def pos (x:Int) (l:List Int):Nat→Nat
 | 0=>0
 | k+1=>if x<l.getD k 0 then pos x l k else k+1
def ins (l:List Int) (x:Int):List Int:=l.take (pos x l l.length)++x::l.drop (pos x l l.length)
def zqv (l:List Int):List Int:=l.foldl ins []
theorem ycv (x:Int) (l:List Int) : ∀ k,pos x l k≤k
 | 0=>by simp [pos]
 | k+1=>by
  have:=ycv x l k
  simp only [pos]; split <;> omega
theorem yo8 (l:List Int) (x:Int):(ins l x).length=l.length+1:=by
 have:=ycv x l l.length
 unfold ins
 simp; omega
theorem yrl {l:List Int} {i:Nat} {x:Int} (h:l[i]?=some x):(l.take (i+1)).foldl ins []=ins ((l.take i).foldl ins []) x:=by
 rw [List.take_succ,h]
 simp [List.foldl_append]
theorem yqv (l:List Int) : ∀ a:List Int,(l.foldl ins a).length=a.length+l.length:=by
 induction l with
 | nil=>intro a; rfl
 | cons x l ih=>intro a; simp only [List.foldl_cons,ih,yo8,List.length_cons]; omega
theorem ytf (a:List Int) (p:Nat):List.take (a.length-p) (List.drop p (zac a))=zac (a.drop p):=by
 rw [List.take_of_length_le (by simp)]
 simp [zac,List.map_drop]
theorem yu0 (a:List Int) (p:Nat) (h:p≤a.length):(if p=a.length then zac a else List.take p (zac a))=zac (a.take p):=by
 split
 ·rename_i e; subst e; rw [List.take_length]
 ·simp [zac,List.map_take]
theorem z8m (x:Int) (l:List Int) (k:Nat):pos x l (k+1)=if x<l.getD k 0 then pos x l k else k+1:=rfl
def zeo (x:Int) (l:List Int) (k P:Nat):Prop:=pos x l k=P
theorem zeo.on {x y:Int} {l:List Int} {k P:Nat} (h:zeo x l (k+1) P) (hy:l[k]?=some y) (hc:x<y):zeo x l k P:=by
 unfold zeo at *
 rw [z8m] at h
 simp only [List.getD,hy,Option.getD_some,if_pos hc] at h
 exact h
theorem zeo.off {x y:Int} {l:List Int} {k P:Nat} (h:zeo x l (k+1) P) (hy:l[k]?=some y) (hc : ¬ x<y):k+1=P:=by
 unfold zeo at *
 rw [z8m] at h
 simp only [List.getD,hy,Option.getD_some,if_neg hc] at h
 exact h
theorem zeo.ex (x:Int) (l:List Int) (k:Nat) : ∃ P,zeo x l k P:=⟨_,rfl⟩
theorem zeo.z {x:Int} {l:List Int} {P:Nat} (h:zeo x l 0 P):0=P:=h
theorem yen {x:Int} {l:List Int} {P:Nat} (h:zeo x l l.length P):ins l x=l.take P++x::l.drop P:=by unfold zeo at h; unfold ins; rw [h]
attribute [irreducible] pos ins zeo
set_option maxHeartbeats 800000 in
theorem z7w (l:List Int) (hl:l.length≤1048576):RUN T zlk [.sl 1 (zac l)]=some ([.own 1 (zac (zqv l))],[]):=by
 refine zai z60 rfl ?_
 have hr0:zam 8 0=true:=by decide
 simp [-getElem?_pos,zyc,zyd,hr0]
 refine za3 (fun n st => ∃ (i o e:Nat) (a:List Int),i+n=l.length∧a=(l.take i).foldl ins []∧a.length=i∧st.V 0 = .sl 1 (zac l)∧st.V 3 = .ref o none e 0 a.length∧st.V 4=iv i∧o<st.nx∧st.S o=some (.row 1 (zac a))) ?_ l.length _ ⟨0,0,0,[],by simp [zac]⟩
 rintro n st ⟨i,o,e,a,hi,ha,hal,v0,v3,v4,hox,hSo⟩
 simp [z3h,v0,v4]
 obtain ⟨f1,f2,f3,f4⟩:=fr hox
 refine zdm (fun h => ?_) (fun h => ?_)
 ·simp at h
  obtain ⟨x,hx⟩ : ∃ x,l[i]?=some x:=⟨_,List.getElem?_eq_getElem h⟩
  have hx':=zbj hx
  have hws:=wS h (by omega:l.length≤9223372036854775807)
  have hft:=yrl hx
  rw [← ha] at hft
  obtain ⟨P,hP⟩ : ∃ P,zeo x a a.length P:=zeo.ex x a a.length
  simp [-getElem?_pos,v0,v3,v4,hSo]
  refine za3 (fun n' s => ∃ j:Nat,n'=j∧j≤a.length∧zeo x a j P∧s.V 0 = .sl 1 (zac l)∧s.V 3 = .ref o none e 0 a.length∧s.V 4=iv i∧s.V 5=iv j∧s.nx=st.nx∧s.S o=some (.row 1 (zac a))) ?_ a.length _ ⟨a.length,by omega,by omega,hP,by simp [v0],by simp [v3],by simp [v4],by simp,by simp,by simp [hSo]⟩
  rintro n' s ⟨j,hjn,hj,hp,u0,u3,u4,u5,unx,hSo'⟩
  clear v0 v3 v4 hSo
  obtain ⟨g1,g2,g3,g4⟩:=fr (show o<s.nx by omega)
  obtain ⟨_,_,g5,g6⟩:=fr (show o<s.nx+1 by omega)
  obtain ⟨_,_,g7,g8⟩:=fr (show o<s.nx+2 by omega)
  have hcr : ∀ c:Nat,c≤a.length+1→zam 8 c=true:=fun c hc=>zd1 (by omega)
  have hr1:zam 8 1=true:=by decide
  by_cases h0:0<j
  ·obtain ⟨q,rfl⟩ : ∃ q:Nat,j=q+1:=⟨j-1,by omega⟩
   have hw:=w64 (x:=(q:Int)) (by omega) (by omega)
   obtain ⟨y,hy⟩ : ∃ y,a[q]?=some y:=⟨_,List.getElem?_eq_getElem (by omega)⟩
   have hy':=zbj hy
   have hqa:q<a.length:=by omega
   by_cases hc:x<y
   ·have hp':=hp.on hy hc
    simp [-getElem?_pos,zyb,u0,u3,u4,u5,hSo',hx',h,h0,hw,hy',hqa,hc]
    exact zao q (by omega) ⟨q,rfl,by omega,hp',by simp [u0],by simp [u3],by simp [u4],by simp,by simp [unx],by simp [hSo']⟩
   ·have hp':=hp.off hy hc
    have hk1:=hcr (q+1) (by omega)
    have hk2:=zd1 (n:=q+1+1) (by omega)
    have hk3:=hcr (a.length+1) (by omega)
    have hcut:=yu0 a (q+1) (by omega)
    have hal2 : ∀ b:List Int,zdf (zac b)=true:=ybk
    have hmin:(a.take (q+1)).length=q+1:=by simp; omega
    have hdr:=ytf a (q+1)
    have hmd:(a.drop (q+1)).length=a.length-(q+1):=by simp
    have hsn:=zc3 (a.take (q+1)) x
    have hap:=yvd (a.take (q+1)++[x]) (a.drop (q+1))
    have hk4:=zd1 (n:=q+2+(a.length-(q+1))) (by omega)
    have hin:=yen hP
    rw [← hp'] at hin
    have hlen2:q+2+(a.length-(q+1))=a.length+1:=by omega
    simp [-getElem?_pos,zyb,u0,u3,u4,u5,hSo',hx',h,h0,hw,hy',hqa,hc,hj,g1,g2,g3,g4,g5,g6,g7,g8,hr1,hk1,hk2,hk3,hcut,hal2,hmin,hdr,hmd,hsn,hap,hk4,hlen2]
    refine zao (n-1) (by omega) ⟨i+1,s.nx+2+2,s.ep,a.take (q+1)++x::a.drop (q+1),by omega,by rw [hft,hin],by simp; omega,by simp [u0],by simp; omega,by simp [hws],by simp,by simp⟩
  ·have h0':j=0:=by omega
   subst h0'
   have hp':=hp.z
   have hk0:=hcr 0 (by omega)
   have hk3:=hcr (a.length+1) (by omega)
   have hcut:(if 0=a.length then zac a else [])=([]:List (List PV)):=by
    split
    ·rename_i e
     have:a=[]:=List.length_eq_zero_iff.mp e.symm
     subst this; rfl
    ·rfl
   have hal2 : ∀ b:List Int,zdf (zac b)=true:=ybk
   have hin:=yen hP
   rw [← hp'] at hin
   have hcons:[iv x]::zac a=zac (x::a):=rfl
   have hk4:=hcr (1+a.length) (by omega)
   have hk5:=hcr (a.length+1) (by omega)
   simp [-getElem?_pos,zyb,u0,u3,u4,u5,hSo',hx',h,g1,g2,g3,g4,g5,g6,g7,g8,hr1,hk0,hk3,hcut,hal2,hcons,hk4,hk5]
   refine zao (n-1) (by omega) ⟨i+1,s.nx+2+2,s.ep,x::a,by omega,by rw [hft,hin]; simp,by (try simp); try omega,by simp [u0],by (try simp); try omega,by simp [hws],by simp,by simp⟩
 ·simp at h
  have e1:i=l.length:=by omega
  rw [e1,List.take_length] at ha
  simp [-getElem?_pos,v3,hSo,zqv,← ha]
structure Ta where
 ns:List ByteArray
 nm:ByteArray
 rw:List (List Int)
 lb:List Int
abbrev taS (q:Bool) (t:Ta):PV := .agg [.sl 1 (zc5 t.ns),.v (.string t.nm),.sl 1 (rws q t.rw),.sl 1 (zac t.lb)]
abbrev taO (t:Ta):PV := .agg [.own 1 (zc5 t.ns),.v (.string t.nm),.own 1 (rws true t.rw),.own 1 (zac t.lb)]
structure TaL (n:Nat) (t:Ta):Prop where
 ns:t.ns.length≤n
 ss : ∀ x∈t.ns,x.size≤n
 nm:t.nm.size≤n
 rw:t.rw.length≤n
 rr : ∀ l∈t.rw,l.length≤n
 lb:t.lb.length≤n
structure Sl where
 n:Int
 g:Int
deriving DecidableEq
def slc (x:Sl):List PV:=[iv x.n,iv x.g]
def za7 (l:List Sl):List (List PV):=l.map slc
@[simp] theorem qdd (l:List Sl):(za7 l).length=l.length:=by simp [za7]
theorem zkc {l:List Sl} {i:Nat} {x:Sl} (h:l[i]?=some x):(za7 l)[i]?=some [iv x.n,iv x.g]:=by simp [za7,h,slc]
theorem yeq (l:List Sl) (i:Nat) (a b:Int):(za7 l).set i [iv a,iv b]=za7 (l.set i ⟨a,b⟩):=by simp [za7,List.map_set,slc]
def slI (x:Sl):Prop:=inI x.n∧inI x.g
def zbc (a b:Sl):Sl×Bool:=if ((adi a.n b.n).2 && (adi a.g b.g).2)=true then (⟨(adi a.n b.n).1,(adi a.g b.g).1⟩,true) else (⟨0,0⟩,false)
theorem zj8 {a b:Sl} (h:slI a):slI (zbc a b).1:=by
 unfold zbc
 split
 ·exact ⟨yai h.1,yai h.2⟩
 ·unfold slI inI; simp
theorem z0l (a b:Sl) (ha:slI a) (hb:slI b):RUN T zjk [.agg (slc a),.agg (slc b)]=some ([.agg (slc (zbc a b).1),bv (zbc a b).2],[]):=by
 refine zai z5r rfl ?_
 have e1:=z7k a.n b.n ha.1 hb.1
 have e2:=z7k a.g b.g ha.2 hb.2
 unfold zbc
 generalize adi a.n b.n=x at *
 generalize adi a.g b.g=y at *
 obtain ⟨x,xb⟩:=x
 obtain ⟨y,yb⟩:=y
 simp only at e1 e2 ⊢
 cases xb <;> cases yb <;> simp [zws,zwt,e1,e2,slc]
theorem z0m (a b:Sl) (ha:slI a) (hb:slI b):RUN T zjl [.agg (slc a),.agg (slc b)]=some ([.agg (slc (zbc a b).1),bv (zbc a b).2],[]):=by
 refine zai z5u rfl ?_
 have e1:=z7l a.n b.n ha.1 hb.1
 have e2:=z7l a.g b.g ha.2 hb.2
 unfold zbc
 generalize adi a.n b.n=x at *
 generalize adi a.g b.g=y at *
 obtain ⟨x,xb⟩:=x
 obtain ⟨y,yb⟩:=y
 simp only at e1 e2 ⊢
 cases xb <;> cases yb <;> simp [zww,zwx,e1,e2,slc]
def atI {α:Type} (l:List α) (i:Int):Option α:=if 0≤i then l[i.toNat]? else none
theorem zf3 {α:Type} {l:List α} {i:Int} {x:α} (h:atI l i=some x) : ∃ j:Nat,i=j∧l[j]?=some x∧j<l.length:=by
 unfold atI at h
 split at h
 ·refine ⟨i.toNat,by omega,h,?_⟩
  rcases Nat.lt_or_ge i.toNat l.length with h' | h'
  ·exact h'
  ·rw [List.getElem?_eq_none (by omega)] at h; cases h
 ·cases h
theorem zi4 {α:Type} {l:List α} {i:Int} (h:atI l i=none):i<0∨(l.length:Int)≤i:=by
 unfold atI at h
 split at h
 ·right
  rcases Nat.lt_or_ge i.toNat l.length with h' | h'
  ·rw [List.getElem?_eq_getElem h'] at h; cases h
  ·omega
 ·omega
def zb3 (b g:List Int):List Int→List Sl→Option (List Sl)
 | [],h=>some h
 | r::rs,h=>match atI b r,atI g r with
  | some x,some y=>match atI h x with
   | some s=>if (zbc s ⟨1,y⟩).2=true then zb3 b g rs (h.set x.toNat (zbc s ⟨1,y⟩).1) else none
   | none=>none
  | _,_=>none
def zb9 (b g rows:List Int) (k:Int):List Sl×Bool:=if zaj k 1 8=true then match zb3 b g rows (List.replicate k.toNat ⟨0,0⟩) with
  | some h=>(h,true)
  | none=>([],false)
 else ([],false)
theorem yc3 (n:Nat):za7 (List.replicate n ⟨0,0⟩)=List.replicate n [iv 0,iv 0]:=by simp [za7,slc]
set_option maxHeartbeats 2000000 in
theorem ynj (b g rows:List Int) (k:Int) (hb:b.length≤1048576) (hg:g.length≤1048576) (hr:rows.length≤1048576) (hgi : ∀ x∈g,inI x):RUN T zn5 [.sl 1 (zac b),.sl 1 (zac g),.sl 1 (zac rows),iv k]=some ([.own 2 (za7 (zb9 b g rows k).1),bv (zb9 b g rows k).2],[]):=by
 refine zai z4w rfl ?_
 cases hk:zaj k 1 8 with
 | false =>
  have e:=zdx k 1 8
  rw [hk] at e
  have e2:zb9 b g rows k=([],false):=by unfold zb9; rw [hk]; rfl
  rw [e2]
  simp [-getElem?_pos,zrm,zrn,-zcz,e,za7]
 | true =>
  have e:=zdx k 1 8
  rw [hk] at e
  have hk':=zbb.mp hk
  obtain ⟨kn,rfl⟩ : ∃ n:Nat,k=n:=⟨k.toNat,by omega⟩
  have hro:zam 16 kn=true:=by simp [zam]; omega
  obtain ⟨R,hR⟩ : ∃ R,R=zb9 b g rows kn:=⟨_,rfl⟩
  have hR':R=match zb3 b g rows (List.replicate kn ⟨0,0⟩) with
   | some h=>(h,true)
   | none=>([],false):=by rw [hR]; unfold zb9; rw [if_pos hk]; simp
  rw [← hR]
  clear hR
  simp [-getElem?_pos,zrm,zrn,-zcz,e,hro]
  refine za3 (fun n st => ∃ (i:Nat) (h:List Sl),i+n=rows.length∧h.length=kn∧(∀ s∈h,slI s)∧zb3 b g (rows.drop i) h=zb3 b g rows (List.replicate kn ⟨0,0⟩)∧st.V 0 = .sl 1 (zac b)∧st.V 1 = .sl 1 (zac g)∧st.V 3=iv kn∧st.V 10 = .ref 0 none 0 0 kn∧st.V 20 = .sl 1 (zac rows)∧st.V 21=iv rows.length∧st.V 22=iv i∧0<st.nx∧st.S 0=some (.row 2 (za7 h))) ?_ rows.length _ ⟨0,List.replicate kn ⟨0,0⟩,by omega,by simp,?_,by simp,by simp,by simp,by simp,by simp,by simp,by simp,by simp,by simp,by simp [yc3]⟩
  ·rintro n st ⟨i,h,hi,hhl,hhi,hh,v0,v1,v3,v10,v20,v21,v22,hnx,hS⟩
   obtain ⟨z1,z2,z3,z4⟩:=fr hnx
   by_cases hlt:i<rows.length
   ·obtain ⟨r,hrr⟩ : ∃ r,rows[i]?=some r:=⟨_,List.getElem?_eq_getElem hlt⟩
    have hr':=zbj hrr
    have hws:=wS hlt (by omega:rows.length≤9223372036854775807)
    have w1:=w64 (x:=min (b.length:Int) g.length-1) (by omega) (by omega)
    have w2:=w64 (x:=(kn:Int)-1) (by omega) (by omega)
    have e1:=zdx r 0 (min (b.length:Int) g.length-1)
    rw [zfr hrr,zb3] at hh
    cases hbx:atI b r with
    | none =>
     rw [hbx] at hh
     have hn:=zi4 hbx
     have:zaj r 0 (min (b.length:Int) g.length-1)=false:=by
      cases hw:zaj r 0 (min (b.length:Int) g.length-1) with
      | false=>rfl
      | true=>have:=zbb.mp hw; omega
     rw [this] at e1
     rw [← hh] at hR'
     subst hR'
     simp [-getElem?_pos,zl7,-zcz,v0,v1,v3,v10,v20,v21,v22,hS,hlt,hr',w1,e1,za7]
    | some x =>
     obtain ⟨rn,rfl,hbr,hbl⟩:=zf3 hbx
     cases hgy:atI g rn with
     | none =>
      rw [hbx,hgy] at hh
      have hn:=zi4 hgy
      have:zaj rn 0 (min (b.length:Int) g.length-1)=false:=by
       cases hw:zaj rn 0 (min (b.length:Int) g.length-1) with
       | false=>rfl
       | true=>have:=zbb.mp hw; omega
      rw [this] at e1
      rw [← hh] at hR'
      subst hR'
      simp [-getElem?_pos,zl7,-zcz,v0,v1,v3,v10,v20,v21,v22,hS,hlt,hr',w1,e1,za7]
     | some y =>
      obtain ⟨rn',hrn,hgr,hgl⟩:=zf3 hgy
      have:rn'=rn:=by omega
      subst this
      have:zaj rn' 0 (min (b.length:Int) g.length-1)=true:=zbb.mpr (by omega)
      rw [this] at e1
      rw [hbx,hgy] at hh
      simp only at hh
      have hb':=zbj hbr
      have hg':=zbj hgr
      have e2:=zdx x 0 ((kn:Int)-1)
      cases hhx:atI h x with
      | none =>
       rw [hhx] at hh
       have hn:=zi4 hhx
       have:zaj x 0 ((kn:Int)-1)=false:=by
        cases hw:zaj x 0 ((kn:Int)-1) with
        | false=>rfl
        | true=>have:=zbb.mp hw; omega
       rw [this] at e2
       simp only at hh
       rw [← hh] at hR'
       subst hR'
       simp [-getElem?_pos,zl7,-zcz,v0,v1,v3,v10,v20,v21,v22,hS,hlt,hr',hb',hbl,w1,w2,e1,e2,za7]
      | some s =>
       obtain ⟨xn,rfl,hhs,hhl2⟩:=zf3 hhx
       have:zaj xn 0 ((kn:Int)-1)=true:=zbb.mpr (by omega)
       rw [this] at e2
       rw [hhx] at hh
       have hs':=zkc hhs
       have hsi:=hhi s (List.mem_of_getElem? hhs)
       have hyi:=hgi y (List.mem_of_getElem? hgr)
       have hpi:=zj8 (b:=⟨1,y⟩) hsi
       have e3:=z0l s ⟨1,y⟩ hsi ⟨by unfold inI; simp,hyi⟩
       simp only [Int.toNat_natCast] at hh
       have hxk:xn<kn:=by omega
       generalize zbc s ⟨1,y⟩=p at *
       obtain ⟨⟨pn,pg⟩,pb⟩:=p
       simp only [slc] at e3 hh
       cases pb with
       | false =>
        rw [if_neg (by simp)] at hh
        rw [← hh] at hR'
        subst hR'
        simp [-getElem?_pos,zl7,-zcz,v0,v1,v3,v10,v20,v21,v22,hS,hlt,hr',hb',hbl,hg',hgl,hs',hxk,hhl,w1,w2,e1,e2,e3,z1,z2,z3,z4]
        simp [za7]
       | true =>
        rw [if_pos rfl] at hh
        have hset:=yeq h xn pn pg
        simp [-getElem?_pos,zl7,-zcz,v0,v1,v3,v10,v20,v21,v22,hS,hlt,hr',hb',hbl,hg',hgl,hs',hxk,hhl,w1,w2,e1,e2,e3,hws,hset,z1,z2,z3,z4]
        refine zao (n-1) (by omega) ⟨i+1,h.set xn ⟨pn,pg⟩,by omega,by simp [hhl],fun q hq => ?_,hh,by simp [v0],by simp [v1],by simp [v3],by simp [v10],by simp [v20],by simp [v21],by simp,by simp,by simp⟩
        rcases List.mem_or_eq_of_mem_set hq with h' | h'
        ·exact hhi q h'
        ·subst h'; exact hpi
   ·rw [List.drop_eq_nil_of_le (by omega),zb3] at hh
    rw [← hh] at hR'
    subst hR'
    simp [-getElem?_pos,zl7,v10,v21,v22,hS,hlt,hhl]
  ·intro s hs
   have:=List.eq_of_mem_replicate hs
   subst this
   exact ⟨by unfold inI; simp,by unfold inI; simp⟩
set_option maxHeartbeats 2000000 in
theorem ynk (b g rows:List Int) (k:Int) (hb:b.length≤1048576) (hg:g.length≤1048576) (hr:rows.length≤1048576) (hgi : ∀ x∈g,inI x):RUN T zn8 [.sl 1 (zac b),.sl 1 (zac g),.sl 1 (zac rows),iv k]=some ([.own 2 (za7 (zb9 b g rows k).1),bv (zb9 b g rows k).2],[]):=by
 refine zai z40 rfl ?_
 cases hk:zaj k 1 8 with
 | false =>
  have e:=za9 k 1 8
  rw [hk] at e
  have e2:zb9 b g rows k=([],false):=by unfold zb9; rw [hk]; rfl
  rw [e2]
  simp [-getElem?_pos,zro,zrp,-zay,e,za7]
 | true =>
  have e:=za9 k 1 8
  rw [hk] at e
  have hk':=zbb.mp hk
  obtain ⟨kn,rfl⟩ : ∃ n:Nat,k=n:=⟨k.toNat,by omega⟩
  have hro:zam 16 kn=true:=by simp [zam]; omega
  have hr0:zam 16 0=true:=by decide
  obtain ⟨R,hR⟩ : ∃ R,R=zb9 b g rows kn:=⟨_,rfl⟩
  have hR':R=match zb3 b g rows (List.replicate kn ⟨0,0⟩) with
   | some h=>(h,true)
   | none=>([],false):=by rw [hR]; unfold zb9; rw [if_pos hk]; simp
  rw [← hR]
  clear hR
  simp [-getElem?_pos,zro,zrp,-zay,e,hro,hr0]
  refine za3 (fun n st => ∃ (i:Nat) (h:List Sl),i+n=rows.length∧h.length=kn∧(∀ s∈h,slI s)∧zb3 b g (rows.drop i) h=zb3 b g rows (List.replicate kn ⟨0,0⟩)∧st.V 0 = .sl 1 (zac b)∧st.V 1 = .sl 1 (zac g)∧st.V 2 = .sl 1 (zac rows)∧st.V 3=iv kn∧st.V 10 = .ref 0 none 0 0 0∧st.V 11 = .ref 1 none 0 0 kn∧st.V 12=iv i∧1<st.nx∧st.S 0=some (.row 2 [])∧st.S 1=some (.row 2 (za7 h))) ?_ rows.length _ ⟨0,List.replicate kn ⟨0,0⟩,by omega,by simp,?_,by simp,by simp,by simp,by simp,by simp,by simp,by simp,by simp,by simp,by simp,by simp [yc3]⟩
  ·rintro n st ⟨i,h,hi,hhl,hhi,hh,v0,v1,v2,v3,v10,v11,v12,hnx,hS0,hS⟩
   obtain ⟨z1,z2,z3,z4⟩:=fr hnx
   obtain ⟨y1,y2,y3,y4⟩:=fr (show 0<st.nx by omega)
   by_cases hlt:i<rows.length
   ·obtain ⟨r,hrr⟩ : ∃ r,rows[i]?=some r:=⟨_,List.getElem?_eq_getElem hlt⟩
    have hr':=zbj hrr
    have hws:=wS hlt (by omega:rows.length≤9223372036854775807)
    have w1:=w64 (x:=(b.length:Int)-1) (by omega) (by omega)
    have w1':=w64 (x:=(g.length:Int)-1) (by omega) (by omega)
    have w2:=w64 (x:=(kn:Int)-1) (by omega) (by omega)
    have e1:=za9 r 0 ((b.length:Int)-1)
    have e1':=za9 r 0 ((g.length:Int)-1)
    rw [zfr hrr,zb3] at hh
    cases hbx:atI b r with
    | none =>
     rw [hbx] at hh
     have hn:=zi4 hbx
     have:zaj r 0 ((b.length:Int)-1)=false:=by
      cases hw:zaj r 0 ((b.length:Int)-1) with
      | false=>rfl
      | true=>have:=zbb.mp hw; omega
     rw [this] at e1
     rw [← hh] at hR'
     subst hR'
     simp [-getElem?_pos,zl8,-zay,v0,v1,v2,v3,v10,v11,v12,hS0,hS,hlt,hr',w1,e1,za7]
    | some x =>
     obtain ⟨rn,rfl,hbr,hbl⟩:=zf3 hbx
     cases hgy:atI g rn with
     | none =>
      rw [hbx,hgy] at hh
      have hn:=zi4 hgy
      have:zaj rn 0 ((g.length:Int)-1)=false:=by
       cases hw:zaj rn 0 ((g.length:Int)-1) with
       | false=>rfl
       | true=>have:=zbb.mp hw; omega
      rw [this] at e1'
      rw [show zaj rn 0 ((b.length:Int)-1)=true from zbb.mpr (by omega)] at e1
      rw [← hh] at hR'
      subst hR'
      simp [-getElem?_pos,zl8,-zay,v0,v1,v2,v3,v10,v11,v12,hS0,hS,hlt,hr',w1,w1',e1,e1',za7]
     | some y =>
      obtain ⟨rn',hrn,hgr,hgl⟩:=zf3 hgy
      have:rn'=rn:=by omega
      subst this
      rw [show zaj rn' 0 ((b.length:Int)-1)=true from zbb.mpr (by omega)] at e1
      rw [show zaj rn' 0 ((g.length:Int)-1)=true from zbb.mpr (by omega)] at e1'
      rw [hbx,hgy] at hh
      simp only at hh
      have hb':=zbj hbr
      have hg':=zbj hgr
      have e2:=za9 x 0 ((kn:Int)-1)
      cases hhx:atI h x with
      | none =>
       rw [hhx] at hh
       have hn:=zi4 hhx
       have:zaj x 0 ((kn:Int)-1)=false:=by
        cases hw:zaj x 0 ((kn:Int)-1) with
        | false=>rfl
        | true=>have:=zbb.mp hw; omega
       rw [this] at e2
       simp only at hh
       rw [← hh] at hR'
       subst hR'
       simp [-getElem?_pos,zl8,-zay,v0,v1,v2,v3,v10,v11,v12,hS0,hS,hlt,hr',hb',hbl,w1,w1',w2,e1,e1',e2,za7]
      | some s =>
       obtain ⟨xn,rfl,hhs,hhl2⟩:=zf3 hhx
       have:zaj xn 0 ((kn:Int)-1)=true:=zbb.mpr (by omega)
       rw [this] at e2
       rw [hhx] at hh
       have hs':=zkc hhs
       have hsi:=hhi s (List.mem_of_getElem? hhs)
       have hyi:=hgi y (List.mem_of_getElem? hgr)
       have hpi:=zj8 (b:=⟨1,y⟩) hsi
       have e3:=z0m s ⟨1,y⟩ hsi ⟨by unfold inI; simp,hyi⟩
       simp only [Int.toNat_natCast] at hh
       have hxk:xn<kn:=by omega
       generalize zbc s ⟨1,y⟩=p at *
       obtain ⟨⟨pn,pg⟩,pb⟩:=p
       simp only [slc] at e3 hh
       cases pb with
       | false =>
        rw [if_neg (by simp)] at hh
        rw [← hh] at hR'
        subst hR'
        simp [-getElem?_pos,zl8,-zay,v0,v1,v2,v3,v10,v11,v12,hS0,hS,hlt,hr',hb',hbl,hg',hgl,hs',hxk,hhl,w1,w1',w2,e1,e1',e2,e3,z1,z2,z3,z4,y1,y2,y3,y4]
        simp [za7]
       | true =>
        rw [if_pos rfl] at hh
        have hset:=yeq h xn pn pg
        simp [-getElem?_pos,zl8,-zay,v0,v1,v2,v3,v10,v11,v12,hS0,hS,hlt,hr',hb',hbl,hg',hgl,hs',hxk,hhl,w1,w1',w2,e1,e1',e2,e3,hws,hset,z1,z2,z3,z4,y1,y2,y3,y4]
        refine zao (n-1) (by omega) ⟨i+1,h.set xn ⟨pn,pg⟩,by omega,by simp [hhl],fun q hq => ?_,hh,by simp [v0],by simp [v1],by simp [v2],by simp [v3],by simp [v10],by simp [v11],by simp,by simp; omega,by simp [y1,y2,y3,y4,z1,z2,z3,z4,hS0],by simp⟩
        rcases List.mem_or_eq_of_mem_set hq with h' | h'
        ·exact hhi q h'
        ·subst h'; exact hpi
   ·rw [List.drop_eq_nil_of_le (by omega),zb3] at hh
    rw [← hh] at hR'
    subst hR'
    simp [-getElem?_pos,zl8,v2,v11,v12,hS,hlt,hhl]
  ·intro s hs
   have:=List.eq_of_mem_replicate hs
   subst this
   exact ⟨by unfold inI; simp,by unfold inI; simp⟩
def zsm (q:Bool) (l:List Sl):PV:=if q then .own 2 (za7 l) else .sl 2 (za7 l)
@[simp] theorem y5w (q:Bool) (l:List Sl):fz (zsm q l) = .sl 2 (za7 l):=by cases q <;> simp [zsm]
def rss (q:Bool) (H:List (List Sl)):List (List PV):=H.map fun l=>[zsm q l]
@[simp] theorem y6i (q:Bool) (H:List (List Sl)):(rss q H).length=H.length:=by simp [rss]
theorem z8r {q:Bool} {H:List (List Sl)} {i:Nat} {l:List Sl} (h:H[i]?=some l):(rss q H)[i]?=some [zsm q l]:=by simp [rss,h]
theorem z8y (H:List (List Sl)) (l:List Sl):rss true H++[[.own 2 (za7 l)]]=rss true (H++[l]):=by simp [rss,zsm]
def zb2 (g rows:List Int):List (List Int)→List (List Int)→Option (List (List Sl))
 | x::c,y::v=>if (zb9 y g rows (x.length+1)).2=true then (zb2 g rows c v).map ((zb9 y g rows (x.length+1)).1 :: ·) else none
 | _,_=>some []
def zbu (c v:List (List Int)) (g rows:List Int):List (List Sl)×Bool:=if zdq c v=true then match zb2 g rows c v with
  | some h=>(h,true)
  | none=>([],false)
 else ([],false)
theorem ybi {g rows:List Int} {c v:List (List Int)} {i:Nat} {x y:List Int} (hx:c[i]?=some x) (hy:v[i]?=some y):zb2 g rows (c.drop i) (v.drop i)=if (zb9 y g rows (x.length+1)).2=true then (zb2 g rows (c.drop (i+1)) (v.drop (i+1))).map ((zb9 y g rows (x.length+1)).1 :: ·) else none:=by
 rw [zfr hx,zfr hy,zb2]
theorem yea {g rows:List Int} {v:List (List Int)}:zb2 g rows [] v=some []:=by simp [zb2]
theorem ybh {b g:List Int} : ∀ (rows:List Int) (h h':List Sl),zb3 b g rows h=some h'→h'.length=h.length
 | [],h,h',e=>by simp [zb3] at e; subst e; rfl
 | r::rs,h,h',e=>by
  simp only [zb3] at e
  split at e
  ·split at e
   ·split at e
    ·have:=ybh rs _ _ e
     simpa using this
    ·cases e
   ·cases e
  ·cases e
theorem yql (b g rows:List Int) (k:Int):(zb9 b g rows k).1.length≤8:=by
 unfold zb9
 split
 ·rename_i hk
  have:=zbb.mp hk
  cases h:zb3 b g rows (List.replicate k.toNat ⟨0,0⟩) with
  | none=>simp
  | some h'=>have:=ybh _ _ _ h; simp at this; simp; omega
 ·simp
theorem ych {g rows:List Int} : ∀ (c v:List (List Int)) (H:List (List Sl)),zb2 g rows c v=some H→H.length≤c.length∧∀ l∈H,l.length≤8
 | [],v,H,h=>by simp [zb2] at h; subst h; simp
 | x::c,[],H,h=>by simp [zb2] at h; subst h; simp
 | x::c,y::v,H,h=>by
  simp only [zb2] at h
  split at h
  ·simp only [Option.map_eq_some_iff] at h
   obtain ⟨H',h1,rfl⟩:=h
   obtain ⟨h2,h3⟩:=ych c v H' h1
   refine ⟨by simp; omega,fun l hl => ?_⟩
   rcases List.mem_cons.mp hl with e | e
   ·subst e; exact yql _ _ _ _
   ·exact h3 l e
  ·cases h
theorem zqh (c v:List (List Int)) (g rows:List Int):(zbu c v g rows).1.length≤c.length∧∀ l∈(zbu c v g rows).1,l.length≤8:=by
 unfold zbu
 split
 ·cases h:zb2 g rows c v with
  | none=>simp
  | some H=>exact ych c v H h
 ·simp
theorem z1p {c v:List (List Int)} (h:zdq c v=true):v.length=c.length∧c.length≤4:=by
 unfold zdq at h
 simp only [Bool.and_eq_true,decide_eq_true_eq] at h
 have:=zbb.mp h.1.1.1
 omega
set_option maxHeartbeats 2000000 in
theorem ynl (q:Bool) (c v:List (List Int)) (g rows:List Int) (hc : ∀ l∈c,l.length≤1048576) (hv : ∀ l∈v,l.length≤1048576) (hg:g.length≤1048576) (hr:rows.length≤1048576) (hgi : ∀ x∈g,inI x):RUN T znm [.agg [.sl 1 (rws q c),.sl 1 (rws q v)],.sl 1 (zac g),.sl 1 (zac rows)]=some ([.own 1 (rss true (zbu c v g rows).1),bv (zbu c v g rows).2],[]):=by
 refine zai z3y rfl ?_
 have e:=z7i q c v (fun l hl=>Nat.le_trans (hc l hl) (by omega)) (fun l hl=>Nat.le_trans (hv l hl) (by omega))
 cases hk:zdq c v with
 | false =>
  rw [hk] at e
  have e2:zbu c v g rows=([],false):=by unfold zbu; rw [hk]; rfl
  rw [e2]
  simp [-getElem?_pos,zq1,zq2,e,rss]
 | true =>
  rw [hk] at e
  obtain ⟨hvc,hc4⟩:=z1p hk
  obtain ⟨R,hR⟩ : ∃ R,R=zbu c v g rows:=⟨_,rfl⟩
  have hR':R=match zb2 g rows c v with
   | some h=>(h,true)
   | none=>([],false):=by rw [hR]; unfold zbu; rw [if_pos hk]
  rw [← hR]
  clear hR
  have hr0:zam 24 0=true:=by decide
  have hr1:zam 24 1=true:=by decide
  simp [-getElem?_pos,zq1,zq2,e,hr0]
  refine za3 (fun n st => ∃ (i o e:Nat) (H:List (List Sl)),i+n=c.length∧H.length=i∧zb2 g rows c v=(zb2 g rows (c.drop i) (v.drop i)).map (H ++ ·)∧st.V 1 = .sl 1 (zac g)∧st.V 2 = .sl 1 (zac rows)∧st.V 3 = .ptr 0 none 0 0 0∧st.V 8 = .ref o none e 0 H.length∧st.V 18 = .sl 1 (rws q c)∧st.V 19=iv c.length∧st.V 20=iv i∧0<o∧o<st.nx∧st.S 0=some (.box [.sl 1 (rws q c),.sl 1 (rws q v)])∧st.S o=some (.row 1 (rss true H))) ?_ c.length _ ⟨0,1,0,[],by simp [rss]⟩
  rintro n st ⟨i,o,ep,H,hi,hH,hL,v1,v2,v3,v8,v18,v19,v20,ho,hox,hS,hSo⟩
  obtain ⟨x1,x2,x3,x4⟩:=fr hox
  obtain ⟨g1,g2,g3,g4⟩:=fr ho
  obtain ⟨z1,z2,z3,z4⟩:=fr (show 0<st.nx by omega)
  by_cases hlt:i<c.length
  ·obtain ⟨x,hx⟩ : ∃ x,c[i]?=some x:=⟨_,List.getElem?_eq_getElem hlt⟩
   obtain ⟨y,hy⟩ : ∃ y,v[i]?=some y:=⟨_,List.getElem?_eq_getElem (by omega)⟩
   have hx':=ze9 (q:=q) hx
   have hy':=ze9 (q:=q) hy
   have hiv:i<v.length:=by omega
   have hxl:=hc x (List.mem_of_getElem? hx)
   have hws:=wS hlt (by omega:c.length≤9223372036854775807)
   have hwl:=w64 (x:=(x.length:Int)+1) (by omega) (by omega)
   have hh:=ynj y g rows (x.length+1) (hv y (List.mem_of_getElem? hy)) hg hr hgi
   have hr24:zam 24 (H.length+1)=true:=by simp [zam]; omega
   rw [ybi hx hy] at hL
   generalize zb9 y g rows (x.length+1)=p at *
   obtain ⟨ph,pb⟩:=p
   simp only at hh hL
   cases pb with
   | false =>
    rw [if_neg (by simp)] at hL
    rw [hL] at hR'
    subst hR'
    simp [-getElem?_pos,zt7,v1,v2,v3,v8,v18,v19,v20,hS,hSo,hlt,hiv,hx',hy',hwl,hh,rss,x1,x2,x3,x4,g1,g2,g3,g4,z1,z2,z3,z4]
   | true =>
    rw [if_pos rfl] at hL
    have hsn:=z8y H ph
    simp [-getElem?_pos,zt7,v1,v2,v3,v8,v18,v19,v20,hS,hSo,hlt,hiv,hx',hy',hwl,hws,hh,hr1,hr24,hsn,x1,x2,x3,x4,g1,g2,g3,g4,z1,z2,z3,z4]
    exact zao (n-1) (by omega) ⟨i+1,st.nx+2,st.ep,H++[ph],by omega,by simp [hH],by rw [hL]; cases zb2 g rows (c.drop (i+1)) (v.drop (i+1)) <;> simp,by simp [v1],by simp [v2],by simp [v3],by simp,by simp [v18],by simp [v19],by simp,by omega,by simp,by simp [x1,x2,x3,x4,g1,g2,g3,g4,z1,z2,z3,z4,hS],by simp⟩
  ·have h0:c.drop i=[]:=List.drop_eq_nil_of_le (by omega)
   rw [h0,yea] at hL
   rw [hL] at hR'
   simp only [Option.map_some,List.append_nil] at hR'
   subst hR'
   simp [-getElem?_pos,zt7,v8,v19,v20,hSo,hlt]
set_option maxHeartbeats 2000000 in
theorem ynm (q:Bool) (c v:List (List Int)) (g rows:List Int) (hc : ∀ l∈c,l.length≤1048576) (hv : ∀ l∈v,l.length≤1048576) (hg:g.length≤1048576) (hr:rows.length≤1048576) (hgi : ∀ x∈g,inI x):RUN T znp [.agg [.sl 1 (rws q c),.sl 1 (rws q v)],.sl 1 (zac g),.sl 1 (zac rows)]=some ([.own 1 (rss true (zbu c v g rows).1),bv (zbu c v g rows).2],[]):=by
 refine zai z31 rfl ?_
 have e:=z7j q c v (fun l hl=>Nat.le_trans (hc l hl) (by omega)) (fun l hl=>Nat.le_trans (hv l hl) (by omega))
 cases hk:zdq c v with
 | false =>
  rw [hk] at e
  have e2:zbu c v g rows=([],false):=by unfold zbu; rw [hk]; rfl
  rw [e2]
  have hr0:zam 24 0=true:=by decide
  simp [-getElem?_pos,zq3,zq4,e,hr0,rss]
 | true =>
  rw [hk] at e
  obtain ⟨hvc,hc4⟩:=z1p hk
  obtain ⟨R,hR⟩ : ∃ R,R=zbu c v g rows:=⟨_,rfl⟩
  have hR':R=match zb2 g rows c v with
   | some h=>(h,true)
   | none=>([],false):=by rw [hR]; unfold zbu; rw [if_pos hk]
  rw [← hR]
  clear hR
  have hr0:zam 24 0=true:=by decide
  have hr1:zam 24 1=true:=by decide
  simp [-getElem?_pos,zq3,zq4,e,hr0]
  refine za3 (fun n st => ∃ (i o e:Nat) (H:List (List Sl)),i+n=c.length∧H.length=i∧zb2 g rows c v=(zb2 g rows (c.drop i) (v.drop i)).map (H ++ ·)∧st.V 1 = .sl 1 (zac g)∧st.V 2 = .sl 1 (zac rows)∧st.V 3 = .ptr 0 none 0 0 0∧st.V 8 = .ref o none e 0 H.length∧st.V 9=iv i∧0<o∧o<st.nx∧st.S 0=some (.box [.sl 1 (rws q c),.sl 1 (rws q v)])∧st.S o=some (.row 1 (rss true H))) ?_ c.length _ ⟨0,1,0,[],by simp [rss]⟩
  rintro n st ⟨i,o,ep,H,hi,hH,hL,v1,v2,v3,v8,v9,ho,hox,hS,hSo⟩
  obtain ⟨x1,x2,x3,x4⟩:=fr hox
  obtain ⟨g1,g2,g3,g4⟩:=fr ho
  obtain ⟨z1,z2,z3,z4⟩:=fr (show 0<st.nx by omega)
  by_cases hlt:i<c.length
  ·obtain ⟨x,hx⟩ : ∃ x,c[i]?=some x:=⟨_,List.getElem?_eq_getElem hlt⟩
   obtain ⟨y,hy⟩ : ∃ y,v[i]?=some y:=⟨_,List.getElem?_eq_getElem (by omega)⟩
   have hx':=ze9 (q:=q) hx
   have hy':=ze9 (q:=q) hy
   have hiv:i<v.length:=by omega
   have hxl:=hc x (List.mem_of_getElem? hx)
   have hws:=wS hlt (by omega:c.length≤9223372036854775807)
   have hwl:=w64 (x:=(x.length:Int)+1) (by omega) (by omega)
   have hh:=ynk y g rows (x.length+1) (hv y (List.mem_of_getElem? hy)) hg hr hgi
   have hr24:zam 24 (H.length+1)=true:=by simp [zam]; omega
   rw [ybi hx hy] at hL
   generalize zb9 y g rows (x.length+1)=p at *
   obtain ⟨ph,pb⟩:=p
   simp only at hh hL
   cases pb with
   | false =>
    rw [if_neg (by simp)] at hL
    rw [hL] at hR'
    subst hR'
    simp [-getElem?_pos,zue,v1,v2,v3,v8,v9,hr0,hS,hSo,hlt,hiv,hx',hy',hwl,hh,rss,x1,x2,x3,x4,g1,g2,g3,g4,z1,z2,z3,z4]
   | true =>
    rw [if_pos rfl] at hL
    have hsn:=z8y H ph
    simp [-getElem?_pos,zue,v1,v2,v3,v8,v9,hr0,hS,hSo,hlt,hiv,hx',hy',hwl,hws,hh,hr1,hr24,hsn,x1,x2,x3,x4,g1,g2,g3,g4,z1,z2,z3,z4]
    exact zao (n-1) (by omega) ⟨i+1,st.nx+2,st.ep,H++[ph],by omega,by simp [hH],by rw [hL]; cases zb2 g rows (c.drop (i+1)) (v.drop (i+1)) <;> simp,by simp [v1],by simp [v2],by simp [v3],by simp,by simp,by omega,by simp,by simp [x1,x2,x3,x4,g1,g2,g3,g4,z1,z2,z3,z4,hS],by simp⟩
  ·have h0:c.drop i=[]:=List.drop_eq_nil_of_le (by omega)
   rw [h0,yea] at hL
   rw [hL] at hR'
   simp only [Option.map_some,List.append_nil] at hR'
   subst hR'
   simp [-getElem?_pos,zue,v3,v8,v9,hS,hSo,hlt]
def ydl (k:Int) (n:Nat):List Sl:=(List.range n).map fun (i:Nat)=>⟨k+2*(i:Int),k+2*(i:Int)+1⟩
@[simp] theorem y2d (k:Int) (n:Nat):(ydl k n).length=n:=by simp [ydl]
theorem z7x (x:Int):RUN T zll [iv x]=some ([bv false],[]):=by
 refine zai z62 rfl ?_
 simp [zyg,zyh]
theorem z7y (x y:Int):RUN T zlc [iv x,iv y]=some ([iv (zb6 x y)],[]):=by
 refine zai z6f rfl ?_
 have e1:=z7x x
 have e2:=z7x y
 unfold zb6
 by_cases h1:x<y
 ·simp [zpn,zpo,e1,e2,h1]
 ·by_cases h2:y<x
  ·simp [zpn,zpo,e1,e2,h1,h2]
  ·simp [zpn,zpo,e1,e2,h1,h2]
theorem ynn (a b:Wd) (ha:wfU a) (hb:wfU b):RUN T zos [.agg (wd a),.agg (wd b)]=some ([iv (zi3 a b)],[]):=by
 refine zai z52 rfl ?_
 have n1:(a.n && (decide (0<a.h) || decide (0<a.l)))=zd7 a:=by
  obtain ⟨h0,_,h1,_⟩:=ha
  unfold zd7
  congr 1
  rw [Bool.eq_iff_iff]; simp; omega
 have n2:(b.n && (decide (0<b.h) || decide (0<b.l)))=zd7 b:=by
  obtain ⟨h0,_,h1,_⟩:=hb
  unfold zd7
  congr 1
  rw [Bool.eq_iff_iff]; simp; omega
 have e1:=zsg a.n a.h a.l
 have e2:=zsg b.n b.h b.l
 rw [n1] at e1
 rw [n2] at e2
 have e3:=z0j ⟨zd7 a,a.h,a.l⟩ ⟨zd7 b,b.h,b.l⟩
 have e4:=z0j ⟨zd7 b,b.h,b.l⟩ ⟨zd7 a,a.h,a.l⟩
 have o1:zeb ⟨zd7 a,a.h,a.l⟩ ⟨zd7 b,b.h,b.l⟩=zeb a b:=rfl
 have o2:zeb ⟨zd7 b,b.h,b.l⟩ ⟨zd7 a,a.h,a.l⟩=zeb b a:=rfl
 rw [o1] at e3
 rw [o2] at e4
 clear o1 o2 n1 n2 ha hb
 unfold zi3
 generalize zeb a b=x at *
 generalize zeb b a=y at *
 generalize zd7 a=p at *
 generalize zd7 b=q at *
 obtain ⟨an,ah,al⟩:=a
 obtain ⟨bn,bh,bl⟩:=b
 simp only [wd] at e1 e2 e3 e4 ⊢
 cases p <;> cases q <;> simp [zw6,zw7,e1,e2,e3,e4]
structure Fr where
 w:Wd
 d:Int
def frc (f:Fr):List PV:=[bv f.w.n,uv f.w.h,uv f.w.l,iv f.d]
def frB (f:Fr):Bool:=wok f.w && zaj f.d 1 1000000
def zd3:Fr:=⟨za2,0⟩
def zes (w:Wd) (d:Int):Fr×Bool:=if frB ⟨w,d⟩=true then (⟨w,d⟩,true) else (zd3,false)
theorem z0n (f:Fr):RUN T zjp [.agg (frc f)]=some ([bv (frB f)],[]):=by
 refine zai z6m rfl ?_
 have e1:=zpy f.w
 have e2:=zdx f.d 1 1000000
 unfold frB
 generalize wok f.w=x at *
 generalize zaj f.d 1 1000000=y at *
 simp only [wd] at e1
 cases x <;> simp [zxx,zxy,-zcz,frc,e1,e2]
theorem zyu (f:Fr):RUN T zh6 [.agg (frc f)]=some ([bv (frB f)],[]):=by
 refine zai z6t rfl ?_
 have e1:=zpz f.w
 have e2:=za9 f.d 1 1000000
 unfold frB
 generalize wok f.w=x at *
 generalize zaj f.d 1 1000000=y at *
 simp only [wd] at e1
 cases x <;> simp [zx5,zx6,-zay,frc,e1,e2]
theorem z7z (w:Wd) (d:Int):RUN T zle [.agg (wd w),iv d]=some ([.agg (frc (zes w d).1),bv (zes w d).2],[]):=by
 refine zai z6k rfl ?_
 have e1:=z0n ⟨w,d⟩
 unfold zes
 generalize frB ⟨w,d⟩=x at *
 simp only [frc] at e1
 cases x <;> simp [zxt,zxu,wd,frc,zd3,za2,e1]
theorem yno (a d:Int) (ha:inI a):RUN T zor [iv a,iv d]=some ([.agg (frc (zes (zd0 a a) d).1),bv (zes (zd0 a a) d).2],[]):=by
 refine zai z50 rfl ?_
 have e1:=yne a a ha ha
 have e2:=z7z (zd0 a a) d
 generalize zd0 a a=m at *
 generalize zes m d=f at *
 obtain ⟨⟨fw,fd⟩,fb⟩:=f
 simp only [wd,frc] at e1 e2 ⊢
 simp [zw2,zw3,e1,e2]
theorem ynp (a d:Int) (ha:inI a):RUN T zo5 [iv a,iv d]=some ([.agg (frc (zes (zd0 a a) d).1),bv (zes (zd0 a a) d).2],[]):=by
 refine zai z6u rfl ?_
 have e1:=ynf a a ha ha
 have e2:=zyu ⟨zd0 a a,d⟩
 unfold zes
 generalize zd0 a a=m at *
 generalize frB ⟨m,d⟩=x at *
 simp only [wd,frc] at e1 e2
 cases x <;> simp [zx7,zx8,frc,zd3,za2,e1,e2]
def frI (f:Fr):Prop:=wfU f.w∧inI f.d
theorem zsn:wfU za2:=⟨by decide,by decide,by decide,by decide⟩
theorem z9a (w:Wd) (k:Int) (h:wfU w):wfU (zcv w k).1:=by
 unfold zcv
 split
 ·rename_i hc
  refine z2j ?_ (by omega)
  obtain ⟨h0,h1,h2,h3⟩:=h
  exact Int.mul_nonneg (by unfold mag; omega) (by omega)
 ·exact zsn
def zbg (a b:Fr):Wd×Wd×Bool:=if (frB a && frB b)=true then ((zcv a.w b.d).1,(zcv b.w a.d).1,(zcv a.w b.d).2 && (zcv b.w a.d).2) else (za2,za2,false)
theorem z1f (a b:Fr) (ha:wfU a.w) (hb:wfU b.w):wfU (zbg a b).1∧wfU (zbg a b).2.1:=by
 unfold zbg
 split
 ·exact ⟨z9a _ _ ha,z9a _ _ hb⟩
 ·exact ⟨zsn,zsn⟩
theorem yas {a b:Fr} (h:(zbg a b).2.2=true):(1≤a.d∧a.d≤1000000)∧1≤b.d∧b.d≤1000000:=by
 unfold zbg at h
 split at h
 ·rename_i hc
  simp only [frB,Bool.and_eq_true] at hc
  exact ⟨zbb.mp hc.1.2,zbb.mp hc.2.2⟩
 ·cases h
theorem z70 (a b:Fr) (ha:frI a) (hb:frI b):RUN T zk7 [.agg (frc a),.agg (frc b)]=some ([.agg (wd (zbg a b).1),.agg (wd (zbg a b).2.1),bv (zbg a b).2.2],[]):=by
 refine zai z51 rfl ?_
 have e1:=z0n a
 have e2:=z0n b
 have e3:=z7u a.w b.d ha.1 hb.2
 have e4:=z7u b.w a.d hb.1 ha.2
 unfold zbg
 generalize zcv a.w b.d=x at *
 generalize zcv b.w a.d=y at *
 generalize frB a=p at *
 generalize frB b=q at *
 obtain ⟨⟨an,ah,al⟩,ad⟩:=a
 obtain ⟨⟨bn,bh,bl⟩,bd⟩:=b
 obtain ⟨x,xb⟩:=x
 obtain ⟨y,yb⟩:=y
 simp only [frc,wd] at e1 e2 e3 e4 ⊢
 cases p <;> cases q <;> cases xb <;> simp [zw4,zw5,e1,e2,e3,e4,za2]
theorem z71 (a b:Fr) (ha:frI a) (hb:frI b):RUN T zk9 [.agg (frc a),.agg (frc b)]=some ([.agg (wd (zbg a b).1),.agg (wd (zbg a b).2.1),bv (zbg a b).2.2],[]):=by
 refine zai z57 rfl ?_
 have e1:=zyu a
 have e2:=zyu b
 have e3:=z7v a.w b.d ha.1 hb.2
 have e4:=z7v b.w a.d hb.1 ha.2
 unfold zbg
 generalize zcv a.w b.d=x at *
 generalize zcv b.w a.d=y at *
 generalize frB a=p at *
 generalize frB b=q at *
 obtain ⟨⟨an,ah,al⟩,ad⟩:=a
 obtain ⟨⟨bn,bh,bl⟩,bd⟩:=b
 obtain ⟨x,xb⟩:=x
 obtain ⟨y,yb⟩:=y
 simp only [frc,wd] at e1 e2 e3 e4 ⊢
 cases p <;> cases q <;> cases xb <;> simp [zxe,zxf,e1,e2,e3,e4,za2]
def zel (a b:Fr):Int×Bool:=if (zbg a b).2.2=true then (zi3 (zbg a b).1 (zbg a b).2.1,true) else (0,false)
theorem z72 (a b:Fr) (ha:frI a) (hb:frI b):RUN T zk0 [.agg (frc a),.agg (frc b)]=some ([iv (zel a b).1,bv (zel a b).2],[]):=by
 refine zai z5a rfl ?_
 have e1:=z70 a b ha hb
 obtain ⟨w1,w2⟩:=z1f a b ha.1 hb.1
 have e2:=ynn (zbg a b).1 (zbg a b).2.1 w1 w2
 unfold zel
 generalize zbg a b=r at *
 obtain ⟨x,y,o⟩:=r
 simp only at e2 ⊢
 generalize zi3 x y=z at *
 simp only [frc,wd] at e1 e2 ⊢
 cases o <;> simp [zv0,zv1,e1,e2]
theorem z73 (a b:Fr) (ha:frI a) (hb:frI b):RUN T zk5 [.agg (frc a),.agg (frc b)]=some ([iv (zel a b).1,bv (zel a b).2],[]):=by
 refine zai z5m rfl ?_
 have e1:=z71 a b ha hb
 have e2:=yni (zbg a b).1 (zbg a b).2.1
 unfold zel
 generalize zbg a b=r at *
 obtain ⟨x,y,o⟩:=r
 simp only at e2 ⊢
 generalize zi3 x y=z at *
 simp only [frc,wd] at e1 e2 ⊢
 cases o <;> simp [zwm,zwn,e1,e2]
def zgz (a b:Fr):Fr×Bool:=if (zbg a b).2.2=true then (if (zb4 (zbg a b).1 (zbg a b).2.1).2=true then zes (zb4 (zbg a b).1 (zbg a b).2.1).1 (a.d*b.d) else (zd3,false)) else (zd3,false)
theorem yeu {a b:Int} (h:(1≤a∧a≤1000000)∧1≤b∧b≤1000000):IntKind.i64.wrap (a*b)=a*b:=by
 have h1:a*b≤1000000*1000000:=Int.mul_le_mul h.1.2 h.2.2 (by omega) (by decide)
 have h2:0≤a*b:=Int.mul_nonneg (by omega) (by omega)
 exact w64 (by omega) (by omega)
theorem ynq (a b:Fr) (ha:frI a) (hb:frI b):RUN T zoq [.agg (frc a),.agg (frc b)]=some ([.agg (frc (zgz a b).1),bv (zgz a b).2],[]):=by
 refine zai z5z rfl ?_
 have e1:=z70 a b ha hb
 obtain ⟨w1,w2⟩:=z1f a b ha.1 hb.1
 have e2:=yng (zbg a b).1 (zbg a b).2.1 w1 w2
 have hok := @yas a b
 have e3:=z7z (zb4 (zbg a b).1 (zbg a b).2.1).1 (a.d*b.d)
 unfold zgz
 generalize zbg a b=r at *
 obtain ⟨x,y,o⟩:=r
 simp only at e2 e3 hok ⊢
 generalize zb4 x y=s at *
 obtain ⟨s,so⟩:=s
 simp only at e2 e3 ⊢
 cases o with
 | false =>
  simp only [frc,wd] at e1 ⊢
  simp [zr4,zr5,e1,zd3,za2]
 | true =>
  have hm:=yeu (hok rfl)
  generalize zes s (a.d*b.d)=f at *
  obtain ⟨f,fo⟩:=f
  simp only [frc,wd] at e1 e2 e3 ⊢
  cases so <;> simp [zr4,zr5,e1,e2,e3,hm,zd3,za2]
theorem ynr (a b:Fr) (ha:frI a) (hb:frI b):RUN T zou [.agg (frc a),.agg (frc b)]=some ([.agg (frc (zgz a b).1),bv (zgz a b).2],[]):=by
 refine zai z56 rfl ?_
 have e1:=z71 a b ha hb
 obtain ⟨w1,w2⟩:=z1f a b ha.1 hb.1
 have e2:=ynh (zbg a b).1 (zbg a b).2.1 w1 w2
 have hok := @yas a b
 have e3:=zyu ⟨(zb4 (zbg a b).1 (zbg a b).2.1).1,a.d*b.d⟩
 unfold zgz zes
 generalize zbg a b=r at *
 obtain ⟨x,y,o⟩:=r
 simp only at e2 e3 hok ⊢
 generalize zb4 x y=s at *
 obtain ⟨s,so⟩:=s
 simp only at e2 e3 ⊢
 cases o with
 | false =>
  simp only [frc,wd] at e1 ⊢
  simp [zr6,zr7,e1,zd3,za2]
 | true =>
  have hm:=yeu (hok rfl)
  generalize frB ⟨s,a.d*b.d⟩=fo at *
  simp only [frc,wd] at e1 e2 e3 ⊢
  cases so <;> cases fo <;> simp [zr6,zr7,e1,e2,e3,hm,frc,zd3,za2]
structure Cnd where
 f:Int
 b:Int
 a:Sl
 z:Sl
deriving DecidableEq
def cnd (c:Cnd):List PV:=[iv c.f,iv c.b,iv c.a.n,iv c.a.g,iv c.z.n,iv c.z.g]
def zd4 (c:Cnd):Prop:=inI c.f∧inI c.b∧slI c.a∧slI c.z
structure Bd where
 lo:Int
 hi:Int
def bnd (b:Bd):List PV:=[iv b.lo,iv b.hi]
def zme (b:Bd):Bool:=decide (b.lo≤b.hi) && zg8 b.lo && zg8 b.hi
def zte (x lo hi:Int):Int:=if x<lo then lo else if hi<x then hi else x
def zhm (n l:Int):Bool:=zaj n 0 40 && zaj l 1 100
def zfe (s:Sl) (l:Int) (b:Bd):Int×Bool:=if (zhm s.n l && zme b)=true then (zte (fdv s.g (s.n+l)).1 b.lo b.hi,true) else (0,false)
def zch (s:Sl) (l:Int):Fr×Bool:=if zhm s.n l=true then zes (zd0 s.g s.g) (s.n+l) else (zd3,false)
def zbz (c:Cnd) (l:Int):Fr×Bool:=if ((zch c.a l).2 && (zch c.z l).2)=true then zgz (zch c.a l).1 (zch c.z l).1 else (zd3,false)
theorem z74 (n l:Int):RUN T zk3 [iv n,iv l]=some ([bv (zhm n l)],[]):=by
 refine zai z5h rfl ?_
 have e1:=zdx n 0 40
 have e2:=zdx l 1 100
 unfold zhm
 generalize zaj n 0 40=x at *
 cases x <;> simp [zwe,zwf,-zcz,e1,e2]
theorem yns (b:Bd):RUN T zoh [.agg (bnd b)]=some ([bv (zme b)],[]):=by
 refine zai z5i rfl ?_
 have e1:=z7g b.lo
 have e2:=z7g b.hi
 unfold zme
 generalize zg8 b.lo=x at *
 generalize zg8 b.hi=y at *
 by_cases h:b.lo≤b.hi <;> cases x <;> simp [zwg,zwh,bnd,e1,e2,h]
theorem ynt (b:Bd):RUN T znw [.agg (bnd b)]=some ([bv (zme b)],[]):=by
 refine zai z4i rfl ?_
 have e1:=z7f b.lo
 have e2:=z7f b.hi
 unfold zme
 generalize zg8 b.lo=x at *
 generalize zg8 b.hi=y at *
 by_cases h:b.lo≤b.hi <;> cases x <;> simp [zuy,zuz,bnd,e1,e2,h]
theorem ynu (x lo hi:Int):RUN T zoj [iv x,iv lo,iv hi]=some ([iv (zte x lo hi)],[]):=by
 refine zai z5k rfl ?_
 unfold zte
 by_cases h1:x<lo
 ·simp [zru,zrv,h1]
 ·by_cases h2:hi<x <;> simp [zru,zrv,h1,h2]
theorem ynv (x lo hi:Int):RUN T zny [iv x,iv lo,iv hi]=some ([iv (zte x lo hi)],[]):=by
 refine zai z4k rfl ?_
 unfold zte
 by_cases h1:x<lo
 ·simp [zri,zrj,h1]
 ·by_cases h2:hi<x <;> simp [zri,zrj,h1,h2]
theorem zy9 {n l:Int} (h:zhm n l=true):IntKind.i64.wrap (n+l)=n+l:=by
 unfold zhm at h
 simp only [Bool.and_eq_true] at h
 have h1:=zbb.mp h.1
 have h2:=zbb.mp h.2
 exact w64 (by omega) (by omega)
theorem z75 (s:Sl) (l:Int) (b:Bd) (hs:slI s):RUN T zku [.agg (slc s),iv l,.agg (bnd b)]=some ([iv (zfe s l b).1,bv (zfe s l b).2],[]):=by
 refine zai z4h rfl ?_
 have e1:=z74 s.n l
 have e2:=yns b
 have e3:=ym3 s.g (s.n+l) hs.2
 have e4:=ynu (fdv s.g (s.n+l)).1 b.lo b.hi
 have hw := @zy9 s.n l
 unfold zfe
 generalize zhm s.n l=x at *
 generalize zme b=y at *
 generalize fdv s.g (s.n+l)=q at *
 obtain ⟨q,qo⟩:=q
 simp only [bnd] at e2
 cases x with
 | false=>simp [zrg,zrh,slc,bnd,e1]
 | true =>
  have hw:=hw rfl
  cases y <;> simp [zrg,zrh,slc,bnd,e1,e2,e3,e4,hw]
theorem z76 (s:Sl) (l:Int) (b:Bd) (hs:slI s):RUN T zkn [.agg (slc s),iv l,.agg (bnd b)]=some ([iv (zfe s l b).1,bv (zfe s l b).2],[]):=by
 refine zai z3s rfl ?_
 have e1:=za9 s.n 0 40
 have e1':=za9 l 1 100
 have e2:=ynt b
 have e3:=ym2 s.g (s.n+l) hs.2
 have e4:=ynv (fdv s.g (s.n+l)).1 b.lo b.hi
 have hw := @zy9 s.n l
 unfold zfe
 unfold zhm at *
 generalize zaj s.n 0 40=x at *
 generalize zaj l 1 100=x' at *
 generalize zme b=y at *
 generalize fdv s.g (s.n+l)=q at *
 obtain ⟨q,qo⟩:=q
 simp only [bnd] at e2
 cases x with
 | false=>simp [zpc,zpd,-zay,slc,bnd,e1]
 | true =>
  cases x' with
  | false=>simp [zpc,zpd,-zay,slc,bnd,e1,e1']
  | true =>
   have hw:=hw rfl
   cases y <;> simp [zpc,zpd,-zay,slc,bnd,e1,e1',e2,e3,e4,hw]
theorem ynw (c:Cnd) (h:zd4 c):RUN T zob [.agg (cnd c)]=some ([.agg (slc (zbc c.a c.z).1),bv (zbc c.a c.z).2],[]):=by
 refine zai z48 rfl ?_
 have e1:=z0l c.a c.z h.2.2.1 h.2.2.2
 generalize zbc c.a c.z=p at *
 obtain ⟨⟨pn,pg⟩,pb⟩:=p
 simp only [slc] at e1 ⊢
 simp [zvy,zvz,cnd,e1]
theorem ynx (c:Cnd) (h:zd4 c):RUN T zo0 [.agg (cnd c)]=some ([.agg (slc (zbc c.a c.z).1),bv (zbc c.a c.z).2],[]):=by
 refine zai z6h rfl ?_
 have e1:=z0m c.a c.z h.2.2.1 h.2.2.2
 generalize zbc c.a c.z=p at *
 obtain ⟨⟨pn,pg⟩,pb⟩:=p
 simp only [slc] at e1 ⊢
 simp [zxr,zxs,cnd,e1]
theorem z0o (s:Sl) (l:Int) (hs:slI s):RUN T zji [.agg (slc s),iv l]=some ([.agg (frc (zch s l).1),bv (zch s l).2],[]):=by
 refine zai z49 rfl ?_
 have e1:=z74 s.n l
 have e2:=yno s.g (s.n+l) hs.2
 have hw := @zy9 s.n l
 unfold zch
 generalize zhm s.n l=x at *
 generalize zes (zd0 s.g s.g) (s.n+l)=f at *
 obtain ⟨⟨fw,fd⟩,fb⟩:=f
 simp only [frc] at e2 ⊢
 cases x with
 | false=>simp [zrq,zrr,slc,e1,zd3,za2]
 | true =>
  have hw:=hw rfl
  simp [zrq,zrr,slc,e1,e2,hw]
theorem z0p (s:Sl) (l:Int) (hs:slI s):RUN T zjo [.agg (slc s),iv l]=some ([.agg (frc (zch s l).1),bv (zch s l).2],[]):=by
 refine zai z6i rfl ?_
 have e1:=za9 s.n 0 40
 have e1':=za9 l 1 100
 have e2:=ynp s.g (s.n+l) hs.2
 have hw := @zy9 s.n l
 unfold zch
 unfold zhm at *
 generalize zaj s.n 0 40=x at *
 generalize zaj l 1 100=x' at *
 generalize zes (zd0 s.g s.g) (s.n+l)=f at *
 obtain ⟨⟨fw,fd⟩,fb⟩:=f
 simp only [frc] at e2 ⊢
 cases x with
 | false=>simp [zpp,zpq,-zay,slc,e1,zd3,za2]
 | true =>
  cases x' with
  | false=>simp [zpp,zpq,-zay,slc,e1,e1',zd3,za2]
  | true =>
   have hw:=hw rfl
   simp [zpp,zpq,-zay,slc,e1,e1',e2,hw]
theorem ybr (w:Wd) (d:Int) (hw:wfU w):frI (zes w d).1:=by
 unfold zes
 split
 ·rename_i h
  simp only [frB,Bool.and_eq_true] at h
  have:=zbb.mp h.2
  exact ⟨hw,by unfold inI; simp only; omega⟩
 ·exact ⟨zsn,by unfold inI zd3; simp⟩
theorem zze:frI zd3:=⟨zsn,by unfold inI zd3; simp⟩
theorem zqq (s:Sl) (l:Int) (hs:slI s):frI (zch s l).1:=by
 unfold zch
 split
 ·exact ybr _ _ (ypd hs.2 hs.2)
 ·exact zze
theorem yqm (a b:Fr):frI (zgz a b).1:=by
 unfold zgz
 split
 ·split
  ·exact ybr _ _ (ytl _ _)
  ·exact zze
 ·exact zze
theorem zqc (c:Cnd) (l:Int):frI (zbz c l).1:=by
 unfold zbz
 split
 ·exact yqm _ _
 ·exact zze
theorem z0q (c:Cnd) (l:Int) (h:zd4 c):RUN T zjh [.agg (cnd c),iv l]=some ([.agg (frc (zbz c l).1),bv (zbz c l).2],[]):=by
 refine zai z47 rfl ?_
 have e1:=z0o c.a l h.2.2.1
 have e2:=z0o c.z l h.2.2.2
 have e3:=ynq (zch c.a l).1 (zch c.z l).1 (zqq _ _ h.2.2.1) (zqq _ _ h.2.2.2)
 unfold zbz
 generalize zch c.a l=p at *
 generalize zch c.z l=q at *
 obtain ⟨p,pb⟩:=p
 obtain ⟨q,qb⟩:=q
 simp only at e1 e2 e3 ⊢
 generalize zgz p q=r at *
 obtain ⟨r,rb⟩:=r
 simp only [frc,slc] at e1 e2 e3 ⊢
 cases pb <;> cases qb <;> simp [zvw,zvx,cnd,e1,e2,e3,zd3,za2]
theorem z0r (c:Cnd) (l:Int) (h:zd4 c):RUN T zjm [.agg (cnd c),iv l]=some ([.agg (frc (zbz c l).1),bv (zbz c l).2],[]):=by
 refine zai z5x rfl ?_
 have e1:=z0p c.a l h.2.2.1
 have e2:=z0p c.z l h.2.2.2
 have e3:=ynr (zch c.a l).1 (zch c.z l).1 (zqq _ _ h.2.2.1) (zqq _ _ h.2.2.2)
 unfold zbz
 generalize zch c.a l=p at *
 generalize zch c.z l=q at *
 obtain ⟨p,pb⟩:=p
 obtain ⟨q,qb⟩:=q
 simp only at e1 e2 e3 ⊢
 generalize zgz p q=r at *
 obtain ⟨r,rb⟩:=r
 simp only [frc,slc] at e1 e2 e3 ⊢
 cases pb <;> cases qb <;> simp [zw0,zw1,cnd,e1,e2,e3,zd3,za2]
abbrev cfS (c:Cfg):PV := .agg [iv c.ro,iv c.de,iv c.bi,iv c.la,iv c.rw,iv c.nu,iv c.dn,.sl 1 (zac c.sg)]
def zf0 (c:Cfg) (b:Bd) (x:Cnd):Int×Int×Bool:=if ((zfe x.a c.la b).2 && (zfe x.z c.la b).2)=true then ((zfe x.a c.la b).1,(zfe x.z c.la b).1,true) else (0,0,false)
def zix (c:Cfg) (f:Int):Int:=(atI c.sg f).getD 0
def zm9 (s l r:Int):Bool:=if s=1 then decide (l≤r) else if s = -1 then decide (r≤l) else true
def zms (x:Cnd) (l:Int):Bool:=(zbz x l).2 && ((zbc x.a x.z).2 && ((zch (zbc x.a x.z).1 l).2 && ((zel (zbz x l).1 (zch (zbc x.a x.z).1 l).1).2 && decide (0<(zel (zbz x l).1 (zch (zbc x.a x.z).1 l).1).1))))
def zh2 (a b:Cnd):Bool:=decide (a.f<b.f) || (decide (a.f=b.f) && decide (a.b<b.b))
def zde (a b:Cnd) (l:Int):Bool:=(zbz a l).2 && ((zbz b l).2 && ((zel (zbz a l).1 (zbz b l).1).2 && (decide (0<(zel (zbz a l).1 (zbz b l).1).1) || (decide ((zel (zbz a l).1 (zbz b l).1).1=0) && zh2 a b))))
theorem yny (c:Cfg) (b:Bd) (x:Cnd) (h:zd4 x):RUN T zns [cfS c,.agg (bnd b),.agg (cnd x)]=some ([iv (zf0 c b x).1,iv (zf0 c b x).2.1,bv (zf0 c b x).2.2],[]):=by
 have e1:=z75 x.a c.la b h.2.2.1
 have e2:=z75 x.z c.la b h.2.2.2
 unfold zf0
 generalize zfe x.a c.la b=p at *
 generalize zfe x.z c.la b=q at *
 obtain ⟨p,pb⟩:=p
 obtain ⟨q,qb⟩:=q
 simp only [slc,bnd] at e1 e2 ⊢
 refine zai z35 rfl ?_
 cases pb <;> cases qb <;> simp [zum,zun,cnd,e1,e2]
theorem ynz (c:Cfg) (b:Bd) (x:Cnd) (h:zd4 x):RUN T znz [cfS c,.agg (bnd b),.agg (cnd x)]=some ([iv (zf0 c b x).1,iv (zf0 c b x).2.1,bv (zf0 c b x).2.2],[]):=by
 have e1:=z76 x.a c.la b h.2.2.1
 have e2:=z76 x.z c.la b h.2.2.2
 unfold zf0
 generalize zfe x.a c.la b=p at *
 generalize zfe x.z c.la b=q at *
 obtain ⟨p,pb⟩:=p
 obtain ⟨q,qb⟩:=q
 simp only [slc,bnd] at e1 e2 ⊢
 refine zai z4l rfl ?_
 cases pb <;> cases qb <;> simp [zu2,zu3,cnd,e1,e2]
theorem yn0 (c:Cfg) (f:Int) (hl:c.sg.length≤9223372036854775807):RUN T znu [cfS c,iv f]=some ([iv (zix c f)],[]):=by
 refine zai z38 rfl ?_
 have hw:=w64 (x:=(c.sg.length:Int)-1) (by omega) (by omega)
 have e1:=zdx f 0 ((c.sg.length:Int)-1)
 unfold zix
 cases hs:atI c.sg f with
 | none =>
  have hn:=zi4 hs
  have:zaj f 0 ((c.sg.length:Int)-1)=false:=by
   cases hw:zaj f 0 ((c.sg.length:Int)-1) with
   | false=>rfl
   | true=>have:=zbb.mp hw; omega
  rw [this] at e1
  simp [zq8,zq9,-zcz,e1,hw]
 | some x =>
  obtain ⟨j,rfl,hj,hjl⟩:=zf3 hs
  rw [show zaj j 0 ((c.sg.length:Int)-1)=true from zbb.mpr (by omega)] at e1
  have hj':=zbj hj
  simp [-getElem?_pos,zq8,zq9,-zcz,e1,hw,hj',hjl]
theorem yn1 (c:Cfg) (f:Int) (hl:c.sg.length≤9223372036854775807):RUN T zn0 [cfS c,iv f]=some ([iv (zix c f)],[]):=by
 refine zai z4m rfl ?_
 have hw:=w64 (x:=(c.sg.length:Int)-1) (by omega) (by omega)
 have e1:=za9 f 0 ((c.sg.length:Int)-1)
 unfold zix
 cases hs:atI c.sg f with
 | none =>
  have hn:=zi4 hs
  have:zaj f 0 ((c.sg.length:Int)-1)=false:=by
   cases hw:zaj f 0 ((c.sg.length:Int)-1) with
   | false=>rfl
   | true=>have:=zbb.mp hw; omega
  rw [this] at e1
  simp [zrk,zrl,-zay,e1,hw]
 | some x =>
  obtain ⟨j,rfl,hj,hjl⟩:=zf3 hs
  rw [show zaj j 0 ((c.sg.length:Int)-1)=true from zbb.mpr (by omega)] at e1
  have hj':=zbj hj
  simp [-getElem?_pos,zrk,zrl,-zay,e1,hw,hj',hjl]
theorem yn2 (s l r:Int):RUN T znt [iv s,iv l,iv r]=some ([bv (zm9 s l r)],[]):=by
 refine zai z37 rfl ?_
 unfold zm9
 by_cases h1:s=1
 ·simp [zq6,zq7,h1]
 ·by_cases h2:s = -1 <;> simp [zq6,zq7,h1,h2]
theorem yn3 (s l r:Int):RUN T zon [iv s,iv l,iv r]=some ([bv (zm9 s l r)],[]):=by
 refine zai z5v rfl ?_
 unfold zm9
 by_cases h1:s=1
 ·by_cases h3:l≤r <;> simp [zr0,zr1,h1,h3]
 ·by_cases h2:s = -1 <;> simp [zr0,zr1,h1,h2]
theorem yn4 (x:Cnd) (l:Int) (h:zd4 x):RUN T znv [.agg (cnd x),iv l]=some ([bv (zms x l)],[]):=by
 refine zai z39 rfl ?_
 have hp:=zj8 (b:=x.z) h.2.2.1
 have e1:=z0q x l h
 have e2:=ynw x h
 have e3:=z0o (zbc x.a x.z).1 l hp
 have e4:=z72 (zbz x l).1 (zch (zbc x.a x.z).1 l).1 (zqc _ _) (zqq _ _ hp)
 unfold zms
 generalize zbz x l=g at *
 generalize zbc x.a x.z=p at *
 obtain ⟨p,pb⟩:=p
 simp only at e2 e3 e4 ⊢
 generalize zch p l=q at *
 obtain ⟨g,gb⟩:=g
 obtain ⟨q,qb⟩:=q
 simp only at e1 e3 e4 ⊢
 generalize zel g q=m at *
 obtain ⟨m,mb⟩:=m
 simp only [frc,slc,cnd] at e1 e2 e3 e4 ⊢
 cases gb <;> cases pb <;> cases qb <;> cases mb <;> simp [zuq,zur,e1,e2,e3,e4]
theorem yn5 (x:Cnd) (l:Int) (h:zd4 x):RUN T zoo [.agg (cnd x),iv l]=some ([bv (zms x l)],[]):=by
 refine zai z5w rfl ?_
 have hp:=zj8 (b:=x.z) h.2.2.1
 have e1:=z0r x l h
 have e2:=ynx x h
 have e3:=z0p (zbc x.a x.z).1 l hp
 have e4:=z73 (zbz x l).1 (zch (zbc x.a x.z).1 l).1 (zqc _ _) (zqq _ _ hp)
 unfold zms
 generalize zbz x l=g at *
 generalize zbc x.a x.z=p at *
 obtain ⟨p,pb⟩:=p
 simp only at e2 e3 e4 ⊢
 generalize zch p l=q at *
 obtain ⟨g,gb⟩:=g
 obtain ⟨q,qb⟩:=q
 simp only at e1 e3 e4 ⊢
 generalize zel g q=m at *
 obtain ⟨m,mb⟩:=m
 simp only [frc,slc,cnd] at e1 e2 e3 e4 ⊢
 cases gb <;> cases pb <;> cases qb <;> cases mb <;> simp [zwy,zwz,e1,e2,e3,e4]
theorem yn6 (a b:Cnd):RUN T zom [.agg (cnd a),.agg (cnd b)]=some ([bv (zh2 a b)],[]):=by
 refine zai z5s rfl ?_
 have e1:=z7y a.f b.f
 have e2:=z7y a.b b.b
 have e3:=z7t (zb6 a.f b.f) (zb6 a.b b.b)
 have hr:zam 8 2=true:=by decide
 have e4:zh2 a b=decide ((if zb6 a.f b.f=0 then zb6 a.b b.b else zb6 a.f b.f)<0):=by
  unfold zh2 zb6
  rw [Bool.eq_iff_iff]
  simp only [Bool.or_eq_true,Bool.and_eq_true,decide_eq_true_eq]
  split <;> split <;> (try split) <;> (try split) <;> (try split) <;> (try split) <;> omega
 rw [e4]
 simp [zwu,zwv,cnd,e1,e2,e3,hr]
theorem yn7 (a b:Cnd):RUN T zop [.agg (cnd a),.agg (cnd b)]=some ([bv (zh2 a b)],[]):=by
 refine zai z5y rfl ?_
 unfold zh2
 by_cases h1:a.f<b.f
 ·simp [zr2,zr3,cnd,h1]
 ·by_cases h2:a.f=b.f <;> simp [zr2,zr3,cnd,h1,h2]
theorem yn8 (a b:Cnd) (l:Int) (ha:zd4 a) (hb:zd4 b):RUN T zkx [.agg (cnd a),.agg (cnd b),iv l]=some ([bv (zde a b l)],[]):=by
 have e1:=z0q a l ha
 have e2:=z0q b l hb
 have e3:=z72 (zbz a l).1 (zbz b l).1 (zqc _ _) (zqc _ _)
 have e4:=yn6 a b
 unfold zde
 generalize zbz a l=g at *
 generalize zbz b l=q at *
 generalize zh2 a b=le at *
 obtain ⟨g,gb⟩:=g
 obtain ⟨q,qb⟩:=q
 simp only at e1 e2 e3 ⊢
 generalize zel g q=m at *
 obtain ⟨m,mb⟩:=m
 simp only [frc,cnd] at e1 e2 e3 e4 ⊢
 refine zai z4x rfl ?_
 cases gb <;> cases qb <;> cases mb <;> by_cases h1:0<m <;> by_cases h2:m=0 <;> simp [zve,zvf,e1,e2,e3,e4,h1,h2]
theorem yn9 (a b:Cnd) (l:Int) (ha:zd4 a) (hb:zd4 b):RUN T zjg [.agg (cnd a),.agg (cnd b),iv l]=some ([bv (zde a b l)],[]):=by
 have e1:=z0r a l ha
 have e2:=z0r b l hb
 have e3:=z73 (zbz a l).1 (zbz b l).1 (zqc _ _) (zqc _ _)
 have e4:=yn7 a b
 unfold zde
 generalize zbz a l=g at *
 generalize zbz b l=q at *
 generalize zh2 a b=le at *
 obtain ⟨g,gb⟩:=g
 obtain ⟨q,qb⟩:=q
 simp only at e1 e2 e3 ⊢
 generalize zel g q=m at *
 obtain ⟨m,mb⟩:=m
 simp only [frc,cnd] at e1 e2 e3 e4 ⊢
 refine zai z42 rfl ?_
 cases gb <;> cases qb <;> cases mb <;> by_cases h1:0<m <;> by_cases h2:m=0 <;> simp [zvn,zvo,e1,e2,e3,e4,h1,h2]
def zc8 (c:Cfg) (b:Bd) (x:Cnd):Bool:=zci c && ((zf0 c b x).2.2 && (decide (c.rw≤x.a.n) && (decide (c.rw≤x.z.n) && (zm9 (zix c x.f) (zf0 c b x).1 (zf0 c b x).2.1 && zms x c.la))))
theorem z77 (c:Cfg) (b:Bd) (x:Cnd) (h:zd4 x) (hl:c.sg.length≤9223372036854775807):RUN T zjd [cfS c,.agg (bnd b),.agg (cnd x)]=some ([bv (zc8 c b x)],[]):=by
 have e1:=yny c b x h
 have e2:=z7d c hl
 have e3:=yn0 c x.f hl
 have e5:=yn4 x c.la h
 unfold zc8
 generalize zf0 c b x=p at *
 obtain ⟨p1,p2,pb⟩:=p
 have e4:=yn2 (zix c x.f) p1 p2
 simp only at e1 ⊢
 generalize zix c x.f=s at *
 generalize zm9 s p1 p2=ab at *
 generalize zms x c.la=ib at *
 generalize zci c=cb at *
 simp only [cnd,bnd] at e1 e5 ⊢
 refine zai z3o rfl ?_
 cases cb <;> cases pb <;> by_cases h1:c.rw≤x.a.n <;> by_cases h2:c.rw≤x.z.n <;> cases ab <;> simp [ztu,ztv,e1,e2,e3,e4,e5,h1,h2]
theorem yoa (c:Cfg) (b:Bd) (x:Cnd) (h:zd4 x) (hl:c.sg.length≤9223372036854775807):RUN T zh5 [cfS c,.agg (bnd b),.agg (cnd x)]=some ([bv (zc8 c b x)],[]):=by
 have e1:=ynz c b x h
 have e2:=z7e c hl
 have e3:=yn1 c x.f hl
 have e5:=yn5 x c.la h
 unfold zc8
 generalize zf0 c b x=p at *
 obtain ⟨p1,p2,pb⟩:=p
 have e4:=yn3 (zix c x.f) p1 p2
 simp only at e1 ⊢
 generalize zix c x.f=s at *
 generalize zm9 s p1 p2=ab at *
 generalize zms x c.la=ib at *
 generalize zci c=cb at *
 simp only [cnd,bnd] at e1 e5 ⊢
 refine zai z41 rfl ?_
 cases cb <;> cases pb <;> by_cases h1:c.rw≤x.a.n <;> by_cases h2:c.rw≤x.z.n <;> cases ab <;> simp [zvl,zvm,e1,e2,e3,e4,e5,h1,h2]
def zby (l:List Cnd):List (List PV):=l.map cnd
@[simp] theorem qce (l:List Cnd):(zby l).length=l.length:=by simp [zby]
theorem zth {l:List Cnd} {i:Nat} {x:Cnd} (h:l[i]?=some x):(zby l)[i]?=some (cnd x):=by simp [zby,h]
def noB (c:Cfg) (b:Bd) (x y:Cnd):Bool := !zc8 c b y || !zde y x c.la
def zkh (c:Cfg) (b:Bd) (l:List Cnd) (x:Cnd):Bool:=zc8 c b x && l.all (noB c b x)
def zi5:Cnd:=⟨0,0,⟨0,0⟩,⟨0,0⟩⟩
def zeg (c:Cfg) (b:Bd) (l:List Cnd):Cnd×Bool:=match l.find? (zkh c b l) with
 | some x=>(x,true)
 | none=>(zi5,false)
set_option maxHeartbeats 1000000 in
theorem yob (c:Cfg) (b:Bd) (l:List Cnd) (hl:l.length≤1048576) (hc:c.sg.length≤1048576) (hi : ∀ x∈l,zd4 x):RUN T znq [cfS c,.agg (bnd b),.sl 6 (zby l)]=some ([.agg (cnd (zeg c b l).1),bv (zeg c b l).2],[]):=by
 have eM : ∀ x∈l,RUN T zh5 [cfS c,.agg (bnd b),.agg (cnd x)]=some ([bv (zc8 c b x)],[]):=fun x hx=>yoa c b x (hi x hx) (by omega)
 have eB : ∀ x∈l,∀ y∈l,RUN T zjg [.agg (cnd x),.agg (cnd y),iv c.la]=some ([bv (zde x y c.la)],[]):=fun x hx y hy=>yn9 x y c.la (hi x hx) (hi y hy)
 obtain ⟨R,hR⟩ : ∃ R,R=zeg c b l:=⟨_,rfl⟩
 unfold zeg at hR
 rw [show zeg c b l=R by rw [hR]; rfl]
 simp only [bnd] at eM ⊢
 refine zai z32 rfl ?_
 simp [-getElem?_pos,zuf,zug]
 refine za3 (fun n st => ∃ i:Nat,i+n=l.length∧(l.drop i).find? (zkh c b l)=l.find? (zkh c b l)∧st.V 2 = .sl 6 (zby l)∧st.V 3 = .ptr 0 none 0 0 0∧st.V 4 = .ptr 1 none 0 0 0∧st.V 6 = .ptr 2 none 0 0 0∧st.V 8=iv i∧st.S 0=some (.box [iv c.ro,iv c.de,iv c.bi,iv c.la,iv c.rw,iv c.nu,iv c.dn,.sl 1 (zac c.sg)])∧st.S 1=some (.box [iv b.lo,iv b.hi])∧st.S 2=some (.box [iv 0,iv 0,iv 0,iv 0,iv 0,iv 0])) ?_ l.length _ ⟨0,by simp⟩
 rintro n st ⟨i,hin,hf,v2,v3,v4,v6,v8,hS0,hS1,hS2⟩
 by_cases h:i<l.length
 ·obtain ⟨x,hx⟩ : ∃ x,l[i]?=some x:=⟨_,List.getElem?_eq_getElem h⟩
  have hx':=zth hx
  have hxm:=List.mem_of_getElem? hx
  have hws:=wS h (by omega:l.length≤9223372036854775807)
  rw [zfr hx,List.find?_cons] at hf
  have e1:=eM x hxm
  simp only [cnd] at e1
  have eB' : ∀ y∈l,RUN T zjg [.agg [iv y.f,iv y.b,iv y.a.n,iv y.a.g,iv y.z.n,iv y.z.g],.agg [iv x.f,iv x.b,iv x.a.n,iv x.a.g,iv x.z.n,iv x.z.g],iv c.la]=some ([bv (zde y x c.la)],[]):=fun y hy=>eB y hy x hxm
  have eM' : ∀ y∈l,RUN T zh5 [cfS c,.agg [iv b.lo,iv b.hi],.agg [iv y.f,iv y.b,iv y.a.n,iv y.a.g,iv y.z.n,iv y.z.g]]=some ([bv (zc8 c b y)],[]):=fun y hy=>eM y hy
  clear eM eB
  obtain ⟨kb0,hkb⟩ : ∃ k,k=zkh c b l x:=⟨_,rfl⟩
  rw [← hkb] at hf
  have hkb2:kb0=(zc8 c b x && (l.drop 0).all (noB c b x)):=by rw [hkb]; rfl
  clear hkb
  generalize hmx:zc8 c b x=mx at *
  simp [-getElem?_pos,zz4,v2,v3,v4,v6,v8,hS0,hS1,hS2,h,hx',cnd,e1]
  refine za3 (fun n' s => ∃ (j:Nat) (k:Bool),j+n'=l.length∧(k && (l.drop j).all (noB c b x))=kb0∧s.V 2 = .sl 6 (zby l)∧s.V 3 = .ptr 0 none 0 0 0∧s.V 4 = .ptr 1 none 0 0 0∧s.V 6 = .ptr 2 none 0 0 0∧s.V 8=iv i∧s.V 9=bv k∧s.V 10=iv j∧s.S 0=some (.box [iv c.ro,iv c.de,iv c.bi,iv c.la,iv c.rw,iv c.nu,iv c.dn,.sl 1 (zac c.sg)])∧s.S 1=some (.box [iv b.lo,iv b.hi])∧s.S 2=some (.box [iv 0,iv 0,iv 0,iv 0,iv 0,iv 0])) ?_ l.length _ ⟨0,mx,by omega,hkb2.symm,by simp [v2],by simp [v3],by simp [v4],by simp [v6],by simp [v8],by simp,by simp,by simp [hS0],by simp [hS1],by simp [hS2]⟩
  clear v2 v3 v4 v6 v8 hS0 hS1 hS2
  rintro n' s ⟨j,k,hj,hk,v2,v3,v4,v6,v8,v9,v10,hS0,hS1,hS2⟩
  by_cases hjl:j<l.length
  ·cases k with
   | true =>
    obtain ⟨y,hy⟩ : ∃ y,l[j]?=some y:=⟨_,List.getElem?_eq_getElem hjl⟩
    have hy':=zth hy
    have hym:=List.mem_of_getElem? hy
    have hwj:=wS hjl (by omega:l.length≤9223372036854775807)
    have e2:=eM' y hym
    have e3:=eB' y hym
    rw [zfr hy,List.all_cons] at hk
    have hno:noB c b x y=(!zc8 c b y || !zde y x c.la):=rfl
    rw [hno] at hk
    clear eM' eB' e1 hno
    generalize zc8 c b y=my at *
    generalize zde y x c.la=by' at *
    cases my <;> cases by' <;> simp [-getElem?_pos,zq5,v2,v3,v4,v6,v8,hS0,hS1,hS2,v9,v10,hjl,h,hx',hy',cnd,e2,e3,hwj]
    all_goals first
     | exact zao (n'-1) (by omega) ⟨j+1,true,by omega,(by simpa using hk),by simp [v2],by simp [v3],by simp [v4],by simp [v6],by simp [v8],by simp,by simp,by simp [hS0],by simp [hS1],by simp [hS2]⟩
     | exact zao (n'-1) (by omega) ⟨j+1,false,by omega,(by simpa using hk),by simp [v2],by simp [v3],by simp [v4],by simp [v6],by simp [v8],by simp,by simp,by simp [hS0],by simp [hS1],by simp [hS2]⟩
   | false =>
    have hk0:kb0=false:=by rw [← hk]; rfl
    subst hk0
    simp only at hf
    simp [-getElem?_pos,zq5,v2,v3,v4,v6,v8,hS0,hS1,hS2,v9,v10,hjl,hws]
    exact zao (n-1) (by omega) ⟨i+1,by omega,hf,by simp [v2],by simp [v3],by simp [v4],by simp [v6],by simp,by simp [hS0],by simp [hS1],by simp [hS2]⟩
  ·rw [List.drop_eq_nil_of_le (by omega)] at hk
   simp only [List.all_nil,Bool.and_true] at hk
   subst hk
   cases k with
   | true =>
    simp only at hf
    rw [← hf] at hR
    simp only at hR
    subst hR
    simp [-getElem?_pos,zq5,v2,v3,v4,v6,v8,hS0,hS1,hS2,v9,v10,hjl,h,hx',cnd]
   | false =>
    simp only at hf
    simp [-getElem?_pos,zq5,v2,v3,v4,v6,v8,hS0,hS1,hS2,v9,v10,hjl,hws]
    exact zao (n-1) (by omega) ⟨i+1,by omega,hf,by simp [v2],by simp [v3],by simp [v4],by simp [v6],by simp,by simp [hS0],by simp [hS1],by simp [hS2]⟩
 ·rw [List.drop_eq_nil_of_le (by omega)] at hf
  rw [← hf] at hR
  simp only [List.find?_nil] at hR
  subst hR
  simp [-getElem?_pos,zz4,v2,v6,v8,hS2,h,zi5,cnd]
theorem yrc (a:Wd):zeb a a=0:=by
 have h : ∀ x,zb6 x x=0:=fun x=>by
  unfold zb6
  rw [if_neg (by omega),if_neg (by omega)]
 unfold zeb
 rw [h,h,if_pos rfl]
theorem yuc (a:Wd):zi3 a a=0:=by
 unfold zi3
 rw [yrc]
 split <;> simp_all
theorem yry (a:Fr):(zel a a).1=0:=by
 unfold zel
 split
 ·rename_i h
  have:(zbg a a).1=(zbg a a).2.1:=by
   unfold zbg
   split <;> rfl
  simp only
  rw [this,yuc]
 ·rfl
theorem yuf (x:Cnd) (l:Int):zde x x l=false:=by
 have h1:=yry (zbz x l).1
 have h2:zh2 x x=false:=by
  unfold zh2
  rw [decide_eq_false (show ¬ x.f<x.f by omega),decide_eq_false (show ¬ x.b<x.b by omega)]
  simp
 unfold zde
 rw [h1,h2]
 simp
theorem yt7 {p q:Cnd→Bool} (l:List Cnd):(l.filter p).all q=l.all fun y => !p y || q y:=by
 induction l with
 | nil=>rfl
 | cons y l ih =>
  simp only [List.filter_cons,List.all_cons]
  cases h:p y with
  | true=>simp [ih]
  | false=>simp [ih]
theorem ysc {p q:Cnd→Bool} (l:List Cnd):(l.filter p).find? q=l.find? fun x=>p x && q x:=by
 induction l with
 | nil=>rfl
 | cons y l ih =>
  simp only [List.filter_cons,List.find?_cons]
  cases h:p y with
  | true =>
   simp only [if_true,List.find?_cons,Bool.true_and]
   cases q y <;> simp [ih]
  | false=>simp [ih]
theorem ytt (c:Cfg) (b:Bd) (l:List Cnd):l.find? (zkh c b l)=(l.filter (zc8 c b)).find? fun x=>(l.filter (zc8 c b)).all fun y => !zde y x c.la:=by
 rw [ysc]
 congr 1
 funext x
 unfold zkh
 rw [yt7]
 rfl
set_option maxHeartbeats 2000000 in
theorem yoc (c:Cfg) (b:Bd) (l:List Cnd) (hl:l.length≤1048576) (hc:c.sg.length≤1048576) (hi : ∀ x∈l,zd4 x):RUN T znn [cfS c,.agg (bnd b),.sl 6 (zby l)]=some ([.agg (cnd (zeg c b l).1),bv (zeg c b l).2],[]):=by
 have eM : ∀ x∈l,RUN T zjd [cfS c,.agg [iv b.lo,iv b.hi],.agg [iv x.f,iv x.b,iv x.a.n,iv x.a.g,iv x.z.n,iv x.z.g]]=some ([bv (zc8 c b x)],[]):=fun x hx=>z77 c b x (hi x hx) (by omega)
 have eB : ∀ x∈l,∀ y∈l,RUN T zkx [.agg [iv x.f,iv x.b,iv x.a.n,iv x.a.g,iv x.z.n,iv x.z.g],.agg [iv y.f,iv y.b,iv y.a.n,iv y.a.g,iv y.z.n,iv y.z.g],iv c.la]=some ([bv (zde x y c.la)],[]):=fun x hx y hy=>yn8 x y c.la (hi x hx) (hi y hy)
 obtain ⟨R,hR⟩ : ∃ R,R=zeg c b l:=⟨_,rfl⟩
 unfold zeg at hR
 rw [show zeg c b l=R by rw [hR]; rfl]
 rw [ytt] at hR
 simp only [bnd]
 refine zai z3z rfl ?_
 have hr0:zam 48 0=true:=by decide
 have hr1:zam 48 1=true:=by decide
 simp [-getElem?_pos,zt9,zua,hr0]
 refine za3 (fun n st => ∃ (i o e:Nat) (m:List Cnd),i+n=l.length∧m=(l.take i).filter (zc8 c b)∧st.V 3 = .ptr 0 none 0 0 0∧st.V 4 = .ptr 1 none 0 0 0∧st.V 6 = .ptr 2 none 0 0 0∧st.V 8 = .ref o none e 0 m.length∧st.V 17 = .sl 6 (zby l)∧st.V 18=iv l.length∧st.V 19=iv i∧2<o∧o<st.nx∧st.S 0=some (.box [iv c.ro,iv c.de,iv c.bi,iv c.la,iv c.rw,iv c.nu,iv c.dn,.sl 1 (zac c.sg)])∧st.S 1=some (.box [iv b.lo,iv b.hi])∧st.S 2=some (.box [iv 0,iv 0,iv 0,iv 0,iv 0,iv 0])∧st.S o=some (.row 6 (zby m))) ?_ l.length _ ⟨0,3,0,[],by simp [zby]⟩
 rintro n st ⟨i,o,e,m,hin,hm,v3,v4,v6,v8,v17,v18,v19,ho,hox,hS0,hS1,hS2,hSo⟩
 obtain ⟨a01,a02,a03,a04⟩:=fr (show 0<st.nx by omega)
 obtain ⟨a11,a12,a13,a14⟩:=fr (show 1<st.nx by omega)
 obtain ⟨a21,a22,a23,a24⟩:=fr (show 2<st.nx by omega)
 obtain ⟨a31,a32,a33,a34⟩:=fr (show 0<o by omega)
 obtain ⟨a41,a42,a43,a44⟩:=fr (show 1<o by omega)
 obtain ⟨a51,a52,a53,a54⟩:=fr (show 2<o by omega)
 obtain ⟨a61,a62,a63,a64⟩:=fr (show o<st.nx by omega)
 obtain ⟨a71,a72,a73,a74⟩:=fr (show o<st.nx+1 by omega)
 by_cases h:i<l.length
 ·obtain ⟨x,hx⟩ : ∃ x,l[i]?=some x:=⟨_,List.getElem?_eq_getElem h⟩
  have hx':=zth hx
  have hxm:=List.mem_of_getElem? hx
  have hws:=wS h (by omega:l.length≤9223372036854775807)
  have e1:=eM x hxm
  have hml:m.length≤i:=by rw [hm]; exact Nat.le_trans (List.length_filter_le _ _) (by simp; omega)
  have hr48:zam 48 (m.length+1)=true:=by simp [zam]; omega
  have htk:(l.take (i+1)).filter (zc8 c b)=if zc8 c b x=true then m++[x] else m:=by
   rw [List.take_succ,hx,List.filter_append,← hm]
   by_cases c':zc8 c b x=true <;> simp [c']
  have hsn:zby m++[[iv x.f,iv x.b,iv x.a.n,iv x.a.g,iv x.z.n,iv x.z.g]]=zby (m++[x]):=by simp [zby,cnd]
  clear eM eB hm
  cases hmx:zc8 c b x with
  | true =>
   rw [hmx] at e1
   rw [if_pos hmx] at htk
   simp [-getElem?_pos,zt8,v3,v4,v6,v8,v17,v18,v19,hS0,hS1,hS2,hSo,h,hx',cnd,e1,hws,hr1,hr48,hsn,a01,a02,a03,a04,a11,a12,a13,a14,a21,a22,a23,a24,a31,a32,a33,a34,a41,a42,a43,a44,a51,a52,a53,a54,a61,a62,a63,a64,a71,a72,a73,a74]
   exact zao (n-1) (by omega) ⟨i+1,st.nx+2,st.ep,m++[x],by omega,htk.symm,by simp [v3],by simp [v4],by simp [v6],by simp,by simp [v17],by simp [v18],by simp,by omega,by simp,by simp [a01,a02,a03,a04,a11,a12,a13,a14,a21,a22,a23,a24,a31,a32,a33,a34,a41,a42,a43,a44,a51,a52,a53,a54,a61,a62,a63,a64,a71,a72,a73,a74,hS0],by simp [a01,a02,a03,a04,a11,a12,a13,a14,a21,a22,a23,a24,a31,a32,a33,a34,a41,a42,a43,a44,a51,a52,a53,a54,a61,a62,a63,a64,a71,a72,a73,a74,hS1],by simp [a01,a02,a03,a04,a11,a12,a13,a14,a21,a22,a23,a24,a31,a32,a33,a34,a41,a42,a43,a44,a51,a52,a53,a54,a61,a62,a63,a64,a71,a72,a73,a74,hS2],by simp⟩
  | false =>
   rw [hmx] at e1
   rw [if_neg (by simp [hmx])] at htk
   simp [-getElem?_pos,zt8,v3,v4,v6,v8,v17,v18,v19,hS0,hS1,hS2,hSo,h,hx',cnd,e1,hws,a01,a02,a03,a04,a11,a12,a13,a14,a21,a22,a23,a24,a31,a32,a33,a34,a41,a42,a43,a44,a51,a52,a53,a54,a61,a62,a63,a64,a71,a72,a73,a74]
   exact zao (n-1) (by omega) ⟨i+1,o,e,m,by omega,htk.symm,by simp [v3],by simp [v4],by simp [v6],by simp [v8],by simp [v17],by simp [v18],by simp,by omega,by simp; omega,by simp [a01,a02,a03,a04,a11,a12,a13,a14,a21,a22,a23,a24,a31,a32,a33,a34,a41,a42,a43,a44,a51,a52,a53,a54,a61,a62,a63,a64,a71,a72,a73,a74,hS0],by simp [a01,a02,a03,a04,a11,a12,a13,a14,a21,a22,a23,a24,a31,a32,a33,a34,a41,a42,a43,a44,a51,a52,a53,a54,a61,a62,a63,a64,a71,a72,a73,a74,hS1],by simp [a01,a02,a03,a04,a11,a12,a13,a14,a21,a22,a23,a24,a31,a32,a33,a34,a41,a42,a43,a44,a51,a52,a53,a54,a61,a62,a63,a64,a71,a72,a73,a74,hS2],by simp [a01,a02,a03,a04,a11,a12,a13,a14,a21,a22,a23,a24,a31,a32,a33,a34,a41,a42,a43,a44,a51,a52,a53,a54,a61,a62,a63,a64,a71,a72,a73,a74,hSo]⟩
 ·rw [List.take_of_length_le (by omega)] at hm
  rw [← hm] at hR
  have hmem : ∀ y∈m,y∈l:=fun y hy=>by rw [hm] at hy; exact (List.mem_filter.mp hy).1
  have hml:m.length≤1048576:=by rw [hm]; exact Nat.le_trans (List.length_filter_le _ _) hl
  simp [-getElem?_pos,zt8,v8,v18,v19,hSo,h]
  obtain ⟨q,hq⟩ : ∃ q:Cnd→Bool,q=fun x=>m.all fun y => !zde y x c.la:=⟨_,rfl⟩
  rw [← hq] at hR
  clear eM hm hin
  refine za3 (fun n st => ∃ i:Nat,i+n=m.length∧(m.drop i).find? q=m.find? q∧st.V 3 = .ptr 0 none 0 0 0∧st.V 4 = .ptr 1 none 0 0 0∧st.V 6 = .ptr 2 none 0 0 0∧st.V 8 = .ref o none e 0 m.length∧st.V 32 = .ref o none e 0 m.length∧st.V 33=iv m.length∧st.V 34=iv i∧2<o∧o<st.nx∧st.S 0=some (.box [iv c.ro,iv c.de,iv c.bi,iv c.la,iv c.rw,iv c.nu,iv c.dn,.sl 1 (zac c.sg)])∧st.S 1=some (.box [iv b.lo,iv b.hi])∧st.S 2=some (.box [iv 0,iv 0,iv 0,iv 0,iv 0,iv 0])∧st.S o=some (.row 6 (zby m))) ?_ m.length _ ⟨0,by simp,by simp,by simp [v3],by simp [v4],by simp [v6],by simp [v8],by simp,by simp,by simp,ho,by simp [hox],by simp [hS0],by simp [hS1],by simp [hS2],by simp [hSo]⟩
  clear v3 v4 v6 v8 v17 v18 v19 hS0 hS1 hS2 hSo hox ho
  clear a01 a02 a03 a04 a11 a12 a13 a14 a21 a22 a23 a24 a31 a32 a33 a34 a41 a42 a43 a44 a51 a52 a53 a54 a61 a62 a63 a64 a71 a72 a73 a74
  rintro n st ⟨i,hin,hf,v3,v4,v6,v8,v32,v33,v34,ho,hox,hS0,hS1,hS2,hSo⟩
  obtain ⟨b01,b02,b03,b04⟩:=fr (show 0<st.nx by omega)
  obtain ⟨b11,b12,b13,b14⟩:=fr (show 1<st.nx by omega)
  obtain ⟨b21,b22,b23,b24⟩:=fr (show 2<st.nx by omega)
  obtain ⟨b31,b32,b33,b34⟩:=fr (show 0<o by omega)
  obtain ⟨b41,b42,b43,b44⟩:=fr (show 1<o by omega)
  obtain ⟨b51,b52,b53,b54⟩:=fr (show 2<o by omega)
  obtain ⟨b61,b62,b63,b64⟩:=fr (show o<st.nx by omega)
  by_cases h:i<m.length
  ·obtain ⟨x,hx⟩ : ∃ x,m[i]?=some x:=⟨_,List.getElem?_eq_getElem h⟩
   have hx':=zth hx
   have hxm:=List.mem_of_getElem? hx
   have hws:=wS h (by omega:m.length≤9223372036854775807)
   rw [zfr hx,List.find?_cons] at hf
   obtain ⟨kb0,hkb⟩ : ∃ k,k=q x:=⟨_,rfl⟩
   rw [← hkb] at hf
   have hkb2:kb0=(true && (m.drop 0).all fun y => !zde y x c.la):=by rw [hkb,hq]; rfl
   clear hkb hq
   simp [-getElem?_pos,zz3,v3,v4,v6,v8,v32,v33,v34,hS0,hS1,hS2,hSo,h,hx',cnd,b01,b02,b03,b04,b11,b12,b13,b14,b21,b22,b23,b24,b31,b32,b33,b34,b41,b42,b43,b44,b51,b52,b53,b54,b61,b62,b63,b64]
   generalize hpp:st.nx=pp at *
   refine za3 (fun n' s => ∃ (j:Nat) (k:Bool),j+n'=m.length∧(k && (m.drop j).all fun y => !zde y x c.la)=kb0∧s.V 3 = .ptr 0 none 0 0 0∧s.V 4 = .ptr 1 none 0 0 0∧s.V 6 = .ptr 2 none 0 0 0∧s.V 8 = .ref o none e 0 m.length∧s.V 32 = .ref o none e 0 m.length∧s.V 33=iv m.length∧s.V 34=iv i∧s.V 11=iv i∧s.V 12 = .ptr pp none st.ep 0 0∧s.V 13=bv k∧s.V 39 = .ref o none e 0 m.length∧s.V 40=iv m.length∧s.V 41=iv j∧pp<s.nx∧s.S 0=some (.box [iv c.ro,iv c.de,iv c.bi,iv c.la,iv c.rw,iv c.nu,iv c.dn,.sl 1 (zac c.sg)])∧s.S 1=some (.box [iv b.lo,iv b.hi])∧s.S 2=some (.box [iv 0,iv 0,iv 0,iv 0,iv 0,iv 0])∧s.S o=some (.row 6 (zby m))∧s.S pp=some (.box [iv x.f,iv x.b,iv x.a.n,iv x.a.g,iv x.z.n,iv x.z.g])) ?_ m.length _ ⟨0,true,by omega,hkb2.symm,by simp [v3],by simp [v4],by simp [v6],by simp [v8],by simp [v32],by simp [v33],by simp [v34],by simp,by simp,by simp,by simp,by simp,by simp,by simp,by simp [b01,b02,b03,b04,b11,b12,b13,b14,b21,b22,b23,b24,b31,b32,b33,b34,b41,b42,b43,b44,b51,b52,b53,b54,b61,b62,b63,b64,hS0],by simp [b01,b02,b03,b04,b11,b12,b13,b14,b21,b22,b23,b24,b31,b32,b33,b34,b41,b42,b43,b44,b51,b52,b53,b54,b61,b62,b63,b64,hS1],by simp [b01,b02,b03,b04,b11,b12,b13,b14,b21,b22,b23,b24,b31,b32,b33,b34,b41,b42,b43,b44,b51,b52,b53,b54,b61,b62,b63,b64,hS2],by simp [b01,b02,b03,b04,b11,b12,b13,b14,b21,b22,b23,b24,b31,b32,b33,b34,b41,b42,b43,b44,b51,b52,b53,b54,b61,b62,b63,b64,hSo],by simp [b01,b02,b03,b04,b11,b12,b13,b14,b21,b22,b23,b24,b31,b32,b33,b34,b41,b42,b43,b44,b51,b52,b53,b54,b61,b62,b63,b64]⟩
   clear v3 v4 v6 v8 v32 v33 v34 hS0 hS1 hS2 hSo
   rintro n' s ⟨j,k,hj,hk,v3,v4,v6,v8,v32,v33,v34,v11,v12,v13,v39,v40,v41,hpn,hS0,hS1,hS2,hSo,hSp⟩
   obtain ⟨d01,d02,d03,d04⟩:=fr (show 0<s.nx by omega)
   obtain ⟨d11,d12,d13,d14⟩:=fr (show 1<s.nx by omega)
   obtain ⟨d21,d22,d23,d24⟩:=fr (show 2<s.nx by omega)
   obtain ⟨d31,d32,d33,d34⟩:=fr (show 0<o by omega)
   obtain ⟨d41,d42,d43,d44⟩:=fr (show 1<o by omega)
   obtain ⟨d51,d52,d53,d54⟩:=fr (show 2<o by omega)
   obtain ⟨d61,d62,d63,d64⟩:=fr (show o<s.nx by omega)
   obtain ⟨d71,d72,d73,d74⟩:=fr (show 0<pp by omega)
   obtain ⟨d81,d82,d83,d84⟩:=fr (show 1<pp by omega)
   obtain ⟨d91,d92,d93,d94⟩:=fr (show 2<pp by omega)
   obtain ⟨d101,d102,d103,d104⟩:=fr (show o<pp by omega)
   obtain ⟨d111,d112,d113,d114⟩:=fr (show pp<s.nx by omega)
   by_cases hjl:j<m.length
   ·obtain ⟨y,hy⟩ : ∃ y,m[j]?=some y:=⟨_,List.getElem?_eq_getElem hjl⟩
    have hy':=zth hy
    have hym:=List.mem_of_getElem? hy
    have hwj:=wS hjl (by omega:m.length≤9223372036854775807)
    have e3:=eB y (hmem y hym) x (hmem x hxm)
    rw [zfr hy,List.all_cons] at hk
    clear eB
    cases k with
    | false =>
     have hk':(false && (m.drop (j+1)).all fun y => !zde y x c.la)=kb0:=by rw [← hk]; rfl
     simp [-getElem?_pos,zlw,v3,v4,v6,v8,v11,v12,v13,v39,v40,v41,hS0,hS1,hS2,hSo,hSp,hjl,hy',cnd,hwj,d01,d02,d03,d04,d11,d12,d13,d14,d21,d22,d23,d24,d31,d32,d33,d34,d41,d42,d43,d44,d51,d52,d53,d54,d61,d62,d63,d64,d71,d72,d73,d74,d81,d82,d83,d84,d91,d92,d93,d94,d101,d102,d103,d104,d111,d112,d113,d114]
     exact zao (n'-1) (by omega) ⟨j+1,false,by omega,hk',by simp [v3],by simp [v4],by simp [v6],by simp [v8],by simp [v32],by simp [v33],by simp [v34],by simp [v11],by simp [v12],by simp [v13],by simp [v39],by simp [v40],by simp,by simp; omega,by simp [d01,d02,d03,d04,d11,d12,d13,d14,d21,d22,d23,d24,d31,d32,d33,d34,d41,d42,d43,d44,d51,d52,d53,d54,d61,d62,d63,d64,d71,d72,d73,d74,d81,d82,d83,d84,d91,d92,d93,d94,d101,d102,d103,d104,d111,d112,d113,d114,hS0],by simp [d01,d02,d03,d04,d11,d12,d13,d14,d21,d22,d23,d24,d31,d32,d33,d34,d41,d42,d43,d44,d51,d52,d53,d54,d61,d62,d63,d64,d71,d72,d73,d74,d81,d82,d83,d84,d91,d92,d93,d94,d101,d102,d103,d104,d111,d112,d113,d114,hS1],by simp [d01,d02,d03,d04,d11,d12,d13,d14,d21,d22,d23,d24,d31,d32,d33,d34,d41,d42,d43,d44,d51,d52,d53,d54,d61,d62,d63,d64,d71,d72,d73,d74,d81,d82,d83,d84,d91,d92,d93,d94,d101,d102,d103,d104,d111,d112,d113,d114,hS2],by simp [d01,d02,d03,d04,d11,d12,d13,d14,d21,d22,d23,d24,d31,d32,d33,d34,d41,d42,d43,d44,d51,d52,d53,d54,d61,d62,d63,d64,d71,d72,d73,d74,d81,d82,d83,d84,d91,d92,d93,d94,d101,d102,d103,d104,d111,d112,d113,d114,hSo],by simp [d01,d02,d03,d04,d11,d12,d13,d14,d21,d22,d23,d24,d31,d32,d33,d34,d41,d42,d43,d44,d51,d52,d53,d54,d61,d62,d63,d64,d71,d72,d73,d74,d81,d82,d83,d84,d91,d92,d93,d94,d101,d102,d103,d104,d111,d112,d113,d114,hSp]⟩
    | true =>
     by_cases hij:j=i
     ·have hyx:y=x:=by
       subst hij
       rw [hx] at hy; exact (Option.some.inj hy).symm
      subst hyx
      rw [yuf] at hk
      have hk':(true && (m.drop (j+1)).all fun z => !zde z y c.la)=kb0:=by rw [← hk]; rfl
      subst hij
      simp [-getElem?_pos,zlw,v3,v4,v6,v8,v11,v12,v13,v39,v40,v41,hS0,hS1,hS2,hSo,hSp,hjl,hy',cnd,hwj,d01,d02,d03,d04,d11,d12,d13,d14,d21,d22,d23,d24,d31,d32,d33,d34,d41,d42,d43,d44,d51,d52,d53,d54,d61,d62,d63,d64,d71,d72,d73,d74,d81,d82,d83,d84,d91,d92,d93,d94,d101,d102,d103,d104,d111,d112,d113,d114]
      exact zao (n'-1) (by omega) ⟨j+1,true,by omega,hk',by simp [v3],by simp [v4],by simp [v6],by simp [v8],by simp [v32],by simp [v33],by simp [v34],by simp [v11],by simp [v12],by simp [v13],by simp [v39],by simp [v40],by simp,by simp; omega,by simp [d01,d02,d03,d04,d11,d12,d13,d14,d21,d22,d23,d24,d31,d32,d33,d34,d41,d42,d43,d44,d51,d52,d53,d54,d61,d62,d63,d64,d71,d72,d73,d74,d81,d82,d83,d84,d91,d92,d93,d94,d101,d102,d103,d104,d111,d112,d113,d114,hS0],by simp [d01,d02,d03,d04,d11,d12,d13,d14,d21,d22,d23,d24,d31,d32,d33,d34,d41,d42,d43,d44,d51,d52,d53,d54,d61,d62,d63,d64,d71,d72,d73,d74,d81,d82,d83,d84,d91,d92,d93,d94,d101,d102,d103,d104,d111,d112,d113,d114,hS1],by simp [d01,d02,d03,d04,d11,d12,d13,d14,d21,d22,d23,d24,d31,d32,d33,d34,d41,d42,d43,d44,d51,d52,d53,d54,d61,d62,d63,d64,d71,d72,d73,d74,d81,d82,d83,d84,d91,d92,d93,d94,d101,d102,d103,d104,d111,d112,d113,d114,hS2],by simp [d01,d02,d03,d04,d11,d12,d13,d14,d21,d22,d23,d24,d31,d32,d33,d34,d41,d42,d43,d44,d51,d52,d53,d54,d61,d62,d63,d64,d71,d72,d73,d74,d81,d82,d83,d84,d91,d92,d93,d94,d101,d102,d103,d104,d111,d112,d113,d114,hSo],by simp [d01,d02,d03,d04,d11,d12,d13,d14,d21,d22,d23,d24,d31,d32,d33,d34,d41,d42,d43,d44,d51,d52,d53,d54,d61,d62,d63,d64,d71,d72,d73,d74,d81,d82,d83,d84,d91,d92,d93,d94,d101,d102,d103,d104,d111,d112,d113,d114,hSp]⟩
     ·have h1:((j:Int)=i)=False:=eq_false (by omega)
      have h2:((i:Int)=j)=False:=eq_false (by omega)
      have hji : ¬ i=j:=fun e=>hij e.symm
      generalize zde y x c.la=bb at *
      cases bb with
      | true =>
       have hk':(false && (m.drop (j+1)).all fun y => !zde y x c.la)=kb0:=by rw [← hk]; rfl
       simp [-getElem?_pos,zlw,v3,v4,v6,v8,v11,v12,v13,v39,v40,v41,hS0,hS1,hS2,hSo,hSp,hjl,hy',cnd,hwj,d01,d02,d03,d04,d11,d12,d13,d14,d21,d22,d23,d24,d31,d32,d33,d34,d41,d42,d43,d44,d51,d52,d53,d54,d61,d62,d63,d64,d71,d72,d73,d74,d81,d82,d83,d84,d91,d92,d93,d94,d101,d102,d103,d104,d111,d112,d113,d114,h1,h2,hij,hji,e3]
       exact zao (n'-1) (by omega) ⟨j+1,false,by omega,hk',by simp [v3],by simp [v4],by simp [v6],by simp [v8],by simp [v32],by simp [v33],by simp [v34],by simp [v11],by simp [v12],by simp [v13],by simp [v39],by simp [v40],by simp,by simp; omega,by simp [d01,d02,d03,d04,d11,d12,d13,d14,d21,d22,d23,d24,d31,d32,d33,d34,d41,d42,d43,d44,d51,d52,d53,d54,d61,d62,d63,d64,d71,d72,d73,d74,d81,d82,d83,d84,d91,d92,d93,d94,d101,d102,d103,d104,d111,d112,d113,d114,hS0],by simp [d01,d02,d03,d04,d11,d12,d13,d14,d21,d22,d23,d24,d31,d32,d33,d34,d41,d42,d43,d44,d51,d52,d53,d54,d61,d62,d63,d64,d71,d72,d73,d74,d81,d82,d83,d84,d91,d92,d93,d94,d101,d102,d103,d104,d111,d112,d113,d114,hS1],by simp [d01,d02,d03,d04,d11,d12,d13,d14,d21,d22,d23,d24,d31,d32,d33,d34,d41,d42,d43,d44,d51,d52,d53,d54,d61,d62,d63,d64,d71,d72,d73,d74,d81,d82,d83,d84,d91,d92,d93,d94,d101,d102,d103,d104,d111,d112,d113,d114,hS2],by simp [d01,d02,d03,d04,d11,d12,d13,d14,d21,d22,d23,d24,d31,d32,d33,d34,d41,d42,d43,d44,d51,d52,d53,d54,d61,d62,d63,d64,d71,d72,d73,d74,d81,d82,d83,d84,d91,d92,d93,d94,d101,d102,d103,d104,d111,d112,d113,d114,hSo],by simp [d01,d02,d03,d04,d11,d12,d13,d14,d21,d22,d23,d24,d31,d32,d33,d34,d41,d42,d43,d44,d51,d52,d53,d54,d61,d62,d63,d64,d71,d72,d73,d74,d81,d82,d83,d84,d91,d92,d93,d94,d101,d102,d103,d104,d111,d112,d113,d114,hSp]⟩
      | false =>
       have hk':(true && (m.drop (j+1)).all fun y => !zde y x c.la)=kb0:=by rw [← hk]; rfl
       simp [-getElem?_pos,zlw,v3,v4,v6,v8,v11,v12,v13,v39,v40,v41,hS0,hS1,hS2,hSo,hSp,hjl,hy',cnd,hwj,d01,d02,d03,d04,d11,d12,d13,d14,d21,d22,d23,d24,d31,d32,d33,d34,d41,d42,d43,d44,d51,d52,d53,d54,d61,d62,d63,d64,d71,d72,d73,d74,d81,d82,d83,d84,d91,d92,d93,d94,d101,d102,d103,d104,d111,d112,d113,d114,h1,h2,hij,hji,e3]
       exact zao (n'-1) (by omega) ⟨j+1,true,by omega,hk',by simp [v3],by simp [v4],by simp [v6],by simp [v8],by simp [v32],by simp [v33],by simp [v34],by simp [v11],by simp [v12],by simp [v13],by simp [v39],by simp [v40],by simp,by simp; omega,by simp [d01,d02,d03,d04,d11,d12,d13,d14,d21,d22,d23,d24,d31,d32,d33,d34,d41,d42,d43,d44,d51,d52,d53,d54,d61,d62,d63,d64,d71,d72,d73,d74,d81,d82,d83,d84,d91,d92,d93,d94,d101,d102,d103,d104,d111,d112,d113,d114,hS0],by simp [d01,d02,d03,d04,d11,d12,d13,d14,d21,d22,d23,d24,d31,d32,d33,d34,d41,d42,d43,d44,d51,d52,d53,d54,d61,d62,d63,d64,d71,d72,d73,d74,d81,d82,d83,d84,d91,d92,d93,d94,d101,d102,d103,d104,d111,d112,d113,d114,hS1],by simp [d01,d02,d03,d04,d11,d12,d13,d14,d21,d22,d23,d24,d31,d32,d33,d34,d41,d42,d43,d44,d51,d52,d53,d54,d61,d62,d63,d64,d71,d72,d73,d74,d81,d82,d83,d84,d91,d92,d93,d94,d101,d102,d103,d104,d111,d112,d113,d114,hS2],by simp [d01,d02,d03,d04,d11,d12,d13,d14,d21,d22,d23,d24,d31,d32,d33,d34,d41,d42,d43,d44,d51,d52,d53,d54,d61,d62,d63,d64,d71,d72,d73,d74,d81,d82,d83,d84,d91,d92,d93,d94,d101,d102,d103,d104,d111,d112,d113,d114,hSo],by simp [d01,d02,d03,d04,d11,d12,d13,d14,d21,d22,d23,d24,d31,d32,d33,d34,d41,d42,d43,d44,d51,d52,d53,d54,d61,d62,d63,d64,d71,d72,d73,d74,d81,d82,d83,d84,d91,d92,d93,d94,d101,d102,d103,d104,d111,d112,d113,d114,hSp]⟩
   ·rw [List.drop_eq_nil_of_le (by omega)] at hk
    simp only [List.all_nil,Bool.and_true] at hk
    subst hk
    cases k with
    | true =>
     simp only at hf
     rw [← hf] at hR
     simp only at hR
     subst hR
     simp [-getElem?_pos,zlw,v3,v4,v6,v8,v11,v12,v13,v39,v40,v41,hS0,hS1,hS2,hSo,hSp,hjl,cnd,d01,d02,d03,d04,d11,d12,d13,d14,d21,d22,d23,d24,d31,d32,d33,d34,d41,d42,d43,d44,d51,d52,d53,d54,d61,d62,d63,d64,d71,d72,d73,d74,d81,d82,d83,d84,d91,d92,d93,d94,d101,d102,d103,d104,d111,d112,d113,d114]
    | false =>
     simp only at hf
     simp [-getElem?_pos,zlw,v3,v4,v6,v8,v11,v12,v13,v34,v39,v40,v41,hS0,hS1,hS2,hSo,hSp,hjl,hws,d01,d02,d03,d04,d11,d12,d13,d14,d21,d22,d23,d24,d31,d32,d33,d34,d41,d42,d43,d44,d51,d52,d53,d54,d61,d62,d63,d64,d71,d72,d73,d74,d81,d82,d83,d84,d91,d92,d93,d94,d101,d102,d103,d104,d111,d112,d113,d114]
     exact zao (n-1) (by omega) ⟨i+1,by omega,hf,by simp [v3],by simp [v4],by simp [v6],by simp [v8],by simp [v32],by simp [v33],by simp,ho,by simp; omega,by simp [hS0],by simp [hS1],by simp [hS2],by simp [hSo]⟩
  ·rw [List.drop_eq_nil_of_le (by omega)] at hf
   rw [← hf] at hR
   simp only [List.find?_nil] at hR
   subst hR
   simp [-getElem?_pos,zz3,v6,v33,v34,hS2,h,zi5,cnd]
def zdl (a b:Sl):Sl×Bool:=if ((sbi a.n b.n).2 && (sbi a.g b.g).2)=true then (⟨(sbi a.n b.n).1,(sbi a.g b.g).1⟩,true) else (⟨0,0⟩,false)
theorem ydu {a b:Int}:inI (sbi a b).1:=by
 unfold sbi inI
 split
 ·rename_i h; simpa using h
 ·simp
theorem ytx (a b:Sl):slI (zdl a b).1:=by
 unfold zdl
 split
 ·exact ⟨ydu,ydu⟩
 ·unfold slI inI; simp
def zcm (s:Sl):List Sl→Option (List Sl)
 | []=>some []
 | x::xs=>if (zbc s x).2=true then (zcm (zbc s x).1 xs).map ((zbc s x).1 :: ·) else none
def zb5 (h:List Sl):List Sl×Bool:=match zcm ⟨0,0⟩ h with
 | some l=>(l,true)
 | none=>([],false)
theorem yc7 : ∀ (h:List Sl) (s:Sl) (l:List Sl),slI s→zcm s h=some l→l.length=h.length∧∀ x∈l,slI x
 | [],s,l,_,e=>by simp [zcm] at e; subst e; simp
 | x::xs,s,l,hs,e=>by
  simp only [zcm] at e
  split at e
  ·simp only [Option.map_eq_some_iff] at e
   obtain ⟨l',h1,rfl⟩:=e
   have hp:=zj8 (b:=x) hs
   obtain ⟨h2,h3⟩:=yc7 xs _ _ hp h1
   refine ⟨by simp [h2],fun y hy => ?_⟩
   rcases List.mem_cons.mp hy with e | e
   ·subst e; exact hp
   ·exact h3 y e
  ·cases e
theorem zzo:slI ⟨0,0⟩:=⟨by unfold inI; simp,by unfold inI; simp⟩
theorem z1u (h:List Sl):(zb5 h).1.length≤h.length∧(∀ x∈(zb5 h).1,slI x)∧((zb5 h).2=true→(zb5 h).1.length=h.length):=by
 unfold zb5
 cases e:zcm ⟨0,0⟩ h with
 | none=>simp
 | some l =>
  obtain ⟨h1,h2⟩:=yc7 h _ l zzo e
  exact ⟨by simp [h1],h2,fun _=>h1⟩
def zei (f:Int) (all:Sl) (least:Int):Int→List Sl→List Cnd→Option (List Cnd)
 | b,x::y::xs,acc=>if (zdl all x).2=true then zei f all least (b+1) (y::xs) (if least≤x.n∧least≤(zdl all x).1.n then acc++[⟨f,b,x,(zdl all x).1⟩] else acc) else none
 | _,_,acc=>some acc
def zfn (l:List Sl):Sl:=l.getLast?.getD ⟨0,0⟩
def zdj (least:Int):Int→List (List Sl)→List Cnd→Option (List Cnd)
 | _,[],acc=>some acc
 | f,h::hs,acc=>if (zb5 h).2=true then match zei f (zfn (zb5 h).1) least 0 (zb5 h).1 acc with
  | some a=>zdj least (f+1) hs a
  | none=>none
  else none
def zd2 (H:List (List Sl)) (least:Int):List Cnd:=(zdj least 0 H []).getD []
theorem zzq {f:Int} {all:Sl} {least:Int} {l:List Sl} {i:Nat} {x:Sl} (acc:List Cnd) (hx:l[i]?=some x) (hi:i+1<l.length):zei f all least i (l.drop i) acc=if (zdl all x).2=true then zei f all least (i+1:Nat) (l.drop (i+1)) (if least≤x.n∧least≤(zdl all x).1.n then acc++[⟨f,i,x,(zdl all x).1⟩] else acc) else none:=by
 rw [zfr hx,zfr (List.getElem?_eq_getElem hi),zei]
 simp
theorem zp7 {f:Int} {all:Sl} {least:Int} {l:List Sl} {i:Nat} (acc:List Cnd) (hi : ¬ i+1<l.length):zei f all least i (l.drop i) acc=some acc:=by
 match h:l.drop i with
 | []=>rw [zei]; simp
 | [x]=>rw [zei]; simp
 | x::y::xs =>
  have:=congrArg List.length h
  simp at this; omega
theorem ybg {l:List Sl} {x:Sl} (h:l[l.length-1]?=some x):zfn l=x:=by
 unfold zfn; rw [List.getLast?_eq_getElem?,h]; rfl
def zqk (H:List (List Sl)) (x:Cnd):Prop := ∃ (f b:Nat) (h:List Sl),x.f=f∧x.b=b∧H[f]?=some h∧b+1<h.length∧slI x.a∧slI x.z
theorem z1e {f:Int} {all:Sl} {least:Int} {p:Cnd→Prop} {l:List Sl} (hl : ∀ x∈l,slI x) (hp : ∀ (b:Nat) (x z:Sl),b+1<l.length→slI x→slI z→p ⟨f,b,x,z⟩) : ∀ (k i:Nat) (acc a:List Cnd),i+k=l.length→(∀ x∈acc,p x)→zei f all least i (l.drop i) acc=some a→a.length≤acc.length+k∧∀ x∈a,p x
 | 0,i,acc,a,hk,ha,h=>by
  rw [zp7 acc (by omega)] at h
  cases h
  exact ⟨by omega,ha⟩
 | k+1,i,acc,a,hk,ha,h=>by
  by_cases hi:i+1<l.length
  ·obtain ⟨x,hx⟩ : ∃ x,l[i]?=some x:=⟨_,List.getElem?_eq_getElem (by omega)⟩
   rw [zzq acc hx hi] at h
   have hxi:=hl x (List.mem_of_getElem? hx)
   split at h
   ·split at h
    ·obtain ⟨h1,h2⟩:=z1e hl hp k (i+1) _ _ (by omega) (fun y hy=>by
      rcases List.mem_append.mp hy with e | e
      ·exact ha y e
      ·simp only [List.mem_singleton] at e; subst e; exact hp i x _ hi hxi (ytx _ _)) h
     exact ⟨by simp at h1; omega,h2⟩
    ·obtain ⟨h1,h2⟩:=z1e hl hp k (i+1) _ _ (by omega) ha h
     exact ⟨by omega,h2⟩
   ·cases h
  ·rw [zp7 acc hi] at h
   cases h
   exact ⟨by omega,ha⟩
theorem zy3 {least:Int} {H:List (List Sl)} {i:Nat} {h:List Sl} (acc:List Cnd) (hx:H[i]?=some h):zdj least i (H.drop i) acc=if (zb5 h).2=true then match zei i (zfn (zb5 h).1) least 0 (zb5 h).1 acc with
  | some a=>zdj least (i+1:Nat) (H.drop (i+1)) a
  | none=>none
  else none:=by
 rw [zfr hx,zdj]
 simp
theorem z8q {least:Int} {H:List (List Sl)} {m:Nat} (hm : ∀ l∈H,l.length≤m) : ∀ (k i:Nat) (acc a:List Cnd),i+k=H.length→(∀ x∈acc,zqk H x)→zdj least i (H.drop i) acc=some a→a.length≤acc.length+m*k∧∀ x∈a,zqk H x
 | 0,i,acc,a,hk,ha,h=>by
  rw [List.drop_eq_nil_of_le (by omega),zdj] at h
  cases h
  exact ⟨by omega,ha⟩
 | k+1,i,acc,a,hk,ha,h=>by
  obtain ⟨l,hx⟩ : ∃ x,H[i]?=some x:=⟨_,List.getElem?_eq_getElem (by omega)⟩
  rw [zy3 acc hx] at h
  obtain ⟨p1,p2,p3⟩:=z1u l
  split at h
  ·rename_i hp
   split at h
   ·rename_i a' h'
    have h'':zei i (zfn (zb5 l).1) least ((0:Nat):Int) ((zb5 l).1.drop 0) acc=some a':=by simpa using h'
    obtain ⟨q1,q2⟩:=z1e (p:=zqk H) p2 (fun b x z hb hx' hz'=>⟨i,b,l,rfl,rfl,hx,by omega,hx',hz'⟩) (zb5 l).1.length 0 acc a' (by omega) ha h''
    obtain ⟨r1,r2⟩:=z8q hm k (i+1) a' a (by omega) q2 h
    have:=hm l (List.mem_of_getElem? hx)
    refine ⟨?_,r2⟩
    rw [Nat.mul_add]
    omega
   ·cases h
  ·cases h
theorem yel {least:Int} {H:List (List Sl)} {m:Nat} (hm : ∀ l∈H,l.length≤m):(zd2 H least).length≤m*H.length∧∀ x∈zd2 H least,zqk H x:=by
 unfold zd2
 cases h:zdj least 0 H [] with
 | none=>simp
 | some a =>
  have h':zdj least ((0:Nat):Int) (H.drop 0) []=some a:=by simpa using h
  obtain ⟨h1,h2⟩:=z8q hm H.length 0 [] a (by omega) (fun x hx=>by cases hx) h'
  exact ⟨by simpa using h1,h2⟩
theorem ycn {H:List (List Sl)} {x:Cnd} (hH:H.length≤1048576) (hl : ∀ l∈H,l.length≤1048576) (h:zqk H x):zd4 x:=by
 obtain ⟨f,b,l,h1,h2,h3,h4,h5,h6⟩:=h
 have:=(List.getElem?_eq_some_iff.mp h3).1
 have:=hl l (List.mem_of_getElem? h3)
 exact ⟨by unfold inI; omega,by unfold inI; omega,h5,h6⟩
theorem z2z {c:Cfg} {b:Bd} {l:List Cnd} (h:(zeg c b l).2=true):(zeg c b l).1∈l∧zc8 c b (zeg c b l).1=true∧∀ y∈l,zc8 c b y=true→zde y (zeg c b l).1 c.la=false:=by
 unfold zeg at h ⊢
 cases e:l.find? (zkh c b l) with
 | none=>rw [e] at h; cases h
 | some x =>
  simp only
  have h1:=List.mem_of_find?_eq_some e
  have h2:=List.find?_some e
  unfold zkh at h2
  simp only [Bool.and_eq_true] at h2
  refine ⟨h1,h2.1,fun y hy hm => ?_⟩
  have:=List.all_eq_true.mp h2.2 y hy
  unfold noB at this
  rw [hm] at this
  simpa using this
theorem yod (a b:Sl) (ha:slI a) (hb:slI b):RUN T zn7 [.agg (slc a),.agg (slc b)]=some ([.agg (slc (zdl a b).1),bv (zdl a b).2],[]):=by
 have e1:=z7m a.n b.n ha.1 hb.1
 have e2:=z7m a.g b.g ha.2 hb.2
 unfold zdl
 generalize sbi a.n b.n=x at *
 generalize sbi a.g b.g=y at *
 obtain ⟨x,xb⟩:=x
 obtain ⟨y,yb⟩:=y
 simp only at e1 e2 ⊢
 refine zai z4z rfl ?_
 cases xb <;> cases yb <;> simp [zvj,zvk,e1,e2,slc]
theorem yd8 (m:List Sl) (x:Sl):za7 m++[[iv x.n,iv x.g]]=za7 (m++[x]):=by simp [za7,slc]
theorem yev {s x:Sl} {h:List Sl} {i:Nat} (hx:h[i]?=some x):zcm s (h.drop i)=if (zbc s x).2=true then (zcm (zbc s x).1 (h.drop (i+1))).map ((zbc s x).1 :: ·) else none:=by
 rw [zfr hx,zcm]
set_option maxHeartbeats 1000000 in
theorem yoe (h:List Sl) (hl:h.length≤1048576) (hi : ∀ x∈h,slI x):RUN T zn6 [.sl 2 (za7 h)]=some ([.own 2 (za7 (zb5 h).1),bv (zb5 h).2],[]):=by
 obtain ⟨R,hR⟩ : ∃ R,R=zb5 h:=⟨_,rfl⟩
 have hR':R=match zcm ⟨0,0⟩ h with
  | some l=>(l,true)
  | none=>([],false):=by rw [hR]; rfl
 rw [← hR]
 clear hR
 have hr0:zam 16 0=true:=by decide
 have hr1:zam 16 1=true:=by decide
 refine zai z4y rfl ?_
 simp [-getElem?_pos,zvh,zvi,hr0]
 refine za3 (fun n st => ∃ (i o e:Nat) (m:List Sl) (s:Sl),i+n=h.length∧m.length=i∧slI s∧zcm ⟨0,0⟩ h=(zcm s (h.drop i)).map (m ++ ·)∧st.V 4 = .ref o none e 0 m.length∧st.V 5 = .ptr 1 none 0 0 0∧st.V 12 = .sl 2 (za7 h)∧st.V 13=iv h.length∧st.V 14=iv i∧¬ o=1∧o<st.nx∧1<st.nx∧st.S o=some (.row 2 (za7 m))∧st.S 1=some (.box [iv s.n,iv s.g])) ?_ h.length _ ⟨0,0,0,[],⟨0,0⟩,by omega,rfl,zzo,by simp,by simp,by simp,by simp,by simp,by simp,by simp,by simp,by simp,by simp [za7],by simp⟩
 rintro n st ⟨i,o,ep,m,s,hin,hm,hs,hp,v4,v5,v12,v13,v14,ho1,hox,h1x,hSo,hS1⟩
 obtain ⟨x1,x2,x3,x4⟩:=fr hox
 obtain ⟨z1,z2,z3,z4⟩:=fr h1x
 obtain ⟨a1,a2,a3,a4⟩:=fr (show o<st.nx+1 by omega)
 obtain ⟨b1,b2,b3,b4⟩:=fr (show o<st.nx+2 by omega)
 obtain ⟨c1,c2,c3,c4⟩:=fr (show 1<st.nx+1 by omega)
 obtain ⟨d1,d2,d3,d4⟩:=fr (show 1<st.nx+2 by omega)
 have ho2 : ¬ 1=o:=fun e=>ho1 e.symm
 have hn0 : ¬ st.nx=0:=by omega
 have hn1 : ¬ 1=st.nx+1:=by omega
 by_cases hlt:i<h.length
 ·obtain ⟨x,hx⟩ : ∃ x,h[i]?=some x:=⟨_,List.getElem?_eq_getElem hlt⟩
  have hx':=zkc hx
  have hws:=wS hlt (by omega:h.length≤9223372036854775807)
  have hr16:zam 16 (m.length+1)=true:=by simp [zam]; omega
  have e1:=z0l s x hs (hi x (List.mem_of_getElem? hx))
  have hpi:=zj8 (b:=x) hs
  rw [yev hx] at hp
  generalize zbc s x=p at *
  obtain ⟨⟨pn,pg⟩,pb⟩:=p
  simp only [slc] at e1 hp hpi
  cases pb with
  | false =>
   rw [if_neg (by simp)] at hp
   rw [hp] at hR'
   subst hR'
   simp [-getElem?_pos,zvg,v4,v5,v12,v13,v14,hlt,hx',hSo,hS1,e1,ho1,ho2,hn0,x1,x2,x3,x4,z1,z2,z3,z4,a1,a2,a3,a4,b1,b2,b3,b4,c1,c2,c3,c4,d1,d2,d3,d4]
   simp [za7]
  | true =>
   rw [if_pos rfl] at hp
   have hsn:=yd8 m ⟨pn,pg⟩
   simp only at hsn
   simp [-getElem?_pos,zvg,v4,v5,v12,v13,v14,hlt,hx',hSo,hS1,hr1,hr16,hws,hsn,e1,ho1,ho2,hn0,x1,x2,x3,x4,z1,z2,z3,z4,a1,a2,a3,a4,b1,b2,b3,b4,c1,c2,c3,c4,d1,d2,d3,d4]
   exact zao (n-1) (by omega) ⟨i+1,st.nx+1+2,st.ep,m++[⟨pn,pg⟩],⟨pn,pg⟩,by omega,by simp [hm],hpi,by rw [hp]; cases zcm ⟨pn,pg⟩ (h.drop (i+1)) <;> simp,by simp,by simp [v5],by simp [v12],by simp [v13],by simp,by omega,by simp,by simp <;> omega,by simp [hn0],by simp [hn0]⟩
 ·rw [List.drop_eq_nil_of_le (by omega),zcm] at hp
  simp only [Option.map_some,List.append_nil] at hp
  rw [hp] at hR'
  subst hR'
  simp [-getElem?_pos,zvg,v4,v13,v14,hlt,hSo]
set_option maxHeartbeats 1000000 in
theorem yof (h:List Sl) (hl:h.length≤1048576) (hi : ∀ x∈h,slI x):RUN T zn9 [.sl 2 (za7 h)]=some ([.own 2 (za7 (zb5 h).1),bv (zb5 h).2],[]):=by
 obtain ⟨R,hR⟩ : ∃ R,R=zb5 h:=⟨_,rfl⟩
 have hR':R=match zcm ⟨0,0⟩ h with
  | some l=>(l,true)
  | none=>([],false):=by rw [hR]; rfl
 rw [← hR]
 clear hR
 have hr0:zam 16 0=true:=by decide
 have hr1:zam 16 1=true:=by decide
 refine zai z43 rfl ?_
 simp [-getElem?_pos,zvq,zvr,hr0]
 refine za3 (fun n st => ∃ (i o e:Nat) (m:List Sl) (s:Sl),i+n=h.length∧m.length=i∧slI s∧zcm ⟨0,0⟩ h=(zcm s (h.drop i)).map (m ++ ·)∧st.V 0 = .sl 2 (za7 h)∧st.V 4 = .ref o none e 0 m.length∧st.V 5 = .ptr 1 none 0 0 0∧st.V 6=iv i∧¬ o=1∧o<st.nx∧1<st.nx∧st.S o=some (.row 2 (za7 m))∧st.S 1=some (.box [iv s.n,iv s.g])) ?_ h.length _ ⟨0,0,0,[],⟨0,0⟩,by omega,rfl,zzo,by simp,by simp,by simp,by simp,by simp,by simp,by simp,by simp,by simp [za7],by simp⟩
 rintro n st ⟨i,o,ep,m,s,hin,hm,hs,hp,v0,v4,v5,v6,ho1,hox,h1x,hSo,hS1⟩
 obtain ⟨x1,x2,x3,x4⟩:=fr hox
 obtain ⟨z1,z2,z3,z4⟩:=fr h1x
 obtain ⟨a1,a2,a3,a4⟩:=fr (show o<st.nx+1 by omega)
 obtain ⟨c1,c2,c3,c4⟩:=fr (show 1<st.nx+1 by omega)
 have ho2 : ¬ 1=o:=fun e=>ho1 e.symm
 have hn0 : ¬ st.nx=0:=by omega
 have hn1 : ¬ 1=st.nx+1:=by omega
 by_cases hlt:i<h.length
 ·obtain ⟨x,hx⟩ : ∃ x,h[i]?=some x:=⟨_,List.getElem?_eq_getElem hlt⟩
  have hx':=zkc hx
  have hws:=wS hlt (by omega:h.length≤9223372036854775807)
  have hr16:zam 16 (m.length+1)=true:=by simp [zam]; omega
  have e1:=z0m s x hs (hi x (List.mem_of_getElem? hx))
  have hpi:=zj8 (b:=x) hs
  rw [yev hx] at hp
  generalize zbc s x=p at *
  obtain ⟨⟨pn,pg⟩,pb⟩:=p
  simp only [slc] at e1 hp hpi
  cases pb with
  | false =>
   rw [if_neg (by simp)] at hp
   rw [hp] at hR'
   subst hR'
   simp [-getElem?_pos,zvp,v0,v4,v5,v6,hlt,hx',hSo,hS1,hr0,e1,ho1,ho2,hn0,x1,x2,x3,x4,z1,z2,z3,z4,a1,a2,a3,a4,c1,c2,c3,c4]
   simp [za7]
  | true =>
   rw [if_pos rfl] at hp
   have hsn:=yd8 m ⟨pn,pg⟩
   simp only at hsn
   simp [-getElem?_pos,zvp,v0,v4,v5,v6,hlt,hx',hSo,hS1,hr1,hr16,hws,hsn,e1,ho1,ho2,hn0,x1,x2,x3,x4,z1,z2,z3,z4,a1,a2,a3,a4,c1,c2,c3,c4]
   exact zao (n-1) (by omega) ⟨i+1,st.nx+2,st.ep,m++[⟨pn,pg⟩],⟨pn,pg⟩,by omega,by simp [hm],hpi,by rw [hp]; cases zcm ⟨pn,pg⟩ (h.drop (i+1)) <;> simp,by simp [v0],by simp,by simp [v5],by simp,by omega,by simp,by simp <;> omega,by simp [hn0],by simp [hn0,ho1,ho2]⟩
 ·rw [List.drop_eq_nil_of_le (by omega),zcm] at hp
  simp only [Option.map_some,List.append_nil] at hp
  rw [hp] at hR'
  subst hR'
  simp [-getElem?_pos,zvp,v0,v4,v6,hlt,hSo]
theorem ycx (m:List Cnd) (x:Cnd):zby m++[[iv x.f,iv x.b,iv x.a.n,iv x.a.g,iv x.z.n,iv x.z.g]]=zby (m++[x]):=by simp [zby,cnd]
set_option maxHeartbeats 4000000 in
set_option maxRecDepth 4000 in
theorem yog (q:Bool) (H:List (List Sl)) (least:Int) (hH:H.length≤16) (hl : ∀ l∈H,l.length≤16) (hi : ∀ l∈H,∀ x∈l,slI x):RUN T zno [.sl 1 (rss q H),iv least]=some ([.own 6 (zby (zd2 H least))],[]):=by
 obtain ⟨R,hR⟩ : ∃ R,R=zd2 H least:=⟨_,rfl⟩
 have hR':R=(zdj least 0 H []).getD []:=hR
 rw [← hR]
 clear hR
 have hr0:zam 48 0=true:=by decide
 have hr1:zam 48 1=true:=by decide
 refine zai z30 rfl ?_
 simp [-getElem?_pos,zuc,zud,hr0]
 refine za3 (fun n st => ∃ (i o e:Nat) (acc:List Cnd),i+n=H.length∧acc.length≤16*i∧zdj least i (H.drop i) acc=zdj least 0 H []∧st.V 1=iv least∧st.V 5 = .ref o none e 0 acc.length∧st.V 14 = .sl 1 (rss q H)∧st.V 15=iv H.length∧st.V 16=iv i∧o<st.nx∧st.S o=some (.row 6 (zby acc))) ?_ H.length _ ⟨0,0,0,[],by omega,by simp,by simp,by simp,by simp,by simp,by simp,by simp,by simp,by simp [zby]⟩
 rintro n st ⟨i,o,ep,acc,hin,hacc,hF,v1,v5,v14,v15,v16,hox,hSo⟩
 obtain ⟨x1,x2,x3,x4⟩:=fr hox
 by_cases hlt:i<H.length
 ·obtain ⟨l,hx⟩ : ∃ x,H[i]?=some x:=⟨_,List.getElem?_eq_getElem hlt⟩
  have hx':=z8r (q:=q) hx
  have hlm:=List.mem_of_getElem? hx
  have hws:=wS hlt (by omega:H.length≤9223372036854775807)
  have hll:=hl l hlm
  have e1:=yoe l (by omega) (hi l hlm)
  obtain ⟨p1,p2,p3⟩:=z1u l
  rw [zy3 acc hx] at hF
  generalize zb5 l=p at *
  obtain ⟨sums,pb⟩:=p
  simp only at e1 p1 p2 p3 hF
  cases pb with
  | false =>
   rw [if_neg (by simp)] at hF
   rw [← hF] at hR'
   subst hR'
   simp [-getElem?_pos,zub,v1,v5,v14,v15,v16,hlt,hx',hSo,e1,x1,x2,x3,x4]
   simp [zby]
  | true =>
   rw [if_pos rfl] at hF
   have p3:=p3 rfl
   simp [-getElem?_pos,zub,v1,v5,v14,v15,v16,hlt,hx',hSo,e1,x1,x2,x3,x4]
   obtain ⟨tgt,htgt⟩ : ∃ t,t=zei i (zfn sums) least 0 sums acc:=⟨_,rfl⟩
   rw [← htgt] at hF
   obtain ⟨p,hpe⟩ : ∃ p,p=st.nx:=⟨_,rfl⟩
   refine za3 (fun n' s => ∃ (b o' e':Nat) (acc':List Cnd),b+n'=sums.length∧acc'.length≤16*i+b∧zei i (zfn sums) least b (sums.drop b) acc'=tgt∧s.V 1=iv least∧s.V 5 = .ref o' none e' 0 acc'.length∧s.V 6=iv i∧s.V 8 = .ref p none st.ep 0 sums.length∧s.V 10=iv b∧s.V 14 = .sl 1 (rss q H)∧s.V 15=iv H.length∧s.V 16=iv i∧¬ o'=p∧o'<s.nx∧p<s.nx∧s.S o'=some (.row 6 (zby acc'))∧s.S p=some (.row 2 (za7 sums))) ?_ sums.length _ ⟨0,o,ep,acc,by omega,by omega,by rw [htgt]; simp,by simp [v1],by simp [v5],by simp,by simp [hpe],by simp,by simp [v14],by simp [v15],by simp [v16],by omega,by simp; omega,by simp; omega,by simp [x1,x2,x3,x4,hSo],by simp [hpe]⟩
   clear v1 v5 v14 v15 v16 hox hSo x1 x2 x3 x4
   generalize st.ep=ep2
   rintro n' s ⟨b,o',e',acc',hbn,hacc',hB,v1,v5,v6,v8,v10,v14,v15,v16,hop,hox,hpx,hSo,hSp⟩
   obtain ⟨x1,x2,x3,x4⟩:=fr hox
   obtain ⟨z1,z2,z3,z4⟩:=fr hpx
   obtain ⟨a1,a2,a3,a4⟩:=fr (show o'<s.nx+1 by omega)
   obtain ⟨c1,c2,c3,c4⟩:=fr (show p<s.nx+1 by omega)
   have hpo : ¬ p=o':=fun e=>hop e.symm
   by_cases hb:b+1<sums.length
   ·obtain ⟨x,hx⟩ : ∃ x,sums[b]?=some x:=⟨_,List.getElem?_eq_getElem (by omega)⟩
    obtain ⟨y,hy⟩ : ∃ x,sums[sums.length-1]?=some x:=⟨_,List.getElem?_eq_getElem (by omega)⟩
    have hxs:=zkc hx
    have hys:=zkc hy
    have hly:=ybg hy
    have w1:IntKind.i64.wrap ((sums.length:Int)-1)=((sums.length-1:Nat):Int):=by rw [w64 (by omega) (by omega)]; omega
    have w2:=w64 (x:=(b:Int)+1) (by omega) (by omega)
    have k1:b<sums.length-1:=by omega
    have k2:b<sums.length:=by omega
    have k3:sums.length-1<sums.length:=by omega
    have hr48:zam 48 (acc'.length+1)=true:=by simp [zam]; omega
    have e2:=yod y x (p2 y (List.mem_of_getElem? hy)) (p2 x (List.mem_of_getElem? hx))
    rw [zzq acc' hx hb,hly] at hB
    generalize zdl y x=d at *
    obtain ⟨⟨dn,dg⟩,db⟩:=d
    simp only [slc] at e2 hB
    cases db with
    | false =>
     rw [if_neg (by simp)] at hB
     rw [← hB] at hF
     simp only at hF
     rw [← hF] at hR'
     simp only [Option.getD_none] at hR'
     subst hR'
     simp [-getElem?_pos,zpg,v1,v5,v6,v8,v10,v14,v15,v16,hSo,hSp,hxs,hys,w1,k1,k2,k3,e2,hop,hpo,x1,x2,x3,x4,z1,z2,z3,z4]
     simp [zby]
    | true =>
     rw [if_pos rfl] at hB
     by_cases g1:least≤x.n
     ·by_cases g2:least≤dn
      ·rw [if_pos ⟨g1,g2⟩] at hB
       have hsn:=ycx acc' ⟨i,b,x,⟨dn,dg⟩⟩
       simp only at hsn
       simp [-getElem?_pos,zpg,v1,v5,v6,v8,v10,v14,v15,v16,hSo,hSp,hxs,hys,w1,w2,k1,k2,k3,e2,g1,g2,hr1,hr48,hsn,hop,hpo,x1,x2,x3,x4,z1,z2,z3,z4,a1,a2,a3,a4,c1,c2,c3,c4]
       refine zao (n'-1) (by omega) ⟨b+1,s.nx+2,s.ep,acc'++[⟨i,b,x,⟨dn,dg⟩⟩],by omega,by simp; omega,by rw [hly]; exact hB,by simp [v1],by simp,by simp [v6],by simp [v8],by simp,by simp [v14],by simp [v15],by simp [v16],by omega,by simp,by simp; omega,by simp,by simp [hop,hpo,x1,x2,x3,x4,z1,z2,z3,z4,hSp]⟩
      ·rw [if_neg (fun h=>g2 h.2)] at hB
       simp [-getElem?_pos,zpg,v1,v5,v6,v8,v10,v14,v15,v16,hSo,hSp,hxs,hys,w1,w2,k1,k2,k3,e2,g1,g2,hop,hpo,x1,x2,x3,x4,z1,z2,z3,z4]
       refine zao (n'-1) (by omega) ⟨b+1,o',e',acc',by omega,by omega,by rw [hly]; exact hB,by simp [v1],by simp [v5],by simp [v6],by simp [v8],by simp,by simp [v14],by simp [v15],by simp [v16],hop,by simp; omega,by simp; omega,by simp [x1,x2,x3,x4,hSo],by simp [z1,z2,z3,z4,hSp]⟩
     ·rw [if_neg (fun h=>g1 h.1)] at hB
      simp [-getElem?_pos,zpg,v1,v5,v6,v8,v10,v14,v15,v16,hSo,hSp,hxs,hys,w1,w2,k1,k2,k3,e2,g1,hop,hpo,x1,x2,x3,x4,z1,z2,z3,z4]
      refine zao (n'-1) (by omega) ⟨b+1,o',e',acc',by omega,by omega,by rw [hly]; exact hB,by simp [v1],by simp [v5],by simp [v6],by simp [v8],by simp,by simp [v14],by simp [v15],by simp [v16],hop,by simp; omega,by simp; omega,by simp [x1,x2,x3,x4,hSo],by simp [z1,z2,z3,z4,hSp]⟩
   ·rw [zp7 acc' hb] at hB
    rw [← hB] at hF
    simp only at hF
    have w1:IntKind.i64.wrap ((sums.length:Int)-1)=(sums.length:Int)-1:=w64 (by omega) (by omega)
    have k1 : ¬ (b:Int)<(sums.length:Int)-1:=by omega
    simp [-getElem?_pos,zpg,v8,v10,v16,hSp,w1,k1,hws]
    exact zao (n-1) (by omega) ⟨i+1,o',e',acc',by omega,by omega,hF,by simp [v1],by simp [v5],by simp [v14],by simp [v15],by simp,by simp [hox],by simp [hSo]⟩
 ·rw [List.drop_eq_nil_of_le (by omega),zdj] at hF
  rw [← hF] at hR'
  simp only [Option.getD_some] at hR'
  subst hR'
  simp [-getElem?_pos,zub,v5,v15,v16,hlt,hSo]
set_option maxHeartbeats 4000000 in
set_option maxRecDepth 4000 in
theorem yoh (q:Bool) (H:List (List Sl)) (least:Int) (hH:H.length≤16) (hl : ∀ l∈H,l.length≤16) (hi : ∀ l∈H,∀ x∈l,slI x):RUN T znr [.sl 1 (rss q H),iv least]=some ([.own 6 (zby (zd2 H least))],[]):=by
 obtain ⟨R,hR⟩ : ∃ R,R=zd2 H least:=⟨_,rfl⟩
 have hR':R=(zdj least 0 H []).getD []:=hR
 rw [← hR]
 clear hR
 have hr0:zam 48 0=true:=by decide
 have hr1:zam 48 1=true:=by decide
 refine zai z33 rfl ?_
 simp [-getElem?_pos,zui,zuj,hr0]
 refine za3 (fun n st => ∃ (i o e:Nat) (acc:List Cnd),i+n=H.length∧acc.length≤16*i∧zdj least i (H.drop i) acc=zdj least 0 H []∧st.V 1=iv least∧st.V 5 = .ref o none e 0 acc.length∧st.V 0 = .sl 1 (rss q H)∧st.V 6=iv i∧o<st.nx∧st.S o=some (.row 6 (zby acc))) ?_ H.length _ ⟨0,0,0,[],by omega,by simp,by simp,by simp,by simp,by simp,by simp,by simp,by simp [zby]⟩
 rintro n st ⟨i,o,ep,acc,hin,hacc,hF,v1,v5,v0,v6,hox,hSo⟩
 obtain ⟨x1,x2,x3,x4⟩:=fr hox
 by_cases hlt:i<H.length
 ·obtain ⟨l,hx⟩ : ∃ x,H[i]?=some x:=⟨_,List.getElem?_eq_getElem hlt⟩
  have hx':=z8r (q:=q) hx
  have hlm:=List.mem_of_getElem? hx
  have hws:=wS hlt (by omega:H.length≤9223372036854775807)
  have hll:=hl l hlm
  have e1:=yof l (by omega) (hi l hlm)
  obtain ⟨p1,p2,p3⟩:=z1u l
  rw [zy3 acc hx] at hF
  generalize zb5 l=p at *
  obtain ⟨sums,pb⟩:=p
  simp only at e1 p1 p2 p3 hF
  cases pb with
  | false =>
   rw [if_neg (by simp)] at hF
   rw [← hF] at hR'
   subst hR'
   simp [-getElem?_pos,zuh,v0,v1,v5,v6,hlt,hx',hSo,e1,hr0,x1,x2,x3,x4]
   simp [zby]
  | true =>
   rw [if_pos rfl] at hF
   have p3:=p3 rfl
   simp [-getElem?_pos,zuh,v0,v1,v5,v6,hlt,hx',hSo,e1,hr0,x1,x2,x3,x4]
   obtain ⟨tgt,htgt⟩ : ∃ t,t=zei i (zfn sums) least 0 sums acc:=⟨_,rfl⟩
   rw [← htgt] at hF
   obtain ⟨p,hpe⟩ : ∃ p,p=st.nx:=⟨_,rfl⟩
   refine za3 (fun n' s => ∃ (b o' e':Nat) (acc':List Cnd),b+n'=sums.length∧acc'.length≤16*i+b∧zei i (zfn sums) least b (sums.drop b) acc'=tgt∧s.V 0 = .sl 1 (rss q H)∧s.V 1=iv least∧s.V 5 = .ref o' none e' 0 acc'.length∧s.V 6=iv i∧s.V 7 = .ref p none st.ep 0 sums.length∧s.V 9=iv b∧¬ o'=p∧o'<s.nx∧p<s.nx∧s.S o'=some (.row 6 (zby acc'))∧s.S p=some (.row 2 (za7 sums))) ?_ sums.length _ ⟨0,o,ep,acc,by omega,by omega,by rw [htgt]; simp,by simp [v0],by simp [v1],by simp [v5],by simp [v6],by simp [hpe],by simp,by omega,by simp; omega,by simp; omega,by simp [x1,x2,x3,x4,hSo],by simp [hpe]⟩
   clear v0 v1 v5 v6 hox hSo x1 x2 x3 x4
   generalize st.ep=ep2
   rintro n' s ⟨b,o',e',acc',hbn,hacc',hB,v0,v1,v5,v6,v7,v9,hop,hox,hpx,hSo,hSp⟩
   obtain ⟨x1,x2,x3,x4⟩:=fr hox
   obtain ⟨z1,z2,z3,z4⟩:=fr hpx
   obtain ⟨a1,a2,a3,a4⟩:=fr (show o'<s.nx+1 by omega)
   obtain ⟨c1,c2,c3,c4⟩:=fr (show p<s.nx+1 by omega)
   have hpo : ¬ p=o':=fun e=>hop e.symm
   by_cases hb:b+1<sums.length
   ·obtain ⟨x,hx⟩ : ∃ x,sums[b]?=some x:=⟨_,List.getElem?_eq_getElem (by omega)⟩
    obtain ⟨y,hy⟩ : ∃ x,sums[sums.length-1]?=some x:=⟨_,List.getElem?_eq_getElem (by omega)⟩
    have hxs:=zkc hx
    have hys:=zkc hy
    have hly:=ybg hy
    have w1:IntKind.i64.wrap ((sums.length:Int)-1)=((sums.length-1:Nat):Int):=by rw [w64 (by omega) (by omega)]; omega
    have w2:=w64 (x:=(b:Int)+1) (by omega) (by omega)
    have k1:(b:Int)+1<(sums.length:Int):=by omega
    have k2:b<sums.length:=by omega
    have k3:sums.length-1<sums.length:=by omega
    have hr48:zam 48 (acc'.length+1)=true:=by simp [zam]; omega
    have e2:=z7n y.n x.n (p2 y (List.mem_of_getElem? hy)).1 (p2 x (List.mem_of_getElem? hx)).1
    have e3:=z7n y.g x.g (p2 y (List.mem_of_getElem? hy)).2 (p2 x (List.mem_of_getElem? hx)).2
    rw [zzq acc' hx hb,hly] at hB
    unfold zdl at hB
    generalize sbi y.n x.n=d at *
    generalize sbi y.g x.g=d' at *
    obtain ⟨dn,db⟩:=d
    obtain ⟨dg,db'⟩:=d'
    simp only at e2 e3 hB
    obtain ⟨dd,hdd⟩ : ∃ dd,dd=(db && db'):=⟨_,rfl⟩
    rw [← hdd] at hB
    cases dd with
    | false =>
     simp only [Bool.false_eq_true,if_false] at hB
     rw [← hB] at hF
     simp only at hF
     rw [← hF] at hR'
     simp only [Option.getD_none] at hR'
     subst hR'
     cases db with
     | false =>
      simp [-getElem?_pos,zlx,v0,v1,v5,v6,v7,v9,hSo,hSp,hxs,hys,w1,w2,k1,k2,k3,e2,e3,hr0,hop,hpo,x1,x2,x3,x4,z1,z2,z3,z4,a1,a2,a3,a4,c1,c2,c3,c4]
      simp [zby]
     | true =>
      have hd2:db'=false:=by simpa using hdd.symm
      subst hd2
      simp [-getElem?_pos,zlx,v0,v1,v5,v6,v7,v9,hSo,hSp,hxs,hys,w1,w2,k1,k2,k3,e2,e3,hr0,hop,hpo,x1,x2,x3,x4,z1,z2,z3,z4,a1,a2,a3,a4,c1,c2,c3,c4]
      simp [zby]
    | true =>
     obtain ⟨hd1,hd2⟩:db=true∧db'=true:=by simpa using hdd.symm
     subst hd1 hd2
     simp only [if_true] at hB
     by_cases g1:least≤x.n
     ·by_cases g2:least≤dn
      ·rw [if_pos ⟨g1,g2⟩] at hB
       have hsn:=ycx acc' ⟨i,b,x,⟨dn,dg⟩⟩
       simp only at hsn
       simp [-getElem?_pos,zlx,v0,v1,v5,v6,v7,v9,hSo,hSp,hxs,hys,w1,w2,k1,k2,k3,e2,e3,hr0,hop,hpo,x1,x2,x3,x4,z1,z2,z3,z4,a1,a2,a3,a4,c1,c2,c3,c4,g1,g2,hr1,hr48,hsn]
       refine zao (n'-1) (by omega) ⟨b+1,s.nx+2,s.ep,acc'++[⟨i,b,x,⟨dn,dg⟩⟩],by omega,by simp; omega,by rw [hly]; exact hB,by simp [v0],by simp [v1],by simp,by simp [v6],by simp [v7],by simp,by omega,by simp,by simp; omega,by simp,by simp [hop,hpo,x1,x2,x3,x4,z1,z2,z3,z4,hSp]⟩
      ·rw [if_neg (fun h=>g2 h.2)] at hB
       simp [-getElem?_pos,zlx,v0,v1,v5,v6,v7,v9,hSo,hSp,hxs,hys,w1,w2,k1,k2,k3,e2,e3,hr0,hop,hpo,x1,x2,x3,x4,z1,z2,z3,z4,a1,a2,a3,a4,c1,c2,c3,c4,g1,g2]
       refine zao (n'-1) (by omega) ⟨b+1,o',e',acc',by omega,by omega,by rw [hly]; exact hB,by simp [v0],by simp [v1],by simp [v5],by simp [v6],by simp [v7],by simp,hop,by simp; omega,by simp; omega,by simp [x1,x2,x3,x4,hSo],by simp [z1,z2,z3,z4,hSp]⟩
     ·rw [if_neg (fun h=>g1 h.1)] at hB
      simp [-getElem?_pos,zlx,v0,v1,v5,v6,v7,v9,hSo,hSp,hxs,hys,w1,w2,k1,k2,k3,e2,e3,hr0,hop,hpo,x1,x2,x3,x4,z1,z2,z3,z4,a1,a2,a3,a4,c1,c2,c3,c4,g1]
      refine zao (n'-1) (by omega) ⟨b+1,o',e',acc',by omega,by omega,by rw [hly]; exact hB,by simp [v0],by simp [v1],by simp [v5],by simp [v6],by simp [v7],by simp,hop,by simp; omega,by simp; omega,by simp [x1,x2,x3,x4,hSo],by simp [z1,z2,z3,z4,hSp]⟩
   ·rw [zp7 acc' hb] at hB
    rw [← hB] at hF
    simp only at hF
    have w1:IntKind.i64.wrap ((sums.length:Int)-1)=(sums.length:Int)-1:=w64 (by omega) (by omega)
    have w2:=w64 (x:=(b:Int)+1) (by omega) (by omega)
    have k1 : ¬ (b:Int)+1<(sums.length:Int):=by omega
    simp [-getElem?_pos,zlx,v6,v7,v9,hSp,w2,k1,hws]
    exact zao (n-1) (by omega) ⟨i+1,o',e',acc',by omega,by omega,hF,by simp [v1],by simp [v5],by simp [v0],by simp,by simp [hox],by simp [hSo]⟩
 ·rw [List.drop_eq_nil_of_le (by omega),zdj] at hF
  rw [← hF] at hR'
  simp only [Option.getD_some] at hR'
  subst hR'
  simp [-getElem?_pos,zuh,v0,v5,v6,hlt,hSo]
def zcw (c v:List (List Int)) (g:List Int) (cfg:Cfg) (rows:List Int) (b:Bd):Cnd×Bool:=if zh3 c v g cfg=true then (if (zbu c v g rows).2=true then zeg cfg b (zd2 (zbu c v g rows).1 cfg.rw) else (zi5,false)) else (zi5,false)
theorem z99 {b g:List Int} : ∀ (rows:List Int) (h h':List Sl),(∀ x∈h,slI x)→zb3 b g rows h=some h'→∀ x∈h',slI x
 | [],h,h',hh,e=>by simp [zb3] at e; subst e; exact hh
 | r::rs,h,h',hh,e=>by
  simp only [zb3] at e
  split at e
  ·split at e
   ·rename_i s hs
    split at e
    ·refine z99 rs _ _ (fun x hx => ?_) e
     rcases List.mem_or_eq_of_mem_set hx with h1 | h1
     ·exact hh x h1
     ·subst h1
      obtain ⟨_,_,h3,_⟩:=zf3 hs
      exact zj8 (hh _ (List.mem_of_getElem? h3))
    ·cases e
   ·cases e
  ·cases e
theorem ypu (b g rows:List Int) (k:Int) : ∀ x∈(zb9 b g rows k).1,slI x:=by
 unfold zb9
 split
 ·cases h:zb3 b g rows (List.replicate k.toNat ⟨0,0⟩) with
  | none=>simp
  | some h'=>exact z99 _ _ _ (fun x hx=>by rw [List.eq_of_mem_replicate hx]; exact zzo) h
 ·simp
theorem yb8 {g rows:List Int} : ∀ (c v:List (List Int)) (H:List (List Sl)),zb2 g rows c v=some H→∀ l∈H,∀ x∈l,slI x
 | [],v,H,h=>by simp [zb2] at h; subst h; simp
 | x::c,[],H,h=>by simp [zb2] at h; subst h; simp
 | x::c,y::v,H,h=>by
  simp only [zb2] at h
  split at h
  ·simp only [Option.map_eq_some_iff] at h
   obtain ⟨H',h1,rfl⟩:=h
   intro l hl
   rcases List.mem_cons.mp hl with e | e
   ·subst e; exact ypu _ _ _ _
   ·exact yb8 c v H' h1 l e
  ·cases h
theorem z8d (c v:List (List Int)) (g rows:List Int) : ∀ l∈(zbu c v g rows).1,∀ x∈l,slI x:=by
 unfold zbu
 split
 ·cases h:zb2 g rows c v with
  | none=>simp
  | some H=>exact yb8 c v H h
 ·simp
theorem zzw (c v:List (List Int)) (g rows:List Int):(zbu c v g rows).1.length≤4:=by
 by_cases h:zdq c v=true
 ·have:=(zqh c v g rows).1
  have:=z1p h
  omega
 ·unfold zbu
  rw [if_neg h]; simp
theorem ycs (c v:List (List Int)) (g rows:List Int) (least:Int):(zd2 (zbu c v g rows).1 least).length≤1048576∧∀ x∈zd2 (zbu c v g rows).1 least,zd4 x:=by
 have h1:=zzw c v g rows
 have h2:=(zqh c v g rows).2
 obtain ⟨h3,h4⟩:=yel (least:=least) h2
 exact ⟨by omega,fun x hx=>ycn (by omega) (fun l hl=>Nat.le_trans (h2 l hl) (by omega)) (h4 x hx)⟩
set_option maxHeartbeats 1000000 in
theorem yoi (q:Bool) (c v:List (List Int)) (g:List Int) (cfg:Cfg) (rows:List Int) (b:Bd) (hc : ∀ l∈c,l.length≤1048576) (hv : ∀ l∈v,l.length≤1048576) (hg:g.length≤1048576) (hr:rows.length≤1048576) (hs:cfg.sg.length≤1048576) (hgi : ∀ x∈g,inI x):RUN T znd [.agg [.sl 1 (rws q c),.sl 1 (rws q v)],.sl 1 (zac g),cfS cfg,.sl 1 (zac rows),.agg (bnd b)]=some ([.agg (cnd (zcw c v g cfg rows b).1),bv (zcw c v g cfg rows b).2],[]):=by
 have e1:=ym9 q c v g cfg (fun l hl=>Nat.le_trans (hc l hl) (by omega)) (fun l hl=>Nat.le_trans (hv l hl) (by omega)) (by omega) (by omega)
 have e2:=ynl q c v g rows hc hv hg hr hgi
 obtain ⟨f1,f2⟩:=ycs c v g rows cfg.rw
 have e3:=yog true (zbu c v g rows).1 cfg.rw (by have:=zzw c v g rows; omega) (fun l hl=>by have:=(zqh c v g rows).2 l hl; omega) (z8d c v g rows)
 have e4:=yoc cfg b (zd2 (zbu c v g rows).1 cfg.rw) f1 hs f2
 unfold zcw
 simp only [zgj,bnd] at e1 e4
 generalize zh3 c v g cfg=t at *
 generalize zbu c v g rows=H at *
 obtain ⟨H,hb⟩:=H
 simp only at e2 e3 e4 ⊢
 generalize zeg cfg b (zd2 H cfg.rw)=r at *
 generalize zd2 H cfg.rw=L at *
 obtain ⟨r,rb⟩:=r
 simp only [cnd] at e4 ⊢
 refine zai z3k rfl ?_
 cases t with
 | false=>simp [-getElem?_pos,zo8,zo9,bnd,e1,zi5]
 | true =>
  cases hb with
  | false=>simp [-getElem?_pos,zo8,zo9,bnd,e1,e2,zi5]
  | true =>
   simp [-getElem?_pos,zo8,zo9,bnd,e1,e2,e3,e4]
set_option maxHeartbeats 1000000 in
theorem yoj (q:Bool) (c v:List (List Int)) (g:List Int) (cfg:Cfg) (rows:List Int) (b:Bd) (hc : ∀ l∈c,l.length≤1048576) (hv : ∀ l∈v,l.length≤1048576) (hg:g.length≤1048576) (hr:rows.length≤1048576) (hs:cfg.sg.length≤1048576) (hgi : ∀ x∈g,inI x):RUN T zne [.agg [.sl 1 (rws q c),.sl 1 (rws q v)],.sl 1 (zac g),cfS cfg,.sl 1 (zac rows),.agg (bnd b)]=some ([.agg (cnd (zcw c v g cfg rows b).1),bv (zcw c v g cfg rows b).2],[]):=by
 have e1:=yna q c v g cfg (fun l hl=>Nat.le_trans (hc l hl) (by omega)) (fun l hl=>Nat.le_trans (hv l hl) (by omega)) (by omega) (by omega)
 have e2:=ynm q c v g rows hc hv hg hr hgi
 obtain ⟨f1,f2⟩:=ycs c v g rows cfg.rw
 have e3:=yoh true (zbu c v g rows).1 cfg.rw (by have:=zzw c v g rows; omega) (fun l hl=>by have:=(zqh c v g rows).2 l hl; omega) (z8d c v g rows)
 have e4:=yob cfg b (zd2 (zbu c v g rows).1 cfg.rw) f1 hs f2
 unfold zcw
 simp only [zgj,bnd] at e1 e4
 generalize zh3 c v g cfg=t at *
 generalize zbu c v g rows=H at *
 obtain ⟨H,hb⟩:=H
 simp only at e2 e3 e4 ⊢
 generalize zeg cfg b (zd2 H cfg.rw)=r at *
 generalize zd2 H cfg.rw=L at *
 obtain ⟨r,rb⟩:=r
 simp only [cnd] at e4 ⊢
 refine zai z3l rfl ?_
 cases t with
 | false=>simp [-getElem?_pos,zpa,zpb,bnd,e1,zi5]
 | true =>
  cases hb with
  | false=>simp [-getElem?_pos,zpa,zpb,bnd,e1,e2,zi5]
  | true =>
   simp [-getElem?_pos,zpa,zpb,bnd,e1,e2,e3,e4]
def zqd (g:List Int) (rows:List Int):Sl:=⟨rows.length,(rows.map fun r=>(atI g r).getD 0).sum⟩
def ziq (bins:List Int) (b r:Int):Bool:=match atI bins r with
 | some x=>decide (x≤b)
 | none=>false
def zs5 (bins:List Int) (b r:Int):Bool:=match atI bins r with
 | some x => !decide (x≤b)
 | none=>false
def zdw (bins rows:List Int) (b:Int):List Int:=rows.filter (ziq bins b)
def zg0 (bins rows:List Int) (b:Int):List Int:=rows.filter (zs5 bins b)
structure Pnd where
 r:List Int
 b:Bd
 l:Int
def goes (c v:List (List Int)) (g:List Int) (cfg:Cfg) (x:Pnd):Bool:=decide (x.l<cfg.de) && (zcw c v g cfg x.r x.b).2
def zzc:Bd:=⟨-1099511627776,1099511627776⟩
theorem yc8 {bins rows:List Int} {b r:Int}:(r∈zdw bins rows b→r∈rows)∧(r∈zg0 bins rows b→r∈rows):=⟨fun h=>(List.mem_filter.mp h).1,fun h=>(List.mem_filter.mp h).1⟩
theorem yce {c v:List (List Int)} {g:List Int} {cfg:Cfg} (h:zh3 c v g cfg=true):zdq c v=true∧zci cfg=true∧g.length=zdt v∧(∀ x∈g,-2199023255552≤x∧x≤2199023255552):=by
 unfold zh3 at h
 simp only [Bool.and_eq_true,decide_eq_true_eq] at h
 exact ⟨h.1.1.1,h.1.1.2,by omega,fun x hx=>zbb.mp (List.all_eq_true.mp h.2 x hx)⟩
theorem ya6 {c v:List (List Int)} {g:List Int} {cfg:Cfg} {rows:List Int} {b:Bd} (h:(zcw c v g cfg rows b).2=true):zqk (zbu c v g rows).1 (zcw c v g cfg rows b).1∧(zbu c v g rows).2=true:=by
 unfold zcw at h ⊢
 split
 ·rename_i h1
  rw [if_pos h1] at h
  split
  ·rename_i h2
   rw [if_pos h2] at h
   obtain ⟨h3,_,_⟩:=z2z h
   exact ⟨(yel (zqh c v g rows).2).2 _ h3,h2⟩
  ·rename_i h2
   rw [if_neg h2] at h; cases h
 ·rename_i h1
  rw [if_neg h1] at h; cases h
theorem z78:RUN T zko []=some ([.agg (bnd zzc)],[]):=by
 refine zai z3t rfl ?_
 simp [zty,ztz,bnd,zzc]
def upl (n:Nat):List Int:=(List.range n).map fun (i:Nat)=>(i:Int)
@[simp] theorem y8o (n:Nat):(upl n).length=n:=by simp [upl]
@[simp] theorem y8i:upl 0=[]:=rfl
def zff (g rows:List Int) (i:Nat):Int:=((rows.take i).map fun r=>(atI g r).getD 0).sum
theorem yts {g rows:List Int} {i:Nat} {r x:Int} (hr:rows[i]?=some r) (hx:atI g r=some x):zff g rows (i+1)=zff g rows i+x:=by
 unfold zff
 rw [List.take_succ,hr]
 simp [hx]
end Go.Pe
