/- What each function answers by the evaluator,and the law; for each answer its own conditions stand ahead of it. -/
import Derived.Test.YtadpenaldhkjcaaGreatK0
import Derived.Test.YtadpenaldhkjcaaGreatEvB2
import Derived.IntWalk
set_option linter.all false
namespace Go.Pe
open Go
theorem w64 {x:Int} (h1 : -9223372036854775808≤x) (h2:x≤9223372036854775807):IntKind.i64.wrap x=x:=IntWalk.i64_in x ⟨h1,h2⟩
@[simp] theorem yvs {x:Int} (h1 : -9223372036854775808≤x) (h2:x≤9223372036854775807):IntKind.i64.wrap x=x:=w64 h1 h2
structure Nd where
 f:Int
 c:Int
 l:Int
 r:Int
 v:Int
deriving DecidableEq
def nd (n:Nd):List PV:=[iv n.f,iv n.c,iv n.l,iv n.r,iv n.v]
@[simp] theorem zde (a b c:Int):RUN T zca [iv a,iv b,iv c]=some ([bv (decide (b≤a) && decide (a≤c))],[]):=by
 refine zae z2m rfl ?_
 simp [zsk,zsl]
 refine zcj (fun h => ?_) (fun h => ?_) <;> simp [h]
@[simp] theorem zc9 (a b c:Int):RUN T zdr [iv a,iv b,iv c]=some ([bv (decide (b≤a) && decide (a≤c))],[]):=by
 refine zae z2a rfl ?_
 simp [zr8,zr9]
 refine zcj (fun h => ?_) (fun h => ?_) <;> simp [h]
def zh3 {α:Type} (p:α→Bool) (l:List α):Int:=match l.findIdx? p with
 | some i=>(i:Int)
 | none => -1
theorem z6r {α:Type} {p:α→Bool} {l:List α} (h : ∀ (j:Nat) (x:α),j<l.length→l[j]?=some x→p x=false):zh3 p l = -1:=by
 unfold zh3
 have:l.findIdx? p=none:=by
  rw [List.findIdx?_eq_none_iff]
  intro x hx
  obtain ⟨j,hj⟩:=List.getElem?_of_mem hx
  exact h j x (List.getElem?_eq_some_iff.mp hj).1 hj
 rw [this]
theorem z6s {α:Type} {p:α→Bool} {l:List α} {i:Nat} {x:α} (hi:l[i]?=some x) (hp:p x=true) (h : ∀ (j:Nat) (x:α),j<i→l[j]?=some x→p x=false):zh3 p l=i:=by
 unfold zh3
 have:l.findIdx? p=some i:=by
  rw [List.findIdx?_eq_some_iff_getElem]
  obtain ⟨h1,h2⟩:=List.getElem?_eq_some_iff.mp hi
  refine ⟨h1,by rw [h2]; exact hp,fun j hj => ?_⟩
  have:=h j l[j] hj (List.getElem?_eq_getElem (by omega))
  simp [this]
 rw [this]
theorem z8p {α:Type} {p:α→Bool} {l:List α} {i:Nat} {x:α} (h : ∀ (j:Nat) (x:α),j<i→l[j]?=some x→p x=false) (hi:l[i]?=some x) (hp:p x=false) : ∀ (j:Nat) (x:α),j<i+1→l[j]?=some x→p x=false:=by
 intro j y hj hy
 by_cases e:j=i
 ·subst e; rw [hi] at hy; cases hy; exact hp
 ·exact h j y (by omega) hy
def z9k (k:Int) (n:Nd):Bool := !decide (n.f = -1) && (decide (n.l=k) || decide (n.r=k))
def par (t:List Nd) (k:Int):Int:=zh3 (z9k k) t
theorem wS {i n:Nat} (h:i<n) (hn:n≤9223372036854775807):IntKind.i64.wrap ((i:Int)+1)=(i:Int)+1:=w64 (by omega) (by omega)
def fil {α β:Type} (f:α→β) (z:β) (l:List α) (i:Nat):List β:=(l.take i).map f++List.replicate (l.length-i) z
theorem ya3 {α β:Type} {f:α→β} {l:List α} {z:β} {i:Nat} {x:α} (hx:l[i]?=some x):(fil f z l i).set i (f x)=fil f z l (i+1):=by
 unfold fil
 obtain ⟨h1,h2⟩:=List.getElem?_eq_some_iff.mp hx
 apply List.ext_getElem?
 intro j
 rw [List.getElem?_set]
 simp only [List.length_append,List.length_map,List.length_take,List.length_replicate]
 by_cases e:i=j
 ·subst e
  rw [if_pos rfl,if_pos (by omega),List.getElem?_append_left (by simp; omega)]
  simp [List.getElem?_take,hx]
 ·rw [if_neg e]
  by_cases hj:j<i
  ·rw [List.getElem?_append_left (by simp; omega),List.getElem?_append_left (by simp; omega)]
   simp [List.getElem?_take,hj,show j<i+1 by omega]
  ·rw [List.getElem?_append_right (by simp; omega),List.getElem?_append_right (by simp; omega)]
   simp [List.getElem?_replicate]
   congr 1
   simp; omega
theorem ybe {α β:Type} {f:α→β} {l:List α} {z:β} {i:Nat} (h:i<l.length):(fil f z l i)[i]?=some z:=by
 unfold fil
 rw [List.getElem?_append_right (by simp; omega)]
 simp [List.getElem?_replicate]; omega
theorem z9d {α β:Type} {f:α→β} {l:List α} {z:β} {i:Nat} (h:i≤l.length):(fil f z l i).length=l.length:=by unfold fil; simp; omega
theorem ya7 {α β:Type} {f:α→β} {l:List α} {z:β}:fil f z l 0=List.replicate l.length z:=by simp [fil]
theorem z8d {α β:Type} {f:α→β} {l:List α} {z:β} {i:Nat} (h:i=l.length):fil f z l i=l.map f:=by subst h; simp [fil]
def zaf (l:List Int):List (List PV):=l.map fun n=>[iv n]
@[simp] theorem z8i (l:List Int):(zaf l).length=l.length:=by simp [zaf]
theorem zcp {l:List Int} {i:Nat} {x:Int} (h:l[i]?=some x):(zaf l)[i]?=some [iv x]:=by simp [zaf,h]
@[simp] theorem ywq:zaf []=[]:=rfl
theorem zqg (x:Int) (l:List Int):zaf (x::l)=[iv x]::zaf l:=rfl
theorem zot (l:List Int) (x:Int):zaf l++[[iv x]]=zaf (l++[x]):=by simp [zaf]
def anc (t:List Nd):Nat→Int→Option (List Int)
 | 0,_=>none
 | n+1,k=>if par t k<0 then some [] else (anc t n (par t k)).map (par t k :: ·)
def way (t:List Nd) (k:Int):List Int:=if 0≤k∧k≤t.length-1 then match anc t 32 k with
  | some l=>(k::l).reverse
  | none=>[]
 else []
theorem zln {n:Nat} (h:n≤17592186044416):zb7 8 n=true:=by simp [zb7]; omega
def mix {β:Type} (f:Nat→β) (l:List β) (i:Nat):List β:=(List.range i).map f++l.drop i
theorem z0r {β:Type} {f:Nat→β} {l:List β}:mix f l 0=l:=by simp [mix]
theorem zz3 {β:Type} {f:Nat→β} {l:List β} {i:Nat} (h:i=l.length):mix f l i=(List.range i).map f:=by subst h; simp [mix]
theorem z07 {β:Type} {f:Nat→β} {l:List β} {i:Nat} (h:i≤l.length):(mix f l i).length=l.length:=by simp [mix]; omega
theorem z0m {β:Type} {f:Nat→β} {l:List β} {i:Nat}:(mix f l i)[i]?=l[i]?:=by
 unfold mix
 rw [List.getElem?_append_right (by simp)]
 simp
theorem zzd {β:Type} {f:Nat→β} {l:List β} {i:Nat} (h:i<l.length):(mix f l i).set i (f i)=mix f l (i+1):=by
 unfold mix
 apply List.ext_getElem?
 intro j
 rw [List.getElem?_set]
 simp only [List.length_append,List.length_map,List.length_range,List.length_drop]
 by_cases e:i=j
 ·subst e
  rw [if_pos rfl,if_pos (by omega),List.getElem?_append_left (by simp)]
  simp
 ·rw [if_neg e]
  by_cases hj:j<i
  ·rw [List.getElem?_append_left (by simp; omega),List.getElem?_append_left (by simp; omega)]
   simp [hj,show j<i+1 by omega]
  ·rw [List.getElem?_append_right (by simp; omega),List.getElem?_append_right (by simp; omega)]
   simp
   congr 1
   omega
theorem z41 (es:List (List PV)) (left:Int) (h0:0≤left) (h1:left≤1048576) (hl:es.length≤9223372036854775807):RUN T zjz [.sl 1 es,iv left]=some ([iv (if left-es.length<0 then -1 else left-es.length)],[]):=by
 refine zae z20 rfl ?_
 have e:=w64 (x:=left-es.length) (by omega) (by omega)
 simp [zs3,zs4,e]
 refine zcj (fun h => ?_) (fun h => ?_) <;> simp at h <;> simp [h]
 omega
theorem zx1 (l:List Int) (hl:l.length≤1048576):RUN T zf5 [.sl 1 (zaf l)]=some ([.own 1 (zaf l)],[]):=by
 refine zae z1z rfl ?_
 have hr:zb7 8 l.length=true:=zln (by omega)
 simp [zrm,zrn,hr]
 refine zbu (fun n st => ∃ i:Nat,i+n=l.length∧st.V 0 = .sl 1 (zaf l)∧st.V 3 = .ref 0 none 0 0 l.length∧st.V 4=iv i∧st.ep=0∧st.S 0=some (.row 1 (fil (fun n=>[iv n]) [iv 0] l i))) ?_ l.length _ ⟨0,by simp [ya7]⟩
 rintro n st ⟨i,hi,h0,h3,h4,hep,hS⟩
 simp [z1d,h0,h3,h4,hS]
 refine zcj (fun h => ?_) (fun h => ?_)
 ·simp at h
  obtain ⟨x,hx⟩ : ∃ x,l[i]?=some x:=⟨_,List.getElem?_eq_getElem h⟩
  have hw:=wS h (by omega:l.length≤9223372036854775807)
  have hg:=ybe (f:=fun n=>[iv n]) (z:=[iv 0]) h
  have hs:=ya3 (f:=fun n=>[iv n]) (z:=[iv 0]) hx
  have hx':=zcp hx
  simp [-getElem?_pos,h0,h3,h4,hS,hep,h,hx',hw,hg,hs,z9d (Nat.le_of_lt h)]
  exact za8 (n-1) (by omega) ⟨i+1,by omega,by simp [h0],by simp [h3],by simp,by simp,by simp⟩
 ·simp at h
  have e:=z8d (f:=fun n=>[iv n]) (z:=[iv 0]) (by omega:i=l.length)
  simp [h3,hS,e,zaf]
theorem zx2 (l:List Int) (hl:l.length≤9223372036854775807):RUN T zij [.sl 1 (zaf l),.sl 1 (zaf l)]=some ([bv true],[]):=by
 refine zae z13 rfl ?_
 simp [zru,zrv]
 refine zbu (fun n st => ∃ i:Nat,i+n=l.length∧st.V 0 = .sl 1 (zaf l)∧st.V 1 = .sl 1 (zaf l)∧st.V 5=iv i) ?_ l.length _ ⟨0,by simp⟩
 rintro n st ⟨i,hi,h0,h1,h5⟩
 simp [z1e,h0,h1,h5]
 refine zcj (fun h => ?_) (fun h => ?_)
 ·simp at h
  obtain ⟨x,hx⟩ : ∃ x,l[i]?=some x:=⟨_,List.getElem?_eq_getElem h⟩
  have hw:=wS h hl
  have hx':=zcp hx
  simp [-getElem?_pos,h0,h1,h5,h,hx',hw]
  exact za8 (n-1) (by omega) ⟨i+1,by omega,by simp [h0],by simp [h1],by simp⟩
 ·simp
def upto (k:Int) (n:Nat):List Int:=(List.range n).map fun (i:Nat)=>k+(i:Int)
@[simp] theorem yyp (k:Int) (n:Nat):(upto k n).length=n:=by simp [upto]
theorem zx3 (l:List Int) (k:Int) (h0:0≤k) (hk:k+l.length≤9223372036854775806):RUN T zik [.own 1 (zaf l),iv k]=some ([iv (k+l.length)],[.own 1 (zaf (upto k l.length))]):=by
 refine zae z16 rfl ?_
 simp [zr0,zr1]
 refine zbu (fun n st => ∃ i:Nat,i+n=l.length∧st.V 0 = .ref 0 none 0 0 l.length∧st.V 1=iv (k+i)∧st.V 5=iv i∧st.ep=0∧st.S 0=some (.row 1 (mix (fun j=>[iv (k+(j:Int))]) (zaf l) i))) ?_ l.length _ ⟨0,by simp [z0r]⟩
 rintro n st ⟨i,hi,h0,h1,h5,hep,hS⟩
 simp [z1f,h0,h1,h5,hS]
 refine zcj (fun h => ?_) (fun h => ?_)
 ·simp at h
  obtain ⟨x,hx⟩ : ∃ x,l[i]?=some x:=⟨_,List.getElem?_eq_getElem h⟩
  have hw:=wS h (by omega:l.length≤9223372036854775807)
  have hw2:IntKind.i64.wrap (k+(i:Int)+1)=k+(i:Int)+1:=w64 (by omega) (by omega)
  have hx':=zcp hx
  have hg:=(z0m (f:=fun (j:Nat)=>[iv (k+(j:Int))]) (l:=zaf l) (i:=i)).trans hx'
  have hs:=zzd (f:=fun (j:Nat)=>[iv (k+(j:Int))]) (l:=zaf l) (i:=i) (by simpa using h)
  have hl:=z07 (f:=fun (j:Nat)=>[iv (k+(j:Int))]) (l:=zaf l) (i:=i) (by simp; omega)
  simp at hl
  simp [-getElem?_pos,h0,h1,h5,hS,hep,h,hg,hs,hl,hw,hw2]
  exact za8 (n-1) (by omega) ⟨i+1,by omega,by simp [h0],by simp; omega,by simp,by simp,by simp⟩
 ·simp at h
  have e:=zz3 (f:=fun (j:Nat)=>[iv (k+(j:Int))]) (l:=zaf l) (i:=i) (by simp; omega)
  have e2:i=l.length:=by omega
  subst e2
  simp [hS,e,h1]
  simp [zaf,upto,Function.comp_def]
theorem zwi {α:Type} {l:List α} {i:Nat} {x:α} (h:l[i]?=some x):l.drop i=x::l.drop (i+1):=by
 obtain ⟨h1,h2⟩:=List.getElem?_eq_some_iff.mp h
 rw [List.drop_eq_getElem_cons h1,h2]
def inI (n:Int):Prop := -9223372036854775808≤n∧n≤9223372036854775807
def box (t:List Nd) (f:Int):List Int→Int→Int→Int×Int
 | a::b::r,lo,hi=>match t[a.toNat]? with
  | none=>(lo,hi)
  | some x=>if x.f=f then (if x.l=b then box t f (b::r) lo (min hi x.c) else if x.c=9223372036854775807 then box t f (b::r) lo hi else box t f (b::r) (max lo (x.c+1)) hi) else box t f (b::r) lo hi
 | _,lo,hi=>(lo,hi)
def wfN (n:Nd):Prop:=inI n.f∧inI n.c∧inI n.l∧inI n.r∧inI n.v
theorem yi4 {f:Nat} {p:Int→Bool} (l:List Int) (hl:l.length≤9223372036854775807) (hm:zad T f=[]) (hp : ∀ n∈l,RUN T f [iv n]=some ([bv (p n)],[])) :
  RUN T zj8 [.sl 1 (zaf l),.fn f []]=some ([iv (zh3 p l)],[]):=by
 refine zae zxz rfl ?_
 simp [zpy,zpz]
 refine zbu (fun n st => ∃ i:Nat,i+n=l.length∧st.V 0 = .sl 1 (zaf l)∧st.V 1 = .fn f []∧st.V 8=iv i∧st.V 7=iv l.length∧∀ (j:Nat) (x:Int),j<i→l[j]?=some x→p x=false) ?_ l.length _ ⟨0,by simp⟩
 rintro n st ⟨i,hi,h0,h1,h8,h7,hj⟩
 simp [zxt,h0,h1,h8,h7]
 refine zcj (fun h => ?_) (fun h => ?_)
 ·simp at h
  obtain ⟨x,hx⟩ : ∃ x,l[i]?=some x:=⟨_,List.getElem?_eq_getElem h⟩
  have hw:=wS h hl
  have hx':=zcp hx
  have hpx:=hp x (List.mem_of_getElem? hx)
  simp [-getElem?_pos,h0,h1,h8,h7,hx',hw,hm,hpx,h]
  refine zcj (fun b0 => ?_) (fun b0 => ?_) <;> (try simp at b0) <;> simp [-getElem?_pos,b0,h0,h1,h8,h7,hx',hw]
  all_goals first
   | exact (z6s hx b0 hj).symm
   | exact za8 (n-1) (by omega) ⟨i+1,by omega,by simp [h0],by simp [h1],by simp,by simp [h7],z8p hj hx b0⟩
 ·simp at h
  simp [h]
  exact (z6r fun j x hl hx=>hj j x (by omega) hx).symm
theorem z7t {α:Type} {p:α→Bool} {l:List α}:decide (0≤zh3 p l)=l.any p:=by
 unfold zh3
 cases h:l.findIdx? p with
 | none =>
  rw [List.findIdx?_eq_none_iff] at h
  simp
  exact fun x hx=>h x hx
 | some i =>
  obtain ⟨h1,h2,_⟩:=List.findIdx?_eq_some_iff_getElem.mp h
  simp
  exact ⟨_,List.getElem_mem h1,h2⟩
theorem zx4 {f:Nat} {p:Int→Bool} (l:List Int) (hl:l.length≤9223372036854775807) (hm:zad T f=[]) (hp : ∀ n∈l,RUN T f [iv n]=some ([bv (p n)],[])) :
  RUN T zg1 [.sl 1 (zaf l),.fn f []]=some ([bv (l.any p)],[]):=by
 refine zae zxw rfl ?_
 have e:=yi4 l hl hm hp
 simp [zpi,zpj,e,z7t]
structure Cfg where
 ro:Int
 de:Int
 bi:Int
 la:Int
 rw:Int
 nu:Int
 dn:Int
 sg:List Int
def zan (n a b:Int):Bool:=decide (a≤n) && decide (n≤b)
def zb8 (c:Cfg):Bool:=zan c.ro 1 8 && zan c.de 0 4 && zan c.bi 2 8 && zan c.la 1 100 && zan c.rw 1 20 && zan c.dn 1 1000 && zan c.nu 1 c.dn && decide ((c.sg.length:Int)≤4) && c.sg.all fun n=>zan n (-1) 1
@[simp] theorem yuu (n:Int):RUN T zmv [iv n]=some ([bv (zan n (-1) 1)],[]):=by
 refine zae z29 rfl ?_
 simp [ztl,ztm,zan]
@[simp] theorem yi5 (n:Int):RUN T zj5 [iv n]=some ([bv (!zan n (-1) 1)],[]):=by
 refine zae z28 rfl ?_
 simp [ztj,ztk]
theorem zd1 (a b c:Int):RUN T zca [iv a,iv b,iv c]=some ([bv (zan a b c)],[]):=zde a b c
theorem zdn (a b c:Int):RUN T zdr [iv a,iv b,iv c]=some ([bv (zan a b c)],[]):=zc9 a b c
theorem z42 (c:Cfg) (hl:c.sg.length≤9223372036854775807):RUN T zjs [.agg [iv c.ro,iv c.de,iv c.bi,iv c.la,iv c.rw,iv c.nu,iv c.dn,.sl 1 (zaf c.sg)]]=some ([bv (zb8 c)],[]):=by
 refine zae z2c rfl ?_
 have e:=zx4 (f:=zj5) (p:=fun n => !zan n (-1) 1) c.sg hl (by simp) (fun n _=>yi5 n)
 have e2 : ∀ l:List Int,(l.any fun n => !zan n (-1) 1) = !(l.all fun n=>zan n (-1) 1):=by intro l; induction l <;> simp_all
 rw [e2] at e
 simp [zsc,zsd,zd1,-zde]
 cases h0:zan c.ro 1 8 <;> cases h1:zan c.de 0 4 <;> simp [h0,h1,zd1,-zde]
 all_goals try (simp [zb8,h0,h1]; done)
 cases h2:zan c.bi 2 8 <;> cases h3:zan c.la 1 100 <;> simp [h2,h3,zd1,-zde]
 all_goals try (simp [zb8,h2,h3]; done)
 cases h4:zan c.rw 1 20 <;> cases h5:zan c.dn 1 1000 <;> simp [h4,h5,zd1,-zde]
 all_goals try (simp [zb8,h4,h5]; done)
 cases h6:zan c.nu 1 c.dn <;> simp [h6,zd1,-zde]
 all_goals try (simp [zb8,h6]; done)
 by_cases h7:(c.sg.length:Int)≤4
 ·simp [h7,e,zb8,h0,h1,h2,h3,h4,h5,h6]
 ·simp [h7,zb8]
theorem zou {m:Nat→List Bool} {R:zai} {c:IC} {st:St} {Q:Ex→St→Prop} (h:W m R c st (Nx (fun s=>W m R (.loop c) s Q) Q ⟨⟩ ⟨⟩)):W m R (.loop c) st Q:=ymy ▸ h
theorem yi6 (a b c d e f g:Int) (x:PV) (sg:List (List PV)):RUN T zmy [.agg [iv a,iv b,iv c,iv d,iv e,iv f,iv g,.sl 1 sg]]=some ([.own 1 (zaf [a,b,c,d,e])],[]):=by
 refine zae z3f rfl ?_
 simp [ztv,ztw,zaf]
theorem zqa:RUN T zmz []=some ([.own 1 (zaf [1,0,2,1,1])],[]):=by
 refine zae z3g rfl ?_
 simp [ztx,zty,zaf]
theorem zqb:RUN T zm0 []=some ([.own 1 (zaf [8,4,8,100,20])],[]):=by
 refine zae z3h rfl ?_
 simp [ztz,zt0,zaf]
theorem yi7 (c:Cfg) (hl:c.sg.length≤9223372036854775807):RUN T zml [.agg [iv c.ro,iv c.de,iv c.bi,iv c.la,iv c.rw,iv c.nu,iv c.dn,.sl 1 (zaf c.sg)]]=some ([bv (zb8 c)],[]):=by
 refine zae z2h rfl ?_
 have e1:=yi6 c.ro c.de c.bi c.la c.rw c.nu c.dn .undef (zaf c.sg)
 simp [zsg,zsh,e1]
 refine zou ?_
 simp [zkz,zqa,zqb,zdn,-zc9,zqg]
 cases h0:zan c.ro 1 8 <;> simp [h0]
 ·simp [zb8,h0]
 refine zou ?_
 simp [zkz,zqa,zqb,zdn,-zc9,zqg]
 cases h1:zan c.de 0 4 <;> simp [h1]
 ·simp [zb8,h1]
 refine zou ?_
 simp [zkz,zqa,zqb,zdn,-zc9,zqg]
 cases h2:zan c.bi 2 8 <;> simp [h2]
 ·simp [zb8,h2]
 refine zou ?_
 simp [zkz,zqa,zqb,zdn,-zc9,zqg]
 cases h3:zan c.la 1 100 <;> simp [h3]
 ·simp [zb8,h3]
 refine zou ?_
 simp [zkz,zqa,zqb,zdn,-zc9,zqg]
 cases h4:zan c.rw 1 20 <;> simp [h4]
 ·simp [zb8,h4]
 refine zou ?_
 simp [zkz]
 refine zbu (fun n st => ∃ i:Nat,i+n=c.sg.length∧st.V 1 = .ptr 0 none 0 0 0∧st.V 5=iv i∧st.S 0=some (.box [iv c.ro,iv c.de,iv c.bi,iv c.la,iv c.rw,iv c.nu,iv c.dn,.sl 1 (zaf c.sg)])∧∀ (j:Nat) (x:Int),j<i→c.sg[j]?=some x→zan x (-1) 1=true) ?_ c.sg.length _ ⟨0,by simp⟩
 rintro n st ⟨i,hi,h1',h5,hS,hj⟩
 simp [z1i,h1',h5,hS]
 refine zcj (fun h => ?_) (fun h => ?_)
 ·simp at h
  obtain ⟨x,hx⟩ : ∃ x,c.sg[i]?=some x:=⟨_,List.getElem?_eq_getElem h⟩
  have hw:=wS h hl
  have hx':=zcp hx
  simp [-getElem?_pos,h1',h5,hS,hx',hw,h,zdn,-zc9]
  cases hb:zan x (-1) 1 with
  | true =>
   simp [-getElem?_pos,h1',h5,hS,hw]
   refine za8 (n-1) (by omega) ⟨i+1,by omega,by simp [h1'],by simp,by simp [hS],fun j y hj' hy => ?_⟩
   by_cases e:j=i
   ·subst e; rw [hx] at hy; cases hy; exact hb
   ·exact hj j y (by omega) hy
  | false =>
   simp [zb8]
   intros
   exact ⟨x,List.mem_of_getElem? hx,hb⟩
 ·simp at h
  have hall:(c.sg.all fun n=>zan n (-1) 1)=true:=by
   rw [List.all_eq_true]
   intro x hx
   obtain ⟨j,hj'⟩:=List.getElem?_of_mem hx
   exact hj j x (by have:=(List.getElem?_eq_some_iff.mp hj').1; omega) hj'
  simp [h1',hS,zdn,-zc9]
  cases h5:zan c.dn 1 1000 <;> simp [h1',hS,h5,zdn,-zc9]
  ·simp [zb8,h5]
  cases h6:zan c.nu 1 c.dn <;> simp [h1',hS,h6,zdn,-zc9]
  ·simp [zb8,h6]
  simp [zb8,h0,h1,h2,h3,h4,h5,h6,hall]
def fdv (a b:Int):Int×Bool:=if b=0∨(b = -1∧a = -9223372036854775808) then (0,false) else (a.fdiv b,true)
theorem z6n {a b:Int} (ha:inI a) (hb:b≠0) (h : ¬ (b = -1∧a = -9223372036854775808)) : -9223372036854775808≤a.tdiv b∧a.tdiv b≤9223372036854775807∧(b≠1 → -9223372036854775808≤a.tdiv b-1):=by
 obtain ⟨h1,h2⟩:=ha
 have h3:(a.tdiv b).natAbs=a.natAbs / b.natAbs:=Int.natAbs_tdiv a b
 have h4:a.natAbs / b.natAbs≤a.natAbs:=Nat.div_le_self _ _
 by_cases c:b=1
 ·subst c; simp; omega
 by_cases c2:b = -1
 ·subst c2; simp; omega
 have h5:a.natAbs / b.natAbs≤a.natAbs / 2:=Nat.div_le_div_left (by omega) (by omega)
 omega
theorem z7x (a b:Int) (hb:b≠0):a.fdiv b=if a.tmod b≠0∧¬ (a<0↔b<0) then a.tdiv b-1 else a.tdiv b:=by
 rw [Int.fdiv_eq_tdiv]
 have hd:b ∣ a↔a.tmod b=0:=Int.dvd_iff_tmod_eq_zero
 by_cases c:b ∣ a
 ·rw [if_pos c,if_neg (by rw [hd.mp c]; simp)]; simp
 ·have hc:a.tmod b≠0:=fun e=>c (hd.mpr e)
  have ha:a≠0:=fun e=>c (by subst e; exact ⟨0,by simp⟩)
  rw [if_neg c]
  rcases Int.lt_or_gt_of_ne hb with s2 | s2
  ·rw [if_neg (by omega : ¬ 0≤b),if_neg (by omega : ¬ 0≤b),Int.sign_eq_neg_one_of_neg s2]
   by_cases s1:0≤a
   ·rw [if_pos s1,if_pos ⟨hc,by omega⟩]
   ·rw [if_neg s1,if_neg (fun h=>h.2 (by omega))]; omega
  ·rw [if_pos (by omega:0≤b),if_pos (by omega:0≤b),Int.sign_eq_one_of_pos s2]
   by_cases s1:0≤a
   ·rw [if_pos s1,if_neg (fun h=>h.2 (by omega))]; omega
   ·rw [if_neg s1,if_pos ⟨hc,by omega⟩]
theorem yi8 (a b:Int) (ha:inI a):RUN T zmr [iv a,iv b]=some ([iv (fdv a b).1,bv (fdv a b).2],[]):=by
 refine zae z2u rfl ?_
 simp [zsw,zsx]
 by_cases h0:b=0
 ·subst h0; simp [fdv]
 by_cases hbad:b = -1∧a = -9223372036854775808
 ·obtain ⟨rfl,rfl⟩:=hbad; simp [fdv]
 have hr:=z6n ha h0 hbad
 have hq:=w64 hr.1 hr.2.1
 have hf:=z7x a b h0
 have e1:fdv a b=(a.fdiv b,true):=by unfold fdv; rw [if_neg (by simp [h0]; intro h; exact fun h2=>hbad ⟨h,h2⟩)]
 rw [e1]
 have hq2:a.tmod b≠0→IntKind.i64.wrap (a.tdiv b-1)=a.tdiv b-1:=fun h=>w64 (hr.2.2 (by rintro rfl; simp at h)) (by omega)
 have f0:=eq_false h0
 obtain ⟨p1,hp1⟩ : ∃ p,(b = -1)=p:=⟨_,rfl⟩
 obtain ⟨p2,hp2⟩ : ∃ p,(a = -9223372036854775808)=p:=⟨_,rfl⟩
 rw [hp1,hp2] at hbad
 by_cases c1:p1 <;> by_cases c2:p2
 ·exact (hbad ⟨c1,c2⟩).elim
 all_goals
  simp only [c1,c2] at hp1 hp2
  simp [f0,hp1,hp2,hq]
  by_cases d0:a.tmod b=0
  ·rw [if_neg (by simp [d0])] at hf
   simp [d0,hf]
  ·have hq3:=hq2 d0
   have d1:=eq_false d0
   by_cases d2:a<0 <;> by_cases d3:b<0
   all_goals
    simp only [d2,d3,ne_eq,d1,not_false_eq_true,iff_self,not_true_eq_false,and_false,if_false,iff_true,iff_false,and_true,if_true,true_iff,false_iff] at hf
    simp [d1,d2,d3,hq3,hf]
theorem yi9 (a b:Int) (ha:inI a):RUN T zm2 [iv a,iv b]=some ([iv (fdv a b).1,bv (fdv a b).2],[]):=by
 refine zae z3m rfl ?_
 simp [zt9,zua]
 by_cases h0:b=0
 ·subst h0; simp [fdv]
 by_cases hbad:b = -1∧a = -9223372036854775808
 ·obtain ⟨rfl,rfl⟩:=hbad; simp [fdv]
 have hr:=z6n ha h0 hbad
 have hq:=w64 hr.1 hr.2.1
 have hf:=z7x a b h0
 have e1:fdv a b=(a.fdiv b,true):=by unfold fdv; rw [if_neg (by simp [h0]; intro h; exact fun h2=>hbad ⟨h,h2⟩)]
 rw [e1]
 have hq2:a.tmod b≠0→IntKind.i64.wrap (a.tdiv b-1)=a.tdiv b-1:=fun h=>w64 (hr.2.2 (by rintro rfl; simp at h)) (by omega)
 have f0:=eq_false h0
 obtain ⟨p1,hp1⟩ : ∃ p,(b = -1)=p:=⟨_,rfl⟩
 obtain ⟨p2,hp2⟩ : ∃ p,(a = -9223372036854775808)=p:=⟨_,rfl⟩
 rw [hp1,hp2] at hbad
 by_cases c1:p1 <;> by_cases c2:p2
 ·exact (hbad ⟨c1,c2⟩).elim
 all_goals
  simp only [c1,c2] at hp1 hp2
  simp [f0,hp1,hp2,hq]
  by_cases d0:a.tmod b=0
  ·rw [if_neg (by simp [d0])] at hf
   simp [d0,hf]
  ·have hq3:=hq2 d0
   have d1:=eq_false d0
   by_cases d2:a<0 <;> by_cases d3:b<0
   all_goals
    simp only [d2,d3,ne_eq,d1,not_false_eq_true,iff_self,not_true_eq_false,and_false,if_false,iff_true,iff_false,and_true,if_true,true_iff,false_iff] at hf
    simp [d1,d2,d3,hq3,hf]
abbrev zdq (c:Cfg):PV := .agg [iv c.ro,iv c.de,iv c.bi,iv c.la,iv c.rw,iv c.nu,iv c.dn,.sl 1 (zaf c.sg)]
abbrev zwu (c:Cfg):PV := .agg [iv c.ro,iv c.de,iv c.bi,iv c.la,iv c.rw,iv c.nu,iv c.dn,.own 1 (zaf c.sg)]
theorem zby {n a b:Int}:zan n a b=true↔a≤n∧n≤b:=by simp [zan]
def ze0 (v:Int):Bool:=zan v (-1099511627776) 1099511627776
@[simp] theorem z43 (v:Int):RUN T zkc [iv v]=some ([bv (ze0 v)],[]):=by
 refine zae z3p rfl ?_
 simp [zud,zue,ze0,zan]
@[simp] theorem z44 (v:Int):RUN T zkf [iv v]=some ([bv (ze0 v)],[]):=by
 refine zae z33 rfl ?_
 simp [zu1,zu2,ze0,zan]
def shr (v:Int) (c:Cfg):Int×Bool:=if zb8 c && ze0 v then (( v*c.nu).fdiv c.dn,true) else (0,false)
theorem yja (c:Cfg) (left:Int) (h0:0≤left) (h1:left≤1048576) (hl:c.sg.length≤9223372036854775807):RUN T zmb [zdq c,iv left]=some ([iv (if left-c.sg.length<0 then -1 else left-c.sg.length)],[]):=by
 refine zae z1x rfl ?_
 have e:=z41 (zaf c.sg) left h0 h1 (by simpa using hl)
 simp only [z8i] at e
 by_cases h:left-c.sg.length<0
 ·simp only [h,if_true] at e ⊢
  simp [zo6,zo7,e]
  intro _; omega
 ·simp only [h,if_false] at e ⊢
  simp [zo6,zo7,e,h]
theorem yjb (c:Cfg) (hl:c.sg.length≤1048576):RUN T zhl [zdq c]=some ([zwu c],[]):=by
 refine zae z10 rfl ?_
 simp [zro,zrp,zx1 c.sg hl]
theorem yjc (c:Cfg) (hl:c.sg.length≤9223372036854775807):RUN T zme [zdq c,zdq c]=some ([bv true],[]):=by
 refine zae z14 rfl ?_
 simp [zrw,zrx,zx2 c.sg hl]
def zfg (n:Int):Bool:=zan n (-2147483647) 2147483647
@[simp] theorem yuv (v:Int):RUN T znc [iv v]=some ([bv (zfg v)],[]):=by
 refine zae z31 rfl ?_
 simp [zux,zuy,zfg,zan]
@[simp] theorem yuw (v:Int):RUN T zni [iv v]=some ([bv (zfg v)],[]):=by
 refine zae z4j rfl ?_
 simp [zvl,zvm,zfg,zan]
structure ym1 (F:Int) (x:Nd) (i n m:Int):Prop where
 lo:n≤x.l
 lt:i<x.l
 r:x.r=x.l+1
 hi:x.r<m
 f:0≤x.f∧x.f≤F-1
 c:zfg x.c=true
 v:x.v=0
structure Shaped (t:List Nd) (F:Int):Prop where
 leaf : ∀ (j:Nat) (x:Nd),t[j]?=some x→x.f = -1→x.c=0∧x.l=0∧x.r=0∧ze0 x.v=true
 inner : ∀ (j:Nat) (x:Nd),t[j]?=some x→x.f ≠ -1→ym1 F x j 1 t.length
 ord : ∀ (j j':Nat) (x y:Nd),j<j'→t[j]?=some x→t[j']?=some y→x.f ≠ -1→y.f ≠ -1→x.r<y.l
 cover : ∀ k:Int,1≤k→k<t.length→∃ (j:Nat) (x:Nd),t[j]?=some x∧x.f ≠ -1∧(x.l=k∨x.r=k)
 pos:1≤t.length
def adj (p:Int→Int→Bool):List Int→Bool
 | a::b::r=>p a b || adj p (b::r)
 | _=>false
theorem z08 {p:Int→Int→Bool} : ∀ {l:List Int},adj p l=true↔∃ (i:Nat) (a b:Int),l[i]?=some a∧l[i+1]?=some b∧p a b=true
 | []=>by simp [adj]
 | [x]=>by simp [adj]
 | x::y::r=>by
  simp only [adj,Bool.or_eq_true]
  rw [z08 (l:=y::r)]
  constructor
  ·rintro (h | ⟨i,a,b,h1,h2,h3⟩)
   ·exact ⟨0,x,y,rfl,rfl,h⟩
   ·exact ⟨i+1,a,b,by simpa using h1,by simpa using h2,h3⟩
  ·rintro ⟨i,a,b,h1,h2,h3⟩
   cases i with
   | zero=>simp at h1 h2; subst h1; subst h2; exact .inl h3
   | succ i=>exact .inr ⟨i,a,b,by simpa using h1,by simpa using h2,h3⟩
theorem zym {α:Type} {P:Nat→α→Prop} {l:List α} {i:Nat} {x:α} (h : ∀ (j:Nat) (x:α),j<i→l[j]?=some x→P j x) (hi:l[i]?=some x) (hp:P i x) : ∀ (j:Nat) (x:α),j<i+1→l[j]?=some x→P j x:=by
 intro j y hj hy
 by_cases e:j=i
 ·subst e; rw [hi] at hy; cases hy; exact hp
 ·exact h j y (by omega) hy
def cel (q:Bool) (l:List Int):PV:=if q then .own 1 (zaf l) else .sl 1 (zaf l)
@[simp] theorem y09 (q:Bool) (l:List Int):fz (cel q l) = .sl 1 (zaf l):=by cases q <;> simp [cel]
def rws (q:Bool) (L:List (List Int)):List (List PV):=L.map fun l=>[cel q l]
@[simp] theorem y6f (q:Bool) (L:List (List Int)):(rws q L).length=L.length:=by simp [rws]
theorem zee {q:Bool} {L:List (List Int)} {i:Nat} {l:List Int} (h:L[i]?=some l):(rws q L)[i]?=some [cel q l]:=by simp [rws,h]
@[simp] theorem yux (n:Int):RUN T zkm [iv n]=some ([bv (!zfg n)],[]):=by
 refine zae z4i rfl ?_
 simp [zvj,zvk]
theorem yjd (l:List Int) (hl:l.length≤9223372036854775807):RUN T znd [.sl 1 (zaf l)]=some ([bv (l.all zfg)],[]):=by
 refine zae z32 rfl ?_
 have e:=zx4 (f:=zkm) (p:=fun n => !zfg n) l hl (by simp) (fun n _=>by simp)
 simp [zuz,zu0,e]
 simp [List.any_eq_not_all_not]
def zew (l:List Int):Bool := !adj (fun a b=>decide (b≤a)) l && l.all zfg && decide ((l.length:Int)≤7)
theorem yad {p:Int→Int→Bool} {l:List Int} (h : ∀ (j:Nat) (a b:Int),l[j]?=some a→l[j+1]?=some b→p a b=false):adj p l=false:=by
 cases e:adj p l with
 | false=>rfl
 | true =>
  obtain ⟨j,a,b,h1,h2,h3⟩:=z08.mp e
  rw [h j a b h1 h2] at h3; cases h3
theorem yb4 {p:Int→Int→Bool} {l:List Int} {j:Nat} {a b:Int} (h1:l[j]?=some a) (h2:l[j+1]?=some b) (h3:p a b=true):adj p l=true:=z08.mpr ⟨j,a,b,h1,h2,h3⟩
theorem zz6 {l:List Int} {p:Int→Bool} {j:Nat} {a:Int} (h1:l[j]?=some a) (h2:p a=false):l.all p=false:=by
 cases e:l.all p with
 | false=>rfl
 | true=>rw [List.all_eq_true.mp e a (List.mem_of_getElem? h1)] at h2; cases h2
theorem zzs {l:List Int} {p:Int→Bool} (h : ∀ (j:Nat) (a:Int),j<l.length→l[j]?=some a→p a=true):l.all p=true:=by
 rw [List.all_eq_true]
 intro x hx
 obtain ⟨j,hj⟩:=List.getElem?_of_mem hx
 exact h j x (List.getElem?_eq_some_iff.mp hj).1 hj
theorem yje (l:List Int) (hl:l.length≤9223372036854775807):RUN T zm1 [.sl 1 (zaf l)]=some ([bv (zew l)],[]):=by
 refine zae z3i rfl ?_
 have hd:=yjd l hl
 simp [zt1,zt2]
 refine zbu (fun n st => ∃ i:Nat,i+n=l.length+1∧1≤i∧st.V 0 = .sl 1 (zaf l)∧st.V 3=iv i∧∀ (j:Nat) (a b:Int),j+1<i→l[j]?=some a→l[j+1]?=some b→decide (b≤a)=false) ?_ l.length _ ⟨1,by omega,by omega,by simp,by simp,fun j a b h=>by omega⟩
 rintro n st ⟨i,hi,h1,v0,v3,hj⟩
 simp [z1p,v0,v3]
 refine zcj (fun h => ?_) (fun h => ?_)
 ·simp at h
  obtain ⟨k,rfl⟩ : ∃ k,i=k+1:=⟨i-1,by omega⟩
  obtain ⟨a,ha⟩ : ∃ a,l[k]?=some a:=⟨_,List.getElem?_eq_getElem (by omega)⟩
  obtain ⟨b,hb⟩ : ∃ b,l[k+1]?=some b:=⟨_,List.getElem?_eq_getElem h⟩
  have ha':=zcp ha
  have hb':=zcp hb
  have hw:IntKind.i64.wrap ((k:Int)+1+1)=(k:Int)+1+1:=w64 (by omega) (by omega)
  have hw1:IntKind.i64.wrap (k:Int)=k:=w64 (by omega) (by omega)
  have hkl:k<l.length:=by omega
  simp [-getElem?_pos,v0,v3,ha',hb',hw1,h,hkl]
  refine zcj (fun h2 => ?_) (fun h2 => ?_)
  ·simp at h2
   have:zew l=false:=by unfold zew; rw [yb4 ha hb (by simpa using h2)]; rfl
   simp [this]
  ·simp at h2
   simp [-getElem?_pos,v0,v3,hw]
   refine za8 (n-1) (by omega) ⟨k+2,by omega,by omega,by simp [v0],by simp; omega,fun j x y hjk hx hy => ?_⟩
   by_cases e:j=k
   ·subst e; rw [ha] at hx; rw [hb] at hy; cases hx; cases hy; simp; omega
   ·exact hj j x y (by omega) hx hy
 ·simp at h
  have e:adj (fun a b=>decide (b≤a)) l=false:=yad fun j a b h1 h2=>hj j a b (by have:=(List.getElem?_eq_some_iff.mp h2).1; omega) h1 h2
  unfold zew
  rw [e]
  by_cases c:(l.length:Int)≤7
  ·simp [v0,hd,c]
  ·simp [v0,c]
theorem yjf (l:List Int) (hl:l.length≤9223372036854775807):RUN T zmx [.sl 1 (zaf l)]=some ([bv (zew l)],[]):=by
 refine zae z3e rfl ?_
 simp [ztt,ztu]
 refine zbu (fun n st => ∃ i:Nat,i+n=l.length∧st.V 0 = .sl 1 (zaf l)∧st.V 3=iv i∧(∀ (j:Nat) (a:Int),j<i→l[j]?=some a→zfg a=true)∧∀ (j:Nat) (a b:Int),j+1<i→l[j]?=some a→l[j+1]?=some b→decide (b≤a)=false) ?_ l.length _ ⟨0,by simp⟩
 rintro n st ⟨i,hi,v0,v3,hd,hj⟩
 simp [z1o,v0,v3]
 refine zcj (fun h => ?_) (fun h => ?_)
 ·simp at h
  obtain ⟨b,hb⟩ : ∃ b,l[i]?=some b:=⟨_,List.getElem?_eq_getElem h⟩
  have hb':=zcp hb
  have hw:=wS h hl
  rcases Bool.eq_false_or_eq_true (zfg b) with d | d
  ·have hd':=zym (P:=fun _ a=>zfg a=true) hd hb d
   rcases i with _ | k
   ·simp [-getElem?_pos,v0,v3,hb',d,h,hw]
    exact za8 (n-1) (by omega) ⟨1,by omega,by simp [v0],by simp,by simpa using hd',fun j x y hjk hx hy=>by omega⟩
   ·obtain ⟨a,ha⟩ : ∃ a,l[k]?=some a:=⟨_,List.getElem?_eq_getElem (by omega)⟩
    have ha':=zcp ha
    have hw:IntKind.i64.wrap ((k:Int)+1+1)=(k:Int)+1+1:=w64 (by omega) (by omega)
    have hw1:IntKind.i64.wrap (k:Int)=k:=w64 (by omega) (by omega)
    have hkl:k<l.length:=by omega
    have hk0:(0:Int)<((k+1:Nat):Int):=by omega
    rcases Classical.propComplete (b≤a) with c | c
    ·have:zew l=false:=by unfold zew; rw [yb4 ha hb (by simp [c])]; rfl
     simp [-getElem?_pos,v0,v3,ha',hb',d,h,hw,hw1,hkl,hk0,c,this]
    ·simp [-getElem?_pos,v0,v3,ha',hb',d,h,hw,hw1,hkl,hk0,c]
     refine za8 (n-1) (by omega) ⟨k+2,by omega,by simp [v0],by simp; omega,hd',fun j x y hjk hx hy => ?_⟩
     by_cases e:j=k
     ·subst e; rw [ha] at hx; rw [hb] at hy; cases hx; cases hy; simp [c]
     ·exact hj j x y (by omega) hx hy
  ·have:zew l=false:=by unfold zew; rw [zz6 hb d]; simp
   simp [-getElem?_pos,v0,v3,hb',d,h,this]
 ·simp at h
  have e:adj (fun a b=>decide (b≤a)) l=false:=yad fun j a b h1 h2=>hj j a b (by have:=(List.getElem?_eq_some_iff.mp h2).1; omega) h1 h2
  have e2:l.all zfg=true:=zzs fun j a h1 h2=>hd j a (by omega) h2
  unfold zew
  rw [e,e2]
  simp [v0]
def zcb:List (List Int)→Nat
 | []=>0
 | l::_=>l.length
theorem z45 (q:Bool) (c v:List (List Int)):RUN T zil [.agg [.sl 1 (rws q c),.sl 1 (rws q v)]]=some ([iv (zcb v)],[]):=by
 refine zae z2i rfl ?_
 cases v with
 | nil=>simp [zpe,zpf,zcb]
 | cons l L =>
  have h:rws q (l::L)=[cel q l]::rws q L:=rfl
  have h0:((L.length:Int)+1=0)=False:=eq_false (by omega)
  simp [h0,zpe,zpf,zcb,h]
theorem zx5 (q:Bool) (c v:List (List Int)):RUN T zhm [.agg [.sl 1 (rws q c),.sl 1 (rws q v)]]=some ([iv (zcb v)],[]):=by
 refine zae z2k rfl ?_
 cases v with
 | nil=>simp [zpg,zph,zcb]
 | cons l L =>
  have h:rws q (l::L)=[cel q l]::rws q L:=rfl
  have h0:((L.length:Int)+1=0)=False:=eq_false (by omega)
  simp [h0,zpg,zph,zcb,h]
theorem yjg {f:Nat} {c:PV} {p:Int→Bool} (l:List Int) (hl:l.length≤9223372036854775807) (hm:zad T f=[]) (hp : ∀ n∈l,RUN T f [iv n,.fptr [c] 0]=some ([bv (p n)],[])) :
  RUN T zj8 [.sl 1 (zaf l),.fn f [.fptr [c] 0]]=some ([iv (zh3 p l)],[]):=by
 refine zae zxz rfl ?_
 simp [zpy,zpz]
 refine zbu (fun n st => ∃ i:Nat,i+n=l.length∧st.V 0 = .sl 1 (zaf l)∧st.V 1 = .fn f [.fptr [c] 0]∧st.V 8=iv i∧st.V 7=iv l.length∧∀ (j:Nat) (x:Int),j<i→l[j]?=some x→p x=false) ?_ l.length _ ⟨0,by simp⟩
 rintro n st ⟨i,hi,h0,h1,h8,h7,hj⟩
 simp [zxt,h0,h1,h8,h7]
 refine zcj (fun h => ?_) (fun h => ?_)
 ·simp at h
  obtain ⟨x,hx⟩ : ∃ x,l[i]?=some x:=⟨_,List.getElem?_eq_getElem h⟩
  have hw:=wS h hl
  have hx':=zcp hx
  have hpx:=hp x (List.mem_of_getElem? hx)
  simp [-getElem?_pos,h0,h1,h8,h7,hx',hw,hm,hpx,h]
  refine zcj (fun b0 => ?_) (fun b0 => ?_) <;> (try simp at b0) <;> simp [-getElem?_pos,b0,h0,h1,h8,h7,hx',hw]
  all_goals first
   | exact (z6s hx b0 hj).symm
   | exact za8 (n-1) (by omega) ⟨i+1,by omega,by simp [h0],by simp [h1],by simp,by simp [h7],z8p hj hx b0⟩
 ·simp at h
  simp [h]
  exact (z6r fun j x hl hx=>hj j x (by omega) hx).symm
theorem yjh {f:Nat} {c:PV} {p:Int→Bool} (l:List Int) (hl:l.length≤9223372036854775807) (hm:zad T f=[]) (hp : ∀ n∈l,RUN T f [iv n,.fptr [c] 0]=some ([bv (p n)],[])) :
  RUN T zg1 [.sl 1 (zaf l),.fn f [.fptr [c] 0]]=some ([bv (l.any p)],[]):=by
 refine zae zxw rfl ?_
 have e:=yjg l hl hm hp
 simp [zpi,zpj,e,z7t]
@[simp] theorem yuy (n:Int) (a:List Int):RUN T zj7 [iv n,.fptr [.sl 1 (zaf a)] 0]=some ([bv (!zan n 0 a.length)],[]):=by
 refine zae z3j rfl ?_
 simp [zt3,zt4,zd1,-zde]
theorem z6i {s:St} {d:Option Dst} {op:IOp} {g:Opd} {v:Bool} {x:PV}:(yv s ⟨d,op,some (g,v)⟩=some x)=(Ob' (zgd v (g.get s)) fun t=>Br t (WI (fun _=>[]) (fun _ _=>none) op s (fun y _=>y=x)) (PV.v Go.undef=x)):=by
 simp only [yv,z5u,WI,Ob',Br,Option.map_eq_some_iff,Option.bind_eq_some_iff,eq_iff_iff]
 constructor
 ·rintro ⟨⟨y,s'⟩,⟨t,h1,h2⟩,h3⟩
  refine ⟨t,h1,fun ht => ?_,fun ht => ?_⟩ <;> subst ht
  ·exact ⟨y,s',by simpa using h2,h3⟩
  ·simp at h2; obtain ⟨rfl,rfl⟩:=h2; exact h3
 ·rintro ⟨t,h1,h2,h3⟩
  cases t with
  | true=>obtain ⟨y,s',h4,h5⟩:=h2 rfl; exact ⟨(y,s'),⟨true,h1,by simpa using h4⟩,h5⟩
  | false=>exact ⟨_,⟨false,h1,rfl⟩,h3 rfl⟩
@[simp] theorem yu1 {s:St} {d:Option Dst} {op:IOp} {g:Opd} {v:Bool} {x:PV} {n:Nat} {r:List (zab×PV×Nat)}:zbs s ((⟨d,op,some (g,v)⟩,x,n+1)::r)=((Ob' (zgd v (g.get s)) fun t=>Br t (WI (fun _=>[]) (fun _ _=>none) op s (fun y _=>y=x)) (PV.v Go.undef=x))∧zbs s r):=by
 simp only [zbs,z6i]
@[simp] theorem y41 {V E:Nat→PV} {d:Option Dst} {op:IOp} {g:Opd} {v:Bool} {x:PV} {n:Nat} {s:St} {ms:List St}:za0 V E ⟨d,op,some (g,v)⟩ x (n+1) (s::ms)=((Ob' (zgd v (g.get { s with V:=V,E:=E })) fun t=>Br t (WI (fun _=>[]) (fun _ _=>none) op { s with V:=V,E:=E } (fun y _=>y=x)) (PV.v Go.undef=x))∧za0 V E ⟨d,op,some (g,v)⟩ x n ms):=by
 simp only [za0,z6i]
def zeg (c v:List (List Int)) (f:Nat):Bool:=match c[f]?,v[f]? with
 | some a,some b=>zew a && decide ((b.length:Int)=zcb v) && b.all fun x=>zan x 0 a.length
 | _,_=>true
def zc4 (c v:List (List Int)):Bool:=zan c.length 1 4 && decide ((v.length:Int)=c.length) && zan (zcb v) 1 40 && (List.range c.length).all (zeg c v)
theorem z7q {c v:List (List Int)} (h1:zan c.length 1 4=true) (h2:(v.length:Int)=c.length) (h3:zan (zcb v) 1 40=true):zc4 c v=(List.range c.length).all (zeg c v):=by
 simp [zc4,h1,h2,h3]
theorem z8b {p:Nat→Bool} {n:Nat} (h : ∀ i,i<n→p i=true):(List.range n).all p=true:=by
 rw [List.all_eq_true]
 intro x hx
 exact h x (by simpa using hx)
theorem zow {p:Nat→Bool} {n i:Nat} (hi:i<n) (h:p i=false):(List.range n).all p=false:=by
 cases e:(List.range n).all p with
 | false=>rfl
 | true=>rw [List.all_eq_true.mp e i (by simpa using hi)] at h; cases h
theorem z8e {c v:List (List Int)} {f:Nat} {a b:List Int} (ha:c[f]?=some a) (hb:v[f]?=some b):zeg c v f=(zew a && decide ((b.length:Int)=zcb v) && b.all fun x=>zan x 0 a.length):=by
 simp [zeg,ha,hb]
theorem z5w {P:Nat→Prop} {i:Nat} (h : ∀ j,j<i→P j) (hi:P i) : ∀ j,j<i+1→P j:=by
 intro j hj
 by_cases e:j=i
 ·subst e; exact hi
 ·exact h j (by omega)
set_option maxHeartbeats 1000000 in
theorem yji (q:Bool) (c v:List (List Int)) (hc : ∀ l∈c,l.length≤9223372036854775807) (hv : ∀ l∈v,l.length≤9223372036854775807):RUN T zmm [.agg [.sl 1 (rws q c),.sl 1 (rws q v)]]=some ([bv (zc4 c v)],[]):=by
 refine zae z2j rfl ?_
 have hR:=zx5 q c v
 by_cases h1:zan c.length 1 4=true
 case neg=>simp [zk0,zk1,zd1,-zde,h1,zc4]
 by_cases h2:(v.length:Int)=c.length
 case neg=>simp [zk0,zk1,zd1,-zde,h1,h2,zc4]
 by_cases h3:zan (zcb v) 1 40=true
 case neg=>simp [zk0,zk1,zd1,-zde,h1,h2,h3,hR,zc4]
 have h1':=zby.mp h1
 rw [z7q h1 h2 h3]
 simp [zk0,zk1,zd1,-zde,h1,h2,h3,hR]
 refine zbu (fun n st => ∃ i:Nat,i+n=c.length∧(∀ j,j<i→zeg c v j=true)∧st.V 1 = .ptr 0 none 0 0 0∧st.V 26 = .sl 1 (rws q c)∧st.V 27=iv c.length∧st.V 28=iv i∧0<st.nx∧st.S 0=some (.box [.sl 1 (rws q c),.sl 1 (rws q v)])) ?_ c.length _ ⟨0,by simp⟩
 rintro n st ⟨i,hi,hk,v1,v26,v27,v28,hnx,hS⟩
 simp [z1j,v26,v27,v28]
 have z:=fr hnx
 refine zcj (fun h => ?_) (fun h => ?_)
 ·simp at h
  obtain ⟨a,ha⟩ : ∃ a,c[i]?=some a:=⟨_,List.getElem?_eq_getElem h⟩
  obtain ⟨b,hb⟩ : ∃ b,v[i]?=some b:=⟨_,List.getElem?_eq_getElem (by omega)⟩
  have ha':=zee (q:=q) ha
  have hb':=zee (q:=q) hb
  have hal:=hc a (List.mem_of_getElem? ha)
  have hbl:=hv b (List.mem_of_getElem? hb)
  have hC:=yje a hal
  have hF:=yjh (f:=zj7) (c := .sl 1 (zaf a)) (p:=fun n => !zan n 0 a.length) b hbl (by simp) (fun n _=>by simp)
  have hw:=wS h (by omega:c.length≤9223372036854775807)
  have hiv:i<v.length:=by omega
  have hfe:=z8e ha hb
  by_cases d1:zew a=true
  ·rcases Classical.propComplete ((b.length:Int)=zcb v) with d2 | d2
   ·by_cases d3:(b.all fun x=>zan x 0 a.length)=true
    ·have d3':(b.any fun n => !zan n 0 a.length)=false:=by simpa [List.any_eq_not_all_not] using d3
     simp [-getElem?_pos,v1,v26,v27,v28,hS,z,ha',hb',hC,hF,hR,hw,h,hiv,d1,d2,d3']
     exact za8 (n-1) (by omega) ⟨i+1,by omega,z5w hk (by rw [hfe,d1,d3]; simp [d2]),by simp [v1],by simp [v26],by simp [v27],by simp,by simp,by simp [z,hS]⟩
    ·have d3':(b.any fun n => !zan n 0 a.length)=true:=by simpa [List.any_eq_not_all_not] using d3
     have no:=zow h (by rw [hfe,d1]; simp [d3]:zeg c v i=false)
     simp [-getElem?_pos,v1,v26,v27,v28,hS,z,ha',hb',hC,hF,hR,hw,h,hiv,d1,d2,d3',no]
   ·have no:=zow h (by rw [hfe,d1]; simp [d2]:zeg c v i=false)
    simp [-getElem?_pos,v1,v26,v27,v28,hS,z,ha',hb',hC,hF,hR,hw,h,hiv,d1,d2,no]
  ·have no:=zow h (by rw [hfe]; simp [d1]:zeg c v i=false)
   simp [-getElem?_pos,v1,v26,v27,v28,hS,z,ha',hb',hC,hF,hR,hw,h,hiv,d1,no]
 ·simp at h
  have:=z8b (p:=zeg c v) (n:=c.length) fun j hj=>hk j (by omega)
  simp [this]
set_option maxHeartbeats 1000000 in
theorem yjj (q:Bool) (c v:List (List Int)) (hc : ∀ l∈c,l.length≤9223372036854775807) (hv : ∀ l∈v,l.length≤9223372036854775807):RUN T zmk [.agg [.sl 1 (rws q c),.sl 1 (rws q v)]]=some ([bv (zc4 c v)],[]):=by
 refine zae z2g rfl ?_
 have hR:=z45 q c v
 by_cases h1:zan c.length 1 4=true
 case neg=>simp [zkx,zky,zdn,-zc9,h1,zc4]
 by_cases h2:(v.length:Int)=c.length
 case neg=>simp [zkx,zky,zdn,-zc9,h1,h2,zc4]
 by_cases h3:zan (zcb v) 1 40=true
 case neg=>simp [zkx,zky,zdn,-zc9,h1,h2,h3,hR,zc4]
 have h1':=zby.mp h1
 rw [z7q h1 h2 h3]
 simp [zkx,zky,zdn,-zc9,h1,h2,h3,hR]
 refine zbu (fun n st => ∃ i:Nat,i+n=c.length∧(∀ j,j<i→zeg c v j=true)∧st.V 1 = .ptr 0 none 0 0 0∧st.V 3=iv i∧0<st.nx∧st.S 0=some (.box [.sl 1 (rws q c),.sl 1 (rws q v)])) ?_ c.length _ ⟨0,by simp⟩
 rintro n st ⟨i,hi,hk,v1,v3,hnx,hS⟩
 simp [z1h,v1,v3,hS]
 have z:=fr hnx
 refine zcj (fun h => ?_) (fun h => ?_)
 ·simp at h
  obtain ⟨a,ha⟩ : ∃ a,c[i]?=some a:=⟨_,List.getElem?_eq_getElem h⟩
  obtain ⟨b,hb⟩ : ∃ b,v[i]?=some b:=⟨_,List.getElem?_eq_getElem (by omega)⟩
  have ha':=zee (q:=q) ha
  have hb':=zee (q:=q) hb
  have hal:=hc a (List.mem_of_getElem? ha)
  have hbl:=hv b (List.mem_of_getElem? hb)
  have hC:=yjf a hal
  have hw:=wS h (by omega:c.length≤9223372036854775807)
  have hiv:i<v.length:=by omega
  have hfe:=z8e ha hb
  by_cases d1:zew a=true
  case neg =>
   have no:=zow h (by rw [hfe]; simp [d1]:zeg c v i=false)
   simp [-getElem?_pos,v1,v3,hS,z,ha',hb',hC,hR,hw,h,hiv,d1,no]
  rcases Classical.propComplete ((b.length:Int)=zcb v) with d2 | d2
  case inr =>
   have no:=zow h (by rw [hfe,d1]; simp [d2]:zeg c v i=false)
   simp [-getElem?_pos,v1,v3,hS,z,ha',hb',hC,hR,hw,h,hiv,d1,d2,no]
  simp [-getElem?_pos,v1,v3,hS,z,ha',hb',hC,hR,hw,h,hiv,d1,d2]
  refine zbu (fun n st => ∃ j:Nat,j+n=b.length∧(∀ (k:Nat) (x:Int),k<j→b[k]?=some x→zan x 0 a.length=true)∧st.V 1 = .ptr 0 none 0 0 0∧st.V 3=iv i∧st.V 4=iv j∧0<st.nx∧st.S 0=some (.box [.sl 1 (rws q c),.sl 1 (rws q v)])) ?_ b.length _ ⟨0,by omega,fun _ _ h=>by omega,by simp [v1],by simp [v3],by simp,by simp [hnx],by simp [hS]⟩
  clear v1 v3 hnx hS z
  rintro n' st ⟨j,hj,hjk,v1,v3,v4,hnx,hS⟩
  simp [-getElem?_pos,z1g,v1,v3,v4,hS,hb',hiv]
  refine zcj (fun h4 => ?_) (fun h4 => ?_)
  ·simp at h4
   obtain ⟨x,hx⟩ : ∃ x,b[j]?=some x:=⟨_,List.getElem?_eq_getElem h4⟩
   have hx':=zcp hx
   have hwj:=wS h4 hbl
   rcases Bool.eq_false_or_eq_true (zan x 0 a.length) with d3 | d3
   ·simp [-getElem?_pos,v1,v3,v4,hS,ha',hb',hx',hiv,h,h4,d3,hwj,zdn,-zc9]
    exact za8 (n'-1) (by omega) ⟨j+1,by omega,zym (P:=fun _ x=>zan x 0 a.length=true) hjk hx d3,by simp [v1],by simp [v3],by simp,by simp [hnx],by simp [hS]⟩
   ·have no:=zow h (by rw [hfe,zz6 hx d3]; simp:zeg c v i=false)
    simp [-getElem?_pos,v1,v3,v4,hS,ha',hb',hx',hiv,h,h4,d3,hwj,no,zdn,-zc9]
  ·simp at h4
   have ok:zeg c v i=true:=by
    rw [hfe,d1,zzs fun k x hk hx=>hjk k x (by omega) hx]; simp [d2]
   simp [-getElem?_pos,v1,v3,v4,hS,hw]
   exact za8 (n-1) (by omega) ⟨i+1,by omega,z5w hk ok,by simp [v1],by simp,by simp [hnx],by simp [hS]⟩
 ·simp at h
  have:=z8b (p:=zeg c v) (n:=c.length) fun j hj=>hk j (by omega)
  simp [this]
def zbf (L:List (List Int)):Nat:=(L.map List.length).sum
def tot (L:List (List Int)):Nat:=L.length+zbf L
theorem zwx (l:List Int) (L:List (List Int)):zbf (l::L)=l.length+zbf L:=by simp [zbf]
theorem z9h {L:List (List Int)} : ∀ {l:List Int},l∈L→l.length≤zbf L:=by
 induction L with
 | nil=>simp
 | cons a L ih =>
  intro l h
  rw [zwx]
  rcases List.mem_cons.mp h with e | e
  ·subst e; omega
  ·have:=ih e; omega
theorem z46 (q:Bool) (L:List (List Int)) (left:Int) (h0:0≤left) (h1:left≤1048576) (hl:L.length≤9223372036854775807) (hll : ∀ l∈L,l.length≤9223372036854775807):RUN T zjy [.sl 1 (rws q L),iv left]=some ([iv (if left-tot L<0 then -1 else left-tot L)],[]):=by
 refine zae z2z rfl ?_
 have e:=w64 (x:=left-L.length) (by omega) (by omega)
 have ht:tot L=L.length+zbf L:=rfl
 simp [zs1,zs2,e]
 refine zcj (fun h => ?_) (fun h => ?_)
 ·simp at h
  rw [if_pos (by omega)]
  simp
 ·simp at h
  simp
  refine zbu (fun n st => ∃ i:Nat,i+n=L.length∧∃ r:Int,0≤r∧r≤1048576∧r-zbf (L.drop i)=left-tot L∧st.V 0 = .sl 1 (rws q L)∧st.V 1=iv r∧st.V 5=iv i) ?_ L.length _ ⟨0,by omega,left-L.length,by omega,by omega,by simp; omega,by simp,by simp,by simp⟩
  rintro n st ⟨i,hi,r,hr0,hr1,hr,v0,v1,v5⟩
  simp [z1k,v0,v5]
  refine zcj (fun h => ?_) (fun h => ?_)
  ·simp at h
   obtain ⟨l,hx⟩ : ∃ l,L[i]?=some l:=⟨_,List.getElem?_eq_getElem h⟩
   have hx':=zee (q:=q) hx
   have hw:=wS h hl
   have hz:=z41 (zaf l) r hr0 hr1 (by simpa using hll l (List.mem_of_getElem? hx))
   rw [z8i] at hz
   rw [zwi hx,zwx] at hr
   by_cases d:r-l.length<0
   ·rw [if_pos d] at hz
    rw [if_pos (by omega)]
    simp [-getElem?_pos,v0,v1,v5,hx',hz,h]
   ·rw [if_neg d] at hz
    have d' : ¬ (r-l.length<0):=d
    simp [-getElem?_pos,v0,v1,v5,hx',hz,h,hw,d']
    exact za8 (n-1) (by omega) ⟨i+1,by omega,r-l.length,by omega,by omega,by omega,by simp [v0],by simp,by simp⟩
  ·simp at h
   rw [List.drop_eq_nil_of_le (by omega)] at hr
   have:zbf []=0:=rfl
   rw [if_neg (by omega)]
   simp [v1]
   omega
theorem yjk (q:Bool) (c v:List (List Int)) (left:Int) (h0:0≤left) (h1:left≤1048576) (hcl:c.length≤9223372036854775807) (hvl:v.length≤9223372036854775807) (hc : ∀ l∈c,l.length≤9223372036854775807) (hv : ∀ l∈v,l.length≤9223372036854775807):RUN T zma [.agg [.sl 1 (rws q c),.sl 1 (rws q v)],iv left]=some ([iv (if left-tot c-tot v<0 then -1 else left-tot c-tot v)],[]):=by
 refine zae z1w rfl ?_
 have e1:=z46 q c left h0 h1 hcl hc
 by_cases d:left-tot c<0
 ·rw [if_pos d] at e1
  rw [if_pos (by omega)]
  simp [znm,znn,e1]
 ·rw [if_neg d] at e1
  have e2:=z46 q v (left-tot c) (by omega) (by omega) hvl hv
  by_cases d2:left-tot c-tot v<0
  ·rw [if_pos d2] at e2
   rw [if_pos d2]
   simp [znm,znn,e1,e2,d]
  ·rw [if_neg d2] at e2
   rw [if_neg d2]
   simp [znm,znn,e1,e2,d,d2]
theorem z47 (q:Bool) (L:List (List Int)) (hl:L.length≤1048576) (hll : ∀ l∈L,l.length≤1048576):RUN T zj0 [.sl 1 (rws q L)]=some ([.own 1 (rws true L)],[]):=by
 refine zae z21 rfl ?_
 have hr:zb7 24 L.length=true:=by simp [zb7]; omega
 simp [zs5,zs6,hr]
 refine zbu (fun n st => ∃ i:Nat,i+n=L.length∧st.V 0 = .sl 1 (rws q L)∧st.V 3 = .ref 0 none 0 0 L.length∧st.V 4=iv i∧0<st.nx∧st.S 0=some (.row 1 (fil (fun l=>[cel true l]) [.own 1 []] L i))) ?_ L.length _ ⟨0,by simp [ya7]⟩
 rintro n st ⟨i,hi,v0,v3,v4,hnx,hS⟩
 simp [z1l,v0,v3,v4,hS]
 have z:=fr hnx
 refine zcj (fun h => ?_) (fun h => ?_)
 ·simp at h
  obtain ⟨l,hx⟩ : ∃ l,L[i]?=some l:=⟨_,List.getElem?_eq_getElem h⟩
  have hw:=wS h (by omega:L.length≤9223372036854775807)
  have hg:=ybe (f:=fun l=>[cel true l]) (z:=[.own 1 []]) h
  have hs:=ya3 (f:=fun l=>[cel true l]) (z:=[.own 1 []]) hx
  have hx':=zee (q:=q) hx
  have hz:=zx1 l (hll l (List.mem_of_getElem? hx))
  have hc:cel true l = .own 1 (zaf l):=rfl
  rw [hc] at hs
  simp [-getElem?_pos,v0,v3,v4,hS,z,h,hx',hw,hg,hs,hz,z9d (Nat.le_of_lt h)]
  exact za8 (n-1) (by omega) ⟨i+1,by omega,by simp [v0],by simp [v3],by simp,by simp,by simp [z]⟩
 ·simp at h
  have e:=z8d (f:=fun l=>[cel true l]) (z:=[.own 1 []]) (by omega:i=L.length)
  simp [v3,hS,e,rws]
theorem z48 (p q:Bool) (L:List (List Int)) (hl:L.length≤9223372036854775807) (hll : ∀ l∈L,l.length≤9223372036854775807):RUN T zj1 [.sl 1 (rws p L),.sl 1 (rws q L)]=some ([bv true],[]):=by
 refine zae z23 rfl ?_
 simp [zs9,zta]
 refine zbu (fun n st => ∃ i:Nat,i+n=L.length∧st.V 0 = .sl 1 (rws p L)∧st.V 1 = .sl 1 (rws q L)∧st.V 5=iv i) ?_ L.length _ ⟨0,by simp⟩
 rintro n st ⟨i,hi,v0,v1,v5⟩
 simp [z1m,v0,v1,v5]
 refine zcj (fun h => ?_) (fun h => ?_)
 ·simp at h
  obtain ⟨l,hx⟩ : ∃ l,L[i]?=some l:=⟨_,List.getElem?_eq_getElem h⟩
  have hw:=wS h hl
  have hx1:=zee (q:=p) hx
  have hx2:=zee (q:=q) hx
  have hz:=zx2 l (hll l (List.mem_of_getElem? hx))
  simp [-getElem?_pos,v0,v1,v5,h,hx1,hx2,hw,hz]
  exact za8 (n-1) (by omega) ⟨i+1,by omega,by simp [v0],by simp [v1],by simp⟩
 ·simp at h
  simp
theorem yjl (q:Bool) (c v:List (List Int)) (hcl:c.length≤1048576) (hvl:v.length≤1048576) (hc : ∀ l∈c,l.length≤1048576) (hv : ∀ l∈v,l.length≤1048576):RUN T zhk [.agg [.sl 1 (rws q c),.sl 1 (rws q v)]]=some ([.agg [.own 1 (rws true c),.own 1 (rws true v)]],[]):=by
 refine zae z1y rfl ?_
 simp [zrk,zrl,z47 q c hcl hc,z47 q v hvl hv]
theorem yjm (p q:Bool) (c v:List (List Int)) (hcl:c.length≤9223372036854775807) (hvl:v.length≤9223372036854775807) (hc : ∀ l∈c,l.length≤9223372036854775807) (hv : ∀ l∈v,l.length≤9223372036854775807):RUN T zmd [.agg [.sl 1 (rws p c),.sl 1 (rws p v)],.agg [.sl 1 (rws q c),.sl 1 (rws q v)]]=some ([bv true],[]):=by
 refine zae z12 rfl ?_
 simp [zrs,zrt,z48 p q c hcl hc,z48 p q v hvl hv]
def zgi (x:Int):Bool:=zan x (-2199023255552) 2199023255552
def zgj (c v:List (List Int)) (lab:List Int) (g:Cfg):Bool:=zc4 c v && zb8 g && decide ((lab.length:Int)=zcb v) && lab.all zgi
@[simp] theorem yuz (n:Int):RUN T zju [iv n]=some ([bv (!zgi n)],[]):=by
 refine zae z2l rfl ?_
 simp [zsi,zsj,zd1,-zde,zgi]
theorem yjn (q:Bool) (c v:List (List Int)) (lab:List Int) (g:Cfg) (hc : ∀ l∈c,l.length≤9223372036854775807) (hv : ∀ l∈v,l.length≤9223372036854775807) (hlab:lab.length≤9223372036854775807) (hg:g.sg.length≤9223372036854775807):RUN T zl7 [.agg [.sl 1 (rws q c),.sl 1 (rws q v)],.sl 1 (zaf lab),zdq g]=some ([bv (zgj c v lab g)],[]):=by
 refine zae z1t rfl ?_
 have e1:=yji q c v hc hv
 have e2:=z42 g hg
 have e3:=zx5 q c v
 have e4:=zx4 (f:=zju) (p:=fun n => !zgi n) lab hlab (by simp) (fun n _=>by simp)
 unfold zgj
 cases d1:zc4 c v with
 | false=>simp [zkv,zkw,zdq,e1,d1]
 | true =>
  cases d2:zb8 g with
  | false=>simp [zkv,zkw,zdq,e1,d1,e2,d2]
  | true =>
   rcases Classical.propComplete ((lab.length:Int)=zcb v) with d3 | d3
   ·have d4:(!(lab.any fun n => !zgi n))=lab.all zgi:=by simp [List.any_eq_not_all_not]
    simp [zkv,zkw,zdq,e1,d1,e2,d2,e3,d3,e4,d4]
   ·simp [zkv,zkw,zdq,e1,d1,e2,d2,e3,d3]
theorem yjo (q:Bool) (c v:List (List Int)) (lab:List Int) (g:Cfg) (hc : ∀ l∈c,l.length≤9223372036854775807) (hv : ∀ l∈v,l.length≤9223372036854775807) (hlab:lab.length≤9223372036854775807) (hg:g.sg.length≤9223372036854775807):RUN T zl6 [.agg [.sl 1 (rws q c),.sl 1 (rws q v)],.sl 1 (zaf lab),zdq g]=some ([bv (zgj c v lab g)],[]):=by
 refine zae z1s rfl ?_
 have e1:=yjj q c v hc hv
 have e2:=yi7 g hg
 have e3:=z45 q c v
 unfold zgj
 cases d1:zc4 c v with
 | false=>simp [zkt,zku,zdq,e1,d1]
 | true =>
  cases d2:zb8 g with
  | false=>simp [zkt,zku,zdq,e1,d1,e2,d2]
  | true =>
   rcases Classical.propComplete ((lab.length:Int)=zcb v) with d3 | d3
   ·simp [zkt,zku,zdq,e1,d1,e2,d2,e3,d3]
    refine zbu (fun n st => ∃ i:Nat,i+n=lab.length∧(∀ (j:Nat) (x:Int),j<i→lab[j]?=some x→zgi x=true)∧st.V 1 = .sl 1 (zaf lab)∧st.V 7=iv i) ?_ lab.length _ ⟨0,by omega,fun _ _ h=>by omega,by simp,by simp⟩
    rintro n st ⟨i,hi,hj,v1,v7⟩
    simp [z1c,v1,v7]
    refine zcj (fun h => ?_) (fun h => ?_)
    ·simp at h
     obtain ⟨x,hx⟩ : ∃ x,lab[i]?=some x:=⟨_,List.getElem?_eq_getElem h⟩
     have hx':=zcp hx
     have hw:=wS h hlab
     have hlb:zgi x=zan x (-2199023255552) 2199023255552:=rfl
     cases d4:zgi x with
     | true =>
      have d5:=hlb.symm.trans d4
      simp [-getElem?_pos,v1,v7,hx',hw,h,d5,zdn,-zc9]
      exact za8 (n-1) (by omega) ⟨i+1,by omega,zym (P:=fun _ x=>zgi x=true) hj hx d4,by simp [v1],by simp⟩
     | false =>
      have d5:=hlb.symm.trans d4
      have no:=zz6 hx d4
      simp [-getElem?_pos,v1,v7,hx',hw,h,d5,no,zdn,-zc9]
    ·simp at h
     have:=zzs (p:=zgi) fun j a h1 h2=>hj j a (by omega) h2
     simp [this,d3]
   ·simp [zkt,zku,zdq,e1,d1,e2,d2,e3,d3]
theorem zje {n:Int} (h:(Lit.int .i64 n).wf=true) : -9223372036854775808≤n∧n≤9223372036854775807:=bounds_i64 h
theorem zoo {α:Type} {f:α→List PV} {p:α→Prop} {tys:List TY} (h : ∀ cs,zba tys cs→∃ a,f a=cs∧p a) : ∀ {es:List (List PV)},(∀ cs∈es,zba tys cs)→∃ l:List α,l.map f=es∧∀ a∈l,p a
 | [],_=>⟨[],rfl,by simp⟩
 | e::es,hs=>by
  obtain ⟨a,ha,hp⟩:=h e (hs e (by simp))
  obtain ⟨l,hl,hq⟩:=zoo h (es:=es) (fun cs hc=>hs cs (by simp [hc]))
  refine ⟨a::l,by simp [ha,hl],fun b hb => ?_⟩
  rcases List.mem_cons.mp hb with e | e
  ·subst e; exact hp
  ·exact hq b e
theorem zz4 (cs:List PV) (h:zba [.int .i64] cs) : ∃ n:Int,[iv n]=cs∧inI n:=by
 simp only [zba,Shp] at h
 obtain ⟨_,_,rfl,⟨a,rfl,h1⟩,rfl⟩:=h
 exact ⟨a,rfl,zje h1⟩
theorem ylx {c:PV} (h:zfz false [.sl [.int .i64]] c) : ∃ l:List Int,c = .sl 1 (zaf l)∧l.length≤9223372036854775807∧∀ n∈l,inI n:=by
 simp only [zfz,Bool.false_eq_true,if_false,zba,Shp] at h
 obtain ⟨c',r,e,⟨es,he,h1,h2⟩,hr⟩:=h
 simp only [List.cons.injEq] at e
 obtain ⟨l,hl,hp⟩:=zoo (f:=fun n:Int=>[iv n]) (tys:=[.int .i64]) zz4 h2
 subst hl
 simp [maxLen] at h1
 exact ⟨l,e.1.trans he,by omega,hp⟩
def wfC (c:Cfg):Prop:=c.sg.length≤9223372036854775807∧inI c.ro∧inI c.de∧inI c.bi∧inI c.la∧inI c.rw∧inI c.nu∧inI c.dn∧∀ n∈c.sg,inI n
theorem yq5 {c:PV} (h:zfz true [.int .i64,.int .i64,.int .i64,.int .i64,.int .i64,.int .i64,.int .i64,.sl [.int .i64]] c) : ∃ x:Cfg,c=zdq x∧wfC x:=by
 obtain ⟨cs,rfl,h⟩:=h
 simp only [zba,Shp] at h
 obtain ⟨_,_,rfl,⟨a,rfl,h1⟩,_,_,rfl,⟨b,rfl,h2⟩,_,_,rfl,⟨c,rfl,h3⟩,_,_,rfl,⟨d,rfl,h4⟩,_,_,rfl,⟨e,rfl,h5⟩,_,_,rfl,⟨f,rfl,h6⟩,_,_,rfl,⟨g,rfl,h7⟩,_,_,rfl,⟨es,rfl,h8,h9⟩,rfl⟩:=h
 have h9' : ∀ cs∈es,zba [.int .i64] cs:=h9
 obtain ⟨l,hl,hp⟩:=zoo (f:=fun n:Int=>[iv n]) (tys:=[.int .i64]) zz4 h9'
 subst hl
 simp [maxLen] at h8
 exact ⟨⟨a,b,c,d,e,f,g,l⟩,rfl,by simpa using h8,zje h1,zje h2,zje h3,zje h4,zje h5,zje h6,zje h7,hp⟩
theorem z8t (cs:List PV) (h:zba [.sl [.int .i64]] cs) : ∃ l:List Int,[cel false l]=cs∧l.length≤9223372036854775807:=by
 simp only [zba,Shp] at h
 obtain ⟨_,_,rfl,⟨es,rfl,h1,h2⟩,rfl⟩:=h
 have h2' : ∀ cs∈es,zba [.int .i64] cs:=h2
 obtain ⟨l,hl,_⟩:=zoo (f:=fun n:Int=>[iv n]) (tys:=[.int .i64]) zz4 h2'
 subst hl
 simp [maxLen] at h1
 exact ⟨l,rfl,by omega⟩
theorem yo3 {c:PV} (h:zfz true [.sl [.sl [.int .i64]],.sl [.sl [.int .i64]]] c) : ∃ a b:List (List Int),c = .agg [.sl 1 (rws false a),.sl 1 (rws false b)]∧a.length≤9223372036854775807∧b.length≤9223372036854775807∧(∀ l∈a,l.length≤9223372036854775807)∧∀ l∈b,l.length≤9223372036854775807:=by
 obtain ⟨cs,rfl,h⟩:=h
 simp only [zba,Shp] at h
 obtain ⟨_,_,rfl,⟨es,rfl,h1,h2⟩,_,_,rfl,⟨es',rfl,h3,h4⟩,rfl⟩:=h
 have h2' : ∀ cs∈es,zba [.sl [.int .i64]] cs:=h2
 have h4' : ∀ cs∈es',zba [.sl [.int .i64]] cs:=h4
 obtain ⟨a,ha,hpa⟩:=zoo (f:=fun l=>[cel false l]) z8t h2'
 obtain ⟨b,hb,hpb⟩:=zoo (f:=fun l=>[cel false l]) z8t h4'
 subst ha
 subst hb
 simp [maxLen] at h1 h3
 exact ⟨a,b,rfl,by omega,by omega,hpa,hpb⟩
theorem ypr {P:Program} {l:List TypeId} (h:(l.all fun t=>P.readableRec t && decide (t<P.types.size))=true) : ∀ t∈l,P.readableRec t=true∧t<P.types.size:=by
 intro t ht
 have:=List.all_eq_true.mp h t ht
 simpa using this
theorem yot {p q r:Bool×List TY} {pvs:List PV} (h:zcn (fun p c=>zfz p.1 p.2 c) [p,q,r] pvs) : ∃ a b c,pvs=[a,b,c]∧zfz p.1 p.2 a∧zfz q.1 q.2 b∧zfz r.1 r.2 c:=by
 cases h with
 | cons h1 t=>cases t with
  | cons h2 t=>cases t with
   | cons h3 t=>cases t with
    | nil=>exact ⟨_,_,_,rfl,h1,h2,h3⟩
def z51 (B:List Int):List (List PV):=B.map fun n=>[.v (.int .u8 n)]
@[simp] theorem y8e (B:List Int):(z51 B).length=B.length:=by simp [z51]
def zw5 (rv:List RV) (io:Nat) (G:List PV×List PV→Prop) (_:Dm rv) (_:Dm G) (e:Ex) (s:St):Prop:=(e = .normal∨e = .ret)∧∃ r,zfe ⟨[],rv,.skip⟩ io s=some r∧G r
@[simp] theorem y33 {rv:List RV} {io:Nat} {G:List PV×List PV→Prop} {s:St}:zw5 rv io G ⟨⟩ ⟨⟩ .normal s = ∃ r,zfe ⟨[],rv,.skip⟩ io s=some r∧G r:=by simp [zw5]
@[simp] theorem y81 {rv:List RV} {io:Nat} {G:List PV×List PV→Prop} {s:St}:zw5 rv io G ⟨⟩ ⟨⟩ .ret s = ∃ r,zfe ⟨[],rv,.skip⟩ io s=some r∧G r:=by simp [zw5]
def adi (a b:Int):Int×Bool:=if -9223372036854775808≤a+b∧a+b≤9223372036854775807 then (a+b,true) else (0,false)
theorem ykw {a b:Int} (ha:inI a) (hb:inI b):IntKind.i64.wrap (a+b)=if 9223372036854775807<a+b then a+b-18446744073709551616 else if a+b < -9223372036854775808 then a+b+18446744073709551616 else a+b:=by
 unfold inI at ha hb
 unfold IntKind.wrap
 simp [IntKind.bits,IntKind.signed]
 omega
theorem z49 (a b:Int) (ha:inI a) (hb:inI b):RUN T zkh [iv a,iv b]=some ([iv (adi a b).1,bv (adi a b).2],[]):=by
 refine zae z38 rfl ?_
 have hw:=ykw ha hb
 unfold inI at ha hb
 unfold adi
 by_cases c1:9223372036854775807<a+b
 ·rw [if_pos c1] at hw
  rw [if_neg (by omega)]
  have d1:=eq_false (by omega : ¬ a<0)
  have d2:=eq_false (by omega : ¬ b<0)
  have d3:=eq_true (by omega:a+b-18446744073709551616<0)
  simp [-getElem?_pos,zhq,zhr,hw,d1,d2,d3]
 ·rw [if_neg c1] at hw
  by_cases c2:a+b < -9223372036854775808
  ·rw [if_pos c2] at hw
   rw [if_neg (by omega)]
   have d1:=eq_true (by omega:a<0)
   have d2:=eq_true (by omega:b<0)
   have d3:=eq_false (by omega : ¬ a+b+18446744073709551616<0)
   simp [-getElem?_pos,zhq,zhr,hw,d1,d2,d3]
  ·rw [if_neg c2] at hw
   rw [if_pos (by omega)]
   rcases Classical.propComplete (a<0) with d1 | d1
   all_goals rcases Classical.propComplete (b<0) with d2 | d2
   all_goals simp at d1 d2
   ·have d3:=eq_true (by omega:a+b<0)
    simp [-getElem?_pos,zhq,zhr,hw,eq_true d1,eq_true d2,d3]
   ·have d2':=eq_false (by omega : ¬ b<0)
    simp [-getElem?_pos,zhq,zhr,hw,eq_true d1,d2']
   ·have d1':=eq_false (by omega : ¬ a<0)
    simp [-getElem?_pos,zhq,zhr,hw,eq_true d2,d1']
   ·have d1':=eq_false (by omega : ¬ a<0)
    have d2':=eq_false (by omega : ¬ b<0)
    have d3:=eq_false (by omega : ¬ a+b<0)
    simp [-getElem?_pos,zhq,zhr,hw,d1',d2',d3]
theorem z8f {a b:Int} (ha:inI a):inI (adi a b).1:=by
 unfold adi
 split
 ·rename_i h; exact h
 ·unfold inI; omega
def sbi (a b:Int):Int×Bool:=if -9223372036854775808≤a-b∧a-b≤9223372036854775807 then (a-b,true) else (0,false)
def sv (s:ByteArray):PV := .v (.string s)
def zqr (l:List ByteArray):List (List PV):=l.map fun s=>[.v (.string s)]
@[simp] theorem y6g (l:List ByteArray):(zqr l).length=l.length:=by simp [zqr]
def zzw (q:Bool) (t:List Nd):PV:=if q then .own 5 (t.map nd) else .sl 5 (t.map nd)
@[simp] theorem y8n (q:Bool) (t:List Nd):fz (zzw q t) = .sl 5 (t.map nd):=by cases q <;> simp [zzw]
def trs (q:Bool) (M:List (List Nd)):List (List PV):=M.map fun t=>[zzw q t]
@[simp] theorem yv9 (q:Bool) (M:List (List Nd)):(trs q M).length=M.length:=by simp [trs]
def rwS (q:Bool) (l:List ByteArray):PV:=if q then .own 1 (zqr l) else .sl 1 (zqr l)
@[simp] theorem yyy (q:Bool) (l:List ByteArray):fz (rwS q l) = .sl 1 (zqr l):=by cases q <;> simp [rwS]
def ya4 (q:Bool) (L:List (List ByteArray)):List (List PV):=L.map fun l=>[rwS q l]
@[simp] theorem ywv (q:Bool) (L:List (List ByteArray)):(ya4 q L).length=L.length:=by simp [ya4]
def ymt (p:Nat→Bool) (i:Nat):List Int:=((List.range i).filter p).map fun (j:Nat)=>(j:Int)
@[simp] theorem y3f (p:Nat→Bool):ymt p 0=[]:=rfl
def zov (k:Int) (L:List (List Int)) (j:Nat):List Int:=upto (k+zbf (L.take j)) (L.getD j []).length
theorem ybx {es:List (List PV)} {i:Nat} {c d:PV} (h:es[i]?=some [c]):zb1 es i 0 d=es.set i [d]:=by simp [zb1,h]
theorem yp4 {L:List (List Int)} {i:Nat} {l:List Int} (h:L[i]?=some l):zbf (L.take (i+1))=zbf (L.take i)+l.length:=by
 unfold zbf
 rw [List.take_succ,h]; simp
theorem ymd (L:List (List Int)) (i:Nat):zbf (L.take i)≤zbf L:=by
 induction L generalizing i with
 | nil=>simp
 | cons a L ih =>
  cases i with
  | zero=>simp [zbf]
  | succ i=>rw [List.take_succ_cons,zwx,zwx]; have:=ih i; omega
theorem z5a (L:List (List Int)) (k:Int) (h0:0≤k) (hk:k+zbf L≤9223372036854775806) (hL:L.length≤9223372036854775807):RUN T zj2 [.own 1 (rws true L),iv k]=some ([iv (k+zbf L)],[.own 1 (rws true ((List.range L.length).map (zov k L)))]):=by
 refine zae z24 rfl ?_
 simp [-getElem?_pos,ztb,ztc]
 obtain ⟨f,hf⟩ : ∃ f:Nat→List PV,f=fun j=>[cel true (zov k L j)]:=⟨_,rfl⟩
 refine zbu (fun n st => ∃ i:Nat,i+n=L.length∧1≤st.nx∧st.V 0 = .ref 0 none 0 0 L.length∧st.V 1=iv (k+zbf (L.take i))∧st.V 5=iv i∧st.S 0=some (.row 1 (mix f (rws true L) i))) ?_ L.length _ ⟨0,by simp [z0r,zbf]⟩
 rintro n st ⟨i,hi,hnx,v0,v1,v5,hS⟩
 simp [z1n,v0,v1,v5,hS]
 refine zcj (fun h => ?_) (fun h => ?_)
 ·simp at h
  obtain ⟨l,hx⟩ : ∃ l,L[i]?=some l:=⟨_,List.getElem?_eq_getElem h⟩
  have hw:=wS h hL
  have hx':=zee (q:=true) hx
  have hg:=(z0m (f:=f) (l:=rws true L) (i:=i)).trans hx'
  have hs:=zzd (f:=f) (l:=rws true L) (i:=i) (by simpa using h)
  have hle:=ymd L (i+1)
  have htk:=yp4 hx
  have hM:=zx3 l (k+zbf (L.take i)) (by omega) (by omega)
  have hsc : ∀ d:PV,zb1 (mix f (rws true L) i) i 0 d=(mix f (rws true L) i).set i [d]:=fun d=>ybx hg
  have hfi:f i=[.own 1 (zaf (upto (k+zbf (L.take i)) l.length))]:=by rw [hf]; simp [zov,hx,cel]
  rw [hfi] at hs
  have hml:=z07 (f:=f) (l:=rws true L) (i:=i) (by simp; omega)
  simp at hml
  have hss : ∀ d:PV,zb1 ((mix f (rws true L) i).set i [.undef]) i 0 d=(mix f (rws true L) i).set i [d]:=fun d=>by
   rw [ybx (c := .undef) (by rw [List.getElem?_set_self (by omega)]),List.set_set]
  simp only [cel,if_true] at hg
  obtain ⟨z1,z2,z3,z4⟩:=fr (show 0<st.nx by omega)
  simp [-getElem?_pos,v0,v1,v5,hS,h,hg,hml,hM,hsc,hss,hs,hw,z1,z2,z3,z4,zbc]
  refine za8 (n-1) (by omega) ⟨i+1,by omega,by simp,by simp [v0],?_,by simp,by simp⟩
  simp [htk]; omega
 ·simp at h
  have e:=zz3 (f:=f) (l:=rws true L) (i:=i) (by simp; omega)
  have e2:i=L.length:=by omega
  subst e2
  rw [e] at hS
  rw [List.take_length] at v1
  have e3:rws true ((List.range L.length).map (zov k L))=(List.range L.length).map f:=by rw [hf]; simp [rws,Function.comp_def]
  rw [e3]
  simp [-getElem?_pos,hS,v1]
theorem zhj (x:Int):IntKind.u64.wrap x=x % 18446744073709551616:=IntKind.wrap_u64 x
theorem ybq (a b:Int):za6 .mul (.int .u64 a) (.int .u64 b)=some (.int .u64 (a*b % 18446744073709551616)):=by rw [zy2,zhj]
theorem z9x (a b:Int):za6 .add (.int .u64 a) (.int .u64 b)=some (.int .u64 ((a+b) % 18446744073709551616)):=by rw [z0h,zhj]
theorem z8g (x:Int):za6 .shr (.int .u64 x) (.int .u64 32)=some (.int .u64 (x / 4294967296)):=by
 rw [zzb,if_pos (by decide)]
 have:(2:Int) ^ min (32:Int).toNat IntKind.u64.bits=4294967296:=by decide
 rw [this,Int.fdiv_eq_ediv_of_nonneg _ (by decide)]
theorem ypn (x:Int):za6 .shl (.int .u64 x) (.int .u64 32)=some (.int .u64 (x*4294967296 % 18446744073709551616)):=by
 rw [yby,if_pos (by decide),zhj]
 have:(2:Int) ^ min (32:Int).toNat IntKind.u64.bits=4294967296:=by decide
 rw [this]
theorem zlq {x:Int} (h0:0≤x) (h1:x<18446744073709551616):za6 .and (.int .u64 x) (.int .u64 4294967295)=some (.int .u64 (x % 4294967296)):=by
 rw [z0i,zhj]
 have e:((BitVec.ofInt IntKind.u64.bits x &&& BitVec.ofInt IntKind.u64.bits 4294967295).toNat:Int)=x % 4294967296:=by
  obtain ⟨n,rfl⟩:=Int.eq_ofNat_of_zero_le h0
  have hn:n<2 ^ 64:=by omega
  have e2:(BitVec.ofInt 64 (n:Int) &&& BitVec.ofInt 64 4294967295).toNat=n % 4294967296:=by
   rw [BitVec.toNat_and]
   have e3:(BitVec.ofInt 64 (n:Int)).toNat=n:=by
    rw [BitVec.ofInt_natCast,BitVec.toNat_ofNat,Nat.mod_eq_of_lt hn]
   have e4:(BitVec.ofInt 64 4294967295).toNat=2 ^ 32-1:=by decide
   rw [e3,e4,Nat.and_two_pow_sub_one_eq_mod]
  show (((BitVec.ofInt 64 (n:Int) &&& BitVec.ofInt 64 4294967295).toNat:Nat):Int)=_
  rw [e2]; omega
 rw [e]; congr 2; omega
theorem parts {x y:Int} (hx:0≤x) (hx1:x<18446744073709551616) (hy:0≤y) (hy1:y<18446744073709551616) :
  ∃ a b c d:Int,a=x % 4294967296*(y % 4294967296)∧b=x / 4294967296*(y % 4294967296)∧c=x % 4294967296*(y / 4294967296)∧d=x / 4294967296*(y / 4294967296)∧0≤a∧a≤18446744065119617025∧0≤b∧b≤18446744065119617025∧0≤c∧c≤18446744065119617025∧0≤d∧d≤18446744065119617025∧x*y=d*18446744073709551616+(b+c)*4294967296+a:=by
 have bd : ∀ u v:Int,0≤u→u≤4294967295→0≤v→v≤4294967295→0≤u*v∧u*v≤18446744065119617025:=fun u v h1 h2 h3 h4 =>
  ⟨Int.mul_nonneg h1 h3,Int.le_trans (Int.mul_le_mul h2 h4 h3 (by decide)) (by decide)⟩
 have x0:0≤x % 4294967296∧x % 4294967296≤4294967295:=by omega
 have x1:0≤x / 4294967296∧x / 4294967296≤4294967295:=by omega
 have y0:0≤y % 4294967296∧y % 4294967296≤4294967295:=by omega
 have y1:0≤y / 4294967296∧y / 4294967296≤4294967295:=by omega
 refine ⟨_,_,_,_,rfl,rfl,rfl,rfl,(bd _ _ x0.1 x0.2 y0.1 y0.2).1,(bd _ _ x0.1 x0.2 y0.1 y0.2).2,(bd _ _ x1.1 x1.2 y0.1 y0.2).1,(bd _ _ x1.1 x1.2 y0.1 y0.2).2,(bd _ _ x0.1 x0.2 y1.1 y1.2).1,(bd _ _ x0.1 x0.2 y1.1 y1.2).2,(bd _ _ x1.1 x1.2 y1.1 y1.2).1,(bd _ _ x1.1 x1.2 y1.1 y1.2).2,?_⟩
 have ex:x=x / 4294967296*4294967296+x % 4294967296:=by omega
 have ey:y=y / 4294967296*4294967296+y % 4294967296:=by omega
 generalize x / 4294967296=p at *
 generalize x % 4294967296=q at *
 generalize y / 4294967296=r at *
 generalize y % 4294967296=s at *
 rw [ex,ey,Int.add_mul,Int.mul_add,Int.mul_add]
 have e1:p*4294967296*(r*4294967296)=p*r*18446744073709551616:=by
  rw [show (18446744073709551616:Int)=4294967296*4294967296 by decide,Int.mul_assoc,Int.mul_comm 4294967296 (r*4294967296),Int.mul_assoc r,← Int.mul_assoc p r]
 have e2:p*4294967296*s=p*s*4294967296:=by rw [Int.mul_assoc,Int.mul_comm 4294967296 s,← Int.mul_assoc]
 have e3:q*(r*4294967296)=q*r*4294967296:=by rw [← Int.mul_assoc]
 rw [e1,e2,e3,Int.add_mul]
 omega
theorem zx6 (x y:Int) (hx:0≤x) (hx1:x<18446744073709551616) (hy:0≤y) (hy1:y<18446744073709551616):RUN T ziy [.v (.int .u64 x),.v (.int .u64 y)]=some ([.v (.int .u64 (x*y / 18446744073709551616)),.v (.int .u64 (x*y % 18446744073709551616))],[]):=by
 refine zae z4t rfl ?_
 obtain ⟨a,b,c,d,ea,eb,ec,ed,a0,a1,b0,b1,c0,c1,d0,d1,hp⟩:=parts hx hx1 hy hy1
 have f1:=zlq hx hx1
 have f2:=zlq hy hy1
 have g1:a % 18446744073709551616=a:=by omega
 have g2:b % 18446744073709551616=b:=by omega
 have g3:c % 18446744073709551616=c:=by omega
 have g4:d % 18446744073709551616=d:=by omega
 have g5:(b+a / 4294967296) % 18446744073709551616=b+a / 4294967296:=by omega
 have f3:=zlq (x:=b+a / 4294967296) (by omega) (by omega)
 simp [-zy2,-z0h,-z0i,-zzb,ybq,z9x,z8g,f1,f2,f3,zvt,zvu,← ea,← eb,← ec,← ed,g1,g2,g3,g4,g5]
 omega
theorem zx7 (x y:Int) (hx:0≤x) (hx1:x<18446744073709551616) (hy:0≤y) (hy1:y<18446744073709551616):RUN T zi1 [.v (.int .u64 x),.v (.int .u64 y)]=some ([.v (.int .u64 (x*y / 18446744073709551616)),.v (.int .u64 (x*y % 18446744073709551616))],[]):=by
 refine zae z4z rfl ?_
 obtain ⟨a,b,c,d,ea,eb,ec,ed,a0,a1,b0,b1,c0,c1,d0,d1,hp⟩:=parts hx hx1 hy hy1
 have f1:=zlq hx hx1
 have f2:=zlq hy hy1
 have g1:a % 18446744073709551616=a:=by omega
 have g2:b % 18446744073709551616=b:=by omega
 have g3:c % 18446744073709551616=c:=by omega
 have g4:d % 18446744073709551616=d:=by omega
 have g5:(b+a / 4294967296) % 18446744073709551616=b+a / 4294967296:=by omega
 have f3:=zlq (x:=b+a / 4294967296) (by omega) (by omega)
 have f4:=zlq (x:=a) (by omega) (by omega)
 simp [-zy2,-z0h,-z0i,-zzb,-yby,ybq,z9x,z8g,ypn,f1,f2,f3,f4,zv1,zv2,← ea,← eb,← ec,← ed,g1,g2,g3,g4,g5]
 omega
structure Wd where
 n:Bool
 h:Int
 l:Int
deriving DecidableEq
abbrev uv (x:Int):PV := .v (.int .u64 x)
def wd (w:Wd):List PV:=[bv w.n,uv w.h,uv w.l]
def wfU (w:Wd):Prop:=0≤w.h∧w.h<18446744073709551616∧0≤w.l∧w.l<18446744073709551616
def wok (w:Wd):Bool:=decide (w.h<9223372036854775808) && (!w.n || decide (0<w.h) || decide (0<w.l))
def mag (w:Wd):Int:=w.h*18446744073709551616+w.l
def mkW (n:Bool) (m:Int):Wd:=⟨n && decide (0<m),m / 18446744073709551616,m % 18446744073709551616⟩
def za5:Wd:=⟨false,0,0⟩
theorem zo2 {n:Bool} {m:Int} (h0:0≤m) (h1:m<340282366920938463463374607431768211456):wfU (mkW n m):=by
 unfold wfU mkW; simp only; omega
theorem zyy {n:Bool} {m:Int}:mag (mkW n m)=m:=by unfold mag mkW; simp only; omega
theorem zn9 {n:Bool} {m:Int} (h0:0≤m):wok (mkW n m)=decide (m<170141183460469231731687303715884105728):=by
 unfold wok mkW
 simp only
 by_cases h:m<170141183460469231731687303715884105728
 ·have e:m / 18446744073709551616<9223372036854775808:=by omega
  rw [decide_eq_true h,decide_eq_true e]
  by_cases hz:0<m
  ·by_cases h2:0<m / 18446744073709551616
   ·simp [h2]
   ·have:0<m % 18446744073709551616:=by omega
    simp [this]
  ·simp [hz]
 ·have e : ¬ m / 18446744073709551616<9223372036854775808:=by omega
  rw [decide_eq_false h,decide_eq_false e]; rfl
theorem zx8 (n:Int) (h:inI n):RUN T ziz [iv n]=some ([uv n.natAbs],[]):=by
 refine zae z4u rfl ?_
 obtain ⟨h0,h1⟩:=h
 simp [zvv,zvw]
 refine zcj (fun h => ?_) (fun h => ?_) <;> simp at h <;> simp [zhj] <;> omega
theorem zx9 (n:Int) (h:inI n):RUN T zi0 [iv n]=some ([uv n.natAbs],[]):=by
 refine zae z4y rfl ?_
 obtain ⟨h0,h1⟩:=h
 have e1:n<0→IntKind.i64.wrap (n+1)=n+1:=fun h=>w64 (by omega) (by omega)
 have e2:n<0→IntKind.i64.wrap (0-(n+1))=0-(n+1):=fun h=>w64 (by omega) (by omega)
 simp [zvz,zv0]
 refine zcj (fun h => ?_) (fun h => ?_) <;> simp at h
 ·have e1:=e1 h
  have e2:=e2 h
  simp at e2
  simp [e1,e2,zhj]; omega
 ·simp [zhj]; omega
theorem zqc (n:Bool) (h l:Int):RUN T zfp [bv n,uv h,uv l]=some ([.agg (wd ⟨n && (decide (0<h) || decide (0<l)),h,l⟩)],[]):=by
 refine zae z4g rfl ?_
 cases n with
 | false=>simp [znw,znx,wd]
 | true =>
  by_cases h1:0<h
  ·simp [znw,znx,wd,h1]
  ·simp [znw,znx,wd,h1]
theorem zn1 (w:Wd):RUN T zf7 [.agg (wd w)]=some ([bv (wok w)],[]):=by
 refine zae z4r rfl ?_
 obtain ⟨n,h,l⟩:=w
 unfold wok
 by_cases h1:h<9223372036854775808
 ·cases n with
  | false=>simp [zk2,zk3,wd,h1]
  | true =>
   by_cases h2:0<h
   ·simp [zk2,zk3,wd,h1,h2]
   ·simp [zk2,zk3,wd,h1,h2]
 ·simp [zk2,zk3,wd,h1]
theorem zn2 (w:Wd):RUN T zf8 [.agg (wd w)]=some ([bv (wok w)],[]):=by
 refine zae z4w rfl ?_
 obtain ⟨n,h,l⟩:=w
 unfold wok
 by_cases h1:h<9223372036854775808
 ·cases n with
  | false=>simp [zk4,zk5,wd,h1]
  | true =>
   by_cases h2:0<h
   ·simp [zk4,zk5,wd,h1,h2]
   ·simp [zk4,zk5,wd,h1,h2]
 ·simp [zk4,zk5,wd,h1]
theorem zqd (w:Wd):RUN T zho [.agg (wd w)]=some ([bv (decide (w.h=0) && decide (w.l=0))],[]):=by
 refine zae z4o rfl ?_
 by_cases h1:w.h=0
 ·simp [zp8,zp9,wd,h1]
 ·simp [zp8,zp9,wd,h1]
def zb2 (a b:Int):Int:=if a<b then -1 else if b<a then 1 else 0
theorem z5b (x:Int):RUN T zkq [uv x]=some ([bv false],[]):=by
 refine zae z40 rfl ?_
 simp [zv3,zv4]
theorem z5c (x y:Int):RUN T zkp [uv x,uv y]=some ([iv (zb2 x y)],[]):=by
 refine zae z4v rfl ?_
 have e1:=z5b x
 have e2:=z5b y
 unfold zb2
 by_cases h1:x<y
 ·simp [zny,znz,e1,e2,h1]
 ·by_cases h2:y<x
  ·simp [zny,znz,e1,e2,h1,h2]
  ·simp [zny,znz,e1,e2,h1,h2]
theorem z5d (x y:Int):RUN T zki [.sl 1 [[iv x],[iv y]]]=some ([iv (if x=0 then y else x)],[]):=by
 refine zae z39 rfl ?_
 simp [zu9,zva]
 refine zbu (fun n st => ∃ i:Nat,i+n=2∧(1≤i→x=0)∧(2≤i→y=0)∧st.V 3=iv 0∧st.V 6 = .sl 1 [[iv x],[iv y]]∧st.V 7=iv 2∧st.V 8=iv i) ?_ 2 _ ⟨0,by simp⟩
 rintro n st ⟨i,hi,hx,hy,v3,v6,v7,v8⟩
 simp [z1q,v7,v8]
 have h3:i=0∨i=1∨i=2:=by omega
 rcases h3 with rfl | rfl | rfl
 ·have hw:IntKind.i64.wrap 1=1:=w64 (by omega) (by omega)
  by_cases h:x=0
  ·simp [v3,v6,v7,v8,h,hw]
   exact za8 (n-1) (by omega) ⟨1,by omega,fun _=>h,by simp,by simp [v3],by simp [v6,h],by simp [v7],by simp⟩
  ·simp [v3,v6,v7,v8,h]
 ·have hx:=hx (by omega)
  have hw:IntKind.i64.wrap 2=2:=w64 (by omega) (by omega)
  by_cases h:y=0
  ·simp [v3,v6,v7,v8,h,hx,hw]
   exact za8 (n-1) (by omega) ⟨2,by omega,fun _=>hx,fun _=>h,by simp [v3],by simp [v6,h,hx],by simp [v7],by simp⟩
  ·simp [v3,v6,v7,v8,h,hx]
 ·have hx:=hx (by omega)
  have hy:=hy (by omega)
  simp [v3,hx,hy]
def zej (a b:Wd):Int:=if zb2 a.h b.h=0 then zb2 a.l b.l else zb2 a.h b.h
theorem yba {a b:Wd} (ha:wfU a) (hb:wfU b):zej a b=zb2 (mag a) (mag b):=by
 obtain ⟨_,_,_,_⟩:=ha
 obtain ⟨_,_,_,_⟩:=hb
 unfold zej zb2 mag
 split <;> split <;> split <;> (try split) <;> (try split) <;> omega
theorem zya (a b:Wd):RUN T ziv [.agg (wd a),.agg (wd b)]=some ([iv (zej a b)],[]):=by
 refine zae z4h rfl ?_
 have e1:=z5c a.h b.h
 have e2:=z5c a.l b.l
 have e3:=z5d (zb2 a.h b.h) (zb2 a.l b.l)
 simp [zvh,zvi,wd,e1,e2,e3,zej]
theorem zyb (a b:Wd):RUN T ziw [.agg (wd a),.agg (wd b)]=some ([iv (zej a b)],[]):=by
 refine zae z4p rfl ?_
 unfold zej zb2
 by_cases h1:a.h<b.h
 ·simp [zi2,zi3,wd,h1]
 ·by_cases h2:b.h<a.h
  ·have h3 : ¬ a.h=b.h:=by omega
   simp [zi2,zi3,wd,h1,h2,h3]
  ·have h3:a.h=b.h:=by omega
   by_cases h4:a.l<b.l
   ·simp [zi2,zi3,wd,h3,h4]
   ·by_cases h5:b.l<a.l
    ·simp [zi2,zi3,wd,h3,h4,h5]
    ·simp [zi2,zi3,wd,h3,h4,h5]
def zbo (a b:Int):Wd:=mkW (decide (a<0) != decide (b<0)) ((a.natAbs:Int)*b.natAbs)
theorem zh1 {a:Int} (h:inI a):0≤(a.natAbs:Int)∧(a.natAbs:Int)≤9223372036854775808:=by
 obtain ⟨h0,h1⟩:=h; omega
theorem z6g {a b:Int} (ha:inI a) (hb:inI b):0≤(a.natAbs:Int)*b.natAbs∧(a.natAbs:Int)*b.natAbs≤85070591730234615865843651857942052864:=by
 obtain ⟨a0,a1⟩:=zh1 ha
 obtain ⟨b0,b1⟩:=zh1 hb
 exact ⟨Int.mul_nonneg a0 b0,Int.le_trans (Int.mul_le_mul a1 b1 b0 (by decide)) (by decide)⟩
theorem yjp (a b:Int) (ha:inI a) (hb:inI b):RUN T znh [iv a,iv b]=some ([.agg (wd (zbo a b))],[]):=by
 refine zae z4d rfl ?_
 obtain ⟨a0,a1⟩:=zh1 ha
 obtain ⟨b0,b1⟩:=zh1 hb
 have e1:=zx8 a ha
 have e2:=zx8 b hb
 have e3:=zx6 a.natAbs b.natAbs a0 (by omega) b0 (by omega)
 have e4:=zqc (decide (a<0) != decide (b<0)) ((a.natAbs:Int)*b.natAbs / 18446744073709551616) ((a.natAbs:Int)*b.natAbs % 18446744073709551616)
 obtain ⟨m0,m1⟩:=z6g ha hb
 have e5:(⟨(decide (a<0) != decide (b<0)) && (decide (0<(a.natAbs:Int)*b.natAbs / 18446744073709551616) || decide (0<(a.natAbs:Int)*b.natAbs % 18446744073709551616)),(a.natAbs:Int)*b.natAbs / 18446744073709551616,(a.natAbs:Int)*b.natAbs % 18446744073709551616⟩:Wd)=zbo a b:=by
  unfold zbo mkW
  congr 2
  generalize (a.natAbs:Int)*b.natAbs=m at *
  rw [Bool.eq_iff_iff]; simp; omega
 rw [e5] at e4
 generalize zbo a b=w at *
 obtain ⟨wn,wh,wl⟩:=w
 simp only [wd] at e4 ⊢
 by_cases sa:a<0 <;> by_cases sb:b<0 <;> simp [sa,sb] at e4 <;> simp [zvd,zve,e1,e2,e3,sa,sb,e4]
theorem yjq (a b:Int) (ha:inI a) (hb:inI b):RUN T znl [iv a,iv b]=some ([.agg (wd (zbo a b))],[]):=by
 refine zae z4x rfl ?_
 obtain ⟨a0,a1⟩:=zh1 ha
 obtain ⟨b0,b1⟩:=zh1 hb
 have e1:=zx9 a ha
 have e2:=zx9 b hb
 have e3:=zx7 a.natAbs b.natAbs a0 (by omega) b0 (by omega)
 have hpos:(0<(a.natAbs:Int)*b.natAbs)↔(a≠0∧b≠0):=by
  constructor
  ·intro h
   refine ⟨?_,?_⟩ <;> rintro rfl <;> simp at h
  ·rintro ⟨h1,h2⟩
   exact Int.mul_pos (by omega) (by omega)
 have e5:zbo a b=⟨((decide (a<0) != decide (b<0)) && !decide (a=0)) && !decide (b=0),(a.natAbs:Int)*b.natAbs / 18446744073709551616,(a.natAbs:Int)*b.natAbs % 18446744073709551616⟩:=by
  unfold zbo mkW
  congr 1
  rw [Bool.eq_iff_iff]; simp [hpos,and_assoc]
 rw [e5]
 by_cases sa:a<0 <;> by_cases sb:b<0 <;> rcases Classical.propComplete (a=0) with h0 | h0 <;> simp [zvx,zvy,e1,e2,e3,sa,sb,wd,h0]
def zdz (w:Wd):Int:=if w.n then -mag w else mag w
def zbx (a b:Wd):Wd×Bool :=
 if wok a && wok b then
  if ((zdz a+zdz b).natAbs:Int)<170141183460469231731687303715884105728 then (mkW (decide (zdz a+zdz b<0)) (zdz a+zdz b).natAbs,true) else (za5,false)
 else (za5,false)
theorem yn4 (a b:Wd):wfU (zbx a b).1:=by
 unfold zbx
 split
 ·split
  ·exact zo2 (by omega) (by omega)
  ·exact ⟨by decide,by decide,by decide,by decide⟩
 ·exact ⟨by decide,by decide,by decide,by decide⟩
theorem zjd {w:Wd} (h:wfU w) (hk:wok w=true):0≤mag w∧mag w<170141183460469231731687303715884105728∧(w.n=true→0<mag w):=by
 obtain ⟨h0,h1,h2,h3⟩:=h
 unfold wok at hk
 simp only [Bool.and_eq_true,Bool.or_eq_true,Bool.not_eq_true',decide_eq_true_eq] at hk
 unfold mag
 obtain ⟨k1,k2⟩:=hk
 refine ⟨by omega,by omega,fun hn => ?_⟩
 rw [hn] at k2
 rcases k2 with (k2 | k2) | k2
 ·cases k2
 ·omega
 ·omega
theorem ypo (a b:Wd) (ha:wfU a) (hb:wfU b) (h:mag a+mag b<340282366920938463463374607431768211456) : ∃ c d:Int,
  RUN T zhp [uv a.l,uv b.l,uv 0]=some ([uv ((mag a+mag b) % 18446744073709551616),uv c],[])∧RUN T zhp [uv a.h,uv b.h,uv c]=some ([uv ((mag a+mag b) / 18446744073709551616),uv d],[]):=by
 obtain ⟨a0,a1,a2,a3⟩:=ha
 obtain ⟨b0,b1,b2,b3⟩:=hb
 have e1:=zz1 zx0 (x:=a.l) (y:=b.l) (c:=0) a2 b2 (by decide) (by decide)
 have e2:=zz1 zx0 (x:=a.h) (y:=b.h) (c:=(a.l+b.l+0) / 18446744073709551616) a0 b0 (by omega) (by omega)
 have f1:(a.l+b.l+0) % 18446744073709551616=(mag a+mag b) % 18446744073709551616:=by unfold mag; omega
 have f2:(a.h+b.h+(a.l+b.l+0) / 18446744073709551616) % 18446744073709551616=(mag a+mag b) / 18446744073709551616:=by unfold mag at *; omega
 rw [f1] at e1
 rw [f2] at e2
 exact ⟨_,_,e1,e2⟩
theorem z55 (a b:Wd) (ha:wfU a) (hb:wfU b) (h:mag b≤mag a) : ∃ c d:Int,
  RUN T zix [uv a.l,uv b.l,uv 0]=some ([uv ((mag a-mag b) % 18446744073709551616),uv c],[])∧RUN T zix [uv a.h,uv b.h,uv c]=some ([uv ((mag a-mag b) / 18446744073709551616),uv d],[]):=by
 obtain ⟨a0,a1,a2,a3⟩:=ha
 obtain ⟨b0,b1,b2,b3⟩:=hb
 have e1:=ya9 z4s (x:=a.l) (y:=b.l) (c:=0) a2 b2 a3 b3 (by decide) (by decide)
 have e2:=ya9 z4s (x:=a.h) (y:=b.h) (c:=if a.l<b.l+0 then 1 else 0) a0 b0 a1 b1 (by split <;> omega) (by split <;> omega)
 have f1:(a.l-b.l-0) % 18446744073709551616=(mag a-mag b) % 18446744073709551616:=by unfold mag; omega
 have f2:(a.h-b.h-(if a.l<b.l+0 then 1 else 0)) % 18446744073709551616=(mag a-mag b) / 18446744073709551616:=by
  unfold mag at *
  split <;> omega
 rw [f1] at e1
 rw [f2] at e2
 exact ⟨_,_,e1,e2⟩
theorem zz9 {n:Bool} {m:Int} (h:0≤m):RUN T zfp [bv n,uv (m / 18446744073709551616),uv (m % 18446744073709551616)]=some ([.agg (wd (mkW n m))],[]):=by
 rw [zqc]
 have:(⟨n && (decide (0<m / 18446744073709551616) || decide (0<m % 18446744073709551616)),m / 18446744073709551616,m % 18446744073709551616⟩:Wd)=mkW n m:=by
  unfold mkW
  congr 2
  rw [Bool.eq_iff_iff]; simp; omega
 rw [this]
theorem yjr (a b:Wd) (ha:wfU a) (hb:wfU b):RUN T zng [.agg (wd a),.agg (wd b)]=some ([.agg (wd (zbx a b).1),bv (zbx a b).2],[]):=by
 refine zae z4b rfl ?_
 have ea:=zn1 a
 have eb:=zn1 b
 cases ka:wok a with
 | false =>
  have es:zbx a b=(za5,false):=by unfold zbx; simp [ka]
  rw [es]; rw [ka] at ea
  simp only [wd] at ea
  simp [zhs,zht,wd,ea,za5]
 | true =>
  cases kb:wok b with
  | false =>
   have es:zbx a b=(za5,false):=by unfold zbx; simp [kb]
   rw [es]; rw [ka] at ea; rw [kb] at eb
   simp only [wd] at ea eb
   simp [zhs,zht,wd,ea,eb,za5]
  | true =>
   obtain ⟨ma0,ma1,ma2⟩:=zjd ha ka
   obtain ⟨mb0,mb1,mb2⟩:=zjd hb kb
   rw [ka] at ea; rw [kb] at eb
   by_cases hn:a.n=b.n
   ·obtain ⟨c,d,f1,f2⟩:=ypo a b ha hb (by omega)
    have f3:=zz9 (n:=a.n) (m:=mag a+mag b) (by omega)
    have f4:=zn1 (mkW a.n (mag a+mag b))
    rw [zn9 (by omega)] at f4
    have es:zbx a b=if mag a+mag b<170141183460469231731687303715884105728 then (mkW a.n (mag a+mag b),true) else (za5,false):=by
     unfold zbx zdz
     rw [ka,kb,← hn]
     simp only [Bool.and_self,if_true]
     cases h:a.n with
     | true =>
      have e1:(-mag a + -mag b).natAbs=mag a+mag b:=by omega
      have e2 : -mag a + -mag b<0:=by have:=ma2 h; omega
      simp only [if_true,e1,decide_eq_true e2]
     | false =>
      have e1:((mag a+mag b).natAbs:Int)=mag a+mag b:=by omega
      have e2 : ¬ mag a+mag b<0:=by omega
      simp only [Bool.false_eq_true,if_false,e1,decide_eq_false e2]
    rw [es]
    generalize hm:mag a+mag b=m at *
    generalize mkW a.n m=w at *
    generalize m / 18446744073709551616=hi at *
    generalize m % 18446744073709551616=lo at *
    simp only [wd] at ea eb f3 f4 ⊢
    rw [hn] at ea f3
    by_cases hk:m<170141183460469231731687303715884105728
    ·rw [decide_eq_true hk] at f4
     rw [if_pos hk]
     simp [zhs,zht,ea,eb,hn,f1,f2,f3,f4]
    ·rw [decide_eq_false hk] at f4
     rw [if_neg hk]
     simp [zhs,zht,ea,eb,hn,f1,f2,f3,f4,za5]
   ·have ho:=zya a b
    rw [yba ha hb] at ho
    have es:zbx a b=(mkW (if mag a<mag b then b.n else a.n) (if mag a<mag b then mag b-mag a else mag a-mag b),true):=by
     have gen : ∀ (n:Bool) (m:Int),((zdz a+zdz b).natAbs:Int)=m→m<170141183460469231731687303715884105728→(decide (zdz a+zdz b<0) && decide (0<m))=(n && decide (0<m))→zbx a b=(mkW n m,true):=by
      intro n m h1 h2 h3
      unfold zbx
      rw [ka,kb,h1]
      simp only [Bool.and_self,if_true,if_pos h2]
      unfold mkW
      rw [h3]
     unfold zdz at gen
     cases h:a.n <;> cases h':b.n <;> simp only [h,h'] at gen hn ⊢
     ·exact (hn trivial).elim
     ·by_cases hl:mag a<mag b
      ·rw [if_pos hl,if_pos hl]
       exact gen _ _ (by simp; omega) (by omega) (by rw [Bool.eq_iff_iff]; simp; omega)
      ·rw [if_neg hl,if_neg hl]
       exact gen _ _ (by simp; omega) (by omega) (by rw [Bool.eq_iff_iff]; simp; omega)
     ·by_cases hl:mag a<mag b
      ·rw [if_pos hl,if_pos hl]
       exact gen _ _ (by simp; omega) (by omega) (by rw [Bool.eq_iff_iff]; simp; omega)
      ·rw [if_neg hl,if_neg hl]
       exact gen _ _ (by simp; omega) (by omega) (by rw [Bool.eq_iff_iff]; simp; omega)
     ·exact (hn trivial).elim
    rw [es]
    have hnb:(a.n == b.n)=false:=by cases h:a.n <;> cases h':b.n <;> simp [h,h'] at hn ⊢
    by_cases hl:mag a<mag b
    ·obtain ⟨c,d,f1,f2⟩:=z55 b a hb ha (by omega)
     have f3:=zz9 (n:=b.n) (m:=mag b-mag a) (by omega)
     have hs:zb2 (mag a) (mag b) = -1:=by unfold zb2; rw [if_pos hl]
     rw [hs] at ho
     rw [if_pos hl,if_pos hl]
     generalize mag b-mag a=m at *
     generalize mkW b.n m=w at *
     generalize m / 18446744073709551616=hi at *
     generalize m % 18446744073709551616=lo at *
     simp only [wd] at ea eb f3 ho ⊢
     simp [zhs,zht,ea,eb,hnb,ho,f1,f2,f3]
    ·obtain ⟨c,d,f1,f2⟩:=z55 a b ha hb (by omega)
     have f3:=zz9 (n:=a.n) (m:=mag a-mag b) (by omega)
     have hs : ¬ zb2 (mag a) (mag b)<0:=by unfold zb2; rw [if_neg hl]; split <;> omega
     rw [if_neg hl,if_neg hl]
     generalize mag a-mag b=m at *
     generalize mkW a.n m=w at *
     generalize m / 18446744073709551616=hi at *
     generalize m % 18446744073709551616=lo at *
     generalize zb2 (mag a) (mag b)=sg at *
     simp only [wd] at ea eb f3 ho ⊢
     simp [zhs,zht,ea,eb,hnb,ho,hs,f1,f2,f3]
theorem z6d {a b:Wd} (ha:wfU a) (hb:wfU b) (ka:wok a=true) (kb:wok b=true) (hn:a.n=b.n):zbx a b=if mag a+mag b<170141183460469231731687303715884105728 then (mkW a.n (mag a+mag b),true) else (za5,false):=by
 obtain ⟨ma0,ma1,ma2⟩:=zjd ha ka
 obtain ⟨mb0,mb1,mb2⟩:=zjd hb kb
 unfold zbx zdz
 rw [ka,kb,← hn]
 simp only [Bool.and_self,if_true]
 cases h:a.n with
 | true =>
  have e1:(-mag a + -mag b).natAbs=mag a+mag b:=by omega
  have e2 : -mag a + -mag b<0:=by have:=ma2 h; omega
  simp only [if_true,e1,decide_eq_true e2]
 | false =>
  have e1:((mag a+mag b).natAbs:Int)=mag a+mag b:=by omega
  have e2 : ¬ mag a+mag b<0:=by omega
  simp only [Bool.false_eq_true,if_false,e1,decide_eq_false e2]
theorem ymq {a b:Wd} (ha:wfU a) (hb:wfU b) (ka:wok a=true) (kb:wok b=true) (hn : ¬ a.n=b.n):zbx a b=(mkW (if mag a<mag b then b.n else a.n) (if mag a<mag b then mag b-mag a else mag a-mag b),true):=by
 obtain ⟨ma0,ma1,ma2⟩:=zjd ha ka
 obtain ⟨mb0,mb1,mb2⟩:=zjd hb kb
 have gen : ∀ (n:Bool) (m:Int),((zdz a+zdz b).natAbs:Int)=m→m<170141183460469231731687303715884105728→(decide (zdz a+zdz b<0) && decide (0<m))=(n && decide (0<m))→zbx a b=(mkW n m,true):=by
  intro n m h1 h2 h3
  unfold zbx
  rw [ka,kb,h1]
  simp only [Bool.and_self,if_true,if_pos h2]
  unfold mkW
  rw [h3]
 unfold zdz at gen
 cases h:a.n <;> cases h':b.n <;> simp only [h,h'] at gen hn ⊢
 ·exact (hn trivial).elim
 ·by_cases hl:mag a<mag b
  ·rw [if_pos hl,if_pos hl]
   exact gen _ _ (by simp; omega) (by omega) (by rw [Bool.eq_iff_iff]; simp; omega)
  ·rw [if_neg hl,if_neg hl]
   exact gen _ _ (by simp; omega) (by omega) (by rw [Bool.eq_iff_iff]; simp; omega)
 ·by_cases hl:mag a<mag b
  ·rw [if_pos hl,if_pos hl]
   exact gen _ _ (by simp; omega) (by omega) (by rw [Bool.eq_iff_iff]; simp; omega)
  ·rw [if_neg hl,if_neg hl]
   exact gen _ _ (by simp; omega) (by omega) (by rw [Bool.eq_iff_iff]; simp; omega)
 ·exact (hn trivial).elim
theorem ykv (a b:Wd) (ha:wfU a) (hb:wfU b) (h:mag a+mag b<340282366920938463463374607431768211456) :
  IntKind.u64.wrap (a.l+b.l)=(mag a+mag b) % 18446744073709551616∧((mag a+mag b) % 18446744073709551616<a.l→IntKind.u64.wrap (IntKind.u64.wrap (a.h+b.h)+1)=(mag a+mag b) / 18446744073709551616)∧(¬ (mag a+mag b) % 18446744073709551616<a.l→IntKind.u64.wrap (a.h+b.h)=(mag a+mag b) / 18446744073709551616):=by
 obtain ⟨a0,a1,a2,a3⟩:=ha
 obtain ⟨b0,b1,b2,b3⟩:=hb
 unfold mag at *
 refine ⟨?_,fun h => ?_,fun h => ?_⟩ <;> simp only [zhj] at * <;> omega
theorem yaz (a b:Wd) (ha:wfU a) (hb:wfU b) (h:mag b≤mag a) :
  IntKind.u64.wrap (a.l-b.l)=(mag a-mag b) % 18446744073709551616∧(a.l<b.l→IntKind.u64.wrap (IntKind.u64.wrap (a.h-b.h)-1)=(mag a-mag b) / 18446744073709551616)∧(¬ a.l<b.l→IntKind.u64.wrap (a.h-b.h)=(mag a-mag b) / 18446744073709551616):=by
 obtain ⟨a0,a1,a2,a3⟩:=ha
 obtain ⟨b0,b1,b2,b3⟩:=hb
 unfold mag at *
 refine ⟨?_,fun h => ?_,fun h => ?_⟩ <;> simp only [zhj] at * <;> omega
theorem yjs (a b:Wd) (ha:wfU a) (hb:wfU b):RUN T znj [.agg (wd a),.agg (wd b)]=some ([.agg (wd (zbx a b).1),bv (zbx a b).2],[]):=by
 refine zae z4k rfl ?_
 have ea:=zn2 a
 have eb:=zn2 b
 cases ka:wok a with
 | false =>
  have es:zbx a b=(za5,false):=by unfold zbx; simp [ka]
  rw [es]; rw [ka] at ea
  simp only [wd] at ea
  simp [zet,zeu,wd,ea,za5]
 | true =>
  cases kb:wok b with
  | false =>
   have es:zbx a b=(za5,false):=by unfold zbx; simp [kb]
   rw [es]; rw [ka] at ea; rw [kb] at eb
   simp only [wd] at ea eb
   simp [zet,zeu,wd,ea,eb,za5]
  | true =>
   obtain ⟨ma0,ma1,ma2⟩:=zjd ha ka
   obtain ⟨mb0,mb1,mb2⟩:=zjd hb kb
   rw [ka] at ea; rw [kb] at eb
   by_cases hn:a.n=b.n
   ·obtain ⟨f1,f2,f3⟩:=ykv a b ha hb (by omega)
    have f4:=zn2 (mkW a.n (mag a+mag b))
    rw [zn9 (by omega)] at f4
    rw [z6d ha hb ka kb hn]
    have e6:mkW a.n (mag a+mag b)=⟨a.n,(mag a+mag b) / 18446744073709551616,(mag a+mag b) % 18446744073709551616⟩:=by
     unfold mkW
     congr 1
     cases h:a.n with
     | false=>rfl
     | true=>have:=ma2 h; simp; omega
    rw [e6] at f4 ⊢
    generalize hm:mag a+mag b=m at *
    generalize m / 18446744073709551616=hi at *
    generalize m % 18446744073709551616=lo at *
    simp only [wd] at ea eb f4 ⊢
    rw [hn] at ea f4
    by_cases hc:lo<a.l
    ·have f2:=f2 hc
     by_cases hk:m<170141183460469231731687303715884105728
     ·rw [decide_eq_true hk] at f4
      rw [if_pos hk]
      simp [zet,zeu,ea,eb,hn,hc,f1,f2,f4]
     ·rw [decide_eq_false hk] at f4
      rw [if_neg hk]
      simp [zet,zeu,ea,eb,hn,hc,f1,f2,f4,za5]
    ·have f3:=f3 hc
     by_cases hk:m<170141183460469231731687303715884105728
     ·rw [decide_eq_true hk] at f4
      rw [if_pos hk]
      simp [zet,zeu,ea,eb,hn,hc,f1,f3,f4]
     ·rw [decide_eq_false hk] at f4
      rw [if_neg hk]
      simp [zet,zeu,ea,eb,hn,hc,f1,f3,f4,za5]
   ·have ho:=zyb a b
    rw [yba ha hb] at ho
    rw [ymq ha hb ka kb hn]
    have hnb:(a.n == b.n)=false:=by cases h:a.n <;> cases h':b.n <;> simp [h,h'] at hn ⊢
    by_cases hl:mag a<mag b
    ·obtain ⟨f1,f2,f3⟩:=yaz b a hb ha (by omega)
     have hz:=zqd ⟨b.n,(mag b-mag a) / 18446744073709551616,(mag b-mag a) % 18446744073709551616⟩
     have hs:zb2 (mag a) (mag b) = -1:=by unfold zb2; rw [if_pos hl]
     rw [hs] at ho
     rw [if_pos hl,if_pos hl]
     have e6:mkW b.n (mag b-mag a)=⟨b.n,(mag b-mag a) / 18446744073709551616,(mag b-mag a) % 18446744073709551616⟩:=by
      unfold mkW
      congr 1
      rw [decide_eq_true (show 0<mag b-mag a by omega),Bool.and_true]
     have e7:(decide ((mag b-mag a) / 18446744073709551616=0) && decide ((mag b-mag a) % 18446744073709551616=0))=false:=by
      rw [Bool.eq_false_iff]; simp; omega
     simp only at hz
     rw [e7] at hz
     rw [e6]
     clear e6 e7
     generalize mag b-mag a=m at *
     generalize m / 18446744073709551616=hi at *
     generalize m % 18446744073709551616=lo at *
     simp only [wd] at ea eb ho hz ⊢
     by_cases hc:b.l<a.l
     ·have f2:=f2 hc
      simp [zet,zeu,ea,eb,hnb,ho,hc,f1,f2,hz]
     ·have f3:=f3 hc
      simp [zet,zeu,ea,eb,hnb,ho,hc,f1,f3,hz]
    ·obtain ⟨f1,f2,f3⟩:=yaz a b ha hb (by omega)
     have hz:=zqd ⟨a.n,(mag a-mag b) / 18446744073709551616,(mag a-mag b) % 18446744073709551616⟩
     have hs : ¬ zb2 (mag a) (mag b)<0:=by unfold zb2; rw [if_neg hl]; split <;> omega
     rw [if_neg hl,if_neg hl]
     generalize zb2 (mag a) (mag b)=sg at *
     by_cases h0:mag a-mag b=0
     ·have e6:mkW a.n (mag a-mag b)=⟨false,(mag a-mag b) / 18446744073709551616,(mag a-mag b) % 18446744073709551616⟩:=by
       unfold mkW
       congr 1
       simp [h0]
      have e7:(decide ((mag a-mag b) / 18446744073709551616=0) && decide ((mag a-mag b) % 18446744073709551616=0))=true:=by
       simp; omega
      simp only at hz
      rw [e7] at hz
      rw [e6]
      clear e6 e7 h0
      generalize mag a-mag b=m at *
      generalize m / 18446744073709551616=hi at *
      generalize m % 18446744073709551616=lo at *
      simp only [wd] at ea eb ho hz ⊢
      by_cases hc:a.l<b.l
      ·have f2:=f2 hc
       simp [zet,zeu,ea,eb,hnb,ho,hs,hc,f1,f2,hz]
      ·have f3:=f3 hc
       simp [zet,zeu,ea,eb,hnb,ho,hs,hc,f1,f3,hz]
     ·have e6:mkW a.n (mag a-mag b)=⟨a.n,(mag a-mag b) / 18446744073709551616,(mag a-mag b) % 18446744073709551616⟩:=by
       unfold mkW
       congr 1
       rw [decide_eq_true (show 0<mag a-mag b by omega),Bool.and_true]
      have e7:(decide ((mag a-mag b) / 18446744073709551616=0) && decide ((mag a-mag b) % 18446744073709551616=0))=false:=by
       rw [Bool.eq_false_iff]; simp; omega
      simp only at hz
      rw [e7] at hz
      rw [e6]
      clear e6 e7 h0
      generalize mag a-mag b=m at *
      generalize m / 18446744073709551616=hi at *
      generalize m % 18446744073709551616=lo at *
      simp only [wd] at ea eb ho hz ⊢
      by_cases hc:a.l<b.l
      ·have f2:=f2 hc
       simp [zet,zeu,ea,eb,hnb,ho,hs,hc,f1,f2,hz]
      ·have f3:=f3 hc
       simp [zet,zeu,ea,eb,hnb,ho,hs,hc,f1,f3,hz]
theorem ymv {a b:Int} (ha:inI a) (hb:inI b):wfU (zbo a b):=by
 obtain ⟨m0,m1⟩:=z6g ha hb
 exact zo2 m0 (by omega)
def zcf (w:Wd) (k:Int):Wd×Bool:=if wok w=true∧mag w*k.natAbs<170141183460469231731687303715884105728 then (mkW (w.n != decide (k<0)) (mag w*k.natAbs),true) else (za5,false)
theorem yag (w:Wd) (k:Int) (hw:wfU w) (hk:inI k) : ∃ p q:Int,w.h*k.natAbs=p∧w.l*k.natAbs=q∧0≤p∧0≤q∧q≤170141183460469231722463931679029329920∧mag w*k.natAbs=p*18446744073709551616+q:=by
 obtain ⟨a0,a1,a2,a3⟩:=hw
 obtain ⟨k0,k1⟩:=zh1 hk
 refine ⟨_,_,rfl,rfl,Int.mul_nonneg a0 k0,Int.mul_nonneg a2 k0,Int.le_trans (Int.mul_le_mul (show w.l≤18446744073709551615 by omega) k1 k0 (by decide)) (by decide),?_⟩
 unfold mag
 rw [Int.add_mul,Int.mul_assoc,Int.mul_comm 18446744073709551616,← Int.mul_assoc]
theorem z59 (w:Wd) (k:Int) (ka:wok w=true) (p q:Int) (p0:0≤p) (q0:0≤q) (q1:q≤170141183460469231722463931679029329920) (hP:mag w*k.natAbs=p*18446744073709551616+q) :
  (zcf w k=(za5,false)∧(0<p / 18446744073709551616∨0<(p % 18446744073709551616+q / 18446744073709551616) / 18446744073709551616∨wok ⟨(w.n != decide (k<0)) && (decide (0<(p % 18446744073709551616+q / 18446744073709551616) % 18446744073709551616) || decide (0<q % 18446744073709551616)),(p % 18446744073709551616+q / 18446744073709551616) % 18446744073709551616,q % 18446744073709551616⟩=false)) ∨
  (zcf w k=(⟨(w.n != decide (k<0)) && (decide (0<(p % 18446744073709551616+q / 18446744073709551616) % 18446744073709551616) || decide (0<q % 18446744073709551616)),(p % 18446744073709551616+q / 18446744073709551616) % 18446744073709551616,q % 18446744073709551616⟩,true)∧¬ 0<p / 18446744073709551616∧¬ 0<(p % 18446744073709551616+q / 18446744073709551616) / 18446744073709551616∧wok ⟨(w.n != decide (k<0)) && (decide (0<(p % 18446744073709551616+q / 18446744073709551616) % 18446744073709551616) || decide (0<q % 18446744073709551616)),(p % 18446744073709551616+q / 18446744073709551616) % 18446744073709551616,q % 18446744073709551616⟩=true):=by
 by_cases hk:p*18446744073709551616+q<170141183460469231731687303715884105728
 ·right
  have e:(⟨(w.n != decide (k<0)) && (decide (0<(p % 18446744073709551616+q / 18446744073709551616) % 18446744073709551616) || decide (0<q % 18446744073709551616)),(p % 18446744073709551616+q / 18446744073709551616) % 18446744073709551616,q % 18446744073709551616⟩:Wd)=mkW (w.n != decide (k<0)) (p*18446744073709551616+q):=by
   unfold mkW
   congr 1
   ·congr 1
    rw [Bool.eq_iff_iff]; simp; omega
   ·omega
   ·omega
  rw [e,zn9 (by omega)]
  refine ⟨?_,by omega,by omega,decide_eq_true hk⟩
  unfold zcf
  rw [hP,if_pos ⟨ka,hk⟩]
 ·left
  refine ⟨?_,?_⟩
  ·unfold zcf
   rw [hP,if_neg (fun h=>hk h.2)]
  ·by_cases h1:0<p / 18446744073709551616
   ·exact .inl h1
   ·by_cases h2:0<(p % 18446744073709551616+q / 18446744073709551616) / 18446744073709551616
    ·exact .inr (.inl h2)
    ·refine .inr (.inr ?_)
     unfold wok
     rw [decide_eq_false (show ¬ (p % 18446744073709551616+q / 18446744073709551616) % 18446744073709551616<9223372036854775808 by omega)]
     rfl
set_option maxHeartbeats 1000000 in
theorem z5e (w:Wd) (k:Int) (hw:wfU w) (hk:inI k):RUN T zkl [.agg (wd w),iv k]=some ([.agg (wd (zcf w k).1),bv (zcf w k).2],[]):=by
 refine zae z4f rfl ?_
 have ea:=zn1 w
 cases ka:wok w with
 | false =>
  have es:zcf w k=(za5,false):=by unfold zcf; simp [ka]
  rw [es]; rw [ka] at ea
  simp only [wd] at ea
  simp [zf9,zga,wd,ea,za5]
 | true =>
  rw [ka] at ea
  obtain ⟨a0,a1,a2,a3⟩:=hw
  obtain ⟨k0,k1⟩:=zh1 hk
  have e1:=zx8 k hk
  have e2:=zx6 w.h k.natAbs a0 a1 k0 (by omega)
  have e3:=zx6 w.l k.natAbs a2 a3 k0 (by omega)
  obtain ⟨p,q,hp,hq,p0,q0,q1,hP⟩:=yag w k ⟨a0,a1,a2,a3⟩ hk
  rw [hp] at e2
  rw [hq] at e3
  have e4:=zz1 zx0 (x:=p % 18446744073709551616) (y:=q / 18446744073709551616) (c:=0) (by omega) (by omega) (by decide) (by decide)
  rw [Int.add_zero] at e4
  have e5:=zqc (w.n != decide (k<0)) ((p % 18446744073709551616+q / 18446744073709551616) % 18446744073709551616) (q % 18446744073709551616)
  have e6:=zn1 ⟨(w.n != decide (k<0)) && (decide (0<(p % 18446744073709551616+q / 18446744073709551616) % 18446744073709551616) || decide (0<q % 18446744073709551616)),(p % 18446744073709551616+q / 18446744073709551616) % 18446744073709551616,q % 18446744073709551616⟩
  have key:=z59 w k ka p q p0 q0 q1 hP
  generalize ((w.n != decide (k<0)) && (decide (0<(p % 18446744073709551616+q / 18446744073709551616) % 18446744073709551616) || decide (0<q % 18446744073709551616)))=sn at *
  generalize p / 18446744073709551616=P1 at *
  generalize p % 18446744073709551616=P2 at *
  generalize q / 18446744073709551616=Q1 at *
  generalize q % 18446744073709551616=Q2 at *
  generalize (P2+Q1) / 18446744073709551616=S1 at *
  generalize (P2+Q1) % 18446744073709551616=S2 at *
  generalize zcf w k=r at *
  generalize wok ⟨sn,S2,Q2⟩=o at *
  obtain ⟨wn,wh,wl⟩:=w
  simp only [wd] at ea e5 e6 ⊢
  simp only at e2 e3
  rcases key with ⟨rfl,c | c | rfl⟩ | ⟨rfl,c1,c2,rfl⟩
  ·cases wn <;> by_cases sb:k<0 <;> simp [sb] at e5 <;> simp [zf9,zga,ea,e1,e2,e3,e4,e5,sb,c,za5]
  ·by_cases c':0<P1
   ·cases wn <;> by_cases sb:k<0 <;> simp [sb] at e5 <;> simp [zf9,zga,ea,e1,e2,e3,e4,e5,sb,c',za5]
   ·cases wn <;> by_cases sb:k<0 <;> simp [sb] at e5 <;> simp [zf9,zga,ea,e1,e2,e3,e4,e5,sb,c',c,za5]
  ·by_cases c':0<P1
   ·cases wn <;> by_cases sb:k<0 <;> simp [sb] at e5 <;> simp [zf9,zga,ea,e1,e2,e3,e4,e5,sb,c',za5]
   ·by_cases c:0<S1
    ·cases wn <;> by_cases sb:k<0 <;> simp [sb] at e5 <;> simp [zf9,zga,ea,e1,e2,e3,e4,e5,sb,c',c,za5]
    ·cases wn <;> by_cases sb:k<0 <;> simp [sb] at e5 <;> simp [zf9,zga,ea,e1,e2,e3,e4,e5,e6,sb,c',c,za5]
  ·cases wn <;> by_cases sb:k<0 <;> simp [sb] at e5 <;> simp [zf9,zga,ea,e1,e2,e3,e4,e5,e6,sb,c1,c2]
set_option maxHeartbeats 1000000 in
theorem z5f (w:Wd) (k:Int) (hw:wfU w) (hk:inI k):RUN T zkn [.agg (wd w),iv k]=some ([.agg (wd (zcf w k).1),bv (zcf w k).2],[]):=by
 refine zae z4n rfl ?_
 have ea:=zn2 w
 cases ka:wok w with
 | false =>
  have es:zcf w k=(za5,false):=by unfold zcf; simp [ka]
  rw [es]; rw [ka] at ea
  simp only [wd] at ea
  simp [zgb,zgc,wd,ea,za5]
 | true =>
  rw [ka] at ea
  obtain ⟨a0,a1,a2,a3⟩:=hw
  obtain ⟨k0,k1⟩:=zh1 hk
  have e1:=zx9 k hk
  have e2:=zx7 w.h k.natAbs a0 a1 k0 (by omega)
  have e3:=zx7 w.l k.natAbs a2 a3 k0 (by omega)
  obtain ⟨p,q,hp,hq,p0,q0,q1,hP⟩:=yag w k ⟨a0,a1,a2,a3⟩ hk
  rw [hp] at e2
  rw [hq] at e3
  have e4:=zqd ⟨w.n != decide (k<0),(p % 18446744073709551616+q / 18446744073709551616) % 18446744073709551616,q % 18446744073709551616⟩
  have e5:(decide (0<(p % 18446744073709551616+q / 18446744073709551616) % 18446744073709551616) || decide (0<q % 18446744073709551616)) = !(decide ((p % 18446744073709551616+q / 18446744073709551616) % 18446744073709551616=0) && decide (q % 18446744073709551616=0)):=by
   rw [Bool.eq_iff_iff]; simp; omega
  have e6:=zn2 ⟨(w.n != decide (k<0)) && (decide (0<(p % 18446744073709551616+q / 18446744073709551616) % 18446744073709551616) || decide (0<q % 18446744073709551616)),(p % 18446744073709551616+q / 18446744073709551616) % 18446744073709551616,q % 18446744073709551616⟩
  have e7:0<(p % 18446744073709551616+q / 18446744073709551616) / 18446744073709551616↔(p % 18446744073709551616+q / 18446744073709551616) % 18446744073709551616<p % 18446744073709551616:=by omega
  have e8:=zhj (p % 18446744073709551616+q / 18446744073709551616)
  have key:=z59 w k ka p q p0 q0 q1 hP
  rw [e7] at key
  rw [e5] at key e6
  clear e7 e5
  simp only at e4
  generalize (decide ((p % 18446744073709551616+q / 18446744073709551616) % 18446744073709551616=0) && decide (q % 18446744073709551616=0))=z at *
  generalize p / 18446744073709551616=P1 at *
  generalize p % 18446744073709551616=P2 at *
  generalize q / 18446744073709551616=Q1 at *
  generalize q % 18446744073709551616=Q2 at *
  generalize (P2+Q1) % 18446744073709551616=S2 at *
  generalize zcf w k=r at *
  generalize hsn:((w.n != decide (k<0)) && !z)=sn at *
  generalize wok ⟨sn,S2,Q2⟩=o at *
  obtain ⟨wn,wh,wl⟩:=w
  simp only [wd] at ea e4 e6 ⊢
  simp only at e2 e3 hsn
  rcases key with ⟨rfl,c | c | rfl⟩ | ⟨rfl,c1,c2,rfl⟩
  ·cases wn <;> by_cases sb:k<0 <;> cases z <;> simp [sb] at e4 <;> simp [zgb,zgc,ea,e1,e2,e3,e4,e8,sb,c,za5]
  ·by_cases c':0<P1
   ·cases wn <;> by_cases sb:k<0 <;> cases z <;> simp [sb] at e4 <;> simp [zgb,zgc,ea,e1,e2,e3,e4,e8,sb,c',za5]
   ·cases wn <;> by_cases sb:k<0 <;> cases z <;> simp [sb] at e4 <;> simp [zgb,zgc,ea,e1,e2,e3,e4,e8,sb,c',c,za5]
  ·by_cases c':0<P1
   ·cases wn <;> by_cases sb:k<0 <;> cases z <;> simp [sb] at e4 <;> simp [zgb,zgc,ea,e1,e2,e3,e4,e8,sb,c',za5]
   ·by_cases c:S2<P2
    ·cases wn <;> by_cases sb:k<0 <;> cases z <;> simp [sb] at e4 <;> simp [zgb,zgc,ea,e1,e2,e3,e4,e8,sb,c',c,za5]
    ·cases wn <;> by_cases sb:k<0 <;> cases z <;> simp [sb] at e4 hsn <;> subst hsn <;> simp [zgb,zgc,ea,e1,e2,e3,e4,e6,e8,sb,c',c,za5]
  ·cases wn <;> by_cases sb:k<0 <;> cases z <;> simp [sb] at e4 hsn <;> subst hsn <;> simp [zgb,zgc,ea,e1,e2,e3,e4,e6,e8,sb,c1,c2]
def zd0 (w:Wd):Bool:=w.n && !(decide (w.h=0) && decide (w.l=0))
def zlj (a b:Wd):Int:=if zd0 a=true then (if zd0 b=true then zej b a else -1) else (if zd0 b=true then 1 else zej a b)
theorem yjt (a b:Wd):RUN T znf [.agg (wd a),.agg (wd b)]=some ([iv (zlj a b)],[]):=by
 refine zae z37 rfl ?_
 have e1:=zqd a
 have e2:=zqd b
 have e3:=zyb a b
 have e4:=zyb b a
 unfold zlj zd0
 generalize zej a b=x at *
 generalize zej b a=y at *
 generalize (decide (a.h=0) && decide (a.l=0))=z at *
 generalize (decide (b.h=0) && decide (b.l=0))=z' at *
 obtain ⟨an,ah,al⟩:=a
 obtain ⟨bn,bh,bl⟩:=b
 simp only [wd] at e1 e2 e3 e4 ⊢
 cases an <;> cases bn <;> cases z <;> cases z' <;> simp [zu7,zu8,e1,e2,e3,e4]
def z6p (t:List Nd) (k:Nat) (f c a b:Int):List Nd:=t.set k ⟨f,c,t.length,t.length+1,0⟩++[⟨-1,0,0,0,a⟩,⟨-1,0,0,0,b⟩]
def pos (x:Int) (l:List Int):Nat→Nat
 | 0=>0
 | k+1=>if x<l.getD k 0 then pos x l k else k+1
def z9w (x:Int) (l:List Int) (k P:Nat):Prop:=pos x l k=P
theorem z9w.z {x:Int} {l:List Int} {P:Nat} (h:z9w x l 0 P):0=P:=h
theorem Shaped.wf {t:List Nd} {F:Int} (h:Shaped t F) (hF:F≤100) (hl:t.length≤31) : ∀ n∈t,wfN n:=by
 intro n hn
 obtain ⟨j,hj⟩:=List.getElem?_of_mem hn
 unfold wfN inI
 by_cases hf:n.f = -1
 ·obtain ⟨h1,h2,h3,h4⟩:=h.leaf j n hj hf
  have:=zby.mp h4
  omega
 ·have hi:=h.inner j n hj hf
  have h1:=zby.mp hi.c
  have h2:=hi.f
  have h3:=hi.lo
  have h4:=hi.r
  have h5:=hi.hi
  have h6:=hi.v
  omega
structure Sl where
 n:Int
 g:Int
deriving DecidableEq
def slc (x:Sl):List PV:=[iv x.n,iv x.g]
def zra (l:List Sl):List (List PV):=l.map slc
@[simp] theorem yyo (l:List Sl):(zra l).length=l.length:=by simp [zra]
def slI (x:Sl):Prop:=inI x.n∧inI x.g
def zcd (a b:Sl):Sl×Bool:=if ((adi a.n b.n).2 && (adi a.g b.g).2)=true then (⟨(adi a.n b.n).1,(adi a.g b.g).1⟩,true) else (⟨0,0⟩,false)
theorem ynz {a b:Sl} (h:slI a):slI (zcd a b).1:=by
 unfold zcd
 split
 ·exact ⟨z8f h.1,z8f h.2⟩
 ·unfold slI inI; simp
theorem yju (a b:Sl) (ha:slI a) (hb:slI b):RUN T zm6 [.agg (slc a),.agg (slc b)]=some ([.agg (slc (zcd a b).1),bv (zcd a b).2],[]):=by
 refine zae z3u rfl ?_
 have e1:=z49 a.n b.n ha.1 hb.1
 have e2:=z49 a.g b.g ha.2 hb.2
 unfold zcd
 generalize adi a.n b.n=x at *
 generalize adi a.g b.g=y at *
 obtain ⟨x,xb⟩:=x
 obtain ⟨y,yb⟩:=y
 simp only at e1 e2 ⊢
 cases xb <;> cases yb <;> simp [zun,zuo,e1,e2,slc]
def atI {α:Type} (l:List α) (i:Int):Option α:=if 0≤i then l[i.toNat]? else none
theorem zqx {α:Type} {l:List α} {i:Int} {x:α} (h:atI l i=some x) : ∃ j:Nat,i=j∧l[j]?=some x∧j<l.length:=by
 unfold atI at h
 split at h
 ·refine ⟨i.toNat,by omega,h,?_⟩
  rcases Nat.lt_or_ge i.toNat l.length with h' | h'
  ·exact h'
  ·rw [List.getElem?_eq_none (by omega)] at h; cases h
 ·cases h
theorem z0b {α:Type} {l:List α} {i:Int} (h:atI l i=none):i<0∨(l.length:Int)≤i:=by
 unfold atI at h
 split at h
 ·right
  rcases Nat.lt_or_ge i.toNat l.length with h' | h'
  ·rw [List.getElem?_eq_getElem h'] at h; cases h
  ·omega
 ·omega
def z57 (b g:List Int):List Int→List Sl→Option (List Sl)
 | [],h=>some h
 | r::rs,h=>match atI b r,atI g r with
  | some x,some y=>match atI h x with
   | some s=>if (zcd s ⟨1,y⟩).2=true then z57 b g rs (h.set x.toNat (zcd s ⟨1,y⟩).1) else none
   | none=>none
  | _,_=>none
def z76 (b g rows:List Int) (k:Int):List Sl×Bool:=if zan k 1 8=true then match z57 b g rows (List.replicate k.toNat ⟨0,0⟩) with
  | some h=>(h,true)
  | none=>([],false)
 else ([],false)
def zyr (q:Bool) (l:List Sl):PV:=if q then .own 2 (zra l) else .sl 2 (zra l)
@[simp] theorem yzx (q:Bool) (l:List Sl):fz (zyr q l) = .sl 2 (zra l):=by cases q <;> simp [zyr]
def rss (q:Bool) (H:List (List Sl)):List (List PV):=H.map fun l=>[zyr q l]
@[simp] theorem ywt (q:Bool) (H:List (List Sl)):(rss q H).length=H.length:=by simp [rss]
def z9l (g rows:List Int):List (List Int)→List (List Int)→Option (List (List Sl))
 | x::c,y::v=>if (z76 y g rows (x.length+1)).2=true then (z9l g rows c v).map ((z76 y g rows (x.length+1)).1 :: ·) else none
 | _,_=>some []
def z7b (c v:List (List Int)) (g rows:List Int):List (List Sl)×Bool:=if zc4 c v=true then match z9l g rows c v with
  | some h=>(h,true)
  | none=>([],false)
 else ([],false)
theorem z6u {c v:List (List Int)} (h:zc4 c v=true):v.length=c.length∧c.length≤4:=by
 unfold zc4 at h
 simp only [Bool.and_eq_true,decide_eq_true_eq] at h
 have:=zby.mp h.1.1.1
 omega
def z6l (k:Int) (n:Nat):List Sl:=(List.range n).map fun (i:Nat)=>⟨k+2*(i:Int),k+2*(i:Int)+1⟩
@[simp] theorem qaz (k:Int) (n:Nat):(z6l k n).length=n:=by simp [z6l]
theorem yjv (c v:List (List Int)) (k:Int) (h0:0≤k) (hk:k+zbf c+zbf v≤9223372036854775806) (hc:c.length≤9223372036854775807) (hv:v.length≤9223372036854775807) : ∃ c' v':List (List Int),c'.length=c.length∧v'.length=v.length∧RUN T zmf [.agg [.own 1 (rws true c),.own 1 (rws true v)],iv k]=some ([iv (k+zbf c+zbf v)],[.own 1 (rws true c'),.own 1 (rws true v')]):=by
 have e1:=z5a c k h0 (by omega) hc
 have e2:=z5a v (k+zbf c) (by omega) (by omega) hv
 generalize hc':(List.range c.length).map (zov k c)=c' at *
 generalize hv':(List.range v.length).map (zov (k+zbf c) v)=v' at *
 have l1:c'.length=c.length:=by rw [← hc']; simp
 have l2:v'.length=v.length:=by rw [← hv']; simp
 refine ⟨c',v',l1,l2,zae z15 rfl ?_⟩
 simp [-getElem?_pos,zry,zrz,e1,e2,l1,l2]
theorem z5g (x:Int):RUN T zko [iv x]=some ([bv false],[]):=by
 refine zae z4q rfl ?_
 simp [zvr,zvs]
theorem z5h (x y:Int):RUN T zkj [iv x,iv y]=some ([iv (zb2 x y)],[]):=by
 refine zae z4a rfl ?_
 have e1:=z5g x
 have e2:=z5g y
 unfold zb2
 by_cases h1:x<y
 ·simp [znu,znv,e1,e2,h1]
 ·by_cases h2:y<x
  ·simp [znu,znv,e1,e2,h1,h2]
  ·simp [znu,znv,e1,e2,h1,h2]
theorem yjw (a b:Wd) (ha:wfU a) (hb:wfU b):RUN T znb [.agg (wd a),.agg (wd b)]=some ([iv (zlj a b)],[]):=by
 refine zae z30 rfl ?_
 have n1:(a.n && (decide (0<a.h) || decide (0<a.l)))=zd0 a:=by
  obtain ⟨h0,_,h1,_⟩:=ha
  unfold zd0
  congr 1
  rw [Bool.eq_iff_iff]; simp; omega
 have n2:(b.n && (decide (0<b.h) || decide (0<b.l)))=zd0 b:=by
  obtain ⟨h0,_,h1,_⟩:=hb
  unfold zd0
  congr 1
  rw [Bool.eq_iff_iff]; simp; omega
 have e1:=zqc a.n a.h a.l
 have e2:=zqc b.n b.h b.l
 rw [n1] at e1
 rw [n2] at e2
 have e3:=zya ⟨zd0 a,a.h,a.l⟩ ⟨zd0 b,b.h,b.l⟩
 have e4:=zya ⟨zd0 b,b.h,b.l⟩ ⟨zd0 a,a.h,a.l⟩
 have o1:zej ⟨zd0 a,a.h,a.l⟩ ⟨zd0 b,b.h,b.l⟩=zej a b:=rfl
 have o2:zej ⟨zd0 b,b.h,b.l⟩ ⟨zd0 a,a.h,a.l⟩=zej b a:=rfl
 rw [o1] at e3
 rw [o2] at e4
 clear o1 o2 n1 n2 ha hb
 unfold zlj
 generalize zej a b=x at *
 generalize zej b a=y at *
 generalize zd0 a=p at *
 generalize zd0 b=q at *
 obtain ⟨an,ah,al⟩:=a
 obtain ⟨bn,bh,bl⟩:=b
 simp only [wd] at e1 e2 e3 e4 ⊢
 cases p <;> cases q <;> simp [zuv,zuw,e1,e2,e3,e4]
structure Fr where
 w:Wd
 d:Int
def frc (f:Fr):List PV:=[bv f.w.n,uv f.w.h,uv f.w.l,iv f.d]
def frB (f:Fr):Bool:=wok f.w && zan f.d 1 1000000
def zeh:Fr:=⟨za5,0⟩
def zbt (w:Wd) (d:Int):Fr×Bool:=if frB ⟨w,d⟩=true then (⟨w,d⟩,true) else (zeh,false)
theorem zyc (f:Fr):RUN T ziu [.agg (frc f)]=some ([bv (frB f)],[]):=by
 refine zae z4e rfl ?_
 have e1:=zn1 f.w
 have e2:=zd1 f.d 1 1000000
 unfold frB
 generalize wok f.w=x at *
 generalize zan f.d 1 1000000=y at *
 simp only [wd] at e1
 cases x <;> simp [zvf,zvg,-zde,frc,e1,e2]
theorem zv5 (f:Fr):RUN T zhn [.agg (frc f)]=some ([bv (frB f)],[]):=by
 refine zae z4l rfl ?_
 have e1:=zn2 f.w
 have e2:=zdn f.d 1 1000000
 unfold frB
 generalize wok f.w=x at *
 generalize zan f.d 1 1000000=y at *
 simp only [wd] at e1
 cases x <;> simp [zvn,zvo,-zc9,frc,e1,e2]
theorem z5i (w:Wd) (d:Int):RUN T zkk [.agg (wd w),iv d]=some ([.agg (frc (zbt w d).1),bv (zbt w d).2],[]):=by
 refine zae z4c rfl ?_
 have e1:=zyc ⟨w,d⟩
 unfold zbt
 generalize frB ⟨w,d⟩=x at *
 simp only [frc] at e1
 cases x <;> simp [zvb,zvc,wd,frc,zeh,za5,e1]
theorem yjx (a d:Int) (ha:inI a):RUN T zna [iv a,iv d]=some ([.agg (frc (zbt (zbo a a) d).1),bv (zbt (zbo a a) d).2],[]):=by
 refine zae z3y rfl ?_
 have e1:=yjp a a ha ha
 have e2:=z5i (zbo a a) d
 generalize zbo a a=m at *
 generalize zbt m d=f at *
 obtain ⟨⟨fw,fd⟩,fb⟩:=f
 simp only [wd,frc] at e1 e2 ⊢
 simp [zur,zus,e1,e2]
theorem yjy (a d:Int) (ha:inI a):RUN T znk [iv a,iv d]=some ([.agg (frc (zbt (zbo a a) d).1),bv (zbt (zbo a a) d).2],[]):=by
 refine zae z4m rfl ?_
 have e1:=yjq a a ha ha
 have e2:=zv5 ⟨zbo a a,d⟩
 unfold zbt
 generalize zbo a a=m at *
 generalize frB ⟨m,d⟩=x at *
 simp only [wd,frc] at e1 e2
 cases x <;> simp [zvp,zvq,frc,zeh,za5,e1,e2]
def frI (f:Fr):Prop:=wfU f.w∧inI f.d
theorem zq4:wfU za5:=⟨by decide,by decide,by decide,by decide⟩
theorem yal (w:Wd) (k:Int) (h:wfU w):wfU (zcf w k).1:=by
 unfold zcf
 split
 ·rename_i hc
  refine zo2 ?_ (by omega)
  obtain ⟨h0,h1,h2,h3⟩:=h
  exact Int.mul_nonneg (by unfold mag; omega) (by omega)
 ·exact zq4
def zbg (a b:Fr):Wd×Wd×Bool:=if (frB a && frB b)=true then ((zcf a.w b.d).1,(zcf b.w a.d).1,(zcf a.w b.d).2 && (zcf b.w a.d).2) else (za5,za5,false)
theorem zyx (a b:Fr) (ha:wfU a.w) (hb:wfU b.w):wfU (zbg a b).1∧wfU (zbg a b).2.1:=by
 unfold zbg
 split
 ·exact ⟨yal _ _ ha,yal _ _ hb⟩
 ·exact ⟨zq4,zq4⟩
theorem z7o {a b:Fr} (h:(zbg a b).2.2=true):(1≤a.d∧a.d≤1000000)∧1≤b.d∧b.d≤1000000:=by
 unfold zbg at h
 split at h
 ·rename_i hc
  simp only [frB,Bool.and_eq_true] at hc
  exact ⟨zby.mp hc.1.2,zby.mp hc.2.2⟩
 ·cases h
theorem z5j (a b:Fr) (ha:frI a) (hb:frI b):RUN T zke [.agg (frc a),.agg (frc b)]=some ([.agg (wd (zbg a b).1),.agg (wd (zbg a b).2.1),bv (zbg a b).2.2],[]):=by
 refine zae z3z rfl ?_
 have e1:=zyc a
 have e2:=zyc b
 have e3:=z5e a.w b.d ha.1 hb.2
 have e4:=z5e b.w a.d hb.1 ha.2
 unfold zbg
 generalize zcf a.w b.d=x at *
 generalize zcf b.w a.d=y at *
 generalize frB a=p at *
 generalize frB b=q at *
 obtain ⟨⟨an,ah,al⟩,ad⟩:=a
 obtain ⟨⟨bn,bh,bl⟩,bd⟩:=b
 obtain ⟨x,xb⟩:=x
 obtain ⟨y,yb⟩:=y
 simp only [frc,wd] at e1 e2 e3 e4 ⊢
 cases p <;> cases q <;> cases xb <;> simp [zut,zuu,e1,e2,e3,e4,za5]
theorem z5k (a b:Fr) (ha:frI a) (hb:frI b):RUN T zkg [.agg (frc a),.agg (frc b)]=some ([.agg (wd (zbg a b).1),.agg (wd (zbg a b).2.1),bv (zbg a b).2.2],[]):=by
 refine zae z36 rfl ?_
 have e1:=zv5 a
 have e2:=zv5 b
 have e3:=z5f a.w b.d ha.1 hb.2
 have e4:=z5f b.w a.d hb.1 ha.2
 unfold zbg
 generalize zcf a.w b.d=x at *
 generalize zcf b.w a.d=y at *
 generalize frB a=p at *
 generalize frB b=q at *
 obtain ⟨⟨an,ah,al⟩,ad⟩:=a
 obtain ⟨⟨bn,bh,bl⟩,bd⟩:=b
 obtain ⟨x,xb⟩:=x
 obtain ⟨y,yb⟩:=y
 simp only [frc,wd] at e1 e2 e3 e4 ⊢
 cases p <;> cases q <;> cases xb <;> simp [zu5,zu6,e1,e2,e3,e4,za5]
def zdc (a b:Fr):Int×Bool:=if (zbg a b).2.2=true then (zlj (zbg a b).1 (zbg a b).2.1,true) else (0,false)
theorem z5l (a b:Fr) (ha:frI a) (hb:frI b):RUN T zj6 [.agg (frc a),.agg (frc b)]=some ([iv (zdc a b).1,bv (zdc a b).2],[]):=by
 refine zae z3d rfl ?_
 have e1:=z5j a b ha hb
 obtain ⟨w1,w2⟩:=zyx a b ha.1 hb.1
 have e2:=yjw (zbg a b).1 (zbg a b).2.1 w1 w2
 unfold zdc
 generalize zbg a b=r at *
 obtain ⟨x,y,o⟩:=r
 simp only at e2 ⊢
 generalize zlj x y=z at *
 simp only [frc,wd] at e1 e2 ⊢
 cases o <;> simp [ztr,zts,e1,e2]
theorem zyd (a b:Fr) (ha:frI a) (hb:frI b):RUN T zkd [.agg (frc a),.agg (frc b)]=some ([iv (zdc a b).1,bv (zdc a b).2],[]):=by
 refine zae z3s rfl ?_
 have e1:=z5k a b ha hb
 have e2:=yjt (zbg a b).1 (zbg a b).2.1
 unfold zdc
 generalize zbg a b=r at *
 obtain ⟨x,y,o⟩:=r
 simp only at e2 ⊢
 generalize zlj x y=z at *
 simp only [frc,wd] at e1 e2 ⊢
 cases o <;> simp [zuj,zuk,e1,e2]
def zex (a b:Fr):Fr×Bool:=if (zbg a b).2.2=true then (if (zbx (zbg a b).1 (zbg a b).2.1).2=true then zbt (zbx (zbg a b).1 (zbg a b).2.1).1 (a.d*b.d) else (zeh,false)) else (zeh,false)
theorem z99 {a b:Int} (h:(1≤a∧a≤1000000)∧1≤b∧b≤1000000):IntKind.i64.wrap (a*b)=a*b:=by
 have h1:a*b≤1000000*1000000:=Int.mul_le_mul h.1.2 h.2.2 (by omega) (by decide)
 have h2:0≤a*b:=Int.mul_nonneg (by omega) (by omega)
 exact w64 (by omega) (by omega)
theorem yjz (a b:Fr) (ha:frI a) (hb:frI b):RUN T zm9 [.agg (frc a),.agg (frc b)]=some ([.agg (frc (zex a b).1),bv (zex a b).2],[]):=by
 refine zae z3x rfl ?_
 have e1:=z5j a b ha hb
 obtain ⟨w1,w2⟩:=zyx a b ha.1 hb.1
 have e2:=yjr (zbg a b).1 (zbg a b).2.1 w1 w2
 have hok := @z7o a b
 have e3:=z5i (zbx (zbg a b).1 (zbg a b).2.1).1 (a.d*b.d)
 unfold zex
 generalize zbg a b=r at *
 obtain ⟨x,y,o⟩:=r
 simp only at e2 e3 hok ⊢
 generalize zbx x y=s at *
 obtain ⟨s,so⟩:=s
 simp only at e2 e3 ⊢
 cases o with
 | false =>
  simp only [frc,wd] at e1 ⊢
  simp [zp4,zp5,e1,zeh,za5]
 | true =>
  have hm:=z99 (hok rfl)
  generalize zbt s (a.d*b.d)=f at *
  obtain ⟨f,fo⟩:=f
  simp only [frc,wd] at e1 e2 e3 ⊢
  cases so <;> simp [zp4,zp5,e1,e2,e3,hm,zeh,za5]
theorem yj0 (a b:Fr) (ha:frI a) (hb:frI b):RUN T zne [.agg (frc a),.agg (frc b)]=some ([.agg (frc (zex a b).1),bv (zex a b).2],[]):=by
 refine zae z34 rfl ?_
 have e1:=z5k a b ha hb
 obtain ⟨w1,w2⟩:=zyx a b ha.1 hb.1
 have e2:=yjs (zbg a b).1 (zbg a b).2.1 w1 w2
 have hok := @z7o a b
 have e3:=zv5 ⟨(zbx (zbg a b).1 (zbg a b).2.1).1,a.d*b.d⟩
 unfold zex zbt
 generalize zbg a b=r at *
 obtain ⟨x,y,o⟩:=r
 simp only at e2 e3 hok ⊢
 generalize zbx x y=s at *
 obtain ⟨s,so⟩:=s
 simp only at e2 e3 ⊢
 cases o with
 | false =>
  simp only [frc,wd] at e1 ⊢
  simp [zp6,zp7,e1,zeh,za5]
 | true =>
  have hm:=z99 (hok rfl)
  generalize frB ⟨s,a.d*b.d⟩=fo at *
  simp only [frc,wd] at e1 e2 e3 ⊢
  cases so <;> cases fo <;> simp [zp6,zp7,e1,e2,e3,hm,frc,zeh,za5]
structure Cnd where
 f:Int
 b:Int
 a:Sl
 z:Sl
deriving DecidableEq
def cnd (c:Cnd):List PV:=[iv c.f,iv c.b,iv c.a.n,iv c.a.g,iv c.z.n,iv c.z.g]
def zh0 (c:Cnd):Prop:=inI c.f∧inI c.b∧slI c.a∧slI c.z
structure Bd where
 lo:Int
 hi:Int
def bnd (b:Bd):List PV:=[iv b.lo,iv b.hi]
def zcv (b:Bd):Bool:=decide (b.lo≤b.hi) && ze0 b.lo && ze0 b.hi
def za4 (x lo hi:Int):Int:=if x<lo then lo else if hi<x then hi else x
def zha (n l:Int):Bool:=zan n 0 40 && zan l 1 100
def zer (s:Sl) (l:Int) (b:Bd):Int×Bool:=if (zha s.n l && zcv b)=true then (za4 (fdv s.g (s.n+l)).1 b.lo b.hi,true) else (0,false)
def zdg (s:Sl) (l:Int):Fr×Bool:=if zha s.n l=true then zbt (zbo s.g s.g) (s.n+l) else (zeh,false)
def zbk (c:Cnd) (l:Int):Fr×Bool:=if ((zdg c.a l).2 && (zdg c.z l).2)=true then zex (zdg c.a l).1 (zdg c.z l).1 else (zeh,false)
theorem z5m (n l:Int):RUN T zj9 [iv n,iv l]=some ([bv (zha n l)],[]):=by
 refine zae z3k rfl ?_
 have e1:=zd1 n 0 40
 have e2:=zd1 l 1 100
 unfold zha
 generalize zan n 0 40=x at *
 cases x <;> simp [zt5,zt6,-zde,e1,e2]
theorem z5n (b:Bd):RUN T zka [.agg (bnd b)]=some ([bv (zcv b)],[]):=by
 refine zae z3l rfl ?_
 have e1:=z44 b.lo
 have e2:=z44 b.hi
 unfold zcv
 generalize ze0 b.lo=x at *
 generalize ze0 b.hi=y at *
 by_cases h:b.lo≤b.hi <;> cases x <;> simp [zt7,zt8,bnd,e1,e2,h]
theorem yj1 (b:Bd):RUN T zmq [.agg (bnd b)]=some ([bv (zcv b)],[]):=by
 refine zae z2t rfl ?_
 have e1:=z43 b.lo
 have e2:=z43 b.hi
 unfold zcv
 generalize ze0 b.lo=x at *
 generalize ze0 b.hi=y at *
 by_cases h:b.lo≤b.hi <;> cases x <;> simp [zsu,zsv,bnd,e1,e2,h]
theorem z5o (x lo hi:Int):RUN T zkb [iv x,iv lo,iv hi]=some ([iv (za4 x lo hi)],[]):=by
 refine zae z3n rfl ?_
 unfold za4
 by_cases h1:x<lo
 ·simp [zp0,zp1,h1]
 ·by_cases h2:hi<x <;> simp [zp0,zp1,h1,h2]
theorem z5p (x lo hi:Int):RUN T zjw [iv x,iv lo,iv hi]=some ([iv (za4 x lo hi)],[]):=by
 refine zae z2v rfl ?_
 unfold za4
 by_cases h1:x<lo
 ·simp [zpn,zpo,h1]
 ·by_cases h2:hi<x <;> simp [zpn,zpo,h1,h2]
theorem yb3 {n l:Int} (h:zha n l=true):IntKind.i64.wrap (n+l)=n+l:=by
 unfold zha at h
 simp only [Bool.and_eq_true] at h
 have h1:=zby.mp h.1
 have h2:=zby.mp h.2
 exact w64 (by omega) (by omega)
theorem zv6 (s:Sl) (l:Int) (b:Bd) (hs:slI s):RUN T zim [.agg (slc s),iv l,.agg (bnd b)]=some ([iv (zer s l b).1,bv (zer s l b).2],[]):=by
 refine zae z2p rfl ?_
 have e1:=z5m s.n l
 have e2:=z5n b
 have e3:=yi9 s.g (s.n+l) hs.2
 have e4:=z5o (fdv s.g (s.n+l)).1 b.lo b.hi
 have hw := @yb3 s.n l
 unfold zer
 generalize zha s.n l=x at *
 generalize zcv b=y at *
 generalize fdv s.g (s.n+l)=q at *
 obtain ⟨q,qo⟩:=q
 simp only [bnd] at e2
 cases x with
 | false=>simp [zpk,zpl,slc,bnd,e1]
 | true =>
  have hw:=hw rfl
  cases y <;> simp [zpk,zpl,slc,bnd,e1,e2,e3,e4,hw]
theorem yj2 (c:Cnd) (h:zh0 c):RUN T zmw [.agg (cnd c)]=some ([.agg (slc (zcd c.a c.z).1),bv (zcd c.a c.z).2],[]):=by
 refine zae z3b rfl ?_
 have e1:=yju c.a c.z h.2.2.1 h.2.2.2
 generalize zcd c.a c.z=p at *
 obtain ⟨⟨pn,pg⟩,pb⟩:=p
 simp only [slc] at e1 ⊢
 simp [ztp,ztq,cnd,e1]
theorem zye (s:Sl) (l:Int) (hs:slI s):RUN T zis [.agg (slc s),iv l]=some ([.agg (frc (zdg s l).1),bv (zdg s l).2],[]):=by
 refine zae z3c rfl ?_
 have e1:=z5m s.n l
 have e2:=yjx s.g (s.n+l) hs.2
 have hw := @yb3 s.n l
 unfold zdg
 generalize zha s.n l=x at *
 generalize zbt (zbo s.g s.g) (s.n+l)=f at *
 obtain ⟨⟨fw,fd⟩,fb⟩:=f
 simp only [frc] at e2 ⊢
 cases x with
 | false=>simp [zpw,zpx,slc,e1,zeh,za5]
 | true =>
  have hw:=hw rfl
  simp [zpw,zpx,slc,e1,e2,hw]
theorem ybb (w:Wd) (d:Int) (hw:wfU w):frI (zbt w d).1:=by
 unfold zbt
 split
 ·rename_i h
  simp only [frB,Bool.and_eq_true] at h
  have:=zby.mp h.2
  exact ⟨hw,by unfold inI; simp only; omega⟩
 ·exact ⟨zq4,by unfold inI zeh; simp⟩
theorem zwh:frI zeh:=⟨zq4,by unfold inI zeh; simp⟩
theorem zy7 (s:Sl) (l:Int) (hs:slI s):frI (zdg s l).1:=by
 unfold zdg
 split
 ·exact ybb _ _ (ymv hs.2 hs.2)
 ·exact zwh
theorem ymm (a b:Fr):frI (zex a b).1:=by
 unfold zex
 split
 ·split
  ·exact ybb _ _ (yn4 _ _)
  ·exact zwh
 ·exact zwh
theorem zy9 (c:Cnd) (l:Int):frI (zbk c l).1:=by
 unfold zbk
 split
 ·exact ymm _ _
 ·exact zwh
theorem zyf (c:Cnd) (l:Int) (h:zh0 c):RUN T zir [.agg (cnd c),iv l]=some ([.agg (frc (zbk c l).1),bv (zbk c l).2],[]):=by
 refine zae z3a rfl ?_
 have e1:=zye c.a l h.2.2.1
 have e2:=zye c.z l h.2.2.2
 have e3:=yjz (zdg c.a l).1 (zdg c.z l).1 (zy7 _ _ h.2.2.1) (zy7 _ _ h.2.2.2)
 unfold zbk
 generalize zdg c.a l=p at *
 generalize zdg c.z l=q at *
 obtain ⟨p,pb⟩:=p
 obtain ⟨q,qb⟩:=q
 simp only at e1 e2 e3 ⊢
 generalize zex p q=r at *
 obtain ⟨r,rb⟩:=r
 simp only [frc,slc] at e1 e2 e3 ⊢
 cases pb <;> cases qb <;> simp [ztn,zto,cnd,e1,e2,e3,zeh,za5]
abbrev cfS (c:Cfg):PV := .agg [iv c.ro,iv c.de,iv c.bi,iv c.la,iv c.rw,iv c.nu,iv c.dn,.sl 1 (zaf c.sg)]
def zd2 (c:Cfg) (b:Bd) (x:Cnd):Int×Int×Bool:=if ((zer x.a c.la b).2 && (zer x.z c.la b).2)=true then ((zer x.a c.la b).1,(zer x.z c.la b).1,true) else (0,0,false)
def zdl (c:Cfg) (f:Int):Int:=(atI c.sg f).getD 0
def zjg (s l r:Int):Bool:=if s=1 then decide (l≤r) else if s = -1 then decide (r≤l) else true
def zq6 (x:Cnd) (l:Int):Bool:=(zbk x l).2 && ((zcd x.a x.z).2 && ((zdg (zcd x.a x.z).1 l).2 && ((zdc (zbk x l).1 (zdg (zcd x.a x.z).1 l).1).2 && decide (0<(zdc (zbk x l).1 (zdg (zcd x.a x.z).1 l).1).1))))
def zg5 (a b:Cnd):Bool:=decide (a.f<b.f) || (decide (a.f=b.f) && decide (a.b<b.b))
def zjl (a b:Cnd) (l:Int):Bool:=(zbk a l).2 && ((zbk b l).2 && ((zdc (zbk a l).1 (zbk b l).1).2 && (decide (0<(zdc (zbk a l).1 (zbk b l).1).1) || (decide ((zdc (zbk a l).1 (zbk b l).1).1=0) && zg5 a b))))
theorem z5q (c:Cfg) (b:Bd) (x:Cnd) (h:zh0 x):RUN T zjr [cfS c,.agg (bnd b),.agg (cnd x)]=some ([iv (zd2 c b x).1,iv (zd2 c b x).2.1,bv (zd2 c b x).2.2],[]):=by
 have e1:=zv6 x.a c.la b h.2.2.1
 have e2:=zv6 x.z c.la b h.2.2.2
 unfold zd2
 generalize zer x.a c.la b=p at *
 generalize zer x.z c.la b=q at *
 obtain ⟨p,pb⟩:=p
 obtain ⟨q,qb⟩:=q
 simp only [slc,bnd] at e1 e2 ⊢
 refine zae z2b rfl ?_
 cases pb <;> cases qb <;> simp [zsa,zsb,cnd,e1,e2]
theorem z5r (c:Cfg) (f:Int) (hl:c.sg.length≤9223372036854775807):RUN T zjt [cfS c,iv f]=some ([iv (zdl c f)],[]):=by
 refine zae z2e rfl ?_
 have hw:=w64 (x:=(c.sg.length:Int)-1) (by omega) (by omega)
 have e1:=zd1 f 0 ((c.sg.length:Int)-1)
 unfold zdl
 cases hs:atI c.sg f with
 | none =>
  have hn:=z0b hs
  have:zan f 0 ((c.sg.length:Int)-1)=false:=by
   cases hw:zan f 0 ((c.sg.length:Int)-1) with
   | false=>rfl
   | true=>have:=zby.mp hw; omega
  rw [this] at e1
  simp [zpc,zpd,-zde,e1,hw]
 | some x =>
  obtain ⟨j,rfl,hj,hjl⟩:=zqx hs
  rw [show zan j 0 ((c.sg.length:Int)-1)=true from zby.mpr (by omega)] at e1
  have hj':=zcp hj
  simp [-getElem?_pos,zpc,zpd,-zde,e1,hw,hj',hjl]
theorem z5s (c:Cfg) (f:Int) (hl:c.sg.length≤9223372036854775807):RUN T zjx [cfS c,iv f]=some ([iv (zdl c f)],[]):=by
 refine zae z2y rfl ?_
 have hw:=w64 (x:=(c.sg.length:Int)-1) (by omega) (by omega)
 have e1:=zdn f 0 ((c.sg.length:Int)-1)
 unfold zdl
 cases hs:atI c.sg f with
 | none =>
  have hn:=z0b hs
  have:zan f 0 ((c.sg.length:Int)-1)=false:=by
   cases hw:zan f 0 ((c.sg.length:Int)-1) with
   | false=>rfl
   | true=>have:=zby.mp hw; omega
  rw [this] at e1
  simp [zpp,zpq,-zc9,e1,hw]
 | some x =>
  obtain ⟨j,rfl,hj,hjl⟩:=zqx hs
  rw [show zan j 0 ((c.sg.length:Int)-1)=true from zby.mpr (by omega)] at e1
  have hj':=zcp hj
  simp [-getElem?_pos,zpp,zpq,-zc9,e1,hw,hj',hjl]
theorem yj3 (s l r:Int):RUN T zmi [iv s,iv l,iv r]=some ([bv (zjg s l r)],[]):=by
 refine zae z2d rfl ?_
 unfold zjg
 by_cases h1:s=1
 ·simp [zpa,zpb,h1]
 ·by_cases h2:s = -1 <;> simp [zpa,zpb,h1,h2]
theorem yj4 (s l r:Int):RUN T zm8 [iv s,iv l,iv r]=some ([bv (zjg s l r)],[]):=by
 refine zae z3w rfl ?_
 unfold zjg
 by_cases h1:s=1
 ·by_cases h3:l≤r <;> simp [zp2,zp3,h1,h3]
 ·by_cases h2:s = -1 <;> simp [zp2,zp3,h1,h2]
theorem yj5 (x:Cnd) (l:Int) (h:zh0 x):RUN T zmj [.agg (cnd x),iv l]=some ([bv (zq6 x l)],[]):=by
 refine zae z2f rfl ?_
 have hp:=ynz (b:=x.z) h.2.2.1
 have e1:=zyf x l h
 have e2:=yj2 x h
 have e3:=zye (zcd x.a x.z).1 l hp
 have e4:=z5l (zbk x l).1 (zdg (zcd x.a x.z).1 l).1 (zy9 _ _) (zy7 _ _ hp)
 unfold zq6
 generalize zbk x l=g at *
 generalize zcd x.a x.z=p at *
 obtain ⟨p,pb⟩:=p
 simp only at e2 e3 e4 ⊢
 generalize zdg p l=q at *
 obtain ⟨g,gb⟩:=g
 obtain ⟨q,qb⟩:=q
 simp only at e1 e3 e4 ⊢
 generalize zdc g q=m at *
 obtain ⟨m,mb⟩:=m
 simp only [frc,slc,cnd] at e1 e2 e3 e4 ⊢
 cases gb <;> cases pb <;> cases qb <;> cases mb <;> simp [zse,zsf,e1,e2,e3,e4]
theorem yj6 (a b:Cnd):RUN T zm7 [.agg (cnd a),.agg (cnd b)]=some ([bv (zg5 a b)],[]):=by
 refine zae z3v rfl ?_
 have e1:=z5h a.f b.f
 have e2:=z5h a.b b.b
 have e3:=z5d (zb2 a.f b.f) (zb2 a.b b.b)
 have hr:zb7 8 2=true:=by decide
 have e4:zg5 a b=decide ((if zb2 a.f b.f=0 then zb2 a.b b.b else zb2 a.f b.f)<0):=by
  unfold zg5 zb2
  rw [Bool.eq_iff_iff]
  simp only [Bool.or_eq_true,Bool.and_eq_true,decide_eq_true_eq]
  split <;> split <;> (try split) <;> (try split) <;> (try split) <;> (try split) <;> omega
 rw [e4]
 simp [zup,zuq,cnd,e1,e2,e3,hr]
theorem yj7 (a b:Cnd) (l:Int) (ha:zh0 a) (hb:zh0 b):RUN T zmu [.agg (cnd a),.agg (cnd b),iv l]=some ([bv (zjl a b l)],[]):=by
 have e1:=zyf a l ha
 have e2:=zyf b l hb
 have e3:=z5l (zbk a l).1 (zbk b l).1 (zy9 _ _) (zy9 _ _)
 have e4:=yj6 a b
 unfold zjl
 generalize zbk a l=g at *
 generalize zbk b l=q at *
 generalize zg5 a b=le at *
 obtain ⟨g,gb⟩:=g
 obtain ⟨q,qb⟩:=q
 simp only at e1 e2 e3 ⊢
 generalize zdc g q=m at *
 obtain ⟨m,mb⟩:=m
 simp only [frc,cnd] at e1 e2 e3 e4 ⊢
 refine zae z27 rfl ?_
 cases gb <;> cases qb <;> cases mb <;> by_cases h1:0<m <;> by_cases h2:m=0 <;> simp [zth,zti,e1,e2,e3,e4,h1,h2]
def zgy (c:Cfg) (b:Bd) (x:Cnd):Bool:=zb8 c && ((zd2 c b x).2.2 && (decide (c.rw≤x.a.n) && (decide (c.rw≤x.z.n) && (zjg (zdl c x.f) (zd2 c b x).1 (zd2 c b x).2.1 && zq6 x c.la))))
theorem yj8 (c:Cfg) (b:Bd) (x:Cnd) (h:zh0 x) (hl:c.sg.length≤9223372036854775807):RUN T zl5 [cfS c,.agg (bnd b),.agg (cnd x)]=some ([bv (zgy c b x)],[]):=by
 have e1:=z5q c b x h
 have e2:=z42 c hl
 have e3:=z5r c x.f hl
 have e5:=yj5 x c.la h
 unfold zgy
 generalize zd2 c b x=p at *
 obtain ⟨p1,p2,pb⟩:=p
 have e4:=yj3 (zdl c x.f) p1 p2
 simp only at e1 ⊢
 generalize zdl c x.f=s at *
 generalize zjg s p1 p2=ab at *
 generalize zq6 x c.la=ib at *
 generalize zb8 c=cb at *
 simp only [cnd,bnd] at e1 e5 ⊢
 refine zae z1r rfl ?_
 cases cb <;> cases pb <;> by_cases h1:c.rw≤x.a.n <;> by_cases h2:c.rw≤x.z.n <;> cases ab <;> simp [zre,zrf,e1,e2,e3,e4,e5,h1,h2]
def z5v (l:List Cnd):List (List PV):=l.map cnd
@[simp] theorem y0l (l:List Cnd):(z5v l).length=l.length:=by simp [z5v]
def noB (c:Cfg) (b:Bd) (x y:Cnd):Bool := !zgy c b y || !zjl y x c.la
def ykr (c:Cfg) (b:Bd) (l:List Cnd) (x:Cnd):Bool:=zgy c b x && l.all (noB c b x)
def zob:Cnd:=⟨0,0,⟨0,0⟩,⟨0,0⟩⟩
def ymu (c:Cfg) (b:Bd) (l:List Cnd):Cnd×Bool:=match l.find? (ykr c b l) with
 | some x=>(x,true)
 | none=>(zob,false)
def zy0 (a b:Sl):Sl×Bool:=if ((sbi a.n b.n).2 && (sbi a.g b.g).2)=true then (⟨(sbi a.n b.n).1,(sbi a.g b.g).1⟩,true) else (⟨0,0⟩,false)
def z9c (s:Sl):List Sl→Option (List Sl)
 | []=>some []
 | x::xs=>if (zcd s x).2=true then (z9c (zcd s x).1 xs).map ((zcd s x).1 :: ·) else none
def zy1 (h:List Sl):List Sl×Bool:=match z9c ⟨0,0⟩ h with
 | some l=>(l,true)
 | none=>([],false)
def z6f (f:Int) (all:Sl) (least:Int):Int→List Sl→List Cnd→Option (List Cnd)
 | b,x::y::xs,acc=>if (zy0 all x).2=true then z6f f all least (b+1) (y::xs) (if least≤x.n∧least≤(zy0 all x).1.n then acc++[⟨f,b,x,(zy0 all x).1⟩] else acc) else none
 | _,_,acc=>some acc
def ypf (l:List Sl):Sl:=l.getLast?.getD ⟨0,0⟩
def z98 (least:Int):Int→List (List Sl)→List Cnd→Option (List Cnd)
 | _,[],acc=>some acc
 | f,h::hs,acc=>if (zy1 h).2=true then match z6f f (ypf (zy1 h).1) least 0 (zy1 h).1 acc with
  | some a=>z98 least (f+1) hs a
  | none=>none
  else none
def yp5 (H:List (List Sl)) (least:Int):List Cnd:=(z98 least 0 H []).getD []
theorem ype {a:Wd} (h:wfU a):0≤mag a:=by
 obtain ⟨h0,h1,h2,h3⟩:=h
 unfold mag; omega
theorem yq8 {a b:Cnd}:zg5 a b=true↔a.f<b.f∨(a.f=b.f∧a.b<b.b):=by
 unfold zg5; simp
theorem yok : ∀ x y:Nat,2*(x &&& y)+(x ^^^ y)=x+y:=by
 intro x
 induction x using Nat.strongRecOn with
 | _ x ih =>
  intro y
  by_cases hx:x=0
  ·subst hx; simp
  ·have h1:=ih (x / 2) (by omega) (y / 2)
   have h2:(x &&& y) / 2=x / 2 &&& y / 2:=by rw [Nat.and_div_two]
   have h3:(x ^^^ y) / 2=x / 2 ^^^ y / 2:=by rw [Nat.xor_div_two]
   have h4:(x &&& y) % 2=1↔x % 2=1∧y % 2=1:=Nat.and_mod_two_eq_one
   have h5:(x ^^^ y) % 2=1↔¬ (x % 2=1↔y % 2=1):=Nat.xor_mod_two_eq_one
   omega
def zb9 (a:Int):Nat:=(a % 18446744073709551616).toNat
theorem zws {a:Int} (h:inI a):(zb9 a:Int)=if a<0 then a+18446744073709551616 else a:=by
 unfold inI at h
 unfold zb9
 split <;> omega
theorem zw8 (a:Int):zb9 a<18446744073709551616:=by
 unfold zb9; omega
theorem zy4 {n:Nat} (h:n<18446744073709551616):IntKind.i64.wrap n=if n<9223372036854775808 then (n:Int) else n-18446744073709551616:=by
 split
 ·exact w64 (by omega) (by omega)
 ·simp [IntKind.wrap,IntKind.signed,IntKind.bits]
  omega
theorem yol (x y:Nat) (hx:x<18446744073709551616) (hy:y<18446744073709551616):(9223372036854775808≤(x &&& y)↔9223372036854775808≤x∧9223372036854775808≤y)∧(9223372036854775808≤(x ^^^ y)↔¬ (9223372036854775808≤x↔9223372036854775808≤y)):=by
 have h1:(x &&& y) >>> 63=x >>> 63 &&& y >>> 63:=Nat.shiftRight_and_distrib
 have h2:(x ^^^ y) >>> 63=x >>> 63 ^^^ y >>> 63:=Nat.shiftRight_xor_distrib
 rw [Nat.shiftRight_eq_div_pow,Nat.shiftRight_eq_div_pow,Nat.shiftRight_eq_div_pow] at h1 h2
 have hx':x / 2 ^ 63=0∨x / 2 ^ 63=1:=by omega
 have hy':y / 2 ^ 63=0∨y / 2 ^ 63=1:=by omega
 rcases hx' with e1 | e1 <;> rcases hy' with e2 | e2 <;> rw [e1,e2] at h1 h2 <;> simp at h1 h2 <;> omega
theorem z82 {x y:Nat} (hx:x<18446744073709551616):(x &&& y)<18446744073709551616:=Nat.lt_of_le_of_lt Nat.and_le_left hx
theorem yk1 {x y:Nat} (hx:x<18446744073709551616) (hy:y<18446744073709551616):(x ^^^ y)<18446744073709551616:=Nat.xor_lt_two_pow (n:=64) hx hy
theorem yqk {a b:Int} (ha:inI a) (hb:inI b):2*IntKind.i64.wrap ((zb9 a &&& zb9 b:Nat):Int)+IntKind.i64.wrap ((zb9 a ^^^ zb9 b:Nat):Int)=a+b:=by
 have la:=zw8 a
 have lb:=zw8 b
 have ea:=zws ha
 have eb:=zws hb
 obtain ⟨t1,t2⟩:=yol _ _ la lb
 have hs:=yok (zb9 a) (zb9 b)
 rw [zy4 (z82 la),zy4 (yk1 la lb)]
 unfold inI at ha hb
 generalize zb9 a &&& zb9 b=p at *
 generalize zb9 a ^^^ zb9 b=q at *
 split at ea <;> split at eb <;> split <;> split <;> omega
theorem yas {a b:Int} (ha:inI a) (hb:inI b):inI (IntKind.i64.wrap ((zb9 a &&& zb9 b:Nat):Int))∧(IntKind.i64.wrap ((zb9 a &&& zb9 b:Nat):Int) % 2=1↔a % 2=1∧b % 2=1):=by
 have la:=zw8 a
 have lb:=zw8 b
 have ea:=zws ha
 have eb:=zws hb
 have h4:(zb9 a &&& zb9 b) % 2=1↔zb9 a % 2=1∧zb9 b % 2=1:=Nat.and_mod_two_eq_one
 have hl:=z82 (y:=zb9 b) la
 rw [zy4 hl]
 unfold inI at *
 generalize zb9 a &&& zb9 b=p at *
 split at ea <;> split at eb <;> split <;> omega
def zey (a b:Int):Int:=(a+b) / 2
theorem yj9 (a b:Int) (ha:inI a) (hb:inI b):RUN T zm4 [iv a,iv b]=some ([iv (zey a b)],[]):=by
 refine zae z3q rfl ?_
 have h:=yqk ha hb
 obtain ⟨h1,_⟩:=yas ha hb
 unfold zb9 at h h1
 unfold inI at ha hb h1
 have hb64:IntKind.i64.bits=64:=rfl
 simp [zuf,zug,hb64]
 rw [Int.fdiv_eq_ediv_of_nonneg _ (by omega)]
 unfold zey
 generalize IntKind.i64.wrap (((a % 18446744073709551616).toNat &&& (b % 18446744073709551616).toNat:Nat):Int)=p at *
 generalize IntKind.i64.wrap (((a % 18446744073709551616).toNat ^^^ (b % 18446744073709551616).toNat:Nat):Int)=q at *
 rw [w64 (by omega) (by omega)]
 omega
theorem yka (a b:Int) (ha:inI a) (hb:inI b):RUN T zm3 [iv a,iv b]=some ([iv (zey a b)],[]):=by
 refine zae z3o rfl ?_
 obtain ⟨h1,h2⟩:=yas ha hb
 unfold zb9 at h1 h2
 unfold inI at ha hb h1
 have hb64:IntKind.i64.bits=64:=rfl
 simp [zub,zuc,hb64]
 rw [Int.fdiv_eq_ediv_of_nonneg _ (by omega),Int.fdiv_eq_ediv_of_nonneg _ (by omega)]
 unfold zey
 generalize IntKind.i64.wrap (((a % 18446744073709551616).toNat &&& (b % 18446744073709551616).toNat:Nat):Int)=p at *
 have h3:max (p % 18446744073709551616) 0 % 2=p % 2:=by omega
 rw [h3,w64 (x:=p % 2) (by omega) (by omega),w64 (x:=a / 2+b / 2) (by omega) (by omega),w64 (by omega) (by omega)]
 omega
def zd9 (s:Int) (b:Bd) (l r:Int):Bd×Bd:=if zcv b=true then (if s=1 then (⟨b.lo,za4 (zey l r) b.lo b.hi⟩,⟨za4 (zey l r) b.lo b.hi,b.hi⟩) else if s = -1 then (⟨za4 (zey l r) b.lo b.hi,b.hi⟩,⟨b.lo,za4 (zey l r) b.lo b.hi⟩) else (b,b)) else (b,b)
theorem ykb (s:Int) (b:Bd) (l r:Int) (hl:inI l) (hr:inI r):RUN T zms [iv s,.agg (bnd b),iv l,iv r]=some ([.agg (bnd (zd9 s b l r).1),.agg (bnd (zd9 s b l r).2)],[]):=by
 have e1:=yj1 b
 have e2:=yj9 l r hl hr
 have e3:=z5p (zey l r) b.lo b.hi
 refine zae z2x rfl ?_
 unfold zd9
 generalize zcv b=q at *
 generalize za4 (zey l r) b.lo b.hi=m at *
 obtain ⟨lo,hi⟩:=b
 simp only [bnd] at *
 cases q with
 | false=>simp [znq,znr,e1]
 | true =>
  by_cases h1:s=1
  ·simp [znq,znr,e1,e2,e3,h1]
  ·by_cases h2:s = -1 <;> simp [znq,znr,e1,e2,e3,h1,h2]
theorem ykc (s:Int) (b:Bd) (l r:Int) (hl:inI l) (hr:inI r):RUN T zmp [iv s,.agg (bnd b),iv l,iv r]=some ([.agg (bnd (zd9 s b l r).1),.agg (bnd (zd9 s b l r).2)],[]):=by
 have e1:=z5n b
 have e2:=yka l r hl hr
 have e3:=z5o (zey l r) b.lo b.hi
 refine zae z2r rfl ?_
 unfold zd9
 generalize zcv b=q at *
 generalize za4 (zey l r) b.lo b.hi=m at *
 obtain ⟨lo,hi⟩:=b
 simp only [bnd] at *
 cases q with
 | false=>simp [zno,znp,e1,e2,e3]
 | true =>
  by_cases h1:s=1
  ·simp [zno,znp,e1,e2,e3,h1]
  ·by_cases h2:s = -1 <;> simp [zno,znp,e1,e2,e3,h1,h2]
def zw9 (c v:List (List Int)) (g:List Int) (cfg:Cfg) (rows:List Int) (b:Bd):Cnd×Bool:=if zgj c v g cfg=true then (if (z7b c v g rows).2=true then ymu cfg b (yp5 (z7b c v g rows).1 cfg.rw) else (zob,false)) else (zob,false)
def zah (g:List Int) (rows:List Int):Sl:=⟨rows.length,(rows.map fun r=>(atI g r).getD 0).sum⟩
def zi5 (bins:List Int) (b r:Int):Bool:=match atI bins r with
 | some x=>decide (x≤b)
 | none=>false
def zjk (bins:List Int) (b r:Int):Bool:=match atI bins r with
 | some x => !decide (x≤b)
 | none=>false
def zav (bins rows:List Int) (b:Int):List Int:=rows.filter (zi5 bins b)
def zau (bins rows:List Int) (b:Int):List Int:=rows.filter (zjk bins b)
structure Pnd where
 r:List Int
 b:Bd
 l:Int
def ze7 (c v:List (List Int)) (cfg:Cfg) (x:Pnd) (k:Cnd):Pnd:=⟨zav ((atI v k.f).getD []) x.r k.b,(zd9 (zdl cfg k.f) x.b (zd2 cfg x.b k).1 (zd2 cfg x.b k).2.1).1,x.l+1⟩
def ze6 (c v:List (List Int)) (cfg:Cfg) (x:Pnd) (k:Cnd):Pnd:=⟨zau ((atI v k.f).getD []) x.r k.b,(zd9 (zdl cfg k.f) x.b (zd2 cfg x.b k).1 (zd2 cfg x.b k).2.1).2,x.l+1⟩
def z0p (g:List Int) (cfg:Cfg) (x:Pnd):Nd:=⟨-1,0,0,0,(zer (zah g x.r) cfg.la x.b).1⟩
def ynv (c:List (List Int)) (k:Cnd) (n:Nat):Nd:=⟨k.f,(atI ((atI c k.f).getD []) k.b).getD 0,n,n+1,0⟩
def goes (c v:List (List Int)) (g:List Int) (cfg:Cfg) (x:Pnd):Bool:=decide (x.l<cfg.de) && (zw9 c v g cfg x.r x.b).2
def zlv (c v:List (List Int)) (g:List Int) (cfg:Cfg):Nat→List Pnd→Nat→List Nd→List Nd
 | 0,_,_,out=>out
 | n+1,q,i,out=>match q[i]? with
  | none=>out
  | some x=>if goes c v g cfg x=true then zlv c v g cfg n (q++[ze7 c v cfg x (zw9 c v g cfg x.r x.b).1,ze6 c v cfg x (zw9 c v g cfg x.r x.b).1]) (i+1) (out++[ynv c (zw9 c v g cfg x.r x.b).1 q.length]) else zlv c v g cfg n q (i+1) (out++[z0p g cfg x])
def zq9:Bd:=⟨-1099511627776,1099511627776⟩
def zc3 (g:List Int):Pnd:=⟨(List.range g.length).map fun (i:Nat)=>(i:Int),zq9,0⟩
def pot (d:Int) (x:Pnd):Nat:=2 ^ (d+1-x.l).toNat-1
def zwo (d:Int) (l:List Pnd):Nat:=(l.map (pot d)).sum
theorem yn5 (d:Int) (x:Pnd) (l:List Pnd):zwo d (x::l)=pot d x+zwo d l:=by simp [zwo]
theorem ynt {d:Int} {x:Pnd} (h:x.l≤d):1≤pot d x:=by
 unfold pot
 obtain ⟨k,hk⟩ : ∃ k,(d+1-x.l).toNat=k+1:=⟨(d-x.l).toNat,by omega⟩
 rw [hk,Nat.pow_succ]
 have:=Nat.one_le_two_pow (n:=k)
 omega
def zi4 (n:Nat) (d:Int) (x:Pnd):Prop:=(∀ r∈x.r,0≤r∧r<n)∧x.r.length≤n∧0≤x.l∧x.l≤d
theorem zoe {bins rows:List Int} {b r:Int}:(r∈zav bins rows b→r∈rows)∧(r∈zau bins rows b→r∈rows):=⟨fun h=>(List.mem_filter.mp h).1,fun h=>(List.mem_filter.mp h).1⟩
theorem zww {n:Nat} {c v:List (List Int)} {cfg:Cfg} {x:Pnd} {k:Cnd} (h:zi4 n cfg.de x) (hl:x.l<cfg.de):zi4 n cfg.de (ze7 c v cfg x k)∧zi4 n cfg.de (ze6 c v cfg x k):=by
 obtain ⟨h1,h2,h3,h4⟩:=h
 refine ⟨⟨fun r hr=>h1 r (zoe.1 hr),Nat.le_trans (List.length_filter_le _ _) h2,?_,?_⟩,⟨fun r hr=>h1 r (zoe.2 hr),Nat.le_trans (List.length_filter_le _ _) h2,?_,?_⟩⟩
 ·show 0≤x.l+1; omega
 ·show x.l+1≤cfg.de; omega
 ·show 0≤x.l+1; omega
 ·show x.l+1≤cfg.de; omega
theorem zi7 {c v:List (List Int)} {g:List Int} {cfg:Cfg} (h:zgj c v g cfg=true):zc4 c v=true∧zb8 cfg=true∧g.length=zcb v∧(∀ x∈g,-2199023255552≤x∧x≤2199023255552):=by
 unfold zgj at h
 simp only [Bool.and_eq_true,decide_eq_true_eq] at h
 exact ⟨h.1.1.1,h.1.1.2,by omega,fun x hx=>zby.mp (List.all_eq_true.mp h.2 x hx)⟩
theorem z84 {c v:List (List Int)} (h:zc4 c v=true):1≤zcb v∧zcb v≤40:=by
 unfold zc4 at h
 simp only [Bool.and_eq_true] at h
 have:=zby.mp h.1.2
 omega
theorem ykd:RUN T zl9 []=some ([.agg (bnd zq9)],[]):=by
 refine zae z1v rfl ?_
 simp [zri,zrj,bnd,zq9]
theorem yke:RUN T zmo []=some ([.agg (bnd zq9)],[]):=by
 refine zae z2o rfl ?_
 simp [zso,zsp,bnd,zq9]
def upl (n:Nat):List Int:=(List.range n).map fun (i:Nat)=>(i:Int)
theorem z54 (n:Nat):upl n++[(n:Int)]=upl (n+1):=by simp [upl,List.range_succ]
@[simp] theorem qav (n:Nat):(upl n).length=n:=by simp [upl]
@[simp] theorem y2w:upl 0=[]:=rfl
theorem ykf (n:Nat) (h1:1≤n) (h2:n≤40):RUN T zmn [iv n]=some ([.own 1 (zaf (upl n))],[]):=by
 have e:=zd1 n 1 40
 rw [zby.mpr (by omega)] at e
 have hr0:zb7 8 0=true:=by decide
 have hr1:zb7 8 1=true:=by decide
 refine zae z2n rfl ?_
 simp [-getElem?_pos,zsm,zsn,-zde,e,hr0]
 refine zbu (fun k st => ∃ (i o e:Nat),i+k=n∧st.V 3 = .ref o none e 0 i∧st.V 10=iv n∧st.V 11=iv i∧o<st.nx∧st.S o=some (.row 1 (zaf (upl i)))) ?_ n _ ⟨0,0,0,by omega,by simp⟩
 rintro k st ⟨i,o,ep,hi,v3,v10,v11,hox,hSo⟩
 obtain ⟨x1,x2,x3,x4⟩:=fr hox
 by_cases hlt:i<n
 ·have hws:=wS hlt (by omega:n≤9223372036854775807)
  have hr8:=zln (n:=i+1) (by omega)
  have hsn:zaf (upl i)++[[iv (i:Int)]]=zaf (upl (i+1)):=by rw [zot,z54]
  simp [-getElem?_pos,zxn,v3,v10,v11,hSo,hlt,hws,hr1,hr8,hsn,x1,x2,x3,x4]
  exact za8 (k-1) (by omega) ⟨i+1,st.nx+1,st.ep,by omega,by simp,by simp [v10],by simp,by simp,by simp⟩
 ·have hin:i=n:=by omega
  subst hin
  simp [-getElem?_pos,zxn,v3,v10,v11,hSo,hlt]
theorem ykg (n:Nat) (h2:n≤40):RUN T zl8 [iv n]=some ([.own 1 (zaf (upl n))],[]):=by
 have hr0:zb7 8 0=true:=by decide
 have hr1:zb7 8 1=true:=by decide
 refine zae z1u rfl ?_
 simp [-getElem?_pos,zrg,zrh,hr0]
 refine zbu (fun k st => ∃ (i o e:Nat),i+k=n∧st.V 0=iv n∧st.V 3 = .ref o none e 0 i∧st.V 4=iv i∧o<st.nx∧st.S o=some (.row 1 (zaf (upl i)))) ?_ n _ ⟨0,0,0,by omega,by simp⟩
 rintro k st ⟨i,o,ep,hi,v0,v3,v4,hox,hSo⟩
 obtain ⟨x1,x2,x3,x4⟩:=fr hox
 have h3:(n:Int)≤40:=by omega
 by_cases hlt:i<n
 ·have hws:=wS hlt (by omega:n≤9223372036854775807)
  have hr8:=zln (n:=i+1) (by omega)
  have hsn:zaf (upl i)++[[iv (i:Int)]]=zaf (upl (i+1)):=by rw [zot,z54]
  simp [-getElem?_pos,zxm,v0,v3,v4,hSo,hlt,h3,hws,hr1,hr8,hsn,x1,x2,x3,x4]
  exact za8 (k-1) (by omega) ⟨i+1,st.nx+1,st.ep,by omega,by simp [v0],by simp,by simp,by simp,by simp⟩
 ·have hin:i=n:=by omega
  subst hin
  simp [-getElem?_pos,zxm,v0,v3,v4,hSo,hlt]
def zed (g rows:List Int) (i:Nat):Int:=((rows.take i).map fun r=>(atI g r).getD 0).sum
theorem z7m {g rows:List Int} {i:Nat} {r x:Int} (hr:rows[i]?=some r) (hx:atI g r=some x):zed g rows (i+1)=zed g rows i+x:=by
 unfold zed
 rw [List.take_succ,hr]
 simp [hx]
theorem z0w {g rows:List Int} (hg : ∀ x∈g,-2199023255552≤x∧x≤2199023255552) : ∀ i:Nat,i≤rows.length → -2199023255552*(i:Int)≤zed g rows i∧zed g rows i≤2199023255552*(i:Int)
 | 0,_=>by simp [zed]
 | i+1,h=>by
  have ih:=z0w (rows:=rows) hg i (by omega)
  obtain ⟨r,hr⟩ : ∃ r,rows[i]?=some r:=⟨_,List.getElem?_eq_getElem (by omega)⟩
  have e:zed g rows (i+1)=zed g rows i+(atI g r).getD 0:=by
   unfold zed
   rw [List.take_succ,hr]
   simp
  rw [e]
  cases hx:atI g r with
  | none=>simp only [Option.getD_none]; omega
  | some x =>
   obtain ⟨_,_,h3,_⟩:=zqx hx
   have:=hg x (List.mem_of_getElem? h3)
   simp only [Option.getD_some]; omega
theorem z97 (g rows:List Int):zah g rows=⟨rows.length,zed g rows rows.length⟩:=by simp [zah,zed]
theorem zv7 (g rows:List Int) (hg : ∀ x∈g,-2199023255552≤x∧x≤2199023255552) (hr : ∀ r∈rows,0≤r∧r<g.length) (hl:rows.length≤1048576):RUN T zio [.sl 1 (zaf g),.sl 1 (zaf rows)]=some ([.agg (slc (zah g rows))],[]):=by
 rw [z97]
 refine zae z2q rfl ?_
 simp [-getElem?_pos,zsq,zsr]
 refine zbu (fun k st => ∃ i:Nat,i+k=rows.length∧st.V 0 = .sl 1 (zaf g)∧st.V 4 = .ptr 0 none 0 0 0∧st.V 5 = .ptr 1 none 0 0 0∧st.V 11 = .sl 1 (zaf rows)∧st.V 12=iv rows.length∧st.V 13=iv i∧1<st.nx∧st.S 1=some (.box [iv rows.length,iv (zed g rows i)])∧st.S 0=some (.box [iv 0,iv 0])) ?_ rows.length _ ⟨0,by omega,by simp,by simp,by simp,by simp,by simp,by simp,by simp,by simp [zed],by simp⟩
 rintro k st ⟨i,hi,v0,v4,v5,v11,v12,v13,h1x,hS1,hS0⟩
 obtain ⟨z1,z2,z3,z4⟩:=fr h1x
 by_cases hlt:i<rows.length
 ·obtain ⟨r,hrr⟩ : ∃ r,rows[i]?=some r:=⟨_,List.getElem?_eq_getElem hlt⟩
  obtain ⟨r0,r1⟩:=hr r (List.mem_of_getElem? hrr)
  obtain ⟨rn,rfl⟩ : ∃ n:Nat,r=n:=⟨r.toNat,by omega⟩
  obtain ⟨x,hx⟩ : ∃ x,g[rn]?=some x:=⟨_,List.getElem?_eq_getElem (by omega)⟩
  have hrn:rn<g.length:=by omega
  have hr':=zcp hrr
  have hx':=zcp hx
  have hws:=wS hlt (by omega:rows.length≤9223372036854775807)
  have hs:=z7m (g:=g) hrr (x:=x) (by unfold atI; rw [if_pos r0]; simpa using hx)
  have b1:=z0w (rows:=rows) hg (i+1) (by omega)
  rw [hs] at b1
  have hw:=w64 (x:=zed g rows i+x) (by omega) (by omega)
  simp [-getElem?_pos,zxo,v0,v4,v5,v11,v12,v13,hS1,hS0,hlt,hr',hx',hrn,hw,hws,z1,z2,z3,z4]
  exact za8 (k-1) (by omega) ⟨i+1,by omega,by simp [v0],by simp [v4],by simp [v5],by simp [v11],by simp [v12],by simp,by simp [h1x],by simp [hs],by simp [hS0]⟩
 ·have hin:i=rows.length:=by omega
  subst hin
  simp [-getElem?_pos,zxo,v4,v5,v12,v13,hS1,hS0,slc]
theorem zk6 (g rows:List Int) (hg : ∀ x∈g,-2199023255552≤x∧x≤2199023255552) (hr : ∀ r∈rows,0≤r∧r<g.length) (hl:rows.length≤1048576):RUN T zf6 [.sl 1 (zaf g),.sl 1 (zaf rows)]=some ([.agg (slc (zah g rows))],[]):=by
 rw [z97]
 refine zae z2w rfl ?_
 simp [-getElem?_pos,zsy,zsz]
 refine zbu (fun k st => ∃ i:Nat,i+k=rows.length∧st.V 0 = .sl 1 (zaf g)∧st.V 1 = .sl 1 (zaf rows)∧st.V 4 = .ptr 0 none 0 0 0∧st.V 5 = .ptr 1 none 0 0 0∧st.V 6=iv i∧1<st.nx∧st.S 1=some (.box [iv i,iv (zed g rows i)])∧st.S 0=some (.box [iv 0,iv 0])) ?_ rows.length _ ⟨0,by omega,by simp,by simp,by simp,by simp,by simp,by simp,by simp [zed],by simp⟩
 rintro k st ⟨i,hi,v0,v1,v4,v5,v6,h1x,hS1,hS0⟩
 obtain ⟨z1,z2,z3,z4⟩:=fr h1x
 by_cases hlt:i<rows.length
 ·obtain ⟨r,hrr⟩ : ∃ r,rows[i]?=some r:=⟨_,List.getElem?_eq_getElem hlt⟩
  obtain ⟨r0,r1⟩:=hr r (List.mem_of_getElem? hrr)
  obtain ⟨rn,rfl⟩ : ∃ n:Nat,r=n:=⟨r.toNat,by omega⟩
  obtain ⟨x,hx⟩ : ∃ x,g[rn]?=some x:=⟨_,List.getElem?_eq_getElem (by omega)⟩
  have hrn:rn<g.length:=by omega
  have hr':=zcp hrr
  have hx':=zcp hx
  have hws:=wS hlt (by omega:rows.length≤9223372036854775807)
  have hs:=z7m (g:=g) hrr (x:=x) (by unfold atI; rw [if_pos r0]; simpa using hx)
  have b1:=z0w (rows:=rows) hg (i+1) (by omega)
  rw [hs] at b1
  have hw:=w64 (x:=zed g rows i+x) (by omega) (by omega)
  simp [-getElem?_pos,zxp,v0,v1,v4,v5,v6,hS1,hS0,hlt,hr',hx',hrn,hw,hws,z1,z2,z3,z4]
  exact za8 (k-1) (by omega) ⟨i+1,by omega,by simp [v0],by simp [v1],by simp [v4],by simp [v5],by simp,by simp [h1x],by simp [hs],by simp [hS0]⟩
 ·have hin:i=rows.length:=by omega
  subst hin
  simp [-getElem?_pos,zxp,v1,v4,v5,v6,hS1,hS0,slc]
set_option maxHeartbeats 1000000 in
theorem z5t (bins rows:List Int) (b:Int) (hb:bins.length≤1048576) (hl:rows.length≤1048576):RUN T zjv [.sl 1 (zaf bins),.sl 1 (zaf rows),iv b]=some ([.own 1 (zaf (zav bins rows b)),.own 1 (zaf (zau bins rows b))],[]):=by
 have hr0:zb7 8 0=true:=by decide
 have hr1:zb7 8 1=true:=by decide
 have w1:=w64 (x:=(bins.length:Int)-1) (by omega) (by omega)
 refine zae z2s rfl ?_
 simp [-getElem?_pos,zss,zst,hr0]
 refine zbu (fun k st => ∃ (i o e p e2:Nat) (m l:List Int),i+k=rows.length∧m.length≤i∧l.length≤i∧m++(rows.drop i).filter (zi5 bins b)=zav bins rows b∧l++(rows.drop i).filter (zjk bins b)=zau bins rows b∧st.V 0 = .sl 1 (zaf bins)∧st.V 2=iv b∧st.V 8 = .ref o none e 0 m.length∧st.V 9 = .ref p none e2 0 l.length∧st.V 14 = .sl 1 (zaf rows)∧st.V 15=iv rows.length∧st.V 16=iv i∧¬ o=p∧o<st.nx∧p<st.nx∧st.S o=some (.row 1 (zaf m))∧st.S p=some (.row 1 (zaf l))) ?_ rows.length _ ⟨0,0,0,1,0,[],[],by omega,by simp,by simp,by simp [zav],by simp [zau],by simp⟩
 rintro k st ⟨i,o,e,p,e2,m,l,hi,hml,hll,hm,hl2,v0,v2,v8,v9,v14,v15,v16,hop,hox,hpx,hSo,hSp⟩
 obtain ⟨x1,x2,x3,x4⟩:=fr hox
 obtain ⟨z1,z2,z3,z4⟩:=fr hpx
 have hpo : ¬ p=o:=fun e=>hop e.symm
 by_cases hlt:i<rows.length
 ·obtain ⟨r,hrr⟩ : ∃ r,rows[i]?=some r:=⟨_,List.getElem?_eq_getElem hlt⟩
  have hr':=zcp hrr
  have hws:=wS hlt (by omega:rows.length≤9223372036854775807)
  have e1:=zd1 r 0 ((bins.length:Int)-1)
  rw [zwi hrr,List.filter_cons] at hm hl2
  have hB:zi5 bins b r=match atI bins r with
   | some x=>decide (x≤b)
   | none=>false:=rfl
  have hC:zjk bins b r=match atI bins r with
   | some x => !decide (x≤b)
   | none=>false:=rfl
  have r1:=zln (n:=m.length+1) (by omega)
  have r2:=zln (n:=l.length+1) (by omega)
  have s1:=zot m r
  have s2:=zot l r
  cases hx:atI bins r with
  | none =>
   have hn:=z0b hx
   rw [show zan r 0 ((bins.length:Int)-1)=false from by
    cases hw:zan r 0 ((bins.length:Int)-1) with
    | false=>rfl
    | true=>have:=zby.mp hw; omega] at e1
   rw [hx] at hB hC
   rw [hB] at hm
   rw [hC] at hl2
   simp [-getElem?_pos,zpm,-zde,v0,v2,v8,v9,v14,v15,v16,hSo,hSp,hlt,hr',hws,w1,e1]
   exact za8 (k-1) (by omega) ⟨i+1,o,e,p,e2,m,l,by omega,by omega,by omega,by simpa using hm,by simpa using hl2,by simp [v0],by simp [v2],by simp [v8],by simp [v9],by simp [v14],by simp [v15],by simp,hop,by simp [hox],by simp [hpx],by simp [hSo],by simp [hSp]⟩
  | some x =>
   obtain ⟨rn,rfl,hbr,hbl⟩:=zqx hx
   rw [show zan rn 0 ((bins.length:Int)-1)=true from zby.mpr (by omega)] at e1
   rw [hx] at hB hC
   rw [hB] at hm
   rw [hC] at hl2
   have hb':=zcp hbr
   by_cases hc:x≤b
   ·have d1:decide (x≤b)=true:=decide_eq_true hc
    simp only [d1,if_true,Bool.not_true,Bool.false_eq_true,if_false] at hm hl2
    simp [-getElem?_pos,zpm,-zde,v0,v2,v8,v9,v14,v15,v16,hSo,hSp,hlt,hr',hws,w1,e1,hb',hbl,hc,hr1,r1,s1,hop,hpo,x1,x2,x3,x4,z1,z2,z3,z4]
    exact za8 (k-1) (by omega) ⟨i+1,st.nx+1,st.ep,p,e2,m++[(rn:Int)],l,by omega,by simp; omega,by omega,by simpa using hm,hl2,by simp [v0],by simp [v2],by simp,by simp [v9],by simp [v14],by simp [v15],by simp,by omega,by simp,by simp; omega,by simp,by simp [hop,hpo,x1,x2,x3,x4,z1,z2,z3,z4,hSp]⟩
   ·have d1:decide (x≤b)=false:=decide_eq_false hc
    simp only [d1,if_true,Bool.not_false,Bool.false_eq_true,if_false] at hm hl2
    simp [-getElem?_pos,zpm,-zde,v0,v2,v8,v9,v14,v15,v16,hSo,hSp,hlt,hr',hws,w1,e1,hb',hbl,hc,hr1,r2,s2,hop,hpo,x1,x2,x3,x4,z1,z2,z3,z4]
    exact za8 (k-1) (by omega) ⟨i+1,o,e,st.nx+1,st.ep,m,l++[(rn:Int)],by omega,by omega,by simp; omega,hm,by simpa using hl2,by simp [v0],by simp [v2],by simp [v8],by simp,by simp [v14],by simp [v15],by simp,by omega,by simp; omega,by simp,by simp [hop,hpo,x1,x2,x3,x4,z1,z2,z3,z4,hSo],by simp⟩
 ·rw [List.drop_eq_nil_of_le (by omega)] at hm hl2
  simp only [List.filter_nil,List.append_nil] at hm hl2
  subst hm hl2
  simp [-getElem?_pos,zpm,v8,v9,v14,v15,v16,hSo,hSp,hlt,hop,hpo]
def pnd (x:Pnd):List PV:=[.own 1 (zaf x.r),iv x.b.lo,iv x.b.hi,iv x.l]
def ybi (l:List Pnd):List (List PV):=l.map pnd
@[simp] theorem y8t (l:List Pnd):(ybi l).length=l.length:=by simp [ybi]
def NC (S:Nat→Option Ob) (nx oq:Nat) (m:List Nd) (x:PV):Prop:=(x = .e0∧m=[])∨∃ o e,x = .ref o none e 0 m.length∧5<o∧o<nx∧¬ o=oq∧S o=some (.row 5 (m.map nd))
theorem ypm {c v:List (List Int)} {g:List Int} {cfg:Cfg} {n:Nat} {q:List Pnd} {i:Nat} {out:List Nd} {x:Pnd} (h:q[i]?=some x) (hg:goes c v g cfg x=false):zlv c v g cfg (n+1) q i out=zlv c v g cfg n q (i+1) (out++[z0p g cfg x]):=by
 rw [zlv,h]; simp [hg]
structure GI (c v:List (List Int)) (g:List Int) (cfg:Cfg) (n:Nat) (q:List Pnd) (i:Nat) (out:List Nd):Prop where
 n1:i+n=32
 le:i≤q.length
 ql:q.length≤2*i+1
 ol:out.length=i
 po:zwo cfg.de (q.drop i)≤n
 ok : ∀ x∈q,zi4 g.length cfg.de x
 go:zlv c v g cfg n q i out=zlv c v g cfg 32 [zc3 g] 0 []
theorem GI.leaf {c v:List (List Int)} {g:List Int} {cfg:Cfg} {n:Nat} {q:List Pnd} {i:Nat} {out:List Nd} {x:Pnd} (h:GI c v g cfg n q i out) (hx:q[i]?=some x) (hg:goes c v g cfg x=false):1≤n∧GI c v g cfg (n-1) q (i+1) (out++[z0p g cfg x]):=by
 have hp:=h.po
 rw [zwi hx,yn5] at hp
 have:=ynt (h.ok x (List.mem_of_getElem? hx)).2.2.2
 have hlt:=(List.getElem?_eq_some_iff.mp hx).1
 obtain ⟨m,rfl⟩ : ∃ m,n=m+1:=⟨n-1,by omega⟩
 have:=h.n1
 have:=h.ql
 exact ⟨by omega,by simp; omega,by omega,by omega,by simp [h.ol],by simp; omega,h.ok,by rw [← h.go,ypm hx hg]; rfl⟩
theorem ykh (c:Cfg) (k:Int) (h0:0≤k) (hk:k+c.sg.length≤9223372036854775806):RUN T zmg [zwu c,iv k]=some ([iv (k+c.sg.length)],[.own 1 (zaf (upto k c.sg.length))]):=by
 have e:=zx3 c.sg k h0 hk
 have hu:(upto k c.sg.length).length=c.sg.length:=by simp [upto]
 generalize upto k c.sg.length=u at *
 refine zae z17 rfl ?_
 simp [-getElem?_pos,zr2,zr3,zwu,e,hu]
def zjj (g rows:List Int):Int:=(rows.map fun r=>(atI g r).getD 0).sum
theorem z8q (g:List Int) (r:Int) (rs:List Int):zjj g (r::rs)=(atI g r).getD 0+zjj g rs:=by simp [zjj]
theorem z65 {bins g:List Int} {b:Int} : ∀ rows:List Int,(∀ r∈rows,∃ x,atI bins r=some x)→(zav bins rows b).length+(zau bins rows b).length=rows.length∧zjj g (zav bins rows b)+zjj g (zau bins rows b)=zjj g rows
 | [],_=>by simp [zav,zau,zjj]
 | r::rs,h=>by
  obtain ⟨x,hx⟩:=h r (by simp)
  obtain ⟨h1,h2⟩:=z65 (b:=b) (g:=g) rs (fun r hr=>h r (by simp [hr]))
  have hB:zi5 bins b r=decide (x≤b):=by unfold zi5; rw [hx]
  have hC:zjk bins b r = !decide (x≤b):=by unfold zjk; rw [hx]
  unfold zav zau at *
  rw [List.filter_cons,List.filter_cons,hB,hC]
  by_cases hxb:x≤b
  ·simp only [decide_eq_true hxb,Bool.not_true,Bool.false_eq_true,if_true,if_false,z8q,List.length_cons]
   omega
  ·simp only [decide_eq_false hxb,Bool.not_false,Bool.false_eq_true,if_true,if_false,z8q,List.length_cons]
   omega
def zw7 (s:Sl):Sl:=⟨s.n,-s.g⟩
def smS (m:Int) (s:Sl):Prop:=0≤s.n∧s.n≤m ∧ -(2199023255552*m)≤s.g∧s.g≤2199023255552*m
theorem zw3 {a b:Int} (h1 : -4611686018427387904≤a+b) (h2:a+b≤4611686018427387904):adi a b=(a+b,true):=by unfold adi; rw [if_pos (by omega)]
theorem yn6 {a b:Sl} {m k:Int} (ha:smS m a) (hb:smS k b) (hm:m+k≤1048576):zcd a b=(⟨a.n+b.n,a.g+b.g⟩,true)∧zcd (zw7 a) (zw7 b)=(zw7 ⟨a.n+b.n,a.g+b.g⟩,true)∧smS (m+k) ⟨a.n+b.n,a.g+b.g⟩:=by
 obtain ⟨a1,a2,a3,a4⟩:=ha
 obtain ⟨b1,b2,b3,b4⟩:=hb
 refine ⟨?_,?_,⟨by simp only; omega,by simp only; omega,by simp only; omega,by simp only; omega⟩⟩
 ·unfold zcd; rw [zw3 (by omega) (by omega),zw3 (by omega) (by omega)]; rfl
 ·unfold zcd zw7
  simp only
  rw [zw3 (by omega) (by omega),zw3 (by omega) (by omega)]
  simp; omega
inductive SN where
 | mk (f c v:Int) (ks:List SN)
def zeb (q:Bool) (es:List (List PV)):PV:=if q then .own 4 es else .sl 4 es
mutual
def snC (q:Bool):SN→List PV
 | .mk f c v ks=>[iv f,iv c,iv v,zeb q (snL q ks)]
def snL (q:Bool):List SN→List (List PV)
 | []=>[]
 | s::ss=>snC q s::snL q ss
end
mutual
def szN:SN→Nat
 | .mk _ _ _ ks=>szK ks
def szK:List SN→Nat
 | []=>0
 | s::ss=>1+szN s+szK ss
end
theorem zxk (q:Bool) : ∀ ks:List SN,snL q ks=ks.map (snC q)
 | []=>by simp [snL]
 | k::ks=>by simp [snL,zxk q ks]
@[simp] theorem y8q (q:Bool) (ks:List SN):(snL q ks).length=ks.length:=by rw [zxk]; simp
theorem zwe {q:Bool} {ks:List SN} {i:Nat} {k:SN} (h:ks[i]?=some k):(snL q ks)[i]?=some (snC q k):=by rw [zxk]; simp [h]
theorem zwn : ∀ {ks:List SN} {k:SN},k∈ks→szN k<szK ks
 | s::ss,k,h=>by
  unfold szK
  rcases List.mem_cons.mp h with e | e
  ·subst e; omega
  ·have:=zwn e; omega
theorem z9r {ks:List SN} {i:Nat} {k:SN} (h:ks[i]?=some k):szK (ks.take (i+1))=szK (ks.take i)+1+szN k:=by
 rw [List.take_succ,h]
 have ap : ∀ a:List SN,szK (a++[k])=szK a+1+szN k:=by
  intro a
  induction a with
  | nil=>simp [szK]
  | cons s ss ih =>
   rw [List.cons_append]
   unfold szK
   rw [ih]; omega
 exact ap _
theorem zyz : ∀ (ks:List SN) (i:Nat),szK ks=szK (ks.take i)+szK (ks.drop i)
 | [],i=>by simp [szK]
 | s::ss,0=>by simp [szK]
 | s::ss,i+1=>by
  have:=zyz ss i
  rw [List.take_succ_cons,List.drop_succ_cons]
  simp only [szK]
  omega
theorem z0v : ∀ ks:List SN,ks.length≤szK ks
 | []=>by simp
 | s::ss=>by
  have:=z0v ss
  unfold szK
  simp; omega
inductive LnN (n:Nat):SN→Prop
 | mk {f c v:Int} {ks:List SN} (h:ks.length≤n) (t : ∀ k∈ks,LnN n k):LnN n (.mk f c v ks)
@[simp] theorem y3p (q:Bool) (es:List (List PV)):fz (zeb q es) = .sl 4 es:=by cases q <;> simp [zeb]
def snA (q:Bool):SN→List PV
 | .mk f c v ks=>[iv f,iv c,iv v,.sl 4 (snL q ks)]
def eqO (s:SN):Prop := ∀ p q:Bool,RUN T zg0 [.agg (snA p s),.agg (snA q s)]=some ([bv true],[])
theorem ym2 {ks:List SN} (hl:ks.length≤9223372036854775807) (h : ∀ k∈ks,eqO k) (p q:Bool):RUN T zmt [.sl 4 (snL p ks),.sl 4 (snL q ks)]=some ([bv true],[]):=by
 refine zae z22 rfl ?_
 simp [zs7,zs8]
 refine zbu (fun n st => ∃ i:Nat,i+n=ks.length∧st.V 0 = .sl 4 (snL p ks)∧st.V 1 = .sl 4 (snL q ks)∧st.V 5=iv i) ?_ ks.length _ ⟨0,by simp⟩
 rintro n st ⟨i,hi,v0,v1,v5⟩
 by_cases hlt:i<ks.length
 ·obtain ⟨k,hk⟩ : ∃ k,ks[i]?=some k:=⟨_,List.getElem?_eq_getElem hlt⟩
  have hx1:=zwe (q:=p) hk
  have hx2:=zwe (q:=q) hk
  have hw:=wS hlt hl
  have e:=h k (List.mem_of_getElem? hk) p q
  obtain ⟨f,c,v,kk⟩:=k
  simp only [snC] at hx1 hx2
  simp only [snA] at e
  simp [-getElem?_pos,zxq,v0,v1,v5,hlt,hx1,hx2,hw,e]
  exact za8 (n-1) (by omega) ⟨i+1,by omega,by simp [v0],by simp [v1],by simp⟩
 ·simp [-getElem?_pos,zxq,v0,v1,v5,hlt]
theorem z58 : ∀ (n:Nat) (s:SN),szN s<n→LnN 9223372036854775807 s→eqO s
 | 0,s,h,_=>by omega
 | n+1,.mk f c v ks,h,hL=>by
  intro p q
  have hz:szN (.mk f c v ks)=szK ks:=by simp [szN]
  cases hL with
  | mk hl ht =>
  have e:=ym2 hl (fun k hk=>z58 n k (by have:=zwn hk; omega) (ht k hk)) p q
  simp only [snA]
  refine zae z11 rfl ?_
  simp [-getElem?_pos,zrq,zrr,e]
theorem yki (p q:Bool) (s:SN) (hL:LnN 9223372036854775807 s):RUN T zg0 [.agg (snA p s),.agg (snA q s)]=some ([bv true],[]):=z58 (szN s+1) s (by omega) hL p q
mutual
def mkN (k:Int):SN→SN
 | .mk _ _ _ ks => .mk k (k+1) (k+2) (mkK (k+3) ks)
def mkK (k:Int):List SN→List SN
 | []=>[]
 | s::ss=>mkN k s::mkK (k+3*(1+szN s)) ss
end
theorem zoa : ∀ (ks:List SN) (k:Int),(mkK k ks).length=ks.length
 | [],k=>by simp [mkK]
 | s::ss,k=>by simp [mkK,zoa ss]
theorem z0x : ∀ (ks:List SN) (k:Int) (i:Nat) (s:SN),ks[i]?=some s→(mkK k ks)[i]?=some (mkN (k+3*szK (ks.take i)) s)
 | [],k,i,s,h=>by simp at h
 | x::ss,k,0,s,h=>by simp at h; subst h; simp [mkK,szK]
 | x::ss,k,i+1,s,h=>by
  simp at h
  have:=z0x ss (k+3*(1+szN x)) i s h
  simp only [mkK,List.getElem?_cons_succ,this,List.take_succ_cons,szK]
  congr 2
  omega
theorem z7v : ∀ (n:Nat) (ks:List SN),szK ks<n→∀ k:Int,0≤k→k+3*szK ks≤9223372036854775806→RUN T zj3 [.own 4 (snL true ks),iv k]=some ([iv (k+3*szK ks)],[.own 4 (snL true (mkK k ks))])
 | 0,ks,h=>by omega
 | N+1,ks,h=>by
  intro k h0 hk
  have hlen:=z0v ks
  refine zae z25 rfl ?_
  simp [-getElem?_pos,ztd,zte]
  obtain ⟨f,hf⟩ : ∃ f:Nat→List PV,f=fun j=>snC true (mkN (k+3*szK (ks.take j)) (ks.getD j (.mk 0 0 0 []))):=⟨_,rfl⟩
  refine zbu (fun n st => ∃ i:Nat,i+n=ks.length∧1≤st.nx∧st.V 0 = .ref 0 none 0 0 ks.length∧st.V 1=iv (k+3*szK (ks.take i))∧st.V 5=iv i∧st.S 0=some (.row 4 (mix f (snL true ks) i))) ?_ ks.length _ ⟨0,by simp [z0r,szK]⟩
  rintro n st ⟨i,hi,hnx,v0,v1,v5,hS⟩
  by_cases hlt:i<ks.length
  ·obtain ⟨x,hx⟩ : ∃ x,ks[i]?=some x:=⟨_,List.getElem?_eq_getElem hlt⟩
   have hw:=wS hlt (by omega:ks.length≤9223372036854775807)
   have hx':=zwe (q:=true) hx
   have hg:=(z0m (f:=f) (l:=snL true ks) (i:=i)).trans hx'
   have hs:=zzd (f:=f) (l:=snL true ks) (i:=i) (by simpa using hlt)
   have htk:=z9r hx
   have hsp:=zyz ks (i+1)
   have hml:=z07 (f:=f) (l:=snL true ks) (i:=i) (by simp; omega)
   simp at hml
   have hm:=zwn (List.mem_of_getElem? hx)
   obtain ⟨fx,cx,vx,kk⟩:=x
   have hz:szN (.mk fx cx vx kk)=szK kk:=by simp [szN]
   have e:=z7v N kk (by omega) (k+3*szK (ks.take i)+3) (by omega) (by omega)
   have hfi:f i=[iv (k+3*szK (ks.take i)),iv (k+3*szK (ks.take i)+1),iv (k+3*szK (ks.take i)+2),.own 4 (snL true (mkK (k+3*szK (ks.take i)+3) kk))]:=by rw [hf]; simp [hx,mkN,snC,zeb]
   rw [hfi] at hs
   have w1:IntKind.i64.wrap (k+3*szK (ks.take i)+1)=k+3*szK (ks.take i)+1:=w64 (by omega) (by omega)
   have w2:IntKind.i64.wrap (k+3*szK (ks.take i)+1+1)=k+3*szK (ks.take i)+2:=by rw [w64 (by omega) (by omega)]; omega
   have w3:IntKind.i64.wrap (k+3*szK (ks.take i)+2+1)=k+3*szK (ks.take i)+3:=by rw [w64 (by omega) (by omega)]; omega
   have hkl:(mkK (k+3*szK (ks.take i)+3) kk).length=kk.length:=zoa _ _
   simp only [snC,zeb,if_true] at hg
   obtain ⟨z1,z2,z3,z4⟩:=fr (show 0<st.nx by omega)
   have hend:k+3*((szK (ks.take i):Nat):Int)+3+3*((szK kk:Nat):Int)=k+3*((szK (ks.take (i+1)):Nat):Int):=by rw [htk,hz]; omega
   generalize hK:mkK (k+3*szK (ks.take i)+3) kk=K at *
   simp [-getElem?_pos,zxr,v0,v1,v5,hS,hlt,hg,hml,hw,w1,w2,w3,e,hkl,z1,z2,z3,z4,zbc,zb1,hs]
   exact za8 (n-1) (by omega) ⟨i+1,by omega,by simp,by simp [v0],by simp [hend],by simp,by simp [hs]⟩
  ·have e:=zz3 (f:=f) (l:=snL true ks) (i:=i) (by simp; omega)
   have e2:i=ks.length:=by omega
   subst e2
   rw [e] at hS
   rw [List.take_length] at v1
   have e3:snL true (mkK k ks)=(List.range ks.length).map f:=by
    rw [zxk]
    apply List.ext_getElem?
    intro j
    by_cases hj:j<ks.length
    ·obtain ⟨x,hx⟩ : ∃ x,ks[j]?=some x:=⟨_,List.getElem?_eq_getElem hj⟩
     rw [List.getElem?_map,z0x ks k j x hx,List.getElem?_map,List.getElem?_range hj,hf]
     simp [hx]
    ·rw [List.getElem?_eq_none (by simp [zoa]; omega),List.getElem?_eq_none (by simp; omega)]
   rw [e3]
   simp [-getElem?_pos,zxr,v0,v1,v5,hS]
theorem ykj (f c v:Int) (ks:List SN) (k:Int) (h0:0≤k) (hk:k+3*szK ks≤9223372036854775806):RUN T zmh [.agg [iv f,iv c,iv v,.own 4 (snL true ks)],iv k]=some ([iv (k+3*szK ks)],[.own 4 (snL true (mkK k ks))]):=by
 have e:=z7v (szK ks+1) ks (by omega) k h0 hk
 have hl:=zoa ks k
 generalize mkK k ks=K at *
 refine zae z18 rfl ?_
 simp [-getElem?_pos,zr4,zr5,e,hl]
theorem z7f : ∀ (n:Nat) (ks:List SN),szK ks<n→∀ k:Int,0≤k→k+3*szK ks≤9223372036854775806→RUN T zj4 [.sl 4 (snL true (mkK k ks)),iv k]=some ([iv (k+3*szK ks)],[])
 | 0,ks,h=>by omega
 | N+1,ks,h=>by
  intro k h0 hk
  have hlen:=z0v ks
  have hml:=zoa ks k
  refine zae z26 rfl ?_
  simp [-getElem?_pos,ztf,ztg]
  refine zbu (fun n st => ∃ i:Nat,i+n=ks.length∧st.V 0 = .sl 4 (snL true (mkK k ks))∧st.V 1=iv (k+3*szK (ks.take i))∧st.V 5=iv i) ?_ ks.length _ ⟨0,by simp [szK]⟩
  rintro n st ⟨i,hi,v0,v1,v5⟩
  by_cases hlt:i<ks.length
  ·obtain ⟨x,hx⟩ : ∃ x,ks[i]?=some x:=⟨_,List.getElem?_eq_getElem hlt⟩
   have hw:=wS hlt (by omega:ks.length≤9223372036854775807)
   have hx':=zwe (q:=true) (z0x ks k i x hx)
   have htk:=z9r hx
   have hsp:=zyz ks (i+1)
   have hm:=zwn (List.mem_of_getElem? hx)
   obtain ⟨fx,cx,vx,kk⟩:=x
   have hz:szN (.mk fx cx vx kk)=szK kk:=by simp [szN]
   have e:=z7f N kk (by omega) (k+3*szK (ks.take i)+3) (by omega) (by omega)
   have w1:IntKind.i64.wrap (k+3*szK (ks.take i)+1)=k+3*szK (ks.take i)+1:=w64 (by omega) (by omega)
   have w2:IntKind.i64.wrap (k+3*szK (ks.take i)+1+1)=k+3*szK (ks.take i)+2:=by rw [w64 (by omega) (by omega)]; omega
   have w3:IntKind.i64.wrap (k+3*szK (ks.take i)+2+1)=k+3*szK (ks.take i)+3:=by rw [w64 (by omega) (by omega)]; omega
   simp only [mkN,snC,zeb,if_true] at hx'
   have hn : ¬ k+3*((szK (ks.take i):Nat):Int)+3+3*((szK kk:Nat):Int)<0:=by omega
   have hend:k+3*((szK (ks.take i):Nat):Int)+3+3*((szK kk:Nat):Int)=k+3*((szK (ks.take (i+1)):Nat):Int):=by rw [htk,hz]; omega
   generalize mkK (k+3*szK (ks.take i)+3) kk=K at *
   generalize mkK k ks=M at *
   simp [-getElem?_pos,zxs,v0,v1,v5,hlt,hml,hx',hw,w1,w2,w3,e,hn]
   exact za8 (n-1) (by omega) ⟨i+1,by omega,by simp [v0],by simp [hend],by simp⟩
  ·have e2:i=ks.length:=by omega
   subst e2
   rw [List.take_length] at v1
   simp [-getElem?_pos,zxs,v0,v1,v5,hml]
theorem ykk (f c v:Int) (ks:List SN) (k:Int) (h0:0≤k) (hk:k+3*szK ks≤9223372036854775806):RUN T zjq [.agg [iv f,iv c,iv v,.sl 4 (snL true (mkK k ks))],iv k]=some ([iv (k+3*szK ks)],[]):=by
 have e:=z7f (szK ks+1) ks (by omega) k h0 hk
 have hn : ¬ k+3*((szK ks:Nat):Int)<0:=by omega
 generalize mkK k ks=K at *
 refine zae z19 rfl ?_
 simp [-getElem?_pos,zr6,zr7,e,hn]
def gS (s:Sl):Prop:=0≤s.n∧s.n≤40 ∧ -87960930222080≤s.g∧s.g≤87960930222080
structure smF (M D:Int) (f:Fr):Prop where
 wf:wfU f.w
 ok:wok f.w=true
 nn:f.w.n=false
 mg:mag f.w≤M
 d1:1≤f.d
 d2:f.d≤D
theorem smF.frB {M D:Int} {f:Fr} (h:smF M D f) (hd:D≤1000000):frB f=true:=by
 unfold Go.Pe.frB
 rw [h.ok,Bool.true_and]
 exact zby.mpr ⟨h.d1,by have:=h.d2; omega⟩
theorem smF.I {M D:Int} {f:Fr} (h:smF M D f) (hd:D≤1000000):frI f:=⟨h.wf,by have:=h.d1; have:=h.d2; exact ⟨by omega,by omega⟩⟩
theorem ybg {M D m d:Int} (h0:0≤m) (hm:m≤M) (hM:M<170141183460469231731687303715884105728) (h1:1≤d) (h2:d≤D) (hD:D≤1000000):zbt (mkW false m) d=(⟨mkW false m,d⟩,true)∧smF M D ⟨mkW false m,d⟩:=by
 have ok:wok (mkW false m)=true:=by rw [zn9 h0]; simp; omega
 have s:smF M D ⟨mkW false m,d⟩:=⟨zo2 h0 (by omega),ok,by simp [mkW],by show mag (mkW false m)≤M; rw [zyy]; exact hm,h1,h2⟩
 refine ⟨?_,s⟩
 unfold zbt
 rw [if_pos (s.frB hD)]
theorem yqr (g:Int):zbo g g=mkW false ((g.natAbs:Int)*g.natAbs):=by unfold zbo; simp
theorem yn9 {g K:Int} (h1 : -K≤g) (h2:g≤K):0≤(g.natAbs:Int)*g.natAbs∧(g.natAbs:Int)*g.natAbs≤K*K:=by
 have h3:(g.natAbs:Int)≤K:=by omega
 have h4:(0:Int)≤g.natAbs:=by omega
 exact ⟨Int.mul_nonneg h4 h4,Int.mul_le_mul h3 h3 h4 (by omega)⟩
theorem zox {s:Sl} {l:Int} (h:gS s) (h1:1≤l) (h2:l≤100):(zbt (zbo s.g s.g) (s.n+l)).2=true∧smF 7737125245533626718119526400 140 (zbt (zbo s.g s.g) (s.n+l)).1:=by
 obtain ⟨a1,a2,a3,a4⟩:=h
 obtain ⟨b1,b2⟩:=yn9 (K:=87960930222080) (by omega) a4
 obtain ⟨e1,e2⟩:=ybg (M:=7737125245533626718119526400) (D:=140) (m:=(s.g.natAbs:Int)*s.g.natAbs) (d:=s.n+l) b1 (by omega) (by omega) (by omega) (by omega) (by omega)
 rw [yqr,e1]
 exact ⟨rfl,e2⟩
theorem z8z {s:Sl} {l:Int} (h:gS s) (h1:1≤l) (h2:l≤100):zha s.n l=true:=by
 unfold zha
 rw [zby.mpr ⟨h.1,h.2.1⟩,zby.mpr ⟨h1,h2⟩]; rfl
theorem z03 {s:Sl} {l:Int} (h:gS s) (h1:1≤l) (h2:l≤100):zdg s l=zbt (zbo s.g s.g) (s.n+l):=by
 unfold zdg
 rw [if_pos (z8z h h1 h2)]
theorem zwt {M D E:Int} {f:Fr} {k:Int} (h:smF M D f) (h1:1≤k) (h2:k≤E) (hM:M*E<170141183460469231731687303715884105728):zcf f.w k=(mkW false (mag f.w*k),true)∧0≤mag f.w*k∧mag f.w*k≤M*E:=by
 have m0:=ype h.wf
 have m1:=h.mg
 have k1:((k.natAbs:Nat):Int)=k:=by omega
 have l1:mag f.w*k≤M*E:=Int.mul_le_mul m1 h2 (by omega) (by omega)
 refine ⟨?_,Int.mul_nonneg m0 (by omega),l1⟩
 unfold zcf
 rw [k1,if_pos ⟨h.ok,by omega⟩,h.nn]
 have:decide (k<0)=false:=by simp; omega
 rw [this]; rfl
theorem z8w {M D N E:Int} {a b:Fr} (ha:smF M D a) (hb:smF N E b) (hD:D≤1000000) (hE:E≤1000000) (h1:M*E<170141183460469231731687303715884105728) (h2:N*D<170141183460469231731687303715884105728):zbg a b=(mkW false (mag a.w*b.d),mkW false (mag b.w*a.d),true):=by
 unfold zbg
 rw [ha.frB hD,hb.frB hE,(zwt ha hb.d1 hb.d2 h1).1,(zwt hb ha.d1 ha.d2 h2).1]
 rfl
theorem z6z {M D N E:Int} {a b:Fr} (ha:smF M D a) (hb:smF N E b) (hD:D≤1000000) (hE:E≤1000000) (h1:M*E<170141183460469231731687303715884105728) (h2:N*D<170141183460469231731687303715884105728):(zdc a b).2=true:=by
 unfold zdc
 rw [z8w ha hb hD hE h1 h2]
 rfl
theorem ynn {M D N E:Int} {a b:Fr} (ha:smF M D a) (hb:smF N E b) (hD:D≤1000000) (hE:E≤1000000) (h1:M*E+N*D<170141183460469231731687303715884105728) (h2:D*E≤1000000) (hM:0≤M*E) (hN:0≤N*D):(zex a b).2=true∧smF (M*E+N*D) (D*E) (zex a b).1:=by
 obtain ⟨x1,x2,x3⟩:=zwt ha hb.d1 hb.d2 (by omega:M*E<170141183460469231731687303715884105728)
 obtain ⟨y1,y2,y3⟩:=zwt hb ha.d1 ha.d2 (by omega:N*D<170141183460469231731687303715884105728)
 have hc:=z8w ha hb hD hE (by omega) (by omega)
 have ok1:wok (mkW false (mag a.w*b.d))=true:=by rw [zn9 x2]; simp; omega
 have ok2:wok (mkW false (mag b.w*a.d))=true:=by rw [zn9 y2]; simp; omega
 have hs:=z6d (zo2 (n:=false) x2 (by omega)) (zo2 (n:=false) y2 (by omega)) ok1 ok2 (by simp [mkW])
 rw [zyy,zyy,if_pos (by omega)] at hs
 have hn:(mkW false (mag a.w*b.d)).n=false:=by simp [mkW]
 rw [hn] at hs
 have a1:=ha.d1
 have a2:=ha.d2
 have b1:=hb.d1
 have b2:=hb.d2
 have d0:1≤a.d*b.d:=by
  have:=Int.mul_le_mul a1 b1 (by omega) (by omega)
  omega
 have d1:a.d*b.d≤D*E:=Int.mul_le_mul a2 b2 (by omega) (by omega)
 obtain ⟨f1,f2⟩:=ybg (M:=M*E+N*D) (D:=D*E) (m:=mag a.w*b.d+mag b.w*a.d) (d:=a.d*b.d) (by omega) (by omega) h1 d0 d1 h2
 unfold zex
 rw [hc]
 simp only [hs,if_true,f1]
 exact ⟨trivial,f2⟩
theorem zoh {x:Cnd} {l:Int} (ha:gS x.a) (hz:gS x.z) (h1:1≤l) (h2:l≤100):zbk x l=zex (zbt (zbo x.a.g x.a.g) (x.a.n+l)).1 (zbt (zbo x.z.g x.z.g) (x.z.n+l)).1∧(zbk x l).2=true∧smF 2166395068749415481073467392000 19600 (zbk x l).1:=by
 obtain ⟨a1,a2⟩:=zox ha h1 h2
 obtain ⟨b1,b2⟩:=zox hz h1 h2
 have e:zbk x l=zex (zbt (zbo x.a.g x.a.g) (x.a.n+l)).1 (zbt (zbo x.z.g x.z.g) (x.z.n+l)).1:=by
  unfold zbk
  rw [z03 ha h1 h2,z03 hz h1 h2,a1,b1]
  exact if_pos rfl
 obtain ⟨c1,c2⟩:=ynn a2 b2 (by omega) (by omega) (by omega) (by omega) (by omega) (by omega)
 refine ⟨e,?_⟩
 rw [e]
 exact ⟨c1,c2⟩
theorem ypz {x y:Cnd} {l:Int} (xa:gS x.a) (xz:gS x.z) (ya:gS y.a) (yz:gS y.z) (h1:1≤l) (h2:l≤100) (hl:zg5 x y=false):zjl x y l=decide (0<(zdc (zbk x l).1 (zbk y l).1).1):=by
 obtain ⟨_,a1,a2⟩:=zoh xa xz h1 h2
 obtain ⟨_,b1,b2⟩:=zoh ya yz h1 h2
 unfold zjl
 rw [a1,b1,z6z a2 b2 (by omega) (by omega) (by omega) (by omega),hl]
 simp
theorem zjn {s:Sl} {l:Int} {b:Bd} (h:gS s) (h1:1≤l) (h2:l≤100) (hb:zcv b=true):zer s l b=(za4 (fdv s.g (s.n+l)).1 b.lo b.hi,true):=by
 unfold zer
 rw [z8z h h1 h2,hb]
 rfl
def wyB (c:Cfg) (b:Bd) (x:Cnd) (w:Sl):Bool:=decide (c.rw≤x.a.n) && (decide (c.rw≤x.z.n) && (decide (0<(zdc (zbk x c.la).1 (zbt (zbo w.g w.g) (w.n+c.la)).1).1) && zjg (zdl c x.f) (za4 (fdv x.a.g (x.a.n+c.la)).1 b.lo b.hi) (za4 (fdv x.z.g (x.z.n+c.la)).1 b.lo b.hi)))
theorem ypw {c:Cfg} {b:Bd} {x:Cnd} {w:Sl} (hc:zb8 c=true) (hb:zcv b=true) (ha:gS x.a) (hz:gS x.z) (hw:gS w) (hp:zcd x.a x.z=(w,true)) (h1:1≤c.la) (h2:c.la≤100):zgy c b x=wyB c b x w:=by
 obtain ⟨_,a1,a2⟩:=zoh ha hz h1 h2
 obtain ⟨b1,b2⟩:=zox hw h1 h2
 unfold zgy wyB zd2 zq6
 rw [hc,zjn ha h1 h2 hb,zjn hz h1 h2 hb,hp,z03 hw h1 h2,a1,b1,z6z a2 b2 (by omega) (by omega) (by omega) (by omega)]
 simp only [Bool.true_and,Bool.and_self,if_true]
 cases decide (c.rw≤x.a.n) <;> cases decide (c.rw≤x.z.n) <;> simp [Bool.and_comm]
theorem z6m {c:Cfg} (h:zb8 c=true):1≤c.la∧c.la≤100∧0≤c.de∧c.de≤4:=by
 unfold zb8 at h
 simp only [Bool.and_eq_true,zby] at h
 omega
theorem zfy {g rows:List Int} (hg : ∀ x∈g,-2199023255552≤x∧x≤2199023255552) (hl:rows.length≤40):gS (zah g rows):=by
 have key : ∀ l:List Int,-(2199023255552*(l.length:Int))≤(l.map fun r=>(atI g r).getD 0).sum∧(l.map fun r=>(atI g r).getD 0).sum≤2199023255552*(l.length:Int):=by
  intro l
  induction l with
  | nil=>simp
  | cons a l ih =>
   have hv : -2199023255552≤(atI g a).getD 0∧(atI g a).getD 0≤2199023255552:=by
    cases e:atI g a with
    | none=>simp
    | some y =>
     obtain ⟨j,_,h2,_⟩:=zqx e
     exact hg y (List.mem_of_getElem? h2)
   simp only [List.map_cons,List.sum_cons,List.length_cons]
   omega
 have:=key rows
 refine ⟨?_,?_,?_,?_⟩ <;> simp only [zah] <;> omega
def zaq (v:List (List Int)) (g rows:List Int) (f k:Nat):Cnd:=⟨f,k,zah g (zav (v.getD f []) rows k),zah g (zau (v.getD f []) rows k)⟩
def zhg (cfg:Cfg) (b:Bd) (acc:Option Cnd) (x:Cnd):Option Cnd:=if zgy cfg b x=true then (match acc with
 | none=>some x
 | some y=>if zjl x y cfg.la=true then some x else some y) else acc
def zdt (v:List (List Int)) (g:List Int) (cfg:Cfg) (rows:List Int) (b:Bd) (f:Nat) (acc:Option Cnd) (n:Nat):Option Cnd:=(List.range n).foldl (fun a k=>zhg cfg b a (zaq v g rows f k)) acc
def zcx (c v:List (List Int)) (g:List Int) (cfg:Cfg) (rows:List Int) (b:Bd) (m:Nat):Option Cnd:=(List.range m).foldl (fun a f=>zdt v g cfg rows b f a (c.getD f []).length) none
theorem zl2 {v:List (List Int)} {g:List Int} {cfg:Cfg} {rows:List Int} {b:Bd} {f:Nat} {acc:Option Cnd} {n:Nat}:zdt v g cfg rows b f acc (n+1)=zhg cfg b (zdt v g cfg rows b f acc n) (zaq v g rows f n):=by
 unfold zdt; rw [List.range_succ,List.foldl_append]; rfl
theorem zz2 {c v:List (List Int)} {g:List Int} {cfg:Cfg} {rows:List Int} {b:Bd} {m:Nat}:zcx c v g cfg rows b (m+1)=zdt v g cfg rows b m (zcx c v g cfg rows b m) (c.getD m []).length:=by
 unfold zcx; rw [List.range_succ,List.foldl_append]; rfl
def bfr (v:List (List Int)) (g rows:List Int) (c:List (List Int)) (cfg:Cfg) (b:Bd) (f k:Nat) (a:Option Cnd):Prop := ∀ x,a=some x→∃ f' k':Nat,x=zaq v g rows f' k'∧(f'<f∨(f'=f∧k'<k))∧f'<c.length∧k'<(c.getD f' []).length∧zgy cfg b x=true
theorem ypa {v:List (List Int)} {g rows:List Int} {c:List (List Int)} {cfg:Cfg} {b:Bd} {f k:Nat} {a:Option Cnd} (h:bfr v g rows c cfg b f k a) (hf:f<c.length) (hk:k<(c.getD f []).length):bfr v g rows c cfg b f (k+1) (zhg cfg b a (zaq v g rows f k)):=by
 have old:bfr v g rows c cfg b f (k+1) a:=fun x hx=>by
  obtain ⟨f',k',h1,h2,h3⟩:=h x hx
  exact ⟨f',k',h1,by omega,h3⟩
 unfold zhg
 split
 ·rename_i hm
  have new:bfr v g rows c cfg b f (k+1) (some (zaq v g rows f k)):=fun x hx=>by
   cases hx
   exact ⟨f,k,rfl,by omega,hf,hk,hm⟩
  split
  ·exact new
  ·split
   ·exact new
   ·exact old
 ·exact old
theorem yn7 {v:List (List Int)} {g rows:List Int} {c:List (List Int)} {cfg:Cfg} {b:Bd} {f k:Nat} {a:Option Cnd} (h:bfr v g rows c cfg b f k a):bfr v g rows c cfg b (f+1) 0 a:=fun x hx=>by
 obtain ⟨f',k',h1,h2,h3⟩:=h x hx
 exact ⟨f',k',h1,by omega,h3⟩
theorem yp1 {v:List (List Int)} {g rows:List Int} {c:List (List Int)} {cfg:Cfg} {b:Bd} {f k:Nat} {x:Cnd} (h:bfr v g rows c cfg b f k (some x)):zg5 (zaq v g rows f k) x=false:=by
 obtain ⟨f',k',h1,h2,_⟩:=h x rfl
 subst h1
 cases e:zg5 (zaq v g rows f k) (zaq v g rows f' k') with
 | false=>rfl
 | true =>
  rw [yq8] at e
  simp only [zaq] at e
  omega
theorem ynj {v:List (List Int)} {g rows:List Int} {c:List (List Int)} {cfg:Cfg} {b:Bd} {f k:Nat}:bfr v g rows c cfg b f k none:=fun x hx=>by cases hx
theorem zwr {v:List (List Int)} {g rows:List Int} {c:List (List Int)} {cfg:Cfg} {b:Bd} {f:Nat} {a:Option Cnd} (h:bfr v g rows c cfg b f 0 a) (hf:f<c.length) : ∀ n:Nat,n≤(c.getD f []).length→bfr v g rows c cfg b f n (zdt v g cfg rows b f a n)
 | 0,_=>h
 | n+1,hn=>by
  rw [zl2]
  exact ypa (zwr h hf n (by omega)) hf (by omega)
theorem zy3 {v:List (List Int)} {g rows:List Int} {c:List (List Int)} {cfg:Cfg} {b:Bd} : ∀ m:Nat,m≤c.length→bfr v g rows c cfg b m 0 (zcx c v g cfg rows b m)
 | 0,_=>ynj
 | m+1,hm=>by
  rw [zz2]
  exact yn7 (zwr (zy3 m (by omega)) (by omega) _ (Nat.le_refl _))
def zor (g:List Int) (cfg:Cfg) (x:Pnd):Int:=(zer (zah g x.r) cfg.la x.b).1
def zbv (c v:List (List Int)) (g:List Int) (cfg:Cfg):Nat→Pnd→SN
 | 0,x => .mk (-1) 0 (zor g cfg x) []
 | n+1,x=>match zcx c v g cfg x.r x.b c.length with
  | none => .mk (-1) 0 (zor g cfg x) []
  | some k => .mk k.f ((atI ((atI c k.f).getD []) k.b).getD 0) 0 [zbv c v g cfg n (ze7 c v cfg x k),zbv c v g cfg n (ze6 c v cfg x k)]
theorem zxb {s:Int} {b:Bd} {l r:Int} (h:zcv b=true):zcv (zd9 s b l r).1=true∧zcv (zd9 s b l r).2=true:=by
 have hx:b.lo≤za4 (zey l r) b.lo b.hi∧za4 (zey l r) b.lo b.hi≤b.hi:=by
  unfold zcv at h
  simp only [Bool.and_eq_true,decide_eq_true_eq] at h
  unfold za4
  split
  ·omega
  ·split <;> omega
 unfold zd9
 rw [if_pos h]
 unfold zcv ze0 at h
 simp only [Bool.and_eq_true,decide_eq_true_eq,zby] at h
 generalize za4 (zey l r) b.lo b.hi=m at *
 unfold zcv ze0
 split
 ·simp only [Bool.and_eq_true,decide_eq_true_eq,zby]; omega
 ·split
  ·simp only [Bool.and_eq_true,decide_eq_true_eq,zby]; omega
  ·simp only [Bool.and_eq_true,decide_eq_true_eq,zby]; omega
theorem zxd {s:Sl} (h:gS s):slI s:=by
 obtain ⟨a1,a2,a3,a4⟩:=h
 exact ⟨⟨by omega,by omega⟩,⟨by omega,by omega⟩⟩
theorem zn3 (s:Sl) (l:Int) (b:Bd) (hs:gS s) (h1:1≤l) (h2:l≤100):RUN T zg2 [.agg (slc s),iv l,.agg (bnd b)]=some ([iv (za4 (fdv s.g (s.n+l)).1 b.lo b.hi)],[]):=by
 obtain ⟨a1,a2,a3,a4⟩:=hs
 have e1:=yi8 s.g (s.n+l) ⟨by omega,by omega⟩
 have e2:=z5p (fdv s.g (s.n+l)).1 b.lo b.hi
 have w1:=w64 (x:=s.n+l) (by omega) (by omega)
 obtain ⟨sn,sg⟩:=s
 obtain ⟨lo,hi⟩:=b
 simp only [slc,bnd] at *
 refine zae z3t rfl ?_
 simp [-getElem?_pos,zul,zum,w1,e1,e2]
theorem zyg (s:Sl) (l:Int) (hs:gS s) (h1:1≤l) (h2:l≤100):RUN T zit [.agg (slc s),iv l]=some ([.agg (frc (zbt (zbo s.g s.g) (s.n+l)).1)],[]):=by
 obtain ⟨a1,a2,a3,a4⟩:=hs
 have e1:=yjy s.g (s.n+l) ⟨by omega,by omega⟩
 have w1:=w64 (x:=s.n+l) (by omega) (by omega)
 obtain ⟨sn,sg⟩:=s
 generalize zbt (zbo sg sg) (sn+l)=F at *
 obtain ⟨⟨⟨fn,fh,fl⟩,fd⟩,fb⟩:=F
 simp only [slc,frc] at *
 refine zae z35 rfl ?_
 simp [-getElem?_pos,zu3,zu4,w1,e1]
def NI (S:Nat→Option Ob) (nx k:Nat) (m:List Int) (x:PV):Prop:=(x = .e0∧m=[])∨∃ o e,x = .ref o none e 0 m.length∧k<o∧o<nx∧S o=some (.row 1 (zaf m))
def apI (x y:PV):Prop := ∀ o e n p e' n',x = .ref o none e 0 n→y = .ref p none e' 0 n'→¬ o=p
theorem NI.up {S S':Nat→Option Ob} {nx nx' k:Nat} {l:List Int} {Y:PV} (h:NI S nx k l Y) (hn:nx≤nx') (hS : ∀ o e n,Y = .ref o none e 0 n→k<o→o<nx→S' o=S o):NI S' nx' k l Y:=by
 rcases h with h | ⟨o,e,h1,h2,h3,h4⟩
 ·exact .inl h
 ·exact .inr ⟨o,e,h1,h2,by omega,by rw [hS o e _ h1 h2 h3]; exact h4⟩
theorem yl2 {y:List Int} {k r x:Int} (h:atI y r=some x):zi5 y k r=decide (x≤k)∧zjk y k r = !decide (x≤k):=by
 unfold zi5 zjk; rw [h]; exact ⟨rfl,rfl⟩
set_option maxHeartbeats 4000000 in
set_option maxRecDepth 4000 in
theorem ykl (q:Bool) (c v:List (List Int)) (g:List Int) (cfg:Cfg) (rows:List Int) (b:Bd) (f k:Nat) (y:List Int) (hy:v[f]?=some y) (hyl:y.length≤1048576) (hvl:v.length≤1048576) (hrv : ∀ r∈rows,0≤r∧r<y.length) (hrg : ∀ r∈rows,0≤r∧r<g.length) (hg : ∀ x∈g,-2199023255552≤x∧x≤2199023255552) (hl:rows.length≤40) (hsg:cfg.sg.length≤1048576) (h1:1≤cfg.la) (h2:cfg.la≤100):RUN T zm5 [.agg [.sl 1 (rws q c),.sl 1 (rws q v)],.sl 1 (zaf g),cfS cfg,.sl 1 (zaf rows),.agg (bnd b),iv f,iv k]=some ([.agg ([iv f,iv k,.own 1 (zaf (zav y rows k)),.own 1 (zaf (zau y rows k))]++frc (zbk (zaq v g rows f k) cfg.la).1),bv (wyB cfg b (zaq v g rows f k) (zah g rows))],[]):=by
 have hr1:zb7 8 1=true:=by decide
 have hy':=zee (q:=q) hy
 have hfl:f<v.length:=(List.getElem?_eq_some_iff.mp hy).1
 have hyd:v.getD f []=y:=by simp [hy]
 unfold zaq
 rw [hyd]
 refine zae z3r rfl ?_
 simp [-getElem?_pos,zuh,zui]
 refine zbu (fun n st => ∃ (i:Nat) (m l:List Int) (X Y:PV),i+n=rows.length∧m.length≤i∧l.length≤i∧m++(rows.drop i).filter (zi5 y k)=zav y rows k∧l++(rows.drop i).filter (zjk y k)=zau y rows k∧4<st.nx∧st.V 1 = .sl 1 (zaf g)∧st.V 3 = .sl 1 (zaf rows)∧st.V 5=iv f∧st.V 6=iv k∧st.V 7 = .ptr 0 none 0 0 0∧st.V 9 = .ptr 1 none 0 0 0∧st.V 11 = .ptr 2 none 0 0 0∧st.V 14 = .ptr 3 none 0 0 0∧st.V 16 = .ptr 4 none 0 0 0∧st.V 17=iv i∧st.S 0=some (.box [.sl 1 (rws q c),.sl 1 (rws q v)])∧st.S 1=some (.box [iv cfg.ro,iv cfg.de,iv cfg.bi,iv cfg.la,iv cfg.rw,iv cfg.nu,iv cfg.dn,.sl 1 (zaf cfg.sg)])∧st.S 2=some (.box (bnd b))∧st.S 3=some (.box [iv 0,iv 0,.e0,.e0,bv false,uv 0,uv 0,iv 0])∧st.S 4=some (.box [iv f,iv k,X,Y,bv false,uv 0,uv 0,iv 0])∧NI st.S st.nx 4 m X∧NI st.S st.nx 4 l Y∧apI X Y) ?_ rows.length _ ⟨0,[],[],.e0,.e0,by omega,by simp,by simp,by simp [zav],by simp [zau],by simp [bnd,NI,apI]⟩
 rintro n st ⟨i,m,l,X,Y,hi,hml,hll,hm,hl2,hnx,v1,v3,v5,v6,v7,v9,v11,v14,v16,v17,S0,S1,S2,S3,S4,hX,hY,hXY⟩
 have q0:=fr (by omega:0<st.nx)
 have q1:=fr (by omega:1<st.nx)
 have q2:=fr (by omega:2<st.nx)
 have q3:=fr (by omega:3<st.nx)
 have q4:=fr (by omega:4<st.nx)
 have n3 : ¬ st.nx=3:=by omega
 by_cases hlt:i<rows.length
 ·obtain ⟨r,hrr⟩ : ∃ r,rows[i]?=some r:=⟨_,List.getElem?_eq_getElem hlt⟩
  have hr':=zcp hrr
  have hws:=wS hlt (by omega:rows.length≤9223372036854775807)
  obtain ⟨g1,g2⟩:=hrv r (List.mem_of_getElem? hrr)
  obtain ⟨rn,rfl⟩ : ∃ rn:Nat,r=rn:=⟨r.toNat,by omega⟩
  have hrn:rn<y.length:=by omega
  obtain ⟨x,hx⟩ : ∃ x,y[rn]?=some x:=⟨_,List.getElem?_eq_getElem hrn⟩
  have hx':=zcp hx
  have ha:atI y rn=some x:=by unfold atI; simp [hx]
  obtain ⟨k1,k2⟩:=yl2 (k:=k) ha
  rw [zwi hrr,List.filter_cons] at hm hl2
  rw [k1] at hm
  rw [k2] at hl2
  have z1:=zln (n:=m.length+1) (by omega)
  have z2:=zln (n:=l.length+1) (by omega)
  have s1:=zot m rn
  have s2:=zot l rn
  have i0:zaf []=[]:=rfl
  have i1:zaf [(rn:Int)]=[[iv rn]]:=rfl
  by_cases hc:x≤k
  ·have d1:decide (x≤(k:Int))=true:=decide_eq_true hc
   simp only [d1,if_true,Bool.not_true,Bool.false_eq_true,if_false] at hm hl2
   rcases hX with ⟨rfl,rfl⟩ | ⟨o,e,rfl,ho,hox,hSo⟩
   ·simp [-getElem?_pos,zdd,v1,v3,v5,v6,v7,v9,v11,v14,v16,v17,S0,S1,S2,S3,S4,hlt,hr',hws,hy',hx',hrn,hfl,hc,hr1,zbc,q0,q1,q2,q3,q4,n3]
    exact za8 (n-1) (by omega) ⟨i+1,[(rn:Int)],l,_,Y,by omega,by simp; try omega,by omega,by simpa using hm,hl2,by simp; try omega,by simp [v1],by simp [v3],by simp [v5],by simp [v6],by simp [v7],by simp [v9],by simp [v11],by simp [v14],by simp [v16],by simp,by simp [S0,q0,q1,q2,q3,q4,n3],by simp [S1,q0,q1,q2,q3,q4,n3],by simp [S2,q0,q1,q2,q3,q4,n3],by simp [S3,q0,q1,q2,q3,q4,n3],by simp [S4,q0,q1,q2,q3,q4,n3]; rfl,(.inr ⟨st.nx+1,st.ep,by simp,by omega,by simp,by simp [zaf,n3]⟩),(hY.up (by simp) (fun p e' n' hp h1 h2=>by
     have a1:=fr h1
     have a2:=fr h2
     simp [a1,a2,n3])),(fun o' e' n' p e2 n2 h1 h2=>by
     rcases hY with ⟨h3,_⟩ | ⟨p',e3,h3,_,h4,_⟩
     ·rw [h3] at h2; cases h2
     ·rw [h3] at h2; cases h2; cases h1; omega)⟩
   ·have qo:=fr hox
    have po:=fr ho
    have o0 : ¬ o=0:=by omega
    have o1 : ¬ o=1:=by omega
    have o2 : ¬ o=2:=by omega
    have o3 : ¬ o=3:=by omega
    have o0' : ¬ 0=o:=by omega
    have o1' : ¬ 1=o:=by omega
    have o2' : ¬ 2=o:=by omega
    have o3' : ¬ 3=o:=by omega
    simp [-getElem?_pos,zdd,v1,v3,v5,v6,v7,v9,v11,v14,v16,v17,S0,S1,S2,S3,S4,hlt,hr',hws,hy',hx',hrn,hfl,hc,hr1,zbc,q0,q1,q2,q3,q4,hSo,z1,s1,qo,po,o0,o1,o2,o3,o0',o1',o2',o3',n3]
    exact za8 (n-1) (by omega) ⟨i+1,(m++[(rn:Int)]),l,_,Y,by omega,by simp; try omega,by omega,by simpa using hm,hl2,by simp; try omega,by simp [v1],by simp [v3],by simp [v5],by simp [v6],by simp [v7],by simp [v9],by simp [v11],by simp [v14],by simp [v16],by simp,by simp [S0,q0,q1,q2,q3,q4,qo,po,o0,o1,o2,o3,o0',o1',o2',o3',n3],by simp [S1,q0,q1,q2,q3,q4,qo,po,o0,o1,o2,o3,o0',o1',o2',o3',n3],by simp [S2,q0,q1,q2,q3,q4,qo,po,o0,o1,o2,o3,o0',o1',o2',o3',n3],by simp [S3,q0,q1,q2,q3,q4,qo,po,o0,o1,o2,o3,o0',o1',o2',o3',n3],by simp [S4,q0,q1,q2,q3,q4,qo,po,o0,o1,o2,o3,o0',o1',o2',o3',n3]; rfl,(.inr ⟨st.nx+1,st.ep,by simp,by omega,by simp,by simp [n3]; try rfl⟩),(hY.up (by simp) (fun p e' n' hp h1 h2=>by
     have a1:=fr h1
     have a2:=fr h2
     have a3 : ¬ p=o:=fun h=>hXY _ _ _ _ _ _ rfl hp h.symm
     have a4 : ¬ o=p:=fun h=>a3 h.symm
     simp [a1,a2,a3,a4,n3])),(fun o' e' n' p e2 n2 h1 h2=>by
     rcases hY with ⟨h3,_⟩ | ⟨p',e3,h3,_,h4,_⟩
     ·rw [h3] at h2; cases h2
     ·rw [h3] at h2; cases h2; cases h1; omega)⟩
  ·have d1:decide (x≤(k:Int))=false:=decide_eq_false hc
   simp only [d1,if_true,Bool.not_false,Bool.false_eq_true,if_false] at hm hl2
   rcases hY with ⟨rfl,rfl⟩ | ⟨o,e,rfl,ho,hox,hSo⟩
   ·simp [-getElem?_pos,zdd,v1,v3,v5,v6,v7,v9,v11,v14,v16,v17,S0,S1,S2,S3,S4,hlt,hr',hws,hy',hx',hrn,hfl,hc,hr1,zbc,q0,q1,q2,q3,q4,n3]
    exact za8 (n-1) (by omega) ⟨i+1,m,[(rn:Int)],X,_,by omega,by omega,by simp; try omega,hm,by simpa using hl2,by simp; try omega,by simp [v1],by simp [v3],by simp [v5],by simp [v6],by simp [v7],by simp [v9],by simp [v11],by simp [v14],by simp [v16],by simp,by simp [S0,q0,q1,q2,q3,q4,n3],by simp [S1,q0,q1,q2,q3,q4,n3],by simp [S2,q0,q1,q2,q3,q4,n3],by simp [S3,q0,q1,q2,q3,q4,n3],by simp [S4,q0,q1,q2,q3,q4,n3]; rfl,(hX.up (by simp) (fun p e' n' hp h1 h2=>by
     have a1:=fr h1
     have a2:=fr h2
     simp [a1,a2,n3])),(.inr ⟨st.nx+1,st.ep,by simp,by omega,by simp,by simp [zaf,n3]⟩),(fun o' e' n' p e2 n2 h1 h2=>by
     rcases hX with ⟨h3,_⟩ | ⟨p',e3,h3,_,h4,_⟩
     ·rw [h3] at h1; cases h1
     ·rw [h3] at h1; cases h1; cases h2; omega)⟩
   ·have qo:=fr hox
    have po:=fr ho
    have o0 : ¬ o=0:=by omega
    have o1 : ¬ o=1:=by omega
    have o2 : ¬ o=2:=by omega
    have o3 : ¬ o=3:=by omega
    have o0' : ¬ 0=o:=by omega
    have o1' : ¬ 1=o:=by omega
    have o2' : ¬ 2=o:=by omega
    have o3' : ¬ 3=o:=by omega
    simp [-getElem?_pos,zdd,v1,v3,v5,v6,v7,v9,v11,v14,v16,v17,S0,S1,S2,S3,S4,hlt,hr',hws,hy',hx',hrn,hfl,hc,hr1,zbc,q0,q1,q2,q3,q4,hSo,z2,s2,qo,po,o0,o1,o2,o3,o0',o1',o2',o3',n3]
    exact za8 (n-1) (by omega) ⟨i+1,m,(l++[(rn:Int)]),X,_,by omega,by omega,by simp; try omega,hm,by simpa using hl2,by simp; try omega,by simp [v1],by simp [v3],by simp [v5],by simp [v6],by simp [v7],by simp [v9],by simp [v11],by simp [v14],by simp [v16],by simp,by simp [S0,q0,q1,q2,q3,q4,qo,po,o0,o1,o2,o3,o0',o1',o2',o3',n3],by simp [S1,q0,q1,q2,q3,q4,qo,po,o0,o1,o2,o3,o0',o1',o2',o3',n3],by simp [S2,q0,q1,q2,q3,q4,qo,po,o0,o1,o2,o3,o0',o1',o2',o3',n3],by simp [S3,q0,q1,q2,q3,q4,qo,po,o0,o1,o2,o3,o0',o1',o2',o3',n3],by simp [S4,q0,q1,q2,q3,q4,qo,po,o0,o1,o2,o3,o0',o1',o2',o3',n3]; rfl,(hX.up (by simp) (fun p e' n' hp h1 h2=>by
     have a1:=fr h1
     have a2:=fr h2
     have a3 : ¬ p=o:=hXY _ _ _ _ _ _ hp rfl
     have a4 : ¬ o=p:=fun h=>a3 h.symm
     simp [a1,a2,a3,a4,n3])),(.inr ⟨st.nx+1,st.ep,by simp,by omega,by simp,by simp [n3]; try rfl⟩),(fun o' e' n' p e2 n2 h1 h2=>by
     rcases hX with ⟨h3,_⟩ | ⟨p',e3,h3,_,h4,_⟩
     ·rw [h3] at h1; cases h1
     ·rw [h3] at h1; cases h1; cases h2; omega)⟩
 ·have hie:i=rows.length:=by omega
  subst hie
  rw [List.drop_length] at hm hl2
  simp only [List.filter_nil,List.append_nil] at hm hl2
  have hmr : ∀ r∈zav y rows k,0≤r∧r<g.length:=fun r hr=>hrg r ((List.mem_filter.mp hr).1)
  have hlr : ∀ r∈zau y rows k,0≤r∧r<g.length:=fun r hr=>hrg r ((List.mem_filter.mp hr).1)
  have hA:(zav y rows k).length≤40:=Nat.le_trans (List.length_filter_le _ _) hl
  have hZ:(zau y rows k).length≤40:=Nat.le_trans (List.length_filter_le _ _) hl
  rw [← hm] at hmr hA ⊢
  rw [← hl2] at hlr hZ ⊢
  clear hm hl2
  have e1:=zk6 g m hg hmr (by omega)
  have e2:=zk6 g l hg hlr (by omega)
  have e3:=zk6 g rows hg hrg (by omega)
  have gA:=zfy hg hA
  have gZ:=zfy hg hZ
  have gW:=zfy hg hl
  have e4:=zyg (zah g m) cfg.la gA h1 h2
  have e5:=zyg (zah g l) cfg.la gZ h1 h2
  have e6:=zyg (zah g rows) cfg.la gW h1 h2
  obtain ⟨_,s4⟩:=zox gA h1 h2
  obtain ⟨_,s5⟩:=zox gZ h1 h2
  obtain ⟨_,s6⟩:=zox gW h1 h2
  have e7:=yj0 _ _ (s4.I (by omega)) (s5.I (by omega))
  have hG:=zoh (x:=⟨f,k,zah g m,zah g l⟩) gA gZ h1 h2
  obtain ⟨hG1,hG2,hG3⟩:=hG
  simp only at hG1
  rw [← hG1,hG2] at e7
  have e8:=zyd _ _ (hG3.I (by omega)) (s6.I (by omega))
  have e9:=z5s cfg f (by omega)
  have e10:=zn3 (zah g m) cfg.la b gA h1 h2
  have e11:=zn3 (zah g l) cfg.la b gZ h1 h2
  have e12:=yj4 (zdl cfg f) (za4 (fdv (zah g m).g ((zah g m).n+cfg.la)).1 b.lo b.hi) (za4 (fdv (zah g l).g ((zah g l).n+cfg.la)).1 b.lo b.hi)
  unfold wyB
  simp only
  clear hG1 hG2 hG3 s4 s5 s6
  generalize (zbk ⟨f,k,zah g m,zah g l⟩ cfg.la).1=G at *
  generalize (zbt (zbo (zah g m).g (zah g m).g) ((zah g m).n+cfg.la)).1=F1 at *
  generalize (zbt (zbo (zah g l).g (zah g l).g) ((zah g l).n+cfg.la)).1=F2 at *
  generalize (zbt (zbo (zah g rows).g (zah g rows).g) ((zah g rows).n+cfg.la)).1=F3 at *
  generalize zdc G F3=CC at *
  obtain ⟨CC,cb⟩:=CC
  generalize za4 (fdv (zah g m).g ((zah g m).n+cfg.la)).1 b.lo b.hi=V1 at *
  generalize za4 (fdv (zah g l).g ((zah g l).n+cfg.la)).1 b.lo b.hi=V2 at *
  generalize zdl cfg f=SG at *
  generalize zjg SG V1 V2=AG at *
  generalize zah g m=SA at *
  generalize zah g l=SZ at *
  generalize zah g rows=SW at *
  obtain ⟨an,ag⟩:=SA
  obtain ⟨zn,zg⟩:=SZ
  obtain ⟨wn,wg⟩:=SW
  obtain ⟨lo,hi⟩:=b
  obtain ⟨⟨Gn,Gh,Gl⟩,Gd⟩:=G
  obtain ⟨⟨an1,ah1,al1⟩,ad1⟩:=F1
  obtain ⟨⟨an2,ah2,al2⟩,ad2⟩:=F2
  obtain ⟨⟨an3,ah3,al3⟩,ad3⟩:=F3
  simp only [slc,bnd,frc,cfS] at *
  rcases hX with ⟨rfl,rfl⟩ | ⟨o,e,rfl,ho,hox,hSo⟩
  ·rcases hY with ⟨rfl,rfl⟩ | ⟨p,e',rfl,hp,hpx,hSp⟩
   ·rw [show zaf []=[] from rfl] at e1 e2
    have t1:=e1.symm.trans e2
    simp at t1
    obtain ⟨rfl,rfl⟩:=t1
    have t2:=e4.symm.trans e5
    simp at t2
    obtain ⟨rfl,rfl,rfl,rfl⟩:=t2
    have t3:=e10.symm.trans e11
    simp at t3
    subst t3
    by_cases p1:cfg.rw≤an
    ·have p2:=p1
     ·by_cases p3:0<CC
      ·simp [-getElem?_pos,zdd,v1,v3,v5,v6,v7,v9,v11,v14,v16,v17,S0,S1,S2,S3,S4,hlt,e1,e2,e3,e4,e5,e6,e7,e8,e9,e10,e11,e12,p1,p2,p3,q0,q1,q2,q3,q4,n3]
      ·simp [-getElem?_pos,zdd,v1,v3,v5,v6,v7,v9,v11,v14,v16,v17,S0,S1,S2,S3,S4,hlt,e1,e2,e3,e4,e5,e6,e7,e8,e9,e10,e11,e12,p1,p2,p3,q0,q1,q2,q3,q4,n3]
    ·have p2:=p1
     have p3:=p1
     simp [-getElem?_pos,zdd,v1,v3,v5,v6,v7,v9,v11,v14,v16,v17,S0,S1,S2,S3,S4,hlt,e1,e2,e3,e4,e5,e6,e7,e8,e9,e10,e11,e12,p1,p2,p3,q0,q1,q2,q3,q4,n3]
   ·rw [show zaf []=[] from rfl] at e1
    have qp:=fr hpx
    have pp:=fr hp
    have y0 : ¬ p=0:=by omega
    have y1 : ¬ p=1:=by omega
    have y2 : ¬ p=2:=by omega
    have y3 : ¬ p=3:=by omega
    have y0' : ¬ 0=p:=by omega
    have y1' : ¬ 1=p:=by omega
    have y2' : ¬ 2=p:=by omega
    have y3' : ¬ 3=p:=by omega
    by_cases p1:cfg.rw≤an
    ·by_cases p2:cfg.rw≤zn
     ·by_cases p3:0<CC
      ·simp [-getElem?_pos,zdd,v1,v3,v5,v6,v7,v9,v11,v14,v16,v17,S0,S1,S2,S3,S4,hlt,e1,e2,e3,e4,e5,e6,e7,e8,e9,e10,e11,e12,p1,p2,p3,q0,q1,q2,q3,q4,n3,hSp,qp,pp,y0,y1,y2,y3,y0',y1',y2',y3']
      ·simp [-getElem?_pos,zdd,v1,v3,v5,v6,v7,v9,v11,v14,v16,v17,S0,S1,S2,S3,S4,hlt,e1,e2,e3,e4,e5,e6,e7,e8,e9,e10,e11,e12,p1,p2,p3,q0,q1,q2,q3,q4,n3,hSp,qp,pp,y0,y1,y2,y3,y0',y1',y2',y3']
     ·have p3:=p2
      simp [-getElem?_pos,zdd,v1,v3,v5,v6,v7,v9,v11,v14,v16,v17,S0,S1,S2,S3,S4,hlt,e1,e2,e3,e4,e5,e6,e7,e8,e9,e10,e11,e12,p1,p2,p3,q0,q1,q2,q3,q4,n3,hSp,qp,pp,y0,y1,y2,y3,y0',y1',y2',y3']
    ·have p2:=p1
     have p3:=p1
     simp [-getElem?_pos,zdd,v1,v3,v5,v6,v7,v9,v11,v14,v16,v17,S0,S1,S2,S3,S4,hlt,e1,e2,e3,e4,e5,e6,e7,e8,e9,e10,e11,e12,p1,p2,p3,q0,q1,q2,q3,q4,n3,hSp,qp,pp,y0,y1,y2,y3,y0',y1',y2',y3']
  ·rcases hY with ⟨rfl,rfl⟩ | ⟨p,e',rfl,hp,hpx,hSp⟩
   ·rw [show zaf []=[] from rfl] at e2
    have qo:=fr hox
    have po:=fr ho
    have o0 : ¬ o=0:=by omega
    have o1 : ¬ o=1:=by omega
    have o2 : ¬ o=2:=by omega
    have o3 : ¬ o=3:=by omega
    have o0' : ¬ 0=o:=by omega
    have o1' : ¬ 1=o:=by omega
    have o2' : ¬ 2=o:=by omega
    have o3' : ¬ 3=o:=by omega
    by_cases p1:cfg.rw≤an
    ·by_cases p2:cfg.rw≤zn
     ·by_cases p3:0<CC
      ·simp [-getElem?_pos,zdd,v1,v3,v5,v6,v7,v9,v11,v14,v16,v17,S0,S1,S2,S3,S4,hlt,e1,e2,e3,e4,e5,e6,e7,e8,e9,e10,e11,e12,p1,p2,p3,q0,q1,q2,q3,q4,n3,hSo,qo,po,o0,o1,o2,o3,o0',o1',o2',o3']
      ·simp [-getElem?_pos,zdd,v1,v3,v5,v6,v7,v9,v11,v14,v16,v17,S0,S1,S2,S3,S4,hlt,e1,e2,e3,e4,e5,e6,e7,e8,e9,e10,e11,e12,p1,p2,p3,q0,q1,q2,q3,q4,n3,hSo,qo,po,o0,o1,o2,o3,o0',o1',o2',o3']
     ·have p3:=p2
      simp [-getElem?_pos,zdd,v1,v3,v5,v6,v7,v9,v11,v14,v16,v17,S0,S1,S2,S3,S4,hlt,e1,e2,e3,e4,e5,e6,e7,e8,e9,e10,e11,e12,p1,p2,p3,q0,q1,q2,q3,q4,n3,hSo,qo,po,o0,o1,o2,o3,o0',o1',o2',o3']
    ·have p2:=p1
     have p3:=p1
     simp [-getElem?_pos,zdd,v1,v3,v5,v6,v7,v9,v11,v14,v16,v17,S0,S1,S2,S3,S4,hlt,e1,e2,e3,e4,e5,e6,e7,e8,e9,e10,e11,e12,p1,p2,p3,q0,q1,q2,q3,q4,n3,hSo,qo,po,o0,o1,o2,o3,o0',o1',o2',o3']
   ·have qo:=fr hox
    have po:=fr ho
    have o0 : ¬ o=0:=by omega
    have o1 : ¬ o=1:=by omega
    have o2 : ¬ o=2:=by omega
    have o3 : ¬ o=3:=by omega
    have o0' : ¬ 0=o:=by omega
    have o1' : ¬ 1=o:=by omega
    have o2' : ¬ 2=o:=by omega
    have o3' : ¬ 3=o:=by omega
    have qp:=fr hpx
    have pp:=fr hp
    have y0 : ¬ p=0:=by omega
    have y1 : ¬ p=1:=by omega
    have y2 : ¬ p=2:=by omega
    have y3 : ¬ p=3:=by omega
    have y0' : ¬ 0=p:=by omega
    have y1' : ¬ 1=p:=by omega
    have y2' : ¬ 2=p:=by omega
    have y3' : ¬ 3=p:=by omega
    have op : ¬ o=p:=hXY _ _ _ _ _ _ rfl rfl
    have op' : ¬ p=o:=fun h=>op h.symm
    by_cases p1:cfg.rw≤an
    ·by_cases p2:cfg.rw≤zn
     ·by_cases p3:0<CC
      ·simp [-getElem?_pos,zdd,v1,v3,v5,v6,v7,v9,v11,v14,v16,v17,S0,S1,S2,S3,S4,hlt,e1,e2,e3,e4,e5,e6,e7,e8,e9,e10,e11,e12,p1,p2,p3,q0,q1,q2,q3,q4,n3,hSo,qo,po,o0,o1,o2,o3,o0',o1',o2',o3',hSp,qp,pp,y0,y1,y2,y3,y0',y1',y2',y3',op,op']
      ·simp [-getElem?_pos,zdd,v1,v3,v5,v6,v7,v9,v11,v14,v16,v17,S0,S1,S2,S3,S4,hlt,e1,e2,e3,e4,e5,e6,e7,e8,e9,e10,e11,e12,p1,p2,p3,q0,q1,q2,q3,q4,n3,hSo,qo,po,o0,o1,o2,o3,o0',o1',o2',o3',hSp,qp,pp,y0,y1,y2,y3,y0',y1',y2',y3',op,op']
     ·have p3:=p2
      simp [-getElem?_pos,zdd,v1,v3,v5,v6,v7,v9,v11,v14,v16,v17,S0,S1,S2,S3,S4,hlt,e1,e2,e3,e4,e5,e6,e7,e8,e9,e10,e11,e12,p1,p2,p3,q0,q1,q2,q3,q4,n3,hSo,qo,po,o0,o1,o2,o3,o0',o1',o2',o3',hSp,qp,pp,y0,y1,y2,y3,y0',y1',y2',y3',op,op']
    ·have p2:=p1
     have p3:=p1
     simp [-getElem?_pos,zdd,v1,v3,v5,v6,v7,v9,v11,v14,v16,v17,S0,S1,S2,S3,S4,hlt,e1,e2,e3,e4,e5,e6,e7,e8,e9,e10,e11,e12,p1,p2,p3,q0,q1,q2,q3,q4,n3,hSo,qo,po,o0,o1,o2,o3,o0',o1',o2',o3',hSp,qp,pp,y0,y1,y2,y3,y0',y1',y2',y3',op,op']
theorem yp9 {c v:List (List Int)} (h:zc4 c v=true) {f:Nat} (hf:f<c.length) : ∃ a y,c[f]?=some a∧v[f]?=some y∧y.length=zcb v∧a.length≤7∧∀ x∈y,0≤x∧x≤a.length:=by
 have hl:=(z6u h).1
 unfold zc4 at h
 simp only [Bool.and_eq_true] at h
 have hF:=List.all_eq_true.mp h.2 f (by simpa using hf)
 obtain ⟨a,ha⟩ : ∃ a,c[f]?=some a:=⟨_,List.getElem?_eq_getElem hf⟩
 obtain ⟨y,hy⟩ : ∃ y,v[f]?=some y:=⟨_,List.getElem?_eq_getElem (by omega)⟩
 unfold zeg at hF
 rw [ha,hy] at hF
 simp only [Bool.and_eq_true,decide_eq_true_eq] at hF
 refine ⟨a,y,ha,hy,by omega,?_,fun x hx=>zby.mp (List.all_eq_true.mp hF.2 x hx)⟩
 have:=hF.1.1
 unfold zew at this
 simp only [Bool.and_eq_true,decide_eq_true_eq] at this
 omega
theorem yan {s:Sl} (h:gS s):smS 40 s:=by
 obtain ⟨a1,a2,a3,a4⟩:=h
 exact ⟨a1,a2,by omega,by omega⟩
theorem yn3 {y g rows:List Int} {k:Int} (hv : ∀ r∈rows,∃ x,atI y r=some x) (hg : ∀ x∈g,-2199023255552≤x∧x≤2199023255552) (hl:rows.length≤40):zcd (zah g (zav y rows k)) (zah g (zau y rows k))=(zah g rows,true):=by
 have gA:=zfy (rows:=zav y rows k) hg (Nat.le_trans (List.length_filter_le _ _) hl)
 have gZ:=zfy (rows:=zau y rows k) hg (Nat.le_trans (List.length_filter_le _ _) hl)
 rw [(yn6 (yan gA) (yan gZ) (by omega)).1]
 obtain ⟨a1,a2⟩:=z65 (g:=g) (b:=k) rows hv
 unfold zah
 have g1 : ∀ r:List Int,(r.map fun r=>(atI g r).getD 0).sum=zjj g r:=fun r=>rfl
 rw [g1,g1,g1]
 simp only [Prod.mk.injEq,Sl.mk.injEq,and_true]
 omega
structure GH (c v:List (List Int)) (g:List Int) (cfg:Cfg):Prop where
 tk:zgj c v g cfg=true
 sg:cfg.sg.length≤1048576
theorem GH.la {c v:List (List Int)} {g:List Int} {cfg:Cfg} (h:GH c v g cfg):1≤cfg.la∧cfg.la≤100∧0≤cfg.de∧cfg.de≤4:=z6m (zi7 h.tk).2.1
theorem GH.gb {c v:List (List Int)} {g:List Int} {cfg:Cfg} (h:GH c v g cfg) : ∀ x∈g,-2199023255552≤x∧x≤2199023255552:=(zi7 h.tk).2.2.2
theorem GH.gl {c v:List (List Int)} {g:List Int} {cfg:Cfg} (h:GH c v g cfg):g.length≤40∧c.length≤4∧v.length≤4:=by
 obtain ⟨h1,_,h3,_⟩:=zi7 h.tk
 have:=z84 h1
 have:=z6u h1
 omega
theorem GH.at {c v:List (List Int)} {g:List Int} {cfg:Cfg} (h:GH c v g cfg) {f:Nat} (hf:f<c.length) : ∃ a y,c[f]?=some a∧v[f]?=some y∧y.length=g.length∧a.length≤7:=by
 obtain ⟨h1,_,h3,_⟩:=zi7 h.tk
 obtain ⟨a,y,e1,e2,e3,e4,_⟩:=yp9 h1 hf
 exact ⟨a,y,e1,e2,by omega,e4⟩
theorem GH.may {c v:List (List Int)} {g:List Int} {cfg:Cfg} (h:GH c v g cfg) {x:Pnd} (hx:zi4 g.length cfg.de x) (hb:zcv x.b=true) {f k:Nat} (hf:f<c.length):zgy cfg x.b (zaq v g x.r f k)=wyB cfg x.b (zaq v g x.r f k) (zah g x.r)∧gS (zaq v g x.r f k).a∧gS (zaq v g x.r f k).z:=by
 obtain ⟨a,y,e1,e2,e3,_⟩:=h.at hf
 have hyd:v.getD f []=y:=by simp [e2]
 have hl:=h.gl
 have hr40:x.r.length≤40:=by have:=hx.2.1; omega
 have hv : ∀ r∈x.r,∃ z,atI y r=some z:=fun r hr=>by
  obtain ⟨r0,r1⟩:=hx.1 r hr
  obtain ⟨rn,rfl⟩ : ∃ rn:Nat,r=rn:=⟨r.toNat,by omega⟩
  refine ⟨y[rn]'(by omega),?_⟩
  unfold atI
  simp
 have gA:=zfy (rows:=zav y x.r k) h.gb (Nat.le_trans (List.length_filter_le _ _) hr40)
 have gZ:=zfy (rows:=zau y x.r k) h.gb (Nat.le_trans (List.length_filter_le _ _) hr40)
 unfold zaq
 rw [hyd]
 exact ⟨ypw (zi7 h.tk).2.1 hb gA gZ (zfy h.gb hr40) (yn3 hv h.gb hr40) h.la.1 h.la.2.1,gA,gZ⟩
def WB (v:List (List Int)) (g rows:List Int) (la:Int) (S:Nat→Option Ob) (nx:Nat) (acc:Option Cnd) (B:List PV) (fd:PV):Prop:=(acc=none∧B=[iv 0,iv 0,.e0,.e0,bv false,uv 0,uv 0,iv 0]∧fd=bv false)∨∃ (f k o e p e':Nat),acc=some (zaq v g rows f k)∧B=[iv f,iv k,.ref o none e 0 (zav (v.getD f []) rows k).length,.ref p none e' 0 (zau (v.getD f []) rows k).length]++frc (zbk (zaq v g rows f k) la).1∧fd=bv true∧4<o∧o<nx∧4<p∧p<nx∧¬ o=p∧S o=some (.row 1 (zaf (zav (v.getD f []) rows k)))∧S p=some (.row 1 (zaf (zau (v.getD f []) rows k)))
theorem WB.up {v:List (List Int)} {g rows:List Int} {la:Int} {S S':Nat→Option Ob} {nx nx':Nat} {acc:Option Cnd} {B:List PV} {fd:PV} (h:WB v g rows la S nx acc B fd) (hn:nx≤nx') (hS : ∀ o,4<o→o<nx→S' o=S o):WB v g rows la S' nx' acc B fd:=by
 rcases h with h | ⟨f,k,o,e,p,e',h1,h2,h3,h4,h5,h6,h7,h8,h9,h10⟩
 ·exact .inl h
 ·exact .inr ⟨f,k,o,e,p,e',h1,h2,h3,h4,by omega,h6,by omega,h8,by rw [hS o h4 h5]; exact h9,by rw [hS p h6 h7]; exact h10⟩
theorem ynr:frI ⟨⟨false,0,0⟩,0⟩:=⟨⟨by decide,by decide,by decide,by decide⟩,by decide,by decide⟩
theorem z6c {b:Bd} (h:zcv b=true):inI b.lo∧inI b.hi:=by
 unfold zcv ze0 at h
 simp only [Bool.and_eq_true,decide_eq_true_eq,zby] at h
 exact ⟨⟨by omega,by omega⟩,⟨by omega,by omega⟩⟩
theorem zwm {x lo hi:Int} (h1:inI lo) (h2:inI hi):inI (za4 x lo hi):=by
 unfold za4
 obtain ⟨a1,a2⟩:=h1
 obtain ⟨a3,a4⟩:=h2
 split
 ·exact ⟨a1,a2⟩
 ·split
  ·exact ⟨a3,a4⟩
  ·exact ⟨by omega,by omega⟩
abbrev zqq (q:Bool) (c v:List (List Int)) (g:List Int) (cfg:Cfg) (x:Pnd):List PV:=[.agg [.sl 1 (rws q c),.sl 1 (rws q v)],.sl 1 (zaf g),cfS cfg,.sl 1 (zaf x.r),.agg (bnd x.b),iv x.l]
set_option maxHeartbeats 4000000 in
set_option maxRecDepth 4000 in
theorem ykm (q:Bool) {c v:List (List Int)} {g:List Int} {cfg:Cfg} (H:GH c v g cfg) : ∀ (N:Nat) (x:Pnd),zi4 g.length cfg.de x→zcv x.b=true→(cfg.de-x.l).toNat=N→RUN T ziq (zqq q c v g cfg x)=some ([.agg (snC true (zbv c v g cfg N x))],[]):=by
 intro N
 induction N with
 | zero =>
  intro x hx hb hN
  have hle : ¬ x.l<cfg.de:=by omega
  have hle':cfg.de≤x.l:=by omega
  have hgl:=H.gl
  have hr40:x.r.length≤40:=by have:=hx.2.1; omega
  have gW:=zfy (g:=g) (rows:=x.r) H.gb hr40
  have e1:=zk6 g x.r H.gb hx.1 (by omega)
  have e2:=zn3 (zah g x.r) cfg.la x.b gW H.la.1 H.la.2.1
  have hc0:(0:Int)<c.length:=by
   have:=(zi7 H.tk).1
   unfold zc4 at this
   simp only [Bool.and_eq_true] at this
   have:=zby.mp this.1.1.1
   omega
  have hc0':0<c.length:=by omega
  simp only [zbv,zor,zjn gW H.la.1 H.la.2.1 hb]
  generalize za4 (fdv (zah g x.r).g ((zah g x.r).n+cfg.la)).1 x.b.lo x.b.hi=V at *
  generalize zah g x.r=SW at *
  obtain ⟨wn,wg⟩:=SW
  obtain ⟨xr,⟨lo,hi⟩,xl⟩:=x
  simp only [slc,bnd,cfS,zqq,snC,snL,zeb,if_true] at *
  refine zae zxy rfl ?_
  simp [-getElem?_pos,zpu,zpv]
  refine zbu (fun n st=>st.V 1 = .sl 1 (zaf g)∧st.V 3 = .sl 1 (zaf xr)∧st.V 5=iv xl∧st.V 6 = .ptr 0 none 0 0 0∧st.V 8 = .ptr 1 none 0 0 0∧st.V 10 = .ptr 2 none 0 0 0∧st.V 12 = .ptr 3 none 0 0 0∧st.V 14=bv false∧st.V 15=iv 0∧st.S 0=some (.box [.sl 1 (rws q c),.sl 1 (rws q v)])∧st.S 1=some (.box [iv cfg.ro,iv cfg.de,iv cfg.bi,iv cfg.la,iv cfg.rw,iv cfg.nu,iv cfg.dn,.sl 1 (zaf cfg.sg)])∧st.S 2=some (.box [iv lo,iv hi])∧st.S 3=some (.box [iv 0,iv 0,iv 0,.e0])) ?_ 0 _ (by simp)
  rintro n st ⟨v1,v3,v5,v6,v8,v10,v12,v14,v15,S0,S1,S2,S3⟩
  simp [-getElem?_pos,zpt,v1,v3,v5,v6,v8,v10,v12,v14,v15,S0,S1,S2,S3,hc0',hle,e1,e2]
 | succ N ih =>
  intro x hx hb hN
  have hgl:=H.gl
  have hr40:x.r.length≤40:=by have:=hx.2.1; omega
  have hBf:=zy3 (v:=v) (g:=g) (rows:=x.r) (c:=c) (cfg:=cfg) (b:=x.b)
  obtain ⟨R,hR⟩ : ∃ R,R=snC true (zbv c v g cfg (N+1) x):=⟨_,rfl⟩
  rw [← hR]
  have hlv:x.l<cfg.de:=by omega
  obtain ⟨X,hX⟩ : ∃ X,X=x:=⟨_,rfl⟩
  obtain ⟨xr,⟨lo,hi⟩,xl⟩:=x
  simp only at hr40 hBf hlv hN
  simp only [bnd,cfS,zqq]
  have hr1:zb7 8 1=true:=by decide
  refine zae zxy rfl ?_
  simp [-getElem?_pos,zpu,zpv]
  refine zbu (fun n st => ∃ (f:Nat) (B:List PV) (fd:PV),f+n=c.length∧4<st.nx∧st.V 15=iv f∧WB v g xr cfg.la st.S st.nx (zcx c v g cfg xr ⟨lo,hi⟩ f) B fd∧st.V 1 = .sl 1 (zaf g)∧st.V 3 = .sl 1 (zaf xr)∧st.V 5=iv xl∧st.V 6 = .ptr 0 none 0 0 0∧st.V 8 = .ptr 1 none 0 0 0∧st.V 10 = .ptr 2 none 0 0 0∧st.V 12 = .ptr 3 none 0 0 0∧st.V 13 = .ptr 4 none 0 0 0∧st.V 14=fd∧st.S 0=some (.box [.sl 1 (rws q c),.sl 1 (rws q v)])∧st.S 1=some (.box [iv cfg.ro,iv cfg.de,iv cfg.bi,iv cfg.la,iv cfg.rw,iv cfg.nu,iv cfg.dn,.sl 1 (zaf cfg.sg)])∧st.S 2=some (.box [iv lo,iv hi])∧st.S 3=some (.box [iv 0,iv 0,iv 0,.e0])∧st.S 4=some (.box B)) ?_ c.length _ ⟨0,_,_,by omega,by simp,by simp,.inl ⟨rfl,rfl,rfl⟩,by simp⟩
  rintro n st ⟨f,B,fd,hfn,hnx,v15,hW,v1,v3,v5,v6,v8,v10,v12,v13,v14,S0,S1,S2,S3,S4⟩
  by_cases hf:f<c.length
  ·obtain ⟨a,y,ha,hy,hyl,ha7⟩:=H.at hf
   have ha':=zee (q:=q) ha
   have hcd:c.getD f []=a:=by simp [ha]
   have hyd:v.getD f []=y:=by simp [hy]
   have hfl:f<v.length:=(List.getElem?_eq_some_iff.mp hy).1
   have hwf:=wS hf (by omega:c.length≤9223372036854775807)
   simp [-getElem?_pos,zpt,v1,v3,v5,v6,v8,v10,v12,v13,v14,S0,S1,S2,S3,S4,v15,hf,hlv]
   refine zbu (fun n st => ∃ (k:Nat) (B:List PV) (fd:PV),k+n=a.length∧4<st.nx∧st.V 15=iv f∧st.V 16=iv k∧WB v g xr cfg.la st.S st.nx (zdt v g cfg xr ⟨lo,hi⟩ f (zcx c v g cfg xr ⟨lo,hi⟩ f) k) B fd∧st.V 1 = .sl 1 (zaf g)∧st.V 3 = .sl 1 (zaf xr)∧st.V 5=iv xl∧st.V 6 = .ptr 0 none 0 0 0∧st.V 8 = .ptr 1 none 0 0 0∧st.V 10 = .ptr 2 none 0 0 0∧st.V 12 = .ptr 3 none 0 0 0∧st.V 13 = .ptr 4 none 0 0 0∧st.V 14=fd∧st.S 0=some (.box [.sl 1 (rws q c),.sl 1 (rws q v)])∧st.S 1=some (.box [iv cfg.ro,iv cfg.de,iv cfg.bi,iv cfg.la,iv cfg.rw,iv cfg.nu,iv cfg.dn,.sl 1 (zaf cfg.sg)])∧st.S 2=some (.box [iv lo,iv hi])∧st.S 3=some (.box [iv 0,iv 0,iv 0,.e0])∧st.S 4=some (.box B)) ?_ a.length _ ⟨0,B,fd,by omega,by simp; omega,by simp [v15],by simp,hW,by simp [v1,v3,v5,v6,v8,v10,v12,v13,v14,S0,S1,S2,S3,S4]⟩
   clear hW v1 v3 v5 v6 v8 v10 v12 v13 v14 S0 S1 S2 S3 S4 v15 hnx
   clear B fd
   rintro m st ⟨k,B,fd,hkm,hnx,v15,v16,hW,v1,v3,v5,v6,v8,v10,v12,v13,v14,S0,S1,S2,S3,S4⟩
   have q0:=fr (by omega:0<st.nx)
   have q1:=fr (by omega:1<st.nx)
   have q2:=fr (by omega:2<st.nx)
   have q3:=fr (by omega:3<st.nx)
   have q4:=fr (by omega:4<st.nx)
   have n4 : ¬ st.nx=4:=by omega
   have n3 : ¬ st.nx=3:=by omega
   by_cases hk:k<a.length
   ·have eP:=ykl q c v g cfg xr ⟨lo,hi⟩ f k y hy (by omega) (by omega) (fun r hr=>by rw [hyl]; exact hx.1 r hr) hx.1 H.gb hr40 H.sg H.la.1 H.la.2.1
    obtain ⟨m1,m2,m3⟩:=H.may hx hb (k:=k) hf
    simp only at m1 m2 m3
    rw [← m1,← hyd] at eP
    have hwk:=wS hk (by omega:a.length≤9223372036854775807)
    obtain ⟨_,g1,g2⟩:=zoh m2 m3 H.la.1 H.la.2.1
    obtain ⟨G,hG⟩ : ∃ G,G=(zbk (zaq v g xr f k) cfg.la).1:=⟨_,rfl⟩
    rw [← hG] at eP g2
    cases hm:zgy cfg ⟨lo,hi⟩ (zaq v g xr f k) with
    | false =>
     rw [hm] at eP
     obtain ⟨⟨Gn,Gh,Gl⟩,Gd⟩:=G
     simp only [frc,bnd,cfS,List.cons_append,List.nil_append] at eP
     generalize zav (v.getD f []) xr k=L1 at *
     generalize zau (v.getD f []) xr k=L2 at *
     simp [-getElem?_pos,znt,v1,v3,v5,v6,v8,v10,v12,v13,v14,S0,S1,S2,S3,S4,v15,v16,ha',hk,hf,hwk,eP,q0,q1,q2,q3,q4]
     have hst:zdt v g cfg xr ⟨lo,hi⟩ f (zcx c v g cfg xr ⟨lo,hi⟩ f) (k+1)=zdt v g cfg xr ⟨lo,hi⟩ f (zcx c v g cfg xr ⟨lo,hi⟩ f) k:=by rw [zl2]; unfold zhg; rw [if_neg (by rw [hm]; simp)]
     rw [← hst] at hW
     exact za8 (m-1) (by omega) ⟨k+1,B,fd,by omega,by simp; omega,by simp [v15],by simp,(hW.up (by simp; omega) (fun o h1 h2=>by
      have a1:=fr h1
      have a2:=fr h2
      simp [a1,a2])),by simp [v1],by simp [v3],by simp [v5],by simp [v6],by simp [v8],by simp [v10],by simp [v12],by simp [v13],by simp [v14],by simp [S0,q0,q1,q2,q3,q4],by simp [S1,q0,q1,q2,q3,q4],by simp [S2,q0,q1,q2,q3,q4],by simp [S3,q0,q1,q2,q3,q4],by simp [S4,q0,q1,q2,q3,q4]⟩
    | true =>
     rw [hm] at eP
     have nW : ∀ (S:Nat→Option Ob) (nx o e p e':Nat) (h4:4<o) (ho:o<nx) (h5:4<p) (hp:p<nx) (hop : ¬ o=p) (hSo:S o=some (.row 1 (zaf (zav (v.getD f []) xr k)))) (hSp:S p=some (.row 1 (zaf (zau (v.getD f []) xr k)))),WB v g xr cfg.la S nx (some (zaq v g xr f k)) ([iv f,iv k,.ref o none e 0 (zav (v.getD f []) xr k).length,.ref p none e' 0 (zau (v.getD f []) xr k).length]++frc G) (bv true):=fun S nx o e p e' h4 ho h5 hp hop hSo hSp => .inr ⟨f,k,o,e,p,e',rfl,by rw [hG],rfl,h4,ho,h5,hp,hop,hSo,hSp⟩
     rcases hW with ⟨w1,w2,w3⟩ | ⟨f',k',o,e,p,e',w1,w2,w3,o1,o2,p1,p2,hop,hSo,hSp⟩
     ·have hst:zdt v g cfg xr ⟨lo,hi⟩ f (zcx c v g cfg xr ⟨lo,hi⟩ f) (k+1)=some (zaq v g xr f k):=by rw [zl2,w1]; unfold zhg; rw [if_pos hm]
      rw [← hst] at nW
      have eC:=zyd G ⟨⟨false,0,0⟩,0⟩ (g2.I (by omega)) ynr
      generalize zdc G ⟨⟨false,0,0⟩,0⟩=CC at *
      obtain ⟨CC,cb⟩:=CC
      subst w2 w3
      obtain ⟨⟨Gn,Gh,Gl⟩,Gd⟩:=G
      simp only [frc,bnd,cfS,List.cons_append,List.nil_append] at eP eC nW
      generalize zav (v.getD f []) xr k=L1 at *
      generalize zau (v.getD f []) xr k=L2 at *
      simp [-getElem?_pos,znt,v1,v3,v5,v6,v8,v10,v12,v13,v14,S0,S1,S2,S3,S4,v15,v16,ha',hk,hf,hwk,eP,eC,q0,q1,q2,q3,q4]
      exact za8 (m-1) (by omega) ⟨k+1,_,_,by omega,by simp; omega,by simp [v15],by simp,nW _ _ st.nx st.ep (st.nx+1) st.ep hnx (by simp; omega) (by omega) (by simp) (by omega) (by simp [q0,q1,q2,q3,q4,n4]) (by simp [q0,q1,q2,q3,q4,n3]),by simp [v1],by simp [v3],by simp [v5],by simp [v6],by simp [v8],by simp [v10],by simp [v12],by simp [v13],by simp,by simp [S0,q0,q1,q2,q3,q4],by simp [S1,q0,q1,q2,q3,q4],by simp [S2,q0,q1,q2,q3,q4],by simp [S3,q0,q1,q2,q3,q4],by simp⟩
     ·have hb0:=zwr (f:=f) (a:=zcx c v g cfg xr ⟨lo,hi⟩ f) (hBf f (by omega)) hf k (by rw [hcd]; omega)
      rw [w1] at hb0
      have hlc:=yp1 hb0
      have hf':f'<c.length:=by
       obtain ⟨f2,k2,x1,_,x3,_⟩:=hb0 _ rfl
       have x4:(zaq v g xr f' k').f=(zaq v g xr f2 k2).f:=by rw [x1]
       simp only [zaq] at x4
       omega
      obtain ⟨_,m5,m6⟩:=H.may hx hb (k:=k') hf'
      simp only at m5 m6
      obtain ⟨_,_,g5⟩:=zoh m5 m6 H.la.1 H.la.2.1
      have hbt:=ypz m2 m3 m5 m6 H.la.1 H.la.2.1 hlc
      have hst:zdt v g cfg xr ⟨lo,hi⟩ f (zcx c v g cfg xr ⟨lo,hi⟩ f) (k+1)=if 0<(zdc G (zbk (zaq v g xr f' k') cfg.la).1).1 then some (zaq v g xr f k) else some (zaq v g xr f' k'):=by
       rw [zl2,w1]
       unfold zhg
       rw [if_pos hm]
       simp only [hbt,← hG,decide_eq_true_eq]
      have oW:WB v g xr cfg.la st.S st.nx (some (zaq v g xr f' k')) B fd := .inr ⟨f',k',o,e,p,e',rfl,w2,w3,o1,o2,p1,p2,hop,hSo,hSp⟩
      obtain ⟨G',hG'⟩ : ∃ G',G'=(zbk (zaq v g xr f' k') cfg.la).1:=⟨_,rfl⟩
      rw [← hG'] at w2 hst g5
      have eC:=zyd G G' (g2.I (by omega)) (g5.I (by omega))
      clear hbt hG hG'
      generalize zdc G G'=CC at *
      obtain ⟨CC,cb⟩:=CC
      obtain ⟨⟨Gn,Gh,Gl⟩,Gd⟩:=G
      obtain ⟨⟨Gn',Gh',Gl'⟩,Gd'⟩:=G'
      simp only [frc,bnd,cfS,List.cons_append,List.nil_append] at eP eC nW w2 hst
      have S4':=S4
      rw [w2] at S4'
      have v14':=v14
      rw [w3] at v14'
      have r1:=fr o2
      have r2:=fr p2
      have r3:=fr o1
      have r4:=fr p1
      by_cases hcc:0<CC
      ·rw [if_pos hcc] at hst
       rw [← hst] at nW
       clear hst oW S4
       generalize zav (v.getD f []) xr k=L1 at *
       generalize zau (v.getD f []) xr k=L2 at *
       simp [-getElem?_pos,znt,v1,v3,v5,v6,v8,v10,v12,v13,v14',S0,S1,S2,S3,S4',v15,v16,ha',hk,hf,hwk,eP,eC,hcc,q0,q1,q2,q3,q4]
       exact za8 (m-1) (by omega) ⟨k+1,_,_,by omega,by simp; omega,by simp [v15],by simp,nW _ _ st.nx st.ep (st.nx+1) st.ep hnx (by simp; omega) (by omega) (by simp) (by omega) (by simp [q0,q1,q2,q3,q4,n4]) (by simp [q0,q1,q2,q3,q4,n3]),by simp [v1],by simp [v3],by simp [v5],by simp [v6],by simp [v8],by simp [v10],by simp [v12],by simp [v13],by simp,by simp [S0,q0,q1,q2,q3,q4],by simp [S1,q0,q1,q2,q3,q4],by simp [S2,q0,q1,q2,q3,q4],by simp [S3,q0,q1,q2,q3,q4],by simp⟩
      ·rw [if_neg hcc] at hst
       rw [← hst] at oW
       clear hst nW
       generalize zav (v.getD f []) xr k=L1 at *
       generalize zau (v.getD f []) xr k=L2 at *
       simp [-getElem?_pos,znt,v1,v3,v5,v6,v8,v10,v12,v13,v14',S0,S1,S2,S3,S4',v15,v16,ha',hk,hf,hwk,eP,eC,hcc,q0,q1,q2,q3,q4]
       exact za8 (m-1) (by omega) ⟨k+1,B,fd,by omega,by simp; omega,by simp [v15],by simp,(oW.up (by simp; omega) (fun o h1 h2=>by
        have a1:=fr h1
        have a2:=fr h2
        simp [a1,a2])),by simp [v1],by simp [v3],by simp [v5],by simp [v6],by simp [v8],by simp [v10],by simp [v12],by simp [v13],by simp [v14],by simp [S0,q0,q1,q2,q3,q4],by simp [S1,q0,q1,q2,q3,q4],by simp [S2,q0,q1,q2,q3,q4],by simp [S3,q0,q1,q2,q3,q4],by simp [S4,q0,q1,q2,q3,q4]⟩
   ·have hke:k=a.length:=by omega
    subst hke
    have hst:zcx c v g cfg xr ⟨lo,hi⟩ (f+1)=zdt v g cfg xr ⟨lo,hi⟩ f (zcx c v g cfg xr ⟨lo,hi⟩ f) a.length:=by rw [zz2,hcd]
    rw [← hst] at hW
    simp [-getElem?_pos,znt,v1,v3,v5,v6,v8,v10,v12,v13,v14,S0,S1,S2,S3,S4,v15,v16,ha',hf,hwf,q0,q1,q2,q3,q4]
    exact za8 (n-1) (by omega) ⟨f+1,B,fd,by omega,by simp; omega,by simp,hW,by simp [v1,v3,v5,v6,v8,v10,v12,v13,v14,S0,S1,S2,S3,S4]⟩
  ·have hfe:f=c.length:=by omega
   subst hfe
   have q0:=fr (by omega:0<st.nx)
   have q1:=fr (by omega:1<st.nx)
   have q2:=fr (by omega:2<st.nx)
   have q3:=fr (by omega:3<st.nx)
   have q4:=fr (by omega:4<st.nx)
   have n4 : ¬ st.nx=4:=by omega
   have n3 : ¬ st.nx=3:=by omega
   have gW:=zfy (g:=g) (rows:=xr) H.gb hr40
   have hb0:=hBf c.length (Nat.le_refl _)
   rcases hW with ⟨w1,w2,w3⟩ | ⟨f',k',o,e,p,e',w1,w2,w3,o1,o2,p1,p2,hop,hSo,hSp⟩
   ·subst w2 w3
    have e1:=zk6 g xr H.gb hx.1 (by omega)
    have e2:=zn3 (zah g xr) cfg.la ⟨lo,hi⟩ gW H.la.1 H.la.2.1
    have hR2:R=[iv (-1),iv 0,iv (za4 (fdv (zah g xr).g ((zah g xr).n+cfg.la)).1 lo hi),.own 4 []]:=by
     rw [hR]
     simp only [zbv,w1,zor,zjn gW H.la.1 H.la.2.1 hb,snC,snL,zeb,if_true]
    rw [hR2]
    clear hR hR2
    generalize za4 (fdv (zah g xr).g ((zah g xr).n+cfg.la)).1 lo hi=V at *
    generalize zah g xr=SW at *
    obtain ⟨wn,wg⟩:=SW
    simp only [slc,bnd] at e1 e2
    simp [-getElem?_pos,zpt,v1,v3,v5,v6,v8,v10,v12,v13,v14,S0,S1,S2,S3,S4,v15,e1,e2,q0,q1,q2,q3,q4]
   ·rw [w1] at hb0
    have hf':f'<c.length∧k'<(c.getD f' []).length:=by
     obtain ⟨f2,k2,x1,_,x3,x6,_⟩:=hb0 _ rfl
     have x4:(zaq v g xr f' k').f=(zaq v g xr f2 k2).f:=by rw [x1]
     have x5:(zaq v g xr f' k').b=(zaq v g xr f2 k2).b:=by rw [x1]
     simp only [zaq] at x4 x5
     have x7:f'=f2:=by omega
     have x8:k'=k2:=by omega
     subst x7 x8
     exact ⟨x3,x6⟩
    obtain ⟨hf',hk'⟩:=hf'
    obtain ⟨a,y,ha,hy,hyl,ha7⟩:=H.at hf'
    have ha':=zee (q:=q) ha
    have hcd:c.getD f' []=a:=by simp [ha]
    have hyd:v.getD f' []=y:=by simp [hy]
    rw [hcd] at hk'
    obtain ⟨u,hu⟩ : ∃ u,a[k']?=some u:=⟨_,List.getElem?_eq_getElem hk'⟩
    have hu':=zcp hu
    obtain ⟨_,gA,gZ⟩:=H.may hx hb (k:=k') hf'
    simp only [zaq,hyd] at gA gZ
    rw [hyd] at hSo hSp w2
    have e1:=zk6 g (zav y xr k') H.gb (fun r hr=>hx.1 r (zoe.1 hr)) (Nat.le_trans (List.length_filter_le _ _) (by omega))
    have e2:=zk6 g (zau y xr k') H.gb (fun r hr=>hx.1 r (zoe.2 hr)) (Nat.le_trans (List.length_filter_le _ _) (by omega))
    have e3:=zn3 (zah g (zav y xr k')) cfg.la ⟨lo,hi⟩ gA H.la.1 H.la.2.1
    have e4:=zn3 (zah g (zau y xr k')) cfg.la ⟨lo,hi⟩ gZ H.la.1 H.la.2.1
    have hsd:zd2 cfg ⟨lo,hi⟩ (zaq v g xr f' k')=(za4 (fdv (zah g (zav y xr k')).g ((zah g (zav y xr k')).n+cfg.la)).1 lo hi,za4 (fdv (zah g (zau y xr k')).g ((zah g (zau y xr k')).n+cfg.la)).1 lo hi,true):=by
     unfold zd2 zaq
     simp only [hyd,zjn gA H.la.1 H.la.2.1 hb,zjn gZ H.la.1 H.la.2.1 hb,Bool.and_self,if_true]
    have hK1:ze7 c v cfg ⟨xr,⟨lo,hi⟩,xl⟩ (zaq v g xr f' k')=⟨zav y xr k',(zd9 (zdl cfg f') ⟨lo,hi⟩ (za4 (fdv (zah g (zav y xr k')).g ((zah g (zav y xr k')).n+cfg.la)).1 lo hi) (za4 (fdv (zah g (zau y xr k')).g ((zah g (zau y xr k')).n+cfg.la)).1 lo hi)).1,xl+1⟩:=by
     unfold ze7
     rw [hsd]
     have:atI v (f':Int)=some y:=by unfold atI; simp [hy]
     simp only [zaq,this,Option.getD_some]
    have hK2:ze6 c v cfg ⟨xr,⟨lo,hi⟩,xl⟩ (zaq v g xr f' k')=⟨zau y xr k',(zd9 (zdl cfg f') ⟨lo,hi⟩ (za4 (fdv (zah g (zav y xr k')).g ((zah g (zav y xr k')).n+cfg.la)).1 lo hi) (za4 (fdv (zah g (zau y xr k')).g ((zah g (zau y xr k')).n+cfg.la)).1 lo hi)).2,xl+1⟩:=by
     unfold ze6
     rw [hsd]
     have:atI v (f':Int)=some y:=by unfold atI; simp [hy]
     simp only [zaq,this,Option.getD_some]
    have i1:=ih _ (zww (c:=c) (v:=v) (k:=zaq v g xr f' k') hx hlv).1 (by unfold ze7; exact (zxb hb).1) (by simp only [ze7]; omega)
    have i2:=ih _ (zww (c:=c) (v:=v) (k:=zaq v g xr f' k') hx hlv).2 (by unfold ze6; exact (zxb hb).2) (by simp only [ze6]; omega)
    have hcut:(atI ((atI c (f':Int)).getD []) (k':Int)).getD 0=u:=by
     have:atI c (f':Int)=some a:=by unfold atI; simp [ha]
     rw [this]
     unfold atI
     simp [hu]
    have hR2:R=snC true (.mk f' u 0 [zbv c v g cfg N (ze7 c v cfg ⟨xr,⟨lo,hi⟩,xl⟩ (zaq v g xr f' k')),zbv c v g cfg N (ze6 c v cfg ⟨xr,⟨lo,hi⟩,xl⟩ (zaq v g xr f' k'))]):=by
     rw [hR]
     simp only [zbv,w1]
     congr 2
    rw [hK1,hK2] at hR2
    rw [hK1] at i1
    rw [hK2] at i2
    rw [hR2]
    clear hR hR2 hK1 hK2 hsd
    have e5:=z5s cfg f' (by have:=H.sg; omega)
    obtain ⟨b1,b2⟩:=z6c hb
    have e6:=ykb (zdl cfg f') ⟨lo,hi⟩ (za4 (fdv (zah g (zav y xr k')).g ((zah g (zav y xr k')).n+cfg.la)).1 lo hi) (za4 (fdv (zah g (zau y xr k')).g ((zah g (zau y xr k')).n+cfg.la)).1 lo hi) (zwm b1 b2) (zwm b1 b2)
    have hx3:=hx.2.2.1
    simp only at hx3
    have wl:=w64 (x:=xl+1) (by omega) (by have:=H.la; omega)
    subst w2 w3
    generalize za4 (fdv (zah g (zav y xr k')).g ((zah g (zav y xr k')).n+cfg.la)).1 lo hi=V1 at *
    generalize za4 (fdv (zah g (zau y xr k')).g ((zah g (zau y xr k')).n+cfg.la)).1 lo hi=V2 at *
    generalize zdl cfg f'=SG at *
    generalize zd9 SG ⟨lo,hi⟩ V1 V2=SB at *
    obtain ⟨⟨l1,h1⟩,⟨l2,h2⟩⟩:=SB
    simp only at i1 i2 e6
    generalize zbv c v g cfg N ⟨zav y xr k',⟨l1,h1⟩,xl+1⟩=T1 at *
    generalize zbv c v g cfg N ⟨zau y xr k',⟨l2,h2⟩,xl+1⟩=T2 at *
    obtain ⟨t11,t12,t13,t14⟩:=T1
    obtain ⟨t21,t22,t23,t24⟩:=T2
    generalize (zbk (zaq v g xr f' k') cfg.la).1=G at *
    obtain ⟨⟨Gn,Gh,Gl⟩,Gd⟩:=G
    generalize zah g (zav y xr k')=SA at *
    generalize zah g (zau y xr k')=SZ at *
    obtain ⟨an,ag⟩:=SA
    obtain ⟨zn,zg⟩:=SZ
    generalize zav y xr k'=L1 at *
    generalize zau y xr k'=L2 at *
    have r1:=fr o2
    have r2:=fr p2
    have r3:=fr o1
    have r4:=fr p1
    have hop' : ¬ p=o:=fun h=>hop h.symm
    have hfl:f'<c.length:=hf'
    have hr2:zb7 48 2=true:=by decide
    simp only [slc,bnd,cfS,zqq,snC,snL,zeb,if_true,frc,List.cons_append,List.nil_append] at *
    clear hBf hb0 w1 gA gZ gW ih
    simp [-getElem?_pos,zpt,v1,v3,v5,v6,v8,v10,v12,v13,v14,S0,S1,S2,S3,S4,v15,e1,e2,e3,e4,e5,e6,i1,i2,wl,ha',hu',hk',hfl,hSo,hSp,hop,hop',r1,r2,r3,r4,zbc,hr2,q0,q1,q2,q3,q4]
def NB (acc:Option Cnd) (B:List PV) (fd:PV):Prop:=(acc=none∧B=cnd zob∧fd=bv false)∨∃ x,acc=some x∧B=cnd x∧fd=bv true
abbrev zqf (q:Bool) (c v:List (List Int)) (g:List Int) (cfg:Cfg) (x:Pnd):List PV:=[.agg [.sl 1 (rws q c),.sl 1 (rws q v),.sl 1 (zaf g),iv cfg.ro,iv cfg.de,iv cfg.bi,iv cfg.la,iv cfg.rw,iv cfg.nu,iv cfg.dn,.sl 1 (zaf cfg.sg)],.sl 1 (zaf x.r),.agg (bnd x.b),iv x.l]
theorem z0j {v:List (List Int)} {g rows:List Int} {f k:Nat} (hf:f≤4) (hk:k≤7) (ha:gS (zaq v g rows f k).a) (hz:gS (zaq v g rows f k).z):zh0 (zaq v g rows f k):=by
 refine ⟨?_,?_,zxd ha,zxd hz⟩ <;> simp only [zaq,inI] <;> omega
end Go.Pe
