/- What each function answers by the evaluator,and the law; for each answer its own conditions stand ahead of it. -/
import Derived.Test.YtdebkglpapjeiaaK0
import Derived.Test.YtdebkglpapjeiaaEvB2
import Derived.IntWalk
set_option linter.all false
namespace Go.Pe
open Go
theorem w64 {x:Int} (h1 : -9223372036854775808≤x) (h2:x≤9223372036854775807):IntKind.i64.wrap x=x:=IntWalk.i64_in x ⟨h1,h2⟩
@[simp] theorem z5v {x:Int} (h1 : -9223372036854775808≤x) (h2:x≤9223372036854775807):IntKind.i64.wrap x=x:=w64 h1 h2
structure Nd where
 f:Int
 c:Int
 l:Int
 r:Int
 v:Int
deriving DecidableEq
def nd (n:Nd):List PV:=[iv n.f,iv n.c,iv n.l,iv n.r,iv n.v]
@[simp] theorem z1h (a b c d e:Int):RUN T zhr [.agg [iv a,iv b,iv c,iv d,iv e],.agg [iv a,iv b,iv c,iv d,iv e]]=some ([bv true],[]):=by
 refine zcj zoa rfl ?_
 simp [zkh,zki]
def zwg {α:Type} (p:α→Bool) (l:List α):Int:=match l.findIdx? p with
 | some i=>(i:Int)
 | none => -1
def zrr (k:Int) (n:Nd):Bool := !decide (n.f = -1) && (decide (n.l=k) || decide (n.r=k))
def par (t:List Nd) (k:Int):Int:=zwg (zrr k) t
theorem wS {i n:Nat} (h:i<n) (hn:n≤9223372036854775807):IntKind.i64.wrap ((i:Int)+1)=(i:Int)+1:=w64 (by omega) (by omega)
def fil {α β:Type} (f:α→β) (z:β) (l:List α) (i:Nat):List β:=(l.take i).map f++List.replicate (l.length-i) z
theorem zz4 {α β:Type} {f:α→β} {l:List α} {z:β} {i:Nat} {x:α} (hx:l[i]?=some x):(fil f z l i).set i (f x)=fil f z l (i+1):=by
 unfold fil
 obtain ⟨h1,h2⟩:=List.getElem?_eq_some_iff.mp hx
 apply List.ext_getElem?
 intro j
 rw [List.getElem?_set]
 simp only [List.length_append,List.length_map,List.length_take,List.length_replicate]
 by_cases e:i=j
 ·subst e
  rw [if_pos rfl,if_pos (by omega),List.getElem?_append_left (by simp; omega)]
  simp [List.getElem?_take,hx]
 ·rw [if_neg e]
  by_cases hj:j<i
  ·rw [List.getElem?_append_left (by simp; omega),List.getElem?_append_left (by simp; omega)]
   simp [List.getElem?_take,hj,show j<i+1 by omega]
  ·rw [List.getElem?_append_right (by simp; omega),List.getElem?_append_right (by simp; omega)]
   simp [List.getElem?_replicate]
   congr 1
   simp; omega
theorem zw6 {α β:Type} {f:α→β} {l:List α} {z:β} {i:Nat} (h:i<l.length):(fil f z l i)[i]?=some z:=by
 unfold fil
 rw [List.getElem?_append_right (by simp; omega)]
 simp [List.getElem?_replicate]; omega
theorem zzg {α β:Type} {f:α→β} {l:List α} {z:β} {i:Nat} (h:i≤l.length):(fil f z l i).length=l.length:=by unfold fil; simp; omega
theorem zvj {α β:Type} {f:α→β} {l:List α} {z:β}:fil f z l 0=List.replicate l.length z:=by simp [fil]
theorem zwd {α β:Type} {f:α→β} {l:List α} {z:β} {i:Nat} (h:i=l.length):fil f z l i=l.map f:=by subst h; simp [fil]
theorem zuk (t:List Nd) (hl:t.length≤9223372036854775807):RUN T zho [.sl 5 (t.map nd),.sl 5 (t.map nd)]=some ([bv true],[]):=by
 refine zcj zn6 rfl ?_
 simp [zj9,zka]
 refine zfm (fun n st => ∃ i:Nat,i+n=t.length∧st.V 0 = .sl 5 (t.map nd)∧st.V 1 = .sl 5 (t.map nd)∧st.V 5=iv i) ?_ t.length _ ⟨0,by simp⟩
 rintro n st ⟨i,hi,h0,h1,h5⟩
 simp [znt,h0,h1,h5]
 refine zqk (fun h => ?_) (fun h => ?_)
 ·simp at h
  obtain ⟨x,hx⟩ : ∃ x,t[i]?=some x:=⟨_,List.getElem?_eq_getElem h⟩
  have hw:=wS h hl
  simp [-getElem?_pos,h0,h1,h5,h,hx,nd,hw]
  exact zcw (n-1) (by omega) ⟨i+1,by omega,by simp [h0],by simp [h1],by simp⟩
 ·simp
theorem zul (t:List Nd) (hl:t.length≤9223372036854775807):RUN T zf8 [.agg [.sl 5 (t.map nd)],.agg [.sl 5 (t.map nd)]]=some ([bv true],[]):=by
 refine zcj zn0 rfl ?_
 simp [zjw,zjx,zuk t hl]
def zhe (l:List Int):List (List PV):=l.map fun n=>[iv n]
@[simp] theorem yge (l:List Int):(zhe l).length=l.length:=by simp [zhe]
@[simp] theorem z6i:zhe []=[]:=rfl
def anc (t:List Nd):Nat→Int→Option (List Int)
 | 0,_=>none
 | n+1,k=>if par t k<0 then some [] else (anc t n (par t k)).map (par t k :: ·)
def way (t:List Nd) (k:Int):List Int:=if 0≤k∧k≤t.length-1 then match anc t 32 k with
  | some l=>(k::l).reverse
  | none=>[]
 else []
def mix {β:Type} (f:Nat→β) (l:List β) (i:Nat):List β:=(List.range i).map f++l.drop i
theorem zor {β:Type} {f:Nat→β} {l:List β}:mix f l 0=l:=by simp [mix]
theorem zst {β:Type} {f:Nat→β} {l:List β} {i:Nat} (h:i=l.length):mix f l i=(List.range i).map f:=by subst h; simp [mix]
theorem zpm {β:Type} {f:Nat→β} {l:List β} {i:Nat} (h:i≤l.length):(mix f l i).length=l.length:=by simp [mix]; omega
theorem zo3 {β:Type} {f:Nat→β} {l:List β} {i:Nat}:(mix f l i)[i]?=l[i]?:=by
 unfold mix
 rw [List.getElem?_append_right (by simp)]
 simp
theorem ztc {β:Type} {f:Nat→β} {l:List β} {i:Nat} (h:i<l.length):(mix f l i).set i (f i)=mix f l (i+1):=by
 unfold mix
 apply List.ext_getElem?
 intro j
 rw [List.getElem?_set]
 simp only [List.length_append,List.length_map,List.length_range,List.length_drop]
 by_cases e:i=j
 ·subst e
  rw [if_pos rfl,if_pos (by omega),List.getElem?_append_left (by simp)]
  simp
 ·rw [if_neg e]
  by_cases hj:j<i
  ·rw [List.getElem?_append_left (by simp; omega),List.getElem?_append_left (by simp; omega)]
   simp [hj,show j<i+1 by omega]
  ·rw [List.getElem?_append_right (by simp; omega),List.getElem?_append_right (by simp; omega)]
   simp
   congr 1
   omega
def upto (k:Int) (n:Nat):List Int:=(List.range n).map fun (i:Nat)=>k+(i:Int)
@[simp] theorem yec (k:Int) (n:Nat):(upto k n).length=n:=by simp [upto]
def zco (k:Int) (n:Nat):List Nd:=(List.range n).map fun (i:Nat)=>⟨k+5*(i:Int),k+5*(i:Int)+1,k+5*(i:Int)+2,k+5*(i:Int)+3,k+5*(i:Int)+4⟩
theorem zum (t:List Nd) (k:Int) (h0:0≤k) (hk:k+5*t.length≤9223372036854775806):RUN T zhp [.own 5 (t.map nd),iv k]=some ([iv (k+5*t.length)],[.own 5 ((zco k t.length).map nd)]):=by
 refine zcj zn8 rfl ?_
 simp [zkd,zke]
 obtain ⟨f,hf⟩ : ∃ f:Nat→List PV,f=fun (j:Nat)=>[iv (k+5*(j:Int)),iv (k+5*(j:Int)+1),iv (k+5*(j:Int)+2),iv (k+5*(j:Int)+3),iv (k+5*(j:Int)+4)]:=⟨_,rfl⟩
 refine zfm (fun n st => ∃ i:Nat,i+n=t.length∧st.V 0 = .ref 0 none 0 0 t.length∧st.V 1=iv (k+5*i)∧st.V 5=iv i∧st.ep=0∧st.S 0=some (.row 5 (mix f (t.map nd) i))) ?_ t.length _ ⟨0,by simp [zor]⟩
 rintro n st ⟨i,hi,h0,h1,h5,hep,hS⟩
 simp [znu,h0,h1,h5,hS]
 refine zqk (fun h => ?_) (fun h => ?_)
 ·simp at h
  obtain ⟨x,hx⟩ : ∃ x,t[i]?=some x:=⟨_,List.getElem?_eq_getElem h⟩
  have hw:=wS h (by omega:t.length≤9223372036854775807)
  have w1:IntKind.i64.wrap (k+5*(i:Int)+1)=k+5*(i:Int)+1:=w64 (by omega) (by omega)
  have w2:IntKind.i64.wrap (k+5*(i:Int)+1+1)=k+5*(i:Int)+2:=by rw [w64 (by omega) (by omega)]; omega
  have w3:IntKind.i64.wrap (k+5*(i:Int)+2+1)=k+5*(i:Int)+3:=by rw [w64 (by omega) (by omega)]; omega
  have w4:IntKind.i64.wrap (k+5*(i:Int)+3+1)=k+5*(i:Int)+4:=by rw [w64 (by omega) (by omega)]; omega
  have w5:IntKind.i64.wrap (k+5*(i:Int)+4+1)=k+5*((i:Int)+1):=by rw [w64 (by omega) (by omega)]; omega
  have hx':(t.map nd)[i]?=some (nd x):=by simp [hx]
  have hg:=(zo3 (f:=f) (l:=t.map nd) (i:=i)).trans hx'
  have hs:=ztc (f:=f) (l:=t.map nd) (i:=i) (by simpa using h)
  have hfi:f i=[iv (k+5*(i:Int)),iv (k+5*(i:Int)+1),iv (k+5*(i:Int)+2),iv (k+5*(i:Int)+3),iv (k+5*(i:Int)+4)]:=by rw [hf]
  rw [hfi] at hs
  have hl:=zpm (f:=f) (l:=t.map nd) (i:=i) (by simp; omega)
  simp at hl
  simp [-getElem?_pos,h0,h1,h5,hS,hep,h,hg,hs,hl,hw,w1,w2,w3,w4,w5,nd]
  exact zcw (n-1) (by omega) ⟨i+1,by omega,by simp [h0],by simp,by simp,by simp,by simp⟩
 ·simp at h
  have e:=zst (f:=f) (l:=t.map nd) (i:=i) (by simp; omega)
  have e2:i=t.length:=by omega
  subst e2
  simp [hS,e,h1]
  simp [zco,hf,Function.comp_def,nd]
theorem zun (t:List Nd) (k:Int) (h0:0≤k) (hk:k+5*t.length≤9223372036854775806):RUN T zhk [.agg [.own 5 (t.map nd)],iv k]=some ([iv (k+5*t.length)],[.own 5 ((zco k t.length).map nd)]):=by
 refine zcj zn2 rfl ?_
 have e:=zum t k h0 hk
 simp [zj0,zj1,e,zco]
def box (t:List Nd) (f:Int):List Int→Int→Int→Int×Int
 | a::b::r,lo,hi=>match t[a.toNat]? with
  | none=>(lo,hi)
  | some x=>if x.f=f then (if x.l=b then box t f (b::r) lo (min hi x.c) else if x.c=9223372036854775807 then box t f (b::r) lo hi else box t f (b::r) (max lo (x.c+1)) hi) else box t f (b::r) lo hi
 | _,lo,hi=>(lo,hi)
structure Cfg where
 ro:Int
 de:Int
 bi:Int
 la:Int
 rw:Int
 nu:Int
 dn:Int
 sg:List Int
def zbk (n a b:Int):Bool:=decide (a≤n) && decide (n≤b)
def ziy (c:Cfg):Bool:=zbk c.ro 1 8 && zbk c.de 0 4 && zbk c.bi 2 8 && zbk c.la 1 100 && zbk c.rw 1 20 && zbk c.dn 1 1000 && zbk c.nu 1 c.dn && decide ((c.sg.length:Int)≤4) && c.sg.all fun n=>zbk n (-1) 1
def fdv (a b:Int):Int×Bool:=if b=0∨(b = -1∧a = -9223372036854775808) then (0,false) else (a.fdiv b,true)
theorem zpi {n a b:Int}:zbk n a b=true↔a≤n∧n≤b:=by simp [zbk]
def zsy (v:Int):Bool:=zbk v (-1099511627776) 1099511627776
def zww (n:Int):Bool:=zbk n (-2147483647) 2147483647
def adj (p:Int→Int→Bool):List Int→Bool
 | a::b::r=>p a b || adj p (b::r)
 | _=>false
def cel (q:Bool) (l:List Int):PV:=if q then .own 1 (zhe l) else .sl 1 (zhe l)
@[simp] theorem z7i (q:Bool) (l:List Int):fz (cel q l) = .sl 1 (zhe l):=by cases q <;> simp [cel]
def rws (q:Bool) (L:List (List Int)):List (List PV):=L.map fun l=>[cel q l]
@[simp] theorem ycy (q:Bool) (L:List (List Int)):(rws q L).length=L.length:=by simp [rws]
def zyz (l:List Int):Bool := !adj (fun a b=>decide (b≤a)) l && l.all zww && decide ((l.length:Int)≤7)
def zkp:List (List Int)→Nat
 | []=>0
 | l::_=>l.length
theorem zo4 {s:St} {d:Option Dst} {op:IOp} {g:Opd} {v:Bool} {x:PV}:(yv s ⟨d,op,some (g,v)⟩=some x)=(Ob' (zeq v (g.get s)) fun t=>Br t (WI (fun _=>[]) (fun _ _=>none) op s (fun y _=>y=x)) (PV.v Go.undef=x)):=by
 simp only [yv,zrl,WI,Ob',Br,Option.map_eq_some_iff,Option.bind_eq_some_iff,eq_iff_iff]
 constructor
 ·rintro ⟨⟨y,s'⟩,⟨t,h1,h2⟩,h3⟩
  refine ⟨t,h1,fun ht => ?_,fun ht => ?_⟩ <;> subst ht
  ·exact ⟨y,s',by simpa using h2,h3⟩
  ·simp at h2; obtain ⟨rfl,rfl⟩:=h2; exact h3
 ·rintro ⟨t,h1,h2,h3⟩
  cases t with
  | true=>obtain ⟨y,s',h4,h5⟩:=h2 rfl; exact ⟨(y,s'),⟨true,h1,by simpa using h4⟩,h5⟩
  | false=>exact ⟨_,⟨false,h1,rfl⟩,h3 rfl⟩
@[simp] theorem z2i {s:St} {d:Option Dst} {op:IOp} {g:Opd} {v:Bool} {x:PV} {n:Nat} {r:List (zaa×PV×Nat)}:zbb s ((⟨d,op,some (g,v)⟩,x,n+1)::r)=((Ob' (zeq v (g.get s)) fun t=>Br t (WI (fun _=>[]) (fun _ _=>none) op s (fun y _=>y=x)) (PV.v Go.undef=x))∧zbb s r):=by
 simp only [zbb,zo4]
@[simp] theorem z8h {V E:Nat→PV} {d:Option Dst} {op:IOp} {g:Opd} {v:Bool} {x:PV} {n:Nat} {s:St} {ms:List St}:zap V E ⟨d,op,some (g,v)⟩ x (n+1) (s::ms)=((Ob' (zeq v (g.get { s with V:=V,E:=E })) fun t=>Br t (WI (fun _=>[]) (fun _ _=>none) op { s with V:=V,E:=E } (fun y _=>y=x)) (PV.v Go.undef=x))∧zap V E ⟨d,op,some (g,v)⟩ x n ms):=by
 simp only [zap,zo4]
def zve (c v:List (List Int)) (f:Nat):Bool:=match c[f]?,v[f]? with
 | some a,some b=>zyz a && decide ((b.length:Int)=zkp v) && b.all fun x=>zbk x 0 a.length
 | _,_=>true
def zm4 (c v:List (List Int)):Bool:=zbk c.length 1 4 && decide ((v.length:Int)=c.length) && zbk (zkp v) 1 40 && (List.range c.length).all (zve c v)
def zzf (x:Int):Bool:=zbk x (-2199023255552) 2199023255552
def zla (c v:List (List Int)) (lab:List Int) (g:Cfg):Bool:=zm4 c v && ziy g && decide ((lab.length:Int)=zkp v) && lab.all zzf
theorem zwr {P:Program} {l:List TypeId} (h:(l.all fun t=>P.readableRec t && decide (t<P.types.size))=true) : ∀ t∈l,P.readableRec t=true∧t<P.types.size:=by
 intro t ht
 have:=List.all_eq_true.mp h t ht
 simpa using this
theorem zv0 {p:Bool×List TY} {pvs:List PV} (h:zbx (fun p c=>zhg p.1 p.2 c) [p] pvs) : ∃ a,pvs=[a]∧zhg p.1 p.2 a:=by
 cases h with
 | cons h1 t=>cases t with
  | nil=>exact ⟨_,rfl,h1⟩
def zsi (B:List Int):List (List PV):=B.map fun n=>[.v (.int .u8 n)]
@[simp] theorem ych (B:List Int):(zsi B).length=B.length:=by simp [zsi]
def zkt (rv:List RV) (io:Nat) (G:List PV×List PV→Prop) (_:Dm rv) (_:Dm G) (e:Ex) (s:St):Prop:=(e = .normal∨e = .ret)∧∃ r,zdy ⟨[],rv,.skip⟩ io s=some r∧G r
@[simp] theorem yhb {rv:List RV} {io:Nat} {G:List PV×List PV→Prop} {s:St}:zkt rv io G ⟨⟩ ⟨⟩ .normal s = ∃ r,zdy ⟨[],rv,.skip⟩ io s=some r∧G r:=by simp [zkt]
@[simp] theorem z8j {rv:List RV} {io:Nat} {G:List PV×List PV→Prop} {s:St}:zkt rv io G ⟨⟩ ⟨⟩ .ret s = ∃ r,zdy ⟨[],rv,.skip⟩ io s=some r∧G r:=by simp [zkt]
def adi (a b:Int):Int×Bool:=if -9223372036854775808≤a+b∧a+b≤9223372036854775807 then (a+b,true) else (0,false)
def sbi (a b:Int):Int×Bool:=if -9223372036854775808≤a-b∧a-b≤9223372036854775807 then (a-b,true) else (0,false)
def sv (s:ByteArray):PV := .v (.string s)
def zi5 (l:List ByteArray):List (List PV):=l.map fun s=>[.v (.string s)]
@[simp] theorem z9b (l:List ByteArray):(zi5 l).length=l.length:=by simp [zi5]
def zm1 (q:Bool) (t:List Nd):PV:=if q then .own 5 (t.map nd) else .sl 5 (t.map nd)
@[simp] theorem ygb (q:Bool) (t:List Nd):fz (zm1 q t) = .sl 5 (t.map nd):=by cases q <;> simp [zm1]
def trs (q:Bool) (M:List (List Nd)):List (List PV):=M.map fun t=>[zm1 q t]
@[simp] theorem ybn (q:Bool) (M:List (List Nd)):(trs q M).length=M.length:=by simp [trs]
def rwS (q:Bool) (l:List ByteArray):PV:=if q then .own 1 (zi5 l) else .sl 1 (zi5 l)
@[simp] theorem ydx (q:Bool) (l:List ByteArray):fz (rwS q l) = .sl 1 (zi5 l):=by cases q <;> simp [rwS]
def zp4 (q:Bool) (L:List (List ByteArray)):List (List PV):=L.map fun l=>[rwS q l]
@[simp] theorem z3m (q:Bool) (L:List (List ByteArray)):(zp4 q L).length=L.length:=by simp [zp4]
def zzj (p:Nat→Bool) (i:Nat):List Int:=((List.range i).filter p).map fun (j:Nat)=>(j:Int)
@[simp] theorem z1i (p:Nat→Bool):zzj p 0=[]:=rfl
structure Wd where
 n:Bool
 h:Int
 l:Int
deriving DecidableEq
def wok (w:Wd):Bool:=decide (w.h<9223372036854775808) && (!w.n || decide (0<w.h) || decide (0<w.l))
def mag (w:Wd):Int:=w.h*18446744073709551616+w.l
def mkW (n:Bool) (m:Int):Wd:=⟨n && decide (0<m),m / 18446744073709551616,m % 18446744073709551616⟩
def zh2:Wd:=⟨false,0,0⟩
def zmm (a b:Int):Int:=if a<b then -1 else if b<a then 1 else 0
def zrq (a b:Wd):Int:=if zmm a.h b.h=0 then zmm a.l b.l else zmm a.h b.h
def zvp (a b:Int):Wd:=mkW (decide (a<0) != decide (b<0)) ((a.natAbs:Int)*b.natAbs)
def zhz (w:Wd):Int:=if w.n then -mag w else mag w
def zrt (a b:Wd):Wd×Bool :=
 if wok a && wok b then
  if ((zhz a+zhz b).natAbs:Int)<170141183460469231731687303715884105728 then (mkW (decide (zhz a+zhz b<0)) (zhz a+zhz b).natAbs,true) else (zh2,false)
 else (zh2,false)
def zk6 (w:Wd) (k:Int):Wd×Bool:=if wok w=true∧mag w*k.natAbs<170141183460469231731687303715884105728 then (mkW (w.n != decide (k<0)) (mag w*k.natAbs),true) else (zh2,false)
def zmu (w:Wd):Bool:=w.n && !(decide (w.h=0) && decide (w.l=0))
def zzr (a b:Wd):Int:=if zmu a=true then (if zmu b=true then zrq b a else -1) else (if zmu b=true then 1 else zrq a b)
def zs7 (t:List Nd) (k:Nat) (f c a b:Int):List Nd:=t.set k ⟨f,c,t.length,t.length+1,0⟩++[⟨-1,0,0,0,a⟩,⟨-1,0,0,0,b⟩]
def pos (x:Int) (l:List Int):Nat→Nat
 | 0=>0
 | k+1=>if x<l.getD k 0 then pos x l k else k+1
def zte (x:Int) (l:List Int) (k P:Nat):Prop:=pos x l k=P
theorem zte.z {x:Int} {l:List Int} {P:Nat} (h:zte x l 0 P):0=P:=h
structure Sl where
 n:Int
 g:Int
deriving DecidableEq
def slc (x:Sl):List PV:=[iv x.n,iv x.g]
def ziu (l:List Sl):List (List PV):=l.map slc
@[simp] theorem z2h (l:List Sl):(ziu l).length=l.length:=by simp [ziu]
def zfh (a b:Sl):Sl×Bool:=if ((adi a.n b.n).2 && (adi a.g b.g).2)=true then (⟨(adi a.n b.n).1,(adi a.g b.g).1⟩,true) else (⟨0,0⟩,false)
def atI {α:Type} (l:List α) (i:Int):Option α:=if 0≤i then l[i.toNat]? else none
def zqr (b g:List Int):List Int→List Sl→Option (List Sl)
 | [],h=>some h
 | r::rs,h=>match atI b r,atI g r with
  | some x,some y=>match atI h x with
   | some s=>if (zfh s ⟨1,y⟩).2=true then zqr b g rs (h.set x.toNat (zfh s ⟨1,y⟩).1) else none
   | none=>none
  | _,_=>none
def zsu (b g rows:List Int) (k:Int):List Sl×Bool:=if zbk k 1 8=true then match zqr b g rows (List.replicate k.toNat ⟨0,0⟩) with
  | some h=>(h,true)
  | none=>([],false)
 else ([],false)
def znb (q:Bool) (l:List Sl):PV:=if q then .own 2 (ziu l) else .sl 2 (ziu l)
@[simp] theorem z61 (q:Bool) (l:List Sl):fz (znb q l) = .sl 2 (ziu l):=by cases q <;> simp [znb]
def rss (q:Bool) (H:List (List Sl)):List (List PV):=H.map fun l=>[znb q l]
@[simp] theorem ya2 (q:Bool) (H:List (List Sl)):(rss q H).length=H.length:=by simp [rss]
def zo5 (g rows:List Int):List (List Int)→List (List Int)→Option (List (List Sl))
 | x::c,y::v=>if (zsu y g rows (x.length+1)).2=true then (zo5 g rows c v).map ((zsu y g rows (x.length+1)).1 :: ·) else none
 | _,_=>some []
def zro (c v:List (List Int)) (g rows:List Int):List (List Sl)×Bool:=if zm4 c v=true then match zo5 g rows c v with
  | some h=>(h,true)
  | none=>([],false)
 else ([],false)
def zrd (k:Int) (n:Nat):List Sl:=(List.range n).map fun (i:Nat)=>⟨k+2*(i:Int),k+2*(i:Int)+1⟩
@[simp] theorem z59 (k:Int) (n:Nat):(zrd k n).length=n:=by simp [zrd]
structure Fr where
 w:Wd
 d:Int
def frB (f:Fr):Bool:=wok f.w && zbk f.d 1 1000000
def zi2:Fr:=⟨zh2,0⟩
def zpd (w:Wd) (d:Int):Fr×Bool:=if frB ⟨w,d⟩=true then (⟨w,d⟩,true) else (zi2,false)
def zgh (a b:Fr):Wd×Wd×Bool:=if (frB a && frB b)=true then ((zk6 a.w b.d).1,(zk6 b.w a.d).1,(zk6 a.w b.d).2 && (zk6 b.w a.d).2) else (zh2,zh2,false)
def zje (a b:Fr):Int×Bool:=if (zgh a b).2.2=true then (zzr (zgh a b).1 (zgh a b).2.1,true) else (0,false)
def zv8 (a b:Fr):Fr×Bool:=if (zgh a b).2.2=true then (if (zrt (zgh a b).1 (zgh a b).2.1).2=true then zpd (zrt (zgh a b).1 (zgh a b).2.1).1 (a.d*b.d) else (zi2,false)) else (zi2,false)
structure Cnd where
 f:Int
 b:Int
 a:Sl
 z:Sl
deriving DecidableEq
def cnd (c:Cnd):List PV:=[iv c.f,iv c.b,iv c.a.n,iv c.a.g,iv c.z.n,iv c.z.g]
structure Bd where
 lo:Int
 hi:Int
def zwk (b:Bd):Bool:=decide (b.lo≤b.hi) && zsy b.lo && zsy b.hi
def zwh (x lo hi:Int):Int:=if x<lo then lo else if hi<x then hi else x
def zsr (n l:Int):Bool:=zbk n 0 40 && zbk l 1 100
def zk4 (s:Sl) (l:Int) (b:Bd):Int×Bool:=if (zsr s.n l && zwk b)=true then (zwh (fdv s.g (s.n+l)).1 b.lo b.hi,true) else (0,false)
def zgs (s:Sl) (l:Int):Fr×Bool:=if zsr s.n l=true then zpd (zvp s.g s.g) (s.n+l) else (zi2,false)
def zem (c:Cnd) (l:Int):Fr×Bool:=if ((zgs c.a l).2 && (zgs c.z l).2)=true then zv8 (zgs c.a l).1 (zgs c.z l).1 else (zi2,false)
def zmb (c:Cfg) (b:Bd) (x:Cnd):Int×Int×Bool:=if ((zk4 x.a c.la b).2 && (zk4 x.z c.la b).2)=true then ((zk4 x.a c.la b).1,(zk4 x.z c.la b).1,true) else (0,0,false)
def zz2 (c:Cfg) (f:Int):Int:=(atI c.sg f).getD 0
def zyf (s l r:Int):Bool:=if s=1 then decide (l≤r) else if s = -1 then decide (r≤l) else true
def zw3 (x:Cnd) (l:Int):Bool:=(zem x l).2 && ((zfh x.a x.z).2 && ((zgs (zfh x.a x.z).1 l).2 && ((zje (zem x l).1 (zgs (zfh x.a x.z).1 l).1).2 && decide (0<(zje (zem x l).1 (zgs (zfh x.a x.z).1 l).1).1))))
def zxm (a b:Cnd):Bool:=decide (a.f<b.f) || (decide (a.f=b.f) && decide (a.b<b.b))
def zyu (a b:Cnd) (l:Int):Bool:=(zem a l).2 && ((zem b l).2 && ((zje (zem a l).1 (zem b l).1).2 && (decide (0<(zje (zem a l).1 (zem b l).1).1) || (decide ((zje (zem a l).1 (zem b l).1).1=0) && zxm a b))))
def zp0 (c:Cfg) (b:Bd) (x:Cnd):Bool:=ziy c && ((zmb c b x).2.2 && (decide (c.rw≤x.a.n) && (decide (c.rw≤x.z.n) && (zyf (zz2 c x.f) (zmb c b x).1 (zmb c b x).2.1 && zw3 x c.la))))
def zpk (l:List Cnd):List (List PV):=l.map cnd
@[simp] theorem ybg (l:List Cnd):(zpk l).length=l.length:=by simp [zpk]
def noB (c:Cfg) (b:Bd) (x y:Cnd):Bool := !zp0 c b y || !zyu y x c.la
def zwb (c:Cfg) (b:Bd) (l:List Cnd) (x:Cnd):Bool:=zp0 c b x && l.all (noB c b x)
def znf:Cnd:=⟨0,0,⟨0,0⟩,⟨0,0⟩⟩
def zvm (c:Cfg) (b:Bd) (l:List Cnd):Cnd×Bool:=match l.find? (zwb c b l) with
 | some x=>(x,true)
 | none=>(znf,false)
def zmr (a b:Sl):Sl×Bool:=if ((sbi a.n b.n).2 && (sbi a.g b.g).2)=true then (⟨(sbi a.n b.n).1,(sbi a.g b.g).1⟩,true) else (⟨0,0⟩,false)
def zoo (s:Sl):List Sl→Option (List Sl)
 | []=>some []
 | x::xs=>if (zfh s x).2=true then (zoo (zfh s x).1 xs).map ((zfh s x).1 :: ·) else none
def zlz (h:List Sl):List Sl×Bool:=match zoo ⟨0,0⟩ h with
 | some l=>(l,true)
 | none=>([],false)
def zqy (f:Int) (all:Sl) (least:Int):Int→List Sl→List Cnd→Option (List Cnd)
 | b,x::y::xs,acc=>if (zmr all x).2=true then zqy f all least (b+1) (y::xs) (if least≤x.n∧least≤(zmr all x).1.n then acc++[⟨f,b,x,(zmr all x).1⟩] else acc) else none
 | _,_,acc=>some acc
def zy3 (l:List Sl):Sl:=l.getLast?.getD ⟨0,0⟩
def zqp (least:Int):Int→List (List Sl)→List Cnd→Option (List Cnd)
 | _,[],acc=>some acc
 | f,h::hs,acc=>if (zlz h).2=true then match zqy f (zy3 (zlz h).1) least 0 (zlz h).1 acc with
  | some a=>zqp least (f+1) hs a
  | none=>none
  else none
def z0r (H:List (List Sl)) (least:Int):List Cnd:=(zqp least 0 H []).getD []
def z0n (c v:List (List Int)) (g:List Int) (cfg:Cfg) (rows:List Int) (b:Bd):Cnd×Bool:=if zla c v g cfg=true then (if (zro c v g rows).2=true then zvm cfg b (z0r (zro c v g rows).1 cfg.rw) else (znf,false)) else (znf,false)
structure Pnd where
 r:List Int
 b:Bd
 l:Int
def goes (c v:List (List Int)) (g:List Int) (cfg:Cfg) (x:Pnd):Bool:=decide (x.l<cfg.de) && (z0n c v g cfg x.r x.b).2
theorem zvg {c v:List (List Int)} {g:List Int} {cfg:Cfg} (h:zla c v g cfg=true):zm4 c v=true∧ziy cfg=true∧g.length=zkp v∧(∀ x∈g,-2199023255552≤x∧x≤2199023255552):=by
 unfold zla at h
 simp only [Bool.and_eq_true,decide_eq_true_eq] at h
 exact ⟨h.1.1.1,h.1.1.2,by omega,fun x hx=>zpi.mp (List.all_eq_true.mp h.2 x hx)⟩
def upl (n:Nat):List Int:=(List.range n).map fun (i:Nat)=>(i:Int)
@[simp] theorem z14 (n:Nat):(upl n).length=n:=by simp [upl]
@[simp] theorem z4r:upl 0=[]:=rfl
def pnd (x:Pnd):List PV:=[.own 1 (zhe x.r),iv x.b.lo,iv x.b.hi,iv x.l]
def zqz (l:List Pnd):List (List PV):=l.map pnd
@[simp] theorem ycc (l:List Pnd):(zqz l).length=l.length:=by simp [zqz]
def NC (S:Nat→Option Ob) (nx oq:Nat) (m:List Nd) (x:PV):Prop:=(x = .e0∧m=[])∨∃ o e,x = .ref o none e 0 m.length∧5<o∧o<nx∧¬ o=oq∧S o=some (.row 5 (m.map nd))
theorem zuo (k:Int) (n:Nat) (h0:0≤k) (hk:k+5*n≤9223372036854775806):RUN T zhq [.sl 5 ((zco k n).map nd),iv k]=some ([iv (k+5*n)],[]):=by
 refine zcj zn9 rfl ?_
 have hl:(zco k n).length=n:=by simp [zco]
 simp [zkf,zkg]
 refine zfm (fun q st => ∃ i:Nat,i+q=n∧st.V 0 = .sl 5 ((zco k n).map nd)∧st.V 1=iv (k+5*i)∧st.V 5=iv i) ?_ n _ ⟨0,by simp⟩
 rintro q st ⟨i,hi,v0,v1,v5⟩
 by_cases h:i<n
 ·have hw:=wS h (by omega:n≤9223372036854775807)
  have w1:IntKind.i64.wrap (k+5*(i:Int)+1)=k+5*(i:Int)+1:=w64 (by omega) (by omega)
  have w2:IntKind.i64.wrap (k+5*(i:Int)+1+1)=k+5*(i:Int)+2:=by rw [w64 (by omega) (by omega)]; omega
  have w3:IntKind.i64.wrap (k+5*(i:Int)+2+1)=k+5*(i:Int)+3:=by rw [w64 (by omega) (by omega)]; omega
  have w4:IntKind.i64.wrap (k+5*(i:Int)+3+1)=k+5*(i:Int)+4:=by rw [w64 (by omega) (by omega)]; omega
  have w5:IntKind.i64.wrap (k+5*(i:Int)+4+1)=k+5*((i:Int)+1):=by rw [w64 (by omega) (by omega)]; omega
  have hx':((zco k n).map nd)[i]?=some [iv (k+5*(i:Int)),iv (k+5*(i:Int)+1),iv (k+5*(i:Int)+2),iv (k+5*(i:Int)+3),iv (k+5*(i:Int)+4)]:=by simp [zco,h,nd]
  have hL:((zco k n).map nd).length=n:=by simp [zco]
  generalize (zco k n).map nd=L at *
  simp [-getElem?_pos,zlk,v0,v1,v5,h,hL,hx',hw,w1,w2,w3,w4,w5]
  exact zcw (q-1) (by omega) ⟨i+1,by omega,by simp [v0],by simp,by simp⟩
 ·simp [-getElem?_pos,zlk,v0,v1,v5,h,hl]
  omega
theorem zup (k:Int) (n:Nat) (h0:0≤k) (hk:k+5*n≤9223372036854775806):RUN T zgl [.agg [.sl 5 ((zco k n).map nd)],iv k]=some ([iv (k+5*n)],[]):=by
 have e:=zuo k n h0 hk
 have hn : ¬ k+5*(n:Int)<0:=by omega
 generalize (zco k n).map nd=L at *
 refine zcj zn3 rfl ?_
 simp [-getElem?_pos,zj2,zj3,e,hn]
inductive SN where
 | mk (f c v:Int) (ks:List SN)
def zeb (q:Bool) (es:List (List PV)):PV:=if q then .own 4 es else .sl 4 es
mutual
def snC (q:Bool):SN→List PV
 | .mk f c v ks=>[iv f,iv c,iv v,zeb q (snL q ks)]
def snL (q:Bool):List SN→List (List PV)
 | []=>[]
 | s::ss=>snC q s::snL q ss
end
mutual
def szN:SN→Nat
 | .mk _ _ _ ks=>szK ks
def szK:List SN→Nat
 | []=>0
 | s::ss=>1+szN s+szK ss
end
theorem zjd (q:Bool) : ∀ ks:List SN,snL q ks=ks.map (snC q)
 | []=>by simp [snL]
 | k::ks=>by simp [snL,zjd q ks]
@[simp] theorem z6g (q:Bool) (ks:List SN):(snL q ks).length=ks.length:=by rw [zjd]; simp
theorem ziz {q:Bool} {ks:List SN} {i:Nat} {k:SN} (h:ks[i]?=some k):(snL q ks)[i]?=some (snC q k):=by rw [zjd]; simp [h]
theorem zh8 : ∀ {ks:List SN} {k:SN},k∈ks→szN k<szK ks
 | s::ss,k,h=>by
  unfold szK
  rcases List.mem_cons.mp h with e | e
  ·subst e; omega
  ·have:=zh8 e; omega
theorem zpb {ks:List SN} {i:Nat} {k:SN} (h:ks[i]?=some k):szK (ks.take (i+1))=szK (ks.take i)+1+szN k:=by
 rw [List.take_succ,h]
 have ap : ∀ a:List SN,szK (a++[k])=szK a+1+szN k:=by
  intro a
  induction a with
  | nil=>simp [szK]
  | cons s ss ih =>
   rw [List.cons_append]
   unfold szK
   rw [ih]; omega
 exact ap _
theorem znk : ∀ (ks:List SN) (i:Nat),szK ks=szK (ks.take i)+szK (ks.drop i)
 | [],i=>by simp [szK]
 | s::ss,0=>by simp [szK]
 | s::ss,i+1=>by
  have:=znk ss i
  rw [List.take_succ_cons,List.drop_succ_cons]
  simp only [szK]
  omega
theorem zhv : ∀ ks:List SN,ks.length≤szK ks
 | []=>by simp
 | s::ss=>by
  have:=zhv ss
  unfold szK
  simp; omega
inductive LnN (n:Nat):SN→Prop
 | mk {f c v:Int} {ks:List SN} (h:ks.length≤n) (t : ∀ k∈ks,LnN n k):LnN n (.mk f c v ks)
@[simp] theorem ye6 (q:Bool) (es:List (List PV)):fz (zeb q es) = .sl 4 es:=by cases q <;> simp [zeb]
def snA (q:Bool):SN→List PV
 | .mk f c v ks=>[iv f,iv c,iv v,.sl 4 (snL q ks)]
def eqO (s:SN):Prop := ∀ p q:Bool,RUN T zf7 [.agg (snA p s),.agg (snA q s)]=some ([bv true],[])
theorem zzv {ks:List SN} (hl:ks.length≤9223372036854775807) (h : ∀ k∈ks,eqO k) (p q:Bool):RUN T zhn [.sl 4 (snL p ks),.sl 4 (snL q ks)]=some ([bv true],[]):=by
 refine zcj zn5 rfl ?_
 simp [zj7,zj8]
 refine zfm (fun n st => ∃ i:Nat,i+n=ks.length∧st.V 0 = .sl 4 (snL p ks)∧st.V 1 = .sl 4 (snL q ks)∧st.V 5=iv i) ?_ ks.length _ ⟨0,by simp⟩
 rintro n st ⟨i,hi,v0,v1,v5⟩
 by_cases hlt:i<ks.length
 ·obtain ⟨k,hk⟩ : ∃ k,ks[i]?=some k:=⟨_,List.getElem?_eq_getElem hlt⟩
  have hx1:=ziz (q:=p) hk
  have hx2:=ziz (q:=q) hk
  have hw:=wS hlt hl
  have e:=h k (List.mem_of_getElem? hk) p q
  obtain ⟨f,c,v,kk⟩:=k
  simp only [snC] at hx1 hx2
  simp only [snA] at e
  simp [-getElem?_pos,zli,v0,v1,v5,hlt,hx1,hx2,hw,e]
  exact zcw (n-1) (by omega) ⟨i+1,by omega,by simp [v0],by simp [v1],by simp⟩
 ·simp [-getElem?_pos,zli,v0,v1,v5,hlt]
theorem zpw : ∀ (n:Nat) (s:SN),szN s<n→LnN 9223372036854775807 s→eqO s
 | 0,s,h,_=>by omega
 | n+1,.mk f c v ks,h,hL=>by
  intro p q
  have hz:szN (.mk f c v ks)=szK ks:=by simp [szN]
  cases hL with
  | mk hl ht =>
  have e:=zzv hl (fun k hk=>zpw n k (by have:=zh8 hk; omega) (ht k hk)) p q
  simp only [snA]
  refine zcj znx rfl ?_
  simp [-getElem?_pos,zjq,zjr,e]
theorem zuq (p q:Bool) (s:SN) (hL:LnN 9223372036854775807 s):RUN T zf7 [.agg (snA p s),.agg (snA q s)]=some ([bv true],[]):=zpw (szN s+1) s (by omega) hL p q
mutual
def mkN (k:Int):SN→SN
 | .mk _ _ _ ks => .mk k (k+1) (k+2) (mkK (k+3) ks)
def mkK (k:Int):List SN→List SN
 | []=>[]
 | s::ss=>mkN k s::mkK (k+3*(1+szN s)) ss
end
theorem zja : ∀ (ks:List SN) (k:Int),(mkK k ks).length=ks.length
 | [],k=>by simp [mkK]
 | s::ss,k=>by simp [mkK,zja ss]
theorem zs6 : ∀ (ks:List SN) (k:Int) (i:Nat) (s:SN),ks[i]?=some s→(mkK k ks)[i]?=some (mkN (k+3*szK (ks.take i)) s)
 | [],k,i,s,h=>by simp at h
 | x::ss,k,0,s,h=>by simp at h; subst h; simp [mkK,szK]
 | x::ss,k,i+1,s,h=>by
  simp at h
  have:=zs6 ss (k+3*(1+szN x)) i s h
  simp only [mkK,List.getElem?_cons_succ,this,List.take_succ_cons,szK]
  congr 2
  omega
theorem zqs : ∀ (n:Nat) (ks:List SN),szK ks<n→∀ k:Int,0≤k→k+3*szK ks≤9223372036854775806→RUN T zgm [.own 4 (snL true ks),iv k]=some ([iv (k+3*szK ks)],[.own 4 (snL true (mkK k ks))])
 | 0,ks,h=>by omega
 | N+1,ks,h=>by
  intro k h0 hk
  have hlen:=zhv ks
  refine zcj zn7 rfl ?_
  simp [-getElem?_pos,zkb,zkc]
  obtain ⟨f,hf⟩ : ∃ f:Nat→List PV,f=fun j=>snC true (mkN (k+3*szK (ks.take j)) (ks.getD j (.mk 0 0 0 []))):=⟨_,rfl⟩
  refine zfm (fun n st => ∃ i:Nat,i+n=ks.length∧1≤st.nx∧st.V 0 = .ref 0 none 0 0 ks.length∧st.V 1=iv (k+3*szK (ks.take i))∧st.V 5=iv i∧st.S 0=some (.row 4 (mix f (snL true ks) i))) ?_ ks.length _ ⟨0,by simp [zor,szK]⟩
  rintro n st ⟨i,hi,hnx,v0,v1,v5,hS⟩
  by_cases hlt:i<ks.length
  ·obtain ⟨x,hx⟩ : ∃ x,ks[i]?=some x:=⟨_,List.getElem?_eq_getElem hlt⟩
   have hw:=wS hlt (by omega:ks.length≤9223372036854775807)
   have hx':=ziz (q:=true) hx
   have hg:=(zo3 (f:=f) (l:=snL true ks) (i:=i)).trans hx'
   have hs:=ztc (f:=f) (l:=snL true ks) (i:=i) (by simpa using hlt)
   have htk:=zpb hx
   have hsp:=znk ks (i+1)
   have hml:=zpm (f:=f) (l:=snL true ks) (i:=i) (by simp; omega)
   simp at hml
   have hm:=zh8 (List.mem_of_getElem? hx)
   obtain ⟨fx,cx,vx,kk⟩:=x
   have hz:szN (.mk fx cx vx kk)=szK kk:=by simp [szN]
   have e:=zqs N kk (by omega) (k+3*szK (ks.take i)+3) (by omega) (by omega)
   have hfi:f i=[iv (k+3*szK (ks.take i)),iv (k+3*szK (ks.take i)+1),iv (k+3*szK (ks.take i)+2),.own 4 (snL true (mkK (k+3*szK (ks.take i)+3) kk))]:=by rw [hf]; simp [hx,mkN,snC,zeb]
   rw [hfi] at hs
   have w1:IntKind.i64.wrap (k+3*szK (ks.take i)+1)=k+3*szK (ks.take i)+1:=w64 (by omega) (by omega)
   have w2:IntKind.i64.wrap (k+3*szK (ks.take i)+1+1)=k+3*szK (ks.take i)+2:=by rw [w64 (by omega) (by omega)]; omega
   have w3:IntKind.i64.wrap (k+3*szK (ks.take i)+2+1)=k+3*szK (ks.take i)+3:=by rw [w64 (by omega) (by omega)]; omega
   have hkl:(mkK (k+3*szK (ks.take i)+3) kk).length=kk.length:=zja _ _
   simp only [snC,zeb,if_true] at hg
   obtain ⟨z1,z2,z3,z4⟩:=fr (show 0<st.nx by omega)
   have hend:k+3*((szK (ks.take i):Nat):Int)+3+3*((szK kk:Nat):Int)=k+3*((szK (ks.take (i+1)):Nat):Int):=by rw [htk,hz]; omega
   generalize hK:mkK (k+3*szK (ks.take i)+3) kk=K at *
   simp [-getElem?_pos,zlj,v0,v1,v5,hS,hlt,hg,hml,hw,w1,w2,w3,e,hkl,z1,z2,z3,z4,zbd,zbs,hs]
   exact zcw (n-1) (by omega) ⟨i+1,by omega,by simp,by simp [v0],by simp [hend],by simp,by simp [hs]⟩
  ·have e:=zst (f:=f) (l:=snL true ks) (i:=i) (by simp; omega)
   have e2:i=ks.length:=by omega
   subst e2
   rw [e] at hS
   rw [List.take_length] at v1
   have e3:snL true (mkK k ks)=(List.range ks.length).map f:=by
    rw [zjd]
    apply List.ext_getElem?
    intro j
    by_cases hj:j<ks.length
    ·obtain ⟨x,hx⟩ : ∃ x,ks[j]?=some x:=⟨_,List.getElem?_eq_getElem hj⟩
     rw [List.getElem?_map,zs6 ks k j x hx,List.getElem?_map,List.getElem?_range hj,hf]
     simp [hx]
    ·rw [List.getElem?_eq_none (by simp [zja]; omega),List.getElem?_eq_none (by simp; omega)]
   rw [e3]
   simp [-getElem?_pos,zlj,v0,v1,v5,hS]
theorem zur (f c v:Int) (ks:List SN) (k:Int) (h0:0≤k) (hk:k+3*szK ks≤9223372036854775806):RUN T zhj [.agg [iv f,iv c,iv v,.own 4 (snL true ks)],iv k]=some ([iv (k+3*szK ks)],[.own 4 (snL true (mkK k ks))]):=by
 have e:=zqs (szK ks+1) ks (by omega) k h0 hk
 have hl:=zja ks k
 generalize mkK k ks=K at *
 refine zcj zn1 rfl ?_
 simp [-getElem?_pos,zjy,zjz,e,hl]
theorem z0v {c:Cfg} (h:ziy c=true):1≤c.la∧c.la≤100∧0≤c.de∧c.de≤4:=by
 unfold ziy at h
 simp only [Bool.and_eq_true,zpi] at h
 omega
structure GH (c v:List (List Int)) (g:List Int) (cfg:Cfg):Prop where
 tk:zla c v g cfg=true
 sg:cfg.sg.length≤1048576
theorem GH.la {c v:List (List Int)} {g:List Int} {cfg:Cfg} (h:GH c v g cfg):1≤cfg.la∧cfg.la≤100∧0≤cfg.de∧cfg.de≤4:=z0v (zvg h.tk).2.1
def zcx:Nat→List SN→Nat→List Nd→List Nd
 | 0,_,_,out=>out
 | n+1,q,i,out=>match q[i]? with
  | none=>out
  | some (.mk f c v ks)=>match ks with
   | a::b::_=>if 31<q.length+2 then [] else zcx n (q++[a,b]) (i+1) (out++[⟨f,c,q.length,q.length+1,v⟩])
   | _=>zcx n q (i+1) (out++[⟨-1,0,0,0,v⟩])
def zdg (s:SN):List Nd:=zcx 32 [s] 0 []
theorem zoz {n:Nat} {q:List SN} {i:Nat} {out:List Nd} (h:q[i]?=none):zcx n q i out=out:=by
 cases n with
 | zero=>rfl
 | succ n=>rw [zcx,h]
theorem zsw {n:Nat} {q:List SN} {i:Nat} {out:List Nd} {f c v:Int} {ks:List SN} (h:q[i]?=some (.mk f c v ks)) (hk:ks.length<2):zcx (n+1) q i out=zcx n q (i+1) (out++[⟨-1,0,0,0,v⟩]):=by
 rw [zcx,h]
 match ks,hk with
 | [],_=>rfl
 | [a],_=>rfl
theorem zq2 {n:Nat} {q:List SN} {i:Nat} {out:List Nd} {f c v:Int} {a b:SN} {ks:List SN} (h:q[i]?=some (.mk f c v (a::b::ks))):zcx (n+1) q i out=if 31<q.length+2 then [] else zcx n (q++[a,b]) (i+1) (out++[⟨f,c,q.length,q.length+1,v⟩]):=by
 rw [zcx,h]
theorem znr : ∀ (n:Nat) (q:List SN) (i:Nat) (out:List Nd),(zcx n q i out).length≤out.length+n
 | 0,q,i,out=>by simp [zcx]
 | n+1,q,i,out=>by
  rw [zcx]
  split
  ·omega
  ·split
   ·split
    ·simp
    ·refine Nat.le_trans (znr n _ _ _) ?_
     simp; omega
   ·refine Nat.le_trans (znr n _ _ _) ?_
    simp; omega
theorem fr2 {x n:Nat} (h:x<n) : ¬ x=n+1+2∧¬ x=n+2+1∧¬ x=n+2+2∧¬ n+1+2=x∧¬ n+2+1=x∧¬ n+2+2=x∧¬ n=x∧¬ n+1=x∧¬ n+2=x∧¬ x=n+2+2+1∧¬ x=n+2+3:=by omega
set_option maxHeartbeats 2000000 in
theorem zus (q:Bool) (s:SN) (hL:LnN 9223372036854775807 s):RUN T zgk [.agg (snA q s)]=some ([.agg [.own 5 ((zdg s).map nd)]],[]):=by
 obtain ⟨R,hR⟩ : ∃ R,R=zdg s:=⟨_,rfl⟩
 rw [← hR]
 unfold zdg at hR
 have hq1:(List.map (snA q) [s])=[snA q s]:=rfl
 have hr1:zbf 48 1=true:=by decide
 have hr2:zbf 48 2=true:=by decide
 have hr3:zbf 40 1=true:=by decide
 obtain ⟨sf,sc,sv,sk⟩:=s
 simp only [snA] at hq1
 simp only [snA]
 refine zcj znz rfl ?_
 simp [-getElem?_pos,zju,zjv,hr1]
 refine zfm (fun n st => ∃ (i o e:Nat) (Q:List SN) (out:List Nd) (x:PV),i+n=32∧Q.length≤31∧i≤Q.length∧out.length=i∧(∀ y∈Q,LnN 9223372036854775807 y)∧zcx n Q i out=R∧st.V 2 = .ptr 1 none 0 0 0∧st.V 3 = .ref o none e 0 Q.length∧st.V 4 = .ptr 3 none 0 0 0∧st.V 5=iv i∧1<o∧¬ o=3∧o<st.nx∧3<st.nx∧st.S 1=some (.box [.e0])∧st.S 3=some (.box [x])∧st.S o=some (.rowF 4 (Q.map (snA q)))∧NC st.S st.nx o out x) ?_ 32 _ ⟨0,2,0,[.mk sf sc sv sk],[],.e0,by omega,by simp,by simp,rfl,by simpa using hL,hR.symm,by simp,by simp,by simp,by simp,by omega,by omega,by simp,by simp,by simp,by simp,by simp [snA],.inl ⟨rfl,rfl⟩⟩
 rintro n st ⟨i,o,e,Q,out,x,hin,hQ,hiQ,hol,hLn,hfl,v2,v3,v4,v5,ho1,ho3,hox,h3x,S1,S3,So,hN⟩
 have q0:=fr (by omega:0<st.nx)
 have q1:=fr (by omega:1<st.nx)
 have q2:=fr (by omega:2<st.nx)
 have q3:=fr h3x
 have qo:=fr hox
 have o1 : ¬ o=1:=by omega
 have y1:=fr2 (by omega:1<st.nx)
 have y2:=fr2 (by omega:2<st.nx)
 have y3:=fr2 h3x
 have yo:=fr2 hox
 have n1 : ¬ st.nx=1:=by omega
 have n0 : ¬ st.nx=0:=by omega
 have n2 : ¬ st.nx=2:=by omega
 have n3 : ¬ st.nx=3:=by omega
 have m1 : ¬ st.nx+1=3:=by omega
 have m2 : ¬ st.nx+2=3:=by omega
 have o1' : ¬ 1=o:=by omega
 have o3' : ¬ 3=o:=fun h=>ho3 h.symm
 by_cases hlt:i<Q.length
 ·obtain ⟨y,hy⟩ : ∃ y,Q[i]?=some y:=⟨_,List.getElem?_eq_getElem hlt⟩
  obtain ⟨m,rfl⟩ : ∃ m,n=m+1:=⟨n-1,by omega⟩
  have hy':(Q.map (snA q))[i]?=some (snA q y):=by simp [hy]
  have hw:=wS hlt (by omega:Q.length≤9223372036854775807)
  have hLy:=hLn y (List.mem_of_getElem? hy)
  obtain ⟨f,c,v,ks⟩:=y
  simp only [snA] at hy'
  have z1:zbf 40 (out.length+1)=true:=by simp [zbf]; omega
  by_cases hk:ks.length<2
  ·have hk':(ks.length:Int)<2:=by omega
   rw [zsw hy hk] at hfl
   have hsn:out.map nd++[[iv (-1),iv 0,iv 0,iv 0,iv v]]=(out++[(⟨-1,0,0,0,v⟩:Nd)]).map nd:=by simp [nd]
   rcases hN with ⟨rfl,rfl⟩ | ⟨p,e',rfl,hp5,hpx,hpo,hSp⟩
   ·simp [-getElem?_pos,zfg,v2,v3,v4,v5,S1,S3,So,hlt,hy',hw,q0,q1,q2,q3,n1,n2,n3,m1,m2,qo,o1,o1',o3',ho3,hk,hk',hr3]
    exact zcw m (by omega) ⟨i+1,o,e,Q,[⟨-1,0,0,0,v⟩],.ref (st.nx+2) none st.ep 0 1,by omega,hQ,by omega,by simp at hol ⊢; omega,hLn,by simpa using hfl,by simp [v2],by simp [v3],by simp [v4],by simp,ho1,ho3,by simp; omega,by simp; omega,by simp [S1,q0,q1,q2,q3,n1,n2,n3,m1,m2,o1'],by simp,by simp [So,qo,ho3,n1,n2,n3],(.inr ⟨st.nx+2,st.ep,by simp,by omega,by simp,by omega,by simp [nd,n1,n2,n3]⟩)⟩
   ·have yp:=fr2 hpx
    have hpx':=fr hpx
    have hp5':=fr hp5
    have hp3 : ¬ p=3:=by omega
    have hp3' : ¬ 3=p:=by omega
    have hp1 : ¬ p=1:=by omega
    have hp1' : ¬ 1=p:=by omega
    have hpo' : ¬ o=p:=fun h=>hpo h.symm
    simp [-getElem?_pos,zfg,v2,v3,v4,v5,S1,S3,So,hlt,hy',hw,q0,q1,q2,q3,n1,n2,n3,m1,m2,qo,o1,o1',o3',ho3,hk,hk',hr3,z1,hsn,hSp,hp5',hp3,hp3',hpx',hpo,hpo',hp1,hp1']
    exact zcw m (by omega) ⟨i+1,o,e,Q,(out++[⟨-1,0,0,0,v⟩]),.ref (st.nx+2) none st.ep 0 (out.length+1),by omega,hQ,by omega,by simp at hol ⊢; omega,hLn,by simpa using hfl,by simp [v2],by simp [v3],by simp [v4],by simp,ho1,ho3,by simp; omega,by simp; omega,by simp [S1,q0,q1,q2,q3,n1,n2,n3,m1,m2,o1',hp1'],by simp,by simp [So,qo,ho3,hpo',n1,n2,n3],(.inr ⟨st.nx+2,st.ep,by simp,by omega,by simp,by omega,by simp [n1,n2,n3]⟩)⟩
  ·have hk' : ¬ (ks.length:Int)<2:=by omega
   obtain ⟨a,b,r,rfl⟩ : ∃ a b r,ks=a::b::r:=by
    match ks,hk with
    | a::b::r,_=>exact ⟨a,b,r,rfl⟩
    | [],h=>exact absurd (by simp) h
    | [a],h=>exact absurd (by simp) h
   have hLab:LnN 9223372036854775807 a∧LnN 9223372036854775807 b:=by
    cases hLy with
    | mk _ ht=>exact ⟨ht a (by simp),ht b (by simp)⟩
   rw [zq2 hy] at hfl
   have ha0:(snL q (a::b::r))[0]?=some (snC q a):=by simp [snL]
   have hb0:(snL q (a::b::r))[1]?=some (snC q b):=by simp [snL]
   have hkl:(snL q (a::b::r)).length=r.length+2:=by simp
   have hz2:zbf 48 (Q.length+2)=true:=by simp [zbf]; omega
   have hQs:Q.map (snA q)++[snA q a,snA q b]=(Q++[a,b]).map (snA q):=by simp
   have hln2 : ∀ y∈Q++[a,b],LnN 9223372036854775807 y:=fun y hy=>by
    rcases List.mem_append.mp hy with h | h
    ·exact hLn y h
    ·simp only [List.mem_cons,List.not_mem_nil,or_false] at h
     rcases h with rfl | rfl
     ·exact hLab.1
     ·exact hLab.2
   have wq:=w64 (x:=(Q.length:Int)+1) (by omega) (by omega)
   have hsn:out.map nd++[[iv f,iv c,iv Q.length,iv (Q.length+1),iv v]]=(out++[(⟨f,c,Q.length,Q.length+1,v⟩:Nd)]).map nd:=by simp [nd]
   generalize snL q (a::b::r)=K at *
   obtain ⟨a1,a2,a3,a4⟩:=a
   obtain ⟨b1,b2,b3,b4⟩:=b
   simp only [snC] at ha0 hb0
   simp only [snA] at hQs
   have hK0:0<K.length:=by omega
   have hK1:1<K.length:=by omega
   have hKn : ¬ (K.length:Int)<2:=by omega
   by_cases h31:31<Q.length+2
   ·have h31':(31:Int)<Q.length+2:=by omega
    rw [if_pos h31] at hfl
    subst hfl
    rcases hN with ⟨rfl,rfl⟩ | ⟨p,e',rfl,hp5,hpx,hpo,hSp⟩
    ·simp [-getElem?_pos,zfg,v2,v3,v4,v5,S1,S3,So,hlt,hy',hw,q0,q1,q2,q3,n1,n2,n3,m1,m2,y1,y2,y3,yo,qo,o1,o1',o3',ho3,ha0,hb0,hK0,hK1,hKn,hr2,hr3,hz2,hQs,wq,h31,h31']
    ·have yp:=fr2 hpx
     have hpx':=fr hpx
     have hp5':=fr hp5
     have hp3 : ¬ p=3:=by omega
     have hp3' : ¬ 3=p:=by omega
     have hp1 : ¬ p=1:=by omega
     have hp1' : ¬ 1=p:=by omega
     have hpo' : ¬ o=p:=fun h=>hpo h.symm
     simp [-getElem?_pos,zfg,v2,v3,v4,v5,S1,S3,So,hlt,hy',hw,q0,q1,q2,q3,n1,n2,n3,m1,m2,y1,y2,y3,yo,qo,o1,o1',o3',ho3,ha0,hb0,hK0,hK1,hKn,hr2,hr3,hz2,hQs,wq,h31,h31',z1,hsn,hSp,hp5',hp3,hp3',hpx',hpo,hpo',hp1,hp1',yp]
   ·rw [if_neg h31] at hfl
    have h31' : ¬ (31:Int)<Q.length+2:=by omega
    rcases hN with ⟨rfl,rfl⟩ | ⟨p,e',rfl,hp5,hpx,hpo,hSp⟩
    ·simp [-getElem?_pos,zfg,v2,v3,v4,v5,S1,S3,So,hlt,hy',hw,q0,q1,q2,q3,n1,n2,n3,m1,m2,y1,y2,y3,yo,qo,o1,o1',o3',ho3,ha0,hb0,hK0,hK1,hKn,hr2,hr3,hz2,hQs,wq,h31,h31']
     exact zcw m (by omega) ⟨i+1,st.nx+2+2,st.ep,Q++[.mk a1 a2 a3 a4,.mk b1 b2 b3 b4],[⟨f,c,Q.length,Q.length+1,v⟩],.ref (st.nx+2) none st.ep 0 1,by omega,by simp; omega,by simp; omega,by simp at hol ⊢; omega,hln2,by simpa using hfl,by simp [v2],by simp,by simp [v4],by simp,by omega,by omega,by simp,by simp <;> omega,by simp [S1,n0,q0,q1,q2,q3,n1,n2,n3,m1,m2,y1,o1'],by simp [n0,y1,y2,y3,ho3,o3'],by simp,(.inr ⟨st.nx+2,st.ep,by simp,by omega,by simp,by omega,by simp [nd,n0,n1,n2,n3,m1,m2,yo]⟩)⟩
    ·have yp:=fr2 hpx
     have hpx':=fr hpx
     have hp5':=fr hp5
     have hp3 : ¬ p=3:=by omega
     have hp3' : ¬ 3=p:=by omega
     have hp1 : ¬ p=1:=by omega
     have hp1' : ¬ 1=p:=by omega
     have hpo' : ¬ o=p:=fun h=>hpo h.symm
     simp [-getElem?_pos,zfg,v2,v3,v4,v5,S1,S3,So,hlt,hy',hw,q0,q1,q2,q3,n1,n2,n3,m1,m2,y1,y2,y3,yo,qo,o1,o1',o3',ho3,ha0,hb0,hK0,hK1,hKn,hr2,hr3,hz2,hQs,wq,h31,h31',z1,hsn,hSp,hp5',hp3,hp3',hpx',hpo,hpo',hp1,hp1',yp]
     exact zcw m (by omega) ⟨i+1,st.nx+2+2,st.ep,Q++[.mk a1 a2 a3 a4,.mk b1 b2 b3 b4],(out++[⟨f,c,Q.length,Q.length+1,v⟩]),.ref (st.nx+2) none st.ep 0 (out.length+1),by omega,by simp; omega,by simp; omega,by simp [hol],hln2,by simpa using hfl,by simp [v2],by simp,by simp [v4],by simp,by omega,by omega,by simp,by simp <;> omega,by simp [S1,n0,q0,q1,q2,q3,n1,n2,n3,m1,m2,y1,o1',hp1',hp3,yp],by simp [n0,y1,y2,y3,ho3,o3',hp1',hp3,yp],by simp,(.inr ⟨st.nx+2,st.ep,by simp,by omega,by simp,by omega,by simp [nd,n0,n1,n2,n3,m1,m2,yo,hp1',hp3,yp]⟩)⟩
 ·have hie:i=Q.length:=by omega
  have hnone:Q[i]?=none:=List.getElem?_eq_none (by omega)
  rw [zoz hnone] at hfl
  subst hfl
  rcases hN with ⟨rfl,rfl⟩ | ⟨p,e',rfl,hp5,hpx,hpo,hSp⟩
  ·simp [-getElem?_pos,zfg,v2,v3,v4,v5,S1,S3,So,hlt]
  ·have hp3 : ¬ p=3:=by omega
   have hp1 : ¬ p=1:=by omega
   simp [-getElem?_pos,zfg,v2,v3,v4,v5,S1,S3,So,hlt,hSp,hp3,hp1]
set_option maxHeartbeats 2000000 in
theorem zut (q:Bool) (s:SN) (hL:LnN 9223372036854775807 s):RUN T zhi [.agg (snA q s)]=some ([.agg [.own 5 ((zdg s).map nd)]],[]):=by
 obtain ⟨R,hR⟩ : ∃ R,R=zdg s:=⟨_,rfl⟩
 rw [← hR]
 unfold zdg at hR
 have hq1:(List.map (snA q) [s])=[snA q s]:=rfl
 have hr1:zbf 48 1=true:=by decide
 have hr2:zbf 48 2=true:=by decide
 have hr3:zbf 40 1=true:=by decide
 obtain ⟨sf,sc,sv,sk⟩:=s
 simp only [snA] at hq1
 simp only [snA]
 refine zcj zny rfl ?_
 simp [-getElem?_pos,zjs,zjt,hr1]
 refine zfm (fun n st => ∃ (i o e:Nat) (Q:List SN) (out:List Nd) (x:PV),i+n=32∧Q.length≤33∧i≤Q.length∧out.length=i∧(∀ y∈Q,LnN 9223372036854775807 y)∧(Q.length≤31∧zcx n Q i out=R∨31<Q.length∧i<Q.length∧R=[])∧st.V 2 = .ptr 1 none 0 0 0∧st.V 4 = .ref o none e 0 Q.length∧st.V 3 = .ptr 2 none 0 0 0∧st.V 5=iv i∧1<o∧¬ o=2∧o<st.nx∧3<st.nx∧st.S 1=some (.box [.e0])∧st.S 2=some (.box [x])∧st.S o=some (.rowF 4 (Q.map (snA q)))∧NC st.S st.nx o out x) ?_ 32 _ ⟨0,3,0,[.mk sf sc sv sk],[],.e0,by omega,by simp,by simp,rfl,by simpa using hL,.inl ⟨by simp,hR.symm⟩,by simp,by simp,by simp,by simp,by omega,by omega,by simp,by simp,by simp,by simp,by simp [snA],.inl ⟨rfl,rfl⟩⟩
 rintro n st ⟨i,o,e,Q,out,x,hin,hQ,hiQ,hol,hLn,hfl,v2,v3,v4,v5,ho1,ho3,hox,h3x,S1,S3,So,hN⟩
 have q0:=fr (by omega:0<st.nx)
 have q1:=fr (by omega:1<st.nx)
 have q2:=fr (by omega:2<st.nx)
 have q3:=fr h3x
 have qo:=fr hox
 have o1 : ¬ o=1:=by omega
 have y1:=fr2 (by omega:1<st.nx)
 have y2:=fr2 (by omega:2<st.nx)
 have y3:=fr2 h3x
 have yo:=fr2 hox
 have n1 : ¬ st.nx=1:=by omega
 have n0 : ¬ st.nx=0:=by omega
 have n2 : ¬ st.nx=2:=by omega
 have n3 : ¬ st.nx=3:=by omega
 have m1 : ¬ st.nx+1=3:=by omega
 have m2 : ¬ st.nx+2=3:=by omega
 have o1' : ¬ 1=o:=by omega
 have o3' : ¬ 2=o:=fun h=>ho3 h.symm
 have m3 : ¬ st.nx+1=2:=by omega
 by_cases hlt:i<Q.length
 ·rcases hfl with ⟨hQ31,hfl⟩ | ⟨hQ31,_,rfl⟩
  case inr =>
   have hq31:(31:Int)<Q.length:=by omega
   simp [-getElem?_pos,ze3,v2,v3,v4,v5,S1,S3,So,hlt,hq31]
  have hq31 : ¬ (31:Int)<Q.length:=by omega
  obtain ⟨y,hy⟩ : ∃ y,Q[i]?=some y:=⟨_,List.getElem?_eq_getElem hlt⟩
  obtain ⟨m,rfl⟩ : ∃ m,n=m+1:=⟨n-1,by omega⟩
  have hy':(Q.map (snA q))[i]?=some (snA q y):=by simp [hy]
  have hw:=wS hlt (by omega:Q.length≤9223372036854775807)
  have hLy:=hLn y (List.mem_of_getElem? hy)
  obtain ⟨f,c,v,ks⟩:=y
  simp only [snA] at hy'
  have z1:zbf 40 (out.length+1)=true:=by simp [zbf]; omega
  by_cases hk:ks.length<2
  ·have hk':(ks.length:Int)<2:=by omega
   rw [zsw hy hk] at hfl
   have hsn:out.map nd++[[iv (-1),iv 0,iv 0,iv 0,iv v]]=(out++[(⟨-1,0,0,0,v⟩:Nd)]).map nd:=by simp [nd]
   rcases hN with ⟨rfl,rfl⟩ | ⟨p,e',rfl,hp5,hpx,hpo,hSp⟩
   ·simp [-getElem?_pos,ze3,v2,v3,v4,v5,S1,S3,So,hlt,hq31,hy',hw,q0,q1,q2,q3,n0,n1,n2,n3,m1,m2,m3,qo,o1,o1',o3',ho3,hk,hk',hr3]
    exact zcw m (by omega) ⟨i+1,o,e,Q,[⟨-1,0,0,0,v⟩],.ref (st.nx+2) none st.ep 0 1,by omega,hQ,by omega,by simp at hol ⊢; omega,hLn,.inl ⟨by first | omega | (simp; omega),by simpa using hfl⟩,by simp [v2],by simp [v3],by simp [v4],by simp,ho1,ho3,by simp; omega,by simp; omega,by simp [S1,q0,q1,q2,q3,n0,n1,n2,n3,m1,m2,m3,o1'],by simp,by simp [So,qo,ho3,n0,n1,n2,n3],(.inr ⟨st.nx+2,st.ep,by simp,by omega,by simp,by omega,by simp [nd,n0,n1,n2,n3]⟩)⟩
   ·have yp:=fr2 hpx
    have hpx':=fr hpx
    have hp5':=fr hp5
    have hp3 : ¬ p=2:=by omega
    have hp3' : ¬ 2=p:=by omega
    have hp1 : ¬ p=1:=by omega
    have hp1' : ¬ 1=p:=by omega
    have hpo' : ¬ o=p:=fun h=>hpo h.symm
    simp [-getElem?_pos,ze3,v2,v3,v4,v5,S1,S3,So,hlt,hq31,hy',hw,q0,q1,q2,q3,n0,n1,n2,n3,m1,m2,m3,qo,o1,o1',o3',ho3,hk,hk',hr3,z1,hsn,hSp,hp5',hp3,hp3',hpx',hpo,hpo',hp1,hp1']
    exact zcw m (by omega) ⟨i+1,o,e,Q,(out++[⟨-1,0,0,0,v⟩]),.ref (st.nx+2) none st.ep 0 (out.length+1),by omega,hQ,by omega,by simp at hol ⊢; omega,hLn,.inl ⟨by first | omega | (simp; omega),by simpa using hfl⟩,by simp [v2],by simp [v3],by simp [v4],by simp,ho1,ho3,by simp; omega,by simp; omega,by simp [S1,q0,q1,q2,q3,n0,n1,n2,n3,m1,m2,m3,o1',hp1'],by simp,by simp [So,qo,ho3,hpo',n0,n1,n2,n3],(.inr ⟨st.nx+2,st.ep,by simp,by omega,by simp,by omega,by simp [n0,n1,n2,n3]⟩)⟩
  ·have hk' : ¬ (ks.length:Int)<2:=by omega
   obtain ⟨a,b,r,rfl⟩ : ∃ a b r,ks=a::b::r:=by
    match ks,hk with
    | a::b::r,_=>exact ⟨a,b,r,rfl⟩
    | [],h=>exact absurd (by simp) h
    | [a],h=>exact absurd (by simp) h
   have hLab:LnN 9223372036854775807 a∧LnN 9223372036854775807 b:=by
    cases hLy with
    | mk _ ht=>exact ⟨ht a (by simp),ht b (by simp)⟩
   rw [zq2 hy] at hfl
   have ha0:(snL q (a::b::r))[0]?=some (snC q a):=by simp [snL]
   have hb0:(snL q (a::b::r))[1]?=some (snC q b):=by simp [snL]
   have hkl:(snL q (a::b::r)).length=r.length+2:=by simp
   have hz2:zbf 48 (Q.length+2)=true:=by simp [zbf]; omega
   have hQs:Q.map (snA q)++[snA q a,snA q b]=(Q++[a,b]).map (snA q):=by simp
   have hln2 : ∀ y∈Q++[a,b],LnN 9223372036854775807 y:=fun y hy=>by
    rcases List.mem_append.mp hy with h | h
    ·exact hLn y h
    ·simp only [List.mem_cons,List.not_mem_nil,or_false] at h
     rcases h with rfl | rfl
     ·exact hLab.1
     ·exact hLab.2
   have wq:=w64 (x:=(Q.length:Int)+1) (by omega) (by omega)
   have hsn:out.map nd++[[iv f,iv c,iv Q.length,iv (Q.length+1),iv v]]=(out++[(⟨f,c,Q.length,Q.length+1,v⟩:Nd)]).map nd:=by simp [nd]
   generalize snL q (a::b::r)=K at *
   obtain ⟨a1,a2,a3,a4⟩:=a
   obtain ⟨b1,b2,b3,b4⟩:=b
   simp only [snC] at ha0 hb0
   simp only [snA] at hQs
   have hK0:0<K.length:=by omega
   have hK1:1<K.length:=by omega
   have hKn : ¬ (K.length:Int)<2:=by omega
   by_cases h31:31<Q.length+2
   ·rw [if_pos h31] at hfl
    have h31':(31:Int)<Q.length+2:=by omega
    rcases hN with ⟨rfl,rfl⟩ | ⟨p,e',rfl,hp5,hpx,hpo,hSp⟩
    ·simp [-getElem?_pos,ze3,v2,v3,v4,v5,S1,S3,So,hlt,hq31,hy',hw,q0,q1,q2,q3,n0,n1,n2,n3,m1,m2,m3,y1,y2,y3,yo,qo,o1,o1',o3',ho3,ha0,hb0,hK0,hK1,hKn,hr2,hr3,hz2,hQs,wq,h31,h31']
     exact zcw m (by omega) ⟨i+1,st.nx+2+2,st.ep,Q++[.mk a1 a2 a3 a4,.mk b1 b2 b3 b4],[⟨f,c,Q.length,Q.length+1,v⟩],.ref (st.nx+2) none st.ep 0 1,by omega,by simp; omega,by simp; omega,by simp at hol ⊢; omega,hln2,.inr ⟨by first | omega | (simp; omega),by first | omega | (simp; omega),hfl.symm⟩,by simp [v2],by simp,by simp [v4],by simp,by omega,by omega,by simp,by simp <;> omega,by simp [S1,n0,q0,q1,q2,q3,n0,n1,n2,n3,m1,m2,m3,y1,o1'],by simp [n0,y1,y2,y3,ho3,o3'],by simp,(.inr ⟨st.nx+2,st.ep,by simp,by omega,by simp,by omega,by simp [nd,n0,n1,n2,n3,m1,m2,m3,yo]⟩)⟩
    ·have yp:=fr2 hpx
     have hpx':=fr hpx
     have hp5':=fr hp5
     have hp3 : ¬ p=2:=by omega
     have hp3' : ¬ 2=p:=by omega
     have hp1 : ¬ p=1:=by omega
     have hp1' : ¬ 1=p:=by omega
     have hpo' : ¬ o=p:=fun h=>hpo h.symm
     simp [-getElem?_pos,ze3,v2,v3,v4,v5,S1,S3,So,hlt,hq31,hy',hw,q0,q1,q2,q3,n0,n1,n2,n3,m1,m2,m3,y1,y2,y3,yo,qo,o1,o1',o3',ho3,ha0,hb0,hK0,hK1,hKn,hr2,hr3,hz2,hQs,wq,h31,h31',z1,hsn,hSp,hp5',hp3,hp3',hpx',hpo,hpo',hp1,hp1',yp]
     exact zcw m (by omega) ⟨i+1,st.nx+2+2,st.ep,Q++[.mk a1 a2 a3 a4,.mk b1 b2 b3 b4],(out++[⟨f,c,Q.length,Q.length+1,v⟩]),.ref (st.nx+2) none st.ep 0 (out.length+1),by omega,by simp; omega,by simp; omega,by simp [hol],hln2,.inr ⟨by first | omega | (simp; omega),by first | omega | (simp; omega),hfl.symm⟩,by simp [v2],by simp,by simp [v4],by simp,by omega,by omega,by simp,by simp <;> omega,by simp [S1,n0,q0,q1,q2,q3,n0,n1,n2,n3,m1,m2,m3,y1,o1',hp1',hp3,yp],by simp [n0,y1,y2,y3,ho3,o3',hp1',hp3,yp],by simp,(.inr ⟨st.nx+2,st.ep,by simp,by omega,by simp,by omega,by simp [nd,n0,n1,n2,n3,m1,m2,m3,yo,hp1',hp3,yp]⟩)⟩
   ·rw [if_neg h31] at hfl
    have h31' : ¬ (31:Int)<Q.length+2:=by omega
    rcases hN with ⟨rfl,rfl⟩ | ⟨p,e',rfl,hp5,hpx,hpo,hSp⟩
    ·simp [-getElem?_pos,ze3,v2,v3,v4,v5,S1,S3,So,hlt,hq31,hy',hw,q0,q1,q2,q3,n0,n1,n2,n3,m1,m2,m3,y1,y2,y3,yo,qo,o1,o1',o3',ho3,ha0,hb0,hK0,hK1,hKn,hr2,hr3,hz2,hQs,wq,h31,h31']
     exact zcw m (by omega) ⟨i+1,st.nx+2+2,st.ep,Q++[.mk a1 a2 a3 a4,.mk b1 b2 b3 b4],[⟨f,c,Q.length,Q.length+1,v⟩],.ref (st.nx+2) none st.ep 0 1,by omega,by simp; omega,by simp; omega,by simp at hol ⊢; omega,hln2,.inl ⟨by first | omega | (simp; omega),by simpa using hfl⟩,by simp [v2],by simp,by simp [v4],by simp,by omega,by omega,by simp,by simp <;> omega,by simp [S1,n0,q0,q1,q2,q3,n0,n1,n2,n3,m1,m2,m3,y1,o1'],by simp [n0,y1,y2,y3,ho3,o3'],by simp,(.inr ⟨st.nx+2,st.ep,by simp,by omega,by simp,by omega,by simp [nd,n0,n1,n2,n3,m1,m2,m3,yo]⟩)⟩
    ·have yp:=fr2 hpx
     have hpx':=fr hpx
     have hp5':=fr hp5
     have hp3 : ¬ p=2:=by omega
     have hp3' : ¬ 2=p:=by omega
     have hp1 : ¬ p=1:=by omega
     have hp1' : ¬ 1=p:=by omega
     have hpo' : ¬ o=p:=fun h=>hpo h.symm
     simp [-getElem?_pos,ze3,v2,v3,v4,v5,S1,S3,So,hlt,hq31,hy',hw,q0,q1,q2,q3,n0,n1,n2,n3,m1,m2,m3,y1,y2,y3,yo,qo,o1,o1',o3',ho3,ha0,hb0,hK0,hK1,hKn,hr2,hr3,hz2,hQs,wq,h31,h31',z1,hsn,hSp,hp5',hp3,hp3',hpx',hpo,hpo',hp1,hp1',yp]
     exact zcw m (by omega) ⟨i+1,st.nx+2+2,st.ep,Q++[.mk a1 a2 a3 a4,.mk b1 b2 b3 b4],(out++[⟨f,c,Q.length,Q.length+1,v⟩]),.ref (st.nx+2) none st.ep 0 (out.length+1),by omega,by simp; omega,by simp; omega,by simp [hol],hln2,.inl ⟨by first | omega | (simp; omega),by simpa using hfl⟩,by simp [v2],by simp,by simp [v4],by simp,by omega,by omega,by simp,by simp <;> omega,by simp [S1,n0,q0,q1,q2,q3,n0,n1,n2,n3,m1,m2,m3,y1,o1',hp1',hp3,yp],by simp [n0,y1,y2,y3,ho3,o3',hp1',hp3,yp],by simp,(.inr ⟨st.nx+2,st.ep,by simp,by omega,by simp,by omega,by simp [nd,n0,n1,n2,n3,m1,m2,m3,yo,hp1',hp3,yp]⟩)⟩
 ·have hie:i=Q.length:=by omega
  have hnone:Q[i]?=none:=List.getElem?_eq_none (by omega)
  obtain ⟨_,hfl⟩:Q.length≤31∧zcx n Q i out=R:=by
   rcases hfl with h | ⟨_,h,_⟩
   ·exact h
   ·omega
  rw [zoz hnone] at hfl
  subst hfl
  rcases hN with ⟨rfl,rfl⟩ | ⟨p,e',rfl,hp5,hpx,hpo,hSp⟩
  ·simp [-getElem?_pos,ze3,v2,v3,v4,v5,S1,S3,So,hlt]
  ·have hp3 : ¬ p=2:=by omega
   have hp1 : ¬ p=1:=by omega
   simp [-getElem?_pos,ze3,v2,v3,v4,v5,S1,S3,So,hlt,hSp,hp3,hp1]
def toO (s:SN):Prop := ∀ q:Bool,RUN T zeh [.agg (snA q s)]=some ([.agg (snC true s)],[])
theorem zye {ks:List SN} (hl:ks.length≤1048576) (h : ∀ k∈ks,toO k) (q:Bool):RUN T zhm [.sl 4 (snL q ks)]=some ([.own 4 (snL true ks)],[]):=by
 refine zcj zn4 rfl ?_
 have hr:zbf 48 ks.length=true:=by simp [zbf]; omega
 simp [zj5,zj6,hr]
 refine zfm (fun n st => ∃ i:Nat,i+n=ks.length∧st.V 0 = .sl 4 (snL q ks)∧st.V 3 = .ref 0 none 0 0 ks.length∧st.V 4=iv i∧0<st.nx∧st.S 0=some (.row 4 (fil (snC true) [iv 0,iv 0,iv 0,.own 4 []] ks i))) ?_ ks.length _ ⟨0,by simp [zvj]⟩
 rintro n st ⟨i,hi,v0,v3,v4,hnx,hS⟩
 have z:=fr hnx
 by_cases hlt:i<ks.length
 ·obtain ⟨k,hk⟩ : ∃ k,ks[i]?=some k:=⟨_,List.getElem?_eq_getElem hlt⟩
  have hw:=wS hlt (by omega:ks.length≤9223372036854775807)
  have hg:=zw6 (f:=snC true) (z:=[iv 0,iv 0,iv 0,.own 4 []]) hlt
  have hs:=zz4 (f:=snC true) (z:=[iv 0,iv 0,iv 0,.own 4 []]) hk
  have hx:=ziz (q:=q) hk
  have e:=h k (List.mem_of_getElem? hk) q
  obtain ⟨f,c,v,kk⟩:=k
  simp only [snC] at hx
  simp only [snC,zeb,if_true] at hs e
  simp only [snA] at e
  simp [-getElem?_pos,zlh,v0,v3,v4,hS,z,hlt,hx,hw,hg,hs,e,zzg (Nat.le_of_lt hlt)]
  exact zcw (n-1) (by omega) ⟨i+1,by omega,by simp [v0],by simp [v3],by simp,by simp,by simp [z]⟩
 ·have e:=zwd (f:=snC true) (z:=[iv 0,iv 0,iv 0,.own 4 []]) (by omega:i=ks.length)
  rw [← zjd] at e
  simp [-getElem?_pos,zlh,v0,v3,v4,hS,hlt,e]
theorem zol : ∀ (n:Nat) (s:SN),szN s<n→LnN 1048576 s→toO s
 | 0,s,h,_=>by omega
 | n+1,.mk f c v ks,h,hL=>by
  intro q
  have hz:szN (.mk f c v ks)=szK ks:=by simp [szN]
  cases hL with
  | mk hl ht =>
  have e:=zye hl (fun k hk=>zol n k (by have:=zh8 hk; omega) (ht k hk)) q
  simp only [snA,snC,zeb,if_true]
  refine zcj znw rfl ?_
  simp [-getElem?_pos,zjo,zjp,e]
theorem zuu (q:Bool) (s:SN) (hL:LnN 1048576 s):RUN T zeh [.agg (snA q s)]=some ([.agg (snC true s)],[]):=zol (szN s+1) s (by omega) hL q
def szO (s:SN):Prop := ∀ left:Int,0≤left→left≤1048576→RUN T zf6 [.agg (snC false s),iv left]=some ([iv (if left-szN s<0 then -1 else left-szN s)],[])
theorem zzs {ks:List SN} (hl:ks.length≤9223372036854775807) (h : ∀ k∈ks,szO k) (left:Int) (h0:0≤left) (h1:left≤1048576):RUN T zhl [.sl 4 (snL false ks),iv left]=some ([iv (if left-szK ks<0 then -1 else left-szK ks)],[]):=by
 have hlen:=zhv ks
 have w1:=w64 (x:=left-ks.length) (by omega) (by omega)
 by_cases c0:left-ks.length<0
 ·rw [if_pos (by omega)]
  refine zcj zll rfl ?_
  simp [-getElem?_pos,zim,zio,w1,c0]
 refine zcj zll rfl ?_
 simp [-getElem?_pos,zim,zio,w1,c0]
 refine zfm (fun n st => ∃ i:Nat,i+n=ks.length∧st.V 0 = .sl 4 (snL false ks)∧(∃ r:Int,st.V 1=iv r∧r=left-ks.length+i-szK (ks.take i)∧0≤r)∧st.V 5=iv i) ?_ ks.length _ ⟨0,by omega,by simp,⟨left-ks.length,by simp,by simp [szK],by omega⟩,by simp⟩
 rintro n st ⟨i,hi,v0,⟨r,v1,hr,hr0⟩,v5⟩
 by_cases hlt:i<ks.length
 ·obtain ⟨k,hk⟩ : ∃ k,ks[i]?=some k:=⟨_,List.getElem?_eq_getElem hlt⟩
  have hk':=ziz (q:=false) hk
  have hw:=wS hlt (by omega:ks.length≤9223372036854775807)
  have htk:=zpb hk
  have hsp:=znk ks (i+1)
  have hdl:=zhv (ks.drop (i+1))
  rw [List.length_drop] at hdl
  have hk2:i≤szK (ks.take i):=by have:=zhv (ks.take i); simp at this; omega
  have e:=h k (List.mem_of_getElem? hk) r hr0 (by omega)
  obtain ⟨f,c,v,kk⟩:=k
  simp only [snC,zeb,Bool.false_eq_true,if_false] at hk' e
  by_cases c1:r-szN (.mk f c v kk)<0
  ·rw [if_pos c1] at e
   rw [if_pos (by omega)]
   simp [-getElem?_pos,zj4,v0,v1,v5,hlt,hk',e]
  ·rw [if_neg c1] at e
   simp [-getElem?_pos,zj4,v0,v1,v5,hlt,hk',e,c1,hw]
   exact zcw (n-1) (by omega) ⟨i+1,by omega,by simp [v0],⟨r-szN (.mk f c v kk),by simp,by rw [htk]; omega,by omega⟩,by simp⟩
 ·have e:i=ks.length:=by omega
  subst e
  rw [List.take_length] at hr
  rw [if_neg (by omega)]
  simp [-getElem?_pos,zj4,v0,v1,v5,hlt]
  omega
theorem zpr : ∀ (n:Nat) (s:SN),szN s<n→LnN 9223372036854775807 s→szO s
 | 0,s,h,_=>by omega
 | n+1,.mk f c v ks,h,hL=>by
  intro left h0 h1
  have hz:szN (.mk f c v ks)=szK ks:=by simp [szN]
  cases hL with
  | mk hl ht =>
  have e:=zzs hl (fun k hk=>zpr n k (by have:=zh8 hk; omega) (ht k hk)) left h0 h1
  rw [hz]
  simp only [snC,zeb,Bool.false_eq_true,if_false]
  refine zcj znv rfl ?_
  by_cases c1:left-szK ks<0
  ·rw [if_pos c1] at e ⊢
   simp [-getElem?_pos,zik,zil,e]
  ·rw [if_neg c1] at e ⊢
   simp [-getElem?_pos,zik,zil,e,c1]
theorem zuv (s:SN) (hL:LnN 9223372036854775807 s) (left:Int) (h0:0≤left) (h1:left≤1048576):RUN T zf6 [.agg (snC false s),iv left]=some ([iv (if left-szN s<0 then -1 else left-szN s)],[]):=zpr (szN s+1) s (by omega) hL left h0 h1
theorem zr3 : ∀ (n:Nat) (c:PV),zdf (za6 [.int .i64,.int .i64,.int .i64]) 4 n c→∃ ks:List SN,c = .sl 4 (snL false ks)∧ks.length≤9223372036854775807∧∀ k∈ks,LnN 9223372036854775807 k
 | 0,c,h=>⟨[],by rw [h]; simp [snL],by simp,by simp⟩
 | n+1,c,h=>by
  obtain ⟨es,h1,h2,h3⟩:=h
  have key : ∀ es:List (List PV),(∀ cs∈es,∃ a x,cs=a++[x]∧za6 [.int .i64,.int .i64,.int .i64] a∧zdf (za6 [.int .i64,.int .i64,.int .i64]) 4 n x)→∃ ks:List SN,es=snL false ks∧∀ k∈ks,LnN 9223372036854775807 k:=by
   intro es
   induction es with
   | nil=>intro _; exact ⟨[],by simp [snL],by simp⟩
   | cons e es ih =>
    intro h
    obtain ⟨ks,k1,k2⟩:=ih (fun cs hcs=>h cs (by simp [hcs]))
    obtain ⟨a,x,e1,e2,e3⟩:=h e (by simp)
    obtain ⟨c1,r1,rfl,⟨n1,rfl,_⟩,e2⟩:=e2
    obtain ⟨c2,r2,rfl,⟨n2,rfl,_⟩,e2⟩:=e2
    obtain ⟨c3,r3,rfl,⟨n3,rfl,_⟩,e2⟩:=e2
    simp only [za6] at e2
    subst e2
    obtain ⟨kk,rfl,q1,q2⟩:=zr3 n x e3
    refine ⟨.mk n1 n2 n3 kk::ks,?_,?_⟩
    ·rw [e1,k1]
     simp [snL,snC,zeb]
    ·intro k hk
     rcases List.mem_cons.mp hk with rfl | hk
     ·exact .mk q1 q2
     ·exact k2 k hk
  obtain ⟨ks,k1,k2⟩:=key es h3
  have hlen:ks.length=es.length:=by rw [k1]; simp
  exact ⟨ks,by rw [h1,k1],by rw [hlen]; exact h2,k2⟩
theorem zxu {c:PV} (h:zhg true [.int .i64,.int .i64,.int .i64,.rs [.int .i64,.int .i64,.int .i64]] c) : ∃ s:SN,c = .agg (snA false s)∧LnN 9223372036854775807 s:=by
 obtain ⟨cs,rfl,h⟩:=h
 obtain ⟨c1,r1,rfl,⟨n1,rfl,_⟩,h⟩:=h
 obtain ⟨c2,r2,rfl,⟨n2,rfl,_⟩,h⟩:=h
 obtain ⟨c3,r3,rfl,⟨n3,rfl,_⟩,h⟩:=h
 obtain ⟨c4,r4,rfl,⟨n,hs⟩,h⟩:=h
 simp only [za6] at h
 subst h
 obtain ⟨ks,rfl,q1,q2⟩:=zr3 n c4 hs
 exact ⟨.mk n1 n2 n3 ks,rfl,.mk q1 q2⟩
theorem zog {N:Nat} : ∀ (n:Nat) (s:SN),szN s<n→szN s≤N→LnN N s
 | 0,s,h,_=>by omega
 | n+1,.mk f c v ks,h,hN=>by
  have hz:szN (.mk f c v ks)=szK ks:=by simp [szN]
  have:=zhv ks
  refine .mk (by omega) (fun k hk => ?_)
  have:=zh8 hk
  exact zog n k (by omega) (by omega)
set_option maxHeartbeats 2000000 in
set_option maxRecDepth 4000 in
theorem zzz (s:SN) (hs:LnN 9223372036854775807 s):RUN T zih [.agg (snA false s)]=some ([bv true],[]):=by
 have s1:=zuv s hs 1048576 (by omega) (by omega)
 have q1:=zuq true true s hs
 have t1:=fun h=>zuu false s h
 have z1:=fun n=>zog (N:=n) (szN s+1) s (by omega)
 have a1:=zut true s hs
 have a2:=zus true s hs
 have hfl:(zdg s).length≤32:=by
  have:=znr 32 [s] 0 []
  unfold zdg
  simpa using this
 have q2:=zul (zdg s) (by omega)
 have m4:=zun (zdg s) 1 (by omega) (by omega)
 have m5:=zup 1 (zdg s).length (by omega) (by omega)
 have n2 : ¬ (1+5*((zdg s).length:Int)<0):=by omega
 have hml:(zco 1 (zdg s).length).length=(zdg s).length:=by simp [zco]
 by_cases d1:(1048576:Int)-szN s<0
 ·rw [if_pos d1] at s1
  obtain ⟨af,ac,av,ak⟩:=s
  simp only [snA,snC,zeb,if_true,if_false,Bool.false_eq_true] at s1 ⊢
  refine zcj zkj rfl ?_
  simp [-getElem?_pos,zii,zij,s1]
 rw [if_neg d1] at s1
 have t1:=t1 (z1 1048576 (by omega))
 obtain ⟨F,hF⟩ : ∃ F,F=zdg s:=⟨_,rfl⟩
 rw [← hF] at *
 clear hF hfl
 obtain ⟨af,ac,av,ak⟩:=s
 have hz:szN (.mk af ac av ak)=szK ak:=by simp [szN]
 rw [hz] at s1 d1
 have m1:=zur af ac av ak 1 (by omega) (by omega)
 have n1 : ¬ (1+3*(szK ak:Int)<0):=by omega
 have hkl:=zja ak 1
 simp only [snA,snC,zeb,if_true,if_false,Bool.false_eq_true] at s1 q1 t1 a1 a2 m1 ⊢
 generalize mkK 1 ak=mk' at *
 generalize zco 1 F.length=F' at *
 refine zcj zkj rfl ?_
 simp [-getElem?_pos,zii,zij,s1,d1,t1,a1,a2,q1,q2,m1,m4,m5,n1,n2,hml,hkl]
end Go.Pe
