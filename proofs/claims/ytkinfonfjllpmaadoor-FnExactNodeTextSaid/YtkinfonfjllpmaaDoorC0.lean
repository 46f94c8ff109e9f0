/- What each function answers by the evaluator,and the law; for each answer its own conditions stand ahead of it. -/
import Derived.Test.YtkinfonfjllpmaaDoorK0
import Derived.Test.YtkinfonfjllpmaaDoorEvB2
import Derived.IntWalk
import Derived.Lib.ItoaLen
set_option linter.all false
namespace Go.Pe
open Go
theorem w64 {x:Int} (h1 : -9223372036854775808≤x) (h2:x≤9223372036854775807):IntKind.i64.wrap x=x:=IntWalk.i64_in x ⟨h1,h2⟩
@[simp] theorem yev {x:Int} (h1 : -9223372036854775808≤x) (h2:x≤9223372036854775807):IntKind.i64.wrap x=x:=w64 h1 h2
structure Nd where
 f:Int
 c:Int
 l:Int
 r:Int
 v:Int
deriving DecidableEq
def nd (n:Nd):List PV:=[iv n.f,iv n.c,iv n.l,iv n.r,iv n.v]
@[simp] theorem z1p (a b c d e:Int):RUN T zhr [.agg [iv a,iv b,iv c,iv d,iv e]]=some ([bv (decide (a = -1))],[]):=by
 refine zec zoa rfl ?_
 simp [zj6,zjv]
@[simp] theorem zgq (a b c:Int):RUN T ze7 [iv a,iv b,iv c]=some ([bv (decide (b≤a) && decide (a≤c))],[]):=by
 refine zec zoc rfl ?_
 simp [zka,zj3]
 refine zgm (fun h => ?_) (fun h => ?_) <;> simp [h]
@[simp] theorem z1q (a b c d e:Int):RUN T zhp [.agg [iv a,iv b,iv c,iv d,iv e]]=some ([bv (!decide (a = -1))],[]):=by
 refine zec zn6 rfl ?_
 simp [zjy,zjv]
@[simp] theorem zgr (a b c:Int):RUN T ze5 [iv a,iv b,iv c]=some ([bv (decide (b≤a) && decide (a≤c))],[]):=by
 refine zec zn8 rfl ?_
 simp [zj2,zj3]
 refine zgm (fun h => ?_) (fun h => ?_) <;> simp [h]
@[simp] theorem z1r (a b c d e:Int):RUN T zgp [.agg [iv a,iv b,iv c,iv d,iv e]]=some ([.agg [iv a,iv b,iv c,iv d,iv e]],[]):=by
 refine zec zn4 rfl ?_
 simp [zjw,zjx]
def z0a {α:Type} (p:α→Bool) (l:List α):Int:=match l.findIdx? p with
 | some i=>(i:Int)
 | none => -1
def zta (k:Int) (n:Nd):Bool := !decide (n.f = -1) && (decide (n.l=k) || decide (n.r=k))
def par (t:List Nd) (k:Int):Int:=z0a (zta k) t
def zg5 (l:List Int):List (List PV):=l.map fun n=>[iv n]
@[simp] theorem z8t (l:List Int):(zg5 l).length=l.length:=by simp [zg5]
@[simp] theorem ya7:zg5 []=[]:=rfl
def anc (t:List Nd):Nat→Int→Option (List Int)
 | 0,_=>none
 | n+1,k=>if par t k<0 then some [] else (anc t n (par t k)).map (par t k :: ·)
def way (t:List Nd) (k:Int):List Int:=if 0≤k∧k≤t.length-1 then match anc t 32 k with
  | some l=>(k::l).reverse
  | none=>[]
 else []
def upto (k:Int) (n:Nat):List Int:=(List.range n).map fun (i:Nat)=>k+(i:Int)
@[simp] theorem yht (k:Int) (n:Nat):(upto k n).length=n:=by simp [upto]
theorem zx4 {α:Type} {l:List α} {i:Nat} {x:α} (h:l[i]?=some x):l.drop i=x::l.drop (i+1):=by
 obtain ⟨h1,h2⟩:=List.getElem?_eq_some_iff.mp h
 rw [List.drop_eq_getElem_cons h1,h2]
def inI (n:Int):Prop := -9223372036854775808≤n∧n≤9223372036854775807
def wfN (n:Nd):Prop:=inI n.f∧inI n.c∧inI n.l∧inI n.r∧inI n.v
structure Cfg where
 ro:Int
 de:Int
 bi:Int
 la:Int
 rw:Int
 nu:Int
 dn:Int
 sg:List Int
def zay (n a b:Int):Bool:=decide (a≤n) && decide (n≤b)
def zi9 (c:Cfg):Bool:=zay c.ro 1 8 && zay c.de 0 4 && zay c.bi 2 8 && zay c.la 1 100 && zay c.rw 1 20 && zay c.dn 1 1000 && zay c.nu 1 c.dn && decide ((c.sg.length:Int)≤4) && c.sg.all fun n=>zay n (-1) 1
theorem zht (a b c:Int):RUN T ze7 [iv a,iv b,iv c]=some ([bv (zay a b c)],[]):=zgq a b c
theorem zhu (a b c:Int):RUN T ze5 [iv a,iv b,iv c]=some ([bv (zay a b c)],[]):=zgr a b c
def fdv (a b:Int):Int×Bool:=if b=0∨(b = -1∧a = -9223372036854775808) then (0,false) else (a.fdiv b,true)
theorem zkf {n a b:Int}:zay n a b=true↔a≤n∧n≤b:=by simp [zay]
def znk (v:Int):Bool:=zay v (-1099511627776) 1099511627776
theorem zlo (a b c d e a' b' c' d' e':Int):eqP [.i .i64,.i .i64,.i .i64,.i .i64,.i .i64] (.agg [iv a,iv b,iv c,iv d,iv e]) (.agg [iv a',iv b',iv c',iv d',iv e'])=some (decide (a=a'∧b=b'∧c=c'∧d=d'∧e=e')):=by
 simp only [eqP,za5,zv1,Option.bind_some]
 by_cases h1:a=a' <;> by_cases h2:b=b' <;> by_cases h3:c=c' <;> by_cases h4:d=d' <;> by_cases h5:e=e' <;> simp [h1,h2,h3,h4,h5]
def zf1 (n:Int):Bool:=zay n (-2147483647) 2147483647
@[simp] theorem z1s (v:Int):RUN T zhq [iv v]=some ([bv (zf1 v)],[]):=by
 refine zec zn9 rfl ?_
 simp [zj4,zjv,zf1,zay]
@[simp] theorem z1t (v:Int):RUN T zhs [iv v]=some ([bv (zf1 v)],[]):=by
 refine zec zod rfl ?_
 simp [zkc,zjv,zf1,zay]
structure zws (F:Int) (x:Nd) (i n m:Int):Prop where
 lo:n≤x.l
 lt:i<x.l
 r:x.r=x.l+1
 hi:x.r<m
 f:0≤x.f∧x.f≤F-1
 c:zf1 x.c=true
 v:x.v=0
structure zti (t:List Nd) (F:Int):Prop where
 leaf : ∀ (j:Nat) (x:Nd),t[j]?=some x→x.f = -1→x.c=0∧x.l=0∧x.r=0∧znk x.v=true
 inner : ∀ (j:Nat) (x:Nd),t[j]?=some x→x.f ≠ -1→zws F x j 1 t.length
 ord : ∀ (j j':Nat) (x y:Nd),j<j'→t[j]?=some x→t[j']?=some y→x.f ≠ -1→y.f ≠ -1→x.r<y.l
 cover : ∀ k:Int,1≤k→k<t.length→∃ (j:Nat) (x:Nd),t[j]?=some x∧x.f ≠ -1∧(x.l=k∨x.r=k)
 pos:1≤t.length
def adj (p:Int→Int→Bool):List Int→Bool
 | a::b::r=>p a b || adj p (b::r)
 | _=>false
def cel (q:Bool) (l:List Int):PV:=if q then .own 1 (zg5 l) else .sl 1 (zg5 l)
@[simp] theorem z78 (q:Bool) (l:List Int):fz (cel q l) = .sl 1 (zg5 l):=by cases q <;> simp [cel]
def rws (q:Bool) (L:List (List Int)):List (List PV):=L.map fun l=>[cel q l]
@[simp] theorem z63 (q:Bool) (L:List (List Int)):(rws q L).length=L.length:=by simp [rws]
def zxa (l:List Int):Bool := !adj (fun a b=>decide (b≤a)) l && l.all zf1 && decide ((l.length:Int)≤7)
def zkj:List (List Int)→Nat
 | []=>0
 | l::_=>l.length
theorem zry {s:St} {d:Option Dst} {op:IOp} {g:Opd} {v:Bool} {x:PV}:(yv s ⟨d,op,some (g,v)⟩=some x)=(Ob' (ze0 v (g.get s)) fun t=>Br t (WI (fun _=>[]) (fun _ _=>none) op s (fun y _=>y=x)) (PV.v Go.undef=x)):=by
 simp only [yv,zol,WI,Ob',Br,Option.map_eq_some_iff,Option.bind_eq_some_iff,eq_iff_iff]
 constructor
 ·rintro ⟨⟨y,s'⟩,⟨t,h1,h2⟩,h3⟩
  refine ⟨t,h1,fun ht => ?_,fun ht => ?_⟩ <;> subst ht
  ·exact ⟨y,s',by simpa using h2,h3⟩
  ·simp at h2; obtain ⟨rfl,rfl⟩:=h2; exact h3
 ·rintro ⟨t,h1,h2,h3⟩
  cases t with
  | true=>obtain ⟨y,s',h4,h5⟩:=h2 rfl; exact ⟨(y,s'),⟨true,h1,by simpa using h4⟩,h5⟩
  | false=>exact ⟨_,⟨false,h1,rfl⟩,h3 rfl⟩
@[simp] theorem ydo {s:St} {d:Option Dst} {op:IOp} {g:Opd} {v:Bool} {x:PV} {n:Nat} {r:List (zaa×PV×Nat)}:zba s ((⟨d,op,some (g,v)⟩,x,n+1)::r)=((Ob' (ze0 v (g.get s)) fun t=>Br t (WI (fun _=>[]) (fun _ _=>none) op s (fun y _=>y=x)) (PV.v Go.undef=x))∧zba s r):=by
 simp only [zba,zry]
@[simp] theorem z7a {V E:Nat→PV} {d:Option Dst} {op:IOp} {g:Opd} {v:Bool} {x:PV} {n:Nat} {s:St} {ms:List St}:zaq V E ⟨d,op,some (g,v)⟩ x (n+1) (s::ms)=((Ob' (ze0 v (g.get { s with V:=V,E:=E })) fun t=>Br t (WI (fun _=>[]) (fun _ _=>none) op { s with V:=V,E:=E } (fun y _=>y=x)) (PV.v Go.undef=x))∧zaq V E ⟨d,op,some (g,v)⟩ x n ms):=by
 simp only [zaq,zry]
def zz0 (c v:List (List Int)) (f:Nat):Bool:=match c[f]?,v[f]? with
 | some a,some b=>zxa a && decide ((b.length:Int)=zkj v) && b.all fun x=>zay x 0 a.length
 | _,_=>true
def zl8 (c v:List (List Int)):Bool:=zay c.length 1 4 && decide ((v.length:Int)=c.length) && zay (zkj v) 1 40 && (List.range c.length).all (zz0 c v)
def zuf (x:Int):Bool:=zay x (-2199023255552) 2199023255552
def zki (c v:List (List Int)) (lab:List Int) (g:Cfg):Bool:=zl8 c v && zi9 g && decide ((lab.length:Int)=zkj v) && lab.all zuf
theorem zjt {n:Int} (h:(Lit.int .i64 n).wf=true) : -9223372036854775808≤n∧n≤9223372036854775807:=bounds_i64 h
theorem zu7 {P:Program} {l:List TypeId} (h:(l.all fun t=>P.readableRec t && decide (t<P.types.size))=true) : ∀ t∈l,P.readableRec t=true∧t<P.types.size:=by
 intro t ht
 have:=List.all_eq_true.mp h t ht
 simpa using this
theorem zyo {p:Bool×List TY} {pvs:List PV} (h:zb4 (fun p c=>zh3 p.1 p.2 c) [p] pvs) : ∃ a,pvs=[a]∧zh3 p.1 p.2 a:=by
 cases h with
 | cons h1 t=>cases t with
  | nil=>exact ⟨_,rfl,h1⟩
def zrb (B:List Int):List (List PV):=B.map fun n=>[.v (.int .u8 n)]
@[simp] theorem yb2 (B:List Int):(zrb B).length=B.length:=by simp [zrb]
def zky (rv:List RV) (io:Nat) (G:List PV×List PV→Prop) (_:Dm rv) (_:Dm G) (e:Ex) (s:St):Prop:=(e = .normal∨e = .ret)∧∃ r,zdv ⟨[],rv,.skip⟩ io s=some r∧G r
@[simp] theorem yia {rv:List RV} {io:Nat} {G:List PV×List PV→Prop} {s:St}:zky rv io G ⟨⟩ ⟨⟩ .normal s = ∃ r,zdv ⟨[],rv,.skip⟩ io s=some r∧G r:=by simp [zky]
@[simp] theorem z69 {rv:List RV} {io:Nat} {G:List PV×List PV→Prop} {s:St}:zky rv io G ⟨⟩ ⟨⟩ .ret s = ∃ r,zdv ⟨[],rv,.skip⟩ io s=some r∧G r:=by simp [zky]
def adi (a b:Int):Int×Bool:=if -9223372036854775808≤a+b∧a+b≤9223372036854775807 then (a+b,true) else (0,false)
def sbi (a b:Int):Int×Bool:=if -9223372036854775808≤a-b∧a-b≤9223372036854775807 then (a-b,true) else (0,false)
def zis (l:List ByteArray):List (List PV):=l.map fun s=>[.v (.string s)]
@[simp] theorem ygi (l:List ByteArray):(zis l).length=l.length:=by simp [zis]
def zng (q:Bool) (t:List Nd):PV:=if q then .own 5 (t.map nd) else .sl 5 (t.map nd)
@[simp] theorem yeu (q:Bool) (t:List Nd):fz (zng q t) = .sl 5 (t.map nd):=by cases q <;> simp [zng]
def trs (q:Bool) (M:List (List Nd)):List (List PV):=M.map fun t=>[zng q t]
@[simp] theorem z5q (q:Bool) (M:List (List Nd)):(trs q M).length=M.length:=by simp [trs]
def rwS (q:Bool) (l:List ByteArray):PV:=if q then .own 1 (zis l) else .sl 1 (zis l)
@[simp] theorem yek (q:Bool) (l:List ByteArray):fz (rwS q l) = .sl 1 (zis l):=by cases q <;> simp [rwS]
def zof (q:Bool) (L:List (List ByteArray)):List (List PV):=L.map fun l=>[rwS q l]
@[simp] theorem z96 (q:Bool) (L:List (List ByteArray)):(zof q L).length=L.length:=by simp [zof]
def zzz (p:Nat→Bool) (i:Nat):List Int:=((List.range i).filter p).map fun (j:Nat)=>(j:Int)
@[simp] theorem ybq (p:Nat→Bool):zzz p 0=[]:=rfl
structure Wd where
 n:Bool
 h:Int
 l:Int
deriving DecidableEq
def wok (w:Wd):Bool:=decide (w.h<9223372036854775808) && (!w.n || decide (0<w.h) || decide (0<w.l))
def mag (w:Wd):Int:=w.h*18446744073709551616+w.l
def mkW (n:Bool) (m:Int):Wd:=⟨n && decide (0<m),m / 18446744073709551616,m % 18446744073709551616⟩
def zh6:Wd:=⟨false,0,0⟩
def zl7 (a b:Int):Int:=if a<b then -1 else if b<a then 1 else 0
def zqb (a b:Wd):Int:=if zl7 a.h b.h=0 then zl7 a.l b.l else zl7 a.h b.h
def z0x (a b:Int):Wd:=mkW (decide (a<0) != decide (b<0)) ((a.natAbs:Int)*b.natAbs)
def zif (w:Wd):Int:=if w.n then -mag w else mag w
def zsu (a b:Wd):Wd×Bool :=
 if wok a && wok b then
  if ((zif a+zif b).natAbs:Int)<170141183460469231731687303715884105728 then (mkW (decide (zif a+zif b<0)) (zif a+zif b).natAbs,true) else (zh6,false)
 else (zh6,false)
def zk9 (w:Wd) (k:Int):Wd×Bool:=if wok w=true∧mag w*k.natAbs<170141183460469231731687303715884105728 then (mkW (w.n != decide (k<0)) (mag w*k.natAbs),true) else (zh6,false)
def zmc (w:Wd):Bool:=w.n && !(decide (w.h=0) && decide (w.l=0))
def zyu (a b:Wd):Int:=if zmc a=true then (if zmc b=true then zqb b a else -1) else (if zmc b=true then 1 else zqb a b)
def zsw (t:List Nd) (k:Nat) (f c a b:Int):List Nd:=t.set k ⟨f,c,t.length,t.length+1,0⟩++[⟨-1,0,0,0,a⟩,⟨-1,0,0,0,b⟩]
def pos (x:Int) (l:List Int):Nat→Nat
 | 0=>0
 | k+1=>if x<l.getD k 0 then pos x l k else k+1
def zrz (x:Int) (l:List Int) (k P:Nat):Prop:=pos x l k=P
theorem zrz.z {x:Int} {l:List Int} {P:Nat} (h:zrz x l 0 P):0=P:=h
theorem zti.wf {t:List Nd} {F:Int} (h:zti t F) (hF:F≤100) (hl:t.length≤31) : ∀ n∈t,wfN n:=by
 intro n hn
 obtain ⟨j,hj⟩:=List.getElem?_of_mem hn
 unfold wfN inI
 by_cases hf:n.f = -1
 ·obtain ⟨h1,h2,h3,h4⟩:=h.leaf j n hj hf
  have:=zkf.mp h4
  omega
 ·have hi:=h.inner j n hj hf
  have h1:=zkf.mp hi.c
  have h2:=hi.f
  have h3:=hi.lo
  have h4:=hi.r
  have h5:=hi.hi
  have h6:=hi.v
  omega
structure Sl where
 n:Int
 g:Int
deriving DecidableEq
def slc (x:Sl):List PV:=[iv x.n,iv x.g]
def zip (l:List Sl):List (List PV):=l.map slc
@[simp] theorem ydq (l:List Sl):(zip l).length=l.length:=by simp [zip]
def zga (a b:Sl):Sl×Bool:=if ((adi a.n b.n).2 && (adi a.g b.g).2)=true then (⟨(adi a.n b.n).1,(adi a.g b.g).1⟩,true) else (⟨0,0⟩,false)
def atI {α:Type} (l:List α) (i:Int):Option α:=if 0≤i then l[i.toNat]? else none
def zpu (b g:List Int):List Int→List Sl→Option (List Sl)
 | [],h=>some h
 | r::rs,h=>match atI b r,atI g r with
  | some x,some y=>match atI h x with
   | some s=>if (zga s ⟨1,y⟩).2=true then zpu b g rs (h.set x.toNat (zga s ⟨1,y⟩).1) else none
   | none=>none
  | _,_=>none
def zqe (b g rows:List Int) (k:Int):List Sl×Bool:=if zay k 1 8=true then match zpu b g rows (List.replicate k.toNat ⟨0,0⟩) with
  | some h=>(h,true)
  | none=>([],false)
 else ([],false)
def znz (q:Bool) (l:List Sl):PV:=if q then .own 2 (zip l) else .sl 2 (zip l)
@[simp] theorem z6b (q:Bool) (l:List Sl):fz (znz q l) = .sl 2 (zip l):=by cases q <;> simp [znz]
def rss (q:Bool) (H:List (List Sl)):List (List PV):=H.map fun l=>[znz q l]
@[simp] theorem yg8 (q:Bool) (H:List (List Sl)):(rss q H).length=H.length:=by simp [rss]
def zr9 (g rows:List Int):List (List Int)→List (List Int)→Option (List (List Sl))
 | x::c,y::v=>if (zqe y g rows (x.length+1)).2=true then (zr9 g rows c v).map ((zqe y g rows (x.length+1)).1 :: ·) else none
 | _,_=>some []
def zqk (c v:List (List Int)) (g rows:List Int):List (List Sl)×Bool:=if zl8 c v=true then match zr9 g rows c v with
  | some h=>(h,true)
  | none=>([],false)
 else ([],false)
def zrj (k:Int) (n:Nat):List Sl:=(List.range n).map fun (i:Nat)=>⟨k+2*(i:Int),k+2*(i:Int)+1⟩
@[simp] theorem ybs (k:Int) (n:Nat):(zrj k n).length=n:=by simp [zrj]
structure Fr where
 w:Wd
 d:Int
def frB (f:Fr):Bool:=wok f.w && zay f.d 1 1000000
def zje:Fr:=⟨zh6,0⟩
def zpn (w:Wd) (d:Int):Fr×Bool:=if frB ⟨w,d⟩=true then (⟨w,d⟩,true) else (zje,false)
def zgh (a b:Fr):Wd×Wd×Bool:=if (frB a && frB b)=true then ((zk9 a.w b.d).1,(zk9 b.w a.d).1,(zk9 a.w b.d).2 && (zk9 b.w a.d).2) else (zh6,zh6,false)
def zji (a b:Fr):Int×Bool:=if (zgh a b).2.2=true then (zyu (zgh a b).1 (zgh a b).2.1,true) else (0,false)
def zzy (a b:Fr):Fr×Bool:=if (zgh a b).2.2=true then (if (zsu (zgh a b).1 (zgh a b).2.1).2=true then zpn (zsu (zgh a b).1 (zgh a b).2.1).1 (a.d*b.d) else (zje,false)) else (zje,false)
structure Cnd where
 f:Int
 b:Int
 a:Sl
 z:Sl
deriving DecidableEq
def cnd (c:Cnd):List PV:=[iv c.f,iv c.b,iv c.a.n,iv c.a.g,iv c.z.n,iv c.z.g]
structure Bd where
 lo:Int
 hi:Int
def zs7 (b:Bd):Bool:=decide (b.lo≤b.hi) && znk b.lo && znk b.hi
def zi7 (x lo hi:Int):Int:=if x<lo then lo else if hi<x then hi else x
def zr6 (n l:Int):Bool:=zay n 0 40 && zay l 1 100
def zjn (s:Sl) (l:Int) (b:Bd):Int×Bool:=if (zr6 s.n l && zs7 b)=true then (zi7 (fdv s.g (s.n+l)).1 b.lo b.hi,true) else (0,false)
def zhd (s:Sl) (l:Int):Fr×Bool:=if zr6 s.n l=true then zpn (z0x s.g s.g) (s.n+l) else (zje,false)
def zeq (c:Cnd) (l:Int):Fr×Bool:=if ((zhd c.a l).2 && (zhd c.z l).2)=true then zzy (zhd c.a l).1 (zhd c.z l).1 else (zje,false)
def zhe (c:Cfg) (b:Bd) (x:Cnd):Int×Int×Bool:=if ((zjn x.a c.la b).2 && (zjn x.z c.la b).2)=true then ((zjn x.a c.la b).1,(zjn x.z c.la b).1,true) else (0,0,false)
def znh (c:Cfg) (f:Int):Int:=(atI c.sg f).getD 0
def zup (s l r:Int):Bool:=if s=1 then decide (l≤r) else if s = -1 then decide (r≤l) else true
def zvs (x:Cnd) (l:Int):Bool:=(zeq x l).2 && ((zga x.a x.z).2 && ((zhd (zga x.a x.z).1 l).2 && ((zji (zeq x l).1 (zhd (zga x.a x.z).1 l).1).2 && decide (0<(zji (zeq x l).1 (zhd (zga x.a x.z).1 l).1).1))))
def zu3 (a b:Cnd):Bool:=decide (a.f<b.f) || (decide (a.f=b.f) && decide (a.b<b.b))
def zyb (a b:Cnd) (l:Int):Bool:=(zeq a l).2 && ((zeq b l).2 && ((zji (zeq a l).1 (zeq b l).1).2 && (decide (0<(zji (zeq a l).1 (zeq b l).1).1) || (decide ((zji (zeq a l).1 (zeq b l).1).1=0) && zu3 a b))))
def zpo (c:Cfg) (b:Bd) (x:Cnd):Bool:=zi9 c && ((zhe c b x).2.2 && (decide (c.rw≤x.a.n) && (decide (c.rw≤x.z.n) && (zup (znh c x.f) (zhe c b x).1 (zhe c b x).2.1 && zvs x c.la))))
def zrx (l:List Cnd):List (List PV):=l.map cnd
@[simp] theorem z6r (l:List Cnd):(zrx l).length=l.length:=by simp [zrx]
def noB (c:Cfg) (b:Bd) (x y:Cnd):Bool := !zpo c b y || !zyb y x c.la
def zwl (c:Cfg) (b:Bd) (l:List Cnd) (x:Cnd):Bool:=zpo c b x && l.all (noB c b x)
def znb:Cnd:=⟨0,0,⟨0,0⟩,⟨0,0⟩⟩
def zxb (c:Cfg) (b:Bd) (l:List Cnd):Cnd×Bool:=match l.find? (zwl c b l) with
 | some x=>(x,true)
 | none=>(znb,false)
def zmx (a b:Sl):Sl×Bool:=if ((sbi a.n b.n).2 && (sbi a.g b.g).2)=true then (⟨(sbi a.n b.n).1,(sbi a.g b.g).1⟩,true) else (⟨0,0⟩,false)
def zpq (s:Sl):List Sl→Option (List Sl)
 | []=>some []
 | x::xs=>if (zga s x).2=true then (zpq (zga s x).1 xs).map ((zga s x).1 :: ·) else none
def zmo (h:List Sl):List Sl×Bool:=match zpq ⟨0,0⟩ h with
 | some l=>(l,true)
 | none=>([],false)
def zr4 (f:Int) (all:Sl) (least:Int):Int→List Sl→List Cnd→Option (List Cnd)
 | b,x::y::xs,acc=>if (zmx all x).2=true then zr4 f all least (b+1) (y::xs) (if least≤x.n∧least≤(zmx all x).1.n then acc++[⟨f,b,x,(zmx all x).1⟩] else acc) else none
 | _,_,acc=>some acc
def zv4 (l:List Sl):Sl:=l.getLast?.getD ⟨0,0⟩
def zoh (least:Int):Int→List (List Sl)→List Cnd→Option (List Cnd)
 | _,[],acc=>some acc
 | f,h::hs,acc=>if (zmo h).2=true then match zr4 f (zv4 (zmo h).1) least 0 (zmo h).1 acc with
  | some a=>zoh least (f+1) hs a
  | none=>none
  else none
def zvx (H:List (List Sl)) (least:Int):List Cnd:=(zoh least 0 H []).getD []
def zkg (a b:Int):Int:=(a+b) / 2
def zse (s:Int) (b:Bd) (l r:Int):Bd×Bd:=if zs7 b=true then (if s=1 then (⟨b.lo,zi7 (zkg l r) b.lo b.hi⟩,⟨zi7 (zkg l r) b.lo b.hi,b.hi⟩) else if s = -1 then (⟨zi7 (zkg l r) b.lo b.hi,b.hi⟩,⟨b.lo,zi7 (zkg l r) b.lo b.hi⟩) else (b,b)) else (b,b)
def zkr (c v:List (List Int)) (g:List Int) (cfg:Cfg) (rows:List Int) (b:Bd):Cnd×Bool:=if zki c v g cfg=true then (if (zqk c v g rows).2=true then zxb cfg b (zvx (zqk c v g rows).1 cfg.rw) else (znb,false)) else (znb,false)
def zzh (g:List Int) (rows:List Int):Sl:=⟨rows.length,(rows.map fun r=>(atI g r).getD 0).sum⟩
def zv0 (bins:List Int) (b r:Int):Bool:=match atI bins r with
 | some x=>decide (x≤b)
 | none=>false
def zzl (bins:List Int) (b r:Int):Bool:=match atI bins r with
 | some x => !decide (x≤b)
 | none=>false
def zw9 (bins rows:List Int) (b:Int):List Int:=rows.filter (zv0 bins b)
def zzd (bins rows:List Int) (b:Int):List Int:=rows.filter (zzl bins b)
structure Pnd where
 r:List Int
 b:Bd
 l:Int
def zxt (c v:List (List Int)) (cfg:Cfg) (x:Pnd) (k:Cnd):Pnd:=⟨zw9 ((atI v k.f).getD []) x.r k.b,(zse (znh cfg k.f) x.b (zhe cfg x.b k).1 (zhe cfg x.b k).2.1).1,x.l+1⟩
def zy1 (c v:List (List Int)) (cfg:Cfg) (x:Pnd) (k:Cnd):Pnd:=⟨zzd ((atI v k.f).getD []) x.r k.b,(zse (znh cfg k.f) x.b (zhe cfg x.b k).1 (zhe cfg x.b k).2.1).2,x.l+1⟩
def zl6 (g:List Int) (cfg:Cfg) (x:Pnd):Nd:=⟨-1,0,0,0,(zjn (zzh g x.r) cfg.la x.b).1⟩
def zza (c:List (List Int)) (k:Cnd) (n:Nat):Nd:=⟨k.f,(atI ((atI c k.f).getD []) k.b).getD 0,n,n+1,0⟩
def goes (c v:List (List Int)) (g:List Int) (cfg:Cfg) (x:Pnd):Bool:=decide (x.l<cfg.de) && (zkr c v g cfg x.r x.b).2
def zg1 (c v:List (List Int)) (g:List Int) (cfg:Cfg):Nat→List Pnd→Nat→List Nd→List Nd
 | 0,_,_,out=>out
 | n+1,q,i,out=>match q[i]? with
  | none=>out
  | some x=>if goes c v g cfg x=true then zg1 c v g cfg n (q++[zxt c v cfg x (zkr c v g cfg x.r x.b).1,zy1 c v cfg x (zkr c v g cfg x.r x.b).1]) (i+1) (out++[zza c (zkr c v g cfg x.r x.b).1 q.length]) else zg1 c v g cfg n q (i+1) (out++[zl6 g cfg x])
def zuq:Bd:=⟨-1099511627776,1099511627776⟩
def zyd (g:List Int):Pnd:=⟨(List.range g.length).map fun (i:Nat)=>(i:Int),zuq,0⟩
def pot (d:Int) (x:Pnd):Nat:=2 ^ (d+1-x.l).toNat-1
def zkl (d:Int) (l:List Pnd):Nat:=(l.map (pot d)).sum
theorem zzg (d:Int) (x:Pnd) (l:List Pnd):zkl d (x::l)=pot d x+zkl d l:=by simp [zkl]
theorem z00 {d:Int} {x:Pnd} (h:x.l≤d):1≤pot d x:=by
 unfold pot
 obtain ⟨k,hk⟩ : ∃ k,(d+1-x.l).toNat=k+1:=⟨(d-x.l).toNat,by omega⟩
 rw [hk,Nat.pow_succ]
 have:=Nat.one_le_two_pow (n:=k)
 omega
def zvg (n:Nat) (d:Int) (x:Pnd):Prop:=(∀ r∈x.r,0≤r∧r<n)∧x.r.length≤n∧0≤x.l∧x.l≤d
theorem zvf {c v:List (List Int)} {g:List Int} {cfg:Cfg} (h:zki c v g cfg=true):zl8 c v=true∧zi9 cfg=true∧g.length=zkj v∧(∀ x∈g,-2199023255552≤x∧x≤2199023255552):=by
 unfold zki at h
 simp only [Bool.and_eq_true,decide_eq_true_eq] at h
 exact ⟨h.1.1.1,h.1.1.2,by omega,fun x hx=>zkf.mp (List.all_eq_true.mp h.2 x hx)⟩
def upl (n:Nat):List Int:=(List.range n).map fun (i:Nat)=>(i:Int)
@[simp] theorem z89 (n:Nat):(upl n).length=n:=by simp [upl]
@[simp] theorem ycr:upl 0=[]:=rfl
def pnd (x:Pnd):List PV:=[.own 1 (zg5 x.r),iv x.b.lo,iv x.b.hi,iv x.l]
def zrk (l:List Pnd):List (List PV):=l.map pnd
@[simp] theorem yem (l:List Pnd):(zrk l).length=l.length:=by simp [zrk]
theorem zuc {c v:List (List Int)} {g:List Int} {cfg:Cfg} {n:Nat} {q:List Pnd} {i:Nat} {out:List Nd} {x:Pnd} (h:q[i]?=some x) (hg:goes c v g cfg x=false):zg1 c v g cfg (n+1) q i out=zg1 c v g cfg n q (i+1) (out++[zl6 g cfg x]):=by
 rw [zg1,h]; simp [hg]
structure GI (c v:List (List Int)) (g:List Int) (cfg:Cfg) (n:Nat) (q:List Pnd) (i:Nat) (out:List Nd):Prop where
 n1:i+n=32
 le:i≤q.length
 ql:q.length≤2*i+1
 ol:out.length=i
 po:zkl cfg.de (q.drop i)≤n
 ok : ∀ x∈q,zvg g.length cfg.de x
 go:zg1 c v g cfg n q i out=zg1 c v g cfg 32 [zyd g] 0 []
theorem GI.leaf {c v:List (List Int)} {g:List Int} {cfg:Cfg} {n:Nat} {q:List Pnd} {i:Nat} {out:List Nd} {x:Pnd} (h:GI c v g cfg n q i out) (hx:q[i]?=some x) (hg:goes c v g cfg x=false):1≤n∧GI c v g cfg (n-1) q (i+1) (out++[zl6 g cfg x]):=by
 have hp:=h.po
 rw [zx4 hx,zzg] at hp
 have:=z00 (h.ok x (List.mem_of_getElem? hx)).2.2.2
 have hlt:=(List.getElem?_eq_some_iff.mp hx).1
 obtain ⟨m,rfl⟩ : ∃ m,n=m+1:=⟨n-1,by omega⟩
 have:=h.n1
 have:=h.ql
 exact ⟨by omega,by simp; omega,by omega,by omega,by simp [h.ol],by simp; omega,h.ok,by rw [← h.go,zuc hx hg]; rfl⟩
inductive SN where
 | mk (f c v:Int) (ks:List SN)
def znx (q:Bool) (es:List (List PV)):PV:=if q then .own 4 es else .sl 4 es
mutual
def snC (q:Bool):SN→List PV
 | .mk f c v ks=>[iv f,iv c,iv v,znx q (snL q ks)]
def snL (q:Bool):List SN→List (List PV)
 | []=>[]
 | s::ss=>snC q s::snL q ss
end
theorem zsf (q:Bool) : ∀ ks:List SN,snL q ks=ks.map (snC q)
 | []=>by simp [snL]
 | k::ks=>by simp [snL,zsf q ks]
@[simp] theorem z22 (q:Bool) (ks:List SN):(snL q ks).length=ks.length:=by rw [zsf]; simp
@[simp] theorem yda (q:Bool) (es:List (List PV)):fz (znx q es) = .sl 4 es:=by cases q <;> simp [znx]
theorem zui {c:Cfg} (h:zi9 c=true):1≤c.la∧c.la≤100∧0≤c.de∧c.de≤4:=by
 unfold zi9 at h
 simp only [Bool.and_eq_true,zkf] at h
 omega
structure GH (c v:List (List Int)) (g:List Int) (cfg:Cfg):Prop where
 tk:zki c v g cfg=true
 sg:cfg.sg.length≤1048576
theorem GH.la {c v:List (List Int)} {g:List Int} {cfg:Cfg} (h:GH c v g cfg):1≤cfg.la∧cfg.la≤100∧0≤cfg.de∧cfg.de≤4:=zui (zvf h.tk).2.1
def zdy (m:Nat):List UInt8:=if m=0 then [] else Lib.decDigits m
theorem zze {m:Nat} (h:m≠0):zdy m=zdy (m / 10)++[UInt8.ofNat (48+m % 10)]:=by
 unfold zdy
 rw [if_neg h,Lib.decDigits]
 by_cases h1:m<10
 ·rw [dif_pos h1,if_pos (by omega),Nat.mod_eq_of_lt h1]; rfl
 ·rw [dif_neg h1,if_neg (by omega)]
theorem zyv {n:Int} (h:n≠0):Lib.itoa n=if n<0 then 45::zdy n.natAbs else zdy n.natAbs:=by
 unfold Lib.itoa zdy
 by_cases h1:n<0
 ·simp [h1,h]
 ·rw [if_neg h1,if_neg h1,if_neg (by omega),show n.toNat=n.natAbs by omega]
theorem zvp (k:Int):k.tmod 10=if k<0 then -((k.natAbs % 10:Nat):Int) else ((k.natAbs % 10:Nat):Int):=by
 split
 ·obtain ⟨u,rfl⟩ : ∃ u:Nat,k = -(u:Int):=⟨k.natAbs,by omega⟩
  rw [Int.neg_tmod,Int.natAbs_neg,Int.natAbs_natCast]; rfl
 ·obtain ⟨u,rfl⟩ : ∃ u:Nat,k=(u:Int):=⟨k.natAbs,by omega⟩
  rw [Int.natAbs_natCast]; rfl
theorem zv2 (k:Int):k.tdiv 10=if k<0 then -((k.natAbs / 10:Nat):Int) else ((k.natAbs / 10:Nat):Int):=by
 split
 ·obtain ⟨u,rfl⟩ : ∃ u:Nat,k = -(u:Int):=⟨k.natAbs,by omega⟩
  rw [Int.neg_tdiv,Int.natAbs_neg,Int.natAbs_natCast]; rfl
 ·obtain ⟨u,rfl⟩ : ∃ u:Nat,k=(u:Int):=⟨k.natAbs,by omega⟩
  rw [Int.natAbs_natCast]; rfl
abbrev sv (l:List UInt8):PV := .v (.string (bs l))
@[simp] theorem zq6 (l:List UInt8):(bs l).size=l.length:=rfl
theorem zln (a b:List UInt8):bs a++bs b=bs (a++b):=by
 apply ByteArray.ext
 simp [bs]
theorem zdo {a b:List UInt8} (h:a.length+b.length≤9223372036854775807):zaw .add (.string (bs a)) (.string (bs b))=some (.string (bs (a++b))):=by
 rw [zjp,if_pos (by rw [zq6,zq6]; show ((a.length+b.length:Nat):Int)≤9223372036854775807; omega),zln]
theorem by1 {r:Nat} {x:Int} (h:x=(r:Int)):zfn [[.v (.int .u8 (48+x))]]=some [UInt8.ofNat (48+r)]:=by
 subst h
 show some [((48:Int)+(r:Int)).toNat.toUInt8]=_
 rw [show ((48:Int)+(r:Int)).toNat=48+r by omega]
theorem zim (n:Int) (h:inI n):RUN T ze6 [iv n]=some ([sv (Lib.itoa n)],[]):=by
 refine zec zob rfl ?_
 have e:=zye zoe h.1 h.2
 simp [zj8,zjv,e]
 rfl
set_option maxHeartbeats 1000000 in
theorem zio (n:Int) (h:inI n):RUN T ze4 [iv n]=some ([sv (Lib.itoa n)],[]):=by
 refine zec zn7 rfl ?_
 simp [zj0,zjv]
 refine zgm (fun h0 => ?_) (fun h0 => ?_)
 ·simp at h0
  subst h0
  simp [show Lib.itoa 0=[48] by unfold Lib.itoa; rw [if_neg (by decide)]; exact Lib.decDigits_one (by decide)]
 ·simp at h0
  simp [h0]
  have hl:=Lib.itoa_length_le n h.1 h.2
  have hd:=zyv h0
  refine zxe (fun m st => ∃ (k:Int) (o:List UInt8),k.natAbs=m∧inI k∧zdy m++o=zdy n.natAbs∧st.V 0=iv k∧st.V 3=bv (decide (n<0))∧st.V 4=sv o) ?_ n.natAbs _ ⟨n,[],rfl,h,by simp,by simp,by simp,by simp⟩
  rintro m st ⟨k,o,hm,hk,ho,h1,h2,h3⟩
  simp [zn2,h1,h2,h3]
  refine zgm (fun hz => ?_) (fun hz => ?_)
  ·simp at hz
   have hq:=zvp k
   have hv:=zv2 k
   have hk1:=hk.1
   have hk2:=hk.2
   have hw:IntKind.i64.wrap (k.tdiv 10)=k.tdiv 10:=by
    refine w64 ?_ ?_ <;> (rw [hv]; split <;> omega)
   simp [h1,h2,h3,hw]
   generalize k.tmod 10=d at *
   have hd9:k.natAbs % 10<10:=Nat.mod_lt _ (by decide)
   have fin : ∀ x:Int,x=((k.natAbs % 10:Nat):Int)→IntKind.i64.wrap (48+x)=48+x∧IntKind.u8.wrap (48+x)=48+x:=by
    intro x hx
    subst hx
    exact ⟨w64 (by omega) (by omega),IntWalk.u8_in _ (by omega)⟩
   obtain ⟨b,hb⟩ : ∃ b:UInt8,b=UInt8.ofNat (48+k.natAbs % 10):=⟨_,rfl⟩
   have hbs : ∀ b:UInt8,(⟨#[b]⟩:ByteArray)=bs [b]:=fun _=>rfl
   have hm0:m≠0:=by omega
   have hnx:zdy (m / 10)++b::o=zdy n.natAbs:=by rw [← ho,zze hm0,← hm,hb]; simp
   have hol:o.length≤21:=by
    have h8:=congrArg List.length ho
    have h9:=congrArg List.length hd
    rw [List.length_append] at h8
    split at h9
    ·rw [List.length_cons] at h9; omega
    ·omega
   have hlen:(1:Int)+(o.length:Int)≤9223372036854775807:=by omega
   have hab:(k.tdiv 10).natAbs=m / 10:=by rw [← hm,Int.natAbs_tdiv]; rfl
   have hlt:(k.tdiv 10).natAbs<m:=by omega
   have hki:inI (k.tdiv 10):=by
    refine ⟨?_,?_⟩ <;> (rw [hv]; split <;> omega)
   refine zgm (fun hn => ?_) (fun hn => ?_)
   ·simp at hn
    have e1 : -d=((k.natAbs % 10:Nat):Int):=by revert hq; split <;> intro hq <;> omega
    obtain ⟨f1,f2⟩:=fin (-d) e1
    have w1:IntKind.i64.wrap (0-d) = -d:=by rw [w64 (by omega) (by omega)]; omega
    have w2:IntKind.i64.wrap (-d) = -d:=w64 (by omega) (by omega)
    have hB:=by1 e1
    rw [← hb] at hB
    simp [h1,h2,h3,hw,w1,w2,f1,f2,hB,hbs b,zln,hlen]
    refine zrc _ hlt ?_; exact ⟨k.tdiv 10,b::o,rfl,hki,by rw [hab]; exact hnx,by simp,by simp [h2],by simp⟩
   ·simp at hn
    have e1:d=((k.natAbs % 10:Nat):Int):=by revert hq; split <;> intro hq <;> omega
    obtain ⟨f1,f2⟩:=fin d e1
    have hB:=by1 e1
    rw [← hb] at hB
    simp [h1,h2,h3,hw,hn,f1,f2,hB,hbs b,zln,hlen]
    refine zrc _ hlt ?_; exact ⟨k.tdiv 10,b::o,rfl,hki,by rw [hab]; exact hnx,by simp,by simp [h2],by simp⟩
  ·simp at hz
   subst hz
   have ho':o=zdy n.natAbs:=by simpa [← hm,zdy] using ho
   subst ho'
   simp [h1,h2,h3]
   refine zgm (fun hn => ?_) (fun hn => ?_)
   ·simp at hn
    rw [if_pos hn] at hd
    have hlen:(1:Int)+((zdy n.natAbs).length:Int)≤9223372036854775807:=by
     rw [hd] at hl; simp only [List.length_cons] at hl; omega
    simp [h1,h2,h3,zln,hlen,hd]
   ·simp at hn
    rw [if_neg (by omega)] at hd
    simp [h1,h2,h3,hd]
def ntx (a b c d e:Int):List UInt8 :=
 if a = -1 then (if b=0∧c=0∧d=0 then 61::Lib.itoa e else [])
 else if zay a 0 3=true∧zf1 b=true∧zay c 1 30=true∧zay d 1 30=true∧e=0 then Lib.itoa a++60::(Lib.itoa b++58::(Lib.itoa c++44::Lib.itoa d)) else []
set_option maxHeartbeats 4000000 in
theorem zua (a b c d e:Int) (ha:inI a) (hb:inI b) (hc:inI c) (hd:inI d) (he:inI e):RUN T zho [.agg [iv a,iv b,iv c,iv d,iv e]]=some ([sv (ntx a b c d e)],[]):=by
 refine zec zn5 rfl ?_
 have la:=Lib.itoa_length_le a ha.1 ha.2
 have lb:=Lib.itoa_length_le b hb.1 hb.2
 have lc:=Lib.itoa_length_le c hc.1 hc.2
 have ld:=Lib.itoa_length_le d hd.1 hd.2
 have le:=Lib.itoa_length_le e he.1 he.2
 have ra:=zim a ha
 have rb:=zim b hb
 have rc:=zim c hc
 have rd:=zim d hd
 have re:=zim e he
 by_cases h0:a = -1
 ·subst h0
  by_cases hz:b=0∧c=0∧d=0
  ·obtain ⟨rfl,rfl,rfl⟩:=hz
   have p1:=zdo (a:=[61]) (b:=Lib.itoa e) (by simp; omega)
   simp [zei,zjv,zlo,re,ntx,p1,-zjp]
  ·simp [zei,zjv,zlo]
   refine zgm (fun h => ?_) (fun h => ?_)
   ·simp [ntx,hz]
   ·simp at h
    exact absurd h hz
 ·generalize hw1:zay a 0 3=w1
  generalize hw2:zf1 b=w2
  generalize hw3:zay c 1 30=w3
  generalize hw4:zay d 1 30=w4
  cases w1 with
  | false=>simp [zei,zjv,h0,-zgq,zht,ntx,hw1]
  | true =>
  cases w2 with
  | false=>simp [zei,zjv,h0,-zgq,zht,ntx,hw1,hw2]
  | true =>
  cases w3 with
  | false=>simp [zei,zjv,h0,-zgq,zht,ntx,hw1,hw2,hw3]
  | true =>
  cases w4 with
  | false=>simp [zei,zjv,h0,-zgq,zht,ntx,hw1,hw2,hw3,hw4]
  | true =>
  by_cases h5:e=0
  ·have p1:=zdo (a:=Lib.itoa a) (b:=[60]) (by simp; omega)
   have p2:=zdo (a:=Lib.itoa a++[60]) (b:=Lib.itoa b) (by simp; omega)
   have p3:=zdo (a:=Lib.itoa a++[60]++Lib.itoa b) (b:=[58]) (by simp; omega)
   have p4:=zdo (a:=Lib.itoa a++[60]++Lib.itoa b++[58]) (b:=Lib.itoa c) (by simp; omega)
   have p5:=zdo (a:=Lib.itoa a++[60]++Lib.itoa b++[58]++Lib.itoa c) (b:=[44]) (by simp; omega)
   have p6:=zdo (a:=Lib.itoa a++[60]++Lib.itoa b++[58]++Lib.itoa c++[44]) (b:=Lib.itoa d) (by simp; omega)
   simp [zei,zjv,h0,-zgq,zht,hw1,hw2,hw3,hw4,h5,ra,rb,rc,rd,p1,p2,p3,p4,p5,p6,-zjp,-List.append_assoc]
   simp [ntx,h0,hw1,hw2,hw3,hw4]
  ·simp [zei,zjv,h0,-zgq,zht,ntx,hw1,hw2,hw3,hw4,h5]
set_option maxHeartbeats 4000000 in
theorem zub (a b c d e:Int) (ha:inI a) (hb:inI b) (hc:inI c) (hd:inI d) (he:inI e):RUN T zhn [.agg [iv a,iv b,iv c,iv d,iv e]]=some ([sv (ntx a b c d e)],[]):=by
 refine zec zn3 rfl ?_
 have la:=Lib.itoa_length_le a ha.1 ha.2
 have lb:=Lib.itoa_length_le b hb.1 hb.2
 have lc:=Lib.itoa_length_le c hc.1 hc.2
 have ld:=Lib.itoa_length_le d hd.1 hd.2
 have le:=Lib.itoa_length_le e he.1 he.2
 have ra:=zio a ha
 have rb:=zio b hb
 have rc:=zio c hc
 have rd:=zio d hd
 have re:=zio e he
 by_cases h0:a = -1
 ·subst h0
  by_cases hz:b=0∧c=0∧d=0
  ·obtain ⟨rfl,rfl,rfl⟩:=hz
   have p1:=zdo (a:=[61]) (b:=Lib.itoa e) (by simp; omega)
   simp [zeg,zjv,zlo,re,ntx,p1,-zjp]
  ·simp [zeg,zjv,zlo]
   refine zgm (fun h => ?_) (fun h => ?_)
   ·simp [ntx,hz]
   ·simp at h
    exact absurd h hz
 ·generalize hw1:zay a 0 3=w1
  generalize hw2:zf1 b=w2
  generalize hw3:zay c 1 30=w3
  generalize hw4:zay d 1 30=w4
  cases w1 with
  | false=>simp [zeg,zjv,h0,-zgr,zhu,ntx,hw1]
  | true =>
  cases w2 with
  | false=>simp [zeg,zjv,h0,-zgr,zhu,ntx,hw1,hw2]
  | true =>
  cases w3 with
  | false=>simp [zeg,zjv,h0,-zgr,zhu,ntx,hw1,hw2,hw3]
  | true =>
  cases w4 with
  | false=>simp [zeg,zjv,h0,-zgr,zhu,ntx,hw1,hw2,hw3,hw4]
  | true =>
  by_cases h5:e=0
  ·have p1:=zdo (a:=Lib.itoa a) (b:=[60]) (by simp; omega)
   have p2:=zdo (a:=Lib.itoa a++[60]) (b:=Lib.itoa b) (by simp; omega)
   have p3:=zdo (a:=Lib.itoa a++[60]++Lib.itoa b) (b:=[58]) (by simp; omega)
   have p4:=zdo (a:=Lib.itoa a++[60]++Lib.itoa b++[58]) (b:=Lib.itoa c) (by simp; omega)
   have p5:=zdo (a:=Lib.itoa a++[60]++Lib.itoa b++[58]++Lib.itoa c) (b:=[44]) (by simp; omega)
   have p6:=zdo (a:=Lib.itoa a++[60]++Lib.itoa b++[58]++Lib.itoa c++[44]) (b:=Lib.itoa d) (by simp; omega)
   simp [zeg,zjv,h0,-zgr,zhu,hw1,hw2,hw3,hw4,h5,ra,rb,rc,rd,p1,p2,p3,p4,p5,p6,-zjp,-List.append_assoc]
   simp [ntx,h0,hw1,hw2,hw3,hw4]
  ·simp [zeg,zjv,h0,-zgr,zhu,ntx,hw1,hw2,hw3,hw4,h5]
theorem zy4 (a b c d e:Int) (ha:inI a) (hb:inI b) (hc:inI c) (hd:inI d) (he:inI e):RUN T zik [.agg [iv a,iv b,iv c,iv d,iv e]]=some ([bv true],[]):=by
 refine zec zlu rfl ?_
 have e1:=zua a b c d e ha hb hc hd he
 have e2:=zub a b c d e ha hb hc hd he
 simp [zju,zjv,e1,e2]
theorem zxs {c:PV} (h:zh3 true [.int .i64,.int .i64,.int .i64,.int .i64,.int .i64] c) : ∃ a b c' d e:Int,c = .agg [iv a,iv b,iv c',iv d,iv e]∧inI a∧inI b∧inI c'∧inI d∧inI e:=by
 obtain ⟨cs,rfl,h⟩:=h
 simp only [zbe,Shp] at h
 obtain ⟨_,_,rfl,⟨a,rfl,h1⟩,_,_,rfl,⟨b,rfl,h2⟩,_,_,rfl,⟨c,rfl,h3⟩,_,_,rfl,⟨d,rfl,h4⟩,_,_,rfl,⟨e,rfl,h5⟩,rfl⟩:=h
 exact ⟨a,b,c,d,e,rfl,zjt h1,zjt h2,zjt h3,zjt h4,zjt h5⟩
end Go.Pe
