/- What each function answers by the evaluator,and the law; for each answer its own conditions stand ahead of it. -/
import Derived.Test.YtdebkglpapjeiaaK0
import Derived.Test.YtdebkglpapjeiaaEvB2
import Derived.IntWalk
set_option linter.all false
namespace Go.Pe
open Go
theorem w64 {x:Int} (h1 : -9223372036854775808≤x) (h2:x≤9223372036854775807):IntKind.i64.wrap x=x:=IntWalk.i64_in x ⟨h1,h2⟩
@[simp] theorem ybx {x:Int} (h1 : -9223372036854775808≤x) (h2:x≤9223372036854775807):IntKind.i64.wrap x=x:=w64 h1 h2
structure Nd where
 f:Int
 c:Int
 l:Int
 r:Int
 v:Int
deriving DecidableEq
def nd (n:Nd):List PV:=[iv n.f,iv n.c,iv n.l,iv n.r,iv n.v]
def zvj {α:Type} (p:α→Bool) (l:List α):Int:=match l.findIdx? p with
 | some i=>(i:Int)
 | none => -1
def zps (k:Int) (n:Nd):Bool := !decide (n.f = -1) && (decide (n.l=k) || decide (n.r=k))
def par (t:List Nd) (k:Int):Int:=zvj (zps k) t
theorem wS {i n:Nat} (h:i<n) (hn:n≤9223372036854775807):IntKind.i64.wrap ((i:Int)+1)=(i:Int)+1:=w64 (by omega) (by omega)
def fil {α β:Type} (f:α→β) (z:β) (l:List α) (i:Nat):List β:=(l.take i).map f++List.replicate (l.length-i) z
theorem zs6 {α β:Type} {f:α→β} {l:List α} {z:β} {i:Nat} {x:α} (hx:l[i]?=some x):(fil f z l i).set i (f x)=fil f z l (i+1):=by
 unfold fil
 obtain ⟨h1,h2⟩:=List.getElem?_eq_some_iff.mp hx
 apply List.ext_getElem?
 intro j
 rw [List.getElem?_set]
 simp only [List.length_append,List.length_map,List.length_take,List.length_replicate]
 by_cases e:i=j
 ·subst e
  rw [if_pos rfl,if_pos (by omega),List.getElem?_append_left (by simp; omega)]
  simp [List.getElem?_take,hx]
 ·rw [if_neg e]
  by_cases hj:j<i
  ·rw [List.getElem?_append_left (by simp; omega),List.getElem?_append_left (by simp; omega)]
   simp [List.getElem?_take,hj,show j<i+1 by omega]
  ·rw [List.getElem?_append_right (by simp; omega),List.getElem?_append_right (by simp; omega)]
   simp [List.getElem?_replicate]
   congr 1
   simp; omega
theorem zw4 {α β:Type} {f:α→β} {l:List α} {z:β} {i:Nat} (h:i<l.length):(fil f z l i)[i]?=some z:=by
 unfold fil
 rw [List.getElem?_append_right (by simp; omega)]
 simp [List.getElem?_replicate]; omega
theorem zyo {α β:Type} {f:α→β} {l:List α} {z:β} {i:Nat} (h:i≤l.length):(fil f z l i).length=l.length:=by unfold fil; simp; omega
theorem zu1 {α β:Type} {f:α→β} {l:List α} {z:β}:fil f z l 0=List.replicate l.length z:=by simp [fil]
theorem zwq {α β:Type} {f:α→β} {l:List α} {z:β} {i:Nat} (h:i=l.length):fil f z l i=l.map f:=by subst h; simp [fil]
def zhg (l:List Int):List (List PV):=l.map fun n=>[iv n]
@[simp] theorem z23 (l:List Int):(zhg l).length=l.length:=by simp [zhg]
@[simp] theorem ya1:zhg []=[]:=rfl
def anc (t:List Nd):Nat→Int→Option (List Int)
 | 0,_=>none
 | n+1,k=>if par t k<0 then some [] else (anc t n (par t k)).map (par t k :: ·)
def way (t:List Nd) (k:Int):List Int:=if 0≤k∧k≤t.length-1 then match anc t 32 k with
  | some l=>(k::l).reverse
  | none=>[]
 else []
def upto (k:Int) (n:Nat):List Int:=(List.range n).map fun (i:Nat)=>k+(i:Int)
@[simp] theorem ybn (k:Int) (n:Nat):(upto k n).length=n:=by simp [upto]
def box (t:List Nd) (f:Int):List Int→Int→Int→Int×Int
 | a::b::r,lo,hi=>match t[a.toNat]? with
  | none=>(lo,hi)
  | some x=>if x.f=f then (if x.l=b then box t f (b::r) lo (min hi x.c) else if x.c=9223372036854775807 then box t f (b::r) lo hi else box t f (b::r) (max lo (x.c+1)) hi) else box t f (b::r) lo hi
 | _,lo,hi=>(lo,hi)
structure Cfg where
 ro:Int
 de:Int
 bi:Int
 la:Int
 rw:Int
 nu:Int
 dn:Int
 sg:List Int
def zbj (n a b:Int):Bool:=decide (a≤n) && decide (n≤b)
def zim (c:Cfg):Bool:=zbj c.ro 1 8 && zbj c.de 0 4 && zbj c.bi 2 8 && zbj c.la 1 100 && zbj c.rw 1 20 && zbj c.dn 1 1000 && zbj c.nu 1 c.dn && decide ((c.sg.length:Int)≤4) && c.sg.all fun n=>zbj n (-1) 1
def fdv (a b:Int):Int×Bool:=if b=0∨(b = -1∧a = -9223372036854775808) then (0,false) else (a.fdiv b,true)
theorem zqh {n a b:Int}:zbj n a b=true↔a≤n∧n≤b:=by simp [zbj]
def zqc (v:Int):Bool:=zbj v (-1099511627776) 1099511627776
def zue (n:Int):Bool:=zbj n (-2147483647) 2147483647
def adj (p:Int→Int→Bool):List Int→Bool
 | a::b::r=>p a b || adj p (b::r)
 | _=>false
def cel (q:Bool) (l:List Int):PV:=if q then .own 1 (zhg l) else .sl 1 (zhg l)
@[simp] theorem zzs (q:Bool) (l:List Int):fz (cel q l) = .sl 1 (zhg l):=by cases q <;> simp [cel]
def rws (q:Bool) (L:List (List Int)):List (List PV):=L.map fun l=>[cel q l]
@[simp] theorem z30 (q:Bool) (L:List (List Int)):(rws q L).length=L.length:=by simp [rws]
def zx9 (l:List Int):Bool := !adj (fun a b=>decide (b≤a)) l && l.all zue && decide ((l.length:Int)≤7)
def zj5:List (List Int)→Nat
 | []=>0
 | l::_=>l.length
theorem zo6 {s:St} {d:Option Dst} {op:IOp} {g:Opd} {v:Bool} {x:PV}:(yv s ⟨d,op,some (g,v)⟩=some x)=(Ob' (zeo v (g.get s)) fun t=>Br t (WI (fun _=>[]) (fun _ _=>none) op s (fun y _=>y=x)) (PV.v Go.undef=x)):=by
 simp only [yv,zrx,WI,Ob',Br,Option.map_eq_some_iff,Option.bind_eq_some_iff,eq_iff_iff]
 constructor
 ·rintro ⟨⟨y,s'⟩,⟨t,h1,h2⟩,h3⟩
  refine ⟨t,h1,fun ht => ?_,fun ht => ?_⟩ <;> subst ht
  ·exact ⟨y,s',by simpa using h2,h3⟩
  ·simp at h2; obtain ⟨rfl,rfl⟩:=h2; exact h3
 ·rintro ⟨t,h1,h2,h3⟩
  cases t with
  | true=>obtain ⟨y,s',h4,h5⟩:=h2 rfl; exact ⟨(y,s'),⟨true,h1,by simpa using h4⟩,h5⟩
  | false=>exact ⟨_,⟨false,h1,rfl⟩,h3 rfl⟩
@[simp] theorem z4c {s:St} {d:Option Dst} {op:IOp} {g:Opd} {v:Bool} {x:PV} {n:Nat} {r:List (zaa×PV×Nat)}:za9 s ((⟨d,op,some (g,v)⟩,x,n+1)::r)=((Ob' (zeo v (g.get s)) fun t=>Br t (WI (fun _=>[]) (fun _ _=>none) op s (fun y _=>y=x)) (PV.v Go.undef=x))∧za9 s r):=by
 simp only [za9,zo6]
@[simp] theorem z01 {V E:Nat→PV} {d:Option Dst} {op:IOp} {g:Opd} {v:Bool} {x:PV} {n:Nat} {s:St} {ms:List St}:zap V E ⟨d,op,some (g,v)⟩ x (n+1) (s::ms)=((Ob' (zeo v (g.get { s with V:=V,E:=E })) fun t=>Br t (WI (fun _=>[]) (fun _ _=>none) op { s with V:=V,E:=E } (fun y _=>y=x)) (PV.v Go.undef=x))∧zap V E ⟨d,op,some (g,v)⟩ x n ms):=by
 simp only [zap,zo6]
def zy0 (c v:List (List Int)) (f:Nat):Bool:=match c[f]?,v[f]? with
 | some a,some b=>zx9 a && decide ((b.length:Int)=zj5 v) && b.all fun x=>zbj x 0 a.length
 | _,_=>true
def zmr (c v:List (List Int)):Bool:=zbj c.length 1 4 && decide ((v.length:Int)=c.length) && zbj (zj5 v) 1 40 && (List.range c.length).all (zy0 c v)
def zyp (x:Int):Bool:=zbj x (-2199023255552) 2199023255552
def zjv (c v:List (List Int)) (lab:List Int) (g:Cfg):Bool:=zmr c v && zim g && decide ((lab.length:Int)=zj5 v) && lab.all zyp
theorem zwy {P:Program} {l:List TypeId} (h:(l.all fun t=>P.readableRec t && decide (t<P.types.size))=true) : ∀ t∈l,P.readableRec t=true∧t<P.types.size:=by
 intro t ht
 have:=List.all_eq_true.mp h t ht
 simpa using this
theorem ztc {p q:Bool×List TY} {pvs:List PV} (h:zbw (fun p c=>zf6 p.1 p.2 c) [p,q] pvs) : ∃ a b,pvs=[a,b]∧zf6 p.1 p.2 a∧zf6 q.1 q.2 b:=by
 cases h with
 | cons h1 t=>cases t with
  | cons h2 t=>cases t with
   | nil=>exact ⟨_,_,rfl,h1,h2⟩
def zqe (B:List Int):List (List PV):=B.map fun n=>[.v (.int .u8 n)]
@[simp] theorem zz8 (B:List Int):(zqe B).length=B.length:=by simp [zqe]
def zj0 (rv:List RV) (io:Nat) (G:List PV×List PV→Prop) (_:Dm rv) (_:Dm G) (e:Ex) (s:St):Prop:=(e = .normal∨e = .ret)∧∃ r,zdy ⟨[],rv,.skip⟩ io s=some r∧G r
@[simp] theorem yax {rv:List RV} {io:Nat} {G:List PV×List PV→Prop} {s:St}:zj0 rv io G ⟨⟩ ⟨⟩ .normal s = ∃ r,zdy ⟨[],rv,.skip⟩ io s=some r∧G r:=by simp [zj0]
@[simp] theorem zz4 {rv:List RV} {io:Nat} {G:List PV×List PV→Prop} {s:St}:zj0 rv io G ⟨⟩ ⟨⟩ .ret s = ∃ r,zdy ⟨[],rv,.skip⟩ io s=some r∧G r:=by simp [zj0]
def adi (a b:Int):Int×Bool:=if -9223372036854775808≤a+b∧a+b≤9223372036854775807 then (a+b,true) else (0,false)
def sbi (a b:Int):Int×Bool:=if -9223372036854775808≤a-b∧a-b≤9223372036854775807 then (a-b,true) else (0,false)
def zij (l:List ByteArray):List (List PV):=l.map fun s=>[.v (.string s)]
@[simp] theorem z72 (l:List ByteArray):(zij l).length=l.length:=by simp [zij]
def zll (q:Bool) (t:List Nd):PV:=if q then .own 5 (t.map nd) else .sl 5 (t.map nd)
@[simp] theorem z9t (q:Bool) (t:List Nd):fz (zll q t) = .sl 5 (t.map nd):=by cases q <;> simp [zll]
def trs (q:Bool) (M:List (List Nd)):List (List PV):=M.map fun t=>[zll q t]
@[simp] theorem z10 (q:Bool) (M:List (List Nd)):(trs q M).length=M.length:=by simp [trs]
def rwS (q:Bool) (l:List ByteArray):PV:=if q then .own 1 (zij l) else .sl 1 (zij l)
@[simp] theorem z6d (q:Bool) (l:List ByteArray):fz (rwS q l) = .sl 1 (zij l):=by cases q <;> simp [rwS]
def zq9 (q:Bool) (L:List (List ByteArray)):List (List PV):=L.map fun l=>[rwS q l]
@[simp] theorem z8k (q:Bool) (L:List (List ByteArray)):(zq9 q L).length=L.length:=by simp [zq9]
def zyz (p:Nat→Bool) (i:Nat):List Int:=((List.range i).filter p).map fun (j:Nat)=>(j:Int)
@[simp] theorem yc7 (p:Nat→Bool):zyz p 0=[]:=rfl
structure Wd where
 n:Bool
 h:Int
 l:Int
deriving DecidableEq
def wok (w:Wd):Bool:=decide (w.h<9223372036854775808) && (!w.n || decide (0<w.h) || decide (0<w.l))
def mag (w:Wd):Int:=w.h*18446744073709551616+w.l
def mkW (n:Bool) (m:Int):Wd:=⟨n && decide (0<m),m / 18446744073709551616,m % 18446744073709551616⟩
def zh0:Wd:=⟨false,0,0⟩
def zmi (a b:Int):Int:=if a<b then -1 else if b<a then 1 else 0
def zqj (a b:Wd):Int:=if zmi a.h b.h=0 then zmi a.l b.l else zmi a.h b.h
def zxx (a b:Int):Wd:=mkW (decide (a<0) != decide (b<0)) ((a.natAbs:Int)*b.natAbs)
def zho (w:Wd):Int:=if w.n then -mag w else mag w
def zrd (a b:Wd):Wd×Bool :=
 if wok a && wok b then
  if ((zho a+zho b).natAbs:Int)<170141183460469231731687303715884105728 then (mkW (decide (zho a+zho b<0)) (zho a+zho b).natAbs,true) else (zh0,false)
 else (zh0,false)
def zj7 (w:Wd) (k:Int):Wd×Bool:=if wok w=true∧mag w*k.natAbs<170141183460469231731687303715884105728 then (mkW (w.n != decide (k<0)) (mag w*k.natAbs),true) else (zh0,false)
def zmd (w:Wd):Bool:=w.n && !(decide (w.h=0) && decide (w.l=0))
def ztd (a b:Wd):Int:=if zmd a=true then (if zmd b=true then zqj b a else -1) else (if zmd b=true then 1 else zqj a b)
def zoi (t:List Nd) (k:Nat) (f c a b:Int):List Nd:=t.set k ⟨f,c,t.length,t.length+1,0⟩++[⟨-1,0,0,0,a⟩,⟨-1,0,0,0,b⟩]
def pos (x:Int) (l:List Int):Nat→Nat
 | 0=>0
 | k+1=>if x<l.getD k 0 then pos x l k else k+1
def zp0 (x:Int) (l:List Int) (k P:Nat):Prop:=pos x l k=P
theorem zp0.z {x:Int} {l:List Int} {P:Nat} (h:zp0 x l 0 P):0=P:=h
structure Sl where
 n:Int
 g:Int
deriving DecidableEq
def slc (x:Sl):List PV:=[iv x.n,iv x.g]
def zi9 (l:List Sl):List (List PV):=l.map slc
@[simp] theorem z6s (l:List Sl):(zi9 l).length=l.length:=by simp [zi9]
def zfr (a b:Sl):Sl×Bool:=if ((adi a.n b.n).2 && (adi a.g b.g).2)=true then (⟨(adi a.n b.n).1,(adi a.g b.g).1⟩,true) else (⟨0,0⟩,false)
def atI {α:Type} (l:List α) (i:Int):Option α:=if 0≤i then l[i.toNat]? else none
def zon (b g:List Int):List Int→List Sl→Option (List Sl)
 | [],h=>some h
 | r::rs,h=>match atI b r,atI g r with
  | some x,some y=>match atI h x with
   | some s=>if (zfr s ⟨1,y⟩).2=true then zon b g rs (h.set x.toNat (zfr s ⟨1,y⟩).1) else none
   | none=>none
  | _,_=>none
def zos (b g rows:List Int) (k:Int):List Sl×Bool:=if zbj k 1 8=true then match zon b g rows (List.replicate k.toNat ⟨0,0⟩) with
  | some h=>(h,true)
  | none=>([],false)
 else ([],false)
def zk1 (q:Bool) (l:List Sl):PV:=if q then .own 2 (zi9 l) else .sl 2 (zi9 l)
@[simp] theorem yb9 (q:Bool) (l:List Sl):fz (zk1 q l) = .sl 2 (zi9 l):=by cases q <;> simp [zk1]
def rss (q:Bool) (H:List (List Sl)):List (List PV):=H.map fun l=>[zk1 q l]
@[simp] theorem z50 (q:Bool) (H:List (List Sl)):(rss q H).length=H.length:=by simp [rss]
def zra (g rows:List Int):List (List Int)→List (List Int)→Option (List (List Sl))
 | x::c,y::v=>if (zos y g rows (x.length+1)).2=true then (zra g rows c v).map ((zos y g rows (x.length+1)).1 :: ·) else none
 | _,_=>some []
def zol (c v:List (List Int)) (g rows:List Int):List (List Sl)×Bool:=if zmr c v=true then match zra g rows c v with
  | some h=>(h,true)
  | none=>([],false)
 else ([],false)
def zp3 (k:Int) (n:Nat):List Sl:=(List.range n).map fun (i:Nat)=>⟨k+2*(i:Int),k+2*(i:Int)+1⟩
@[simp] theorem z5o (k:Int) (n:Nat):(zp3 k n).length=n:=by simp [zp3]
structure Fr where
 w:Wd
 d:Int
def frB (f:Fr):Bool:=wok f.w && zbj f.d 1 1000000
def zip:Fr:=⟨zh0,0⟩
def znf (w:Wd) (d:Int):Fr×Bool:=if frB ⟨w,d⟩=true then (⟨w,d⟩,true) else (zip,false)
def zf5 (a b:Fr):Wd×Wd×Bool:=if (frB a && frB b)=true then ((zj7 a.w b.d).1,(zj7 b.w a.d).1,(zj7 a.w b.d).2 && (zj7 b.w a.d).2) else (zh0,zh0,false)
def ziv (a b:Fr):Int×Bool:=if (zf5 a b).2.2=true then (ztd (zf5 a b).1 (zf5 a b).2.1,true) else (0,false)
def zwv (a b:Fr):Fr×Bool:=if (zf5 a b).2.2=true then (if (zrd (zf5 a b).1 (zf5 a b).2.1).2=true then znf (zrd (zf5 a b).1 (zf5 a b).2.1).1 (a.d*b.d) else (zip,false)) else (zip,false)
structure Cnd where
 f:Int
 b:Int
 a:Sl
 z:Sl
deriving DecidableEq
def cnd (c:Cnd):List PV:=[iv c.f,iv c.b,iv c.a.n,iv c.a.g,iv c.z.n,iv c.z.g]
structure Bd where
 lo:Int
 hi:Int
def zya (b:Bd):Bool:=decide (b.lo≤b.hi) && zqc b.lo && zqc b.hi
def zv0 (x lo hi:Int):Int:=if x<lo then lo else if hi<x then hi else x
def zom (n l:Int):Bool:=zbj n 0 40 && zbj l 1 100
def zkj (s:Sl) (l:Int) (b:Bd):Int×Bool:=if (zom s.n l && zya b)=true then (zv0 (fdv s.g (s.n+l)).1 b.lo b.hi,true) else (0,false)
def zgw (s:Sl) (l:Int):Fr×Bool:=if zom s.n l=true then znf (zxx s.g s.g) (s.n+l) else (zip,false)
def zek (c:Cnd) (l:Int):Fr×Bool:=if ((zgw c.a l).2 && (zgw c.z l).2)=true then zwv (zgw c.a l).1 (zgw c.z l).1 else (zip,false)
def zma (c:Cfg) (b:Bd) (x:Cnd):Int×Int×Bool:=if ((zkj x.a c.la b).2 && (zkj x.z c.la b).2)=true then ((zkj x.a c.la b).1,(zkj x.z c.la b).1,true) else (0,0,false)
def zvn (c:Cfg) (f:Int):Int:=(atI c.sg f).getD 0
def zx6 (s l r:Int):Bool:=if s=1 then decide (l≤r) else if s = -1 then decide (r≤l) else true
def zvc (x:Cnd) (l:Int):Bool:=(zek x l).2 && ((zfr x.a x.z).2 && ((zgw (zfr x.a x.z).1 l).2 && ((ziv (zek x l).1 (zgw (zfr x.a x.z).1 l).1).2 && decide (0<(ziv (zek x l).1 (zgw (zfr x.a x.z).1 l).1).1))))
def zyj (a b:Cnd):Bool:=decide (a.f<b.f) || (decide (a.f=b.f) && decide (a.b<b.b))
def zv6 (a b:Cnd) (l:Int):Bool:=(zek a l).2 && ((zek b l).2 && ((ziv (zek a l).1 (zek b l).1).2 && (decide (0<(ziv (zek a l).1 (zek b l).1).1) || (decide ((ziv (zek a l).1 (zek b l).1).1=0) && zyj a b))))
def zpd (c:Cfg) (b:Bd) (x:Cnd):Bool:=zim c && ((zma c b x).2.2 && (decide (c.rw≤x.a.n) && (decide (c.rw≤x.z.n) && (zx6 (zvn c x.f) (zma c b x).1 (zma c b x).2.1 && zvc x c.la))))
def znx (l:List Cnd):List (List PV):=l.map cnd
@[simp] theorem z9m (l:List Cnd):(znx l).length=l.length:=by simp [znx]
def noB (c:Cfg) (b:Bd) (x y:Cnd):Bool := !zpd c b y || !zv6 y x c.la
def zx4 (c:Cfg) (b:Bd) (l:List Cnd) (x:Cnd):Bool:=zpd c b x && l.all (noB c b x)
def zlz:Cnd:=⟨0,0,⟨0,0⟩,⟨0,0⟩⟩
def zyw (c:Cfg) (b:Bd) (l:List Cnd):Cnd×Bool:=match l.find? (zx4 c b l) with
 | some x=>(x,true)
 | none=>(zlz,false)
def zlh (a b:Sl):Sl×Bool:=if ((sbi a.n b.n).2 && (sbi a.g b.g).2)=true then (⟨(sbi a.n b.n).1,(sbi a.g b.g).1⟩,true) else (⟨0,0⟩,false)
def zo2 (s:Sl):List Sl→Option (List Sl)
 | []=>some []
 | x::xs=>if (zfr s x).2=true then (zo2 (zfr s x).1 xs).map ((zfr s x).1 :: ·) else none
def zk0 (h:List Sl):List Sl×Bool:=match zo2 ⟨0,0⟩ h with
 | some l=>(l,true)
 | none=>([],false)
def zqv (f:Int) (all:Sl) (least:Int):Int→List Sl→List Cnd→Option (List Cnd)
 | b,x::y::xs,acc=>if (zlh all x).2=true then zqv f all least (b+1) (y::xs) (if least≤x.n∧least≤(zlh all x).1.n then acc++[⟨f,b,x,(zlh all x).1⟩] else acc) else none
 | _,_,acc=>some acc
def zw2 (l:List Sl):Sl:=l.getLast?.getD ⟨0,0⟩
def zrf (least:Int):Int→List (List Sl)→List Cnd→Option (List Cnd)
 | _,[],acc=>some acc
 | f,h::hs,acc=>if (zk0 h).2=true then match zqv f (zw2 (zk0 h).1) least 0 (zk0 h).1 acc with
  | some a=>zrf least (f+1) hs a
  | none=>none
  else none
def zt3 (H:List (List Sl)) (least:Int):List Cnd:=(zrf least 0 H []).getD []
def zt4 (c v:List (List Int)) (g:List Int) (cfg:Cfg) (rows:List Int) (b:Bd):Cnd×Bool:=if zjv c v g cfg=true then (if (zol c v g rows).2=true then zyw cfg b (zt3 (zol c v g rows).1 cfg.rw) else (zlz,false)) else (zlz,false)
structure Pnd where
 r:List Int
 b:Bd
 l:Int
def goes (c v:List (List Int)) (g:List Int) (cfg:Cfg) (x:Pnd):Bool:=decide (x.l<cfg.de) && (zt4 c v g cfg x.r x.b).2
theorem zvf {c v:List (List Int)} {g:List Int} {cfg:Cfg} (h:zjv c v g cfg=true):zmr c v=true∧zim cfg=true∧g.length=zj5 v∧(∀ x∈g,-2199023255552≤x∧x≤2199023255552):=by
 unfold zjv at h
 simp only [Bool.and_eq_true,decide_eq_true_eq] at h
 exact ⟨h.1.1.1,h.1.1.2,by omega,fun x hx=>zqh.mp (List.all_eq_true.mp h.2 x hx)⟩
def upl (n:Nat):List Int:=(List.range n).map fun (i:Nat)=>(i:Int)
@[simp] theorem z3m (n:Nat):(upl n).length=n:=by simp [upl]
@[simp] theorem zzr:upl 0=[]:=rfl
def pnd (x:Pnd):List PV:=[.own 1 (zhg x.r),iv x.b.lo,iv x.b.hi,iv x.l]
def zqa (l:List Pnd):List (List PV):=l.map pnd
@[simp] theorem z73 (l:List Pnd):(zqa l).length=l.length:=by simp [zqa]
inductive SN where
 | mk (f c v:Int) (ks:List SN)
def zeq (q:Bool) (es:List (List PV)):PV:=if q then .own 4 es else .sl 4 es
mutual
def snC (q:Bool):SN→List PV
 | .mk f c v ks=>[iv f,iv c,iv v,zeq q (snL q ks)]
def snL (q:Bool):List SN→List (List PV)
 | []=>[]
 | s::ss=>snC q s::snL q ss
end
mutual
def szN:SN→Nat
 | .mk _ _ _ ks=>szK ks
def szK:List SN→Nat
 | []=>0
 | s::ss=>1+szN s+szK ss
end
theorem zkf (q:Bool) : ∀ ks:List SN,snL q ks=ks.map (snC q)
 | []=>by simp [snL]
 | k::ks=>by simp [snL,zkf q ks]
@[simp] theorem z4p (q:Bool) (ks:List SN):(snL q ks).length=ks.length:=by rw [zkf]; simp
theorem zf9 {q:Bool} {ks:List SN} {i:Nat} {k:SN} (h:ks[i]?=some k):(snL q ks)[i]?=some (snC q k):=by rw [zkf]; simp [h]
theorem zgq : ∀ {ks:List SN} {k:SN},k∈ks→szN k<szK ks
 | s::ss,k,h=>by
  unfold szK
  rcases List.mem_cons.mp h with e | e
  ·subst e; omega
  ·have:=zgq e; omega
theorem zvy {ks:List SN} {i:Nat} {k:SN} (h:ks[i]?=some k):szK (ks.take (i+1))=szK (ks.take i)+1+szN k:=by
 rw [List.take_succ,h]
 have ap : ∀ a:List SN,szK (a++[k])=szK a+1+szN k:=by
  intro a
  induction a with
  | nil=>simp [szK]
  | cons s ss ih =>
   rw [List.cons_append]
   unfold szK
   rw [ih]; omega
 exact ap _
theorem zpp : ∀ (ks:List SN) (i:Nat),szK ks=szK (ks.take i)+szK (ks.drop i)
 | [],i=>by simp [szK]
 | s::ss,0=>by simp [szK]
 | s::ss,i+1=>by
  have:=zpp ss i
  rw [List.take_succ_cons,List.drop_succ_cons]
  simp only [szK]
  omega
theorem zi7 : ∀ ks:List SN,ks.length≤szK ks
 | []=>by simp
 | s::ss=>by
  have:=zi7 ss
  unfold szK
  simp; omega
inductive LnN (n:Nat):SN→Prop
 | mk {f c v:Int} {ks:List SN} (h:ks.length≤n) (t : ∀ k∈ks,LnN n k):LnN n (.mk f c v ks)
@[simp] theorem z8s (q:Bool) (es:List (List PV)):fz (zeq q es) = .sl 4 es:=by cases q <;> simp [zeq]
def snA (q:Bool):SN→List PV
 | .mk f c v ks=>[iv f,iv c,iv v,.sl 4 (snL q ks)]
def eqO (s:SN):Prop := ∀ p q:Bool,RUN T zfe [.agg (snA p s),.agg (snA q s)]=some ([bv true],[])
theorem zw1 {ks:List SN} (hl:ks.length≤9223372036854775807) (h : ∀ k∈ks,eqO k) (p q:Bool):RUN T zhl [.sl 4 (snL p ks),.sl 4 (snL q ks)]=some ([bv true],[]):=by
 refine zca zm9 rfl ?_
 simp [zjs,zjt]
 refine zik (fun n st => ∃ i:Nat,i+n=ks.length∧st.V 0 = .sl 4 (snL p ks)∧st.V 1 = .sl 4 (snL q ks)∧st.V 5=iv i) ?_ ks.length _ ⟨0,by simp⟩
 rintro n st ⟨i,hi,v0,v1,v5⟩
 by_cases hlt:i<ks.length
 ·obtain ⟨k,hk⟩ : ∃ k,ks[i]?=some k:=⟨_,List.getElem?_eq_getElem hlt⟩
  have hx1:=zf9 (q:=p) hk
  have hx2:=zf9 (q:=q) hk
  have hw:=wS hlt hl
  have e:=h k (List.mem_of_getElem? hk) p q
  obtain ⟨f,c,v,kk⟩:=k
  simp only [snC] at hx1 hx2
  simp only [snA] at e
  simp [-getElem?_pos,zku,v0,v1,v5,hlt,hx1,hx2,hw,e]
  exact zi8 (n-1) (by omega) ⟨i+1,by omega,by simp [v0],by simp [v1],by simp⟩
 ·simp [-getElem?_pos,zku,v0,v1,v5,hlt]
theorem znq : ∀ (n:Nat) (s:SN),szN s<n→LnN 9223372036854775807 s→eqO s
 | 0,s,h,_=>by omega
 | n+1,.mk f c v ks,h,hL=>by
  intro p q
  have hz:szN (.mk f c v ks)=szK ks:=by simp [szN]
  cases hL with
  | mk hl ht =>
  have e:=zw1 hl (fun k hk=>znq n k (by have:=zgq hk; omega) (ht k hk)) p q
  simp only [snA]
  refine zca zm7 rfl ?_
  simp [-getElem?_pos,zjm,zjn,e]
theorem zna (p q:Bool) (s:SN) (hL:LnN 9223372036854775807 s):RUN T zfe [.agg (snA p s),.agg (snA q s)]=some ([bv true],[]):=znq (szN s+1) s (by omega) hL p q
theorem zxe {c:Cfg} (h:zim c=true):1≤c.la∧c.la≤100∧0≤c.de∧c.de≤4:=by
 unfold zim at h
 simp only [Bool.and_eq_true,zqh] at h
 omega
structure GH (c v:List (List Int)) (g:List Int) (cfg:Cfg):Prop where
 tk:zjv c v g cfg=true
 sg:cfg.sg.length≤1048576
theorem GH.la {c v:List (List Int)} {g:List Int} {cfg:Cfg} (h:GH c v g cfg):1≤cfg.la∧cfg.la≤100∧0≤cfg.de∧cfg.de≤4:=zxe (zvf h.tk).2.1
mutual
def snE:SN→SN→Bool
 | .mk f c v ks,.mk f' c' v' ks'=>decide (f=f') && (decide (c=c') && (decide (v=v') && zdi ks ks'))
def zdi:List SN→List SN→Bool
 | [],[]=>true
 | a::as,b::bs=>snE a b && zdi as bs
 | _,_=>false
end
theorem zrk : ∀ {as bs:List SN},zdi as bs=true→as.length=bs.length
 | [],[],_=>rfl
 | a::as,b::bs,h=>by simp only [zdi,Bool.and_eq_true] at h; simp [zrk h.2]
 | [],b::bs,h=>by simp [zdi] at h
 | a::as,[],h=>by simp [zdi] at h
theorem zk2 : ∀ {as bs:List SN},as.length=bs.length→(∀ (i:Nat) (a b:SN),as[i]?=some a→bs[i]?=some b→snE a b=true)→zdi as bs=true
 | [],[],_,_=>rfl
 | a::as,b::bs,h,k=>by
  simp only [zdi,Bool.and_eq_true]
  exact ⟨k 0 a b rfl rfl,zk2 (by simpa using h) fun i x y hx hy=>k (i+1) x y (by simpa using hx) (by simpa using hy)⟩
 | [],b::bs,h,_=>by simp at h
 | a::as,[],h,_=>by simp at h
theorem zmc : ∀ {as bs:List SN} {i:Nat} {a b:SN},as[i]?=some a→bs[i]?=some b→snE a b=false→zdi as bs=false
 | [],_,i,_,_,h,_,_=>by simp at h
 | _::_,[],i,_,_,_,h,_=>by simp at h
 | x::as,y::bs,0,a,b,h1,h2,h=>by
  simp at h1 h2; subst h1 h2
  simp [zdi,h]
 | x::as,y::bs,i+1,a,b,h1,h2,h=>by
  simp only [zdi]
  rw [zmc (by simpa using h1) (by simpa using h2) h,Bool.and_false]
theorem zok {as bs:List SN} (h:as.length≠bs.length):zdi as bs=false:=by
 cases e:zdi as bs with
 | false=>rfl
 | true=>exact absurd (zrk e) h
def zka (p q:Bool) (a b:SN):Prop:=RUN T zgi [.agg (snA p a),.agg (snA q b)]=some ([bv (snE a b)],[])
theorem zsd : ∀ (n:Nat) (a b:SN) (p q:Bool),szN a<n→LnN 9223372036854775807 a→LnN 9223372036854775807 b→zka p q a b
 | 0,a,b,p,q,h,_,_=>by omega
 | n+1,.mk f c v ks,.mk f' c' v' ks',p,q,h,hL,hL'=>by
  have hz:szN (.mk f c v ks)=szK ks:=by simp [szN]
  cases hL with
  | mk hl ht =>
  cases hL' with
  | mk hl' ht' =>
  unfold zka
  simp only [snE,snA]
  by_cases c1:f=f'
  case neg =>
   refine zca zhm rfl ?_
   simp [-getElem?_pos,zf3,zf4,c1]
  by_cases c2:c=c'
  case neg =>
   refine zca zhm rfl ?_
   simp [-getElem?_pos,zf3,zf4,c1,c2]
  by_cases c3:v=v'
  case neg =>
   refine zca zhm rfl ?_
   simp [-getElem?_pos,zf3,zf4,c1,c2,c3]
  by_cases c4:ks.length=ks'.length
  case neg =>
   have c4' : ¬ (ks.length:Int)=ks'.length:=by omega
   rw [zok c4]
   refine zca zhm rfl ?_
   simp [-getElem?_pos,zf3,zf4,c1,c2,c3,c4,c4']
  subst c1 c2 c3
  simp only [decide_true,Bool.true_and]
  refine zca zhm rfl ?_
  simp [-getElem?_pos,zf3,zf4,c4]
  refine zik (fun m st => ∃ i:Nat,i+m=ks.length∧st.V 2 = .ptr 0 none 0 0 0∧st.V 3 = .ptr 1 none 0 0 0∧st.V 5=iv i∧st.S 0=some (.box [iv f,iv c,iv v,.sl 4 (snL p ks)])∧st.S 1=some (.box [iv f,iv c,iv v,.sl 4 (snL q ks')])∧∀ (j:Nat) (a b:SN),j<i→ks[j]?=some a→ks'[j]?=some b→snE a b=true) ?_ ks.length _ ⟨0,by omega,by simp,by simp,by simp,by simp,by simp,fun j a b hj=>absurd hj (Nat.not_lt_zero _)⟩
  rintro m st ⟨i,hi,v2,v3,v5,S0,S1,hj⟩
  by_cases hlt:i<ks.length
  ·obtain ⟨a,ha⟩ : ∃ a,ks[i]?=some a:=⟨_,List.getElem?_eq_getElem hlt⟩
   obtain ⟨b,hb⟩ : ∃ b,ks'[i]?=some b:=⟨_,List.getElem?_eq_getElem (by omega)⟩
   have hlt':i<ks'.length:=by omega
   have hx1:=zf9 (q:=p) ha
   have hx2:=zf9 (q:=q) hb
   have hw:=wS hlt hl
   have hm:=zgq (List.mem_of_getElem? ha)
   have e:=zsd n a b p q (by omega) (ht a (List.mem_of_getElem? ha)) (ht' b (List.mem_of_getElem? hb))
   unfold zka at e
   have hno:=fun h=>zmc ha hb h
   have hj':snE a b=true→∀ (j:Nat) (a b:SN),j<i+1→ks[j]?=some a→ks'[j]?=some b→snE a b=true:=fun h j a' b' h1 h2 h3=>by
    by_cases hji:j<i
    ·exact hj j a' b' hji h2 h3
    ·obtain rfl:j=i:=by omega
     rw [ha] at h2; rw [hb] at h3
     cases h2; cases h3
     exact h
   generalize snE a b=E at *
   obtain ⟨f1,c1,v1,k1⟩:=a
   obtain ⟨f2,c2,w2,k2⟩:=b
   simp only [snC] at hx1 hx2
   simp only [snA] at e
   cases E with
   | true =>
    simp [-getElem?_pos,zjj,v2,v3,v5,S0,S1,hlt,hlt',hx1,hx2,hw,e]
    exact zi8 (m-1) (by omega) ⟨i+1,by omega,by simp [v2],by simp [v3],by simp,by simp [S0],by simp [S1],hj' rfl⟩
   | false =>
    rw [hno rfl]
    simp [-getElem?_pos,zjj,v2,v3,v5,S0,S1,hlt,hlt',hx1,hx2,hw,e]
  ·rw [zk2 c4 (fun j a b h1 h2=>hj j a b (by have:=(List.getElem?_eq_some_iff.mp h1).1; omega) h1 h2)]
   simp [-getElem?_pos,zjj,v2,v3,v5,S0,S1,hlt]
theorem zyb (p q:Bool) (ks ks':List SN) (hl:ks.length≤9223372036854775807) (h : ∀ a∈ks,∀ b∈ks',RUN T zez [.agg (snA p a),.agg (snA q b)]=some ([bv (snE a b)],[])):RUN T zhk [.sl 4 (snL p ks),.sl 4 (snL q ks'),.fn zez []]=some ([bv (zdi ks ks')],[]):=by
 by_cases c4:ks.length=ks'.length
 case neg =>
  have c4' : ¬ (ks.length:Int)=ks'.length:=by omega
  rw [zok c4]
  refine zca zkw rfl ?_
  simp [-getElem?_pos,zif,zig,c4,c4']
 refine zca zkw rfl ?_
 simp [-getElem?_pos,zif,zig,c4]
 refine zik (fun m st => ∃ i:Nat,i+m=ks.length∧st.V 1 = .sl 4 (snL q ks')∧st.V 2 = .fn zez []∧st.V 15 = .sl 4 (snL p ks)∧st.V 16=iv ks.length∧st.V 17=iv i∧∀ (j:Nat) (a b:SN),j<i→ks[j]?=some a→ks'[j]?=some b→snE a b=true) ?_ ks.length _ ⟨0,by omega,by simp,by simp,by simp,by simp [c4],by simp,fun j a b hj=>absurd hj (Nat.not_lt_zero _)⟩
 rintro m st ⟨i,hi,v1,v2,v15,v16,v17,hj⟩
 by_cases hlt:i<ks.length
 ·obtain ⟨a,ha⟩ : ∃ a,ks[i]?=some a:=⟨_,List.getElem?_eq_getElem hlt⟩
  obtain ⟨b,hb⟩ : ∃ b,ks'[i]?=some b:=⟨_,List.getElem?_eq_getElem (by omega)⟩
  have hlt':i<ks'.length:=by omega
  have hx1:=zf9 (q:=p) ha
  have hx2:=zf9 (q:=q) hb
  have hw:=wS hlt hl
  have e:=h a (List.mem_of_getElem? ha) b (List.mem_of_getElem? hb)
  have hno:=fun h=>zmc ha hb h
  have hj':snE a b=true→∀ (j:Nat) (a b:SN),j<i+1→ks[j]?=some a→ks'[j]?=some b→snE a b=true:=fun h j a' b' h1 h2 h3=>by
   by_cases hji:j<i
   ·exact hj j a' b' hji h2 h3
   ·obtain rfl:j=i:=by omega
    rw [ha] at h2; rw [hb] at h3
    cases h2; cases h3
    exact h
  generalize snE a b=E at *
  obtain ⟨f1,c1,v1',k1⟩:=a
  obtain ⟨f2,c2,w2,k2⟩:=b
  simp only [snC] at hx1 hx2
  simp only [snA] at e
  cases E with
  | true =>
   simp [-getElem?_pos,zjr,v1,v2,v15,v16,v17,hlt,hlt',hx1,hx2,hw,e]
   exact zi8 (m-1) (by omega) ⟨i+1,by omega,by simp [v1],by simp [v2],by simp [v15],by simp [v16],by simp,hj' rfl⟩
  | false =>
   rw [hno rfl]
   simp [-getElem?_pos,zjr,v1,v2,v15,v16,v17,hlt,hlt',hx1,hx2,hw,e]
 ·rw [zk2 c4 (fun j a b h1 h2=>hj j a b (by have:=(List.getElem?_eq_some_iff.mp h1).1; omega) h1 h2)]
  simp [-getElem?_pos,zjr,v1,v2,v15,v16,v17,hlt]
theorem zr3 : ∀ (n:Nat) (a b:SN) (p q:Bool),szN a<n→LnN 9223372036854775807 a→LnN 9223372036854775807 b→RUN T zez [.agg (snA p a),.agg (snA q b)]=some ([bv (snE a b)],[])
 | 0,a,b,p,q,h,_,_=>by omega
 | n+1,.mk f c v ks,.mk f' c' v' ks',p,q,h,hL,hL'=>by
  have hz:szN (.mk f c v ks)=szK ks:=by simp [szN]
  cases hL with
  | mk hl ht =>
  cases hL' with
  | mk hl' ht' =>
  have e:=zyb p q ks ks' hl (fun a ha b hb=>zr3 n a b p q (by have:=zgq ha; omega) (ht a ha) (ht' b hb))
  simp only [snE,snA]
  by_cases c1:f=f'
  case neg =>
   refine zca zii rfl ?_
   simp [-getElem?_pos,zgl,zgm,c1]
  by_cases c2:c=c'
  case neg =>
   refine zca zii rfl ?_
   simp [-getElem?_pos,zgl,zgm,c1,c2]
  by_cases c3:v=v'
  case neg =>
   refine zca zii rfl ?_
   simp [-getElem?_pos,zgl,zgm,c1,c2,c3]
  subst c1 c2 c3
  simp only [decide_true,Bool.true_and]
  refine zca zii rfl ?_
  simp [-getElem?_pos,zgl,zgm,e]
def toO (s:SN):Prop := ∀ q:Bool,RUN T zdm [.agg (snA q s)]=some ([.agg (snC true s)],[])
theorem zuv {ks:List SN} (hl:ks.length≤1048576) (h : ∀ k∈ks,toO k) (q:Bool):RUN T zhj [.sl 4 (snL q ks)]=some ([.own 4 (snL true ks)],[]):=by
 refine zca zm8 rfl ?_
 have hr:zdc 48 ks.length=true:=by simp [zdc]; omega
 simp [zjp,zjq,hr]
 refine zik (fun n st => ∃ i:Nat,i+n=ks.length∧st.V 0 = .sl 4 (snL q ks)∧st.V 3 = .ref 0 none 0 0 ks.length∧st.V 4=iv i∧0<st.nx∧st.S 0=some (.row 4 (fil (snC true) [iv 0,iv 0,iv 0,.own 4 []] ks i))) ?_ ks.length _ ⟨0,by simp [zu1]⟩
 rintro n st ⟨i,hi,v0,v3,v4,hnx,hS⟩
 have z:=fr hnx
 by_cases hlt:i<ks.length
 ·obtain ⟨k,hk⟩ : ∃ k,ks[i]?=some k:=⟨_,List.getElem?_eq_getElem hlt⟩
  have hw:=wS hlt (by omega:ks.length≤9223372036854775807)
  have hg:=zw4 (f:=snC true) (z:=[iv 0,iv 0,iv 0,.own 4 []]) hlt
  have hs:=zs6 (f:=snC true) (z:=[iv 0,iv 0,iv 0,.own 4 []]) hk
  have hx:=zf9 (q:=q) hk
  have e:=h k (List.mem_of_getElem? hk) q
  obtain ⟨f,c,v,kk⟩:=k
  simp only [snC] at hx
  simp only [snC,zeq,if_true] at hs e
  simp only [snA] at e
  simp [-getElem?_pos,zkt,v0,v3,v4,hS,z,hlt,hx,hw,hg,hs,e,zyo (Nat.le_of_lt hlt)]
  exact zi8 (n-1) (by omega) ⟨i+1,by omega,by simp [v0],by simp [v3],by simp,by simp,by simp [z]⟩
 ·have e:=zwq (f:=snC true) (z:=[iv 0,iv 0,iv 0,.own 4 []]) (by omega:i=ks.length)
  rw [← zkf] at e
  simp [-getElem?_pos,zkt,v0,v3,v4,hS,hlt,e]
theorem znj : ∀ (n:Nat) (s:SN),szN s<n→LnN 1048576 s→toO s
 | 0,s,h,_=>by omega
 | n+1,.mk f c v ks,h,hL=>by
  intro q
  have hz:szN (.mk f c v ks)=szK ks:=by simp [szN]
  cases hL with
  | mk hl ht =>
  have e:=zuv hl (fun k hk=>znj n k (by have:=zgq hk; omega) (ht k hk)) q
  simp only [snA,snC,zeq,if_true]
  refine zca zm6 rfl ?_
  simp [-getElem?_pos,zjk,zjl,e]
theorem znb (q:Bool) (s:SN) (hL:LnN 1048576 s):RUN T zdm [.agg (snA q s)]=some ([.agg (snC true s)],[]):=znj (szN s+1) s (by omega) hL q
def szO (s:SN):Prop := ∀ left:Int,0≤left→left≤1048576→RUN T zfd [.agg (snC false s),iv left]=some ([iv (if left-szN s<0 then -1 else left-szN s)],[])
theorem zx2 {ks:List SN} (hl:ks.length≤9223372036854775807) (h : ∀ k∈ks,szO k) (left:Int) (h0:0≤left) (h1:left≤1048576):RUN T zhi [.sl 4 (snL false ks),iv left]=some ([iv (if left-szK ks<0 then -1 else left-szK ks)],[]):=by
 have hlen:=zi7 ks
 have w1:=w64 (x:=left-ks.length) (by omega) (by omega)
 by_cases c0:left-ks.length<0
 ·rw [if_pos (by omega)]
  refine zca zkv rfl ?_
  simp [-getElem?_pos,zid,zie,w1,c0]
 refine zca zkv rfl ?_
 simp [-getElem?_pos,zid,zie,w1,c0]
 refine zik (fun n st => ∃ i:Nat,i+n=ks.length∧st.V 0 = .sl 4 (snL false ks)∧(∃ r:Int,st.V 1=iv r∧r=left-ks.length+i-szK (ks.take i)∧0≤r)∧st.V 5=iv i) ?_ ks.length _ ⟨0,by omega,by simp,⟨left-ks.length,by simp,by simp [szK],by omega⟩,by simp⟩
 rintro n st ⟨i,hi,v0,⟨r,v1,hr,hr0⟩,v5⟩
 by_cases hlt:i<ks.length
 ·obtain ⟨k,hk⟩ : ∃ k,ks[i]?=some k:=⟨_,List.getElem?_eq_getElem hlt⟩
  have hk':=zf9 (q:=false) hk
  have hw:=wS hlt (by omega:ks.length≤9223372036854775807)
  have htk:=zvy hk
  have hsp:=zpp ks (i+1)
  have hdl:=zi7 (ks.drop (i+1))
  rw [List.length_drop] at hdl
  have hk2:i≤szK (ks.take i):=by have:=zi7 (ks.take i); simp at this; omega
  have e:=h k (List.mem_of_getElem? hk) r hr0 (by omega)
  obtain ⟨f,c,v,kk⟩:=k
  simp only [snC,zeq,Bool.false_eq_true,if_false] at hk' e
  by_cases c1:r-szN (.mk f c v kk)<0
  ·rw [if_pos c1] at e
   rw [if_pos (by omega)]
   simp [-getElem?_pos,zjo,v0,v1,v5,hlt,hk',e]
  ·rw [if_neg c1] at e
   simp [-getElem?_pos,zjo,v0,v1,v5,hlt,hk',e,c1,hw]
   exact zi8 (n-1) (by omega) ⟨i+1,by omega,by simp [v0],⟨r-szN (.mk f c v kk),by simp,by rw [htk]; omega,by omega⟩,by simp⟩
 ·have e:i=ks.length:=by omega
  subst e
  rw [List.take_length] at hr
  rw [if_neg (by omega)]
  simp [-getElem?_pos,zjo,v0,v1,v5,hlt]
  omega
theorem zp6 : ∀ (n:Nat) (s:SN),szN s<n→LnN 9223372036854775807 s→szO s
 | 0,s,h,_=>by omega
 | n+1,.mk f c v ks,h,hL=>by
  intro left h0 h1
  have hz:szN (.mk f c v ks)=szK ks:=by simp [szN]
  cases hL with
  | mk hl ht =>
  have e:=zx2 hl (fun k hk=>zp6 n k (by have:=zgq hk; omega) (ht k hk)) left h0 h1
  rw [hz]
  simp only [snC,zeq,Bool.false_eq_true,if_false]
  refine zca zm5 rfl ?_
  by_cases c1:left-szK ks<0
  ·rw [if_pos c1] at e ⊢
   simp [-getElem?_pos,zib,zic,e]
  ·rw [if_neg c1] at e ⊢
   simp [-getElem?_pos,zib,zic,e,c1]
theorem znc (s:SN) (hL:LnN 9223372036854775807 s) (left:Int) (h0:0≤left) (h1:left≤1048576):RUN T zfd [.agg (snC false s),iv left]=some ([iv (if left-szN s<0 then -1 else left-szN s)],[]):=zp6 (szN s+1) s (by omega) hL left h0 h1
theorem zn3 : ∀ (n:Nat) (c:PV),zda (za7 [.int .i64,.int .i64,.int .i64]) 4 n c→∃ ks:List SN,c = .sl 4 (snL false ks)∧ks.length≤9223372036854775807∧∀ k∈ks,LnN 9223372036854775807 k
 | 0,c,h=>⟨[],by rw [h]; simp [snL],by simp,by simp⟩
 | n+1,c,h=>by
  obtain ⟨es,h1,h2,h3⟩:=h
  have key : ∀ es:List (List PV),(∀ cs∈es,∃ a x,cs=a++[x]∧za7 [.int .i64,.int .i64,.int .i64] a∧zda (za7 [.int .i64,.int .i64,.int .i64]) 4 n x)→∃ ks:List SN,es=snL false ks∧∀ k∈ks,LnN 9223372036854775807 k:=by
   intro es
   induction es with
   | nil=>intro _; exact ⟨[],by simp [snL],by simp⟩
   | cons e es ih =>
    intro h
    obtain ⟨ks,k1,k2⟩:=ih (fun cs hcs=>h cs (by simp [hcs]))
    obtain ⟨a,x,e1,e2,e3⟩:=h e (by simp)
    obtain ⟨c1,r1,rfl,⟨n1,rfl,_⟩,e2⟩:=e2
    obtain ⟨c2,r2,rfl,⟨n2,rfl,_⟩,e2⟩:=e2
    obtain ⟨c3,r3,rfl,⟨n3,rfl,_⟩,e2⟩:=e2
    simp only [za7] at e2
    subst e2
    obtain ⟨kk,rfl,q1,q2⟩:=zn3 n x e3
    refine ⟨.mk n1 n2 n3 kk::ks,?_,?_⟩
    ·rw [e1,k1]
     simp [snL,snC,zeq]
    ·intro k hk
     rcases List.mem_cons.mp hk with rfl | hk
     ·exact .mk q1 q2
     ·exact k2 k hk
  obtain ⟨ks,k1,k2⟩:=key es h3
  have hlen:ks.length=es.length:=by rw [k1]; simp
  exact ⟨ks,by rw [h1,k1],by rw [hlen]; exact h2,k2⟩
theorem zr4 {c:PV} (h:zf6 true [.int .i64,.int .i64,.int .i64,.rs [.int .i64,.int .i64,.int .i64]] c) : ∃ s:SN,c = .agg (snA false s)∧LnN 9223372036854775807 s:=by
 obtain ⟨cs,rfl,h⟩:=h
 obtain ⟨c1,r1,rfl,⟨n1,rfl,_⟩,h⟩:=h
 obtain ⟨c2,r2,rfl,⟨n2,rfl,_⟩,h⟩:=h
 obtain ⟨c3,r3,rfl,⟨n3,rfl,_⟩,h⟩:=h
 obtain ⟨c4,r4,rfl,⟨n,hs⟩,h⟩:=h
 simp only [za7] at h
 subst h
 obtain ⟨ks,rfl,q1,q2⟩:=zn3 n c4 hs
 exact ⟨.mk n1 n2 n3 ks,rfl,.mk q1 q2⟩
theorem zl2 {N:Nat} : ∀ (n:Nat) (s:SN),szN s<n→szN s≤N→LnN N s
 | 0,s,h,_=>by omega
 | n+1,.mk f c v ks,h,hN=>by
  have hz:szN (.mk f c v ks)=szK ks:=by simp [szN]
  have:=zi7 ks
  refine .mk (by omega) (fun k hk => ?_)
  have:=zgq hk
  exact zl2 n k (by omega) (by omega)
set_option maxHeartbeats 2000000 in
theorem zub (a b:SN) (ha:LnN 9223372036854775807 a) (hb:LnN 9223372036854775807 b):RUN T zia [.agg (snA false a),.agg (snA false b)]=some ([bv true],[]):=by
 have s1:=znc a ha 1048576 (by omega) (by omega)
 have s2:=fun h0 h1=>znc b hb (1048576-szN a) h0 h1
 have q1:=zna true true a ha
 have q2:=zna true true b hb
 have t1:=fun h=>znb false a h
 have t2:=fun h=>znb false b h
 have z1:=fun n=>zl2 (N:=n) (szN a+1) a (by omega)
 have z2:=fun n=>zl2 (N:=n) (szN b+1) b (by omega)
 have a1:=zsd (szN a+1) a b true true (by omega) ha hb
 have a2:=zr3 (szN a+1) a b true true (by omega) ha hb
 unfold zka at a1
 generalize snE a b=E at *
 have hza : ∀ f c v ks,szN (.mk f c v ks)=szK ks:=fun f c v ks=>by simp [szN]
 by_cases d1:(1048576:Int)-szN a<0
 ·rw [if_pos d1] at s1
  obtain ⟨af,ac,av,ak⟩:=a
  obtain ⟨bf,bc,bv',bk⟩:=b
  simp only [snA,snC,zeq,if_true,if_false,Bool.false_eq_true] at *
  refine zca zih rfl ?_
  simp [-getElem?_pos,zgj,zgk,s1]
 rw [if_neg d1] at s1
 have s2:=s2 (by omega) (by omega)
 by_cases d2:(1048576:Int)-szN a-szN b<0
 ·rw [if_pos d2] at s2
  obtain ⟨af,ac,av,ak⟩:=a
  obtain ⟨bf,bc,bv',bk⟩:=b
  simp only [snA,snC,zeq,if_true,if_false,Bool.false_eq_true] at *
  refine zca zih rfl ?_
  simp [-getElem?_pos,zgj,zgk,s1,s2,d1]
 rw [if_neg d2] at s2
 have t1:=t1 (z1 1048576 (by omega))
 have t2:=t2 (z2 1048576 (by omega))
 obtain ⟨af,ac,av,ak⟩:=a
 obtain ⟨bf,bc,bv',bk⟩:=b
 simp only [snA,snC,zeq,if_true,if_false,Bool.false_eq_true] at *
 refine zca zih rfl ?_
 cases E
 ·simp [-getElem?_pos,zgj,zgk,s1,s2,d1,d2,t1,t2,a1,a2,q1,q2]
 ·simp [-getElem?_pos,zgj,zgk,s1,s2,d1,d2,t1,t2,a1,a2,q1,q2]
end Go.Pe
