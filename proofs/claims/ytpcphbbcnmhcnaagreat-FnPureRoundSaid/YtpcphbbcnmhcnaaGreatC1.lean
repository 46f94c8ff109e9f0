/- What each function answers by the evaluator,and the law; for each answer its own conditions stand ahead of it. -/
import Derived.Test.YtpcphbbcnmhcnaaGreatC0
import Derived.Test.YtpcphbbcnmhcnaaGreatEvB2
import Derived.IntWalk
set_option linter.all false
set_option maxHeartbeats 8000000
set_option maxRecDepth 8000
namespace Go.Pe
open Go
theorem ylq (a b:Fr) (ha:frI a) (hb:frI b):RUN T zoc [.agg (frc a),.agg (frc b)]=some ([.agg (wd (zbs a b).1),.agg (wd (zbs a b).2.1),bv (zbs a b).2.2],[]):=by
 refine zae rfl rfl ?_;have e1:=z7q a;have e2:=z7q b;have e3:=ylj a.w b.d ha.1 hb.2;have e4:=ylj b.w a.d hb.1 ha.2;unfold zbs;generalize zdf a.w b.d=x at *;generalize zdf b.w a.d=y at *;generalize frB a=p at *;generalize frB b=q at *;obtain ⟨⟨an,ah,al⟩,ad⟩:=a;obtain ⟨⟨bn,bh,bl⟩,bd⟩:=b;obtain ⟨x,xb⟩:=x;obtain ⟨y,yb⟩:=y;simp only [frc,wd] at e1 e2 e3 e4 ⊢;cases p <;> cases q <;> cases xb <;> simp [z6o,z6h,e1,e2,e3,e4,za7]
def zfm (a b:Fr):Int×Bool:=if (zbs a b).2.2=true then (zk7 (zbs a b).1 (zbs a b).2.1,true) else (0,false)
theorem ylr (a b:Fr) (ha:frI a) (hb:frI b):RUN T zn7 [.agg (frc a),.agg (frc b)]=some ([iv (zfm a b).1,bv (zfm a b).2],[]):=by
 refine zae rfl rfl ?_;have e1:=ylp a b ha hb;obtain ⟨w1,w2⟩:=ydt a b ha.1 hb.1;have e2:=y7w (zbs a b).1 (zbs a b).2.1 w1 w2;unfold zfm;generalize zbs a b=r at *;obtain ⟨x,y,o⟩:=r;simp only at e2 ⊢;generalize zk7 x y=z at *;simp only [frc,wd] at e1 e2 ⊢;cases o <;> simp [z50,zkg,e1,e2]
theorem yls (a b:Fr) (ha:frI a) (hb:frI b):RUN T zn8 [.agg (frc a),.agg (frc b)]=some ([iv (zfm a b).1,bv (zfm a b).2],[]):=by
 refine zae rfl rfl ?_;have e1:=ylq a b ha hb;have e2:=y7m (zbs a b).1 (zbs a b).2.1;unfold zfm;generalize zbs a b=r at *;obtain ⟨x,y,o⟩:=r;simp only at e2 ⊢;generalize zk7 x y=z at *;simp only [frc,wd] at e1 e2 ⊢;cases o <;> simp [z6c,zkg,e1,e2]
def zh8 (a b:Fr):Fr×Bool:=if (zbs a b).2.2=true then (if (zco (zbs a b).1 (zbs a b).2.1).2=true then zff (zco (zbs a b).1 (zbs a b).2.1).1 (a.d*b.d) else (zew,false)) else (zew,false)
theorem ys1 {a b:Int} (h:(1<=a/\a<=1000000)/\1<=b/\b<=1000000):IntKind.i64.wrap (a*b)=a*b:=by
 have h1:a*b<=1000000*1000000:=Int.mul_le_mul h.1.2 h.2.2 (by omega) (by decide);have h2:0<=a*b:=Int.mul_nonneg (by omega) (by omega);exact w64 (by omega) (by omega)
theorem y7z (a b:Fr) (ha:frI a) (hb:frI b):RUN T zs9 [.agg (frc a),.agg (frc b)]=some ([.agg (frc (zh8 a b).1),bv (zh8 a b).2],[]):=by
 refine zae rfl rfl ?_;have e1:=ylp a b ha hb;obtain ⟨w1,w2⟩:=ydt a b ha.1 hb.1;have e2:=y7k (zbs a b).1 (zbs a b).2.1 w1 w2;have hok := @yqt a b;have e3:=ylo (zco (zbs a b).1 (zbs a b).2.1).1 (a.d*b.d);unfold zh8;generalize zbs a b=r at *;obtain ⟨x,y,o⟩:=r;simp only at e2 e3 hok ⊢;generalize zco x y=s at *;obtain ⟨s,so⟩:=s;simp only at e2 e3 ⊢;cases o with
 | false =>
  simp only [frc,wd] at e1 ⊢;simp [zxk,z5z,e1,zew,za7]
 | true =>
  have hm:=ys1 (hok rfl);generalize zff s (a.d*b.d)=f at *;obtain ⟨f,fo⟩:=f;simp only [frc,wd] at e1 e2 e3 ⊢;cases so <;> simp [zxk,z5z,e1,e2,e3,hm,zew,za7]
theorem y70 (a b:Fr) (ha:frI a) (hb:frI b):RUN T ztc [.agg (frc a),.agg (frc b)]=some ([.agg (frc (zh8 a b).1),bv (zh8 a b).2],[]):=by
 refine zae rfl rfl ?_;have e1:=ylq a b ha hb;obtain ⟨w1,w2⟩:=ydt a b ha.1 hb.1;have e2:=y7l (zbs a b).1 (zbs a b).2.1 w1 w2;have hok := @yqt a b;have e3:=z7q ⟨(zco (zbs a b).1 (zbs a b).2.1).1,a.d*b.d⟩;unfold zh8 zff;generalize zbs a b=r at *;obtain ⟨x,y,o⟩:=r;simp only at e2 e3 hok ⊢;generalize zco x y=s at *;obtain ⟨s,so⟩:=s;simp only at e2 e3 ⊢;cases o with
 | false =>
  simp only [frc,wd] at e1 ⊢;simp [zxm,z5z,e1,zew,za7]
 | true =>
  have hm:=ys1 (hok rfl);generalize frB ⟨s,a.d*b.d⟩=fo at *;simp only [frc,wd] at e1 e2 e3 ⊢;cases so <;> cases fo <;> simp [zxm,z5z,e1,e2,e3,hm,frc,zew,za7]
structure Cnd where
 f:Int
 b:Int
 a:Sl
 z:Sl
deriving DecidableEq
def cnd (c:Cnd):List PV:=[iv c.f,iv c.b,iv c.a.n,iv c.a.g,iv c.z.n,iv c.z.g]
def zep (c:Cnd):Prop:=inI c.f/\inI c.b/\slI c.a/\slI c.z
structure Bd where
 lo:Int
 hi:Int
def bnd (b:Bd):List PV:=[iv b.lo,iv b.hi]
def zg6 (b:Bd):Bool:=decide (b.lo<=b.hi) && zeb b.lo && zeb b.hi
def zfp (x lo hi:Int):Int:=if x<lo then lo else if hi<x then hi else x
def zik (n l:Int):Bool:=zaj n 0 40 && zaj l 1 100
def zeg (s:Sl) (l:Int) (b:Bd):Int×Bool:=if (zik s.n l && zg6 b)=true then (zfp (fdv s.g (s.n+l)).1 b.lo b.hi,true) else (0,false)
def zc1 (s:Sl) (l:Int):Fr×Bool:=if zik s.n l=true then zff (zet s.g s.g) (s.n+l) else (zew,false)
def zcb (c:Cnd) (l:Int):Fr×Bool:=if ((zc1 c.a l).2 && (zc1 c.z l).2)=true then zh8 (zc1 c.a l).1 (zc1 c.z l).1 else (zew,false)
theorem ylt (n l:Int):RUN T zny [iv n,iv l]=some ([bv (zik n l)],[]):=by
 refine zae rfl rfl ?_;have e1:=zcu n 0 40;have e2:=zcu l 1 100;unfold zik;generalize zaj n 0 40=x at *;cases x <;> simp [z4p,zvr,-zbm,e1,e2]
theorem ylu (b:Bd):RUN T znz [.agg (bnd b)]=some ([bv (zg6 b)],[]):=by
 refine zae rfl rfl ?_;have e1:=yk4 b.lo;have e2:=yk4 b.hi;unfold zg6;generalize zeb b.lo=x at *;generalize zeb b.hi=y at *
 by_cases h:b.lo<=b.hi <;> cases x <;> simp [z4r,zvo,bnd,e1,e2,h]
theorem ylv (b:Bd):RUN T zn2 [.agg (bnd b)]=some ([bv (zg6 b)],[]):=by
 refine zae rfl rfl ?_;have e1:=yk3 b.lo;have e2:=yk3 b.hi;unfold zg6;generalize zeb b.lo=x at *;generalize zeb b.hi=y at *
 by_cases h:b.lo<=b.hi <;> cases x <;> simp [z41,zvo,bnd,e1,e2,h]
theorem ylw (x lo hi:Int):RUN T zn0 [iv x,iv lo,iv hi]=some ([iv (zfp x lo hi)],[]):=by
 refine zae rfl rfl ?_;unfold zfp
 by_cases h1:x<lo
 ·simp [zwz,zzs,h1]
 ·by_cases h2:hi<x <;> simp [zwz,zzs,h1,h2]
theorem ylx (x lo hi:Int):RUN T zn3 [iv x,iv lo,iv hi]=some ([iv (zfp x lo hi)],[]):=by
 refine zae rfl rfl ?_;unfold zfp
 by_cases h1:x<lo
 ·simp [zw6,zzs,h1]
 ·by_cases h2:hi<x <;> simp [zw6,zzs,h1,h2]
theorem z8z {n l:Int} (h:zik n l=true):IntKind.i64.wrap (n+l)=n+l:=by
 unfold zik at h;simp only [Bool.and_eq_true] at h;have h1:=zay.mp h.1;have h2:=zay.mp h.2;exact w64 (by omega) (by omega)
theorem yar (s:Sl) (l:Int) (b:Bd) (hs:slI s):RUN T zlo [.agg (slc s),iv l,.agg (bnd b)]=some ([iv (zeg s l b).1,bv (zeg s l b).2],[]):=by
 refine zae rfl rfl ?_;have e1:=ylt s.n l;have e2:=ylu b;have e3:=yk2 s.g (s.n+l) hs.2;have e4:=ylw (fdv s.g (s.n+l)).1 b.lo b.hi;have hw := @z8z s.n l;unfold zeg;generalize zik s.n l=x at *;generalize zg6 b=y at *;generalize fdv s.g (s.n+l)=q at *;obtain ⟨q,qo⟩:=q;simp only [bnd] at e2;cases x with
 | false=>simp [zwk,zwl,slc,bnd,e1]
 | true =>
  have hw:=hw rfl;cases y <;> simp [zwk,zwl,slc,bnd,e1,e2,e3,e4,hw]
theorem yas (s:Sl) (l:Int) (b:Bd) (hs:slI s):RUN T zlq [.agg (slc s),iv l,.agg (bnd b)]=some ([iv (zeg s l b).1,bv (zeg s l b).2],[]):=by
 refine zae rfl rfl ?_;have e1:=zba s.n 0 40;have e1':=zba l 1 100;have e2:=ylv b;have e3:=yac s.g (s.n+l) hs.2;have e4:=ylx (fdv s.g (s.n+l)).1 b.lo b.hi;have hw := @z8z s.n l;unfold zeg;unfold zik at *;generalize zaj s.n 0 40=x at *;generalize zaj l 1 100=x' at *;generalize zg6 b=y at *;generalize fdv s.g (s.n+l)=q at *;obtain ⟨q,qo⟩:=q;simp only [bnd] at e2;cases x with
 | false=>simp [zt8,zwl,-za0,slc,bnd,e1]
 | true =>
  cases x' with
  | false=>simp [zt8,zwl,-za0,slc,bnd,e1,e1']
  | true =>
   have hw:=hw rfl;cases y <;> simp [zt8,zwl,-za0,slc,bnd,e1,e1',e2,e3,e4,hw]
theorem y71 (c:Cnd) (h:zep c):RUN T zs8 [.agg (cnd c)]=some ([.agg (slc (zbk c.a c.z).1),bv (zbk c.a c.z).2],[]):=by
 refine zae rfl rfl ?_;have e1:=yao c.a c.z h.2.2.1 h.2.2.2;generalize zbk c.a c.z=p at *;obtain ⟨⟨pn,pg⟩,pb⟩:=p;simp only [slc] at e1 ⊢;simp [z6e,z6f,cnd,e1]
theorem y72 (c:Cnd) (h:zep c):RUN T ztb [.agg (cnd c)]=some ([.agg (slc (zbk c.a c.z).1),bv (zbk c.a c.z).2],[]):=by
 refine zae rfl rfl ?_;have e1:=yap c.a c.z h.2.2.1 h.2.2.2;generalize zbk c.a c.z=p at *;obtain ⟨⟨pn,pg⟩,pb⟩:=p;simp only [slc] at e1 ⊢;simp [z6m,z6f,cnd,e1]
theorem yat (s:Sl) (l:Int) (hs:slI s):RUN T zl1 [.agg (slc s),iv l]=some ([.agg (frc (zc1 s l).1),bv (zc1 s l).2],[]):=by
 refine zae rfl rfl ?_;have e1:=ylt s.n l;have e2:=y7x s.g (s.n+l) hs.2;have hw := @z8z s.n l;unfold zc1;generalize zik s.n l=x at *;generalize zff (zet s.g s.g) (s.n+l)=f at *;obtain ⟨⟨fw,fd⟩,fb⟩:=f;simp only [frc] at e2 ⊢;cases x with
 | false=>simp [zxi,z5z,slc,e1,zew,za7]
 | true =>
  have hw:=hw rfl;simp [zxi,z5z,slc,e1,e2,hw]
theorem yau (s:Sl) (l:Int) (hs:slI s):RUN T zl2 [.agg (slc s),iv l]=some ([.agg (frc (zc1 s l).1),bv (zc1 s l).2],[]):=by
 refine zae rfl rfl ?_;have e1:=zba s.n 0 40;have e1':=zba l 1 100;have e2:=y7y s.g (s.n+l) hs.2;have hw := @z8z s.n l;unfold zc1;unfold zik at *;generalize zaj s.n 0 40=x at *;generalize zaj l 1 100=x' at *;generalize zff (zet s.g s.g) (s.n+l)=f at *;obtain ⟨⟨fw,fd⟩,fb⟩:=f;simp only [frc] at e2 ⊢;cases x with
 | false=>simp [zuf,z5z,-za0,slc,e1,zew,za7]
 | true =>
  cases x' with
  | false=>simp [zuf,z5z,-za0,slc,e1,e1',zew,za7]
  | true =>
   have hw:=hw rfl;simp [zuf,z5z,-za0,slc,e1,e1',e2,hw]
theorem ytb (w:Wd) (d:Int) (hw:wfU w):frI (zff w d).1:=by
 unfold zff;split
 ·rename_i h;simp only [frB,Bool.and_eq_true] at h;have:=zay.mp h.2;exact ⟨hw,by unfold inI; simp only; omega⟩
 ·exact ⟨zyl,by unfold inI zew; simp⟩
theorem z7s:frI zew:=⟨zyl,by unfold inI zew; simp⟩
theorem zuy (s:Sl) (l:Int) (hs:slI s):frI (zc1 s l).1:=by
 unfold zc1;split
 ·exact ytb _ _ (qc2 hs.2 hs.2)
 ·exact z7s
theorem qfx (a b:Fr):frI (zh8 a b).1:=by
 unfold zh8;split
 ·split
  ·exact ytb _ _ (qgz _ _)
  ·exact z7s
 ·exact z7s
theorem zux (c:Cnd) (l:Int):frI (zcb c l).1:=by
 unfold zcb;split
 ·exact qfx _ _
 ·exact z7s
theorem yav (c:Cnd) (l:Int) (h:zep c):RUN T zly [.agg (cnd c),iv l]=some ([.agg (frc (zcb c l).1),bv (zcb c l).2],[]):=by
 refine zae rfl rfl ?_;have e1:=yat c.a l h.2.2.1;have e2:=yat c.z l h.2.2.2;have e3:=y7z (zc1 c.a l).1 (zc1 c.z l).1 (zuy _ _ h.2.2.1) (zuy _ _ h.2.2.2);unfold zcb;generalize zc1 c.a l=p at *;generalize zc1 c.z l=q at *;obtain ⟨p,pb⟩:=p;obtain ⟨q,qb⟩:=q;simp only at e1 e2 e3 ⊢;generalize zh8 p q=r at *;obtain ⟨r,rb⟩:=r;simp only [frc,slc] at e1 e2 e3 ⊢;cases pb <;> cases qb <;> simp [z5y,z5z,cnd,e1,e2,e3,zew,za7]
theorem yaw (c:Cnd) (l:Int) (h:zep c):RUN T zl0 [.agg (cnd c),iv l]=some ([.agg (frc (zcb c l).1),bv (zcb c l).2],[]):=by
 refine zae rfl rfl ?_;have e1:=yau c.a l h.2.2.1;have e2:=yau c.z l h.2.2.2;have e3:=y70 (zc1 c.a l).1 (zc1 c.z l).1 (zuy _ _ h.2.2.1) (zuy _ _ h.2.2.2);unfold zcb;generalize zc1 c.a l=p at *;generalize zc1 c.z l=q at *;obtain ⟨p,pb⟩:=p;obtain ⟨q,qb⟩:=q;simp only at e1 e2 e3 ⊢;generalize zh8 p q=r at *;obtain ⟨r,rb⟩:=r;simp only [frc,slc] at e1 e2 e3 ⊢;cases pb <;> cases qb <;> simp [z6a,z5z,cnd,e1,e2,e3,zew,za7]
abbrev cfS (c:Cfg):PV := .agg [iv c.ro,iv c.de,iv c.bi,iv c.la,iv c.rw,iv c.nu,iv c.dn,.sl 1 (zab c.sg)]
def zb1 (c:Cfg) (b:Bd) (x:Cnd):Int×Int×Bool:=if ((zeg x.a c.la b).2 && (zeg x.z c.la b).2)=true then ((zeg x.a c.la b).1,(zeg x.z c.la b).1,true) else (0,0,false)
def zej (c:Cfg) (f:Int):Int:=(atI c.sg f).getD 0
def zp9 (s l r:Int):Bool:=if s=1 then decide (l<=r) else if s = -1 then decide (r<=l) else true
def zqa (x:Cnd) (l:Int):Bool:=(zcb x l).2 && ((zbk x.a x.z).2 && ((zc1 (zbk x.a x.z).1 l).2 && ((zfm (zcb x l).1 (zc1 (zbk x.a x.z).1 l).1).2 && decide (0<(zfm (zcb x l).1 (zc1 (zbk x.a x.z).1 l).1).1))))
def zi2 (a b:Cnd):Bool:=decide (a.f<b.f) || (decide (a.f=b.f) && decide (a.b<b.b))
def zd2 (a b:Cnd) (l:Int):Bool:=(zcb a l).2 && ((zcb b l).2 && ((zfm (zcb a l).1 (zcb b l).1).2 && (decide (0<(zfm (zcb a l).1 (zcb b l).1).1) || (decide ((zfm (zcb a l).1 (zcb b l).1).1=0) && zi2 a b))))
theorem yly (c:Cfg) (b:Bd) (x:Cnd) (h:zep x):RUN T znm [cfS c,.agg (bnd b),.agg (cnd x)]=some ([iv (zb1 c b x).1,iv (zb1 c b x).2.1,bv (zb1 c b x).2.2],[]):=by
 have e1:=yar x.a c.la b h.2.2.1;have e2:=yar x.z c.la b h.2.2.2;unfold zb1;generalize zeg x.a c.la b=p at *;generalize zeg x.z c.la b=q at *;obtain ⟨p,pb⟩:=p;obtain ⟨q,qb⟩:=q;simp only [slc,bnd] at e1 e2 ⊢;refine zae rfl rfl ?_;cases pb <;> cases qb <;> simp [z2t,z2u,cnd,e1,e2]
theorem ylz (c:Cfg) (b:Bd) (x:Cnd) (h:zep x):RUN T znq [cfS c,.agg (bnd b),.agg (cnd x)]=some ([iv (zb1 c b x).1,iv (zb1 c b x).2.1,bv (zb1 c b x).2.2],[]):=by
 have e1:=yas x.a c.la b h.2.2.1;have e2:=yas x.z c.la b h.2.2.2;unfold zb1;generalize zeg x.a c.la b=p at *;generalize zeg x.z c.la b=q at *;obtain ⟨p,pb⟩:=p;obtain ⟨q,qb⟩:=q;simp only [slc,bnd] at e1 e2 ⊢;refine zae rfl rfl ?_;cases pb <;> cases qb <;> simp [z3b,z2u,cnd,e1,e2]
theorem yl0 (c:Cfg) (f:Int) (hl:c.sg.length<=9223372036854775807):RUN T znn [cfS c,iv f]=some ([iv (zej c f)],[]):=by
 refine zae rfl rfl ?_;have hw:=w64 (x:=(c.sg.length:Int)-1) (by omega) (by omega);have e1:=zcu f 0 ((c.sg.length:Int)-1);unfold zej;cases hs:atI c.sg f with
 | none =>
  have hn:=zjs hs;have:zaj f 0 ((c.sg.length:Int)-1)=false:=by
   cases hw:zaj f 0 ((c.sg.length:Int)-1) with
   | false=>rfl
   | true=>have:=zay.mp hw; omega
  rw [this] at e1;simp [zwm,zvr,-zbm,e1,hw]
 | some x =>
  obtain ⟨j,rfl,hj,hjl⟩:=zgn hs;rw [show zaj j 0 ((c.sg.length:Int)-1)=true from zay.mpr (by omega)] at e1;have hj':=zax hj;simp [-getElem?_pos,zwm,zvr,-zbm,e1,hw,hj',hjl]
theorem yl1 (c:Cfg) (f:Int) (hl:c.sg.length<=9223372036854775807):RUN T znr [cfS c,iv f]=some ([iv (zej c f)],[]):=by
 refine zae rfl rfl ?_;have hw:=w64 (x:=(c.sg.length:Int)-1) (by omega) (by omega);have e1:=zba f 0 ((c.sg.length:Int)-1);unfold zej;cases hs:atI c.sg f with
 | none =>
  have hn:=zjs hs;have:zaj f 0 ((c.sg.length:Int)-1)=false:=by
   cases hw:zaj f 0 ((c.sg.length:Int)-1) with
   | false=>rfl
   | true=>have:=zay.mp hw; omega
  rw [this] at e1;simp [zws,zvr,-za0,e1,hw]
 | some x =>
  obtain ⟨j,rfl,hj,hjl⟩:=zgn hs;rw [show zaj j 0 ((c.sg.length:Int)-1)=true from zay.mpr (by omega)] at e1;have hj':=zax hj;simp [-getElem?_pos,zws,zvr,-za0,e1,hw,hj',hjl]
theorem y73 (s l r:Int):RUN T zs2 [iv s,iv l,iv r]=some ([bv (zp9 s l r)],[]):=by
 refine zae rfl rfl ?_;unfold zp9
 by_cases h1:s=1
 ·simp [zxc,zzs,h1]
 ·by_cases h2:s = -1 <;> simp [zxc,zzs,h1,h2]
theorem y74 (s l r:Int):RUN T zs5 [iv s,iv l,iv r]=some ([bv (zp9 s l r)],[]):=by
 refine zae rfl rfl ?_;unfold zp9
 by_cases h1:s=1
 ·by_cases h3:l<=r <;> simp [zxe,zzs,h1,h3]
 ·by_cases h2:s = -1 <;> simp [zxe,zzs,h1,h2]
theorem y75 (x:Cnd) (l:Int) (h:zep x):RUN T zs3 [.agg (cnd x),iv l]=some ([bv (zqa x l)],[]):=by
 refine zae rfl rfl ?_;have hp:=zmj (b:=x.z) h.2.2.1;have e1:=yav x l h;have e2:=y71 x h;have e3:=yat (zbk x.a x.z).1 l hp;have e4:=ylr (zcb x l).1 (zc1 (zbk x.a x.z).1 l).1 (zux _ _) (zuy _ _ hp);unfold zqa;generalize zcb x l=g at *;generalize zbk x.a x.z=p at *;obtain ⟨p,pb⟩:=p;simp only at e2 e3 e4 ⊢;generalize zc1 p l=q at *;obtain ⟨g,gb⟩:=g;obtain ⟨q,qb⟩:=q;simp only at e1 e3 e4 ⊢;generalize zfm g q=m at *;obtain ⟨m,mb⟩:=m;simp only [frc,slc,cnd] at e1 e2 e3 e4 ⊢;cases gb <;> cases pb <;> cases qb <;> cases mb <;> simp [z5w,zvr,e1,e2,e3,e4]
theorem y76 (x:Cnd) (l:Int) (h:zep x):RUN T zs6 [.agg (cnd x),iv l]=some ([bv (zqa x l)],[]):=by
 refine zae rfl rfl ?_;have hp:=zmj (b:=x.z) h.2.2.1;have e1:=yaw x l h;have e2:=y72 x h;have e3:=yau (zbk x.a x.z).1 l hp;have e4:=yls (zcb x l).1 (zc1 (zbk x.a x.z).1 l).1 (zux _ _) (zuy _ _ hp);unfold zqa;generalize zcb x l=g at *;generalize zbk x.a x.z=p at *;obtain ⟨p,pb⟩:=p;simp only at e2 e3 e4 ⊢;generalize zc1 p l=q at *;obtain ⟨g,gb⟩:=g;obtain ⟨q,qb⟩:=q;simp only at e1 e3 e4 ⊢;generalize zfm g q=m at *;obtain ⟨m,mb⟩:=m;simp only [frc,slc,cnd] at e1 e2 e3 e4 ⊢;cases gb <;> cases pb <;> cases qb <;> cases mb <;> simp [z58,zvr,e1,e2,e3,e4]
theorem y77 (a b:Cnd):RUN T zs4 [.agg (cnd a),.agg (cnd b)]=some ([bv (zi2 a b)],[]):=by
 refine zae rfl rfl ?_;have e1:=yln a.f b.f;have e2:=yln a.b b.b;have e3:=ylh (zcn a.f b.f) (zcn a.b b.b);have hr:zag 8 2=true:=by decide
 have e4:zi2 a b=decide ((if zcn a.f b.f=0 then zcn a.b b.b else zcn a.f b.f)<0):=by
  unfold zi2 zcn;rw [Bool.eq_iff_iff];simp only [Bool.or_eq_true,Bool.and_eq_true,decide_eq_true_eq];split <;> split <;> (try split) <;> (try split) <;> (try split) <;> (try split) <;> omega
 rw [e4];simp [z54,zvr,cnd,e1,e2,e3,hr]
theorem y78 (a b:Cnd):RUN T zs7 [.agg (cnd a),.agg (cnd b)]=some ([bv (zi2 a b)],[]):=by
 refine zae rfl rfl ?_;unfold zi2
 by_cases h1:a.f<b.f
 ·simp [zxg,zvr,cnd,h1]
 ·by_cases h2:a.f=b.f <;> simp [zxg,zvr,cnd,h1,h2]
theorem y79 (a b:Cnd) (l:Int) (ha:zep a) (hb:zep b):RUN T zn6 [.agg (cnd a),.agg (cnd b),iv l]=some ([bv (zd2 a b l)],[]):=by
 have e1:=yav a l ha;have e2:=yav b l hb;have e3:=ylr (zcb a l).1 (zcb b l).1 (zux _ _) (zux _ _);have e4:=y77 a b;unfold zd2;generalize zcb a l=g at *;generalize zcb b l=q at *;generalize zi2 a b=le at *;obtain ⟨g,gb⟩:=g;obtain ⟨q,qb⟩:=q;simp only at e1 e2 e3 ⊢;generalize zfm g q=m at *;obtain ⟨m,mb⟩:=m;simp only [frc,cnd] at e1 e2 e3 e4 ⊢;refine zae rfl rfl ?_;cases gb <;> cases qb <;> cases mb <;> by_cases h1:0<m <;> by_cases h2:m=0 <;> simp [z5e,zzs,e1,e2,e3,e4,h1,h2]
theorem y8a (a b:Cnd) (l:Int) (ha:zep a) (hb:zep b):RUN T zlw [.agg (cnd a),.agg (cnd b),iv l]=some ([bv (zd2 a b l)],[]):=by
 have e1:=yaw a l ha;have e2:=yaw b l hb;have e3:=yls (zcb a l).1 (zcb b l).1 (zux _ _) (zux _ _);have e4:=y78 a b;unfold zd2;generalize zcb a l=g at *;generalize zcb b l=q at *;generalize zi2 a b=le at *;obtain ⟨g,gb⟩:=g;obtain ⟨q,qb⟩:=q;simp only at e1 e2 e3 ⊢;generalize zfm g q=m at *;obtain ⟨m,mb⟩:=m;simp only [frc,cnd] at e1 e2 e3 e4 ⊢;refine zae rfl rfl ?_;cases gb <;> cases qb <;> cases mb <;> by_cases h1:0<m <;> by_cases h2:m=0 <;> simp [z5p,zzs,e1,e2,e3,e4,h1,h2]
def zdz (c:Cfg) (b:Bd) (x:Cnd):Bool:=zb7 c && ((zb1 c b x).2.2 && (decide (c.rw<=x.a.n) && (decide (c.rw<=x.z.n) && (zp9 (zej c x.f) (zb1 c b x).1 (zb1 c b x).2.1 && zqa x c.la))))
theorem y8b (c:Cfg) (b:Bd) (x:Cnd) (h:zep x) (hl:c.sg.length<=9223372036854775807):RUN T zn5 [cfS c,.agg (bnd b),.agg (cnd x)]=some ([bv (zdz c b x)],[]):=by
 have e1:=yly c b x h;have e2:=yaa c hl;have e3:=yl0 c x.f hl;have e5:=y75 x c.la h;unfold zdz;generalize zb1 c b x=p at *;obtain ⟨p1,p2,pb⟩:=p;have e4:=y73 (zej c x.f) p1 p2;simp only at e1 ⊢;generalize zej c x.f=s at *;generalize zp9 s p1 p2=ab at *;generalize zqa x c.la=ib at *;generalize zb7 c=cb at *;simp only [cnd,bnd] at e1 e5 ⊢;refine zae rfl rfl ?_;cases cb <;> cases pb <;> by_cases h1:c.rw<=x.a.n <;> by_cases h2:c.rw<=x.z.n <;> cases ab <;> simp [z5c,zzs,e1,e2,e3,e4,e5,h1,h2]
theorem y8c (c:Cfg) (b:Bd) (x:Cnd) (h:zep x) (hl:c.sg.length<=9223372036854775807):RUN T zj1 [cfS c,.agg (bnd b),.agg (cnd x)]=some ([bv (zdz c b x)],[]):=by
 have e1:=ylz c b x h;have e2:=yab c hl;have e3:=yl1 c x.f hl;have e5:=y76 x c.la h;unfold zdz;generalize zb1 c b x=p at *;obtain ⟨p1,p2,pb⟩:=p;have e4:=y74 (zej c x.f) p1 p2;simp only at e1 ⊢;generalize zej c x.f=s at *;generalize zp9 s p1 p2=ab at *;generalize zqa x c.la=ib at *;generalize zb7 c=cb at *;simp only [cnd,bnd] at e1 e5 ⊢;refine zae rfl rfl ?_;cases cb <;> cases pb <;> by_cases h1:c.rw<=x.a.n <;> by_cases h2:c.rw<=x.z.n <;> cases ab <;> simp [z5n,zzs,e1,e2,e3,e4,e5,h1,h2]
def zcg (l:List Cnd):List (List PV):=l.map cnd
@[simp] theorem qui (l:List Cnd):(zcg l).length=l.length:=by simp [zcg]
theorem zyu {l:List Cnd} {i:Nat} {x:Cnd} (h:l[i]?=some x):(zcg l)[i]?=some (cnd x):=by simp [zcg,h]
def noB (c:Cfg) (b:Bd) (x y:Cnd):Bool := !zdz c b y || !zd2 y x c.la
def zms (c:Cfg) (b:Bd) (l:List Cnd) (x:Cnd):Bool:=zdz c b x && l.all (noB c b x)
def zk8:Cnd:=⟨0,0,⟨0,0⟩,⟨0,0⟩⟩
def ze3 (c:Cfg) (b:Bd) (l:List Cnd):Cnd×Bool:=match l.find? (zms c b l) with
 | some x=>(x,true)
 | none=>(zk8,false)
theorem y8d (c:Cfg) (b:Bd) (l:List Cnd) (hl:l.length<=1048576) (hc:c.sg.length<=1048576) (hi : ∀ x∈l,zep x):RUN T zsq [cfS c,.agg (bnd b),.sl 6 (zcg l)]=some ([.agg (cnd (ze3 c b l).1),bv (ze3 c b l).2],[]):=by
 have eM : ∀ x∈l,RUN T zj1 [cfS c,.agg (bnd b),.agg (cnd x)]=some ([bv (zdz c b x)],[]):=fun x hx=>y8c c b x (hi x hx) (by omega);have eB : ∀ x∈l,∀ y∈l,RUN T zlw [.agg (cnd x),.agg (cnd y),iv c.la]=some ([bv (zd2 x y c.la)],[]):=fun x hx y hy=>y8a x y c.la (hi x hx) (hi y hy);obtain ⟨R,hR⟩ : ∃ R,R=ze3 c b l:=⟨_,rfl⟩;unfold ze3 at hR;rw [show ze3 c b l=R by rw [hR]; rfl];simp only [bnd] at eM ⊢;refine zae rfl rfl ?_;simp [-getElem?_pos,z4w,z4l];refine zan (fun n st => ∃ i:Nat,i+n=l.length/\(l.drop i).find? (zms c b l)=l.find? (zms c b l)/\st.V 2 = .sl 6 (zcg l)/\st.V 3 = .ptr 0 none 0 0 0/\st.V 4 = .ptr 1 none 0 0 0/\st.V 6 = .ptr 2 none 0 0 0/\st.V 8=iv i/\st.S 0=some (.box [iv c.ro,iv c.de,iv c.bi,iv c.la,iv c.rw,iv c.nu,iv c.dn,.sl 1 (zab c.sg)])/\st.S 1=some (.box [iv b.lo,iv b.hi])/\st.S 2=some (.box [iv 0,iv 0,iv 0,iv 0,iv 0,iv 0])) ?_ l.length _ ⟨0,by simp⟩;rintro n st ⟨i,hin,hf,v2,v3,v4,v6,v8,hS0,hS1,hS2⟩
 by_cases h:i<l.length
 ·obtain ⟨x,hx⟩ : ∃ x,l[i]?=some x:=⟨_,bG h⟩;have hx':=zyu hx;have hxm:=bF hx;have hws:=wS h (by omega:l.length<=9223372036854775807);rw [zc9 hx,List.find?_cons] at hf;have e1:=eM x hxm;simp only [cnd] at e1;have eB' : ∀ y∈l,RUN T zlw [.agg [iv y.f,iv y.b,iv y.a.n,iv y.a.g,iv y.z.n,iv y.z.g],.agg [iv x.f,iv x.b,iv x.a.n,iv x.a.g,iv x.z.n,iv x.z.g],iv c.la]=some ([bv (zd2 y x c.la)],[]):=fun y hy=>eB y hy x hxm;have eM' : ∀ y∈l,RUN T zj1 [cfS c,.agg [iv b.lo,iv b.hi],.agg [iv y.f,iv y.b,iv y.a.n,iv y.a.g,iv y.z.n,iv y.z.g]]=some ([bv (zdz c b y)],[]):=fun y hy=>eM y hy;clear eM eB;obtain ⟨kb0,hkb⟩ : ∃ k,k=zms c b l x:=⟨_,rfl⟩;rw [<- hkb] at hf;have hkb2:kb0=(zdz c b x && (l.drop 0).all (noB c b x)):=by rw [hkb]; rfl
  clear hkb;generalize hmx:zdz c b x=mx at *;simp [-getElem?_pos,z93,v2,v3,v4,v6,v8,hS0,hS1,hS2,h,hx',cnd,e1];refine zan (fun n' s => ∃ (j:Nat) (k:Bool),j+n'=l.length/\(k && (l.drop j).all (noB c b x))=kb0/\s.V 2 = .sl 6 (zcg l)/\s.V 3 = .ptr 0 none 0 0 0/\s.V 4 = .ptr 1 none 0 0 0/\s.V 6 = .ptr 2 none 0 0 0/\s.V 8=iv i/\s.V 9=bv k/\s.V 10=iv j/\s.S 0=some (.box [iv c.ro,iv c.de,iv c.bi,iv c.la,iv c.rw,iv c.nu,iv c.dn,.sl 1 (zab c.sg)])/\s.S 1=some (.box [iv b.lo,iv b.hi])/\s.S 2=some (.box [iv 0,iv 0,iv 0,iv 0,iv 0,iv 0])) ?_ l.length _ ⟨0,mx,by omega,hkb2.symm,by simp [v2,v3,v4,v6,v8,hS0,hS1,hS2]⟩;clear v2 v3 v4 v6 v8 hS0 hS1 hS2;rintro n' s ⟨j,k,hj,hk,v2,v3,v4,v6,v8,v9,v10,hS0,hS1,hS2⟩
  by_cases hjl:j<l.length
  ·cases k with
   | true =>
    obtain ⟨y,hy⟩ : ∃ y,l[j]?=some y:=⟨_,bG hjl⟩;have hy':=zyu hy;have hym:=bF hy;have hwj:=wS hjl (by omega:l.length<=9223372036854775807);have e2:=eM' y hym;have e3:=eB' y hym;rw [zc9 hy,List.all_cons] at hk;have hno:noB c b x y=(!zdz c b y || !zd2 y x c.la):=rfl;rw [hno] at hk;clear eM' eB' e1 hno;generalize zdz c b y=my at *;generalize zd2 y x c.la=by' at *
    cases my <;> cases by' <;> simp [-getElem?_pos,zw5,v2,v3,v4,v6,v8,hS0,hS1,hS2,v9,v10,hjl,h,hx',hy',cnd,e2,e3,hwj]
    all_goals first
     | exact zah (n'-1) (by omega) ⟨j+1,true,by omega,(by simpa using hk),by simp [v2,v3,v4,v6,v8,hS0,hS1,hS2]⟩
     | exact zah (n'-1) (by omega) ⟨j+1,false,by omega,(by simpa using hk),by simp [v2,v3,v4,v6,v8,hS0,hS1,hS2]⟩
   | false =>
    have hk0:kb0=false:=by rw [<- hk]; rfl
    subst hk0;simp only at hf;simp [-getElem?_pos,zw5,v2,v3,v4,v6,v8,hS0,hS1,hS2,v9,v10,hjl,hws];exact zah (n-1) (by omega) ⟨i+1,by omega,hf,by simp [v2,v3,v4,v6,hS0,hS1,hS2]⟩
  ·rw [List.drop_eq_nil_of_le (by omega)] at hk;simp only [List.all_nil,Bool.and_true] at hk;subst hk;cases k with
   | true =>
    simp only at hf;rw [<- hf] at hR;simp only at hR;subst hR;simp [-getElem?_pos,zw5,v2,v3,v4,v6,v8,hS0,hS1,hS2,v9,v10,hjl,h,hx',cnd]
   | false =>
    simp only at hf;simp [-getElem?_pos,zw5,v2,v3,v4,v6,v8,hS0,hS1,hS2,v9,v10,hjl,hws];exact zah (n-1) (by omega) ⟨i+1,by omega,hf,by simp [v2,v3,v4,v6,hS0,hS1,hS2]⟩
 ·rw [List.drop_eq_nil_of_le (by omega)] at hf;rw [<- hf] at hR;simp only [List.find?_nil] at hR;subst hR;simp [-getElem?_pos,z93,v2,v6,v8,hS2,h,zk8,cnd]
theorem qcr (a:Wd):ze1 a a=0:=by
 have h : ∀ x,zcn x x=0:=fun x=>by
  unfold zcn;rw [if_neg (by omega),if_neg (by omega)]
 unfold ze1;rw [h,h,if_pos rfl]
theorem qaq (a:Wd):zk7 a a=0:=by
 unfold zk7;rw [qcr];split <;> simp_all
theorem qca (a:Fr):(zfm a a).1=0:=by
 unfold zfm;split
 ·rename_i h;have:(zbs a a).1=(zbs a a).2.1:=by
   unfold zbs;split <;> rfl
  simp only;rw [this,qaq]
 ·rfl
theorem qah (x:Cnd) (l:Int):zd2 x x l=false:=by
 have h1:=qca (zcb x l).1;have h2:zi2 x x=false:=by
  unfold zi2;rw [decide_eq_false (show ¬ x.f<x.f by omega),decide_eq_false (show ¬ x.b<x.b by omega)];simp
 unfold zd2;rw [h1,h2];simp
theorem qav {p q:Cnd->Bool} (l:List Cnd):(l.filter p).all q=l.all fun y => !p y || q y:=by
 induction l with
 | nil=>rfl
 | cons y l ih =>
  simp only [List.filter_cons,List.all_cons];cases h:p y with
  | true=>simp [ih]
  | false=>simp [ih]
theorem qay {p q:Cnd->Bool} (l:List Cnd):(l.filter p).find? q=l.find? fun x=>p x && q x:=by
 induction l with
 | nil=>rfl
 | cons y l ih =>
  simp only [List.filter_cons,List.find?_cons];cases h:p y with
  | true =>
   simp only [if_true,List.find?_cons,Bool.true_and];cases q y <;> simp [ih]
  | false=>simp [ih]
theorem qd6 (c:Cfg) (b:Bd) (l:List Cnd):l.find? (zms c b l)=(l.filter (zdz c b)).find? fun x=>(l.filter (zdz c b)).all fun y => !zd2 y x c.la:=by
 rw [qay]
 congr 1
 funext x
 unfold zms;rw [qav];rfl
theorem y8e (c:Cfg) (b:Bd) (l:List Cnd) (hl:l.length<=1048576) (hc:c.sg.length<=1048576) (hi : ∀ x∈l,zep x):RUN T zsm [cfS c,.agg (bnd b),.sl 6 (zcg l)]=some ([.agg (cnd (ze3 c b l).1),bv (ze3 c b l).2],[]):=by
 have eM : ∀ x∈l,RUN T zn5 [cfS c,.agg [iv b.lo,iv b.hi],.agg [iv x.f,iv x.b,iv x.a.n,iv x.a.g,iv x.z.n,iv x.z.g]]=some ([bv (zdz c b x)],[]):=fun x hx=>y8b c b x (hi x hx) (by omega);have eB : ∀ x∈l,∀ y∈l,RUN T zn6 [.agg [iv x.f,iv x.b,iv x.a.n,iv x.a.g,iv x.z.n,iv x.z.g],.agg [iv y.f,iv y.b,iv y.a.n,iv y.a.g,iv y.z.n,iv y.z.g],iv c.la]=some ([bv (zd2 x y c.la)],[]):=fun x hx y hy=>y79 x y c.la (hi x hx) (hi y hy);obtain ⟨R,hR⟩ : ∃ R,R=ze3 c b l:=⟨_,rfl⟩;unfold ze3 at hR;rw [show ze3 c b l=R by rw [hR]; rfl];rw [qd6] at hR;simp only [bnd];refine zae rfl rfl ?_;have hr0:zag 48 0=true:=by decide
 have hr1:zag 48 1=true:=by decide
 simp [-getElem?_pos,z4k,z4l,hr0];refine zan (fun n st => ∃ (i o e:Nat) (m:List Cnd),i+n=l.length/\m=(l.take i).filter (zdz c b)/\st.V 3 = .ptr 0 none 0 0 0/\st.V 4 = .ptr 1 none 0 0 0/\st.V 6 = .ptr 2 none 0 0 0/\st.V 8 = .ref o none e 0 m.length/\st.V 17 = .sl 6 (zcg l)/\st.V 18=iv l.length/\st.V 19=iv i/\2<o/\o<st.nx/\st.S 0=some (.box [iv c.ro,iv c.de,iv c.bi,iv c.la,iv c.rw,iv c.nu,iv c.dn,.sl 1 (zab c.sg)])/\st.S 1=some (.box [iv b.lo,iv b.hi])/\st.S 2=some (.box [iv 0,iv 0,iv 0,iv 0,iv 0,iv 0])/\st.S o=some (.row 6 (zcg m))) ?_ l.length _ ⟨0,3,0,[],by simp [zcg]⟩;rintro n st ⟨i,o,e,m,hin,hm,v3,v4,v6,v8,v17,v18,v19,ho,hox,hS0,hS1,hS2,hSo⟩;obtain ⟨a01,a02,a03,a04⟩:=fr (show 0<st.nx by omega);obtain ⟨a11,a12,a13,a14⟩:=fr (show 1<st.nx by omega);obtain ⟨a21,a22,a23,a24⟩:=fr (show 2<st.nx by omega);obtain ⟨a31,a32,a33,a34⟩:=fr (show 0<o by omega);obtain ⟨a41,a42,a43,a44⟩:=fr (show 1<o by omega);obtain ⟨a51,a52,a53,a54⟩:=fr (show 2<o by omega);obtain ⟨a61,a62,a63,a64⟩:=fr (show o<st.nx by omega);obtain ⟨a71,a72,a73,a74⟩:=fr (show o<st.nx+1 by omega)
 by_cases h:i<l.length
 ·obtain ⟨x,hx⟩ : ∃ x,l[i]?=some x:=⟨_,bG h⟩;have hx':=zyu hx;have hxm:=bF hx;have hws:=wS h (by omega:l.length<=9223372036854775807);have e1:=eM x hxm;have hml:m.length<=i:=by rw [hm]; exact Nat.le_trans (List.length_filter_le _ _) (by simp; omega)
  have hr48:zag 48 (m.length+1)=true:=by simp [zag]; omega
  have htk:(l.take (i+1)).filter (zdz c b)=if zdz c b x=true then m++[x] else m:=by
   rw [List.take_succ,hx,List.filter_append,<- hm]
   by_cases c':zdz c b x=true <;> simp [c']
  have hsn:zcg m++[[iv x.f,iv x.b,iv x.a.n,iv x.a.g,iv x.z.n,iv x.z.g]]=zcg (m++[x]):=by simp [zcg,cnd]
  clear eM eB hm;cases hmx:zdz c b x with
  | true =>
   rw [hmx] at e1;rw [if_pos hmx] at htk;simp [-getElem?_pos,z4j,v3,v4,v6,v8,v17,v18,v19,hS0,hS1,hS2,hSo,h,hx',cnd,e1,hws,hr1,hr48,hsn,a01,a02,a03,a04,a11,a12,a13,a14,a21,a22,a23,a24,a31,a32,a33,a34,a41,a42,a43,a44,a51,a52,a53,a54,a61,a62,a63,a64,a71,a72,a73,a74];exact zah (n-1) (by omega) ⟨i+1,st.nx+2,st.ep,m++[x],by omega,htk.symm,by simp [v3],by simp [v4],by simp [v6],by simp,by simp [v17],by simp [v18],by simp,by omega,by simp [a01,a02,a03,a04,a11,a12,a13,a14,a21,a22,a23,a24,a31,a32,a33,a34,a41,a42,a43,a44,a51,a52,a53,a54,a61,a62,a63,a64,a71,a72,a73,a74,hS0,hS1,hS2]⟩
  | false =>
   rw [hmx] at e1;rw [if_neg (by simp [hmx])] at htk;simp [-getElem?_pos,z4j,v3,v4,v6,v8,v17,v18,v19,hS0,hS1,hS2,hSo,h,hx',cnd,e1,hws,a01,a02,a03,a04,a11,a12,a13,a14,a21,a22,a23,a24,a31,a32,a33,a34,a41,a42,a43,a44,a51,a52,a53,a54,a61,a62,a63,a64,a71,a72,a73,a74];exact zah (n-1) (by omega) ⟨i+1,o,e,m,by omega,htk.symm,by simp [v3],by simp [v4],by simp [v6],by simp [v8],by simp [v17],by simp [v18],by simp,by omega,by simp; omega,by simp [a01,a02,a03,a04,a11,a12,a13,a14,a21,a22,a23,a24,a31,a32,a33,a34,a41,a42,a43,a44,a51,a52,a53,a54,a61,a62,a63,a64,a71,a72,a73,a74,hS0,hS1,hS2,hSo]⟩
 ·rw [List.take_of_length_le (by omega)] at hm;rw [<- hm] at hR;have hmem : ∀ y∈m,y∈l:=fun y hy=>by rw [hm] at hy; exact (List.mem_filter.mp hy).1
  have hml:m.length<=1048576:=by rw [hm]; exact Nat.le_trans (List.length_filter_le _ _) hl
  simp [-getElem?_pos,z4j,v8,v18,v19,hSo,h];obtain ⟨q,hq⟩ : ∃ q:Cnd->Bool,q=fun x=>m.all fun y => !zd2 y x c.la:=⟨_,rfl⟩;rw [<- hq] at hR;clear eM hm hin;refine zan (fun n st => ∃ i:Nat,i+n=m.length/\(m.drop i).find? q=m.find? q/\st.V 3 = .ptr 0 none 0 0 0/\st.V 4 = .ptr 1 none 0 0 0/\st.V 6 = .ptr 2 none 0 0 0/\st.V 8 = .ref o none e 0 m.length/\st.V 32 = .ref o none e 0 m.length/\st.V 33=iv m.length/\st.V 34=iv i/\2<o/\o<st.nx/\st.S 0=some (.box [iv c.ro,iv c.de,iv c.bi,iv c.la,iv c.rw,iv c.nu,iv c.dn,.sl 1 (zab c.sg)])/\st.S 1=some (.box [iv b.lo,iv b.hi])/\st.S 2=some (.box [iv 0,iv 0,iv 0,iv 0,iv 0,iv 0])/\st.S o=some (.row 6 (zcg m))) ?_ m.length _ ⟨0,by simp,by simp,by simp [v3],by simp [v4],by simp [v6],by simp [v8],by simp,by simp,by simp,ho,by simp [hox,hS0,hS1,hS2,hSo]⟩;clear v3 v4 v6 v8 v17 v18 v19 hS0 hS1 hS2 hSo hox ho;clear a01 a02 a03 a04 a11 a12 a13 a14 a21 a22 a23 a24 a31 a32 a33 a34 a41 a42 a43 a44 a51 a52 a53 a54 a61 a62 a63 a64 a71 a72 a73 a74;rintro n st ⟨i,hin,hf,v3,v4,v6,v8,v32,v33,v34,ho,hox,hS0,hS1,hS2,hSo⟩;obtain ⟨b01,b02,b03,b04⟩:=fr (show 0<st.nx by omega);obtain ⟨b11,b12,b13,b14⟩:=fr (show 1<st.nx by omega);obtain ⟨b21,b22,b23,b24⟩:=fr (show 2<st.nx by omega);obtain ⟨b31,b32,b33,b34⟩:=fr (show 0<o by omega);obtain ⟨b41,b42,b43,b44⟩:=fr (show 1<o by omega);obtain ⟨b51,b52,b53,b54⟩:=fr (show 2<o by omega);obtain ⟨b61,b62,b63,b64⟩:=fr (show o<st.nx by omega)
  by_cases h:i<m.length
  ·obtain ⟨x,hx⟩ : ∃ x,m[i]?=some x:=⟨_,bG h⟩;have hx':=zyu hx;have hxm:=bF hx;have hws:=wS h (by omega:m.length<=9223372036854775807);rw [zc9 hx,List.find?_cons] at hf;obtain ⟨kb0,hkb⟩ : ∃ k,k=q x:=⟨_,rfl⟩;rw [<- hkb] at hf;have hkb2:kb0=(true && (m.drop 0).all fun y => !zd2 y x c.la):=by rw [hkb,hq]; rfl
   clear hkb hq;simp [-getElem?_pos,z92,v3,v4,v6,v8,v32,v33,v34,hS0,hS1,hS2,hSo,h,hx',cnd,b01,b02,b03,b04,b11,b12,b13,b14,b21,b22,b23,b24,b31,b32,b33,b34,b41,b42,b43,b44,b51,b52,b53,b54,b61,b62,b63,b64];generalize hpp:st.nx=pp at *;refine zan (fun n' s => ∃ (j:Nat) (k:Bool),j+n'=m.length/\(k && (m.drop j).all fun y => !zd2 y x c.la)=kb0/\s.V 3 = .ptr 0 none 0 0 0/\s.V 4 = .ptr 1 none 0 0 0/\s.V 6 = .ptr 2 none 0 0 0/\s.V 8 = .ref o none e 0 m.length/\s.V 32 = .ref o none e 0 m.length/\s.V 33=iv m.length/\s.V 34=iv i/\s.V 11=iv i/\s.V 12 = .ptr pp none st.ep 0 0/\s.V 13=bv k/\s.V 39 = .ref o none e 0 m.length/\s.V 40=iv m.length/\s.V 41=iv j/\pp<s.nx/\s.S 0=some (.box [iv c.ro,iv c.de,iv c.bi,iv c.la,iv c.rw,iv c.nu,iv c.dn,.sl 1 (zab c.sg)])/\s.S 1=some (.box [iv b.lo,iv b.hi])/\s.S 2=some (.box [iv 0,iv 0,iv 0,iv 0,iv 0,iv 0])/\s.S o=some (.row 6 (zcg m))/\s.S pp=some (.box [iv x.f,iv x.b,iv x.a.n,iv x.a.g,iv x.z.n,iv x.z.g])) ?_ m.length _ ⟨0,true,by omega,hkb2.symm,by simp [v3,v4,v6,v8,v32,v33,v34,b01,b02,b03,b04,b11,b12,b13,b14,b21,b22,b23,b24,b31,b32,b33,b34,b41,b42,b43,b44,b51,b52,b53,b54,b61,b62,b63,b64,hS0,hS1,hS2,hSo]⟩;clear v3 v4 v6 v8 v32 v33 v34 hS0 hS1 hS2 hSo;rintro n' s ⟨j,k,hj,hk,v3,v4,v6,v8,v32,v33,v34,v11,v12,v13,v39,v40,v41,hpn,hS0,hS1,hS2,hSo,hSp⟩;have Z1:=bI hS0 <| bI hS1 <| bI hS2 <| bI hSo hSp
   obtain ⟨d01,d02,d03,d04⟩:=fr (show 0<s.nx by omega);obtain ⟨d11,d12,d13,d14⟩:=fr (show 1<s.nx by omega);obtain ⟨d21,d22,d23,d24⟩:=fr (show 2<s.nx by omega);obtain ⟨d31,d32,d33,d34⟩:=fr (show 0<o by omega);obtain ⟨d41,d42,d43,d44⟩:=fr (show 1<o by omega);obtain ⟨d51,d52,d53,d54⟩:=fr (show 2<o by omega);obtain ⟨d61,d62,d63,d64⟩:=fr (show o<s.nx by omega);obtain ⟨d71,d72,d73,d74⟩:=fr (show 0<pp by omega);obtain ⟨d81,d82,d83,d84⟩:=fr (show 1<pp by omega);obtain ⟨d91,d92,d93,d94⟩:=fr (show 2<pp by omega);obtain ⟨d101,d102,d103,d104⟩:=fr (show o<pp by omega);obtain ⟨d111,d112,d113,d114⟩:=fr (show pp<s.nx by omega);have Z0:=bI d01 <| bI d02 <| bI d03 <| bI d04 <| bI d11 <| bI d12 <| bI d13 <| bI d14 <| bI d21 <| bI d22 <| bI d23 <| bI d24 <| bI d31 <| bI d32 <| bI d33 <| bI d34 <| bI d41 <| bI d42 <| bI d43 <| bI d44 <| bI d51 <| bI d52 <| bI d53 <| bI d54 <| bI d61 <| bI d62 <| bI d63 <| bI d64 <| bI d71 <| bI d72 <| bI d73 <| bI d74 <| bI d81 <| bI d82 <| bI d83 <| bI d84 <| bI d91 <| bI d92 <| bI d93 <| bI d94 <| bI d101 <| bI d102 <| bI d103 <| bI d104 <| bI d111 <| bI d112 <| bI d113 d114
   by_cases hjl:j<m.length
   ·obtain ⟨y,hy⟩ : ∃ y,m[j]?=some y:=⟨_,bG hjl⟩;have hy':=zyu hy;have hym:=bF hy;have hwj:=wS hjl (by omega:m.length<=9223372036854775807);have e3:=eB y (hmem y hym) x (hmem x hxm);rw [zc9 hy,List.all_cons] at hk;clear eB;cases k with
    | false =>
     have hk':(false && (m.drop (j+1)).all fun y => !zd2 y x c.la)=kb0:=by rw [<- hk]; rfl
     simp [-getElem?_pos,zow,v3,v4,v6,v8,v11,v12,v13,v39,v40,v41,Z1,hjl,hy',cnd,hwj,Z0];exact zah (n'-1) (by omega) ⟨j+1,false,by omega,hk',by simp [v3],by simp [v4],by simp [v6],by simp [v8],by simp [v32],by simp [v33],by simp [v34],by simp [v11],by simp [v12],by simp [v13],by simp [v39],by simp [v40],by simp,by simp; omega,by simp [Z0,Z1]⟩
    | true =>
     by_cases hij:j=i
     ·have hyx:y=x:=by
       subst hij;rw [hx] at hy; exact (Option.some.inj hy).symm
      subst hyx;rw [qah] at hk;have hk':(true && (m.drop (j+1)).all fun z => !zd2 z y c.la)=kb0:=by rw [<- hk]; rfl
      subst hij;simp [-getElem?_pos,zow,v3,v4,v6,v8,v11,v12,v13,v39,v40,v41,Z1,hjl,hy',cnd,hwj,Z0];exact zah (n'-1) (by omega) ⟨j+1,true,by omega,hk',by simp [v3],by simp [v4],by simp [v6],by simp [v8],by simp [v32],by simp [v33],by simp [v34],by simp [v11],by simp [v12],by simp [v13],by simp [v39],by simp [v40],by simp,by simp; omega,by simp [Z0,Z1]⟩
     ·have h1:((j:Int)=i)=False:=eq_false (by omega);have h2:((i:Int)=j)=False:=eq_false (by omega);have hji : ¬ i=j:=fun e=>hij e.symm;generalize zd2 y x c.la=bb at *;cases bb with
      | true =>
       have hk':(false && (m.drop (j+1)).all fun y => !zd2 y x c.la)=kb0:=by rw [<- hk]; rfl
       simp [-getElem?_pos,zow,v3,v4,v6,v8,v11,v12,v13,v39,v40,v41,Z1,hjl,hy',cnd,hwj,Z0,h1,h2,hij,hji,e3];exact zah (n'-1) (by omega) ⟨j+1,false,by omega,hk',by simp [v3],by simp [v4],by simp [v6],by simp [v8],by simp [v32],by simp [v33],by simp [v34],by simp [v11],by simp [v12],by simp [v13],by simp [v39],by simp [v40],by simp,by simp; omega,by simp [Z0,Z1]⟩
      | false =>
       have hk':(true && (m.drop (j+1)).all fun y => !zd2 y x c.la)=kb0:=by rw [<- hk]; rfl
       simp [-getElem?_pos,zow,v3,v4,v6,v8,v11,v12,v13,v39,v40,v41,Z1,hjl,hy',cnd,hwj,Z0,h1,h2,hij,hji,e3];exact zah (n'-1) (by omega) ⟨j+1,true,by omega,hk',by simp [v3],by simp [v4],by simp [v6],by simp [v8],by simp [v32],by simp [v33],by simp [v34],by simp [v11],by simp [v12],by simp [v13],by simp [v39],by simp [v40],by simp,by simp; omega,by simp [Z0,Z1]⟩
   ·rw [List.drop_eq_nil_of_le (by omega)] at hk;simp only [List.all_nil,Bool.and_true] at hk;subst hk;cases k with
    | true =>
     simp only at hf;rw [<- hf] at hR;simp only at hR;subst hR;simp [-getElem?_pos,zow,v3,v4,v6,v8,v11,v12,v13,v39,v40,v41,Z1,hjl,cnd,Z0]
    | false =>
     simp only at hf;simp [-getElem?_pos,zow,v3,v4,v6,v8,v11,v12,v13,v34,v39,v40,v41,Z1,hjl,hws,Z0];exact zah (n-1) (by omega) ⟨i+1,by omega,hf,by simp [v3],by simp [v4],by simp [v6],by simp [v8],by simp [v32],by simp [v33],by simp,ho,by simp; omega,by simp [hS0,hS1,hS2,hSo]⟩
  ·rw [List.drop_eq_nil_of_le (by omega)] at hf;rw [<- hf] at hR;simp only [List.find?_nil] at hR;subst hR;simp [-getElem?_pos,z92,v6,v33,v34,hS2,h,zk8,cnd]
def zd8 (a b:Sl):Sl×Bool:=if ((sbi a.n b.n).2 && (sbi a.g b.g).2)=true then (⟨(sbi a.n b.n).1,(sbi a.g b.g).1⟩,true) else (⟨0,0⟩,false)
theorem yru {a b:Int}:inI (sbi a b).1:=by
 unfold sbi inI;split
 ·rename_i h; simpa using h
 ·simp
theorem qfy (a b:Sl):slI (zd8 a b).1:=by
 unfold zd8;split
 ·exact ⟨yru,yru⟩
 ·unfold slI inI; simp
def zc6 (s:Sl):List Sl->Option (List Sl)
 | []=>some []
 | x::xs=>if (zbk s x).2=true then (zc6 (zbk s x).1 xs).map ((zbk s x).1 :: ·) else none
def zcm (h:List Sl):List Sl×Bool:=match zc6 ⟨0,0⟩ h with
 | some l=>(l,true)
 | none=>([],false)
theorem yme : ∀ (h:List Sl) (s:Sl) (l:List Sl),slI s->zc6 s h=some l->l.length=h.length/\∀ x∈l,slI x
 | [],s,l,_,e=>by simp [zc6] at e; subst e; simp
 | x::xs,s,l,hs,e=>by
  simp only [zc6] at e;split at e
  ·simp only [bB] at e;obtain ⟨l',h1,rfl⟩:=e;have hp:=zmj (b:=x) hs;obtain ⟨h2,h3⟩:=yme xs _ _ hp h1;refine ⟨by simp [h2],fun y hy => ?_⟩;rcases List.mem_cons.mp hy with e | e
   ·subst e; exact hp
   ·exact h3 y e
  ·cases e
theorem z9b:slI ⟨0,0⟩:=⟨by unfold inI; simp,by unfold inI; simp⟩
theorem ycp (h:List Sl):(zcm h).1.length<=h.length/\(∀ x∈(zcm h).1,slI x)/\((zcm h).2=true->(zcm h).1.length=h.length):=by
 unfold zcm;cases e:zc6 ⟨0,0⟩ h with
 | none=>simp
 | some l =>
  obtain ⟨h1,h2⟩:=yme h _ l z9b e;exact ⟨by simp [h1],h2,fun _=>h1⟩
def zfl (f:Int) (all:Sl) (least:Int):Int->List Sl->List Cnd->Option (List Cnd)
 | b,x::y::xs,acc=>if (zd8 all x).2=true then zfl f all least (b+1) (y::xs) (if least<=x.n/\least<=(zd8 all x).1.n then acc++[⟨f,b,x,(zd8 all x).1⟩] else acc) else none
 | _,_,acc=>some acc
def zg7 (l:List Sl):Sl:=l.getLast?.getD ⟨0,0⟩
def zd4 (least:Int):Int->List (List Sl)->List Cnd->Option (List Cnd)
 | _,[],acc=>some acc
 | f,h::hs,acc=>if (zcm h).2=true then match zfl f (zg7 (zcm h).1) least 0 (zcm h).1 acc with
  | some a=>zd4 least (f+1) hs a
  | none=>none
  else none
def zev (H:List (List Sl)) (least:Int):List Cnd:=(zd4 least 0 H []).getD []
theorem z87 {f:Int} {all:Sl} {least:Int} {l:List Sl} {i:Nat} {x:Sl} (acc:List Cnd) (hx:l[i]?=some x) (hi:i+1<l.length):zfl f all least i (l.drop i) acc=if (zd8 all x).2=true then zfl f all least (i+1:Nat) (l.drop (i+1)) (if least<=x.n/\least<=(zd8 all x).1.n then acc++[⟨f,i,x,(zd8 all x).1⟩] else acc) else none:=by
 rw [zc9 hx,zc9 (bG hi),zfl];simp
theorem zu8 {f:Int} {all:Sl} {least:Int} {l:List Sl} {i:Nat} (acc:List Cnd) (hi : ¬ i+1<l.length):zfl f all least i (l.drop i) acc=some acc:=by
 match h:l.drop i with
 | []=>rw [zfl]; simp
 | [x]=>rw [zfl]; simp
 | x::y::xs =>
  have:=congrArg List.length h;simp at this; omega
theorem yn6 {l:List Sl} {x:Sl} (h:l[l.length-1]?=some x):zg7 l=x:=by
 unfold zg7; rw [List.getLast?_eq_getElem?,h]; rfl
def zu4 (H:List (List Sl)) (x:Cnd):Prop := ∃ (f b:Nat) (h:List Sl),x.f=f/\x.b=b/\H[f]?=some h/\b+1<h.length/\slI x.a/\slI x.z
theorem yc8 {f:Int} {all:Sl} {least:Int} {p:Cnd->Prop} {l:List Sl} (hl : ∀ x∈l,slI x) (hp : ∀ (b:Nat) (x z:Sl),b+1<l.length->slI x->slI z->p ⟨f,b,x,z⟩) : ∀ (k i:Nat) (acc a:List Cnd),i+k=l.length->(∀ x∈acc,p x)->zfl f all least i (l.drop i) acc=some a->a.length<=acc.length+k/\∀ x∈a,p x
 | 0,i,acc,a,hk,ha,h=>by
  rw [zu8 acc (by omega)] at h;cases h;exact ⟨by omega,ha⟩
 | k+1,i,acc,a,hk,ha,h=>by
  by_cases hi:i+1<l.length
  ·obtain ⟨x,hx⟩ : ∃ x,l[i]?=some x:=⟨_,bG (by omega)⟩;rw [z87 acc hx hi] at h;have hxi:=hl x (bF hx);split at h
   ·split at h
    ·obtain ⟨h1,h2⟩:=yc8 hl hp k (i+1) _ _ (by omega) (fun y hy=>by
      rcases List.mem_append.mp hy with e | e
      ·exact ha y e
      ·simp only [List.mem_singleton] at e; subst e; exact hp i x _ hi hxi (qfy _ _)) h
     exact ⟨by simp at h1; omega,h2⟩
    ·obtain ⟨h1,h2⟩:=yc8 hl hp k (i+1) _ _ (by omega) ha h;exact ⟨by omega,h2⟩
   ·cases h
  ·rw [zu8 acc hi] at h;cases h;exact ⟨by omega,ha⟩
theorem z8b {least:Int} {H:List (List Sl)} {i:Nat} {h:List Sl} (acc:List Cnd) (hx:H[i]?=some h):zd4 least i (H.drop i) acc=if (zcm h).2=true then match zfl i (zg7 (zcm h).1) least 0 (zcm h).1 acc with
  | some a=>zd4 least (i+1:Nat) (H.drop (i+1)) a
  | none=>none
  else none:=by
 rw [zc9 hx,zd4];simp
theorem yoy {least:Int} {H:List (List Sl)} {m:Nat} (hm : ∀ l∈H,l.length<=m) : ∀ (k i:Nat) (acc a:List Cnd),i+k=H.length->(∀ x∈acc,zu4 H x)->zd4 least i (H.drop i) acc=some a->a.length<=acc.length+m*k/\∀ x∈a,zu4 H x
 | 0,i,acc,a,hk,ha,h=>by
  rw [List.drop_eq_nil_of_le (by omega),zd4] at h;cases h;exact ⟨by omega,ha⟩
 | k+1,i,acc,a,hk,ha,h=>by
  obtain ⟨l,hx⟩ : ∃ x,H[i]?=some x:=⟨_,bG (by omega)⟩;rw [z8b acc hx] at h;obtain ⟨p1,p2,p3⟩:=ycp l;split at h
  ·rename_i hp;split at h
   ·rename_i a' h';have h'':zfl i (zg7 (zcm l).1) least ((0:Nat):Int) ((zcm l).1.drop 0) acc=some a':=by simpa using h'
    obtain ⟨q1,q2⟩:=yc8 (p:=zu4 H) p2 (fun b x z hb hx' hz'=>⟨i,b,l,rfl,rfl,hx,by omega,hx',hz'⟩) (zcm l).1.length 0 acc a' (by omega) ha h'';obtain ⟨r1,r2⟩:=yoy hm k (i+1) a' a (by omega) q2 h;have:=hm l (bF hx);refine ⟨?_,r2⟩;rw [Nat.mul_add];omega
   ·cases h
  ·cases h
theorem yni {least:Int} {H:List (List Sl)} {m:Nat} (hm : ∀ l∈H,l.length<=m):(zev H least).length<=m*H.length/\∀ x∈zev H least,zu4 H x:=by
 unfold zev;cases h:zd4 least 0 H [] with
 | none=>simp
 | some a =>
  have h':zd4 least ((0:Nat):Int) (H.drop 0) []=some a:=by simpa using h
  obtain ⟨h1,h2⟩:=yoy hm H.length 0 [] a (by omega) (fun x hx=>by cases hx) h';exact ⟨by simpa using h1,h2⟩
theorem yo3 {H:List (List Sl)} {x:Cnd} (hH:H.length<=1048576) (hl : ∀ l∈H,l.length<=1048576) (h:zu4 H x):zep x:=by
 obtain ⟨f,b,l,h1,h2,h3,h4,h5,h6⟩:=h;have:=(bD h3).1;have:=hl l (bF h3);exact ⟨by unfold inI; omega,by unfold inI; omega,h5,h6⟩
theorem ysj {c:Cfg} {b:Bd} {l:List Cnd} (h:(ze3 c b l).2=true):(ze3 c b l).1∈l/\zdz c b (ze3 c b l).1=true/\∀ y∈l,zdz c b y=true->zd2 y (ze3 c b l).1 c.la=false:=by
 unfold ze3 at h ⊢;cases e:l.find? (zms c b l) with
 | none=>rw [e] at h; cases h
 | some x =>
  simp only;have h1:=List.mem_of_find?_eq_some e;have h2:=List.find?_some e;unfold zms at h2;simp only [Bool.and_eq_true] at h2;refine ⟨h1,h2.1,fun y hy hm => ?_⟩;have:=List.all_eq_true.mp h2.2 y hy;unfold noB at this;rw [hm] at this;simpa using this
theorem qel : ∀ x y:Nat,2*(x &&& y)+(x ^^^ y)=x+y:=by
 intro x
 induction x using Nat.strongRecOn with
 | _ x ih =>
  intro y
  by_cases hx:x=0
  ·subst hx; simp
  ·have h1:=ih (x / 2) (by omega) (y / 2);have h2:(x &&& y) / 2=x / 2 &&& y / 2:=by rw [Nat.and_div_two]
   have h3:(x ^^^ y) / 2=x / 2 ^^^ y / 2:=by rw [Nat.xor_div_two]
   have h4:(x &&& y) % 2=1↔x % 2=1/\y % 2=1:=Nat.and_mod_two_eq_one;have h5:(x ^^^ y) % 2=1↔¬ (x % 2=1↔y % 2=1):=Nat.xor_mod_two_eq_one;omega
def zc2 (a:Int):Nat:=(a % 18446744073709551616).toNat
theorem z74 {a:Int} (h:inI a):(zc2 a:Int)=if a<0 then a+18446744073709551616 else a:=by
 unfold inI at h;unfold zc2;split <;> omega
theorem z8e (a:Int):zc2 a<18446744073709551616:=by
 unfold zc2; omega
theorem ybi {n:Nat} (h:n<18446744073709551616):IntKind.i64.wrap n=if n<9223372036854775808 then (n:Int) else n-18446744073709551616:=by
 split
 ·exact w64 (by omega) (by omega)
 ·simp [IntKind.wrap,IntKind.signed,IntKind.bits];omega
theorem qgg (x y:Nat) (hx:x<18446744073709551616) (hy:y<18446744073709551616):(9223372036854775808<=(x &&& y)↔9223372036854775808<=x/\9223372036854775808<=y)/\(9223372036854775808<=(x ^^^ y)↔¬ (9223372036854775808<=x↔9223372036854775808<=y)):=by
 have h1:(x &&& y) >>> 63=x >>> 63 &&& y >>> 63:=Nat.shiftRight_and_distrib;have h2:(x ^^^ y) >>> 63=x >>> 63 ^^^ y >>> 63:=Nat.shiftRight_xor_distrib;rw [Nat.shiftRight_eq_div_pow,Nat.shiftRight_eq_div_pow,Nat.shiftRight_eq_div_pow] at h1 h2;have hx':x / 2 ^ 63=0\/x / 2 ^ 63=1:=by omega
 have hy':y / 2 ^ 63=0\/y / 2 ^ 63=1:=by omega
 rcases hx' with e1 | e1 <;> rcases hy' with e2 | e2 <;> rw [e1,e2] at h1 h2 <;> simp at h1 h2 <;> omega
theorem yn5 {x y:Nat} (hx:x<18446744073709551616):(x &&& y)<18446744073709551616:=Nat.lt_of_le_of_lt Nat.and_le_left hx
theorem qcc {x y:Nat} (hx:x<18446744073709551616) (hy:y<18446744073709551616):(x ^^^ y)<18446744073709551616:=Nat.xor_lt_two_pow (n:=64) hx hy
theorem y9z {a b:Int} (ha:inI a) (hb:inI b):2*IntKind.i64.wrap ((zc2 a &&& zc2 b:Nat):Int)+IntKind.i64.wrap ((zc2 a ^^^ zc2 b:Nat):Int)=a+b:=by
 have la:=z8e a;have lb:=z8e b;have ea:=z74 ha;have eb:=z74 hb;obtain ⟨t1,t2⟩:=qgg _ _ la lb;have hs:=qel (zc2 a) (zc2 b);rw [ybi (yn5 la),ybi (qcc la lb)];unfold inI at ha hb;generalize zc2 a &&& zc2 b=p at *;generalize zc2 a ^^^ zc2 b=q at *;split at ea <;> split at eb <;> split <;> split <;> omega
theorem yqy {a b:Int} (ha:inI a) (hb:inI b):inI (IntKind.i64.wrap ((zc2 a &&& zc2 b:Nat):Int))/\(IntKind.i64.wrap ((zc2 a &&& zc2 b:Nat):Int) % 2=1↔a % 2=1/\b % 2=1):=by
 have la:=z8e a;have lb:=z8e b;have ea:=z74 ha;have eb:=z74 hb;have h4:(zc2 a &&& zc2 b) % 2=1↔zc2 a % 2=1/\zc2 b % 2=1:=Nat.and_mod_two_eq_one;have hl:=yn5 (y:=zc2 b) la;rw [ybi hl];unfold inI at *;generalize zc2 a &&& zc2 b=p at *;split at ea <;> split at eb <;> split <;> omega
def zf9 (a b:Int):Int:=(a+b) / 2
theorem y8f (a b:Int) (ha:inI a) (hb:inI b):RUN T zss [iv a,iv b]=some ([iv (zf9 a b)],[]):=by
 refine zae rfl rfl ?_;have h:=y9z ha hb;obtain ⟨h1,_⟩:=yqy ha hb;unfold zc2 at h h1;unfold inI at ha hb h1;have hb64:IntKind.i64.bits=64:=rfl;simp [z43,zvr,hb64];rw [Int.fdiv_eq_ediv_of_nonneg _ (by omega)];unfold zf9;generalize IntKind.i64.wrap (((a % 18446744073709551616).toNat &&& (b % 18446744073709551616).toNat:Nat):Int)=p at *;generalize IntKind.i64.wrap (((a % 18446744073709551616).toNat ^^^ (b % 18446744073709551616).toNat:Nat):Int)=q at *;rw [w64 (by omega) (by omega)];omega
theorem y8g (a b:Int) (ha:inI a) (hb:inI b):RUN T zso [iv a,iv b]=some ([iv (zf9 a b)],[]):=by
 refine zae rfl rfl ?_;obtain ⟨h1,h2⟩:=yqy ha hb;unfold zc2 at h1 h2;unfold inI at ha hb h1;have hb64:IntKind.i64.bits=64:=rfl;simp [z4t,zvr,hb64];rw [Int.fdiv_eq_ediv_of_nonneg _ (by omega),Int.fdiv_eq_ediv_of_nonneg _ (by omega)];unfold zf9;generalize IntKind.i64.wrap (((a % 18446744073709551616).toNat &&& (b % 18446744073709551616).toNat:Nat):Int)=p at *;have h3:max (p % 18446744073709551616) 0 % 2=p % 2:=by omega
 rw [h3,w64 (x:=p % 2) (by omega) (by omega),w64 (x:=a / 2+b / 2) (by omega) (by omega),w64 (by omega) (by omega)];omega
def zfg (s:Int) (b:Bd) (l r:Int):Bd×Bd:=if zg6 b=true then (if s=1 then (⟨b.lo,zfp (zf9 l r) b.lo b.hi⟩,⟨zfp (zf9 l r) b.lo b.hi,b.hi⟩) else if s = -1 then (⟨zfp (zf9 l r) b.lo b.hi,b.hi⟩,⟨b.lo,zfp (zf9 l r) b.lo b.hi⟩) else (b,b)) else (b,b)
theorem y8h (s:Int) (b:Bd) (l r:Int) (hl:inI l) (hr:inI r):RUN T zr7 [iv s,.agg (bnd b),iv l,iv r]=some ([.agg (bnd (zfg s b l r).1),.agg (bnd (zfg s b l r).2)],[]):=by
 have e1:=ylv b;have e2:=y8f l r hl hr;have e3:=ylx (zf9 l r) b.lo b.hi;refine zae rfl rfl ?_;unfold zfg;generalize zg6 b=q at *;generalize zfp (zf9 l r) b.lo b.hi=m at *;obtain ⟨lo,hi⟩:=b;simp only [bnd] at *;cases q with
 | false=>simp [zua,zt5,e1]
 | true =>
  by_cases h1:s=1
  ·simp [zua,zt5,e1,e2,e3,h1]
  ·by_cases h2:s = -1 <;> simp [zua,zt5,e1,e2,e3,h1,h2]
theorem y8i (s:Int) (b:Bd) (l r:Int) (hl:inI l) (hr:inI r):RUN T zry [iv s,.agg (bnd b),iv l,iv r]=some ([.agg (bnd (zfg s b l r).1),.agg (bnd (zfg s b l r).2)],[]):=by
 have e1:=ylu b;have e2:=y8g l r hl hr;have e3:=ylw (zf9 l r) b.lo b.hi;refine zae rfl rfl ?_;unfold zfg;generalize zg6 b=q at *;generalize zfp (zf9 l r) b.lo b.hi=m at *;obtain ⟨lo,hi⟩:=b;simp only [bnd] at *;cases q with
 | false=>simp [zt4,zt5,e1,e2,e3]
 | true =>
  by_cases h1:s=1
  ·simp [zt4,zt5,e1,e2,e3,h1]
  ·by_cases h2:s = -1 <;> simp [zt4,zt5,e1,e2,e3,h1,h2]
theorem y8j (a b:Sl) (ha:slI a) (hb:slI b):RUN T zsy [.agg (slc a),.agg (slc b)]=some ([.agg (slc (zd8 a b).1),bv (zd8 a b).2],[]):=by
 have e1:=yag a.n b.n ha.1 hb.1;have e2:=yag a.g b.g ha.2 hb.2;unfold zd8;generalize sbi a.n b.n=x at *;generalize sbi a.g b.g=y at *;obtain ⟨x,xb⟩:=x;obtain ⟨y,yb⟩:=y;simp only at e1 e2 ⊢;refine zae rfl rfl ?_;cases xb <;> cases yb <;> simp [z5j,z5k,e1,e2,slc]
theorem ysq (m:List Sl) (x:Sl):zbg m++[[iv x.n,iv x.g]]=zbg (m++[x]):=by simp [zbg,slc]
theorem ymb {s x:Sl} {h:List Sl} {i:Nat} (hx:h[i]?=some x):zc6 s (h.drop i)=if (zbk s x).2=true then (zc6 (zbk s x).1 (h.drop (i+1))).map ((zbk s x).1 :: ·) else none:=by
 rw [zc9 hx,zc6]
theorem y8k (h:List Sl) (hl:h.length<=1048576) (hi : ∀ x∈h,slI x):RUN T zsx [.sl 2 (zbg h)]=some ([.own 2 (zbg (zcm h).1),bv (zcm h).2],[]):=by
 obtain ⟨R,hR⟩ : ∃ R,R=zcm h:=⟨_,rfl⟩;have hR':R=match zc6 ⟨0,0⟩ h with
  | some l=>(l,true)
  | none=>([],false):=by rw [hR]; rfl
 rw [<- hR];clear hR;have hr0:zag 16 0=true:=by decide
 have hr1:zag 16 1=true:=by decide
 refine zae rfl rfl ?_;simp [-getElem?_pos,z5h,z5i,hr0];refine zan (fun n st => ∃ (i o e:Nat) (m:List Sl) (s:Sl),i+n=h.length/\m.length=i/\slI s/\zc6 ⟨0,0⟩ h=(zc6 s (h.drop i)).map (m ++ ·)/\st.V 4 = .ref o none e 0 m.length/\st.V 5 = .ptr 1 none 0 0 0/\st.V 12 = .sl 2 (zbg h)/\st.V 13=iv h.length/\st.V 14=iv i/\¬ o=1/\o<st.nx/\1<st.nx/\st.S o=some (.row 2 (zbg m))/\st.S 1=some (.box [iv s.n,iv s.g])) ?_ h.length _ ⟨0,0,0,[],⟨0,0⟩,by omega,rfl,z9b,by simp [zbg]⟩;rintro n st ⟨i,o,ep,m,s,hin,hm,hs,hp,v4,v5,v12,v13,v14,ho1,hox,h1x,hSo,hS1⟩;obtain ⟨x1,x2,x3,x4⟩:=fr hox;obtain ⟨z1,z2,z3,z4⟩:=fr h1x;obtain ⟨a1,a2,a3,a4⟩:=fr (show o<st.nx+1 by omega);obtain ⟨b1,b2,b3,b4⟩:=fr (show o<st.nx+2 by omega);obtain ⟨c1,c2,c3,c4⟩:=fr (show 1<st.nx+1 by omega);obtain ⟨d1,d2,d3,d4⟩:=fr (show 1<st.nx+2 by omega);have ho2 : ¬ 1=o:=fun e=>ho1 e.symm;have hn0 : ¬ st.nx=0:=by omega
 have hn1 : ¬ 1=st.nx+1:=by omega
 by_cases hlt:i<h.length
 ·obtain ⟨x,hx⟩ : ∃ x,h[i]?=some x:=⟨_,bG hlt⟩;have hx':=zm5 hx;have hws:=wS hlt (by omega:h.length<=9223372036854775807);have hr16:zag 16 (m.length+1)=true:=by simp [zag]; omega
  have e1:=yao s x hs (hi x (bF hx));have hpi:=zmj (b:=x) hs;rw [ymb hx] at hp;generalize zbk s x=p at *;obtain ⟨⟨pn,pg⟩,pb⟩:=p;simp only [slc] at e1 hp hpi;cases pb with
  | false =>
   rw [if_neg (by simp)] at hp;rw [hp] at hR';subst hR';simp [-getElem?_pos,z5g,v4,v5,v12,v13,v14,hlt,hx',hSo,hS1,e1,ho1,ho2,hn0,x1,x2,x3,x4,z1,z2,z3,z4,a1,a2,a3,a4,b1,b2,b3,b4,c1,c2,c3,c4,d1,d2,d3,d4];simp [zbg]
  | true =>
   rw [if_pos rfl] at hp;have hsn:=ysq m ⟨pn,pg⟩;simp only at hsn;simp [-getElem?_pos,z5g,v4,v5,v12,v13,v14,hlt,hx',hSo,hS1,hr1,hr16,hws,hsn,e1,ho1,ho2,hn0,x1,x2,x3,x4,z1,z2,z3,z4,a1,a2,a3,a4,b1,b2,b3,b4,c1,c2,c3,c4,d1,d2,d3,d4];exact zah (n-1) (by omega) ⟨i+1,st.nx+1+2,st.ep,m++[⟨pn,pg⟩],⟨pn,pg⟩,by omega,by simp [hm],hpi,by rw [hp]; cases zc6 ⟨pn,pg⟩ (h.drop (i+1)) <;> simp,by simp,by simp [v5],by simp [v12],by simp [v13],by simp,by omega,by simp,by simp <;> omega,by simp [hn0]⟩
 ·rw [List.drop_eq_nil_of_le (by omega),zc6] at hp;simp only [Option.map_some,List.append_nil] at hp;rw [hp] at hR';subst hR';simp [-getElem?_pos,z5g,v4,v13,v14,hlt,hSo]
theorem y8l (h:List Sl) (hl:h.length<=1048576) (hi : ∀ x∈h,slI x):RUN T zs1 [.sl 2 (zbg h)]=some ([.own 2 (zbg (zcm h).1),bv (zcm h).2],[]):=by
 obtain ⟨R,hR⟩ : ∃ R,R=zcm h:=⟨_,rfl⟩;have hR':R=match zc6 ⟨0,0⟩ h with
  | some l=>(l,true)
  | none=>([],false):=by rw [hR]; rfl
 rw [<- hR];clear hR;have hr0:zag 16 0=true:=by decide
 have hr1:zag 16 1=true:=by decide
 refine zae rfl rfl ?_;simp [-getElem?_pos,z5s,z5i,hr0];refine zan (fun n st => ∃ (i o e:Nat) (m:List Sl) (s:Sl),i+n=h.length/\m.length=i/\slI s/\zc6 ⟨0,0⟩ h=(zc6 s (h.drop i)).map (m ++ ·)/\st.V 0 = .sl 2 (zbg h)/\st.V 4 = .ref o none e 0 m.length/\st.V 5 = .ptr 1 none 0 0 0/\st.V 6=iv i/\¬ o=1/\o<st.nx/\1<st.nx/\st.S o=some (.row 2 (zbg m))/\st.S 1=some (.box [iv s.n,iv s.g])) ?_ h.length _ ⟨0,0,0,[],⟨0,0⟩,by omega,rfl,z9b,by simp [zbg]⟩;rintro n st ⟨i,o,ep,m,s,hin,hm,hs,hp,v0,v4,v5,v6,ho1,hox,h1x,hSo,hS1⟩;obtain ⟨x1,x2,x3,x4⟩:=fr hox;obtain ⟨z1,z2,z3,z4⟩:=fr h1x;obtain ⟨a1,a2,a3,a4⟩:=fr (show o<st.nx+1 by omega);obtain ⟨c1,c2,c3,c4⟩:=fr (show 1<st.nx+1 by omega);have ho2 : ¬ 1=o:=fun e=>ho1 e.symm;have hn0 : ¬ st.nx=0:=by omega
 have hn1 : ¬ 1=st.nx+1:=by omega
 by_cases hlt:i<h.length
 ·obtain ⟨x,hx⟩ : ∃ x,h[i]?=some x:=⟨_,bG hlt⟩;have hx':=zm5 hx;have hws:=wS hlt (by omega:h.length<=9223372036854775807);have hr16:zag 16 (m.length+1)=true:=by simp [zag]; omega
  have e1:=yap s x hs (hi x (bF hx));have hpi:=zmj (b:=x) hs;rw [ymb hx] at hp;generalize zbk s x=p at *;obtain ⟨⟨pn,pg⟩,pb⟩:=p;simp only [slc] at e1 hp hpi;cases pb with
  | false =>
   rw [if_neg (by simp)] at hp;rw [hp] at hR';subst hR';simp [-getElem?_pos,z5r,v0,v4,v5,v6,hlt,hx',hSo,hS1,hr0,e1,ho1,ho2,hn0,x1,x2,x3,x4,z1,z2,z3,z4,a1,a2,a3,a4,c1,c2,c3,c4];simp [zbg]
  | true =>
   rw [if_pos rfl] at hp;have hsn:=ysq m ⟨pn,pg⟩;simp only at hsn;simp [-getElem?_pos,z5r,v0,v4,v5,v6,hlt,hx',hSo,hS1,hr1,hr16,hws,hsn,e1,ho1,ho2,hn0,x1,x2,x3,x4,z1,z2,z3,z4,a1,a2,a3,a4,c1,c2,c3,c4];exact zah (n-1) (by omega) ⟨i+1,st.nx+2,st.ep,m++[⟨pn,pg⟩],⟨pn,pg⟩,by omega,by simp [hm],hpi,by rw [hp]; cases zc6 ⟨pn,pg⟩ (h.drop (i+1)) <;> simp,by simp [v0],by simp,by simp [v5],by simp,by omega,by simp,by simp <;> omega,by simp [hn0,ho1,ho2]⟩
 ·rw [List.drop_eq_nil_of_le (by omega),zc6] at hp;simp only [Option.map_some,List.append_nil] at hp;rw [hp] at hR';subst hR';simp [-getElem?_pos,z5r,v0,v4,v6,hlt,hSo]
theorem ypl (m:List Cnd) (x:Cnd):zcg m++[[iv x.f,iv x.b,iv x.a.n,iv x.a.g,iv x.z.n,iv x.z.g]]=zcg (m++[x]):=by simp [zcg,cnd]
theorem y8m (q:Bool) (H:List (List Sl)) (least:Int) (hH:H.length<=16) (hl : ∀ l∈H,l.length<=16) (hi : ∀ l∈H,∀ x∈l,slI x):RUN T zsn [.sl 1 (rss q H),iv least]=some ([.own 6 (zcg (zev H least))],[]):=by
 obtain ⟨R,hR⟩ : ∃ R,R=zev H least:=⟨_,rfl⟩;have hR':R=(zd4 least 0 H []).getD []:=hR;rw [<- hR];clear hR;have hr0:zag 48 0=true:=by decide
 have hr1:zag 48 1=true:=by decide
 refine zae rfl rfl ?_;simp [-getElem?_pos,z4n,z4o,hr0];refine zan (fun n st => ∃ (i o e:Nat) (acc:List Cnd),i+n=H.length/\acc.length<=16*i/\zd4 least i (H.drop i) acc=zd4 least 0 H []/\st.V 1=iv least/\st.V 5 = .ref o none e 0 acc.length/\st.V 14 = .sl 1 (rss q H)/\st.V 15=iv H.length/\st.V 16=iv i/\o<st.nx/\st.S o=some (.row 6 (zcg acc))) ?_ H.length _ ⟨0,0,0,[],by omega,by simp [zcg]⟩;rintro n st ⟨i,o,ep,acc,hin,hacc,hF,v1,v5,v14,v15,v16,hox,hSo⟩;obtain ⟨x1,x2,x3,x4⟩:=fr hox
 by_cases hlt:i<H.length
 ·obtain ⟨l,hx⟩ : ∃ x,H[i]?=some x:=⟨_,bG hlt⟩;have hx':=yp4 (q:=q) hx;have hlm:=bF hx;have hws:=wS hlt (by omega:H.length<=9223372036854775807);have hll:=hl l hlm;have e1:=y8k l (by omega) (hi l hlm);obtain ⟨p1,p2,p3⟩:=ycp l;rw [z8b acc hx] at hF;generalize zcm l=p at *;obtain ⟨sums,pb⟩:=p;simp only at e1 p1 p2 p3 hF;cases pb with
  | false =>
   rw [if_neg (by simp)] at hF;rw [<- hF] at hR';subst hR';simp [-getElem?_pos,z4m,v1,v5,v14,v15,v16,hlt,hx',hSo,e1,x1,x2,x3,x4];simp [zcg]
  | true =>
   rw [if_pos rfl] at hF;have p3:=p3 rfl;simp [-getElem?_pos,z4m,v1,v5,v14,v15,v16,hlt,hx',hSo,e1,x1,x2,x3,x4];obtain ⟨tgt,htgt⟩ : ∃ t,t=zfl i (zg7 sums) least 0 sums acc:=⟨_,rfl⟩;rw [<- htgt] at hF;obtain ⟨p,hpe⟩ : ∃ p,p=st.nx:=⟨_,rfl⟩;refine zan (fun n' s => ∃ (b o' e':Nat) (acc':List Cnd),b+n'=sums.length/\acc'.length<=16*i+b/\zfl i (zg7 sums) least b (sums.drop b) acc'=tgt/\s.V 1=iv least/\s.V 5 = .ref o' none e' 0 acc'.length/\s.V 6=iv i/\s.V 8 = .ref p none st.ep 0 sums.length/\s.V 10=iv b/\s.V 14 = .sl 1 (rss q H)/\s.V 15=iv H.length/\s.V 16=iv i/\¬ o'=p/\o'<s.nx/\p<s.nx/\s.S o'=some (.row 6 (zcg acc'))/\s.S p=some (.row 2 (zbg sums))) ?_ sums.length _ ⟨0,o,ep,acc,by omega,by omega,by rw [htgt]; simp,by simp [v1],by simp [v5],by simp,by simp [hpe],by simp,by simp [v14],by simp [v15],by simp [v16],by omega,by simp; omega,by simp; omega,by simp [x1,x2,x3,x4,hSo,hpe]⟩;clear v1 v5 v14 v15 v16 hox hSo x1 x2 x3 x4;generalize st.ep=ep2;rintro n' s ⟨b,o',e',acc',hbn,hacc',hB,v1,v5,v6,v8,v10,v14,v15,v16,hop,hox,hpx,hSo,hSp⟩;obtain ⟨x1,x2,x3,x4⟩:=fr hox;obtain ⟨z1,z2,z3,z4⟩:=fr hpx;obtain ⟨a1,a2,a3,a4⟩:=fr (show o'<s.nx+1 by omega);obtain ⟨c1,c2,c3,c4⟩:=fr (show p<s.nx+1 by omega);have hpo : ¬ p=o':=fun e=>hop e.symm
   by_cases hb:b+1<sums.length
   ·obtain ⟨x,hx⟩ : ∃ x,sums[b]?=some x:=⟨_,bG (by omega)⟩;obtain ⟨y,hy⟩ : ∃ x,sums[sums.length-1]?=some x:=⟨_,bG (by omega)⟩;have hxs:=zm5 hx;have hys:=zm5 hy;have hly:=yn6 hy;have w1:IntKind.i64.wrap ((sums.length:Int)-1)=((sums.length-1:Nat):Int):=by rw [w64 (by omega) (by omega)]; omega
    have w2:=w64 (x:=(b:Int)+1) (by omega) (by omega);have k1:b<sums.length-1:=by omega
    have k2:b<sums.length:=by omega
    have k3:sums.length-1<sums.length:=by omega
    have hr48:zag 48 (acc'.length+1)=true:=by simp [zag]; omega
    have e2:=y8j y x (p2 y (bF hy)) (p2 x (bF hx));rw [z87 acc' hx hb,hly] at hB;generalize zd8 y x=d at *;obtain ⟨⟨dn,dg⟩,db⟩:=d;simp only [slc] at e2 hB;cases db with
    | false =>
     rw [if_neg (by simp)] at hB;rw [<- hB] at hF;simp only at hF;rw [<- hF] at hR';simp only [Option.getD_none] at hR';subst hR';simp [-getElem?_pos,zuc,v1,v5,v6,v8,v10,v14,v15,v16,hSo,hSp,hxs,hys,w1,k1,k2,k3,e2,hop,hpo,x1,x2,x3,x4,z1,z2,z3,z4];simp [zcg]
    | true =>
     rw [if_pos rfl] at hB
     by_cases g1:least<=x.n
     ·by_cases g2:least<=dn
      ·rw [if_pos ⟨g1,g2⟩] at hB;have hsn:=ypl acc' ⟨i,b,x,⟨dn,dg⟩⟩;simp only at hsn;simp [-getElem?_pos,zuc,v1,v5,v6,v8,v10,v14,v15,v16,hSo,hSp,hxs,hys,w1,w2,k1,k2,k3,e2,g1,g2,hr1,hr48,hsn,hop,hpo,x1,x2,x3,x4,z1,z2,z3,z4,a1,a2,a3,a4,c1,c2,c3,c4];refine zah (n'-1) (by omega) ⟨b+1,s.nx+2,s.ep,acc'++[⟨i,b,x,⟨dn,dg⟩⟩],by omega,by simp; omega,by rw [hly]; exact hB,by simp [v1],by simp,by simp [v6],by simp [v8],by simp,by simp [v14],by simp [v15],by simp [v16],by omega,by simp,by simp; omega,by simp [hop,hpo,x1,x2,x3,x4,z1,z2,z3,z4,hSp]⟩
      ·rw [if_neg (fun h=>g2 h.2)] at hB;simp [-getElem?_pos,zuc,v1,v5,v6,v8,v10,v14,v15,v16,hSo,hSp,hxs,hys,w1,w2,k1,k2,k3,e2,g1,g2,hop,hpo,x1,x2,x3,x4,z1,z2,z3,z4];refine zah (n'-1) (by omega) ⟨b+1,o',e',acc',by omega,by omega,by rw [hly]; exact hB,by simp [v1],by simp [v5],by simp [v6],by simp [v8],by simp,by simp [v14],by simp [v15],by simp [v16],hop,by simp; omega,by simp; omega,by simp [x1,x2,x3,x4,hSo,z1,z2,z3,z4,hSp]⟩
     ·rw [if_neg (fun h=>g1 h.1)] at hB;simp [-getElem?_pos,zuc,v1,v5,v6,v8,v10,v14,v15,v16,hSo,hSp,hxs,hys,w1,w2,k1,k2,k3,e2,g1,hop,hpo,x1,x2,x3,x4,z1,z2,z3,z4];refine zah (n'-1) (by omega) ⟨b+1,o',e',acc',by omega,by omega,by rw [hly]; exact hB,by simp [v1],by simp [v5],by simp [v6],by simp [v8],by simp,by simp [v14],by simp [v15],by simp [v16],hop,by simp; omega,by simp; omega,by simp [x1,x2,x3,x4,hSo,z1,z2,z3,z4,hSp]⟩
   ·rw [zu8 acc' hb] at hB;rw [<- hB] at hF;simp only at hF;have w1:IntKind.i64.wrap ((sums.length:Int)-1)=(sums.length:Int)-1:=w64 (by omega) (by omega);have k1 : ¬ (b:Int)<(sums.length:Int)-1:=by omega
    simp [-getElem?_pos,zuc,v8,v10,v16,hSp,w1,k1,hws];exact zah (n-1) (by omega) ⟨i+1,o',e',acc',by omega,by omega,hF,by simp [v1,v5,v14,v15,hox,hSo]⟩
 ·rw [List.drop_eq_nil_of_le (by omega),zd4] at hF;rw [<- hF] at hR';simp only [Option.getD_some] at hR';subst hR';simp [-getElem?_pos,z4m,v5,v15,v16,hlt,hSo]
theorem y8n (q:Bool) (H:List (List Sl)) (least:Int) (hH:H.length<=16) (hl : ∀ l∈H,l.length<=16) (hi : ∀ l∈H,∀ x∈l,slI x):RUN T zsr [.sl 1 (rss q H),iv least]=some ([.own 6 (zcg (zev H least))],[]):=by
 obtain ⟨R,hR⟩ : ∃ R,R=zev H least:=⟨_,rfl⟩;have hR':R=(zd4 least 0 H []).getD []:=hR;rw [<- hR];clear hR;have hr0:zag 48 0=true:=by decide
 have hr1:zag 48 1=true:=by decide
 refine zae rfl rfl ?_;simp [-getElem?_pos,z4z,z4o,hr0];refine zan (fun n st => ∃ (i o e:Nat) (acc:List Cnd),i+n=H.length/\acc.length<=16*i/\zd4 least i (H.drop i) acc=zd4 least 0 H []/\st.V 1=iv least/\st.V 5 = .ref o none e 0 acc.length/\st.V 0 = .sl 1 (rss q H)/\st.V 6=iv i/\o<st.nx/\st.S o=some (.row 6 (zcg acc))) ?_ H.length _ ⟨0,0,0,[],by omega,by simp [zcg]⟩;rintro n st ⟨i,o,ep,acc,hin,hacc,hF,v1,v5,v0,v6,hox,hSo⟩;obtain ⟨x1,x2,x3,x4⟩:=fr hox
 by_cases hlt:i<H.length
 ·obtain ⟨l,hx⟩ : ∃ x,H[i]?=some x:=⟨_,bG hlt⟩;have hx':=yp4 (q:=q) hx;have hlm:=bF hx;have hws:=wS hlt (by omega:H.length<=9223372036854775807);have hll:=hl l hlm;have e1:=y8l l (by omega) (hi l hlm);obtain ⟨p1,p2,p3⟩:=ycp l;rw [z8b acc hx] at hF;generalize zcm l=p at *;obtain ⟨sums,pb⟩:=p;simp only at e1 p1 p2 p3 hF;cases pb with
  | false =>
   rw [if_neg (by simp)] at hF;rw [<- hF] at hR';subst hR';simp [-getElem?_pos,z4y,v0,v1,v5,v6,hlt,hx',hSo,e1,hr0,x1,x2,x3,x4];simp [zcg]
  | true =>
   rw [if_pos rfl] at hF;have p3:=p3 rfl;simp [-getElem?_pos,z4y,v0,v1,v5,v6,hlt,hx',hSo,e1,hr0,x1,x2,x3,x4];obtain ⟨tgt,htgt⟩ : ∃ t,t=zfl i (zg7 sums) least 0 sums acc:=⟨_,rfl⟩;rw [<- htgt] at hF;obtain ⟨p,hpe⟩ : ∃ p,p=st.nx:=⟨_,rfl⟩;refine zan (fun n' s => ∃ (b o' e':Nat) (acc':List Cnd),b+n'=sums.length/\acc'.length<=16*i+b/\zfl i (zg7 sums) least b (sums.drop b) acc'=tgt/\s.V 0 = .sl 1 (rss q H)/\s.V 1=iv least/\s.V 5 = .ref o' none e' 0 acc'.length/\s.V 6=iv i/\s.V 7 = .ref p none st.ep 0 sums.length/\s.V 9=iv b/\¬ o'=p/\o'<s.nx/\p<s.nx/\s.S o'=some (.row 6 (zcg acc'))/\s.S p=some (.row 2 (zbg sums))) ?_ sums.length _ ⟨0,o,ep,acc,by omega,by omega,by rw [htgt]; simp,by simp [v0],by simp [v1],by simp [v5],by simp [v6],by simp [hpe],by simp,by omega,by simp; omega,by simp; omega,by simp [x1,x2,x3,x4,hSo,hpe]⟩;clear v0 v1 v5 v6 hox hSo x1 x2 x3 x4;generalize st.ep=ep2;rintro n' s ⟨b,o',e',acc',hbn,hacc',hB,v0,v1,v5,v6,v7,v9,hop,hox,hpx,hSo,hSp⟩;obtain ⟨x1,x2,x3,x4⟩:=fr hox;obtain ⟨z1,z2,z3,z4⟩:=fr hpx;obtain ⟨a1,a2,a3,a4⟩:=fr (show o'<s.nx+1 by omega);obtain ⟨c1,c2,c3,c4⟩:=fr (show p<s.nx+1 by omega);have hpo : ¬ p=o':=fun e=>hop e.symm;have Z0:=bI hop <| bI hpo <| bI x1 <| bI x2 <| bI x3 <| bI x4 <| bI z1 <| bI z2 <| bI z3 z4
   by_cases hb:b+1<sums.length
   ·obtain ⟨x,hx⟩ : ∃ x,sums[b]?=some x:=⟨_,bG (by omega)⟩;obtain ⟨y,hy⟩ : ∃ x,sums[sums.length-1]?=some x:=⟨_,bG (by omega)⟩;have hxs:=zm5 hx;have hys:=zm5 hy;have hly:=yn6 hy;have w1:IntKind.i64.wrap ((sums.length:Int)-1)=((sums.length-1:Nat):Int):=by rw [w64 (by omega) (by omega)]; omega
    have w2:=w64 (x:=(b:Int)+1) (by omega) (by omega);have k1:(b:Int)+1<(sums.length:Int):=by omega
    have k2:b<sums.length:=by omega
    have k3:sums.length-1<sums.length:=by omega
    have hr48:zag 48 (acc'.length+1)=true:=by simp [zag]; omega
    have e2:=yah y.n x.n (p2 y (bF hy)).1 (p2 x (bF hx)).1;have e3:=yah y.g x.g (p2 y (bF hy)).2 (p2 x (bF hx)).2;rw [z87 acc' hx hb,hly] at hB;unfold zd8 at hB;generalize sbi y.n x.n=d at *;generalize sbi y.g x.g=d' at *;obtain ⟨dn,db⟩:=d;obtain ⟨dg,db'⟩:=d';simp only at e2 e3 hB;obtain ⟨dd,hdd⟩ : ∃ dd,dd=(db && db'):=⟨_,rfl⟩;rw [<- hdd] at hB;cases dd with
    | false =>
     simp only [Bool.false_eq_true,if_false] at hB;rw [<- hB] at hF;simp only at hF;rw [<- hF] at hR';simp only [Option.getD_none] at hR';subst hR';cases db with
     | false =>
      simp [-getElem?_pos,zoz,v0,v1,v5,v6,v7,v9,hSo,hSp,hxs,hys,w1,w2,k1,k2,k3,e2,e3,hr0,Z0,a1,a2,a3,a4,c1,c2,c3,c4];simp [zcg]
     | true =>
      have hd2:db'=false:=by simpa using hdd.symm
      subst hd2;simp [-getElem?_pos,zoz,v0,v1,v5,v6,v7,v9,hSo,hSp,hxs,hys,w1,w2,k1,k2,k3,e2,e3,hr0,Z0,a1,a2,a3,a4,c1,c2,c3,c4];simp [zcg]
    | true =>
     obtain ⟨hd1,hd2⟩:db=true/\db'=true:=by simpa using hdd.symm
     subst hd1 hd2;simp only [if_true] at hB
     by_cases g1:least<=x.n
     ·by_cases g2:least<=dn
      ·rw [if_pos ⟨g1,g2⟩] at hB;have hsn:=ypl acc' ⟨i,b,x,⟨dn,dg⟩⟩;simp only at hsn;simp [-getElem?_pos,zoz,v0,v1,v5,v6,v7,v9,hSo,hSp,hxs,hys,w1,w2,k1,k2,k3,e2,e3,hr0,Z0,a1,a2,a3,a4,c1,c2,c3,c4,g1,g2,hr1,hr48,hsn];refine zah (n'-1) (by omega) ⟨b+1,s.nx+2,s.ep,acc'++[⟨i,b,x,⟨dn,dg⟩⟩],by omega,by simp; omega,by rw [hly]; exact hB,by simp [v0],by simp [v1],by simp,by simp [v6],by simp [v7],by simp,by omega,by simp,by simp; omega,by simp [Z0,hSp]⟩
      ·rw [if_neg (fun h=>g2 h.2)] at hB;simp [-getElem?_pos,zoz,v0,v1,v5,v6,v7,v9,hSo,hSp,hxs,hys,w1,w2,k1,k2,k3,e2,e3,hr0,Z0,a1,a2,a3,a4,c1,c2,c3,c4,g1,g2];refine zah (n'-1) (by omega) ⟨b+1,o',e',acc',by omega,by omega,by rw [hly]; exact hB,by simp [v0],by simp [v1],by simp [v5],by simp [v6],by simp [v7],by simp,hop,by simp; omega,by simp; omega,by simp [x1,x2,x3,x4,hSo,z1,z2,z3,z4,hSp]⟩
     ·rw [if_neg (fun h=>g1 h.1)] at hB;simp [-getElem?_pos,zoz,v0,v1,v5,v6,v7,v9,hSo,hSp,hxs,hys,w1,w2,k1,k2,k3,e2,e3,hr0,Z0,a1,a2,a3,a4,c1,c2,c3,c4,g1];refine zah (n'-1) (by omega) ⟨b+1,o',e',acc',by omega,by omega,by rw [hly]; exact hB,by simp [v0],by simp [v1],by simp [v5],by simp [v6],by simp [v7],by simp,hop,by simp; omega,by simp; omega,by simp [x1,x2,x3,x4,hSo,z1,z2,z3,z4,hSp]⟩
   ·rw [zu8 acc' hb] at hB;rw [<- hB] at hF;simp only at hF;have w1:IntKind.i64.wrap ((sums.length:Int)-1)=(sums.length:Int)-1:=w64 (by omega) (by omega);have w2:=w64 (x:=(b:Int)+1) (by omega) (by omega);have k1 : ¬ (b:Int)+1<(sums.length:Int):=by omega
    simp [-getElem?_pos,zoz,v6,v7,v9,hSp,w2,k1,hws];exact zah (n-1) (by omega) ⟨i+1,o',e',acc',by omega,by omega,hF,by simp [v1,v5,v0,hox,hSo]⟩
 ·rw [List.drop_eq_nil_of_le (by omega),zd4] at hF;rw [<- hF] at hR';simp only [Option.getD_some] at hR';subst hR';simp [-getElem?_pos,z4y,v0,v5,v6,hlt,hSo]
def zbh (c v:List (List Int)) (g:List Int) (cfg:Cfg) (rows:List Int) (b:Bd):Cnd×Bool:=if zgp c v g cfg=true then (if (zby c v g rows).2=true then ze3 cfg b (zev (zby c v g rows).1 cfg.rw) else (zk8,false)) else (zk8,false)
theorem ym0 {b g:List Int} : ∀ (rows:List Int) (h h':List Sl),(∀ x∈h,slI x)->zck b g rows h=some h'->∀ x∈h',slI x
 | [],h,h',hh,e=>by simp [zck] at e; subst e; exact hh
 | r::rs,h,h',hh,e=>by
  simp only [zck] at e;split at e
  ·split at e
   ·rename_i s hs;split at e
    ·refine ym0 rs _ _ (fun x hx => ?_) e;rcases List.mem_or_eq_of_mem_set hx with h1 | h1
     ·exact hh x h1
     ·subst h1;obtain ⟨_,_,h3,_⟩:=zgn hs;exact zmj (hh _ (bF h3))
    ·cases e
   ·cases e
  ·cases e
theorem qfl (b g rows:List Int) (k:Int) : ∀ x∈(zci b g rows k).1,slI x:=by
 unfold zci;split
 ·cases h:zck b g rows (List.replicate k.toNat ⟨0,0⟩) with
  | none=>simp
  | some h'=>exact ym0 _ _ _ (fun x hx=>by rw [List.eq_of_mem_replicate hx]; exact z9b) h
 ·simp
theorem ypw {g rows:List Int} : ∀ (c v:List (List Int)) (H:List (List Sl)),zb2 g rows c v=some H->∀ l∈H,∀ x∈l,slI x
 | [],v,H,h=>by simp [zb2] at h; subst h; simp
 | x::c,[],H,h=>by simp [zb2] at h; subst h; simp
 | x::c,y::v,H,h=>by
  simp only [zb2] at h;split at h
  ·simp only [bB] at h;obtain ⟨H',h1,rfl⟩:=h;intro l hl;rcases List.mem_cons.mp hl with e | e
   ·subst e; exact qfl _ _ _ _
   ·exact ypw c v H' h1 l e
  ·cases h
theorem ytf (c v:List (List Int)) (g rows:List Int) : ∀ l∈(zby c v g rows).1,∀ x∈l,slI x:=by
 unfold zby;split
 ·cases h:zb2 g rows c v with
  | none=>simp
  | some H=>exact ypw c v H h
 ·simp
theorem z72 (c v:List (List Int)) (g rows:List Int):(zby c v g rows).1.length<=4:=by
 by_cases h:zd1 c v=true
 ·have:=(zuz c v g rows).1;have:=ych h;omega
 ·unfold zby;rw [if_neg h]; simp
theorem yql (c v:List (List Int)) (g rows:List Int) (least:Int):(zev (zby c v g rows).1 least).length<=1048576/\∀ x∈zev (zby c v g rows).1 least,zep x:=by
 have h1:=z72 c v g rows;have h2:=(zuz c v g rows).2;obtain ⟨h3,h4⟩:=yni (least:=least) h2;exact ⟨by omega,fun x hx=>yo3 (by omega) (fun l hl=>Nat.le_trans (h2 l hl) (by omega)) (h4 x hx)⟩
theorem y8o (q:Bool) (c v:List (List Int)) (g:List Int) (cfg:Cfg) (rows:List Int) (b:Bd) (hc : ∀ l∈c,l.length<=1048576) (hv : ∀ l∈v,l.length<=1048576) (hg:g.length<=1048576) (hr:rows.length<=1048576) (hs:cfg.sg.length<=1048576) (hgi : ∀ x∈g,inI x):RUN T zrw [.agg [.sl 1 (rws q c),.sl 1 (rws q v)],.sl 1 (zab g),cfS cfg,.sl 1 (zab rows),.agg (bnd b)]=some ([.agg (cnd (zbh c v g cfg rows b).1),bv (zbh c v g cfg rows b).2],[]):=by
 have e1:=yk8 q c v g cfg (fun l hl=>Nat.le_trans (hc l hl) (by omega)) (fun l hl=>Nat.le_trans (hv l hl) (by omega)) (by omega) (by omega);have e2:=y7u q c v g rows hc hv hg hr hgi;obtain ⟨f1,f2⟩:=yql c v g rows cfg.rw;have e3:=y8m true (zby c v g rows).1 cfg.rw (by have:=z72 c v g rows; omega) (fun l hl=>by have:=(zuz c v g rows).2 l hl; omega) (ytf c v g rows);have e4:=y8e cfg b (zev (zby c v g rows).1 cfg.rw) f1 hs f2;unfold zbh;simp only [zdw,bnd] at e1 e4;generalize zgp c v g cfg=t at *;generalize zby c v g rows=H at *;obtain ⟨H,hb⟩:=H;simp only at e2 e3 e4 ⊢;generalize ze3 cfg b (zev H cfg.rw)=r at *;generalize zev H cfg.rw=L at *;obtain ⟨r,rb⟩:=r;simp only [cnd] at e4 ⊢;refine zae rfl rfl ?_;cases t with
 | false=>simp [-getElem?_pos,zt2,zt3,bnd,e1,zk8]
 | true =>
  cases hb with
  | false=>simp [-getElem?_pos,zt2,zt3,bnd,e1,e2,zk8]
  | true =>
   simp [-getElem?_pos,zt2,zt3,bnd,e1,e2,e3,e4]
theorem y8p (q:Bool) (c v:List (List Int)) (g:List Int) (cfg:Cfg) (rows:List Int) (b:Bd) (hc : ∀ l∈c,l.length<=1048576) (hv : ∀ l∈v,l.length<=1048576) (hg:g.length<=1048576) (hr:rows.length<=1048576) (hs:cfg.sg.length<=1048576) (hgi : ∀ x∈g,inI x):RUN T zr4 [.agg [.sl 1 (rws q c),.sl 1 (rws q v)],.sl 1 (zab g),cfS cfg,.sl 1 (zab rows),.agg (bnd b)]=some ([.agg (cnd (zbh c v g cfg rows b).1),bv (zbh c v g cfg rows b).2],[]):=by
 have e1:=yk9 q c v g cfg (fun l hl=>Nat.le_trans (hc l hl) (by omega)) (fun l hl=>Nat.le_trans (hv l hl) (by omega)) (by omega) (by omega);have e2:=y7v q c v g rows hc hv hg hr hgi;obtain ⟨f1,f2⟩:=yql c v g rows cfg.rw;have e3:=y8n true (zby c v g rows).1 cfg.rw (by have:=z72 c v g rows; omega) (fun l hl=>by have:=(zuz c v g rows).2 l hl; omega) (ytf c v g rows);have e4:=y8d cfg b (zev (zby c v g rows).1 cfg.rw) f1 hs f2;unfold zbh;simp only [zdw,bnd] at e1 e4;generalize zgp c v g cfg=t at *;generalize zby c v g rows=H at *;obtain ⟨H,hb⟩:=H;simp only at e2 e3 e4 ⊢;generalize ze3 cfg b (zev H cfg.rw)=r at *;generalize zev H cfg.rw=L at *;obtain ⟨r,rb⟩:=r;simp only [cnd] at e4 ⊢;refine zae rfl rfl ?_;cases t with
 | false=>simp [-getElem?_pos,zt6,zt3,bnd,e1,zk8]
 | true =>
  cases hb with
  | false=>simp [-getElem?_pos,zt6,zt3,bnd,e1,e2,zk8]
  | true =>
   simp [-getElem?_pos,zt6,zt3,bnd,e1,e2,e3,e4]
def zey (g:List Int) (rows:List Int):Sl:=⟨rows.length,(rows.map fun r=>(atI g r).getD 0).sum⟩
def ziy (bins:List Int) (b r:Int):Bool:=match atI bins r with
 | some x=>decide (x<=b)
 | none=>false
def zpp (bins:List Int) (b r:Int):Bool:=match atI bins r with
 | some x => !decide (x<=b)
 | none=>false
def zcq (bins rows:List Int) (b:Int):List Int:=rows.filter (ziy bins b)
def zed (bins rows:List Int) (b:Int):List Int:=rows.filter (zpp bins b)
structure Pnd where
 r:List Int
 b:Bd
 l:Int
def zjd (c v:List (List Int)) (cfg:Cfg) (x:Pnd) (k:Cnd):Pnd:=⟨zcq ((atI v k.f).getD []) x.r k.b,(zfg (zej cfg k.f) x.b (zb1 cfg x.b k).1 (zb1 cfg x.b k).2.1).1,x.l+1⟩
def zi5 (c v:List (List Int)) (cfg:Cfg) (x:Pnd) (k:Cnd):Pnd:=⟨zed ((atI v k.f).getD []) x.r k.b,(zfg (zej cfg k.f) x.b (zb1 cfg x.b k).1 (zb1 cfg x.b k).2.1).2,x.l+1⟩
def zdh (g:List Int) (cfg:Cfg) (x:Pnd):Nd:=⟨-1,0,0,0,(zeg (zey g x.r) cfg.la x.b).1⟩
def zm2 (c:List (List Int)) (k:Cnd) (n:Nat):Nd:=⟨k.f,(atI ((atI c k.f).getD []) k.b).getD 0,n,n+1,0⟩
def goes (c v:List (List Int)) (g:List Int) (cfg:Cfg) (x:Pnd):Bool:=decide (x.l<cfg.de) && (zbh c v g cfg x.r x.b).2
def zdv (c v:List (List Int)) (g:List Int) (cfg:Cfg):Nat->List Pnd->Nat->List Nd->List Nd
 | 0,_,_,out=>out
 | n+1,q,i,out=>match q[i]? with
  | none=>out
  | some x=>if goes c v g cfg x=true then zdv c v g cfg n (q++[zjd c v cfg x (zbh c v g cfg x.r x.b).1,zi5 c v cfg x (zbh c v g cfg x.r x.b).1]) (i+1) (out++[zm2 c (zbh c v g cfg x.r x.b).1 q.length]) else zdv c v g cfg n q (i+1) (out++[zdh g cfg x])
def zkr:Bd:=⟨-1099511627776,1099511627776⟩
def zem (g:List Int):Pnd:=⟨(List.range g.length).map fun (i:Nat)=>(i:Int),zkr,0⟩
def zcs (c v:List (List Int)) (g:List Int) (cfg:Cfg):List Nd×Bool:=if zgp c v g cfg=true then (zdv c v g cfg 32 [zem g] 0 [],true) else ([],false)
def pot (d:Int) (x:Pnd):Nat:=2 ^ (d+1-x.l).toNat-1
def zi9 (d:Int) (l:List Pnd):Nat:=(l.map (pot d)).sum
theorem z9g (d:Int) (x:Pnd) (l:List Pnd):zi9 d (x::l)=pot d x+zi9 d l:=by simp [zi9]
theorem qa4 (d:Int) (l m:List Pnd):zi9 d (l++m)=zi9 d l+zi9 d m:=by simp [zi9]
theorem qf9 {d:Int} {x:Pnd} (h:x.l<=d):1<=pot d x:=by
 unfold pot;obtain ⟨k,hk⟩ : ∃ k,(d+1-x.l).toNat=k+1:=⟨(d-x.l).toNat,by omega⟩;rw [hk,Nat.pow_succ];have:=Nat.one_le_two_pow (n:=k);omega
theorem qcg {d:Int} {x y z:Pnd} (h:x.l<d) (hy:y.l=x.l+1) (hz:z.l=x.l+1):pot d x=pot d y+pot d z+1:=by
 unfold pot;rw [hy,hz];obtain ⟨k,hk⟩ : ∃ k,(d+1-x.l).toNat=k+1:=⟨(d-x.l).toNat,by omega⟩;have hk2:(d+1-(x.l+1)).toNat=k:=by omega
 rw [hk,hk2,Nat.pow_succ];have:=Nat.one_le_two_pow (n:=k);omega
def zx5 (n:Nat) (d:Int) (x:Pnd):Prop:=(∀ r∈x.r,0<=r/\r<n)/\x.r.length<=n/\0<=x.l/\x.l<=d
theorem yug {bins rows:List Int} {b r:Int}:(r∈zcq bins rows b->r∈rows)/\(r∈zed bins rows b->r∈rows):=⟨fun h=>(List.mem_filter.mp h).1,fun h=>(List.mem_filter.mp h).1⟩
theorem qgu {n:Nat} {c v:List (List Int)} {cfg:Cfg} {x:Pnd} {k:Cnd} (h:zx5 n cfg.de x) (hl:x.l<cfg.de):zx5 n cfg.de (zjd c v cfg x k)/\zx5 n cfg.de (zi5 c v cfg x k):=by
 obtain ⟨h1,h2,h3,h4⟩:=h;refine ⟨⟨fun r hr=>h1 r (yug.1 hr),Nat.le_trans (List.length_filter_le _ _) h2,?_,?_⟩,⟨fun r hr=>h1 r (yug.2 hr),Nat.le_trans (List.length_filter_le _ _) h2,?_,?_⟩⟩
 ·show 0<=x.l+1; omega
 ·show x.l+1<=cfg.de; omega
 ·show 0<=x.l+1; omega
 ·show x.l+1<=cfg.de; omega
theorem zx9 {c v:List (List Int)} {g:List Int} {cfg:Cfg} (h:zgp c v g cfg=true):zd1 c v=true/\zb7 cfg=true/\g.length=zdy v/\(∀ x∈g,-2199023255552<=x/\x<=2199023255552):=by
 unfold zgp at h;simp only [Bool.and_eq_true,decide_eq_true_eq] at h;exact ⟨h.1.1.1,h.1.1.2,by omega,fun x hx=>zay.mp (List.all_eq_true.mp h.2 x hx)⟩
theorem yt5 {c v:List (List Int)} (h:zd1 c v=true):1<=zdy v/\zdy v<=40:=by
 unfold zd1 at h;simp only [Bool.and_eq_true] at h;have:=zay.mp h.1.2;omega
theorem ycv {cfg:Cfg} (h:zb7 cfg=true):(0<=cfg.de/\cfg.de<=4)/\cfg.sg.length<=4/\(1<=cfg.la/\cfg.la<=100):=by
 unfold zb7 at h;simp only [Bool.and_eq_true,decide_eq_true_eq] at h;have h1:=zay.mp h.1.1.1.1.1.1.1.2;have h2:=zay.mp h.1.1.1.1.1.2;omega
theorem yps {c v:List (List Int)} {g:List Int} {cfg:Cfg} {rows:List Int} {b:Bd} (h:(zbh c v g cfg rows b).2=true):zu4 (zby c v g rows).1 (zbh c v g cfg rows b).1/\(zby c v g rows).2=true:=by
 unfold zbh at h ⊢;split
 ·rename_i h1;rw [if_pos h1] at h;split
  ·rename_i h2;rw [if_pos h2] at h;obtain ⟨h3,_,_⟩:=ysj h;exact ⟨(yni (zuz c v g rows).2).2 _ h3,h2⟩
  ·rename_i h2;rw [if_neg h2] at h; cases h
 ·rename_i h1;rw [if_neg h1] at h; cases h
theorem y8q:RUN T zr3 []=some ([.agg (bnd zkr)],[]):=by
 refine zae rfl rfl ?_;simp [z24,z2q,bnd,zkr]
theorem y8r:RUN T zrv []=some ([.agg (bnd zkr)],[]):=by
 refine zae rfl rfl ?_;simp [z2p,z2q,bnd,zkr]
def upl (n:Nat):List Int:=(List.range n).map fun (i:Nat)=>(i:Int)
theorem yqs (n:Nat):upl n++[(n:Int)]=upl (n+1):=by simp [upl,List.range_succ]
@[simp] theorem qu7 (n:Nat):(upl n).length=n:=by simp [upl]
@[simp] theorem qw1:upl 0=[]:=rfl
theorem y8s (n:Nat) (h1:1<=n) (h2:n<=40):RUN T zru [iv n]=some ([.own 1 (zab (upl n))],[]):=by
 have e:=zcu n 1 40;rw [zay.mpr (by omega)] at e;have hr0:zag 8 0=true:=by decide
 have hr1:zag 8 1=true:=by decide
 refine zae rfl rfl ?_;simp [-getElem?_pos,z2n,zzy,-zbm,e,hr0];refine zan (fun k st => ∃ (i o e:Nat),i+k=n/\st.V 3 = .ref o none e 0 i/\st.V 10=iv n/\st.V 11=iv i/\o<st.nx/\st.S o=some (.row 1 (zab (upl i)))) ?_ n _ ⟨0,0,0,by omega,by simp⟩;rintro k st ⟨i,o,ep,hi,v3,v10,v11,hox,hSo⟩;obtain ⟨x1,x2,x3,x4⟩:=fr hox
 by_cases hlt:i<n
 ·have hws:=wS hlt (by omega:n<=9223372036854775807);have hr8:=zbv (n:=i+1) (by omega);have hsn:zab (upl i)++[[iv (i:Int)]]=zab (upl (i+1)):=by rw [zbn,yqs]
  simp [-getElem?_pos,z9y,v3,v10,v11,hSo,hlt,hws,hr1,hr8,hsn,x1,x2,x3,x4];exact zah (k-1) (by omega) ⟨i+1,st.nx+1,st.ep,by omega,by simp [v10]⟩
 ·have hin:i=n:=by omega
  subst hin;simp [-getElem?_pos,z9y,v3,v10,v11,hSo,hlt]
theorem y8t (n:Nat) (h2:n<=40):RUN T zr2 [iv n]=some ([.own 1 (zab (upl n))],[]):=by
 have hr0:zag 8 0=true:=by decide
 have hr1:zag 8 1=true:=by decide
 refine zae rfl rfl ?_;simp [-getElem?_pos,z21,zzy,hr0];refine zan (fun k st => ∃ (i o e:Nat),i+k=n/\st.V 0=iv n/\st.V 3 = .ref o none e 0 i/\st.V 4=iv i/\o<st.nx/\st.S o=some (.row 1 (zab (upl i)))) ?_ n _ ⟨0,0,0,by omega,by simp⟩;rintro k st ⟨i,o,ep,hi,v0,v3,v4,hox,hSo⟩;obtain ⟨x1,x2,x3,x4⟩:=fr hox;have h3:(n:Int)<=40:=by omega
 by_cases hlt:i<n
 ·have hws:=wS hlt (by omega:n<=9223372036854775807);have hr8:=zbv (n:=i+1) (by omega);have hsn:zab (upl i)++[[iv (i:Int)]]=zab (upl (i+1)):=by rw [zbn,yqs]
  simp [-getElem?_pos,z90,v0,v3,v4,hSo,hlt,h3,hws,hr1,hr8,hsn,x1,x2,x3,x4];exact zah (k-1) (by omega) ⟨i+1,st.nx+1,st.ep,by omega,by simp [v0]⟩
 ·have hin:i=n:=by omega
  subst hin;simp [-getElem?_pos,z90,v0,v3,v4,hSo,hlt]
def zfe (g rows:List Int) (i:Nat):Int:=((rows.take i).map fun r=>(atI g r).getD 0).sum
theorem ytq {g rows:List Int} {i:Nat} {r x:Int} (hr:rows[i]?=some r) (hx:atI g r=some x):zfe g rows (i+1)=zfe g rows i+x:=by
 unfold zfe;rw [List.take_succ,hr];simp [hx]
theorem z9i {g rows:List Int} (hg : ∀ x∈g,-2199023255552<=x/\x<=2199023255552) : ∀ i:Nat,i<=rows.length -> -2199023255552*(i:Int)<=zfe g rows i/\zfe g rows i<=2199023255552*(i:Int)
 | 0,_=>by simp [zfe]
 | i+1,h=>by
  have ih:=z9i (rows:=rows) hg i (by omega);obtain ⟨r,hr⟩ : ∃ r,rows[i]?=some r:=⟨_,bG (by omega)⟩;have e:zfe g rows (i+1)=zfe g rows i+(atI g r).getD 0:=by
   unfold zfe;rw [List.take_succ,hr];simp
  rw [e];cases hx:atI g r with
  | none=>simp only [Option.getD_none]; omega
  | some x =>
   obtain ⟨_,_,h3,_⟩:=zgn hx;have:=hg x (bF h3);simp only [Option.getD_some]; omega
theorem ycc (g rows:List Int):zey g rows=⟨rows.length,zfe g rows rows.length⟩:=by simp [zey,zfe]
theorem ytd {g rows:List Int} (hg : ∀ x∈g,-2199023255552<=x/\x<=2199023255552) (hl:rows.length<=1048576):slI (zey g rows):=by
 rw [ycc];have:=z9i (rows:=rows) hg rows.length (by omega);exact ⟨by unfold inI; simp only; omega,by unfold inI; simp only; omega⟩
theorem y8u (g rows:List Int) (hg : ∀ x∈g,-2199023255552<=x/\x<=2199023255552) (hr : ∀ r∈rows,0<=r/\r<g.length) (hl:rows.length<=1048576):RUN T zrx [.sl 1 (zab g),.sl 1 (zab rows)]=some ([.agg (slc (zey g rows))],[]):=by
 rw [ycc];refine zae rfl rfl ?_;simp [-getElem?_pos,z2r,z2s];refine zan (fun k st => ∃ i:Nat,i+k=rows.length/\st.V 0 = .sl 1 (zab g)/\st.V 4 = .ptr 0 none 0 0 0/\st.V 5 = .ptr 1 none 0 0 0/\st.V 11 = .sl 1 (zab rows)/\st.V 12=iv rows.length/\st.V 13=iv i/\1<st.nx/\st.S 1=some (.box [iv rows.length,iv (zfe g rows i)])/\st.S 0=some (.box [iv 0,iv 0])) ?_ rows.length _ ⟨0,by omega,by simp [zfe]⟩;rintro k st ⟨i,hi,v0,v4,v5,v11,v12,v13,h1x,hS1,hS0⟩;obtain ⟨z1,z2,z3,z4⟩:=fr h1x
 by_cases hlt:i<rows.length
 ·obtain ⟨r,hrr⟩ : ∃ r,rows[i]?=some r:=⟨_,bG hlt⟩;obtain ⟨r0,r1⟩:=hr r (bF hrr);obtain ⟨rn,rfl⟩ : ∃ n:Nat,r=n:=⟨r.toNat,by omega⟩;obtain ⟨x,hx⟩ : ∃ x,g[rn]?=some x:=⟨_,bG (by omega)⟩;have hrn:rn<g.length:=by omega
  have hr':=zax hrr;have hx':=zax hx;have hws:=wS hlt (by omega:rows.length<=9223372036854775807);have hs:=ytq (g:=g) hrr (x:=x) (by unfold atI; rw [if_pos r0]; simpa using hx);have b1:=z9i (rows:=rows) hg (i+1) (by omega);rw [hs] at b1;have hw:=w64 (x:=zfe g rows i+x) (by omega) (by omega);simp [-getElem?_pos,z9z,v0,v4,v5,v11,v12,v13,hS1,hS0,hlt,hr',hx',hrn,hw,hws,z1,z2,z3,z4];exact zah (k-1) (by omega) ⟨i+1,by omega,by simp [v0,v4,v5,v11,v12,h1x,hs,hS0]⟩
 ·have hin:i=rows.length:=by omega
  subst hin;simp [-getElem?_pos,z9z,v4,v5,v12,v13,hS1,hS0,slc]
theorem y8v (g rows:List Int) (hg : ∀ x∈g,-2199023255552<=x/\x<=2199023255552) (hr : ∀ r∈rows,0<=r/\r<g.length) (hl:rows.length<=1048576):RUN T zr5 [.sl 1 (zab g),.sl 1 (zab rows)]=some ([.agg (slc (zey g rows))],[]):=by
 rw [ycc];refine zae rfl rfl ?_;simp [-getElem?_pos,z26,z2s];refine zan (fun k st => ∃ i:Nat,i+k=rows.length/\st.V 0 = .sl 1 (zab g)/\st.V 1 = .sl 1 (zab rows)/\st.V 4 = .ptr 0 none 0 0 0/\st.V 5 = .ptr 1 none 0 0 0/\st.V 6=iv i/\1<st.nx/\st.S 1=some (.box [iv i,iv (zfe g rows i)])/\st.S 0=some (.box [iv 0,iv 0])) ?_ rows.length _ ⟨0,by omega,by simp [zfe]⟩;rintro k st ⟨i,hi,v0,v1,v4,v5,v6,h1x,hS1,hS0⟩;obtain ⟨z1,z2,z3,z4⟩:=fr h1x
 by_cases hlt:i<rows.length
 ·obtain ⟨r,hrr⟩ : ∃ r,rows[i]?=some r:=⟨_,bG hlt⟩;obtain ⟨r0,r1⟩:=hr r (bF hrr);obtain ⟨rn,rfl⟩ : ∃ n:Nat,r=n:=⟨r.toNat,by omega⟩;obtain ⟨x,hx⟩ : ∃ x,g[rn]?=some x:=⟨_,bG (by omega)⟩;have hrn:rn<g.length:=by omega
  have hr':=zax hrr;have hx':=zax hx;have hws:=wS hlt (by omega:rows.length<=9223372036854775807);have hs:=ytq (g:=g) hrr (x:=x) (by unfold atI; rw [if_pos r0]; simpa using hx);have b1:=z9i (rows:=rows) hg (i+1) (by omega);rw [hs] at b1;have hw:=w64 (x:=zfe g rows i+x) (by omega) (by omega);simp [-getElem?_pos,z91,v0,v1,v4,v5,v6,hS1,hS0,hlt,hr',hx',hrn,hw,hws,z1,z2,z3,z4];exact zah (k-1) (by omega) ⟨i+1,by omega,by simp [v0,v1,v4,v5,h1x,hs,hS0]⟩
 ·have hin:i=rows.length:=by omega
  subst hin;simp [-getElem?_pos,z91,v1,v4,v5,v6,hS1,hS0,slc]
theorem y8w (bins rows:List Int) (b:Int) (hb:bins.length<=1048576) (hl:rows.length<=1048576):RUN T zrz [.sl 1 (zab bins),.sl 1 (zab rows),iv b]=some ([.own 1 (zab (zcq bins rows b)),.own 1 (zab (zed bins rows b))],[]):=by
 have hr0:zag 8 0=true:=by decide
 have hr1:zag 8 1=true:=by decide
 have w1:=w64 (x:=(bins.length:Int)-1) (by omega) (by omega);refine zae rfl rfl ?_;simp [-getElem?_pos,z2v,z2w,hr0];refine zan (fun k st => ∃ (i o e p e2:Nat) (m l:List Int),i+k=rows.length/\m.length<=i/\l.length<=i/\m++(rows.drop i).filter (ziy bins b)=zcq bins rows b/\l++(rows.drop i).filter (zpp bins b)=zed bins rows b/\st.V 0 = .sl 1 (zab bins)/\st.V 2=iv b/\st.V 8 = .ref o none e 0 m.length/\st.V 9 = .ref p none e2 0 l.length/\st.V 14 = .sl 1 (zab rows)/\st.V 15=iv rows.length/\st.V 16=iv i/\¬ o=p/\o<st.nx/\p<st.nx/\st.S o=some (.row 1 (zab m))/\st.S p=some (.row 1 (zab l))) ?_ rows.length _ ⟨0,0,0,1,0,[],[],by omega,by simp [zcq,zed]⟩;rintro k st ⟨i,o,e,p,e2,m,l,hi,hml,hll,hm,hl2,v0,v2,v8,v9,v14,v15,v16,hop,hox,hpx,hSo,hSp⟩;obtain ⟨x1,x2,x3,x4⟩:=fr hox;obtain ⟨z1,z2,z3,z4⟩:=fr hpx;have hpo : ¬ p=o:=fun e=>hop e.symm
 by_cases hlt:i<rows.length
 ·obtain ⟨r,hrr⟩ : ∃ r,rows[i]?=some r:=⟨_,bG hlt⟩;have hr':=zax hrr;have hws:=wS hlt (by omega:rows.length<=9223372036854775807);have e1:=zcu r 0 ((bins.length:Int)-1);rw [zc9 hrr,List.filter_cons] at hm hl2;have hB:ziy bins b r=match atI bins r with
   | some x=>decide (x<=b)
   | none=>false:=rfl
  have hC:zpp bins b r=match atI bins r with
   | some x => !decide (x<=b)
   | none=>false:=rfl
  have r1:=zbv (n:=m.length+1) (by omega);have r2:=zbv (n:=l.length+1) (by omega);have s1:=zbn m r;have s2:=zbn l r;cases hx:atI bins r with
  | none =>
   have hn:=zjs hx;rw [show zaj r 0 ((bins.length:Int)-1)=false from by
    cases hw:zaj r 0 ((bins.length:Int)-1) with
    | false=>rfl
    | true=>have:=zay.mp hw; omega] at e1
   rw [hx] at hB hC;rw [hB] at hm;rw [hC] at hl2;simp [-getElem?_pos,zwo,-zbm,v0,v2,v8,v9,v14,v15,v16,hSo,hSp,hlt,hr',hws,w1,e1];exact zah (k-1) (by omega) ⟨i+1,o,e,p,e2,m,l,by omega,by omega,by omega,by simpa using hm,by simpa using hl2,by simp [v0],by simp [v2],by simp [v8],by simp [v9],by simp [v14],by simp [v15],by simp,hop,by simp [hox,hpx,hSo,hSp]⟩
  | some x =>
   obtain ⟨rn,rfl,hbr,hbl⟩:=zgn hx;rw [show zaj rn 0 ((bins.length:Int)-1)=true from zay.mpr (by omega)] at e1;rw [hx] at hB hC;rw [hB] at hm;rw [hC] at hl2;have hb':=zax hbr
   by_cases hc:x<=b
   ·have d1:decide (x<=b)=true:=decide_eq_true hc;simp only [d1,if_true,Bool.not_true,Bool.false_eq_true,if_false] at hm hl2;simp [-getElem?_pos,zwo,-zbm,v0,v2,v8,v9,v14,v15,v16,hSo,hSp,hlt,hr',hws,w1,e1,hb',hbl,hc,hr1,r1,s1,hop,hpo,x1,x2,x3,x4,z1,z2,z3,z4];exact zah (k-1) (by omega) ⟨i+1,st.nx+1,st.ep,p,e2,m++[(rn:Int)],l,by omega,by simp; omega,by omega,by simpa using hm,hl2,by simp [v0],by simp [v2],by simp,by simp [v9],by simp [v14],by simp [v15],by simp,by omega,by simp,by simp; omega,by simp [hop,hpo,x1,x2,x3,x4,z1,z2,z3,z4,hSp]⟩
   ·have d1:decide (x<=b)=false:=decide_eq_false hc;simp only [d1,if_true,Bool.not_false,Bool.false_eq_true,if_false] at hm hl2;simp [-getElem?_pos,zwo,-zbm,v0,v2,v8,v9,v14,v15,v16,hSo,hSp,hlt,hr',hws,w1,e1,hb',hbl,hc,hr1,r2,s2,hop,hpo,x1,x2,x3,x4,z1,z2,z3,z4];exact zah (k-1) (by omega) ⟨i+1,o,e,st.nx+1,st.ep,m,l++[(rn:Int)],by omega,by omega,by simp; omega,hm,by simpa using hl2,by simp [v0],by simp [v2],by simp [v8],by simp,by simp [v14],by simp [v15],by simp,by omega,by simp; omega,by simp [hop,hpo,x1,x2,x3,x4,z1,z2,z3,z4,hSo]⟩
 ·rw [List.drop_eq_nil_of_le (by omega)] at hm hl2;simp only [List.filter_nil,List.append_nil] at hm hl2;subst hm hl2;simp [-getElem?_pos,zwo,v8,v9,v14,v15,v16,hSo,hSp,hlt,hop,hpo]
theorem y8x (bins rows:List Int) (b:Int) (hb:bins.length<=1048576) (hl:rows.length<=1048576):RUN T zr6 [.sl 1 (zab bins),.sl 1 (zab rows),iv b]=some ([.own 1 (zab (zcq bins rows b)),.own 1 (zab (zed bins rows b))],[]):=by
 have hr0:zag 8 0=true:=by decide
 have hr1:zag 8 1=true:=by decide
 have w1:=w64 (x:=(bins.length:Int)-1) (by omega) (by omega);refine zae rfl rfl ?_;simp [-getElem?_pos,z29,z2w,hr0];refine zan (fun k st => ∃ (i o e p e2:Nat) (m l:List Int),i+k=rows.length/\m.length<=i/\l.length<=i/\m++(rows.drop i).filter (ziy bins b)=zcq bins rows b/\l++(rows.drop i).filter (zpp bins b)=zed bins rows b/\st.V 0 = .sl 1 (zab bins)/\st.V 1 = .sl 1 (zab rows)/\st.V 2=iv b/\st.V 8 = .ref o none e 0 m.length/\st.V 9 = .ref p none e2 0 l.length/\st.V 10=iv i/\¬ o=p/\o<st.nx/\p<st.nx/\st.S o=some (.row 1 (zab m))/\st.S p=some (.row 1 (zab l))) ?_ rows.length _ ⟨0,0,0,1,0,[],[],by omega,by simp [zcq,zed]⟩;rintro k st ⟨i,o,e,p,e2,m,l,hi,hml,hll,hm,hl2,v0,v1,v2,v8,v9,v10,hop,hox,hpx,hSo,hSp⟩;obtain ⟨x1,x2,x3,x4⟩:=fr hox;obtain ⟨z1,z2,z3,z4⟩:=fr hpx;have hpo : ¬ p=o:=fun e=>hop e.symm
 by_cases hlt:i<rows.length
 ·obtain ⟨r,hrr⟩ : ∃ r,rows[i]?=some r:=⟨_,bG hlt⟩;have hr':=zax hrr;have hws:=wS hlt (by omega:rows.length<=9223372036854775807);have e1:=zba r 0 ((bins.length:Int)-1);rw [zc9 hrr,List.filter_cons] at hm hl2;have hB:ziy bins b r=match atI bins r with
   | some x=>decide (x<=b)
   | none=>false:=rfl
  have hC:zpp bins b r=match atI bins r with
   | some x => !decide (x<=b)
   | none=>false:=rfl
  have r1:=zbv (n:=m.length+1) (by omega);have r2:=zbv (n:=l.length+1) (by omega);have s1:=zbn m r;have s2:=zbn l r;cases hx:atI bins r with
  | none =>
   have hn:=zjs hx;rw [show zaj r 0 ((bins.length:Int)-1)=false from by
    cases hw:zaj r 0 ((bins.length:Int)-1) with
    | false=>rfl
    | true=>have:=zay.mp hw; omega] at e1
   rw [hx] at hB hC;rw [hB] at hm;rw [hC] at hl2;simp [-getElem?_pos,zwr,-za0,v0,v1,v2,v8,v9,v10,hSo,hSp,hlt,hr',hws,w1,e1];exact zah (k-1) (by omega) ⟨i+1,o,e,p,e2,m,l,by omega,by omega,by omega,by simpa using hm,by simpa using hl2,by simp [v0],by simp [v1],by simp [v2],by simp [v8],by simp [v9],by simp,hop,by simp [hox,hpx,hSo,hSp]⟩
  | some x =>
   obtain ⟨rn,rfl,hbr,hbl⟩:=zgn hx;rw [show zaj rn 0 ((bins.length:Int)-1)=true from zay.mpr (by omega)] at e1;rw [hx] at hB hC;rw [hB] at hm;rw [hC] at hl2;have hb':=zax hbr
   by_cases hc:x<=b
   ·have d1:decide (x<=b)=true:=decide_eq_true hc;simp only [d1,if_true,Bool.not_true,Bool.false_eq_true,if_false] at hm hl2;simp [-getElem?_pos,zwr,-za0,v0,v1,v2,v8,v9,v10,hSo,hSp,hlt,hr',hws,w1,e1,hb',hbl,hc,hr1,r1,s1,hop,hpo,x1,x2,x3,x4,z1,z2,z3,z4];exact zah (k-1) (by omega) ⟨i+1,st.nx+1,st.ep,p,e2,m++[(rn:Int)],l,by omega,by simp; omega,by omega,by simpa using hm,hl2,by simp [v0],by simp [v1],by simp [v2],by simp,by simp [v9],by simp,by omega,by simp,by simp; omega,by simp [hop,hpo,x1,x2,x3,x4,z1,z2,z3,z4,hSp]⟩
   ·have d1:decide (x<=b)=false:=decide_eq_false hc;simp only [d1,if_true,Bool.not_false,Bool.false_eq_true,if_false] at hm hl2;simp [-getElem?_pos,zwr,-za0,v0,v1,v2,v8,v9,v10,hSo,hSp,hlt,hr',hws,w1,e1,hb',hbl,hc,hr1,r2,s2,hop,hpo,x1,x2,x3,x4,z1,z2,z3,z4];exact zah (k-1) (by omega) ⟨i+1,o,e,st.nx+1,st.ep,m,l++[(rn:Int)],by omega,by omega,by simp; omega,hm,by simpa using hl2,by simp [v0],by simp [v1],by simp [v2],by simp [v8],by simp,by simp,by omega,by simp; omega,by simp [hop,hpo,x1,x2,x3,x4,z1,z2,z3,z4,hSo]⟩
 ·rw [List.drop_eq_nil_of_le (by omega)] at hm hl2;simp only [List.filter_nil,List.append_nil] at hm hl2;subst hm hl2;simp [-getElem?_pos,zwr,v1,v8,v9,v10,hSo,hSp,hlt,hop,hpo]
def pnd (x:Pnd):List PV:=[.own 1 (zab x.r),iv x.b.lo,iv x.b.hi,iv x.l]
def zgg (l:List Pnd):List (List PV):=l.map pnd
@[simp] theorem qpk (l:List Pnd):(zgg l).length=l.length:=by simp [zgg]
theorem yci {l:List Pnd} {i:Nat} {x:Pnd} (h:l[i]?=some x):(zgg l)[i]?=some [.own 1 (zab x.r),iv x.b.lo,iv x.b.hi,iv x.l]:=by simp [zgg,h,pnd]
theorem ytl {l:List Pnd} {i:Nat} {x:Pnd} (h:l[i]?=some x):zbd (zgg l) i 0=some (1,zab x.r):=by simp [zbd,yci h]
theorem yoc (l:List Pnd) (x y:Pnd):zgg l++[[.own 1 (zab x.r),iv x.b.lo,iv x.b.hi,iv x.l],[.own 1 (zab y.r),iv y.b.lo,iv y.b.hi,iv y.l]]=zgg (l++[x,y]):=by simp [zgg,pnd]
theorem zmq {α:Type} {l:List α} {i:Nat} {x:α} (h:l[i]?=some x):atI l (i:Int)=some x:=by
 unfold atI;rw [if_pos (by omega)];simpa using h
theorem qdt {b g rows:List Int} {k:Int} (h:(zci b g rows k).2=true):((zci b g rows k).1.length:Int)=k:=by
 unfold zci at h ⊢;split
 ·rename_i hk;rw [if_pos hk] at h;have hk':=zay.mp hk;cases e:zck b g rows (List.replicate k.toNat ⟨0,0⟩) with
  | none=>rw [e] at h; cases h
  | some h'=>have:=ya8 _ _ _ e; simp at this; simp only; omega
 ·rename_i hk;rw [if_neg hk] at h; cases h
theorem ymo {g rows:List Int} : ∀ (c v:List (List Int)) (H:List (List Sl)) (f:Nat) (h:List Sl),zb2 g rows c v=some H->H[f]?=some h->∃ x y,c[f]?=some x/\v[f]?=some y/\h.length=x.length+1
 | [],v,H,f,h,e,hf=>by simp [zb2] at e; subst e; simp at hf
 | x::c,[],H,f,h,e,hf=>by simp [zb2] at e; subst e; simp at hf
 | x::c,y::v,H,f,h,e,hf=>by
  simp only [zb2] at e;split at e
  ·rename_i hp;simp only [bB] at e;obtain ⟨H',h1,rfl⟩:=e;cases f with
   | zero =>
    simp at hf;subst hf;have:=qdt hp;exact ⟨x,y,rfl,rfl,by omega⟩
   | succ f =>
    simp at hf;obtain ⟨x',y',h2,h3,h4⟩:=ymo c v H' f h h1 hf;exact ⟨x',y',by simpa using h2,by simpa using h3,h4⟩
  ·cases e
theorem qdf {c v:List (List Int)} {g rows:List Int} {f:Nat} {h:List Sl} (hb:(zby c v g rows).2=true) (hf:(zby c v g rows).1[f]?=some h) : ∃ x y,c[f]?=some x/\v[f]?=some y/\h.length=x.length+1:=by
 unfold zby at hb hf;split at hb
 ·rename_i hg;rw [if_pos hg] at hf;cases e:zb2 g rows c v with
  | none=>rw [e] at hb; cases hb
  | some H=>rw [e] at hf; exact ymo c v H f h e hf
 ·cases hb
theorem yt6 {c v:List (List Int)} {g:List Int} {cfg:Cfg} {rows:List Int} {b:Bd} (h:(zbh c v g cfg rows b).2=true) : ∃ (f k:Nat) (x y:List Int) (z:Int),(zbh c v g cfg rows b).1.f=f/\(zbh c v g cfg rows b).1.b=k/\c[f]?=some x/\v[f]?=some y/\x[k]?=some z/\zep (zbh c v g cfg rows b).1:=by
 obtain ⟨h1,h2⟩:=yps h;have hI:=yo3 (by have:=z72 c v g rows; omega) (fun l hl=>Nat.le_trans ((zuz c v g rows).2 l hl) (by omega)) h1;obtain ⟨f,k,l,e1,e2,e3,e4,_,_⟩:=h1;obtain ⟨x,y,hx,hy,hl⟩:=qdf h2 e3;exact ⟨f,k,x,y,x[k]'(by omega),e1,e2,hx,hy,bG (by omega),hI⟩
theorem qgq {x lo hi:Int} (h:lo<=hi):lo<=zfp x lo hi/\zfp x lo hi<=hi:=by
 unfold zfp;split
 ·omega
 ·split <;> omega
theorem qck {b:Bd} (h:zg6 b=true):b.lo<=b.hi /\ -1099511627776<=b.lo/\b.hi<=1099511627776:=by
 unfold zg6 at h;simp only [Bool.and_eq_true,decide_eq_true_eq] at h;have h1:=h.1.2;have h2:=h.2;unfold zeb at h1 h2;have:=zay.mp h1;have:=zay.mp h2;omega
theorem ynv (s:Sl) (l:Int) (b:Bd) : -1099511627776<=(zeg s l b).1/\(zeg s l b).1<=1099511627776:=by
 unfold zeg;split
 ·rename_i h;simp only [Bool.and_eq_true] at h;obtain ⟨h1,h2,h3⟩:=qck h.2;have:=qgq (x:=(fdv s.g (s.n+l)).1) h1;simp only; omega
 ·simp
theorem z8o (c:Cfg) (b:Bd) (x:Cnd):inI (zb1 c b x).1/\inI (zb1 c b x).2.1:=by
 have h1:=ynv x.a c.la b;have h2:=ynv x.z c.la b;unfold zb1 inI;split
 ·simp only; omega
 ·simp
def NC (S:Nat->Option Ob) (nx oq:Nat) (m:List Nd) (x:PV):Prop:=(x = .e0/\m=[])\/∃ o e,x = .ref o none e 0 m.length/\5<o/\o<nx/\¬ o=oq/\S o=some (.row 5 (m.map nd))
theorem ydq {c v:List (List Int)} {g:List Int} {cfg:Cfg} {n:Nat} {q:List Pnd} {i:Nat} {out:List Nd} (h:q[i]?=none):zdv c v g cfg n q i out=out:=by
 cases n with
 | zero=>rfl
 | succ n=>rw [zdv,h]
theorem ynz {c v:List (List Int)} {g:List Int} {cfg:Cfg} {n:Nat} {q:List Pnd} {i:Nat} {out:List Nd} {x:Pnd} (h:q[i]?=some x) (hg:goes c v g cfg x=false):zdv c v g cfg (n+1) q i out=zdv c v g cfg n q (i+1) (out++[zdh g cfg x]):=by
 rw [zdv,h]; simp [hg]
theorem ynj {c v:List (List Int)} {g:List Int} {cfg:Cfg} {n:Nat} {q:List Pnd} {i:Nat} {out:List Nd} {x:Pnd} (h:q[i]?=some x) (hg:goes c v g cfg x=true):zdv c v g cfg (n+1) q i out=zdv c v g cfg n (q++[zjd c v cfg x (zbh c v g cfg x.r x.b).1,zi5 c v cfg x (zbh c v g cfg x.r x.b).1]) (i+1) (out++[zm2 c (zbh c v g cfg x.r x.b).1 q.length]):=by
 rw [zdv,h]; simp [hg]
structure GI (c v:List (List Int)) (g:List Int) (cfg:Cfg) (n:Nat) (q:List Pnd) (i:Nat) (out:List Nd):Prop where
 n1:i+n=32
 le:i<=q.length
 ql:q.length<=2*i+1
 ol:out.length=i
 po:zi9 cfg.de (q.drop i)<=n
 ok : ∀ x∈q,zx5 g.length cfg.de x
 go:zdv c v g cfg n q i out=zdv c v g cfg 32 [zem g] 0 []
theorem GI.leaf {c v:List (List Int)} {g:List Int} {cfg:Cfg} {n:Nat} {q:List Pnd} {i:Nat} {out:List Nd} {x:Pnd} (h:GI c v g cfg n q i out) (hx:q[i]?=some x) (hg:goes c v g cfg x=false):1<=n/\GI c v g cfg (n-1) q (i+1) (out++[zdh g cfg x]):=by
 have hp:=h.po;rw [zc9 hx,z9g] at hp;have:=qf9 (h.ok x (bF hx)).2.2.2;have hlt:=(bD hx).1;obtain ⟨m,rfl⟩ : ∃ m,n=m+1:=⟨n-1,by omega⟩;have:=h.n1;have:=h.ql;exact ⟨by omega,by simp; omega,by omega,by omega,by simp [h.ol],by simp; omega,h.ok,by rw [<- h.go,ynz hx hg]; rfl⟩
theorem GI.cut {c v:List (List Int)} {g:List Int} {cfg:Cfg} {n:Nat} {q:List Pnd} {i:Nat} {out:List Nd} {x:Pnd} (h:GI c v g cfg n q i out) (hx:q[i]?=some x) (hg:goes c v g cfg x=true):1<=n/\GI c v g cfg (n-1) (q++[zjd c v cfg x (zbh c v g cfg x.r x.b).1,zi5 c v cfg x (zbh c v g cfg x.r x.b).1]) (i+1) (out++[zm2 c (zbh c v g cfg x.r x.b).1 q.length]):=by
 have hp:=h.po;have hlt:=(bD hx).1;have hxo:=h.ok x (bF hx);rw [zc9 hx,z9g] at hp;have hlv:x.l<cfg.de:=by
  unfold goes at hg;simp only [Bool.and_eq_true,decide_eq_true_eq] at hg;exact hg.1
 have hk:=qcg (y:=zjd c v cfg x (zbh c v g cfg x.r x.b).1) (z:=zi5 c v cfg x (zbh c v g cfg x.r x.b).1) hlv rfl rfl;obtain ⟨m,rfl⟩ : ∃ m,n=m+1:=⟨n-1,by omega⟩;have:=h.n1;have:=h.ql;obtain ⟨ko1,ko2⟩:=qgu (c:=c) (v:=v) (k:=(zbh c v g cfg x.r x.b).1) hxo hlv;refine ⟨by omega,by simp; omega,by simp; omega,by simp; omega,by simp [h.ol],?_,fun y hy => ?_,by rw [<- h.go,ynj hx hg]; rfl⟩
 ·rw [List.drop_append_of_le_length (by omega),qa4,z9g,z9g];have:zi9 cfg.de ([]:List Pnd)=0:=rfl;simp only [Nat.add_sub_cancel];omega
 ·rcases List.mem_append.mp hy with e | e
  ·exact h.ok y e
  ·simp only [List.mem_cons,List.not_mem_nil,or_false] at e;rcases e with e | e
   ·subst e; exact ko1
   ·subst e; exact ko2
theorem GI.start {c v:List (List Int)} {g:List Int} {cfg:Cfg} (h:zgp c v g cfg=true):GI c v g cfg 32 [zem g] 0 []:=by
 obtain ⟨h1,h2,h3,h4⟩:=zx9 h;obtain ⟨d1,d2⟩:=(ycv h2).1;refine ⟨rfl,by simp,by simp,rfl,?_,fun x hx => ?_,rfl⟩
 ·simp only [List.drop_zero,zi9,List.map_cons,List.map_nil,List.sum_cons,List.sum_nil,pot,zem];have:(cfg.de+1-0).toNat<=5:=by omega
  have:=Nat.pow_le_pow_right (n:=2) (by omega) this;omega
 ·simp only [List.mem_singleton] at hx;subst hx;refine ⟨fun r hr => ?_,by simp [zem],by simp [zem],d1⟩;simp only [zem,List.mem_map,List.mem_range] at hr;obtain ⟨j,hj,rfl⟩:=hr;omega
theorem y8y (q:Bool) (c v:List (List Int)) (g:List Int) (cfg:Cfg) (hc : ∀ l∈c,l.length<=1048576) (hv : ∀ l∈v,l.length<=1048576) (hg:g.length<=1048576) (hs:cfg.sg.length<=1048576) (hgi : ∀ x∈g,inI x):RUN T zq5 [.agg [.sl 1 (rws q c),.sl 1 (rws q v)],.sl 1 (zab g),cfS cfg]=some ([.agg [.own 5 ((zcs c v g cfg).1.map nd)],bv (zcs c v g cfg).2],[]):=by
 have e1:=yk8 q c v g cfg (fun l hl=>Nat.le_trans (hc l hl) (by omega)) (fun l hl=>Nat.le_trans (hv l hl) (by omega)) (by omega) (by omega);simp only [zdw] at e1;cases ht:zgp c v g cfg with
 | false =>
  rw [ht] at e1;have hR:zcs c v g cfg=([],false):=by unfold zcs; rw [ht]; rfl
  rw [hR];refine zae rfl rfl ?_;simp [-getElem?_pos,zv3,zv4,e1]
 | true =>
  rw [ht] at e1;have hR:zcs c v g cfg=(zdv c v g cfg 32 [zem g] 0 [],true):=by unfold zcs; rw [if_pos ht]
  rw [hR];obtain ⟨R,hR'⟩ : ∃ R,R=zdv c v g cfg 32 [zem g] 0 []:=⟨_,rfl⟩;rw [<- hR'];obtain ⟨t1,t2,t3,t4⟩:=zx9 ht;obtain ⟨t5,t6⟩:=yt5 t1;have e2:=yae q c v;have e3:=y8s (zdy v) t5 t6;have e4:=y8r;have hr48:zag 48 1=true:=by decide
  have hG:=GI.start ht;have hroot:zgg [zem g]=[[.own 1 (zab (upl (zdy v))),iv zkr.lo,iv zkr.hi,iv 0]]:=by simp [zgg,pnd,zem,t3,upl]
  simp only [bnd] at e4;refine zae rfl rfl ?_;simp [-getElem?_pos,zv3,zv4,e1,e2,e3,e4,hr48];refine zan (fun n st => ∃ (i o e:Nat) (Q:List Pnd) (out:List Nd) (x:PV),GI c v g cfg n Q i out/\st.V 1 = .sl 1 (zab g)/\st.V 3 = .ptr 0 none 0 0 0/\st.V 5 = .ptr 1 none 0 0 0/\st.V 6 = .ptr 2 none 0 0 0/\st.V 8 = .ref o none e 0 Q.length/\st.V 9 = .ptr 5 none 0 0 0/\st.V 10=iv i/\3<o/\¬ o=5/\o<st.nx/\5<st.nx/\st.S 0=some (.box [.sl 1 (rws q c),.sl 1 (rws q v)])/\st.S 1=some (.box [iv cfg.ro,iv cfg.de,iv cfg.bi,iv cfg.la,iv cfg.rw,iv cfg.nu,iv cfg.dn,.sl 1 (zab cfg.sg)])/\st.S 2=some (.box [.e0])/\st.S 5=some (.box [x])/\st.S o=some (.row 4 (zgg Q))/\NC st.S st.nx o out x) ?_ 32 _ ⟨0,4,0,[zem g],[],.e0,hG,?_⟩
  ·rintro n st ⟨i,o,ep,Q,out,x,hG,v1,v3,v5,v6,v8,v9,v10,ho3,ho5,hox,h5x,hS0,hS1,hS2,hS5,hSo,hN⟩;have Z2:=bI v1 <| bI v3 <| bI v5 <| bI v6 <| bI v8 <| bI v9 <| bI v10 <| bI hS0 <| bI hS1 <| bI hS2 <| bI hS5 hSo
   obtain ⟨Fa01,Fa02,Fa03,Fa04⟩:=fr (show 0<st.nx by omega);obtain ⟨Fb01,Fb02,Fb03,Fb04⟩:=fr (show 1<st.nx by omega);obtain ⟨Fc01,Fc02,Fc03,Fc04⟩:=fr (show 2<st.nx by omega);obtain ⟨Fd01,Fd02,Fd03,Fd04⟩:=fr (show 5<st.nx by omega);obtain ⟨Fo01,Fo02,Fo03,Fo04⟩:=fr (show o<st.nx by omega);have N0a:(o=0)=False:=eq_false (by omega);have N0b:(0=o)=False:=eq_false (by omega);have N1a:(o=1)=False:=eq_false (by omega);have N1b:(1=o)=False:=eq_false (by omega);have N2a:(o=2)=False:=eq_false (by omega);have N2b:(2=o)=False:=eq_false (by omega);have N3a:(o=5)=False:=eq_false (by omega);have N3b:(5=o)=False:=eq_false (by omega);have y0:(st.nx=0)=False:=eq_false (by omega);have y1:(st.nx=1)=False:=eq_false (by omega);have y2:(st.nx=2)=False:=eq_false (by omega);have y3:(st.nx=3)=False:=eq_false (by omega);have y4:(st.nx=4)=False:=eq_false (by omega);have y5:(st.nx=5)=False:=eq_false (by omega);have na : ∀ a b:Nat,st.nx+a+b=st.nx+(a+b):=fun a b=>Nat.add_assoc _ _ _;have Z0:=bI Fa01 <| bI Fa02 <| bI Fa03 <| bI Fa04 <| bI Fb01 <| bI Fb02 <| bI Fb03 <| bI Fb04 <| bI Fc01 <| bI Fc02 <| bI Fc03 <| bI Fc04 <| bI Fd01 <| bI Fd02 <| bI Fd03 <| bI Fd04 <| bI Fo01 <| bI Fo02 <| bI Fo03 <| bI Fo04 <| bI N0a <| bI N0b <| bI N1a <| bI N1b <| bI N2a <| bI N2b <| bI N3a <| bI N3b <| bI y0 <| bI y1 <| bI y2 <| bI y3 <| bI y4 <| bI y5 na
   by_cases hlt:i<Q.length
   ·obtain ⟨p,hp⟩ : ∃ p,Q[i]?=some p:=⟨_,bG hlt⟩;have hp':=yci hp;have hps:=ytl hp;have hpo:=hG.ok p (bF hp);obtain ⟨p1,p2,p3,p4⟩:=hpo;have hn1:=hG.n1;have hql:=hG.ql;have hws:=wS hlt (by omega:Q.length<=9223372036854775807);have f1:=y8o q c v g cfg p.r p.b hc hv hg (by omega) hs hgi;have f2:=y8u g p.r t4 p1 (by omega);have f3:=yar (zey g p.r) cfg.la p.b (ytd t4 (by omega));have hr40:zag 40 1=true:=by decide
    have hr41:zag 40 (out.length+1)=true:=by have:=hG.ol; simp [zag]; omega
    have hsn:=zp5 out (zdh g cfg p);simp only [zdh] at hsn;simp only [bnd] at f1 f3;obtain ⟨K,hK⟩ : ∃ K,K=zbh c v g cfg p.r p.b:=⟨_,rfl⟩;obtain ⟨G,hGg⟩ : ∃ G,G=goes c v g cfg p:=⟨_,rfl⟩;have hG2:G=(decide (p.l<cfg.de) && K.2):=by rw [hGg,hK]; rfl
    cases G with
    | false =>
     obtain ⟨m1,hG'⟩:=hG.leaf hp hGg.symm;rw [<- hK] at f1;simp only [slc] at f2 f3
     by_cases hlv:p.l<cfg.de
     ·have hK2:K.2=false:=by simpa [hlv] using hG2.symm
      obtain ⟨K,Kb⟩:=K;simp only at hK2 f1;subst hK2;simp only [cnd] at f1;rcases hN with ⟨rfl,rfl⟩ | ⟨w,ew,rfl,hw5,hwx,hwo,hSw⟩
      ·simp [-getElem?_pos,zkh,Z2,hlt,hp',hps,hlv,f1,f2,f3,hws,hr40,Z0];refine zah (n-1) (by omega) ⟨i+1,o,ep,Q,[zdh g cfg p],.ref (st.nx+3) none st.ep 0 1,hG',by simp [v1],by simp [v3],by simp [v5],by simp [v6],by simp [v8],by simp [v9],by simp,ho3,ho5,(by simp <;> omega),by simp <;> omega,by simp [Z0,hS0],by simp [Z0,hS1],by simp [Z0,hS2],by simp [Z0],by simp [Z0,hSo],.inr ⟨st.nx+3,st.ep,by simp,by omega,by simp <;> omega,by omega,by simp [nd,zdh,y0,y1,y2,y3,y4,y5]⟩⟩
      ·obtain ⟨Fw01,Fw02,Fw03,Fw04⟩:=fr (show w<st.nx by omega);have M0a:(w=0)=False:=eq_false (by omega);have M0b:(0=w)=False:=eq_false (by omega);have M1a:(w=1)=False:=eq_false (by omega);have M1b:(1=w)=False:=eq_false (by omega);have M2a:(w=2)=False:=eq_false (by omega);have M2b:(2=w)=False:=eq_false (by omega);have M3a:(w=5)=False:=eq_false (by omega);have M3b:(5=w)=False:=eq_false (by omega);have M4a:(w=o)=False:=eq_false (by omega);have M4b:(o=w)=False:=eq_false (by omega);have Z1:=bI Z0 <| bI Fw01 <| bI Fw02 <| bI Fw03 <| bI Fw04 <| bI M0a <| bI M0b <| bI M1a <| bI M1b <| bI M2a <| bI M2b <| bI M3a <| bI M3b <| bI M4a M4b
       simp [-getElem?_pos,zkh,Z2,hSw,hlt,hp',hps,hlv,f1,f2,f3,hws,hr40,hr41,hsn,Z1];refine zah (n-1) (by omega) ⟨i+1,o,ep,Q,out++[zdh g cfg p],.ref (st.nx+3) none st.ep 0 (out.length+1),hG',by simp [v1],by simp [v3],by simp [v5],by simp [v6],by simp [v8],by simp [v9],by simp,ho3,ho5,(by simp <;> omega),by simp <;> omega,by simp [Z1,hS0],by simp [Z1,hS1],by simp [Z1,hS2],by simp [Z1],by simp [Z1,hSo],.inr ⟨st.nx+3,st.ep,by simp,by omega,by simp <;> omega,by omega,by simp [nd,zdh,y0,y1,y2,y3,y4,y5]⟩⟩
     ·rcases hN with ⟨rfl,rfl⟩ | ⟨w,ew,rfl,hw5,hwx,hwo,hSw⟩
      ·simp [-getElem?_pos,zkh,Z2,hlt,hp',hps,hlv,f2,f3,hws,hr40,Z0];refine zah (n-1) (by omega) ⟨i+1,o,ep,Q,[zdh g cfg p],.ref (st.nx+3) none st.ep 0 1,hG',by simp [v1],by simp [v3],by simp [v5],by simp [v6],by simp [v8],by simp [v9],by simp,ho3,ho5,(by simp <;> omega),by simp <;> omega,by simp [Z0,hS0],by simp [Z0,hS1],by simp [Z0,hS2],by simp [Z0],by simp [Z0,hSo],.inr ⟨st.nx+3,st.ep,by simp,by omega,by simp <;> omega,by omega,by simp [nd,zdh,y0,y1,y2,y3,y4,y5]⟩⟩
      ·obtain ⟨Fw01,Fw02,Fw03,Fw04⟩:=fr (show w<st.nx by omega);have M0a:(w=0)=False:=eq_false (by omega);have M0b:(0=w)=False:=eq_false (by omega);have M1a:(w=1)=False:=eq_false (by omega);have M1b:(1=w)=False:=eq_false (by omega);have M2a:(w=2)=False:=eq_false (by omega);have M2b:(2=w)=False:=eq_false (by omega);have M3a:(w=5)=False:=eq_false (by omega);have M3b:(5=w)=False:=eq_false (by omega);have M4a:(w=o)=False:=eq_false (by omega);have M4b:(o=w)=False:=eq_false (by omega);have Z1:=bI Z0 <| bI Fw01 <| bI Fw02 <| bI Fw03 <| bI Fw04 <| bI M0a <| bI M0b <| bI M1a <| bI M1b <| bI M2a <| bI M2b <| bI M3a <| bI M3b <| bI M4a M4b
       simp [-getElem?_pos,zkh,Z2,hSw,hlt,hp',hps,hlv,f2,f3,hws,hr40,hr41,hsn,Z1];refine zah (n-1) (by omega) ⟨i+1,o,ep,Q,out++[zdh g cfg p],.ref (st.nx+3) none st.ep 0 (out.length+1),hG',by simp [v1],by simp [v3],by simp [v5],by simp [v6],by simp [v8],by simp [v9],by simp,ho3,ho5,(by simp <;> omega),by simp <;> omega,by simp [Z1,hS0],by simp [Z1,hS1],by simp [Z1,hS2],by simp [Z1],by simp [Z1,hSo],.inr ⟨st.nx+3,st.ep,by simp,by omega,by simp <;> omega,by omega,by simp [nd,zdh,y0,y1,y2,y3,y4,y5]⟩⟩
    | true =>
     obtain ⟨m1,hG'⟩:=hG.cut hp hGg.symm;have t7:=ycv t2;have hlv:p.l<cfg.de:=by
      have h9:=hG2.symm;simp only [Bool.and_eq_true,decide_eq_true_eq] at h9;exact h9.1
     have hK2:K.2=true:=by
      have h9:=hG2.symm;simp only [Bool.and_eq_true,decide_eq_true_eq] at h9;exact h9.2
     obtain ⟨kf,kb,X,Y,z,k1,k2,hX,hY,hz,kI⟩:=yt6 (c:=c) (v:=v) (g:=g) (cfg:=cfg) (rows:=p.r) (b:=p.b) (by rw [<- hK]; exact hK2);rw [<- hK] at f1 hG' k1 k2 kI;obtain ⟨⟨kf',kb',ka,kz⟩,Kb⟩:=K;simp only at hK2 k1 k2 kI f1 hG';subst hK2 k1 k2;have hfc:=(bD hX).1;have hfv:=(bD hY).1;have hbx:=(bD hz).1;have hX':=zc3 (q:=q) hX;have hY':=zc3 (q:=q) hY;have hz':=zax hz;have f4:=yly cfg p.b ⟨kf,kb,ka,kz⟩ kI;have f5:=yl0 cfg kf (by omega);have f6:=y8i (zej cfg kf) p.b (zb1 cfg p.b ⟨kf,kb,ka,kz⟩).1 (zb1 cfg p.b ⟨kf,kb,ka,kz⟩).2.1 (z8o _ _ _).1 (z8o _ _ _).2;have f7:=y8w Y p.r kb (hv Y (bF hY)) (by omega);have hkl:zjd c v cfg p ⟨kf,kb,ka,kz⟩=⟨zcq Y p.r kb,(zfg (zej cfg kf) p.b (zb1 cfg p.b ⟨kf,kb,ka,kz⟩).1 (zb1 cfg p.b ⟨kf,kb,ka,kz⟩).2.1).1,p.l+1⟩:=by
      unfold zjd;simp only [zmq hY,Option.getD_some]
     have hkr:zi5 c v cfg p ⟨kf,kb,ka,kz⟩=⟨zed Y p.r kb,(zfg (zej cfg kf) p.b (zb1 cfg p.b ⟨kf,kb,ka,kz⟩).1 (zb1 cfg p.b ⟨kf,kb,ka,kz⟩).2.1).2,p.l+1⟩:=by
      unfold zi5;simp only [zmq hY,Option.getD_some]
     have hcn:zm2 c ⟨kf,kb,ka,kz⟩ Q.length=⟨kf,z,Q.length,Q.length+1,0⟩:=by
      unfold zm2;simp only [zmq hX,Option.getD_some,zmq hz]
     rw [hkl,hkr,hcn] at hG';clear hkl hkr hcn;generalize zb1 cfg p.b ⟨kf,kb,ka,kz⟩=sv at *;obtain ⟨sl,sr,sb⟩:=sv;simp only at f4 f6 hG';generalize zej cfg kf=sg at *;generalize zfg sg p.b sl sr=bb at *;obtain ⟨⟨ll,lh⟩,⟨rl,rh⟩⟩:=bb;generalize zcq Y p.r kb=L1 at *;generalize zed Y p.r kb=R1 at *;simp only [bnd,cnd] at f1 f4 f6 hG';have hQ:=yoc Q ⟨L1,⟨ll,lh⟩,p.l+1⟩ ⟨R1,⟨rl,rh⟩,p.l+1⟩;have hsn2:=zp5 out ⟨kf,z,Q.length,Q.length+1,0⟩;simp only at hQ hsn2;have wl:=w64 (x:=p.l+1) (by omega) (by omega);have wq:=w64 (x:=(Q.length:Int)+1) (by omega) (by omega);have hr482:zag 48 2=true:=by decide
     have hr483:zag 48 (Q.length+2)=true:=by simp [zag]; omega
     rcases hN with ⟨rfl,rfl⟩ | ⟨w,ew,rfl,hw5,hwx,hwo,hSw⟩
     ·simp [-getElem?_pos,zkh,Z2,hlt,hp',hps,hlv,f1,f4,f5,f6,f7,hX',hY',hz',hfc,hfv,hbx,wl,wq,hr482,hr483,hQ,hws,hr40,Z0];refine zah (n-1) (by omega) ⟨i+1,st.nx+9,st.ep,(Q++[⟨L1,⟨ll,lh⟩,p.l+1⟩,⟨R1,⟨rl,rh⟩,p.l+1⟩]),[⟨kf,z,Q.length,Q.length+1,0⟩],.ref (st.nx+7) none st.ep 0 1,hG',by simp [v1],by simp [v3],by simp [v5],by simp [v6],by simp,by simp [v9],by simp,by omega,by omega,by simp,by simp <;> omega,by simp [Z0,hS0],by simp [Z0,hS1],by simp [Z0,hS2],by simp [Z0],by simp [Z0],.inr ⟨st.nx+7,st.ep,by simp,by omega,by simp [nd,Fo03,Fo04,Fo01,Fo02,y0,y1,y2,y3,y4,y5]⟩⟩
     ·obtain ⟨Fw01,Fw02,Fw03,Fw04⟩:=fr (show w<st.nx by omega);have M0a:(w=0)=False:=eq_false (by omega);have M0b:(0=w)=False:=eq_false (by omega);have M1a:(w=1)=False:=eq_false (by omega);have M1b:(1=w)=False:=eq_false (by omega);have M2a:(w=2)=False:=eq_false (by omega);have M2b:(2=w)=False:=eq_false (by omega);have M3a:(w=5)=False:=eq_false (by omega);have M3b:(5=w)=False:=eq_false (by omega);have M4a:(w=o)=False:=eq_false (by omega);have M4b:(o=w)=False:=eq_false (by omega);have Z1:=bI Z0 <| bI Fw01 <| bI Fw02 <| bI Fw03 <| bI Fw04 <| bI M0a <| bI M0b <| bI M1a <| bI M1b <| bI M2a <| bI M2b <| bI M3a <| bI M3b <| bI M4a M4b
      simp [-getElem?_pos,zkh,Z2,hSw,hlt,hp',hps,hlv,f1,f4,f5,f6,f7,hX',hY',hz',hfc,hfv,hbx,wl,wq,hr482,hr483,hQ,hws,hr40,hr41,hsn2,Z1];refine zah (n-1) (by omega) ⟨i+1,st.nx+9,st.ep,(Q++[⟨L1,⟨ll,lh⟩,p.l+1⟩,⟨R1,⟨rl,rh⟩,p.l+1⟩]),(out++[⟨kf,z,Q.length,Q.length+1,0⟩]),.ref (st.nx+7) none st.ep 0 (out.length+1),hG',by simp [v1],by simp [v3],by simp [v5],by simp [v6],by simp,by simp [v9],by simp,by omega,by omega,by simp,by simp <;> omega,by simp [Z1,hS0],by simp [Z1,hS1],by simp [Z1,hS2],by simp [Z1],by simp [Z1],.inr ⟨st.nx+7,st.ep,by simp,by omega,by simp [nd,Fo03,Fo04,Fo01,Fo02,y0,y1,y2,y3,y4,y5]⟩⟩
   ·have hiq:i=Q.length:=by have:=hG.le; omega
    have hgo:=hG.go;rw [ydq (List.getElem?_eq_none (by omega)),<- hR'] at hgo;subst hgo;have hol:=hG.ol;rcases hN with ⟨rfl,rfl⟩ | ⟨w,ew,rfl,hw5,hwx,hwo,hSw⟩
    ·simp [-getElem?_pos,zkh,Z2,hlt,Z0]
    ·obtain ⟨Fw01,Fw02,Fw03,Fw04⟩:=fr (show w<st.nx by omega);have M0a:(w=0)=False:=eq_false (by omega);have M0b:(0=w)=False:=eq_false (by omega);have M1a:(w=1)=False:=eq_false (by omega);have M1b:(1=w)=False:=eq_false (by omega);have M2a:(w=2)=False:=eq_false (by omega);have M2b:(2=w)=False:=eq_false (by omega);have M3a:(w=5)=False:=eq_false (by omega);have M3b:(5=w)=False:=eq_false (by omega);have M4a:(w=o)=False:=eq_false (by omega);have M4b:(o=w)=False:=eq_false (by omega);have Z1:=bI Z0 <| bI Fw01 <| bI Fw02 <| bI Fw03 <| bI Fw04 <| bI M0a <| bI M0b <| bI M1a <| bI M1b <| bI M2a <| bI M2b <| bI M3a <| bI M3b <| bI M4a M4b
     simp [-getElem?_pos,zkh,Z2,hSw,hlt,Z1]
  ·refine ⟨by simp,by simp,by simp,by simp,by simp,by simp,by simp,by simp,by simp,by simp,by simp,by simp,by simp,by simp,by simp,by simp [hroot],.inl ⟨rfl,rfl⟩⟩
theorem y8z (q:Bool) (c v:List (List Int)) (g:List Int) (cfg:Cfg) (hc : ∀ l∈c,l.length<=1048576) (hv : ∀ l∈v,l.length<=1048576) (hg:g.length<=1048576) (hs:cfg.sg.length<=1048576) (hgi : ∀ x∈g,inI x):RUN T zq9 [.agg [.sl 1 (rws q c),.sl 1 (rws q v)],.sl 1 (zab g),cfS cfg]=some ([.agg [.own 5 ((zcs c v g cfg).1.map nd)],bv (zcs c v g cfg).2],[]):=by
 have e1:=yk9 q c v g cfg (fun l hl=>Nat.le_trans (hc l hl) (by omega)) (fun l hl=>Nat.le_trans (hv l hl) (by omega)) (by omega) (by omega);simp only [zdw] at e1;cases ht:zgp c v g cfg with
 | false =>
  rw [ht] at e1;have hR:zcs c v g cfg=([],false):=by unfold zcs; rw [ht]; rfl
  rw [hR];refine zae rfl rfl ?_;simp [-getElem?_pos,zv7,zv4,e1]
 | true =>
  rw [ht] at e1;have hR:zcs c v g cfg=(zdv c v g cfg 32 [zem g] 0 [],true):=by unfold zcs; rw [if_pos ht]
  rw [hR];obtain ⟨R,hR'⟩ : ∃ R,R=zdv c v g cfg 32 [zem g] 0 []:=⟨_,rfl⟩;rw [<- hR'];obtain ⟨t1,t2,t3,t4⟩:=zx9 ht;obtain ⟨t5,t6⟩:=yt5 t1;have e3:=y8t g.length (by omega);have e4:=y8q;have hr48:zag 48 1=true:=by decide
  have hG:=GI.start ht;have hroot:zgg [zem g]=[[.own 1 (zab (upl g.length)),iv zkr.lo,iv zkr.hi,iv 0]]:=by simp [zgg,pnd,zem,upl]
  simp only [bnd] at e4;refine zae rfl rfl ?_;simp [-getElem?_pos,zv7,zv4,e1,e3,e4,hr48];refine zan (fun n st => ∃ (i o e:Nat) (Q:List Pnd) (out:List Nd) (x:PV),GI c v g cfg n Q i out/\st.V 1 = .sl 1 (zab g)/\st.V 3 = .ptr 0 none 0 0 0/\st.V 5 = .ptr 1 none 0 0 0/\st.V 6 = .ptr 2 none 0 0 0/\st.V 8 = .ptr 3 none 0 0 0/\st.V 9 = .ref o none e 0 Q.length/\st.V 10=iv i/\4<o/\o<st.nx/\3<st.nx/\st.S 0=some (.box [.sl 1 (rws q c),.sl 1 (rws q v)])/\st.S 1=some (.box [iv cfg.ro,iv cfg.de,iv cfg.bi,iv cfg.la,iv cfg.rw,iv cfg.nu,iv cfg.dn,.sl 1 (zab cfg.sg)])/\st.S 2=some (.box [.e0])/\st.S 3=some (.box [x])/\st.S o=some (.row 4 (zgg Q))/\NC st.S st.nx o out x) ?_ 32 _ ⟨0,5,0,[zem g],[],.e0,hG,?_⟩
  ·rintro n st ⟨i,o,ep,Q,out,x,hG,v1,v3,v5,v6,v8,v9,v10,ho3,hox,h3x,hS0,hS1,hS2,hS3,hSo,hN⟩;have Z2:=bI v1 <| bI v3 <| bI v5 <| bI v6 <| bI v8 <| bI v9 <| bI v10 <| bI hS0 <| bI hS1 <| bI hS2 <| bI hS3 hSo
   obtain ⟨Fa01,Fa02,Fa03,Fa04⟩:=fr (show 0<st.nx by omega);obtain ⟨Fb01,Fb02,Fb03,Fb04⟩:=fr (show 1<st.nx by omega);obtain ⟨Fc01,Fc02,Fc03,Fc04⟩:=fr (show 2<st.nx by omega);obtain ⟨Fd01,Fd02,Fd03,Fd04⟩:=fr (show 3<st.nx by omega);obtain ⟨Fo01,Fo02,Fo03,Fo04⟩:=fr (show o<st.nx by omega);have N0a:(o=0)=False:=eq_false (by omega);have N0b:(0=o)=False:=eq_false (by omega);have N1a:(o=1)=False:=eq_false (by omega);have N1b:(1=o)=False:=eq_false (by omega);have N2a:(o=2)=False:=eq_false (by omega);have N2b:(2=o)=False:=eq_false (by omega);have N3a:(o=3)=False:=eq_false (by omega);have N3b:(3=o)=False:=eq_false (by omega);have y0:(st.nx=0)=False:=eq_false (by omega);have y1:(st.nx=1)=False:=eq_false (by omega);have y2:(st.nx=2)=False:=eq_false (by omega);have y3:(st.nx=3)=False:=eq_false (by omega);have y4:(st.nx=4)=False:=eq_false (by omega);have y5:(st.nx=5)=False:=eq_false (by omega);have na : ∀ a b:Nat,st.nx+a+b=st.nx+(a+b):=fun a b=>Nat.add_assoc _ _ _;have Z0:=bI Fa01 <| bI Fa02 <| bI Fa03 <| bI Fa04 <| bI Fb01 <| bI Fb02 <| bI Fb03 <| bI Fb04 <| bI Fc01 <| bI Fc02 <| bI Fc03 <| bI Fc04 <| bI Fd01 <| bI Fd02 <| bI Fd03 <| bI Fd04 <| bI Fo01 <| bI Fo02 <| bI Fo03 <| bI Fo04 <| bI N0a <| bI N0b <| bI N1a <| bI N1b <| bI N2a <| bI N2b <| bI N3a <| bI N3b <| bI y0 <| bI y1 <| bI y2 <| bI y3 <| bI y4 <| bI y5 na
   by_cases hlt:i<Q.length
   ·obtain ⟨p,hp⟩ : ∃ p,Q[i]?=some p:=⟨_,bG hlt⟩;have hp':=yci hp;have hps:=ytl hp;have hpo:=hG.ok p (bF hp);obtain ⟨p1,p2,p3,p4⟩:=hpo;have hn1:=hG.n1;have hql:=hG.ql;have hws:=wS hlt (by omega:Q.length<=9223372036854775807);have f1:=y8p q c v g cfg p.r p.b hc hv hg (by omega) hs hgi;have f2:=y8v g p.r t4 p1 (by omega);have f3:=yas (zey g p.r) cfg.la p.b (ytd t4 (by omega));have hr40:zag 40 1=true:=by decide
    have hr41:zag 40 (out.length+1)=true:=by have:=hG.ol; simp [zag]; omega
    have hsn:=zp5 out (zdh g cfg p);simp only [zdh] at hsn;simp only [bnd] at f1 f3;obtain ⟨K,hK⟩ : ∃ K,K=zbh c v g cfg p.r p.b:=⟨_,rfl⟩;obtain ⟨G,hGg⟩ : ∃ G,G=goes c v g cfg p:=⟨_,rfl⟩;have hG2:G=(decide (p.l<cfg.de) && K.2):=by rw [hGg,hK]; rfl
    cases G with
    | false =>
     obtain ⟨m1,hG'⟩:=hG.leaf hp hGg.symm;rw [<- hK] at f1;simp only [slc] at f2 f3
     by_cases hlv:p.l<cfg.de
     ·have hK2:K.2=false:=by simpa [hlv] using hG2.symm
      obtain ⟨K,Kb⟩:=K;simp only at hK2 f1;subst hK2;simp only [cnd] at f1;have hge : ¬ cfg.de<=p.l:=by omega
      rcases hN with ⟨rfl,rfl⟩ | ⟨w,ew,rfl,hw5,hwx,hwo,hSw⟩
      ·simp [-getElem?_pos,zki,Z2,hlt,hp',hps,hge,f1,f2,f3,hws,hr40,Z0];refine zah (n-1) (by omega) ⟨i+1,o,ep,Q,[zdh g cfg p],.ref (st.nx+3) none st.ep 0 1,hG',by simp [v1],by simp [v3],by simp [v5],by simp [v6],by simp [v8],by simp [v9],by simp,ho3,(by simp <;> omega),by simp <;> omega,by simp [Z0,hS0],by simp [Z0,hS1],by simp [Z0,hS2],by simp [Z0],by simp [Z0,hSo],.inr ⟨st.nx+3,st.ep,by simp,by omega,by simp <;> omega,by omega,by simp [nd,zdh,y0,y1,y2,y3,y4,y5]⟩⟩
      ·obtain ⟨Fw01,Fw02,Fw03,Fw04⟩:=fr (show w<st.nx by omega);have M0a:(w=0)=False:=eq_false (by omega);have M0b:(0=w)=False:=eq_false (by omega);have M1a:(w=1)=False:=eq_false (by omega);have M1b:(1=w)=False:=eq_false (by omega);have M2a:(w=2)=False:=eq_false (by omega);have M2b:(2=w)=False:=eq_false (by omega);have M3a:(w=3)=False:=eq_false (by omega);have M3b:(3=w)=False:=eq_false (by omega);have M4a:(w=o)=False:=eq_false (by omega);have M4b:(o=w)=False:=eq_false (by omega);have Z1:=bI Z0 <| bI Fw01 <| bI Fw02 <| bI Fw03 <| bI Fw04 <| bI M0a <| bI M0b <| bI M1a <| bI M1b <| bI M2a <| bI M2b <| bI M3a <| bI M3b <| bI M4a M4b
       simp [-getElem?_pos,zki,Z2,hSw,hlt,hp',hps,hge,f1,f2,f3,hws,hr40,hr41,hsn,Z1];refine zah (n-1) (by omega) ⟨i+1,o,ep,Q,out++[zdh g cfg p],.ref (st.nx+3) none st.ep 0 (out.length+1),hG',by simp [v1],by simp [v3],by simp [v5],by simp [v6],by simp [v8],by simp [v9],by simp,ho3,(by simp <;> omega),by simp <;> omega,by simp [Z1,hS0],by simp [Z1,hS1],by simp [Z1,hS2],by simp [Z1],by simp [Z1,hSo],.inr ⟨st.nx+3,st.ep,by simp,by omega,by simp <;> omega,by omega,by simp [nd,zdh,y0,y1,y2,y3,y4,y5]⟩⟩
     ·obtain ⟨K,Kb⟩:=K;simp only [cnd] at f1;have hge:cfg.de<=p.l:=by omega
      rcases hN with ⟨rfl,rfl⟩ | ⟨w,ew,rfl,hw5,hwx,hwo,hSw⟩
      ·simp [-getElem?_pos,zki,Z2,hlt,hp',hps,hge,f1,f2,f3,hws,hr40,Z0];refine zah (n-1) (by omega) ⟨i+1,o,ep,Q,[zdh g cfg p],.ref (st.nx+3) none st.ep 0 1,hG',by simp [v1],by simp [v3],by simp [v5],by simp [v6],by simp [v8],by simp [v9],by simp,ho3,(by simp <;> omega),by simp <;> omega,by simp [Z0,hS0],by simp [Z0,hS1],by simp [Z0,hS2],by simp [Z0],by simp [Z0,hSo],.inr ⟨st.nx+3,st.ep,by simp,by omega,by simp <;> omega,by omega,by simp [nd,zdh,y0,y1,y2,y3,y4,y5]⟩⟩
      ·obtain ⟨Fw01,Fw02,Fw03,Fw04⟩:=fr (show w<st.nx by omega);have M0a:(w=0)=False:=eq_false (by omega);have M0b:(0=w)=False:=eq_false (by omega);have M1a:(w=1)=False:=eq_false (by omega);have M1b:(1=w)=False:=eq_false (by omega);have M2a:(w=2)=False:=eq_false (by omega);have M2b:(2=w)=False:=eq_false (by omega);have M3a:(w=3)=False:=eq_false (by omega);have M3b:(3=w)=False:=eq_false (by omega);have M4a:(w=o)=False:=eq_false (by omega);have M4b:(o=w)=False:=eq_false (by omega);have Z1:=bI Z0 <| bI Fw01 <| bI Fw02 <| bI Fw03 <| bI Fw04 <| bI M0a <| bI M0b <| bI M1a <| bI M1b <| bI M2a <| bI M2b <| bI M3a <| bI M3b <| bI M4a M4b
       simp [-getElem?_pos,zki,Z2,hSw,hlt,hp',hps,hge,f1,f2,f3,hws,hr40,hr41,hsn,Z1];refine zah (n-1) (by omega) ⟨i+1,o,ep,Q,out++[zdh g cfg p],.ref (st.nx+3) none st.ep 0 (out.length+1),hG',by simp [v1],by simp [v3],by simp [v5],by simp [v6],by simp [v8],by simp [v9],by simp,ho3,(by simp <;> omega),by simp <;> omega,by simp [Z1,hS0],by simp [Z1,hS1],by simp [Z1,hS2],by simp [Z1],by simp [Z1,hSo],.inr ⟨st.nx+3,st.ep,by simp,by omega,by simp <;> omega,by omega,by simp [nd,zdh,y0,y1,y2,y3,y4,y5]⟩⟩
    | true =>
     obtain ⟨m1,hG'⟩:=hG.cut hp hGg.symm;have t7:=ycv t2;have hlv:p.l<cfg.de:=by
      have h9:=hG2.symm;simp only [Bool.and_eq_true,decide_eq_true_eq] at h9;exact h9.1
     have hK2:K.2=true:=by
      have h9:=hG2.symm;simp only [Bool.and_eq_true,decide_eq_true_eq] at h9;exact h9.2
     obtain ⟨kf,kb,X,Y,z,k1,k2,hX,hY,hz,kI⟩:=yt6 (c:=c) (v:=v) (g:=g) (cfg:=cfg) (rows:=p.r) (b:=p.b) (by rw [<- hK]; exact hK2);rw [<- hK] at f1 hG' k1 k2 kI;obtain ⟨⟨kf',kb',ka,kz⟩,Kb⟩:=K;simp only at hK2 k1 k2 kI f1 hG';subst hK2 k1 k2;have hfc:=(bD hX).1;have hfv:=(bD hY).1;have hbx:=(bD hz).1;have hX':=zc3 (q:=q) hX;have hY':=zc3 (q:=q) hY;have hz':=zax hz;have f4:=ylz cfg p.b ⟨kf,kb,ka,kz⟩ kI;have f5:=yl1 cfg kf (by omega);have f6:=y8h (zej cfg kf) p.b (zb1 cfg p.b ⟨kf,kb,ka,kz⟩).1 (zb1 cfg p.b ⟨kf,kb,ka,kz⟩).2.1 (z8o _ _ _).1 (z8o _ _ _).2;have f7:=y8x Y p.r kb (hv Y (bF hY)) (by omega);have hkl:zjd c v cfg p ⟨kf,kb,ka,kz⟩=⟨zcq Y p.r kb,(zfg (zej cfg kf) p.b (zb1 cfg p.b ⟨kf,kb,ka,kz⟩).1 (zb1 cfg p.b ⟨kf,kb,ka,kz⟩).2.1).1,p.l+1⟩:=by
      unfold zjd;simp only [zmq hY,Option.getD_some]
     have hkr:zi5 c v cfg p ⟨kf,kb,ka,kz⟩=⟨zed Y p.r kb,(zfg (zej cfg kf) p.b (zb1 cfg p.b ⟨kf,kb,ka,kz⟩).1 (zb1 cfg p.b ⟨kf,kb,ka,kz⟩).2.1).2,p.l+1⟩:=by
      unfold zi5;simp only [zmq hY,Option.getD_some]
     have hcn:zm2 c ⟨kf,kb,ka,kz⟩ Q.length=⟨kf,z,Q.length,Q.length+1,0⟩:=by
      unfold zm2;simp only [zmq hX,Option.getD_some,zmq hz]
     rw [hkl,hkr,hcn] at hG';clear hkl hkr hcn;generalize zb1 cfg p.b ⟨kf,kb,ka,kz⟩=sv at *;obtain ⟨sl,sr,sb⟩:=sv;simp only at f4 f6 hG';generalize zej cfg kf=sg at *;generalize zfg sg p.b sl sr=bb at *;obtain ⟨⟨ll,lh⟩,⟨rl,rh⟩⟩:=bb;generalize zcq Y p.r kb=L1 at *;generalize zed Y p.r kb=R1 at *;simp only [bnd,cnd] at f1 f4 f6 hG';have hQ:=yoc Q ⟨L1,⟨ll,lh⟩,p.l+1⟩ ⟨R1,⟨rl,rh⟩,p.l+1⟩;have hsn2:=zp5 out ⟨kf,z,Q.length,Q.length+1,0⟩;simp only at hQ hsn2;have wl:=w64 (x:=p.l+1) (by omega) (by omega);have wq:=w64 (x:=(Q.length:Int)+1) (by omega) (by omega);have hge : ¬ cfg.de<=p.l:=by omega
     have hr482:zag 48 2=true:=by decide
     have hr483:zag 48 (Q.length+2)=true:=by simp [zag]; omega
     rcases hN with ⟨rfl,rfl⟩ | ⟨w,ew,rfl,hw5,hwx,hwo,hSw⟩
     ·simp [-getElem?_pos,zki,Z2,hlt,hp',hps,hge,f1,f4,f5,f6,f7,hX',hY',hz',hfc,hfv,hbx,wl,wq,hr482,hr483,hQ,hws,hr40,Z0];refine zah (n-1) (by omega) ⟨i+1,st.nx+9,st.ep,(Q++[⟨L1,⟨ll,lh⟩,p.l+1⟩,⟨R1,⟨rl,rh⟩,p.l+1⟩]),[⟨kf,z,Q.length,Q.length+1,0⟩],.ref (st.nx+7) none st.ep 0 1,hG',by simp [v1],by simp [v3],by simp [v5],by simp [v6],by simp [v8],by simp,by simp,by omega,by simp,by simp <;> omega,by simp [Z0,hS0],by simp [Z0,hS1],by simp [Z0,hS2],by simp [Z0],by simp [Z0],.inr ⟨st.nx+7,st.ep,by simp,by omega,by simp [nd,Fo03,Fo04,Fo01,Fo02,y0,y1,y2,y3,y4,y5]⟩⟩
     ·obtain ⟨Fw01,Fw02,Fw03,Fw04⟩:=fr (show w<st.nx by omega);have M0a:(w=0)=False:=eq_false (by omega);have M0b:(0=w)=False:=eq_false (by omega);have M1a:(w=1)=False:=eq_false (by omega);have M1b:(1=w)=False:=eq_false (by omega);have M2a:(w=2)=False:=eq_false (by omega);have M2b:(2=w)=False:=eq_false (by omega);have M3a:(w=3)=False:=eq_false (by omega);have M3b:(3=w)=False:=eq_false (by omega);have M4a:(w=o)=False:=eq_false (by omega);have M4b:(o=w)=False:=eq_false (by omega);have Z1:=bI Z0 <| bI Fw01 <| bI Fw02 <| bI Fw03 <| bI Fw04 <| bI M0a <| bI M0b <| bI M1a <| bI M1b <| bI M2a <| bI M2b <| bI M3a <| bI M3b <| bI M4a M4b
      simp [-getElem?_pos,zki,Z2,hSw,hlt,hp',hps,hge,f1,f4,f5,f6,f7,hX',hY',hz',hfc,hfv,hbx,wl,wq,hr482,hr483,hQ,hws,hr40,hr41,hsn2,Z1];refine zah (n-1) (by omega) ⟨i+1,st.nx+9,st.ep,(Q++[⟨L1,⟨ll,lh⟩,p.l+1⟩,⟨R1,⟨rl,rh⟩,p.l+1⟩]),(out++[⟨kf,z,Q.length,Q.length+1,0⟩]),.ref (st.nx+7) none st.ep 0 (out.length+1),hG',by simp [v1],by simp [v3],by simp [v5],by simp [v6],by simp [v8],by simp,by simp,by omega,by simp,by simp <;> omega,by simp [Z1,hS0],by simp [Z1,hS1],by simp [Z1,hS2],by simp [Z1],by simp [Z1],.inr ⟨st.nx+7,st.ep,by simp,by omega,by simp [nd,Fo03,Fo04,Fo01,Fo02,y0,y1,y2,y3,y4,y5]⟩⟩
   ·have hiq:i=Q.length:=by have:=hG.le; omega
    have hgo:=hG.go;rw [ydq (List.getElem?_eq_none (by omega)),<- hR'] at hgo;subst hgo;have hol:=hG.ol;rcases hN with ⟨rfl,rfl⟩ | ⟨w,ew,rfl,hw5,hwx,hwo,hSw⟩
    ·simp [-getElem?_pos,zki,Z2,hlt,Z0]
    ·obtain ⟨Fw01,Fw02,Fw03,Fw04⟩:=fr (show w<st.nx by omega);have M0a:(w=0)=False:=eq_false (by omega);have M0b:(0=w)=False:=eq_false (by omega);have M1a:(w=1)=False:=eq_false (by omega);have M1b:(1=w)=False:=eq_false (by omega);have M2a:(w=2)=False:=eq_false (by omega);have M2b:(2=w)=False:=eq_false (by omega);have M3a:(w=3)=False:=eq_false (by omega);have M3b:(3=w)=False:=eq_false (by omega);have M4a:(w=o)=False:=eq_false (by omega);have M4b:(o=w)=False:=eq_false (by omega);have Z1:=bI Z0 <| bI Fw01 <| bI Fw02 <| bI Fw03 <| bI Fw04 <| bI M0a <| bI M0b <| bI M1a <| bI M1b <| bI M2a <| bI M2b <| bI M3a <| bI M3b <| bI M4a M4b
     simp [-getElem?_pos,zki,Z2,hSw,hlt,Z1]
  ·refine ⟨by simp,by simp,by simp,by simp,by simp,by simp,by simp,by simp,by simp,by simp,by simp,by simp,by simp,by simp,by simp [hroot],.inl ⟨rfl,rfl⟩⟩
theorem yd9 {c v:List (List Int)} {g:List Int} {cfg:Cfg} : ∀ (n:Nat) (q:List Pnd) (i:Nat) (out:List Nd),(zdv c v g cfg n q i out).length<=out.length+n
 | 0,q,i,out=>by simp [zdv]
 | n+1,q,i,out=>by
  rw [zdv];split
  ·omega
  ·split
   ·refine Nat.le_trans (yd9 n _ _ _) ?_;simp; omega
   ·refine Nat.le_trans (yd9 n _ _ _) ?_;simp; omega
theorem ybr (c v:List (List Int)) (g:List Int) (cfg:Cfg):(zcs c v g cfg).1.length<=32:=by
 unfold zcs;split
 ·have:=yd9 (c:=c) (v:=v) (g:=g) (cfg:=cfg) 32 [zem g] 0 [];simpa using this
 ·simp
theorem y80 {q:Bool} {f:Nat} {cs:List PV} {p:List Int->Bool} (M:List (List Int)) (hl:M.length<=9223372036854775807) (hm:zad T f=[]) (hp : ∀ t∈M,RUN T f [.sl 1 (zab t),.fptr cs 0]=some ([bv (p t)],[])) :
  RUN T zse [.sl 1 (rws q M),.fn f [.fptr cs 0]]=some ([iv (zg8 p M)],[]):=by
 refine zae rfl rfl ?_;simp [z31,zvr];refine zan (fun n st => ∃ i:Nat,i+n=M.length/\st.V 0 = .sl 1 (rws q M)/\st.V 1 = .fn f [.fptr cs 0]/\st.V 8=iv i/\st.V 7=iv M.length/\∀ (j:Nat) (x:List Int),j<i->M[j]?=some x->p x=false) ?_ M.length _ ⟨0,by simp⟩;rintro n st ⟨i,hi,h0,h1,h8,h7,hj⟩;simp [ye3,h0,h1,h8,h7];refine zat (fun h => ?_) (fun h => ?_)
 ·simp at h;obtain ⟨x,hx⟩ : ∃ x,M[i]?=some x:=⟨_,bG h⟩;have hw:=wS h hl;have hx':=zc3 (q:=q) hx;have hpx:=hp x (bF hx);simp [-getElem?_pos,h0,h1,h8,h7,hx',hw,hm,hpx,h];refine zat (fun b0 => ?_) (fun b0 => ?_) <;> (try simp at b0) <;> simp [-getElem?_pos,b0,h0,h1,h8,h7,hx',hw]
  all_goals first
   | exact (zxw hx b0 hj).symm
   | exact zah (n-1) (by omega) ⟨i+1,by omega,by simp [h0],by simp [h1],by simp,by simp [h7],z9d hj hx b0⟩
 ·simp at h;simp [h];exact (zyo fun j x hl hx=>hj j x (by omega) hx).symm
theorem y81 {q:Bool} {f:Nat} {cs:List PV} {p:List Int->Bool} (M:List (List Int)) (hl:M.length<=9223372036854775807) (hm:zad T f=[]) (hp : ∀ t∈M,RUN T f [.sl 1 (zab t),.fptr cs 0]=some ([bv (p t)],[])) :
  RUN T zrj [.sl 1 (rws q M),.fn f [.fptr cs 0]]=some ([bv (M.any p)],[]):=by
 refine zae rfl rfl ?_;have e:=y80 (q:=q) M hl hm hp;simp [z1i,zvr,e,z8x]
def ze6 (n:Nat) (r:List Int):Bool:=decide ((r.length:Int)=n) && r.all zbe
def zct (t:Ta):Bool:=zaj t.ns.length 1 4 && zgo (t.ns++[t.nm]) && zaj t.rw.length 1 40 && decide ((t.lb.length:Int)=t.rw.length) && t.lb.all zbe && t.rw.all (ze6 t.ns.length)
theorem ysy {L:List ByteArray} {x:ByteArray} {i:Nat} (h:i<L.length):nmB (L++[x]) i=nmB L i:=by
 obtain ⟨y,hy⟩ : ∃ y,L[i]?=some y:=⟨_,bG h⟩;have hy2:(L++[x])[i]?=some y:=by rw [List.getElem?_append_left h]; exact hy
 rw [zyz hy,zyz hy2,List.take_append_of_le_length (by omega)]
theorem qh7 {L:List ByteArray} {x:ByteArray}:nmB (L++[x]) L.length=(zd6 x && !zf7 L x):=by
 rw [zyz (x:=x) (by simp)];simp
theorem qe8 (L:List ByteArray) (x:ByteArray):zgo (L++[x])=(zgo L && (zd6 x && !zf7 L x)):=by
 unfold zgo;rw [show (L++[x]).length=L.length+1 by simp,List.range_succ,List.all_append];simp only [List.all_cons,List.all_nil,Bool.and_true];rw [qh7]
 congr 1
 rw [Bool.eq_iff_iff,List.all_eq_true,List.all_eq_true];constructor
 ·intro h j hj; rw [<- ysy (x:=x) (List.mem_range.mp hj)]; exact h j hj
 ·intro h j hj; rw [ysy (List.mem_range.mp hj)]; exact h j hj
theorem qhd (l:List ByteArray):zcf (za5 l)=true:=by
 induction l with
 | nil=>rfl
 | cons x l ih=>simpa [za5,zcf] using ih
theorem yc9 (l:List Int):zcf (zab l)=true:=by
 induction l with
 | nil=>rfl
 | cons x l ih=>simpa [zab,zcf] using ih
theorem ymk (l:List Nd):zcf (l.map nd)=true:=by
 induction l with
 | nil=>rfl
 | cons x l ih=>simpa [nd,zcf] using ih
theorem y82 (l:List ByteArray) (hl:l.length<=1048576):RUN T zqp [.sl 1 (za5 l)]=some ([.own 1 (za5 l)],[]) :=
 ycr yfy (qhd l) (by simp [zag]; omega)
theorem y83 (l:List Int) (hl:l.length<=1048576):RUN T zqq [.sl 1 (zab l)]=some ([.own 1 (zab l)],[]) :=
 ycr yfz (yc9 l) (by simp [zag]; omega)
theorem y84 (l:List Nd) (hl:l.length<=1048576):RUN T zsf [.sl 5 (l.map nd)]=some ([.own 5 (l.map nd)],[]) :=
 ycr yik (ymk l) (by simp [zag]; omega)
theorem y85 (q:Bool) (t:Ta) (r:List Int) (hr:r.length<=9223372036854775807):RUN T zne [.sl 1 (zab r),.fptr [.sl 1 (za5 t.ns),.v (.string t.nm),.sl 1 (rws q t.rw),.sl 1 (zab t.lb)] 0]=some ([bv (!ze6 t.ns.length r)],[]):=by
 have e:=yad r hr;unfold ze6;generalize r.all zbe=a at *;refine zae rfl rfl ?_;rcases Classical.propComplete ((r.length:Int)=t.ns.length) with h | h <;> cases a <;> simp [-getElem?_pos,z1k,z1l,e,h]
theorem qbh (l:List ByteArray) (x:ByteArray):za5 l++[[.v (.string x)]]=za5 (l++[x]):=by simp [za5]
theorem yl2 (q:Bool) (t:Ta) (ht:TaL 1048576 t):RUN T zna [taS q t]=some ([bv (zct t)],[]):=by
 have h0:=y82 t.ns ht.ns;have h1:=y7h (t.ns++[t.nm]) (by have:=ht.ns; simp; omega) (fun x hx=>by
  rcases List.mem_append.mp hx with e | e
  ·exact Nat.le_trans (ht.ss x e) (by omega)
  ·simp at e; subst e; exact Nat.le_trans ht.nm (by omega))
 have h2:=yad t.lb (Nat.le_trans ht.lb (by omega));have h3:=y81 (q:=q) (f:=zne) (cs:=[.sl 1 (za5 t.ns),.v (.string t.nm),.sl 1 (rws q t.rw),.sl 1 (zab t.lb)]) (p:=fun r => !ze6 t.ns.length r) t.rw (Nat.le_trans ht.rw (by omega)) (by simp) (fun r hr=>y85 q t r (Nat.le_trans (ht.rr r hr) (by omega)));have e3:(!(t.rw.any fun r => !ze6 t.ns.length r))=t.rw.all (ze6 t.ns.length):=by simp [List.any_eq_not_all_not]
 have g1:=zcu t.ns.length 1 4;have g2:=zcu t.rw.length 1 40;have hsn:=qbh t.ns t.nm;have hns:=ht.ns;have hr1:zag 16 1=true:=by decide
 have hr2:zag 16 (t.ns.length+1)=true:=by simp [zag]; omega
 have Z0:=bI g1 <| bI g2 <| bI h0 <| bI h1 <| bI h2 <| bI h3 <| bI hsn <| bI hr1 hr2
 unfold zct;rw [<- e3];clear e3;generalize zgo (t.ns++[t.nm])=a1 at *;generalize t.lb.all zbe=a2 at *;generalize (t.rw.any fun r => !ze6 t.ns.length r)=a3 at *;generalize zaj t.ns.length 1 4=b1 at *;generalize zaj t.rw.length 1 40=b2 at *;refine zae rfl rfl ?_;cases b1 with
 | false=>simp [-getElem?_pos,zkd,zvo,-zbm,Z0]
 | true =>
 cases a1 with
 | false=>simp [-getElem?_pos,zkd,zvo,-zbm,Z0]
 | true =>
 cases b2 with
 | false=>simp [-getElem?_pos,zkd,zvo,-zbm,Z0]
 | true =>
 rcases Classical.propComplete ((t.lb.length:Int)=t.rw.length) with h | h
 ·cases a2 with
  | false=>simp [-getElem?_pos,zkd,zvo,-zbm,Z0,h]
  | true=>cases a3 <;> simp [-getElem?_pos,zkd,zvo,-zbm,Z0,h]
 ·simp [-getElem?_pos,zkd,zvo,-zbm,Z0,h]
abbrev taB (q:Bool) (t:Ta):List PV:=[.sl 1 (za5 t.ns),.v (.string t.nm),.sl 1 (rws q t.rw),.sl 1 (zab t.lb)]
theorem qdv (q:Bool) (t:Ta) (ht:TaL 9223372036854775807 t) {Q:Ex->St->Prop} {st:St} (h1:st.V 1 = .ptr 0 none 0 0 0) (h3:st.V 3=iv t.ns.length) (h4:st.V 4=iv (0:Nat)) (hS:st.S 0=some (.box (taB q t)))
  (hr:zgo t.ns=false->∀ s:St,s.V 2=bv false->Q .ret s) (he:zgo t.ns=true->∀ s:St,s.V 1 = .ptr 0 none 0 0 0->s.V 3=iv t.ns.length->s.S 0=some (.box (taB q t))->Q (.exit 0) s):W (zad T) (RUN T) (.loop ztk) st Q:=by
 refine zan (fun n st => ∃ i:Nat,i+n=t.ns.length/\(∀ j,j<i->nmB t.ns j=true)/\st.V 1 = .ptr 0 none 0 0 0/\st.V 3=iv t.ns.length/\st.V 4=iv i/\st.S 0=some (.box (taB q t))) ?_ t.ns.length _ ⟨0,by omega,fun _ h=>by omega,h1,h3,h4,hS⟩;clear h1 h3 h4 hS;rintro n st ⟨i,hi,hj,v1,v3,v4,hS⟩
 by_cases h:i<t.ns.length
 ·obtain ⟨x,hx⟩ : ∃ x,t.ns[i]?=some x:=⟨_,bG h⟩;have hx':=zvi hx;have hw:=wS h ht.ns;have hml:=ht.ns;have hN:=yld x (ht.ss x (bF hx));have hC:=yle (t.ns.take i) x (by simp; omega);have hc:=zyz hx;have hil:i<=t.ns.length:=by omega
  cases a1:zd6 x with
  | false =>
   rw [a1] at hN hc;simp [-getElem?_pos,ztk,v1,v3,v4,hS,hx',h,hw,hN];exact hr (zgy h (by rw [hc]; rfl)) _ (by simp)
  | true =>
   rw [a1] at hN hc;cases a2:zf7 (t.ns.take i) x with
   | true =>
    rw [a2] at hC hc;simp [-getElem?_pos,ztk,v1,v3,v4,hS,hx',h,hw,hN,hC,hil,z8f];exact hr (zgy h (by rw [hc]; rfl)) _ (by simp)
   | false =>
    rw [a2] at hC hc;simp [-getElem?_pos,ztk,v1,v3,v4,hS,hx',h,hw,hN,hC,hil,z8f];exact zah (n-1) (by omega) ⟨i+1,by omega,zhm hj (by rw [hc]; rfl),by simp [v1,v3,hS]⟩
 ·simp [-getElem?_pos,ztk,v3,v4,h];exact he (zuv fun j hj'=>hj j (by omega)) _ (by simp [v1]) (by simp [v3]) (by simp [hS])
theorem qd9 (q:Bool) (t:Ta) (ht:TaL 9223372036854775807 t) {r:List Int} {j:Nat} (hj:t.rw[j]?=some r) (hl:r.length=t.ns.length) {Q:Ex->St->Prop} {st:St} (h1:st.V 1 = .ptr 0 none 0 0 0) (h3:st.V 3=iv t.ns.length) (h5:st.V 5=iv j) (h6:st.V 6=iv (0:Nat)) (hS:st.S 0=some (.box (taB q t)))
  (hr:r.all zbe=false->∀ s:St,s.V 2=bv false->Q .ret s) (he:r.all zbe=true->∀ s:St,s.V 1 = .ptr 0 none 0 0 0->s.V 3=iv t.ns.length->s.V 5=iv j->s.S 0=some (.box (taB q t))->Q (.exit 4) s):W (zad T) (RUN T) (.loop zvp) st Q:=by
 have hj':=zc3 (q:=q) hj;have hjl:=(bD hj).1;refine zan (fun n st => ∃ i:Nat,i+n=r.length/\(∀ (k:Nat) (x:Int),k<i->r[k]?=some x->zbe x=true)/\st.V 1 = .ptr 0 none 0 0 0/\st.V 3=iv t.ns.length/\st.V 5=iv j/\st.V 6=iv i/\st.S 0=some (.box (taB q t))) ?_ r.length _ ⟨0,by omega,fun _ _ h=>by omega,h1,h3,h5,h6,hS⟩;clear h1 h3 h5 h6 hS;rintro n st ⟨i,hi,hk,v1,v3,v5,v6,hS⟩
 by_cases h:i<t.ns.length
 ·obtain ⟨x,hx⟩ : ∃ x,r[i]?=some x:=⟨_,bG (by omega)⟩;have hx':=zax hx;have hw:=wS h ht.ns;have hir:i<r.length:=by omega
  have hD:=zo8 x;cases a1:zbe x with
  | false =>
   rw [a1] at hD;simp [-getElem?_pos,zvp,-zo8,v1,v3,v5,v6,hS,hj',hjl,hir,hx',h,hw,hD];exact hr (zy0 hx a1) _ (by simp)
  | true =>
   rw [a1] at hD;simp [-getElem?_pos,zvp,-zo8,v1,v3,v5,v6,hS,hj',hjl,hir,hx',h,hw,hD];exact zah (n-1) (by omega) ⟨i+1,by omega,zla (P:=fun _ x=>zbe x=true) hk hx a1,by simp [v1,v3,v5,hS]⟩
 ·simp [-getElem?_pos,zvp,v3,v6,h];exact he (zyw fun k a h1 h2=>hk k a (by omega) h2) _ (by simp [v1]) (by simp [v3]) (by simp [v5]) (by simp [hS])
theorem yqd {M:List (List Int)} {p:List Int->Bool} {j:Nat} {a:List Int} (h1:M[j]?=some a) (h2:p a=false):M.all p=false:=by
 cases e:M.all p with
 | false=>rfl
 | true=>rw [List.all_eq_true.mp e a (bF h1)] at h2; cases h2
theorem qf8 {M:List (List Int)} {p:List Int->Bool} (h : ∀ (j:Nat) (a:List Int),j<M.length->M[j]?=some a->p a=true):M.all p=true:=by
 rw [List.all_eq_true];intro x hx;obtain ⟨j,hj⟩:=bH hx;exact h j x (bD hj).1 hj
theorem qdz (q:Bool) (t:Ta) (ht:TaL 9223372036854775807 t) (hyl:t.lb.length=t.rw.length) {Q:Ex->St->Prop} {st:St} (h1:st.V 1 = .ptr 0 none 0 0 0) (h3:st.V 3=iv t.ns.length) (h5:st.V 5=iv (0:Nat)) (hS:st.S 0=some (.box (taB q t)))
  (hr:(t.lb.all zbe && t.rw.all (ze6 t.ns.length))=false->∀ s:St,s.V 2=bv false->Q .ret s) (he:(t.lb.all zbe && t.rw.all (ze6 t.ns.length))=true->∀ s:St,Q (.exit 2) s):W (zad T) (RUN T) (.loop ztl) st Q:=by
 refine zan (fun n st => ∃ i:Nat,i+n=t.rw.length/\(∀ (k:Nat) (x:Int),k<i->t.lb[k]?=some x->zbe x=true)/\(∀ (k:Nat) (x:List Int),k<i->t.rw[k]?=some x->ze6 t.ns.length x=true)/\st.V 1 = .ptr 0 none 0 0 0/\st.V 3=iv t.ns.length/\st.V 5=iv i/\st.S 0=some (.box (taB q t))) ?_ t.rw.length _ ⟨0,by omega,fun _ _ h=>by omega,fun _ _ h=>by omega,h1,h3,h5,hS⟩;clear h1 h3 h5 hS;rintro n st ⟨i,hi,hk,hk2,v1,v3,v5,hS⟩
 by_cases h:i<t.rw.length
 ·obtain ⟨r,hx⟩ : ∃ x,t.rw[i]?=some x:=⟨_,bG h⟩;obtain ⟨y,hy⟩ : ∃ x,t.lb[i]?=some x:=⟨_,bG (by omega)⟩;have hx':=zc3 (q:=q) hx;have hy':=zax hy;have hw:=wS h ht.rw;have hil:i<t.lb.length:=by omega
  have hD:=zo8 y;have hrb:ze6 t.ns.length r=(decide ((r.length:Int)=t.ns.length) && r.all zbe):=rfl;rcases Classical.propComplete ((r.length:Int)=t.ns.length) with e1 | e1
  ·cases a1:zbe y with
   | false =>
    rw [a1] at hD;simp [-getElem?_pos,ztl,-zo8,v1,v3,v5,hS,hx',hy',h,hil,hD,e1];exact hr (by rw [zy0 hy a1]; rfl) _ (by simp)
   | true =>
    rw [a1] at hD;have e2:(r.length:Int)=t.ns.length:=by rw [e1]; trivial
    simp [-getElem?_pos,ztl,-zo8,v1,v3,v5,hS,hx',hy',h,hil,hD,e1];refine qd9 q t ht hx (by omega) (by simp [v1]) (by simp [v3]) (by simp [v5]) (by simp) (by simp [hS]) (fun no s h2 => ?_) (fun ok s w1 w3 w5 wS => ?_)
    ·simp;refine hr ?_ _ (by simp [h2]);rw [yqd hx (by rw [hrb,no]; simp)]; simp
    ·simp [-getElem?_pos,w1,w3,w5,wS,hw];exact zah (n-1) (by omega) ⟨i+1,by omega,zla (P:=fun _ x=>zbe x=true) hk hy a1,(fun k x h1 h2=>by
      rcases Nat.lt_or_ge k i with h3 | h3
      ·exact hk2 k x h3 h2
      ·have:k=i:=by omega
       subst this;rw [hx] at h2; cases h2;rw [hrb,ok,decide_eq_true e2]; rfl),by simp [w1,w3,wS]⟩
  ·simp [-getElem?_pos,ztl,-zo8,v1,v3,v5,hS,hx',hy',h,hil,e1];refine hr ?_ _ (by simp);rw [yqd hx (by rw [hrb]; simp [e1])]; simp
 ·simp [-getElem?_pos,ztl,v1,v5,hS,h];exact he (by rw [zyw fun k a h1 h2=>hk k a (by omega) h2,qf8 fun k a h1 h2=>hk2 k a (by omega) h2]; rfl) _
theorem yax (q:Bool) (t:Ta) (ht:TaL 9223372036854775807 t):RUN T zle [taS q t]=some ([bv (zct t)],[]):=by
 have g1:=zba t.ns.length 1 4;have g2:=zba t.rw.length 1 40;have g3:=yld t.nm ht.nm;have g4:=yle t.ns t.nm ht.ns;have mod:zct t=(zaj t.ns.length 1 4 && (zgo t.ns && (zd6 t.nm && !zf7 t.ns t.nm)) && zaj t.rw.length 1 40 && decide ((t.lb.length:Int)=t.rw.length) && t.lb.all zbe && t.rw.all (ze6 t.ns.length)):=by
  unfold zct;rw [qe8]
 rw [mod];clear mod;generalize zaj t.ns.length 1 4=b1 at *;generalize zaj t.rw.length 1 40=b2 at *;generalize zd6 t.nm=b3 at *;generalize zf7 t.ns t.nm=b4 at *;obtain ⟨R,hR⟩ : ∃ R,R=(b1 && (zgo t.ns && (b3 && !b4)) && b2 && decide ((t.lb.length:Int)=t.rw.length) && t.lb.all zbe && t.rw.all (ze6 t.ns.length)):=⟨_,rfl⟩;rw [<- hR];refine zae rfl rfl ?_;cases b1 with
 | false =>
  have hR:R=false:=by rw [hR]; simp
  subst hR;simp [-getElem?_pos,zj5,zvo,-za0,g1]
 | true =>
 cases b3 with
 | false =>
  have hR:R=false:=by rw [hR]; simp
  subst hR;simp [-getElem?_pos,zj5,zvo,-za0,g1,g3]
 | true =>
 cases b4 with
 | true =>
  have hR:R=false:=by rw [hR]; simp
  subst hR;simp [-getElem?_pos,zj5,zvo,-za0,g1,g3,g4]
 | false =>
 cases b2 with
 | false =>
  have hR:R=false:=by rw [hR]; simp
  subst hR;simp [-getElem?_pos,zj5,zvo,-za0,g1,g2,g3,g4]
 | true =>
 by_cases e2:(t.lb.length:Int)=t.rw.length
 ·have e1:((t.lb.length:Int)=t.rw.length)=True:=eq_true e2;rw [decide_eq_true e2] at hR;simp [-getElem?_pos,zj5,zvo,-za0,g1,g2,g3,g4,e1];refine qdv q t ht (by simp) (by simp) (by simp) (by simp) (fun no s h2 => ?_) (fun ok s u1 u3 uS => ?_)
  ·have hR:R=false:=by rw [hR,no]; simp
   simp [h2,hR]
  ·simp [-getElem?_pos,u1,u3,uS];refine qdz q t ht (by omega) (by simp [u1]) (by simp [u3]) (by simp) (by simp [uS]) (fun no s h2 => ?_) (fun ok2 s => ?_)
   ·have hR:R=false:=by rw [hR,ok]; generalize t.lb.all zbe=a at *; generalize t.rw.all (ze6 t.ns.length)=b at *; cases a <;> cases b <;> first | rfl | cases no
    simp [h2,hR]
   ·have hR:R=true:=by rw [hR,ok]; generalize t.lb.all zbe=a at *; generalize t.rw.all (ze6 t.ns.length)=b at *; cases a <;> cases b <;> first | rfl | cases ok2
    simp [hR]
 ·have e1:((t.lb.length:Int)=t.rw.length)=False:=eq_false e2;have hR:R=false:=by rw [hR,decide_eq_false e2]; simp
  subst hR;simp [-getElem?_pos,zj5,zvo,-za0,g1,g2,g3,g4,e1]
theorem yl3 (t:List Nd) (hl:t.length<=1048576):RUN T zng [.agg [.sl 5 (t.map nd)]]=some ([.agg [.own 5 (t.map nd)]],[]):=by
 have e:=y84 t hl;refine zae rfl rfl ?_;simp [-getElem?_pos,z1o,zh0,e]
theorem yl4 (t:List Nd) (hl:t.length<=1048576):RUN T znh [.agg [.sl 5 (t.map nd)]]=some ([.agg [.own 5 (t.map nd)]],[]):=by
 have h0:zag 40 0=true:=by decide
 have h1:zag 40 t.length=true:=by simp [zag]; omega
 have h2:=ymz t;refine zae rfl rfl ?_;simp [-getElem?_pos,z1s,zh0,h0,h1,h2]
theorem y86 (q:Bool) (M:List (List Nd)) (hl:M.length<=1048576) (ht : ∀ t∈M,t.length<=1048576):RUN T zqr [.sl 1 (trs q M)]=some ([.own 1 (trs true M)],[]):=by
 have hr0:zag 24 0=true:=by decide
 have hr1:zag 24 1=true:=by decide
 refine zae rfl rfl ?_;simp [-getElem?_pos,zz7,zzy,hr0];refine zan (fun n st => ∃ (i o e:Nat),i+n=M.length/\st.V 3 = .ref o none e 0 i/\st.V 7 = .sl 1 (trs q M)/\st.V 8=iv M.length/\st.V 9=iv i/\o<st.nx/\st.S o=some (.row 1 (trs true (M.take i)))) ?_ M.length _ ⟨0,0,0,by omega,by simp [trs]⟩;rintro n st ⟨i,o,ep,hi,v3,v7,v8,v9,hox,hSo⟩;obtain ⟨x1,x2,x3,x4⟩:=fr hox;have na : ∀ a b:Nat,st.nx+a+b=st.nx+(a+b):=fun a b=>Nat.add_assoc _ _ _
 by_cases h:i<M.length
 ·obtain ⟨t,hx⟩ : ∃ t,M[i]?=some t:=⟨_,bG h⟩;have hx':=zy4 (q:=q) hx;have hw:=wS h (by omega:M.length<=9223372036854775807);have e1:=yl3 t (ht t (bF hx));have hr24:zag 24 (i+1)=true:=by simp [zag]; omega
  have hsn:trs true (M.take i)++[[.own 5 (t.map nd)]]=trs true (M.take (i+1)):=by rw [yuc,List.take_succ,hx]; rfl
  have hml:(M.take i).length=i:=by simp; omega
  simp [-getElem?_pos,z9p,v3,v7,v8,v9,hSo,h,hx',hw,e1,hr1,hr24,hsn,hml,x1,x2,x3,x4,na];exact zah (n-1) (by omega) ⟨i+1,st.nx+3,st.ep,by omega,by simp; omega,by simp [v7,v8]⟩
 ·have e:i=M.length:=by omega
  subst e;rw [List.take_length] at hSo;simp [-getElem?_pos,z9p,v3,v8,v9,hSo,h]
theorem y87 (q:Bool) (M:List (List Nd)) (hl:M.length<=1048576) (ht : ∀ t∈M,t.length<=1048576):RUN T zqt [.sl 1 (trs q M)]=some ([.own 1 (trs true M)],[]):=by
 have hr0:zag 24 0=true:=by decide
 have hr1:zag 24 1=true:=by decide
 refine zae rfl rfl ?_;simp [-getElem?_pos,z0b,zzy,hr0];refine zan (fun n st => ∃ (i o e:Nat),i+n=M.length/\st.V 0 = .sl 1 (trs q M)/\st.V 3 = .ref o none e 0 i/\st.V 4=iv i/\o<st.nx/\st.S o=some (.row 1 (trs true (M.take i)))) ?_ M.length _ ⟨0,0,0,by omega,by simp [trs]⟩;rintro n st ⟨i,o,ep,hi,v0,v3,v4,hox,hSo⟩;obtain ⟨x1,x2,x3,x4⟩:=fr hox;have na : ∀ a b:Nat,st.nx+a+b=st.nx+(a+b):=fun a b=>Nat.add_assoc _ _ _
 by_cases h:i<M.length
 ·obtain ⟨t,hx⟩ : ∃ t,M[i]?=some t:=⟨_,bG h⟩;have hx':=zy4 (q:=q) hx;have hw:=wS h (by omega:M.length<=9223372036854775807);have e1:=yl4 t (ht t (bF hx));have hr24:zag 24 (i+1)=true:=by simp [zag]; omega
  have hsn:trs true (M.take i)++[[.own 5 (t.map nd)]]=trs true (M.take (i+1)):=by rw [yuc,List.take_succ,hx]; rfl
  have hml:(M.take i).length=i:=by simp; omega
  simp [-getElem?_pos,z9q,v0,v3,v4,hSo,h,hx',hw,e1,hr1,hr24,hsn,hml,x1,x2,x3,x4,na];exact zah (n-1) (by omega) ⟨i+1,st.nx+2,st.ep,by omega,by simp [v0],by simp; omega,by simp⟩
 ·have e:i=M.length:=by omega
  subst e;rw [List.take_length] at hSo;simp [-getElem?_pos,z9q,v0,v3,v4,hSo,h]
def zjp (c:Cfg) (x:Nd):Nd:=if x.f = -1 then ⟨x.f,x.c,x.l,x.r,(shr x.v c).1⟩ else x
def zmt (c:Cfg) (x:Nd):Bool := !decide (x.f = -1) || (shr x.v c).2
def zgs (c:Cfg) (t:List Nd):List Nd×Bool:=if t.all (zmt c)=true then (t.map (zjp c),true) else ([],false)
theorem ys6 : ∀ (t:List Nd) (i:Int) (j:Int),j∈lvs t i↔∃ (k:Nat) (x:Nd),j=i+k/\t[k]?=some x/\x.f = -1
 | [],i,j=>by simp [lvs]
 | x::xs,i,j=>by
  have ih:=ys6 xs (i+1) j;have key:(∃ (k:Nat) (y:Nd),j=i+k/\(x::xs)[k]?=some y/\y.f = -1)↔(j=i/\x.f = -1)\/∃ (k:Nat) (y:Nd),j=i+1+k/\xs[k]?=some y/\y.f = -1:=by
   constructor
   ·rintro ⟨k,y,h1,h2,h3⟩;cases k with
    | zero=>simp at h2; subst h2; exact .inl ⟨by omega,h3⟩
    | succ k=>exact .inr ⟨k,y,by omega,by simpa using h2,h3⟩
   ·rintro (⟨h1,h2⟩ | ⟨k,y,h1,h2,h3⟩)
    ·exact ⟨0,x,by omega,rfl,h2⟩
    ·exact ⟨k+1,y,by omega,by simpa using h2,h3⟩
  rw [key,<- ih];simp only [lvs];split
  ·rename_i hf;rw [List.mem_cons];constructor
   ·rintro (h | h)
    ·exact .inl ⟨h,hf⟩
    ·exact .inr h
   ·rintro (h | h)
    ·exact .inl h.1
    ·exact .inr h
  ·rename_i hf;constructor
   ·exact .inr
   ·rintro (h | h)
    ·exact absurd h.2 hf
    ·exact h
def zu9 (c:Cfg) (t C:List Nd) (p:Nat->Prop):Prop:=C.length=t.length/\∀ (j:Nat) (x:Nd),t[j]?=some x->(p j->C[j]?=some (zjp c x))/\(¬ p j->C[j]?=some x)
theorem yqi {c:Cfg} {t C:List Nd} {p:Nat->Prop} (h:zu9 c t C p) (hp : ∀ (j:Nat) (x:Nd),t[j]?=some x->x.f = -1->p j):C=t.map (zjp c):=by
 refine List.ext_getElem? fun j => ?_;rcases Nat.lt_or_ge j t.length with hj | hj
 ·obtain ⟨x,hx⟩ : ∃ x,t[j]?=some x:=⟨_,bG hj⟩;obtain ⟨h1,h2⟩:=h.2 j x hx;rw [List.getElem?_map,hx,Option.map_some];rcases Classical.em (p j) with hpj | hpj
  ·exact h1 hpj
  ·rw [h2 hpj]
   by_cases hf:x.f = -1
   ·exact absurd (hp j x hx hf) hpj
   ·unfold zjp; rw [if_neg hf]
 ·rw [List.getElem?_eq_none (by rw [h.1]; omega),List.getElem?_eq_none (by simpa using hj)]
theorem ypu {c:Cfg} {t C:List Nd} {p:Nat->Prop} {i:Nat} {x:Nd} (h:zu9 c t C p) (hx:t[i]?=some x) (hf:x.f = -1):zu9 c t (C.set i ⟨x.f,x.c,x.l,x.r,(shr x.v c).1⟩) (fun j=>p j\/j=i):=by
 refine ⟨by rw [List.length_set,h.1],fun j y hy => ?_⟩;obtain ⟨h1,h2⟩:=h.2 j y hy;have hi:=(bD hx).1
 by_cases e:j=i
 ·subst e;rw [hx] at hy; cases hy;refine ⟨fun _ => ?_,fun hn=>absurd (.inr rfl) hn⟩;rw [List.getElem?_set_self (by rw [h.1]; exact hi)];unfold zjp; rw [if_pos hf]
 ·rw [List.getElem?_set_ne (fun h=>e h.symm)];exact ⟨fun hp=>h1 (hp.resolve_right e),fun hn=>h2 fun hp=>hn (.inl hp)⟩
theorem yrh {c:Cfg} {t C:List Nd} {p:Nat->Prop} {i:Nat} {x:Nd} (h:zu9 c t C p) (hx:t[i]?=some x) : ∃ v,C[i]?=some ⟨x.f,x.c,x.l,x.r,v⟩:=by
 obtain ⟨h1,h2⟩:=h.2 i x hx;rcases Classical.em (p i) with hp | hp
 ·rw [h1 hp];unfold zjp;split
  ·exact ⟨_,rfl⟩
  ·exact ⟨x.v,rfl⟩
 ·exact ⟨x.v,h2 hp⟩
theorem yof {c:Cfg} {t:List Nd} {i:Nat} {x:Nd} (hx:t[i]?=some x) (hf:x.f = -1) (hs:(shr x.v c).2=false):t.all (zmt c)=false:=by
 cases e:t.all (zmt c) with
 | false=>rfl
 | true =>
  have:=List.all_eq_true.mp e x (bF hx);unfold zmt at this;rw [hs,decide_eq_true hf] at this;cases this
theorem yqq {c:Cfg} {t:List Nd} (h : ∀ (j:Nat) (x:Nd),t[j]?=some x->x.f = -1->(shr x.v c).2=true):t.all (zmt c)=true:=by
 rw [List.all_eq_true];intro x hx;obtain ⟨j,hj⟩:=bH hx;unfold zmt
 by_cases hf:x.f = -1
 ·rw [h j x hj hf]; simp
 ·rw [decide_eq_false hf]; rfl
theorem y88 (t:List Nd) (c:Cfg) (hl:t.length<=1048576) (hc:c.sg.length<=1048576):RUN T zra [.agg [.sl 5 (t.map nd)],zdw c]=some ([.agg [.own 5 ((zgs c t).1.map nd)],bv (zgs c t).2],[]):=by
 have e1:=yl4 t hl;obtain ⟨R,hR⟩ : ∃ R,R=zgs c t:=⟨_,rfl⟩;have hR':R=if t.all (zmt c)=true then (t.map (zjp c),true) else ([],false):=hR
 rw [<- hR];clear hR;simp only [zdw];refine zae rfl rfl ?_;simp [-getElem?_pos,z0y,z0v,e1];refine zan (fun n st => ∃ (i:Nat) (C:List Nd),i+n=t.length/\zu9 c t C (fun j=>j<i)/\(∀ (j:Nat) (x:Nd),j<i->t[j]?=some x->(x.f = -1->(shr x.v c).2=true))/\st.V 2 = .ptr 0 none 0 0 0/\st.V 3 = .ptr 1 none 0 0 0/\st.V 4 = .ptr 2 none 0 0 0/\st.V 6 = .ptr 4 none 0 0 0/\st.V 7=iv i/\4<st.nx/\st.S 0=some (.box [.sl 5 (t.map nd)])/\st.S 1=some (.box [iv c.ro,iv c.de,iv c.bi,iv c.la,iv c.rw,iv c.nu,iv c.dn,.sl 1 (zab c.sg)])/\st.S 2=some (.box [.e0])/\st.S 4=some (.box [.ref 3 none 0 0 t.length])/\st.S 3=some (.row 5 (C.map nd))) ?_ t.length _ ⟨0,t,by omega,⟨rfl,fun j x hx=>⟨fun h=>by omega,fun _=>hx⟩⟩,fun j x h=>by omega,by simp⟩;rintro n st ⟨i,C,hi,hC,hok,v2,v3,v4,v6,v7,h4x,hS0,hS1,hS2,hS4,hS3⟩;have Z0:=bI hS0 <| bI hS1 <| bI hS2 hS4
 obtain ⟨z1,z2,z3,z4⟩:=fr h4x
 by_cases h:i<t.length
 ·obtain ⟨x,hx⟩ : ∃ x,t[i]?=some x:=⟨_,bG h⟩;have hx':=zya hx;have hw:=wS h (by omega:t.length<=9223372036854775807);have f1:=y6w x.v c (by omega);obtain ⟨v,hv⟩:=yrh hC hx;have hv':=zya hv;have hCl:i<C.length:=by rw [hC.1]; exact h
  simp only [zdw] at f1;rcases Classical.propComplete (x.f = -1) with hf | hf
  ·have hf':x.f = -1:=by rw [hf]; trivial
   have hset:=zmy C i x.f x.c x.l x.r (shr x.v c).1;have hI:=ypu hC hx hf';cases hb:(shr x.v c).2 with
   | false =>
    rw [yof hx hf' hb,if_neg (by simp)] at hR';subst hR';rw [hb] at f1;simp [-getElem?_pos,zv9,v2,v3,v4,v6,v7,Z0,hS3,h,hx',hf,f1]
   | true =>
    have hok2:=zla (P:=fun _ x=>x.f = -1->(shr x.v c).2=true) hok hx (fun _=>hb);rw [hb] at f1;simp [-getElem?_pos,zv9,v2,v3,v4,v6,v7,Z0,hS3,h,hx',hw,hf,f1,hv',hCl,hC.1,hset];exact zah (n-1) (by omega) ⟨i+1,_,by omega,⟨hI.1,fun j y hy=>⟨fun hj=>(hI.2 j y hy).1 (by omega),fun hj=>(hI.2 j y hy).2 (by omega)⟩⟩,hok2,by simp [v2,v3,v4,v6,h4x,Z0]⟩
  ·have hf' : ¬ x.f = -1:=by rw [hf]; exact id
   have hok2:=zla (P:=fun _ x=>x.f = -1->(shr x.v c).2=true) hok hx (fun h=>absurd h hf');simp [-getElem?_pos,zv9,v2,v3,v4,v6,v7,Z0,hS3,h,hx',hw,hf];refine zah (n-1) (by omega) ⟨i+1,C,by omega,⟨hC.1,fun j y hy=>⟨fun hj => ?_,fun hj=>(hC.2 j y hy).2 (by omega)⟩⟩,hok2,by simp [v2,v3,v4,v6,h4x,Z0,hS3]⟩
   by_cases e:j=i
   ·subst e;rw [hx] at hy; cases hy;rw [(hC.2 j x hx).2 (by omega)];unfold zjp; rw [if_neg hf']
   ·exact (hC.2 j y hy).1 (by omega)
 ·have hall:=yqi hC (fun j x hx _=>by have:=(bD hx).1; omega);rw [yqq (fun j x hx hf=>hok j x (by have:=(bD hx).1; omega) hx hf),if_pos rfl,<- hall] at hR';have hCl:=hC.1;subst hR';simp [-getElem?_pos,zv9,v2,v4,v6,v7,hS0,hS2,hS4,hS3,h,hCl]
theorem y89 (t:List Nd) (c:Cfg) (hl:t.length<=1048576) (hc:c.sg.length<=1048576):RUN T zq6 [.agg [.sl 5 (t.map nd)],zdw c]=some ([.agg [.own 5 ((zgs c t).1.map nd)],bv (zgs c t).2],[]):=by
 have e1:=yl3 t hl;have e2:=y6k t hl;have hll:=zyq t 0;have hmem:=ys6 t 0;generalize lvs t 0=L at *;obtain ⟨R,hR⟩ : ∃ R,R=zgs c t:=⟨_,rfl⟩;have hR':R=if t.all (zmt c)=true then (t.map (zjp c),true) else ([],false):=hR
 rw [<- hR];clear hR;simp only [zdw];refine zae rfl rfl ?_;simp [-getElem?_pos,z0u,z0v,e1,e2];refine zan (fun n st => ∃ (i:Nat) (C:List Nd),i+n=L.length/\zu9 c t C (fun j=>(j:Int)∈L.take i)/\(∀ (k:Nat) (y:Int),k<i->L[k]?=some y->∀ (j:Nat) (x:Nd),y=j->t[j]?=some x->(shr x.v c).2=true)/\st.V 2 = .ptr 0 none 0 0 0/\st.V 3 = .ptr 1 none 0 0 0/\st.V 4 = .ptr 2 none 0 0 0/\st.V 6 = .ptr 4 none 0 0 0/\st.V 14 = .ref 5 none 0 0 L.length/\st.V 15=iv L.length/\st.V 16=iv i/\5<st.nx/\st.S 0=some (.box [.sl 5 (t.map nd)])/\st.S 1=some (.box [iv c.ro,iv c.de,iv c.bi,iv c.la,iv c.rw,iv c.nu,iv c.dn,.sl 1 (zab c.sg)])/\st.S 2=some (.box [.e0])/\st.S 4=some (.box [.ref 3 none 0 0 t.length])/\st.S 5=some (.row 1 (zab L))/\st.S 3=some (.row 5 (C.map nd))) ?_ L.length _ ⟨0,t,by omega,⟨rfl,fun j x hx=>⟨fun h=>by simp at h,fun _=>hx⟩⟩,fun k y h=>by omega,by simp⟩;rintro n st ⟨i,C,hi,hC,hok,v2,v3,v4,v6,v14,v15,v16,h5x,hS0,hS1,hS2,hS4,hS5,hS3⟩;obtain ⟨z1,z2,z3,z4⟩:=fr h5x
 by_cases h:i<L.length
 ·obtain ⟨y,hy⟩ : ∃ y,L[i]?=some y:=⟨_,bG h⟩;obtain ⟨k,x,hyk,hx,hf'⟩:=(hmem y).mp (bF hy);have hyk:y=(k:Int):=by omega
  subst hyk;have hy':=zax hy;have hkt:=(bD hx).1;have hx':=zya hx;have hw:=wS h (by omega:L.length<=9223372036854775807);have f1:=y6x x.v c (by omega);obtain ⟨v,hv⟩:=yrh hC hx;have hv':=zya hv;have hCl:k<C.length:=by rw [hC.1]; exact hkt
  simp only [zdw] at f1;have hset:=zmy C k x.f x.c x.l x.r (shr x.v c).1;have hI:=ypu hC hx hf';have htk:L.take (i+1)=L.take i++[(k:Int)]:=by rw [List.take_succ,hy]; rfl
  cases hb:(shr x.v c).2 with
  | false =>
   rw [yof hx hf' hb,if_neg (by simp)] at hR';subst hR';rw [hb] at f1;simp [-getElem?_pos,z0t,v2,v3,v4,v6,v14,v15,v16,hS0,hS1,hS2,hS4,hS5,hS3,h,hy',hkt,hx',f1]
  | true =>
   rw [hb] at f1;have hok2 : ∀ (k':Nat) (y:Int),k'<i+1->L[k']?=some y->∀ (j:Nat) (x:Nd),y=j->t[j]?=some x->(shr x.v c).2=true:=by
    intro k' y hk' hy2 j x2 e1 e2;rcases Nat.lt_or_ge k' i with h3 | h3
    ·exact hok k' y h3 hy2 j x2 e1 e2
    ·have e3:k'=i:=by omega
     subst e3;rw [hy] at hy2; cases hy2;have e4:j=k:=by omega
     subst e4;rw [hx] at e2; cases e2;exact hb
   simp [-getElem?_pos,z0t,v2,v3,v4,v6,v14,v15,v16,hS0,hS1,hS2,hS4,hS5,hS3,h,hy',hkt,hx',hw,f1,hv',hCl,hC.1,hset];refine zah (n-1) (by omega) ⟨i+1,_,by omega,⟨hI.1,fun j y hy2=>⟨fun hj=>(hI.2 j y hy2).1 ?_,fun hj=>(hI.2 j y hy2).2 ?_⟩⟩,hok2,by simp [v2,v3,v4,v6,v14,v15,h5x,hS0,hS1,hS2,hS4,hS5]⟩
   ·rw [htk,List.mem_append,List.mem_singleton] at hj;exact hj.imp id (fun e=>by omega)
   ·intro hp;apply hj;rw [htk,List.mem_append,List.mem_singleton];exact hp.imp id (fun e=>by omega)
 ·have hiL:i=L.length:=by omega
  subst hiL;rw [List.take_length] at hC;have hin : ∀ (j:Nat) (x:Nd),t[j]?=some x->x.f = -1->(j:Int)∈L:=fun j x hx hf=>(hmem j).mpr ⟨j,x,by omega,hx,hf⟩;have hall:=yqi hC hin;rw [yqq (fun j x hx hf=>by
   obtain ⟨k,hk⟩:=bH (hin j x hx hf);exact hok k j (bD hk).1 hk j x rfl hx),if_pos rfl,<- hall] at hR'
  have hCl:=hC.1;subst hR';simp [-getElem?_pos,z0t,v2,v4,v6,v14,v15,v16,hS0,hS2,hS4,hS3,h,hCl]
theorem yct (c:Cfg) (t:List Nd):(zgs c t).1.length<=t.length:=by
 unfold zgs;split
 ·simp
 ·simp
def zhs (t:Ta):Sta×Bool:=if zct t=true then (⟨List.replicate t.lb.length (zc5 t.lb).1,[]⟩,true) else (⟨[],[]⟩,false)
theorem qhv (b:Int) (i:Nat):zab (List.replicate i b)++[[iv b]]=zab (List.replicate (i+1) b):=by
 rw [List.replicate_succ']; simp [zab]
theorem y9a (q:Bool) (t:Ta) (ht:TaL 1048576 t) (hi : ∀ x∈t.lb,inI x):RUN T zqw [taS q t]=some ([stO (zhs t).1,bv (zhs t).2],[]):=by
 have e1:=yax q t ⟨Nat.le_trans ht.ns (by omega),fun x hx=>Nat.le_trans (ht.ss x hx) (by omega),Nat.le_trans ht.nm (by omega),Nat.le_trans ht.rw (by omega),fun x hx=>Nat.le_trans (ht.rr x hx) (by omega),Nat.le_trans ht.lb (by omega)⟩;have e3:=y66 t.lb (Nat.le_trans ht.lb (by omega)) hi;have hlb:=ht.lb;unfold zhs;generalize zct t=b1 at *;generalize zc5 t.lb=bs at *;obtain ⟨bs,bb⟩:=bs;simp only at e3 ⊢;have hr1:zag 8 1=true:=by decide
 have zi:zab []=[]:=rfl;have zt:trs true []=[]:=rfl;refine zae rfl rfl ?_;cases b1 with
 | false=>simp [-getElem?_pos,zvx,zvy,e1,zi,zt]
 | true =>
  simp [-getElem?_pos,zvx,zvy,e1,e3];refine zan (fun n st => ∃ (i:Nat) (x:PV),i+n=t.lb.length/\st.V 1 = .ptr 0 none 0 0 0/\st.V 2 = .ptr 1 none 0 0 0/\st.V 5=iv bs/\st.V 4 = .ptr 2 none 0 0 0/\st.V 7=iv i/\2<st.nx/\LC st.S st.nx 2 (List.replicate i bs) x/\st.S 0=some (.box [.sl 1 (za5 t.ns),.v (.string t.nm),.sl 1 (rws q t.rw),.sl 1 (zab t.lb)])/\st.S 1=some (.box [.e0,.e0])/\st.S 2=some (.box [x,.e0])) ?_ t.lb.length _ ⟨0,.e0,by omega,by simp,by simp,by simp,by simp,by simp,by simp,.inl ⟨rfl,rfl⟩,by simp⟩;rintro n st ⟨i,x,hin,v1,v2,v5,v4,v7,hnx,hx,hS0,hS1,hS2⟩;have z1:=fr hnx;have z2:=fr (by omega:1<st.nx);have nz0 : ¬ st.nx=0:=by omega
  have z3:=fr (by omega:0<st.nx)
  by_cases h:i<t.lb.length
  ·have hw:=wS h (by omega:t.lb.length<=9223372036854775807);have hsn:=qhv bs i;rcases hx with ⟨rfl,hm⟩ | ⟨o,e,rfl,ho,hox,hSo⟩
   ·have hi0:i=0:=by cases i with | zero=>rfl | succ n=>simp [List.replicate_succ] at hm
    subst hi0;simp [-getElem?_pos,zvw,v1,v2,v4,v5,v7,hS0,hS1,hS2,z1,z2,z3,h,hw,hr1];exact zah (n-1) (by omega) ⟨1,_,by omega,by simp [v1],by simp [v2],by simp [v5],by simp [v4],by simp,by simp; omega,.inr ⟨st.nx+1,st.ep,rfl,by omega,by simp,by
     have n2 : ¬ st.nx+1=2:=by omega
     simp [n2,zab]⟩,by simp [z1,z2,z3,hS0,nz0,hS1]⟩
   ·have hr8:=zbv (n:=i+1) (by omega);have y1:=fr hox;have y2:=fr ho;have y3:=fr (by omega:1<o);have y4:=fr (by omega:0<o);rw [List.length_replicate] at *;have hil:(zab (List.replicate i bs)).length=i:=by simp [zab]
    generalize zab (List.replicate i bs)=A at *;simp [-getElem?_pos,zvw,v1,v2,v4,v5,v7,hS0,hS1,hS2,hSo,z1,z2,z3,y1,y2,y3,y4,h,hw,hr8,hsn,hil];exact zah (n-1) (by omega) ⟨i+1,.ref (st.nx+1) none st.ep 0 (i+1),by omega,by simp [v1],by simp [v2],by simp [v5],by simp [v4],by simp,by simp; omega,.inr ⟨st.nx+1,st.ep,by simp,by omega,by simp,by
     have n2 : ¬ st.nx+1=2:=by omega
     simp [n2]⟩,by simp [z1,z2,z3,y1,y2,y3,y4,hS0,nz0,hS1]⟩
  ·have e:i=t.lb.length:=by omega
   subst e;rcases hx with ⟨rfl,hm⟩ | ⟨o,e,rfl,ho,hox,hSo⟩
   ·rw [hm];simp [-getElem?_pos,zvw,v1,v2,v4,v5,v7,hS0,hS1,hS2,h,zi,zt]
   ·have y2:=fr ho;have y3:=fr (by omega:1<o);rw [List.length_replicate] at *;simp [-getElem?_pos,zvw,v1,v2,v4,v5,v7,hS0,hS1,hS2,hSo,y2,y3,h,zt]
def PDc (v:PV):Prop := ∃ n,v=iv n/\zbe n=true
theorem zus {n:Int} (h1 : -2147483647<=n) (h2:n<=2147483647):zbe n=true:=by
 unfold zbe; exact zay.mpr ⟨h1,h2⟩
theorem yay (B:List Int) (p:Nat) (s:Int) (hp:p<=B.length) (hB:B.length<=9223372036854775807) : ∃ r,RUN T zlm [.bx [.sl 1 (zbl B),iv p,iv s]]=some r/\zfk B PDc r:=by
 refine zeu rfl rfl ?_;have hr5:zag 8 5=true:=by decide
 obtain ⟨r1,h1,v1,p1,s1,⟨b1,rfl⟩,hp1,rfl⟩:=zgq B p s hp hB 20 (by omega);cases b1 with
 | true =>
  obtain ⟨r2,h2,v2,p2,s2,⟨a2,rfl,hm⟩,hp2,rfl⟩:=zfr B p1 s1 hp1 hB [2147483647,-2147483647,1,-1,1000000000] (by simp);simp only [zab,List.map] at h2;simp [-getElem?_pos,zty,zvo,hr5,h1,h2];refine ⟨_,p2,s2,⟨a2,rfl,?_⟩,hp2,rfl⟩;simp at hm;exact zus (by omega) (by omega)
 | false =>
  obtain ⟨r2,h2,v2,p2,s2,⟨b2,rfl⟩,hp2,rfl⟩:=zgq B p1 s1 hp1 hB 2 (by omega);cases b2 with
  | true =>
   obtain ⟨r3,h3,v3,p3,s3,⟨a3,rfl,a30,a31⟩,hp3,rfl⟩:=za9 B p2 s2 hp2 hB 9 (by omega);have a32:=a31 (by omega);have w1:=w64 (x:=a3-4) (by omega) (by omega);have w2:=w64 (x:=1000*(a3-4)) (by omega) (by omega);simp [-getElem?_pos,zty,zvo,h1,h2,h3,w1,w2];exact ⟨_,p3,s3,⟨_,rfl,zus (by omega) (by omega)⟩,hp3,rfl⟩
  | false =>
   obtain ⟨r3,h3,v3,p3,s3,⟨a3,rfl,a30,a31⟩,hp3,rfl⟩:=za9 B p2 s2 hp2 hB 41 (by omega);have a32:=a31 (by omega);have w1:=w64 (x:=a3-20) (by omega) (by omega);have w2:=w64 (x:=250*(a3-20)) (by omega) (by omega);simp [-getElem?_pos,zty,zvo,h1,h2,h3,w1,w2];exact ⟨_,p3,s3,⟨_,rfl,zus (by omega) (by omega)⟩,hp3,rfl⟩
theorem z8q (l:List Int):(zd7 l).length=l.length:=by
 unfold zd7;rw [qg2]; simp
theorem ymu (x:Int) (l:List Int) : ∀ k:Nat,(∀ j,pos x l k<=j->j<k->x<l.getD j 0)/\(pos x l k=0\/l.getD (pos x l k-1) 0<=x)
 | 0=>by
  refine ⟨fun j _ h=>by omega,.inl ?_⟩;simp only [pos]
 | k+1=>by
  obtain ⟨h1,h2⟩:=ymu x l k;rw [ybv]
  by_cases hc:x<l.getD k 0
  ·rw [if_pos hc];refine ⟨fun j hj hk => ?_,h2⟩
   by_cases hjk:j=k
   ·subst hjk; exact hc
   ·exact h1 j hj (by omega)
  ·rw [if_neg hc];refine ⟨fun j hj hk=>by omega,.inr ?_⟩;simp only [Nat.add_sub_cancel];omega
def srt (l:List Int):Prop:=l.Pairwise fun a b=>a<=b
theorem zp8 {l:List Int} (h:srt l) {i j:Nat} {a b:Int} (hij:i<=j) (ha:l[i]?=some a) (hb:l[j]?=some b):a<=b:=by
 by_cases e:i=j
 ·subst e; rw [ha] at hb; cases hb; exact Int.le_refl _
 ·obtain ⟨hi,rfl⟩:=bD ha;obtain ⟨hj,rfl⟩:=bD hb;exact List.pairwise_iff_getElem.mp h i j hi hj (by omega)
theorem qbg {l:List Int} (h:srt l) (x:Int):srt (ins l x):=by
 obtain ⟨P,hP⟩:=zef.ex x l l.length;rw [z9h hP];have hp:pos x l l.length=P:=by unfold zef at hP; exact hP
 obtain ⟨h1,h2⟩:=ymu x l l.length;rw [hp] at h1 h2;have hle:=ya9 x l l.length;rw [hp] at hle;unfold srt;rw [List.pairwise_append];refine ⟨h.sublist (List.take_sublist _ _),?_,?_⟩
 ·rw [List.pairwise_cons];refine ⟨fun b hb => ?_,h.sublist (List.drop_sublist _ _)⟩;obtain ⟨j,hj⟩:=bH hb;rw [List.getElem?_drop] at hj;have hlt:=(bD hj).1;have:=h1 (P+j) (by omega) hlt;rw [List.getD,hj,Option.getD_some] at this;omega
 ·intro a ha b hb;obtain ⟨i,hi⟩:=bH ha;have hi2:i<P:=by
   have:=(bD hi).1;simp at this; omega
  rw [List.getElem?_take_of_lt hi2] at hi;have hax:a<=x:=by
   rcases h2 with h2 | h2
   ·omega
   ·obtain ⟨y,hy⟩ : ∃ y,l[P-1]?=some y:=⟨_,bG (by omega)⟩;rw [List.getD,hy,Option.getD_some] at h2;have:=zp8 h (by omega:i<=P-1) hi hy;omega
  rcases List.mem_cons.mp hb with rfl | hb
  ·exact hax
  ·obtain ⟨j,hj⟩:=bH hb;rw [List.getElem?_drop] at hj;exact zp8 h (by omega:i<=P+j) hi hj
theorem qgh (l:List Int) (x:Int):(ins l x).Perm (x::l):=by
 obtain ⟨P,hP⟩:=zef.ex x l l.length;rw [z9h hP];have:=List.perm_middle (a:=x) (l₁:=l.take P) (l₂:=l.drop P)
 rwa [List.take_append_drop] at this
theorem zyy : ∀ (l a:List Int),srt a->srt (l.foldl ins a)/\(l.foldl ins a).Perm (a++l)
 | [],a,h=>⟨h,by simp⟩
 | x::l,a,h=>by
  obtain ⟨h1,h2⟩:=zyy l (ins a x) (qbg h x);refine ⟨h1,h2.trans ?_⟩;refine ((qgh a x).append_right l).trans ?_;exact List.perm_middle.symm
theorem qh5 (l:List Int):zim l=zd7 l:=by
 obtain ⟨h1,h2⟩:=zyy l [] List.Pairwise.nil;have h3:srt (zim l):=by
  have:=List.pairwise_mergeSort (le:=fun x y:Int=>decide (x<=y)) (fun a b c h1 h2=>by simp at *; omega) (fun a b=>by simp; omega) l;unfold srt zim;exact this.imp fun h=>by simpa using h
 refine List.Perm.eq_of_pairwise (le:=fun a b=>a<=b) (fun a b _ _ h1 h2=>by omega) h3 h1 ?_;exact (List.mergeSort_perm _ _).trans (by have h4:=h2.symm; rw [List.nil_append] at h4; exact h4)
theorem y9b (l:List Int) (hl:l.length<=1048576):RUN T zsu [.own 1 (zab l)]=some ([],[.own 1 (zab (zd7 l))]):=by
 rw [<- qh5];exact qcj yjb (by omega)
theorem y9c (l:List Int) (hl:l.length<=1048576):RUN T zsk [.own 1 (zab l)]=some ([.own 1 (zab (Lib.compact l))],[.undef]):=qhr yis (by omega)
theorem y9d (l:List Int) (hl:l.length<=1048576):RUN T zsj [.sl 1 (zab l)]=some ([.own 1 (zab (zd7 l))],[]):=by
 have e1:=y83 l hl;have e2:=y9b l hl;have hl2:=z8q l;generalize zd7 l=a at *;refine zae rfl rfl ?_;simp [-getElem?_pos,z4e,zzy,e1,e2,hl2]
theorem yq5 {a:List Int} {i:Nat} {x:Int} (h:a[i]?=some x):Lib.compactUpTo a.toArray (i+1)=if (i=0\/¬ a[i-1]?=some x) then Lib.compactUpTo a.toArray i++[x] else Lib.compactUpTo a.toArray i:=by
 have hx:a.toArray[i]! = x:=by simp [h]
 have hlt:=(bD h).1;unfold Lib.compactUpTo;rw [List.range_succ,List.filter_append,List.map_append];have hk:Lib.keeps a.toArray i=decide (i=0\/¬ a[i-1]?=some x):=by
  unfold Lib.keeps
  by_cases h0:i=0
  ·simp [h0]
  ·obtain ⟨y,hy⟩ : ∃ y,a[i-1]?=some y:=⟨_,bG (by omega)⟩;have hy':a.toArray[i-1]! = y:=by simp [hy]
   rw [hx,hy',hy];simp only [h0,false_or,bC]
   congr 1
   simp only [ne_eq,eq_comm]
 simp only [List.filter_cons,List.filter_nil,hk]
 by_cases hc:i=0\/¬ a[i-1]?=some x
 ·simp only [hc,decide_true,if_true,List.map_cons,List.map_nil,hx]
 ·simp only [hc,decide_false,if_false,Bool.false_eq_true,List.map_nil,List.append_nil]
theorem y9e (l:List Int) (hl:l.length<=1048576):RUN T zsg [.sl 1 (zab l)]=some ([.own 1 (zab (Lib.compact (zd7 l)))],[]):=by
 have e1:=yll l hl;have hsl:=z8q l;generalize zd7 l=a at *;have hr0:zag 8 0=true:=by decide
 have hr1:zag 8 1=true:=by decide
 refine zae rfl rfl ?_;simp [-getElem?_pos,z36,zzy,hr0,e1];refine zan (fun n st => ∃ (i o e q e2:Nat) (m:List Int),i+n=l.length/\m=Lib.compactUpTo a.toArray i/\m.length<=i/\st.V 3 = .ref o none e 0 m.length/\st.V 4 = .ref q none e2 0 a.length/\st.V 5=iv i/\¬ o=q/\o<st.nx/\q<st.nx/\st.S o=some (.row 1 (zab m))/\st.S q=some (.row 1 (zab a))) ?_ l.length _ ⟨0,0,0,1,0,[],by omega,rfl,by simp,by simp,by simp,by simp,by omega,by simp [zab]⟩;rintro n st ⟨i,o,e,q,e2,m,hi,hmm,hm,v3,v4,v5,hoq,hox,hqx,hSo,hSq⟩;obtain ⟨x1,x2,x3,x4⟩:=fr hox;obtain ⟨z1,z2,z3,z4⟩:=fr hqx;have hqo : ¬ q=o:=fun e=>hoq e.symm
 by_cases h:i<a.length
 ·obtain ⟨x,hx⟩ : ∃ x,a[i]?=some x:=⟨_,bG h⟩;have hx':=zax hx;have hw:=wS h (by omega:a.length<=9223372036854775807);have hr8:=zbv (n:=m.length+1) (by omega);have hsn:=zbn m x;have hcs:=yq5 hx;rw [<- hmm] at hcs
  by_cases h0:i=0
  ·subst h0;rw [if_pos (.inl rfl)] at hcs;simp [-getElem?_pos,zwu,v3,v4,v5,hSo,hSq,h,hx',hw,hr1,hr8,hsn,hoq,hqo,x1,x2,x3,x4,z1,z2,z3,z4];exact zah (n-1) (by omega) ⟨1,st.nx+1,st.ep,q,e2,m++[x],by omega,hcs.symm,by rw [List.length_append]; simp only [List.length_cons,List.length_nil]; omega,by simp,by simp [v4],by simp,by omega,by simp,by simp; omega,by simp [hoq,hqo,x1,x2,x3,x4,z1,z2,z3,z4,hSq]⟩
  ·obtain ⟨y,hy⟩ : ∃ x,a[i-1]?=some x:=⟨_,bG (by omega)⟩;have hy':=zax hy;have w1:IntKind.i64.wrap ((i:Int)-1)=((i-1:Nat):Int):=by rw [w64 (by omega) (by omega)]; omega
   have hil:i-1<a.length:=by omega
   rw [hy] at hcs
   by_cases hxy:x=y
   ·subst hxy;rw [if_neg (by simp [h0])] at hcs;simp [-getElem?_pos,zwu,v3,v4,v5,hSo,hSq,h,h0,hil,hx',hy',hw,w1,hoq,hqo,x1,x2,x3,x4,z1,z2,z3,z4];exact zah (n-1) (by omega) ⟨i+1,o,e,q,e2,m,by omega,hcs.symm,by omega,by simp [v3],by simp [v4],by simp,hoq,by simp [hox,hqx,hSo,hSq]⟩
   ·rw [if_pos (.inr (fun e=>hxy (by cases e; rfl)))] at hcs;simp [-getElem?_pos,zwu,v3,v4,v5,hSo,hSq,h,h0,hil,hx',hy',hw,w1,hxy,hr1,hr8,hsn,hoq,hqo,x1,x2,x3,x4,z1,z2,z3,z4];exact zah (n-1) (by omega) ⟨i+1,st.nx+1,st.ep,q,e2,m++[x],by omega,hcs.symm,by simp; omega,by simp,by simp [v4],by simp,by omega,by simp,by simp; omega,by simp [hoq,hqo,x1,x2,x3,x4,z1,z2,z3,z4,hSq]⟩
 ·have hia:i=a.length:=by omega
  have hR:Lib.compact a=m:=by rw [hmm,hia]; rfl
  rw [hR];simp [-getElem?_pos,zwu,v3,v4,v5,hSo,hSq,h]
def zdp (c:List Int) (v:Int):Nat:=(c.filter fun x=>decide (x<v)).length
def zb0 (t:Ta) (f:Nat):List Int:=t.rw.map fun r=>r.getD f 0
def zhq (a:List Int) (b k:Nat):Nat:=a.length*k / b
def zi4 (a:List Int) (b k:Nat):List Int:=if 1<=zhq a b k/\a.getD (zhq a b k-1) 0≠a.getD (a.length-1) 0 then [a.getD (zhq a b k-1) 0] else []
def zd9 (a:List Int) (b:Nat):Nat->List Int
 | 0=>[]
 | k+1=>zd9 a b k++zi4 a b (k+1)
def zb3 (l:List Int) (b:Int):List Int:=if (zaj b 2 8 && zaj l.length 1 40)=true then Lib.compact (zd9 (zd7 l) b.toNat (b.toNat-1)) else []
def zmx (t:Ta) (b:Int) (f:Nat):List Int:=(zb0 t f).map fun v=>(zdp (zb3 (zb0 t f) b) v:Int)
def zbo (t:Ta) (b:Int):List (List Int):=if (zct t && zaj b 2 8)=true then (List.range t.ns.length).map fun f=>zb3 (zb0 t f) b else []
def zbp (t:Ta) (b:Int):List (List Int):=if (zct t && zaj b 2 8)=true then (List.range t.ns.length).map (zmx t b) else []
theorem yox (l:List Int):(Lib.compact l).length<=l.length:=by
 unfold Lib.compact Lib.compactUpTo;rw [List.length_map];exact Nat.le_trans (List.length_filter_le _ _) (by simp)
theorem yp3 {a:List Int} (ha:srt a) : ∀ i:Nat,i<=a.length->(Lib.compactUpTo a.toArray i).Pairwise (fun x y=>x<y)/\∀ y,y∈Lib.compactUpTo a.toArray i↔∃ j,j<i/\a[j]?=some y
 | 0,_=>by
  refine ⟨List.Pairwise.nil,fun y => ?_⟩;constructor
  ·intro h; exact absurd h (by simp [Lib.compactUpTo])
  ·rintro ⟨j,h,_⟩; omega
 | i+1,hi=>by
  obtain ⟨h1,h2⟩:=yp3 ha i (by omega);obtain ⟨x,hx⟩ : ∃ x,a[i]?=some x:=⟨_,bG (by omega)⟩;rw [yq5 hx]
  by_cases hc:i=0\/¬ a[i-1]?=some x
  ·rw [if_pos hc];refine ⟨?_,fun y => ?_⟩
   ·rw [List.pairwise_append];refine ⟨h1,by simp,fun y hy z hz => ?_⟩;simp only [List.mem_singleton] at hz;subst hz;obtain ⟨j,hj,hjy⟩:=(h2 y).mp hy;rcases hc with hc | hc
    ·omega
    ·obtain ⟨w,hw⟩ : ∃ w,a[i-1]?=some w:=⟨_,bG (by omega)⟩;have e1:=zp8 ha (by omega:j<=i-1) hjy hw;have e2:=zp8 ha (by omega:i-1<=i) hw hx;have e3:w≠z:=fun e=>hc (by rw [hw,e]);omega
   ·rw [List.mem_append,List.mem_singleton,h2 y];constructor
    ·rintro (⟨j,hj,e⟩ | rfl)
     ·exact ⟨j,by omega,e⟩
     ·exact ⟨i,by omega,hx⟩
    ·rintro ⟨j,hj,e⟩
     by_cases hji:j<i
     ·exact .inl ⟨j,hji,e⟩
     ·obtain rfl:j=i:=by omega
      rw [hx] at e; cases e;exact .inr rfl
  ·rw [if_neg hc];refine ⟨h1,fun y => ?_⟩;rw [h2 y];constructor
   ·rintro ⟨j,hj,e⟩; exact ⟨j,by omega,e⟩
   ·rintro ⟨j,hj,e⟩
    by_cases hji:j<i
    ·exact ⟨j,hji,e⟩
    ·obtain rfl:j=i:=by omega
     rw [hx] at e; cases e;have hc1 : ¬ j=0:=fun h=>hc (.inl h);have hc2:a[j-1]?=some x:=Classical.byContradiction fun h=>hc (.inr h);exact ⟨j-1,by omega,hc2⟩
theorem zmk {t:Ta} (h:zct t=true):1<=t.ns.length/\t.ns.length<=4/\1<=t.rw.length/\t.rw.length<=40/\t.lb.length=t.rw.length/\∀ r∈t.rw,r.length=t.ns.length:=by
 unfold zct at h;simp only [Bool.and_eq_true,decide_eq_true_eq,List.all_eq_true] at h;obtain ⟨⟨⟨⟨⟨h1,_⟩,h3⟩,h4⟩,_⟩,h6⟩:=h;have h1:=zay.mp h1;have h3:=zay.mp h3;refine ⟨by omega,by omega,by omega,by omega,by omega,fun r hr => ?_⟩;have:=h6 r hr;unfold ze6 at this;simp only [Bool.and_eq_true,decide_eq_true_eq] at this;omega
theorem z9l (l:List Int):srt (zd7 l):=(zyy l [] List.Pairwise.nil).1
theorem qb2 {l:List Int} (h:srt l):zd7 l=l:=by
 have h2:=(zyy l [] List.Pairwise.nil).2;refine List.Perm.eq_of_pairwise (le:=fun a b=>a<=b) (fun a b _ _ h1 h2=>by omega) (z9l l) h ?_;rw [List.nil_append] at h2;exact h2
theorem qfj {l:List Int} {x:Int}:x∈zd7 l↔x∈l:=by
 have h2:=(zyy l [] List.Pairwise.nil).2;rw [List.nil_append] at h2;exact h2.mem_iff
theorem qal (a:List Int) (b k:Nat):(zi4 a b k).length<=1:=by unfold zi4; split <;> simp
theorem yp6 (a:List Int) (b:Nat) : ∀ k,(zd9 a b k).length<=k
 | 0=>by simp [zd9]
 | k+1=>by
  have:=yp6 a b k;have:=qal a b (k+1);simp only [zd9,List.length_append]; omega
theorem qhy {a:List Int} {b k:Nat} (hk:k<=b):zhq a b k<=a.length:=by
 unfold zhq;exact Nat.div_le_of_le_mul (by rw [Nat.mul_comm b]; exact Nat.mul_le_mul_left _ hk)
theorem yrm {a:List Int} {b k:Nat}:zhq a b k<=zhq a b (k+1):=Nat.div_le_div_right (Nat.mul_le_mul_left _ (Nat.le_succ k))
theorem yt9 {a:List Int} {b k:Nat} (hk:k<=b) {x:Int} (h:x∈zi4 a b k) : ∃ j,j+1=zhq a b k/\a[j]?=some x:=by
 unfold zi4 at h;split at h
 ·rename_i hc;simp only [List.mem_singleton] at h;have:=qhy (a:=a) hk;refine ⟨zhq a b k-1,by omega,?_⟩;rw [h,List.getD_eq_getElem?_getD,bG (by omega)];rfl
 ·simp at h
theorem yds {a:List Int} {b:Nat} : ∀ k,k<=b->∀ x∈zd9 a b k,∃ j,j<zhq a b k/\a[j]?=some x
 | 0,_,x,h=>by simp [zd9] at h
 | k+1,hk,x,h=>by
  rw [zd9] at h;rcases List.mem_append.mp h with h | h
  ·obtain ⟨j,h1,h2⟩:=yds k (by omega) x h;exact ⟨j,Nat.lt_of_lt_of_le h1 yrm,h2⟩
  ·obtain ⟨j,h1,h2⟩:=yt9 hk h;exact ⟨j,by omega,h2⟩
theorem yd5 {a:List Int} {b:Nat} (ha:srt a) : ∀ k,k<=b->srt (zd9 a b k)
 | 0,_=>by unfold zd9; exact List.Pairwise.nil
 | k+1,hk=>by
  rw [zd9];unfold srt;rw [List.pairwise_append];refine ⟨yd5 ha k (by omega),?_,fun x hx y hy => ?_⟩
  ·unfold zi4; split <;> simp
  ·obtain ⟨i,h1,h2⟩:=yds k (by omega) x hx;obtain ⟨j,h3,h4⟩:=yt9 hk hy;have:=yrm (a:=a) (b:=b) (k:=k);exact zp8 ha (by omega) h2 h4
theorem z8w (l:List Int) (b:Int):(zb3 l b).Pairwise (fun x y=>x<y)/\(∀ x∈zb3 l b,x∈l)/\(zb3 l b).length<=7:=by
 unfold zb3;split
 ·rename_i hc;simp only [Bool.and_eq_true] at hc;have hb:=zay.mp hc.1;have hs:=yd5 (z9l l) (b:=b.toNat) (b.toNat-1) (by omega);obtain ⟨h1,h2⟩:=yp3 hs _ (Nat.le_refl _);refine ⟨h1,fun x hx => ?_,?_⟩
  ·obtain ⟨j,_,hj⟩:=(h2 x).mp hx;obtain ⟨i,_,hi⟩:=yds (a:=zd7 l) (b:=b.toNat) (b.toNat-1) (by omega) x (bF hj);exact qfj.mp (bF hi)
  ·have:=yox (zd9 (zd7 l) b.toNat (b.toNat-1));have:=yp6 (zd7 l) b.toNat (b.toNat-1);omega
 ·exact ⟨List.Pairwise.nil,by simp⟩
theorem yq7 {t:Ta} {b:Int} (h:zct t=true) (hb:zaj b 2 8=true):(zbo t b).length=t.ns.length/\(zbp t b).length=t.ns.length:=by
 have hc:(zct t && zaj b 2 8)=true:=by rw [h,hb]; rfl
 unfold zbo zbp;rw [if_pos hc,if_pos hc];simp
theorem ynm {t:Ta} {b:Int}:(∀ l∈zbo t b,l.length<=7)/\∀ l∈zbp t b,l.length=t.rw.length:=by
 unfold zbo zbp;split
 ·refine ⟨fun l hl => ?_,fun l hl => ?_⟩
  ·obtain ⟨f,_,rfl⟩:=List.mem_map.mp hl;exact (z8w _ _).2.2
  ·obtain ⟨f,_,rfl⟩:=List.mem_map.mp hl;simp [zmx,zb0]
 ·exact ⟨by simp,by simp⟩
theorem qej {t:Ta} {b:Int} : ∀ l∈zbp t b,∀ x∈l,0<=x/\x<=8:=by
 unfold zbp;split
 ·intro l hl x hx;obtain ⟨f,_,rfl⟩:=List.mem_map.mp hl;obtain ⟨v,_,rfl⟩:=List.mem_map.mp hx;have h1:zdp (zb3 (zb0 t f) b) v<=(zb3 (zb0 t f) b).length:=List.length_filter_le _ _;have h2:=(z8w (zb0 t f) b).2.2;omega
 ·simp
theorem ymi (c:List Int) (v x:Int):zdp (c++[x]) v=zdp c v+if x<v then 1 else 0:=by
 unfold zdp;rw [List.filter_append,List.length_append]
 by_cases h:x<v <;> simp [h]
theorem zo9 {α:Type} {l:List α} {i:Nat} {x:α} (h:l[i]?=some x):l.take (i+1)=l.take i++[x]:=by
 rw [List.take_add_one,h]; rfl
theorem y9f (c:List Int) (v:Int) (hc:c.length<=1048576):RUN T zrm [.sl 1 (zab c),iv v]=some ([iv (zdp c v)],[]):=by
 refine zae rfl rfl ?_;simp [-getElem?_pos,z1x,zvr];refine zan (fun n st => ∃ i m:Nat,i+n=c.length/\m<=i/\m=zdp (c.take i) v/\st.V 0 = .sl 1 (zab c)/\st.V 1=iv v/\st.V 5=iv m/\st.V 6=iv i) ?_ c.length _ ⟨0,0,by omega,by omega,by simp [zdp]⟩;rintro n st ⟨i,m,hi,hm,hmv,v0,v1,v5,v6⟩
 by_cases h:i<c.length
 ·obtain ⟨x,hx⟩ : ∃ x,c[i]?=some x:=⟨_,bG h⟩;have hx':=zax hx;have hw:=wS h (by omega:c.length<=9223372036854775807);have hw2:=w64 (x:=(m:Int)+1) (by omega) (by omega);have hs:=ymi (c.take i) v x;rw [<- zo9 hx,<- hmv] at hs
  by_cases hl:x<v
  ·rw [if_pos hl] at hs;simp [-getElem?_pos,z1w,v0,v1,v5,v6,h,hx',hw,hw2,hl];exact zah (n-1) (by omega) ⟨i+1,m+1,by omega,by omega,hs.symm,by simp [v0,v1]⟩
  ·rw [if_neg hl] at hs;simp [-getElem?_pos,z1w,v0,v1,v5,v6,h,hx',hw,hl];exact zah (n-1) (by omega) ⟨i+1,m,by omega,by omega,hs.symm,by simp [v0,v1,v5]⟩
 ·rw [List.take_of_length_le (by omega)] at hmv;rw [<- hmv];simp [-getElem?_pos,z1w,v0,v5,v6,h]
theorem y9g (l:List Int) (b:Int) (hl:l.length<=1048576):RUN T zrl [.sl 1 (zab l),iv b]=some ([.own 1 (zab (zb3 l b))],[]):=by
 have e1:=yll l hl;have hsl:=z8q l;have hss:=z9l l;have hr0:zag 8 0=true:=by decide
 have hr1:zag 8 1=true:=by decide
 have g1:=zba b 2 8;have g2:=zba l.length 1 40;cases c1:zaj b 2 8 with
 | false =>
  have hv:zb3 l b=[]:=by unfold zb3; rw [c1]; rfl
  rw [hv];rw [c1] at g1;refine zae rfl rfl ?_;simp [-getElem?_pos,ztw,z1v,-za0,g1,hr0]
 | true =>
 cases c2:zaj l.length 1 40 with
 | false =>
  have hv:zb3 l b=[]:=by unfold zb3; rw [c1,c2]; rfl
  rw [hv];rw [c1] at g1;rw [c2] at g2;refine zae rfl rfl ?_;simp [-getElem?_pos,ztw,z1v,-za0,g1,g2,hr0]
 | true =>
 have hv:zb3 l b=Lib.compact (zd9 (zd7 l) b.toNat (b.toNat-1)):=by unfold zb3; rw [c1,c2]; rfl
 rw [hv];rw [c1] at g1;rw [c2] at g2;have hb:=zay.mp c1;have h12:=zay.mp c2;have h1:1<=l.length:=by omega
 have h2:l.length<=40:=by omega
 clear c1 c2 h12 hv;generalize zd7 l=a at *;obtain ⟨bn,rfl⟩ : ∃ n:Nat,b=n:=⟨b.toNat,by omega⟩;rw [Int.toNat_natCast];refine zae rfl rfl ?_;simp [-getElem?_pos,ztw,z1v,-za0,g1,g2,hr0,e1];refine zan (fun n st => ∃ (i o e:Nat) (m:List Int),1<=i/\i+n=bn/\m.length<i/\m=zd9 a bn (i-1)/\st.V 1=iv bn/\st.V 5=iv l.length/\st.V 6 = .ref 0 none 0 0 a.length/\st.V 7 = .ref o none e 0 m.length/\st.V 8=iv i/\0<o/\o<st.nx/\st.S o=some (.row 1 (zab m))/\st.S 0=some (.row 1 (zab a))) ?_ (bn-1) _ ⟨1,1,0,[],by omega,by omega,by simp,rfl,by simp [zab]⟩;rintro n st ⟨i,o,e,m,hi1,hi,hm,hmp,v1,v5,v6,v7,v8,ho,hox,hSo,hS0⟩;obtain ⟨x1,x2,x3,x4⟩:=fr hox;obtain ⟨g1,g2,g3,g4⟩:=fr ho;obtain ⟨z1,z2,z3,z4⟩:=fr (show 0<st.nx by omega)
 by_cases h:i<bn
 ·have hw:=wS h (by omega:bn<=9223372036854775807);have hb0 : ¬ bn=0:=by omega
  have hq:(l.length:Int)*i<=40*8:=Int.mul_le_mul (by omega) (by omega) (by omega) (by omega);have hq0:0<=(l.length:Int)*i:=Int.mul_nonneg (by omega) (by omega);have w1:=w64 (x:=(l.length:Int)*i) (by omega) (by omega);obtain ⟨k,hkk⟩ : ∃ k:Nat,k=l.length*i / bn:=⟨_,rfl⟩;have hk:((l.length:Int)*i).tdiv bn=k:=by
   rw [Int.tdiv_eq_ediv_of_nonneg hq0,hkk]
   push_cast
   rfl
  have hcs:zd9 a bn i=m++zi4 a bn i:=by
   obtain ⟨j,rfl⟩ : ∃ j,i=j+1:=⟨i-1,by omega⟩;rw [hmp]; rfl
  unfold zi4 zhq at hcs;rw [hsl,<- hkk] at hcs;have hkl:k<=l.length:=by
   have h3:((l.length:Int)*i).tdiv bn<=l.length:=by
    rw [Int.tdiv_eq_ediv_of_nonneg hq0];refine Int.ediv_le_of_le_mul (by omega) ?_;exact Int.mul_le_mul_of_nonneg_left (by omega) (by omega)
   omega
  have w2:=w64 (x:=(k:Int)) (by omega) (by omega)
  by_cases hk1:1<=k
  ·obtain ⟨x,hx⟩ : ∃ x,a[k-1]?=some x:=⟨_,bG (by omega)⟩;obtain ⟨y,hy⟩ : ∃ x,a[a.length-1]?=some x:=⟨_,bG (by omega)⟩;have hx':=zax hx;have hy':=zax hy;rw [hsl] at hy';have w3:IntKind.i64.wrap ((k:Int)-1)=((k-1:Nat):Int):=by rw [w64 (by omega) (by omega)]; omega
   have w4:IntKind.i64.wrap ((l.length:Int)-1)=((l.length-1:Nat):Int):=by rw [w64 (by omega) (by omega)]; omega
   have c1:k-1<l.length:=by omega
   have c2:l.length-1<l.length:=by omega
   have hk1':(1:Int)<=k:=by omega
   have hr8:=zbv (n:=m.length+1) (by omega);have hsn:=zbn m x;have gx:a.getD (k-1) 0=x:=by rw [List.getD_eq_getElem?_getD,hx]; rfl
   have gy:a.getD (l.length-1) 0=y:=by rw [<- hsl,List.getD_eq_getElem?_getD,hy]; rfl
   rw [gx,gy] at hcs;have hle:=zp8 hss (by omega:k-1<=a.length-1) hx hy
   by_cases hxy:x<y
   ·rw [if_pos ⟨hk1,by omega⟩] at hcs;simp [-getElem?_pos,zwc,v1,v5,v6,v7,v8,hSo,hS0,h,hw,hb0,w1,w2,w3,w4,hk,hk1,hk1',hx',hy',hsl,c1,c2,hxy,hr1,hr8,hsn,g1,g2,g3,g4,x1,x2,x3,x4,z1,z2,z3,z4];exact zah (n-1) (by omega) ⟨i+1,st.nx+1,st.ep,m++[x],by omega,by omega,by simp; omega,hcs.symm,by simp [v1],by simp [v5],by simp [v6,hsl],by simp,by simp,by omega,by simp [g1,g2,g3,g4,x1,x2,x3,x4,z1,z2,z3,z4,hS0]⟩
   ·rw [if_neg (by omega),List.append_nil] at hcs;simp [-getElem?_pos,zwc,v1,v5,v6,v7,v8,hSo,hS0,h,hw,hb0,w1,w2,w3,w4,hk,hk1,hk1',hx',hy',hsl,c1,c2,hxy,g1,g2,g3,g4,x1,x2,x3,x4,z1,z2,z3,z4];exact zah (n-1) (by omega) ⟨i+1,o,e,m,by omega,by omega,by omega,hcs.symm,by simp [v1],by simp [v5],by simp [v6,hsl],by simp [v7],by simp,ho,by simp [hox,hSo,hS0]⟩
  ·have hk0:k=0:=by omega
   rw [if_neg (by omega),List.append_nil] at hcs;rw [hk0] at hk w2;clear hkk hkl;subst hk0;simp [-getElem?_pos,zwc,v1,v5,v6,v7,v8,hSo,hS0,h,hw,hb0,w1,w2,hk];exact zah (n-1) (by omega) ⟨i+1,o,e,m,by omega,by omega,by omega,hcs.symm,by simp [v1],by simp [v5],by simp [v6],by simp [v7],by simp,ho,by simp [hox,hSo,hS0]⟩
 ·have h3:=y9e m (by omega);have hib:i=bn:=by omega
  have hsm:=yd5 (b:=bn) hss (bn-1) (by omega);have hm2:m=zd9 a bn (bn-1):=by rw [hmp,hib]
  rw [<- hm2] at hsm;rw [qb2 hsm] at h3;rw [<- hm2];have hmm:(Lib.compact m).length<=m.length:=yox m;generalize Lib.compact m=z at *;simp [-getElem?_pos,zwc,v1,v7,v8,hSo,h,h3]
theorem y9h (q:Bool) (t:Ta) (f:Nat) (ht:TaL 1048576 t) (hf:f<t.ns.length) (h40:t.rw.length<=40) (hr : ∀ r∈t.rw,r.length=t.ns.length):RUN T zrk [taS q t,iv f]=some ([.own 1 (zab (zb0 t f))],[]):=by
 have hr0:zag 8 0=true:=by decide
 have hr1:zag 8 1=true:=by decide
 have hns:=ht.ns;have g1:=zba f 0 ((t.ns.length:Int)-1);rw [zay.mpr (by omega)] at g1;have w1:=w64 (x:=(t.ns.length:Int)-1) (by omega) (by omega);refine zae rfl rfl ?_;simp [-getElem?_pos,z1u,z1v,hr0];refine zan (fun n st => ∃ (i o e:Nat) (m:List Int),i+n=t.rw.length/\m=(t.rw.take i).map (fun r=>r.getD f 0)/\m.length=i/\st.V 1=iv f/\st.V 2 = .ptr 0 none 0 0 0/\st.V 5 = .ref o none e 0 m.length/\st.V 6=iv i/\0<o/\o<st.nx/\st.S o=some (.row 1 (zab m))/\st.S 0=some (.box (taB q t))) ?_ t.rw.length _ ⟨0,1,0,[],by omega,rfl,rfl,by simp [zab]⟩;rintro n st ⟨i,o,e,m,hi,hmv,hm,v1,v2,v5,v6,ho,hox,hSo,hS0⟩;obtain ⟨x1,x2,x3,x4⟩:=fr hox;obtain ⟨g1',g2,g3,g4⟩:=fr ho;obtain ⟨z1,z2,z3,z4⟩:=fr (show 0<st.nx by omega)
 by_cases h:i<t.rw.length
 ·obtain ⟨r,hx⟩ : ∃ x,t.rw[i]?=some x:=⟨_,bG h⟩;have hx':=zc3 (q:=q) hx;have hrl:=hr r (bF hx);obtain ⟨y,hy⟩ : ∃ x,r[f]?=some x:=⟨_,bG (by omega)⟩;have hy':=zax hy;have hfr:f<r.length:=by omega
  have hw:=wS h (by omega:t.rw.length<=9223372036854775807);have hr8:=zbv (n:=m.length+1) (by omega);have hsn:=zbn m y;have hmn:m++[y]=(t.rw.take (i+1)).map (fun r=>r.getD f 0):=by
   rw [zo9 hx,List.map_append,<- hmv,List.map_singleton,List.getD_eq_getElem?_getD,hy]; rfl
  simp [-getElem?_pos,z9v,-za0,v1,v2,v5,v6,hSo,hS0,h,hx',hy',hfr,g1,w1,hw,hr1,hr8,hsn,g1',g2,g3,g4,x1,x2,x3,x4,z1,z2,z3,z4];exact zah (n-1) (by omega) ⟨i+1,st.nx+1,st.ep,m++[y],by omega,hmn,by simp [hm],by simp [v1],by simp [v2],by simp,by simp,by omega,by simp [g1',g2,g3,g4,x1,x2,x3,x4,z1,z2,z3,z4,hS0]⟩
 ·rw [List.take_of_length_le (by omega)] at hmv;have hcv:zb0 t f=m:=hmv.symm;rw [hcv];simp [-getElem?_pos,z9v,-za0,v1,v2,v5,v6,hSo,hS0,h]
theorem qcv (cuts col:List Int) (hcu:cuts.length<=8) (hco:col.length<=40) {st:St} {q1 e1 q2 e2 q3 e3:Nat} {Q:Ex->St->Prop} (v7:st.V 7 = .ref q1 none e1 0 col.length) (v8:st.V 8 = .ref q2 none e2 0 cuts.length) (v9:st.V 9 = .ref q3 none e3 0 0) (v10:st.V 10=iv (0:Nat)) (h1:q1<q3) (h2:q2<q3) (h3:q3<st.nx) (hS1:st.S q1=some (.row 1 (zab col))) (hS2:st.S q2=some (.row 1 (zab cuts))) (hS3:st.S q3=some (.row 1 []))
  (hQ : ∀ (s':St) (q' e':Nat) (bins:List Int),bins.length=col.length->bins=col.map (fun v=>(zdp cuts v:Int))->(∀ k,k≠9->k≠10->s'.V k=st.V k)->s'.V 9 = .ref q' none e' 0 bins.length->q3<=q'->q'<s'.nx->st.nx<=s'.nx->s'.S q'=some (.row 1 (zab bins))->(∀ k,k<q3->s'.S k=st.S k)->Q (.exit 2) s') :
  W (zad T) (RUN T) (.loop z0d) st Q:=by
 refine zan (fun m s' => ∃ (i q' e':Nat) (bins:List Int),i+m=col.length/\bins.length=i/\bins=(col.take i).map (fun v=>(zdp cuts v:Int))/\(∀ k,k≠9->k≠10->s'.V k=st.V k)/\s'.V 9 = .ref q' none e' 0 bins.length/\s'.V 10=iv i/\q3<=q'/\q'<s'.nx/\st.nx<=s'.nx/\s'.S q'=some (.row 1 (zab bins))/\(∀ k,k<q3->s'.S k=st.S k)) ?_ col.length _ ⟨0,q3,e3,[],by omega,rfl,rfl,fun _ _ _=>rfl,by simpa using v9,by simpa using v10,by omega,h3,Nat.le_refl _,by simpa [zab] using hS3,fun _ _=>rfl⟩;rintro m s' ⟨i,q',e',bins,hi,hb,hbb,hV,v9',v10',hq,hqx,hnx,hSq,hfr⟩;have v7':s'.V 7 = .ref q1 none e1 0 col.length:=by rw [hV 7 (by decide) (by decide)]; exact v7
 have v8':s'.V 8 = .ref q2 none e2 0 cuts.length:=by rw [hV 8 (by decide) (by decide)]; exact v8
 have hS1':s'.S q1=some (.row 1 (zab col)):=by rw [hfr q1 h1]; exact hS1
 have hS2':s'.S q2=some (.row 1 (zab cuts)):=by rw [hfr q2 h2]; exact hS2
 by_cases h:i<col.length
 ·obtain ⟨x,hx⟩ : ∃ x,col[i]?=some x:=⟨_,bG h⟩;have hx':=zax hx;have hw:=wS h (by omega:col.length<=9223372036854775807);have hr1:zag 8 1=true:=by decide
  have hr8:=zbv (n:=bins.length+1) (by omega);have h4:=y9f cuts x (by omega);have hbn:bins++[(zdp cuts x:Int)]=(col.take (i+1)).map (fun v=>(zdp cuts v:Int)):=by rw [zo9 hx,List.map_append,<- hbb]; rfl
  generalize zdp cuts x=y at *;have hsn:=zbn bins (y:Int);have a1:=fr hqx;have a2:=fr (show q1<q' by omega);have a3:=fr (show q2<q' by omega);have a4:=fr (show q1<s'.nx by omega);have a5:=fr (show q2<s'.nx by omega);simp [-getElem?_pos,z0d,v7',v8',v9',v10',hS1',hS2',hSq,h,hx',h4,hw,hr1,hr8,hsn,a1,a2,a3,a4,a5];refine zah (m-1) (by omega) ⟨i+1,s'.nx+1,s'.ep,bins++[(y:Int)],by omega,by simp [hb],hbn,fun k k1 k2 => ?_,by simp,by simp,by omega,by simp,by simp; omega,by simp,fun k k1 => ?_⟩
  ·simp [k1,k2]; exact hV k k1 k2
  ·have b1:(k=s'.nx)=False:=eq_false (by omega);have b2:(k=s'.nx+1)=False:=eq_false (by omega);have b3:(k=q')=False:=eq_false (by omega);simp [b1,b2,b3];exact hfr k k1
 ·have hin:i=col.length:=by omega
  simp [-getElem?_pos,z0d,v7',v10',hS1',h];exact hQ _ q' e' bins (by omega) (by rw [hbb,List.take_of_length_le (by omega)]) (fun k k1 k2=>by simp; exact hV k k1 k2) (by simp [v9']) hq (by simp [hqx]) (by simp [hnx]) (by simp [hSq]) (fun k k1=>by simp; exact hfr k k1)
def LG (S:Nat->Option Ob) (nx:Nat) (C D:List (List Int)) (x y:PV):Prop:=(x = .e0/\y = .e0/\C=[]/\D=[])\/∃ o e o' e',x = .ref o none e 0 C.length/\y = .ref o' none e' 0 D.length/\2<o/\o<nx/\2<o'/\o'<nx/\o≠o'/\S o=some (.row 1 (rws true C))/\S o'=some (.row 1 (rws true D))
theorem LG.mono {S S':Nat->Option Ob} {nx nx':Nat} {C D:List (List Int)} {x y:PV} (h:LG S nx C D x y) (hn:nx<=nx') (hS : ∀ k,2<k->k<nx->S' k=S k):LG S' nx' C D x y:=by
 rcases h with h | ⟨o,e,o',e',h1,h2,h3,h4,h5,h6,h7,h8,h9⟩
 ·exact .inl h
 ·exact .inr ⟨o,e,o',e',h1,h2,h3,by omega,h5,by omega,h7,by rw [hS o h3 h4]; exact h8,by rw [hS o' h5 h6]; exact h9⟩
theorem yaz (q:Bool) (t:Ta) (b:Int) (ht:TaL 1048576 t):RUN T zlh [taS q t,iv b]=some ([.agg [.own 1 (rws true (zbo t b)),.own 1 (rws true (zbp t b))]],[]):=by
 have e1:=yax q t ⟨Nat.le_trans ht.ns (by omega),fun x hx=>Nat.le_trans (ht.ss x hx) (by omega),Nat.le_trans ht.nm (by omega),Nat.le_trans ht.rw (by omega),fun x hx=>Nat.le_trans (ht.rr x hx) (by omega),Nat.le_trans ht.lb (by omega)⟩;have g1:=zba b 2 8;cases hok:zct t with
 | false =>
  have hC:zbo t b=[]:=by unfold zbo; rw [hok]; rfl
  have hW:zbp t b=[]:=by unfold zbp; rw [hok]; rfl
  rw [hC,hW];rw [hok] at e1;simp only [taS] at *;refine zae rfl rfl ?_;simp [-getElem?_pos,ztq,ztr,-za0,e1,show rws true []=[] from rfl]
 | true =>
 cases hbi:zaj b 2 8 with
 | false =>
  have hC:zbo t b=[]:=by unfold zbo; rw [hbi,Bool.and_false]; rfl
  have hW:zbp t b=[]:=by unfold zbp; rw [hbi,Bool.and_false]; rfl
  rw [hC,hW];rw [hok] at e1;rw [hbi] at g1;simp only [taS] at *;refine zae rfl rfl ?_;simp [-getElem?_pos,ztq,ztr,-za0,e1,g1,show rws true []=[] from rfl]
 | true =>
 have hb:=zay.mp hbi;rw [hok] at e1;rw [hbi] at g1;obtain ⟨t1,t2,t3,t4,t5,t6⟩:=zmk hok;have hgC:zbo t b=(List.range t.ns.length).map fun f=>zb3 (zb0 t f) b:=by unfold zbo; rw [hok,hbi]; rfl
 have hgW:zbp t b=(List.range t.ns.length).map (zmx t b):=by unfold zbp; rw [hok,hbi]; rfl
 rw [hgC,hgW];have hr1:zag 24 1=true:=by decide
 have hr0:zag 8 0=true:=by decide
 have cl:=y9h q t;simp only [taS] at *;refine zae rfl rfl ?_;simp [-getElem?_pos,ztq,ztr,-za0,e1,g1];refine zan (fun n st => ∃ (i:Nat) (C D:List (List Int)) (x y:PV),i+n=t.ns.length/\C.length=i/\D.length=i/\C=(List.range i).map (fun f=>zb3 (zb0 t f) b)/\D=(List.range i).map (zmx t b)/\st.V 1=iv b/\st.V 2 = .ptr 0 none 0 0 0/\st.V 4 = .ptr 1 none 0 0 0/\st.V 5 = .ptr 2 none 0 0 0/\st.V 6=iv i/\2<st.nx/\LG st.S st.nx C D x y/\st.S 0=some (.box [.sl 1 (za5 t.ns),.v (.string t.nm),.sl 1 (rws q t.rw),.sl 1 (zab t.lb)])/\st.S 1=some (.box [.e0,.e0])/\st.S 2=some (.box [x,y])) ?_ t.ns.length _ ⟨0,[],[],.e0,.e0,by omega,rfl,rfl,rfl,rfl,by simp,by simp,by simp,by simp,by simp,by simp,.inl ⟨rfl,rfl,rfl,rfl⟩,by simp⟩;rintro n st ⟨i,C,D,x,y,hi,hC,hD,hC8,hD8,v1,v2,v4,v5,v6,hnx,hx,hS0,hS1,hS2⟩;have z1:=fr hnx;have z2:=fr (show 1<st.nx by omega);have z3:=fr (show 0<st.nx by omega)
 by_cases h:i<t.ns.length
 ·have hw:=wS h (by omega:t.ns.length<=9223372036854775807);have h1:=cl i ht h t4 t6;have hcol:(zb0 t i).length=t.rw.length:=by simp [zb0]
  have h2:=y9g (zb0 t i) b (by omega);have hcu:(zb3 (zb0 t i) b).length<=8:=Nat.le_trans (z8w (zb0 t i) b).2.2 (by omega);have hCn:C++[zb3 (zb0 t i) b]=(List.range (i+1)).map (fun f=>zb3 (zb0 t f) b):=by rw [List.range_succ,List.map_append,<- hC8]; rfl
  have hDn:D++[(zb0 t i).map fun v=>(zdp (zb3 (zb0 t i) b) v:Int)]=(List.range (i+1)).map (zmx t b):=by rw [List.range_succ,List.map_append,<- hD8]; rfl
  generalize zb3 (zb0 t i) b=cuts at *;generalize zb0 t i=col at *;simp [-getElem?_pos,z9r,-za0,v1,v2,v4,v5,v6,hS0,hS1,hS2,h,h1,h2,hr0,z1,z2,z3];refine qcv cuts col hcu (by omega) (q1:=st.nx) (q2:=st.nx+1) (q3:=st.nx+2) (by simp; rfl) (by simp; rfl) (by simp; rfl) (by simp) (by omega) (by omega) (by simp) (by simp) (by simp) (by simp) ?_;intro s' q' e' bins hbl hbb hV w9 hq hqx hnx' hSq hfr;simp only at hq hnx';have w1:s'.V 1=iv b:=by rw [hV 1 (by decide) (by decide)]; simp [v1]
  have w2:s'.V 2 = .ptr 0 none 0 0 0:=by rw [hV 2 (by decide) (by decide)]; simp [v2]
  have w4:s'.V 4 = .ptr 1 none 0 0 0:=by rw [hV 4 (by decide) (by decide)]; simp [v4]
  have w5:s'.V 5 = .ptr 2 none 0 0 0:=by rw [hV 5 (by decide) (by decide)]; simp [v5]
  have w6:s'.V 6=iv i:=by rw [hV 6 (by decide) (by decide)]; simp [v6]
  obtain ⟨e8,w8⟩ : ∃ e,s'.V 8 = .ref (st.nx+1) none e 0 cuts.length:=⟨_,by rw [hV 8 (by decide) (by decide)]; simp; rfl⟩;have hT0:s'.S 0=some (.box [.sl 1 (za5 t.ns),.v (.string t.nm),.sl 1 (rws q t.rw),.sl 1 (zab t.lb)]):=by rw [hfr 0 (by omega)]; simp [z1,z2,z3,hS0]
  have hT1:s'.S 1=some (.box [.e0,.e0]):=by rw [hfr 1 (by omega)]; simp [z1,z2,z3,hS1]
  have hT2:s'.S 2=some (.box [x,y]):=by rw [hfr 2 (by omega)]; simp [z1,z2,z3,hS2]
  have hT8:s'.S (st.nx+1)=some (.row 1 (zab cuts)):=by rw [hfr _ (by omega)]; simp
  have hL:LG s'.S s'.nx C D x y:=hx.mono (by omega) (fun k k1 k2=>by
   rw [hfr k (by omega)];have b1:(k=st.nx)=False:=eq_false (by omega);have b2:(k=st.nx+1)=False:=eq_false (by omega);have b3:(k=st.nx+2)=False:=eq_false (by omega);simp [b1,b2,b3])
  have hr24:zag 24 (C.length+1)=true:=by simp [zag]; omega
  have hr24':zag 24 (D.length+1)=true:=by simp [zag]; omega
  have s1:=zml C cuts;have s2:=zml D bins;obtain ⟨p8,hp8⟩ : ∃ p8,p8=st.nx+1:=⟨_,rfl⟩;rw [<- hp8] at w8 hT8;have hp8q:p8<q':=by omega
  have hp82:2<p8:=by omega
  have hL':LG s'.S p8 C D x y:=by
   rcases hx with hx | ⟨o,e,o',e',k1,k2,k3,k4,k5,k6,k7,k8,k9⟩
   ·exact .inl hx
   ·rcases hL with ⟨l1,_⟩ | ⟨o2,e2,o2',e2',l1,l2,l3,l4,l5,l6,l7,l8,l9⟩
    ·rw [k1] at l1; cases l1
    ·rw [k1] at l1; cases l1;rw [k2] at l2; cases l2;exact .inr ⟨o,e,o',e',k1,k2,k3,by omega,k5,by omega,k7,l8,l9⟩
  clear hL hx hfr hV hp8 hS0 hS1 hS2 v1 v2 v4 v5 v6 z1 z2 z3 h1 h2;have a1:=fr hqx;have a2:=fr hp8q;have a3:=fr (show p8<s'.nx by omega);have a4:=fr hp82;have a5:=fr (show 2<q' by omega);have a6:=fr (show 2<s'.nx by omega);have b1:=fr (show 1<p8 by omega);have b2:=fr (show 1<q' by omega);have b3:=fr (show 1<s'.nx by omega);have b4:=fr (show 0<p8 by omega);have b5:=fr (show 0<q' by omega);have b6:=fr (show 0<s'.nx by omega);have nn1 : ¬ s'.nx=1:=by omega
  have nn2 : ¬ s'.nx+1=q':=by omega
  have na : ∀ a b:Nat,s'.nx+a+b=s'.nx+(a+b):=fun a b=>Nat.add_assoc _ _ _;rw [<- hbb] at hDn;rcases hL' with ⟨rfl,rfl,hC0,hD0⟩ | ⟨o,e,o',e',rfl,rfl,ho,hox,ho',hox',hoo,hSo,hSo'⟩
  ·subst hC0 hD0;simp only [List.nil_append] at hCn hDn;simp [-getElem?_pos,w1,w2,w4,w5,w6,w8,w9,hT0,hT1,hT2,hT8,hSq,hw,hr1,na,a1,a2,a3,a4,a5,a6,b1,b2,b3,b4,b5,b6];exact zah (n-1) (by omega) ⟨i+1,[cuts],[bins],.ref (s'.nx+1) none s'.ep 0 1,.ref (s'.nx+3) none s'.ep 0 1,by omega,by simp at hC; simp; omega,by simp at hC; simp; omega,hCn,hDn,by simp [w1],by simp [w2],by simp [w4],by simp [w5],by simp,by first | (simp; done) | (simp; omega),.inr ⟨s'.nx+1,s'.ep,s'.nx+3,s'.ep,rfl,rfl,by omega,by simp,by omega,by simp,by omega,by simp [nn1,nn2,rws,cel]⟩,by simp [a1,a2,a3,a4,a5,a6,b1,b2,b3,b4,b5,b6,hT0,hT1]⟩
  ·have c1:=fr ho;have c2:=fr hox;have c3:=fr ho';have c4:=fr hox';have c5:=fr (show o<q' by omega);have c6:=fr (show o'<q' by omega);have d1:=fr (show o<s'.nx by omega);have d2:=fr (show o'<s'.nx by omega);have d3:=fr (show 1<o by omega);have d4:=fr (show 1<o' by omega);have d5:=fr (show 0<o by omega);have d6:=fr (show 0<o' by omega);have hoo2 : ¬ o'=o:=fun e=>hoo e.symm;have nn3 : ¬ s'.nx+1=o':=by omega
   simp [-getElem?_pos,w1,w2,w4,w5,w6,w8,w9,hT0,hT1,hT2,hT8,hSq,hSo,hSo',hoo,hoo2,hw,hr1,hr24,hr24',s1,s2,na,a1,a2,a3,a4,a5,a6,b1,b2,b3,b4,b5,b6,c1,c2,c3,c4,c5,c6,d1,d2,d3,d4,d5,d6];exact zah (n-1) (by omega) ⟨i+1,C++[cuts],D++[bins],.ref (s'.nx+1) none s'.ep 0 (C.length+1),.ref (s'.nx+3) none s'.ep 0 (D.length+1),by omega,by simp [hC],by simp [hD],hCn,hDn,by simp [w1],by simp [w2],by simp [w4],by simp [w5],by simp,by first | (simp; done) | (simp; omega),.inr ⟨s'.nx+1,s'.ep,s'.nx+3,s'.ep,by simp,by simp,by omega,by simp,by omega,by simp,by omega,by simp [nn1,nn2,nn3]⟩,by simp [a1,a2,a3,a4,a5,a6,b1,b2,b3,b4,b5,b6,c1,c2,c3,c4,c5,c6,d1,d2,d3,d4,d5,d6,hT0,hT1]⟩
 ·have hin:i=t.ns.length:=by omega
  rcases hx with ⟨rfl,rfl,hC0,hD0⟩ | ⟨o,e,o',e',rfl,rfl,ho,hox,ho',hox',hoo,hSo,hSo'⟩
  ·subst hC0;simp at hC; omega
  ·have c1:=fr ho;have c3:=fr ho';have d3:=fr (show 1<o by omega);have d4:=fr (show 1<o' by omega);have d5:=fr (show 0<o by omega);have d6:=fr (show 0<o' by omega);have hoo2 : ¬ o'=o:=fun e=>hoo e.symm;simp [-getElem?_pos,z9r,v1,v2,v4,v5,v6,hS0,hS1,hS2,h,hSo,hSo',hoo,hoo2,c1,c3,d3,d4,d5,d6];rw [hC8,hD8,hin];exact ⟨rfl,rfl⟩
def zym (x:Int):Prop := -1500<=x/\x<=1500
theorem qap (B:List Int) (hB:B.length<=9223372036854775807) (far:Bool) (n:Nat) (hn:n<=3) {st:St} {p o e:Nat} {s:Int} {Q:Ex->St->Prop} (hp:p<=B.length) (v0:st.V 0 = .ptr 0 none 0 0 0) (v3:st.V 3=iv n) (v6:st.V 6=bv far) (v8:st.V 8 = .ref o none e 0 0) (v9:st.V 9=iv (0:Nat)) (ho:0<o) (hox:o<st.nx) (hS0:st.S 0=some (.box [.sl 1 (zbl B),iv p,iv s])) (hSo:st.S o=some (.row 1 []))
  (hQ : ∀ (s':St) (p' o' e':Nat) (sd:Int) (r:List Int),r.length=n->(∀ x∈r,zbe x=true)->(far=false->∀ x∈r,zym x)->p'<=B.length->(∀ k,k≠8->k≠9->k≠10->s'.V k=st.V k)->s'.V 8 = .ref o' none e' 0 n->o<=o'->o'<s'.nx->st.nx<=s'.nx->s'.ep=st.ep->s'.S o'=some (.row 1 (zab r))->s'.S 0=some (.box [.sl 1 (zbl B),iv p',iv sd])->(∀ k,k≠0->k<o->s'.S k=st.S k)->Q (.exit 2) s') :
  W (zad T) (RUN T) (.loop zwa) st Q:=by
 refine zan (fun m s' => ∃ (i p' o' e':Nat) (sd:Int) (r:List Int),i+m=n/\r.length=i/\(∀ x∈r,zbe x=true)/\(far=false->∀ x∈r,zym x)/\p'<=B.length/\(∀ k,k≠8->k≠9->k≠10->s'.V k=st.V k)/\s'.V 8 = .ref o' none e' 0 r.length/\s'.V 9=iv i/\o<=o'/\o'<s'.nx/\st.nx<=s'.nx/\s'.ep=st.ep/\s'.S o'=some (.row 1 (zab r))/\s'.S 0=some (.box [.sl 1 (zbl B),iv p',iv sd])/\(∀ k,k≠0->k<o->s'.S k=st.S k)) ?_ n _ ⟨0,p,o,e,s,[],by omega,rfl,by simp,by simp,hp,fun _ _ _ _=>rfl,by simpa using v8,by simpa using v9,by omega,hox,Nat.le_refl _,rfl,by simpa [zab] using hSo,hS0,fun _ _ _=>rfl⟩;rintro m s' ⟨i,p',o',e',sd,r,hi,hr,hrd,hrs,hp',hV,v8',v9',hoo,hox',hnx,hep,hSo',hS0',hfr⟩;have v0':s'.V 0 = .ptr 0 none 0 0 0:=by rw [hV 0 (by decide) (by decide) (by decide)]; exact v0
 have v3':s'.V 3=iv n:=by rw [hV 3 (by decide) (by decide) (by decide)]; exact v3
 have v6':s'.V 6=bv far:=by rw [hV 6 (by decide) (by decide) (by decide)]; exact v6
 obtain ⟨x1,x2,x3,x4⟩:=fr hox';obtain ⟨g1,g2,g3,g4⟩:=fr (show 0<o' by omega);obtain ⟨z1,z2,z3,z4⟩:=fr (show 0<s'.nx by omega)
 by_cases h:i<n
 ·have hw:=wS h (by omega:n<=9223372036854775807);have hr1:zag 8 1=true:=by decide
  have hr8:=zbv (n:=r.length+1) (by omega);obtain ⟨r1,h1,w1,p1,s1,⟨a1,rfl,had⟩,hp1,rfl⟩:=yay B p' sd hp' hB;cases far with
  | true =>
   have hsn:=zbn r a1;simp [-getElem?_pos,zwa,v0',v3',v6',v8',v9',hSo',hS0',h,h1,hw,hr1,hr8,hsn,g1,g2,g3,g4,x1,x2,x3,x4,z1,z2,z3,z4];refine zah (m-1) (by omega) ⟨i+1,p1,s'.nx+1,s'.ep,s1,r++[a1],by omega,by simp [hr],?_,fun h=>(by cases h),hp1,fun k k1 k2 k3 => ?_,by simp,by simp,by omega,by simp,by simp; omega,by simp [hep],by simp,by simp [g1,g2,g3,g4,x1,x2,x3,x4,z1,z2,z3,z4],fun k k1 k2 => ?_⟩
   ·intro x hx;rcases List.mem_append.mp hx with hx | hx
    ·exact hrd x hx
    ·simp at hx; subst hx; exact had
   ·simp [k1,k2,k3]; exact hV k k1 k2 k3
   ·have e1:(k=s'.nx)=False:=eq_false (by omega);have e2:(k=s'.nx+1)=False:=eq_false (by omega);have e3:(k=o')=False:=eq_false (by omega);have e4:(k=0)=False:=eq_false k1;simp [e1,e2,e3,e4];exact hfr k k1 k2
  | false =>
   obtain ⟨r2,h2,w2,p2,s2,⟨a2,rfl,a20,a21⟩,hp2,rfl⟩:=za9 B p1 s1 hp1 hB 7 (by omega);have a22:=a21 (by omega);have u1:=w64 (x:=a2-3) (by omega) (by omega);have u2:=w64 (x:=500*(a2-3)) (by omega) (by omega);have hsn:=zbn r (500*(a2-3));simp [-getElem?_pos,zwa,v0',v3',v6',v8',v9',hSo',hS0',h,h1,h2,hw,u1,u2,hr1,hr8,hsn,g1,g2,g3,g4,x1,x2,x3,x4,z1,z2,z3,z4];refine zah (m-1) (by omega) ⟨i+1,p2,s'.nx+1,s'.ep,s2,r++[500*(a2-3)],by omega,by simp [hr],?_,?_,hp2,fun k k1 k2 k3 => ?_,by simp,by simp,by omega,by simp,by simp; omega,by simp [hep],by simp,by simp [g1,g2,g3,g4,x1,x2,x3,x4,z1,z2,z3,z4],fun k k1 k2 => ?_⟩
   ·intro x hx;rcases List.mem_append.mp hx with hx | hx
    ·exact hrd x hx
    ·simp at hx; subst hx; exact zus (by omega) (by omega)
   ·intro _ x hx;rcases List.mem_append.mp hx with hx | hx
    ·exact hrs rfl x hx
    ·simp at hx; subst hx; unfold zym; omega
   ·simp [k1,k2,k3]; exact hV k k1 k2 k3
   ·have e1:(k=s'.nx)=False:=eq_false (by omega);have e2:(k=s'.nx+1)=False:=eq_false (by omega);have e3:(k=o')=False:=eq_false (by omega);have e4:(k=0)=False:=eq_false k1;simp [e1,e2,e3,e4];exact hfr k k1 k2
 ·have hin:i=n:=by omega
  subst hin;simp [-getElem?_pos,zwa,v3',v9',h];exact hQ _ p' o' e' sd r hr hrd hrs hp' (fun k k1 k2 k3=>by simp; exact hV k k1 k2 k3) (by simp [v8',hr]) hoo (by simp [hox']) (by simp [hnx]) (by simp [hep]) (by simp [hSo']) (by simp [hS0']) (fun k k1 k2=>by simp; exact hfr k k1 k2)
def PTa (v:PV):Prop := ∃ t:Ta,v=taO t/\TaL 64 t/\zct t=true
def nm4:List ByteArray:=[bs [97],bs [98],bs [99,50],bs [100]]
theorem qbz {n:Nat} (h1:1<=n) (h3:n<=3):zgo (nm4.take n++[bs [121]])=true:=by
 have h:n=1\/n=2\/n=3:=by omega
 rcases h with rfl | rfl | rfl <;> decide +kernel
end Go.Pe
