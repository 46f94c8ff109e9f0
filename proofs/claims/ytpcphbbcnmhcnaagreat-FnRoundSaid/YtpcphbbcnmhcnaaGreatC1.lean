/- What each function answers by the evaluator,and the law; for each answer its own conditions stand ahead of it. -/
import Derived.Test.YtpcphbbcnmhcnaaGreatC0
import Derived.Test.YtpcphbbcnmhcnaaGreatEvB2
import Derived.IntWalk
set_option linter.all false
set_option maxHeartbeats 8000000
set_option maxRecDepth 8000
namespace Go.Pe
open Go
theorem y8f (a b:Wd) (ha:wfU a) (hb:wfU b):RUN T ztg [.agg (wd a),.agg (wd b)]=some ([iv (zk3 a b)],[]):=by
 refine zae rfl rfl ?_;have n1:(a.n && (decide (0<a.h) || decide (0<a.l)))=zfl a:=by
  obtain ⟨h0,_,h1,_⟩:=ha;unfold zfl
  congr 1
  rw [Bool.eq_iff_iff]; simp; omega
 have n2:(b.n && (decide (0<b.h) || decide (0<b.l)))=zfl b:=by
  obtain ⟨h0,_,h1,_⟩:=hb;unfold zfl
  congr 1
  rw [Bool.eq_iff_iff]; simp; omega
 have e1:=zx3 a.n a.h a.l;have e2:=zx3 b.n b.h b.l;rw [n1] at e1;rw [n2] at e2;have e3:=yav ⟨zfl a,a.h,a.l⟩ ⟨zfl b,b.h,b.l⟩;have e4:=yav ⟨zfl b,b.h,b.l⟩ ⟨zfl a,a.h,a.l⟩;have o1:zfb ⟨zfl a,a.h,a.l⟩ ⟨zfl b,b.h,b.l⟩=zfb a b:=rfl;have o2:zfb ⟨zfl b,b.h,b.l⟩ ⟨zfl a,a.h,a.l⟩=zfb b a:=rfl;rw [o1] at e3;rw [o2] at e4;clear o1 o2 n1 n2 ha hb;unfold zk3;generalize zfb a b=x at *;generalize zfb b a=y at *;generalize zfl a=p at *;generalize zfl b=q at *;obtain ⟨an,ah,al⟩:=a;obtain ⟨bn,bh,bl⟩:=b;simp only [wd] at e1 e2 e3 e4 ⊢;cases p <;> cases q <;> simp [z6m,zvz,e1,e2,e3,e4]
structure Fr where
 w:Wd
 d:Int
def frc (f:Fr):List PV:=[bv f.w.n,uv f.w.h,uv f.w.l,iv f.d]
def frB (f:Fr):Bool:=wok f.w && zah f.d 1 1000000
def ze3:Fr:=⟨za8,0⟩
def zfv (w:Wd) (d:Int):Fr×Bool:=if frB ⟨w,d⟩=true then (⟨w,d⟩,true) else (ze3,false)
theorem yaz (f:Fr):RUN T zmf [.agg (frc f)]=some ([bv (frB f)],[]):=by
 refine zae rfl rfl ?_;have e1:=zut f.w;have e2:=zc0 f.d 1 1000000;unfold frB;generalize wok f.w=x at *;generalize zah f.d 1 1000000=y at *;simp only [wd] at e1;cases x <;> simp [z62,ztr,-zbm,e1,e2]
theorem z7t (f:Fr):RUN T zke [.agg (frc f)]=some ([bv (frB f)],[]):=by
 refine zae rfl rfl ?_;have e1:=zuu f.w;have e2:=zbb f.d 1 1000000;unfold frB;generalize wok f.w=x at *;generalize zah f.d 1 1000000=y at *;simp only [wd] at e1;cases x <;> simp [z68,ztr,-za1,e1,e2]
theorem ymd (w:Wd) (d:Int):RUN T zon [.agg (wd w),iv d]=some ([.agg (frc (zfv w d).1),bv (zfv w d).2],[]):=by
 refine zae rfl rfl ?_;have e1:=yaz ⟨w,d⟩;unfold zfv;generalize frB ⟨w,d⟩=x at *;simp only [frc] at e1;cases x <;> simp [z60,z55,frc,ze3,za8,e1]
theorem y8g (a d:Int) (ha:inI a):RUN T ztk [iv a,iv d]=some ([.agg (frc (zfv (zex a a) d).1),bv (zfv (zex a a) d).2],[]):=by
 refine zae rfl rfl ?_;have e1:=y71 a a ha ha;have e2:=ymd (zex a a) d;generalize zex a a=m at *;generalize zfv m d=f at *;obtain ⟨⟨fw,fd⟩,fb⟩:=f;simp only [wd,frc] at e1 e2 ⊢;simp [z6y,z55,e1,e2]
theorem y8h (a d:Int) (ha:inI a):RUN T ztm [iv a,iv d]=some ([.agg (frc (zfv (zex a a) d).1),bv (zfv (zex a a) d).2],[]):=by
 refine zae rfl rfl ?_;have e1:=y72 a a ha ha;have e2:=z7t ⟨zex a a,d⟩;unfold zfv;generalize zex a a=m at *;generalize frB ⟨m,d⟩=x at *;simp only [wd,frc] at e1 e2;cases x <;> simp [z66,z55,frc,ze3,za8,e1,e2]
def frI (f:Fr):Prop:=wfU f.w/\inI f.d
theorem zx5:wfU za8:=⟨by decide,by decide,by decide,by decide⟩
theorem yte (w:Wd) (k:Int) (h:wfU w):wfU (zdl w k).1:=by
 unfold zdl;split
 ·rename_i hc;refine yb1 ?_ (by omega);obtain ⟨h0,h1,h2,h3⟩:=h;exact Int.mul_nonneg (by unfold mag; omega) (by omega)
 ·exact zx5
def zbo (a b:Fr):Wd×Wd×Bool:=if (frB a && frB b)=true then ((zdl a.w b.d).1,(zdl b.w a.d).1,(zdl a.w b.d).2 && (zdl b.w a.d).2) else (za8,za8,false)
theorem ydb (a b:Fr) (ha:wfU a.w) (hb:wfU b.w):wfU (zbo a b).1/\wfU (zbo a b).2.1:=by
 unfold zbo;split
 ·exact ⟨yte _ _ ha,yte _ _ hb⟩
 ·exact ⟨zx5,zx5⟩
theorem yt3 {a b:Fr} (h:(zbo a b).2.2=true):(1<=a.d/\a.d<=1000000)/\1<=b.d/\b.d<=1000000:=by
 unfold zbo at h;split at h
 ·rename_i hc;simp only [frB,Bool.and_eq_true] at hc;exact ⟨zar.mp hc.1.2,zar.mp hc.2.2⟩
 ·cases h
theorem yme (a b:Fr) (ha:frI a) (hb:frI b):RUN T zoi [.agg (frc a),.agg (frc b)]=some ([.agg (wd (zbo a b).1),.agg (wd (zbo a b).2.1),bv (zbo a b).2.2],[]):=by
 refine zae rfl rfl ?_;have e1:=yaz a;have e2:=yaz b;have e3:=yl7 a.w b.d ha.1 hb.2;have e4:=yl7 b.w a.d hb.1 ha.2;unfold zbo;generalize zdl a.w b.d=x at *;generalize zdl b.w a.d=y at *;generalize frB a=p at *;generalize frB b=q at *;obtain ⟨⟨an,ah,al⟩,ad⟩:=a;obtain ⟨⟨bn,bh,bl⟩,bd⟩:=b;obtain ⟨x,xb⟩:=x;obtain ⟨y,yb⟩:=y;simp only [frc,wd] at e1 e2 e3 e4 ⊢;cases p <;> cases q <;> cases xb <;> simp [z6k,z6l,e1,e2,e3,e4,za8]
theorem ymf (a b:Fr) (ha:frI a) (hb:frI b):RUN T zol [.agg (frc a),.agg (frc b)]=some ([.agg (wd (zbo a b).1),.agg (wd (zbo a b).2.1),bv (zbo a b).2.2],[]):=by
 refine zae rfl rfl ?_;have e1:=z7t a;have e2:=z7t b;have e3:=yl8 a.w b.d ha.1 hb.2;have e4:=yl8 b.w a.d hb.1 ha.2;unfold zbo;generalize zdl a.w b.d=x at *;generalize zdl b.w a.d=y at *;generalize frB a=p at *;generalize frB b=q at *;obtain ⟨⟨an,ah,al⟩,ad⟩:=a;obtain ⟨⟨bn,bh,bl⟩,bd⟩:=b;obtain ⟨x,xb⟩:=x;obtain ⟨y,yb⟩:=y;simp only [frc,wd] at e1 e2 e3 e4 ⊢;cases p <;> cases q <;> cases xb <;> simp [z6s,z6l,e1,e2,e3,e4,za8]
def zfz (a b:Fr):Int×Bool:=if (zbo a b).2.2=true then (zk3 (zbo a b).1 (zbo a b).2.1,true) else (0,false)
theorem ymg (a b:Fr) (ha:frI a) (hb:frI b):RUN T zog [.agg (frc a),.agg (frc b)]=some ([iv (zfz a b).1,bv (zfz a b).2],[]):=by
 refine zae rfl rfl ?_;have e1:=yme a b ha hb;obtain ⟨w1,w2⟩:=ydb a b ha.1 hb.1;have e2:=y8f (zbo a b).1 (zbo a b).2.1 w1 w2;unfold zfz;generalize zbo a b=r at *;obtain ⟨x,y,o⟩:=r;simp only at e2 ⊢;generalize zk3 x y=z at *;simp only [frc,wd] at e1 e2 ⊢;cases o <;> simp [z56,zks,e1,e2]
theorem ymh (a b:Fr) (ha:frI a) (hb:frI b):RUN T zoh [.agg (frc a),.agg (frc b)]=some ([iv (zfz a b).1,bv (zfz a b).2],[]):=by
 refine zae rfl rfl ?_;have e1:=ymf a b ha hb;have e2:=y75 (zbo a b).1 (zbo a b).2.1;unfold zfz;generalize zbo a b=r at *;obtain ⟨x,y,o⟩:=r;simp only at e2 ⊢;generalize zk3 x y=z at *;simp only [frc,wd] at e1 e2 ⊢;cases o <;> simp [z6g,zks,e1,e2]
def zi6 (a b:Fr):Fr×Bool:=if (zbo a b).2.2=true then (if (zcu (zbo a b).1 (zbo a b).2.1).2=true then zfv (zcu (zbo a b).1 (zbo a b).2.1).1 (a.d*b.d) else (ze3,false)) else (ze3,false)
theorem yr6 {a b:Int} (h:(1<=a/\a<=1000000)/\1<=b/\b<=1000000):IntKind.i64.wrap (a*b)=a*b:=by
 have h1:a*b<=1000000*1000000:=Int.mul_le_mul h.1.2 h.2.2 (by omega) (by decide);have h2:0<=a*b:=Int.mul_nonneg (by omega) (by omega);exact w64 (by omega) (by omega)
theorem y8i (a b:Fr) (ha:frI a) (hb:frI b):RUN T ztf [.agg (frc a),.agg (frc b)]=some ([.agg (frc (zi6 a b).1),bv (zi6 a b).2],[]):=by
 refine zae rfl rfl ?_;have e1:=yme a b ha hb;obtain ⟨w1,w2⟩:=ydb a b ha.1 hb.1;have e2:=y73 (zbo a b).1 (zbo a b).2.1 w1 w2;have hok := @yt3 a b;have e3:=ymd (zcu (zbo a b).1 (zbo a b).2.1).1 (a.d*b.d);unfold zi6;generalize zbo a b=r at *;obtain ⟨x,y,o⟩:=r;simp only at e2 e3 hok ⊢;generalize zcu x y=s at *;obtain ⟨s,so⟩:=s;simp only at e2 e3 ⊢;cases o with
 | false =>
  simp only [frc,wd] at e1 ⊢;simp [zxs,z55,e1,ze3,za8]
 | true =>
  have hm:=yr6 (hok rfl);generalize zfv s (a.d*b.d)=f at *;obtain ⟨f,fo⟩:=f;simp only [frc,wd] at e1 e2 e3 ⊢;cases so <;> simp [zxs,z55,e1,e2,e3,hm,ze3,za8]
theorem y8j (a b:Fr) (ha:frI a) (hb:frI b):RUN T zti [.agg (frc a),.agg (frc b)]=some ([.agg (frc (zi6 a b).1),bv (zi6 a b).2],[]):=by
 refine zae rfl rfl ?_;have e1:=ymf a b ha hb;obtain ⟨w1,w2⟩:=ydb a b ha.1 hb.1;have e2:=y74 (zbo a b).1 (zbo a b).2.1 w1 w2;have hok := @yt3 a b;have e3:=z7t ⟨(zcu (zbo a b).1 (zbo a b).2.1).1,a.d*b.d⟩;unfold zi6 zfv;generalize zbo a b=r at *;obtain ⟨x,y,o⟩:=r;simp only at e2 e3 hok ⊢;generalize zcu x y=s at *;obtain ⟨s,so⟩:=s;simp only at e2 e3 ⊢;cases o with
 | false =>
  simp only [frc,wd] at e1 ⊢;simp [zxu,z55,e1,ze3,za8]
 | true =>
  have hm:=yr6 (hok rfl);generalize frB ⟨s,a.d*b.d⟩=fo at *;simp only [frc,wd] at e1 e2 e3 ⊢;cases so <;> cases fo <;> simp [zxu,z55,e1,e2,e3,hm,ze3,za8]
structure Cnd where
 f:Int
 b:Int
 a:Sl
 z:Sl
deriving DecidableEq
def cnd (c:Cnd):List PV:=[iv c.f,iv c.b,iv c.a.n,iv c.a.g,iv c.z.n,iv c.z.g]
def zek (c:Cnd):Prop:=inI c.f/\inI c.b/\slI c.a/\slI c.z
structure Bd where
 lo:Int
 hi:Int
def bnd (b:Bd):List PV:=[iv b.lo,iv b.hi]
def zd9 (b:Bd):Bool:=decide (b.lo<=b.hi) && zda b.lo && zda b.hi
def zeb (x lo hi:Int):Int:=if x<lo then lo else if hi<x then hi else x
def zi9 (n l:Int):Bool:=zah n 0 40 && zah l 1 100
def zen (s:Sl) (l:Int) (b:Bd):Int×Bool:=if (zi9 s.n l && zd9 b)=true then (zeb (fdv s.g (s.n+l)).1 b.lo b.hi,true) else (0,false)
def zc8 (s:Sl) (l:Int):Fr×Bool:=if zi9 s.n l=true then zfv (zex s.g s.g) (s.n+l) else (ze3,false)
def zcd (c:Cnd) (l:Int):Fr×Bool:=if ((zc8 c.a l).2 && (zc8 c.z l).2)=true then zi6 (zc8 c.a l).1 (zc8 c.z l).1 else (ze3,false)
theorem ymi (n l:Int):RUN T zn7 [iv n,iv l]=some ([bv (zi9 n l)],[]):=by
 refine zae rfl rfl ?_;have e1:=zc0 n 0 40;have e2:=zc0 l 1 100;unfold zi9;generalize zah n 0 40=x at *;cases x <;> simp [z4t,zvz,-zbm,e1,e2]
theorem ymj (b:Bd):RUN T zn8 [.agg (bnd b)]=some ([bv (zd9 b)],[]):=by
 refine zae rfl rfl ?_;have e1:=yls b.lo;have e2:=yls b.hi;unfold zd9;generalize zda b.lo=x at *;generalize zda b.hi=y at *
 by_cases h:b.lo<=b.hi <;> cases x <;> simp [z4v,ztr,e1,e2,h]
theorem ymk (b:Bd):RUN T zob [.agg (bnd b)]=some ([bv (zd9 b)],[]):=by
 refine zae rfl rfl ?_;have e1:=ylr b.lo;have e2:=ylr b.hi;unfold zd9;generalize zda b.lo=x at *;generalize zda b.hi=y at *
 by_cases h:b.lo<=b.hi <;> cases x <;> simp [z45,ztr,e1,e2,h]
theorem yml (x lo hi:Int):RUN T zn9 [iv x,iv lo,iv hi]=some ([iv (zeb x lo hi)],[]):=by
 refine zae rfl rfl ?_;unfold zeb
 by_cases h1:x<lo
 ·simp [zw7,zzw,h1]
 ·by_cases h2:hi<x <;> simp [zw7,zzw,h1,h2]
theorem ymm (x lo hi:Int):RUN T zoc [iv x,iv lo,iv hi]=some ([iv (zeb x lo hi)],[]):=by
 refine zae rfl rfl ?_;unfold zeb
 by_cases h1:x<lo
 ·simp [zxe,zzw,h1]
 ·by_cases h2:hi<x <;> simp [zxe,zzw,h1,h2]
theorem z8x {n l:Int} (h:zi9 n l=true):IntKind.i64.wrap (n+l)=n+l:=by
 unfold zi9 at h;simp only [Bool.and_eq_true] at h;have h1:=zar.mp h.1;have h2:=zar.mp h.2;exact w64 (by omega) (by omega)
theorem ya0 (s:Sl) (l:Int) (b:Bd) (hs:slI s):RUN T zl1 [.agg (slc s),iv l,.agg (bnd b)]=some ([iv (zen s l b).1,bv (zen s l b).2],[]):=by
 refine zae rfl rfl ?_;have e1:=ymi s.n l;have e2:=ymj b;have e3:=ylq s.g (s.n+l) hs.2;have e4:=yml (fdv s.g (s.n+l)).1 b.lo b.hi;have hw := @z8x s.n l;unfold zen;generalize zi9 s.n l=x at *;generalize zd9 b=y at *;generalize fdv s.g (s.n+l)=q at *;obtain ⟨q,qo⟩:=q;simp only [bnd] at e2;cases x with
 | false=>simp [zws,zwt,e1]
 | true =>
  have hw:=hw rfl;cases y <;> simp [zws,zwt,e1,e2,e3,e4,hw]
theorem ya1 (s:Sl) (l:Int) (b:Bd) (hs:slI s):RUN T zl3 [.agg (slc s),iv l,.agg (bnd b)]=some ([iv (zen s l b).1,bv (zen s l b).2],[]):=by
 refine zae rfl rfl ?_;have e1:=zbb s.n 0 40;have e1':=zbb l 1 100;have e2:=ymk b;have e3:=yal s.g (s.n+l) hs.2;have e4:=ymm (fdv s.g (s.n+l)).1 b.lo b.hi;have hw := @z8x s.n l;unfold zen;unfold zi9 at *;generalize zah s.n 0 40=x at *;generalize zah l 1 100=x' at *;generalize zd9 b=y at *;generalize fdv s.g (s.n+l)=q at *;obtain ⟨q,qo⟩:=q;simp only [bnd] at e2;cases x with
 | false=>simp [zug,zwt,-za1,e1]
 | true =>
  cases x' with
  | false=>simp [zug,zwt,-za1,e1,e1']
  | true =>
   have hw:=hw rfl;cases y <;> simp [zug,zwt,-za1,e1,e1',e2,e3,e4,hw]
theorem y8k (c:Cnd) (h:zek c):RUN T zte [.agg (cnd c)]=some ([.agg (slc (zbk c.a c.z).1),bv (zbk c.a c.z).2],[]):=by
 refine zae rfl rfl ?_;have e1:=yax c.a c.z h.2.2.1 h.2.2.2;generalize zbk c.a c.z=p at *;obtain ⟨⟨pn,pg⟩,pb⟩:=p;simp only [slc] at e1 ⊢;simp [z6i,z6j,e1]
theorem y8l (c:Cnd) (h:zek c):RUN T zth [.agg (cnd c)]=some ([.agg (slc (zbk c.a c.z).1),bv (zbk c.a c.z).2],[]):=by
 refine zae rfl rfl ?_;have e1:=yay c.a c.z h.2.2.1 h.2.2.2;generalize zbk c.a c.z=p at *;obtain ⟨⟨pn,pg⟩,pb⟩:=p;simp only [slc] at e1 ⊢;simp [z6q,z6j,e1]
theorem ya2 (s:Sl) (l:Int) (hs:slI s):RUN T zmd [.agg (slc s),iv l]=some ([.agg (frc (zc8 s l).1),bv (zc8 s l).2],[]):=by
 refine zae rfl rfl ?_;have e1:=ymi s.n l;have e2:=y8g s.g (s.n+l) hs.2;have hw := @z8x s.n l;unfold zc8;generalize zi9 s.n l=x at *;generalize zfv (zex s.g s.g) (s.n+l)=f at *;obtain ⟨⟨fw,fd⟩,fb⟩:=f;simp only [frc] at e2 ⊢;cases x with
 | false=>simp [zxq,z55,e1,ze3,za8]
 | true =>
  have hw:=hw rfl;simp [zxq,z55,e1,e2,hw]
theorem ya3 (s:Sl) (l:Int) (hs:slI s):RUN T zme [.agg (slc s),iv l]=some ([.agg (frc (zc8 s l).1),bv (zc8 s l).2],[]):=by
 refine zae rfl rfl ?_;have e1:=zbb s.n 0 40;have e1':=zbb l 1 100;have e2:=y8h s.g (s.n+l) hs.2;have hw := @z8x s.n l;unfold zc8;unfold zi9 at *;generalize zah s.n 0 40=x at *;generalize zah l 1 100=x' at *;generalize zfv (zex s.g s.g) (s.n+l)=f at *;obtain ⟨⟨fw,fd⟩,fb⟩:=f;simp only [frc] at e2 ⊢;cases x with
 | false=>simp [zun,z55,-za1,e1,ze3,za8]
 | true =>
  cases x' with
  | false=>simp [zun,z55,-za1,e1,e1',ze3,za8]
  | true =>
   have hw:=hw rfl;simp [zun,z55,-za1,e1,e1',e2,hw]
theorem ytj (w:Wd) (d:Int) (hw:wfU w):frI (zfv w d).1:=by
 unfold zfv;split
 ·rename_i h;simp only [frB,Bool.and_eq_true] at h;have:=zar.mp h.2;exact ⟨hw,by unfold inI; simp only; omega⟩
 ·exact ⟨zx5,by unfold inI ze3; simp⟩
theorem z8c:frI ze3:=⟨zx5,by unfold inI ze3; simp⟩
theorem zvs (s:Sl) (l:Int) (hs:slI s):frI (zc8 s l).1:=by
 unfold zc8;split
 ·exact ytj _ _ (qde hs.2 hs.2)
 ·exact z8c
theorem qhj (a b:Fr):frI (zi6 a b).1:=by
 unfold zi6;split
 ·split
  ·exact ytj _ _ (qgh _ _)
  ·exact z8c
 ·exact z8c
theorem zvf (c:Cnd) (l:Int):frI (zcd c l).1:=by
 unfold zcd;split
 ·exact qhj _ _
 ·exact z8c
theorem ya4 (c:Cnd) (l:Int) (h:zek c):RUN T zma [.agg (cnd c),iv l]=some ([.agg (frc (zcd c l).1),bv (zcd c l).2],[]):=by
 refine zae rfl rfl ?_;have e1:=ya2 c.a l h.2.2.1;have e2:=ya2 c.z l h.2.2.2;have e3:=y8i (zc8 c.a l).1 (zc8 c.z l).1 (zvs _ _ h.2.2.1) (zvs _ _ h.2.2.2);unfold zcd;generalize zc8 c.a l=p at *;generalize zc8 c.z l=q at *;obtain ⟨p,pb⟩:=p;obtain ⟨q,qb⟩:=q;simp only at e1 e2 e3 ⊢;generalize zi6 p q=r at *;obtain ⟨r,rb⟩:=r;simp only [frc,slc] at e1 e2 e3 ⊢;cases pb <;> cases qb <;> simp [z54,z55,e1,e2,e3,ze3,za8]
theorem ya5 (c:Cnd) (l:Int) (h:zek c):RUN T zmc [.agg (cnd c),iv l]=some ([.agg (frc (zcd c l).1),bv (zcd c l).2],[]):=by
 refine zae rfl rfl ?_;have e1:=ya3 c.a l h.2.2.1;have e2:=ya3 c.z l h.2.2.2;have e3:=y8j (zc8 c.a l).1 (zc8 c.z l).1 (zvs _ _ h.2.2.1) (zvs _ _ h.2.2.2);unfold zcd;generalize zc8 c.a l=p at *;generalize zc8 c.z l=q at *;obtain ⟨p,pb⟩:=p;obtain ⟨q,qb⟩:=q;simp only at e1 e2 e3 ⊢;generalize zi6 p q=r at *;obtain ⟨r,rb⟩:=r;simp only [frc,slc] at e1 e2 e3 ⊢;cases pb <;> cases qb <;> simp [z6e,z55,e1,e2,e3,ze3,za8]
abbrev cfS (c:Cfg):PV := .agg [iv c.ro,iv c.de,iv c.bi,iv c.la,iv c.rw,iv c.nu,iv c.dn,.sl 1 (zab c.sg)]
def zbw (c:Cfg) (b:Bd) (x:Cnd):Int×Int×Bool:=if ((zen x.a c.la b).2 && (zen x.z c.la b).2)=true then ((zen x.a c.la b).1,(zen x.z c.la b).1,true) else (0,0,false)
def zej (c:Cfg) (f:Int):Int:=(atI c.sg f).getD 0
def zqh (s l r:Int):Bool:=if s=1 then decide (l<=r) else if s = -1 then decide (r<=l) else true
def zpn (x:Cnd) (l:Int):Bool:=(zcd x l).2 && ((zbk x.a x.z).2 && ((zc8 (zbk x.a x.z).1 l).2 && ((zfz (zcd x l).1 (zc8 (zbk x.a x.z).1 l).1).2 && decide (0<(zfz (zcd x l).1 (zc8 (zbk x.a x.z).1 l).1).1))))
def zjy (a b:Cnd):Bool:=decide (a.f<b.f) || (decide (a.f=b.f) && decide (a.b<b.b))
def zd4 (a b:Cnd) (l:Int):Bool:=(zcd a l).2 && ((zcd b l).2 && ((zfz (zcd a l).1 (zcd b l).1).2 && (decide (0<(zfz (zcd a l).1 (zcd b l).1).1) || (decide ((zfz (zcd a l).1 (zcd b l).1).1=0) && zjy a b))))
theorem ymn (c:Cfg) (b:Bd) (x:Cnd) (h:zek x):RUN T znv [cfS c,.agg (bnd b),.agg (cnd x)]=some ([iv (zbw c b x).1,iv (zbw c b x).2.1,bv (zbw c b x).2.2],[]):=by
 have e1:=ya0 x.a c.la b h.2.2.1;have e2:=ya0 x.z c.la b h.2.2.2;unfold zbw;generalize zen x.a c.la b=p at *;generalize zen x.z c.la b=q at *;obtain ⟨p,pb⟩:=p;obtain ⟨q,qb⟩:=q;simp only [slc,bnd] at e1 e2 ⊢;refine zae rfl rfl ?_;cases pb <;> cases qb <;> simp [z2x,z2y,e1,e2]
theorem ymo (c:Cfg) (b:Bd) (x:Cnd) (h:zek x):RUN T znz [cfS c,.agg (bnd b),.agg (cnd x)]=some ([iv (zbw c b x).1,iv (zbw c b x).2.1,bv (zbw c b x).2.2],[]):=by
 have e1:=ya1 x.a c.la b h.2.2.1;have e2:=ya1 x.z c.la b h.2.2.2;unfold zbw;generalize zen x.a c.la b=p at *;generalize zen x.z c.la b=q at *;obtain ⟨p,pb⟩:=p;obtain ⟨q,qb⟩:=q;simp only [slc,bnd] at e1 e2 ⊢;refine zae rfl rfl ?_;cases pb <;> cases qb <;> simp [z3f,z2y,e1,e2]
theorem ymp (c:Cfg) (f:Int) (hl:c.sg.length<=9223372036854775807):RUN T znw [cfS c,iv f]=some ([iv (zej c f)],[]):=by
 refine zae rfl rfl ?_;have hw:=w64 (x:=(c.sg.length:Int)-1) (by omega) (by omega);have e1:=zc0 f 0 ((c.sg.length:Int)-1);unfold zej;cases hs:atI c.sg f with
 | none =>
  have hn:=zjl hs;have:zah f 0 ((c.sg.length:Int)-1)=false:=by
   cases hw:zah f 0 ((c.sg.length:Int)-1) with
   | false=>rfl
   | true=>have:=zar.mp hw; omega
  rw [this] at e1;simp [zwu,zvz,-zbm,e1,hw]
 | some x =>
  obtain ⟨j,rfl,hj,hjl⟩:=zg4 hs;rw [show zah j 0 ((c.sg.length:Int)-1)=true from zar.mpr (by omega)] at e1;have hj':=zay hj;simp [-getElem?_pos,zwu,zvz,-zbm,e1,hw,hj']
theorem ymq (c:Cfg) (f:Int) (hl:c.sg.length<=9223372036854775807):RUN T zn0 [cfS c,iv f]=some ([iv (zej c f)],[]):=by
 refine zae rfl rfl ?_;have hw:=w64 (x:=(c.sg.length:Int)-1) (by omega) (by omega);have e1:=zbb f 0 ((c.sg.length:Int)-1);unfold zej;cases hs:atI c.sg f with
 | none =>
  have hn:=zjl hs;have:zah f 0 ((c.sg.length:Int)-1)=false:=by
   cases hw:zah f 0 ((c.sg.length:Int)-1) with
   | false=>rfl
   | true=>have:=zar.mp hw; omega
  rw [this] at e1;simp [zw0,zvz,-za1,e1,hw]
 | some x =>
  obtain ⟨j,rfl,hj,hjl⟩:=zg4 hs;rw [show zah j 0 ((c.sg.length:Int)-1)=true from zar.mpr (by omega)] at e1;have hj':=zay hj;simp [-getElem?_pos,zw0,zvz,-za1,e1,hw,hj']
theorem y8m (s l r:Int):RUN T zs8 [iv s,iv l,iv r]=some ([bv (zqh s l r)],[]):=by
 refine zae rfl rfl ?_;unfold zqh
 by_cases h1:s=1
 ·simp [zxk,zzw,h1]
 ·by_cases h2:s = -1 <;> simp [zxk,zzw,h1,h2]
theorem y8n (s l r:Int):RUN T ztb [iv s,iv l,iv r]=some ([bv (zqh s l r)],[]):=by
 refine zae rfl rfl ?_;unfold zqh
 by_cases h1:s=1
 ·by_cases h3:l<=r <;> simp [zxm,zzw,h1,h3]
 ·by_cases h2:s = -1 <;> simp [zxm,zzw,h1,h2]
theorem y8o (x:Cnd) (l:Int) (h:zek x):RUN T zs9 [.agg (cnd x),iv l]=some ([bv (zpn x l)],[]):=by
 refine zae rfl rfl ?_;have hp:=zm8 (b:=x.z) h.2.2.1;have e1:=ya4 x l h;have e2:=y8k x h;have e3:=ya2 (zbk x.a x.z).1 l hp;have e4:=ymg (zcd x l).1 (zc8 (zbk x.a x.z).1 l).1 (zvf _ _) (zvs _ _ hp);unfold zpn;generalize zcd x l=g at *;generalize zbk x.a x.z=p at *;obtain ⟨p,pb⟩:=p;simp only at e2 e3 e4 ⊢;generalize zc8 p l=q at *;obtain ⟨g,gb⟩:=g;obtain ⟨q,qb⟩:=q;simp only at e1 e3 e4 ⊢;generalize zfz g q=m at *;obtain ⟨m,mb⟩:=m;simp only [frc,slc,cnd] at e1 e2 e3 e4 ⊢;cases gb <;> cases pb <;> cases qb <;> cases mb <;> simp [z50,zvz,e1,e2,e3,e4]
theorem y8p (x:Cnd) (l:Int) (h:zek x):RUN T ztc [.agg (cnd x),iv l]=some ([bv (zpn x l)],[]):=by
 refine zae rfl rfl ?_;have hp:=zm8 (b:=x.z) h.2.2.1;have e1:=ya5 x l h;have e2:=y8l x h;have e3:=ya3 (zbk x.a x.z).1 l hp;have e4:=ymh (zcd x l).1 (zc8 (zbk x.a x.z).1 l).1 (zvf _ _) (zvs _ _ hp);unfold zpn;generalize zcd x l=g at *;generalize zbk x.a x.z=p at *;obtain ⟨p,pb⟩:=p;simp only at e2 e3 e4 ⊢;generalize zc8 p l=q at *;obtain ⟨g,gb⟩:=g;obtain ⟨q,qb⟩:=q;simp only at e1 e3 e4 ⊢;generalize zfz g q=m at *;obtain ⟨m,mb⟩:=m;simp only [frc,slc,cnd] at e1 e2 e3 e4 ⊢;cases gb <;> cases pb <;> cases qb <;> cases mb <;> simp [z6c,zvz,e1,e2,e3,e4]
theorem y8q (a b:Cnd):RUN T zta [.agg (cnd a),.agg (cnd b)]=some ([bv (zjy a b)],[]):=by
 refine zae rfl rfl ?_;have e1:=ymc a.f b.f;have e2:=ymc a.b b.b;have e3:=yl6 (zcp a.f b.f) (zcp a.b b.b);have hr:zag 8 2=true:=by decide
 have e4:zjy a b=decide ((if zcp a.f b.f=0 then zcp a.b b.b else zcp a.f b.f)<0):=by
  unfold zjy zcp;rw [Bool.eq_iff_iff];simp only [Bool.or_eq_true,Bool.and_eq_true,decide_eq_true_eq];split <;> split <;> (try split) <;> (try split) <;> (try split) <;> (try split) <;> omega
 rw [e4];simp [z58,zvz,e1,e2,e3]
theorem y8r (a b:Cnd):RUN T ztd [.agg (cnd a),.agg (cnd b)]=some ([bv (zjy a b)],[]):=by
 refine zae rfl rfl ?_;unfold zjy
 by_cases h1:a.f<b.f
 ·simp [zxo,zvz,h1]
 ·by_cases h2:a.f=b.f <;> simp [zxo,zvz,h1,h2]
theorem y8s (a b:Cnd) (l:Int) (ha:zek a) (hb:zek b):RUN T zof [.agg (cnd a),.agg (cnd b),iv l]=some ([bv (zd4 a b l)],[]):=by
 have e1:=ya4 a l ha;have e2:=ya4 b l hb;have e3:=ymg (zcd a l).1 (zcd b l).1 (zvf _ _) (zvf _ _);have e4:=y8q a b;unfold zd4;generalize zcd a l=g at *;generalize zcd b l=q at *;generalize zjy a b=le at *;obtain ⟨g,gb⟩:=g;obtain ⟨q,qb⟩:=q;simp only at e1 e2 e3 ⊢;generalize zfz g q=m at *;obtain ⟨m,mb⟩:=m;simp only [frc,cnd] at e1 e2 e3 e4 ⊢;refine zae rfl rfl ?_;cases gb <;> cases qb <;> cases mb <;> by_cases h1:0<m <;> by_cases h2:m=0 <;> simp [z5i,zzw,e1,e2,e3,e4,h1,h2]
theorem y8t (a b:Cnd) (l:Int) (ha:zek a) (hb:zek b):RUN T zl8 [.agg (cnd a),.agg (cnd b),iv l]=some ([bv (zd4 a b l)],[]):=by
 have e1:=ya5 a l ha;have e2:=ya5 b l hb;have e3:=ymh (zcd a l).1 (zcd b l).1 (zvf _ _) (zvf _ _);have e4:=y8r a b;unfold zd4;generalize zcd a l=g at *;generalize zcd b l=q at *;generalize zjy a b=le at *;obtain ⟨g,gb⟩:=g;obtain ⟨q,qb⟩:=q;simp only at e1 e2 e3 ⊢;generalize zfz g q=m at *;obtain ⟨m,mb⟩:=m;simp only [frc,cnd] at e1 e2 e3 e4 ⊢;refine zae rfl rfl ?_;cases gb <;> cases qb <;> cases mb <;> by_cases h1:0<m <;> by_cases h2:m=0 <;> simp [z5t,zzw,e1,e2,e3,e4,h1,h2]
def zdm (c:Cfg) (b:Bd) (x:Cnd):Bool:=zb9 c && ((zbw c b x).2.2 && (decide (c.rw<=x.a.n) && (decide (c.rw<=x.z.n) && (zqh (zej c x.f) (zbw c b x).1 (zbw c b x).2.1 && zpn x c.la))))
theorem y8u (c:Cfg) (b:Bd) (x:Cnd) (h:zek x) (hl:c.sg.length<=9223372036854775807):RUN T zoe [cfS c,.agg (bnd b),.agg (cnd x)]=some ([bv (zdm c b x)],[]):=by
 have e1:=ymn c b x h;have e2:=yaj c hl;have e3:=ymp c x.f hl;have e5:=y8o x c.la h;unfold zdm;generalize zbw c b x=p at *;obtain ⟨p1,p2,pb⟩:=p;have e4:=y8m (zej c x.f) p1 p2;simp only at e1 ⊢;generalize zej c x.f=s at *;generalize zqh s p1 p2=ab at *;generalize zpn x c.la=ib at *;generalize zb9 c=cb at *;simp only [cnd,bnd] at e1 e5 ⊢;refine zae rfl rfl ?_;cases cb <;> cases pb <;> by_cases h1:c.rw<=x.a.n <;> by_cases h2:c.rw<=x.z.n <;> cases ab <;> simp [z5g,zzw,e1,e2,e3,e4,e5,h1,h2]
theorem y8v (c:Cfg) (b:Bd) (x:Cnd) (h:zek x) (hl:c.sg.length<=9223372036854775807):RUN T zkd [cfS c,.agg (bnd b),.agg (cnd x)]=some ([bv (zdm c b x)],[]):=by
 have e1:=ymo c b x h;have e2:=yak c hl;have e3:=ymq c x.f hl;have e5:=y8p x c.la h;unfold zdm;generalize zbw c b x=p at *;obtain ⟨p1,p2,pb⟩:=p;have e4:=y8n (zej c x.f) p1 p2;simp only at e1 ⊢;generalize zej c x.f=s at *;generalize zqh s p1 p2=ab at *;generalize zpn x c.la=ib at *;generalize zb9 c=cb at *;simp only [cnd,bnd] at e1 e5 ⊢;refine zae rfl rfl ?_;cases cb <;> cases pb <;> by_cases h1:c.rw<=x.a.n <;> by_cases h2:c.rw<=x.z.n <;> cases ab <;> simp [z5r,zzw,e1,e2,e3,e4,e5,h1,h2]
def zck (l:List Cnd):List (List PV):=l.map cnd
@[simp] theorem qx4 (l:List Cnd):(zck l).length=l.length:=by simp [zck]
theorem zy8 {l:List Cnd} {i:Nat} {x:Cnd} (h:l[i]?=some x):(zck l)[i]?=some (cnd x):=by simp [zck,h]
def noB (c:Cfg) (b:Bd) (x y:Cnd):Bool := !zdm c b y || !zd4 y x c.la
def zm9 (c:Cfg) (b:Bd) (l:List Cnd) (x:Cnd):Bool:=zdm c b x && l.all (noB c b x)
def zlo:Cnd:=⟨0,0,⟨0,0⟩,⟨0,0⟩⟩
def zfe (c:Cfg) (b:Bd) (l:List Cnd):Cnd×Bool:=match l.find? (zm9 c b l) with
 | some x=>(x,true)
 | none=>(zlo,false)
theorem y8w (c:Cfg) (b:Bd) (l:List Cnd) (hl:l.length<=1048576) (hc:c.sg.length<=1048576) (hi : ∀ x∈l,zek x):RUN T zsw [cfS c,.agg (bnd b),.sl 6 (zck l)]=some ([.agg (cnd (zfe c b l).1),bv (zfe c b l).2],[]):=by
 have eM : ∀ x∈l,RUN T zkd [cfS c,.agg (bnd b),.agg (cnd x)]=some ([bv (zdm c b x)],[]):=fun x hx=>y8v c b x (hi x hx) (by omega);have eB : ∀ x∈l,∀ y∈l,RUN T zl8 [.agg (cnd x),.agg (cnd y),iv c.la]=some ([bv (zd4 x y c.la)],[]):=fun x hx y hy=>y8t x y c.la (hi x hx) (hi y hy);obtain ⟨R,hR⟩ : ∃ R,R=zfe c b l:=⟨_,rfl⟩;unfold zfe at hR;rw [show zfe c b l=R by rw [hR]; rfl];simp only [bnd] at eM ⊢;refine zae rfl rfl ?_;simp [-getElem?_pos,z40,z4p];refine zao (fun n st => ∃ i:Nat,i+n=l.length/\(l.drop i).find? (zm9 c b l)=l.find? (zm9 c b l)/\st.V 2 = .sl 6 (zck l)/\st.V 3 = .ptr 0 none 0 0 0/\st.V 4 = .ptr 1 none 0 0 0/\st.V 6 = .ptr 2 none 0 0 0/\st.V 8=iv i/\st.S 0=some (.box [iv c.ro,iv c.de,iv c.bi,iv c.la,iv c.rw,iv c.nu,iv c.dn,.sl 1 (zab c.sg)])/\st.S 1=some (.box [iv b.lo,iv b.hi])/\st.S 2=some (.box [iv 0,iv 0,iv 0,iv 0,iv 0,iv 0])) ?_ l.length _ ⟨0,by simp⟩;rintro n st ⟨i,hin,hf,v2,v3,v4,v6,v8,hS0,hS1,hS2⟩
 by_cases h:i<l.length
 ·obtain ⟨x,hx⟩ : ∃ x,l[i]?=some x:=⟨_,bG h⟩;have hx':=zy8 hx;have hxm:=bF hx;have hws:=wS h (by omega:l.length<=9223372036854775807);rw [zcr hx,List.find?_cons] at hf;have e1:=eM x hxm;simp only [cnd] at e1;have eB' : ∀ y∈l,RUN T zl8 [.agg [iv y.f,iv y.b,iv y.a.n,iv y.a.g,iv y.z.n,iv y.z.g],.agg [iv x.f,iv x.b,iv x.a.n,iv x.a.g,iv x.z.n,iv x.z.g],iv c.la]=some ([bv (zd4 y x c.la)],[]):=fun y hy=>eB y hy x hxm;have eM' : ∀ y∈l,RUN T zkd [cfS c,.agg [iv b.lo,iv b.hi],.agg [iv y.f,iv y.b,iv y.a.n,iv y.a.g,iv y.z.n,iv y.z.g]]=some ([bv (zdm c b y)],[]):=fun y hy=>eM y hy;clear eM eB;obtain ⟨kb0,hkb⟩ : ∃ k,k=zm9 c b l x:=⟨_,rfl⟩;rw [<- hkb] at hf;have hkb2:kb0=(zdm c b x && (l.drop 0).all (noB c b x)):=by rw [hkb]; rfl
  clear hkb;generalize hmx:zdm c b x=mx at *;simp [-getElem?_pos,yac,v2,v3,v4,v8,hS0,hS1,h,hx',cnd,e1];refine zao (fun n' s => ∃ (j:Nat) (k:Bool),j+n'=l.length/\(k && (l.drop j).all (noB c b x))=kb0/\s.V 2 = .sl 6 (zck l)/\s.V 3 = .ptr 0 none 0 0 0/\s.V 4 = .ptr 1 none 0 0 0/\s.V 6 = .ptr 2 none 0 0 0/\s.V 8=iv i/\s.V 9=bv k/\s.V 10=iv j/\s.S 0=some (.box [iv c.ro,iv c.de,iv c.bi,iv c.la,iv c.rw,iv c.nu,iv c.dn,.sl 1 (zab c.sg)])/\s.S 1=some (.box [iv b.lo,iv b.hi])/\s.S 2=some (.box [iv 0,iv 0,iv 0,iv 0,iv 0,iv 0])) ?_ l.length _ ⟨0,mx,by omega,hkb2.symm,by simp [v2,v3,v4,v6,v8,hS0,hS1,hS2]⟩;clear v2 v3 v4 v6 v8 hS0 hS1 hS2;rintro n' s ⟨j,k,hj,hk,v2,v3,v4,v6,v8,v9,v10,hS0,hS1,hS2⟩
  by_cases hjl:j<l.length
  ·cases k with
   | true =>
    obtain ⟨y,hy⟩ : ∃ y,l[j]?=some y:=⟨_,bG hjl⟩;have hy':=zy8 hy;have hym:=bF hy;have hwj:=wS hjl (by omega:l.length<=9223372036854775807);have e2:=eM' y hym;have e3:=eB' y hym;rw [zcr hy,List.all_cons] at hk;have hno:noB c b x y=(!zdm c b y || !zd4 y x c.la):=rfl;rw [hno] at hk;clear eM' eB' e1 hno;generalize zdm c b y=my at *;generalize zd4 y x c.la=by' at *
    cases my <;> cases by' <;> simp [-getElem?_pos,zxd,v2,v3,v4,v8,hS0,hS1,v9,v10,hjl,hx',hy',cnd,e2,e3,hwj]
    all_goals first
     | exact zai (n'-1) (by omega) ⟨j+1,true,by omega,(by simpa using hk),by simp [v2,v3,v4,v6,v8,hS0,hS1,hS2]⟩
     | exact zai (n'-1) (by omega) ⟨j+1,false,by omega,(by simpa using hk),by simp [v2,v3,v4,v6,v8,hS0,hS1,hS2]⟩
   | false =>
    have hk0:kb0=false:=by rw [<- hk]; rfl
    subst hk0;simp only at hf;simp [-getElem?_pos,zxd,v2,v8,v9,v10,hjl,hws];exact zai (n-1) (by omega) ⟨i+1,by omega,hf,by simp [v2,v3,v4,v6,hS0,hS1,hS2]⟩
  ·rw [bN (by omega)] at hk;simp only [List.all_nil,Bool.and_true] at hk;subst hk;cases k with
   | true =>
    simp only at hf;rw [<- hf] at hR;simp only at hR;subst hR;simp [-getElem?_pos,zxd,v2,v6,v8,hS2,v9,v10,hjl,hx',cnd]
   | false =>
    simp only at hf;simp [-getElem?_pos,zxd,v2,v8,v9,v10,hjl,hws];exact zai (n-1) (by omega) ⟨i+1,by omega,hf,by simp [v2,v3,v4,v6,hS0,hS1,hS2]⟩
 ·rw [bN (by omega)] at hf;rw [<- hf] at hR;simp only [List.find?_nil] at hR;subst hR;simp [-getElem?_pos,yac,v2,v6,v8,hS2,h,zlo,cnd]
theorem qby (a:Wd):zfb a a=0:=by
 have h : ∀ x,zcp x x=0:=fun x=>by
  unfold zcp;rw [if_neg (by omega),if_neg (by omega)]
 unfold zfb;rw [h,h,if_pos rfl]
theorem qco (a:Wd):zk3 a a=0:=by
 unfold zk3;rw [qby];split <;> simp_all
theorem qim (a:Fr):(zfz a a).1=0:=by
 unfold zfz;split
 ·rename_i h;have:(zbo a a).1=(zbo a a).2.1:=by
   unfold zbo;split <;> rfl
  simp only;rw [this,qco]
 ·rfl
theorem qgt (x:Cnd) (l:Int):zd4 x x l=false:=by
 have h1:=qim (zcd x l).1;have h2:zjy x x=false:=by
  unfold zjy;rw [decide_eq_false (show ¬ x.f<x.f by omega),decide_eq_false (show ¬ x.b<x.b by omega)];simp
 unfold zd4;rw [h1,h2];simp
theorem qd2 {p q:Cnd->Bool} (l:List Cnd):(l.filter p).all q=l.all fun y => !p y || q y:=by
 induction l with
 | nil=>rfl
 | cons y l ih =>
  simp only [List.filter_cons,List.all_cons];cases h:p y with
  | true=>simp [ih]
  | false=>simp [ih]
theorem qhx {p q:Cnd->Bool} (l:List Cnd):(l.filter p).find? q=l.find? fun x=>p x && q x:=by
 induction l with
 | nil=>rfl
 | cons y l ih =>
  simp only [List.filter_cons,List.find?_cons];cases h:p y with
  | true =>
   simp only [if_true,List.find?_cons,Bool.true_and];cases q y <;> simp [ih]
  | false=>simp [ih]
theorem qcz (c:Cfg) (b:Bd) (l:List Cnd):l.find? (zm9 c b l)=(l.filter (zdm c b)).find? fun x=>(l.filter (zdm c b)).all fun y => !zd4 y x c.la:=by
 rw [qhx]
 congr 1
 funext x
 unfold zm9;rw [qd2];rfl
theorem y8x (c:Cfg) (b:Bd) (l:List Cnd) (hl:l.length<=1048576) (hc:c.sg.length<=1048576) (hi : ∀ x∈l,zek x):RUN T zss [cfS c,.agg (bnd b),.sl 6 (zck l)]=some ([.agg (cnd (zfe c b l).1),bv (zfe c b l).2],[]):=by
 have eM : ∀ x∈l,RUN T zoe [cfS c,.agg [iv b.lo,iv b.hi],.agg [iv x.f,iv x.b,iv x.a.n,iv x.a.g,iv x.z.n,iv x.z.g]]=some ([bv (zdm c b x)],[]):=fun x hx=>y8u c b x (hi x hx) (by omega);have eB : ∀ x∈l,∀ y∈l,RUN T zof [.agg [iv x.f,iv x.b,iv x.a.n,iv x.a.g,iv x.z.n,iv x.z.g],.agg [iv y.f,iv y.b,iv y.a.n,iv y.a.g,iv y.z.n,iv y.z.g],iv c.la]=some ([bv (zd4 x y c.la)],[]):=fun x hx y hy=>y8s x y c.la (hi x hx) (hi y hy);obtain ⟨R,hR⟩ : ∃ R,R=zfe c b l:=⟨_,rfl⟩;unfold zfe at hR;rw [show zfe c b l=R by rw [hR]; rfl];rw [qcz] at hR;simp only [bnd];refine zae rfl rfl ?_;have hr0:zag 48 0=true:=by decide
 have hr1:zag 48 1=true:=by decide
 simp [-getElem?_pos,z4o,z4p];refine zao (fun n st => ∃ (i o e:Nat) (m:List Cnd),i+n=l.length/\m=(l.take i).filter (zdm c b)/\st.V 3 = .ptr 0 none 0 0 0/\st.V 4 = .ptr 1 none 0 0 0/\st.V 6 = .ptr 2 none 0 0 0/\st.V 8 = .ref o none e 0 m.length/\st.V 17 = .sl 6 (zck l)/\st.V 18=iv l.length/\st.V 19=iv i/\2<o/\o<st.nx/\st.S 0=some (.box [iv c.ro,iv c.de,iv c.bi,iv c.la,iv c.rw,iv c.nu,iv c.dn,.sl 1 (zab c.sg)])/\st.S 1=some (.box [iv b.lo,iv b.hi])/\st.S 2=some (.box [iv 0,iv 0,iv 0,iv 0,iv 0,iv 0])/\st.S o=some (.row 6 (zck m))) ?_ l.length _ ⟨0,3,0,[],by simp [zck]⟩;rintro n st ⟨i,o,e,m,hin,hm,v3,v4,v6,v8,v17,v18,v19,ho,hox,hS0,hS1,hS2,hSo⟩;obtain ⟨a01,a02,a03,a04⟩:=fr (show 0<st.nx by omega);obtain ⟨a11,a12,a13,a14⟩:=fr (show 1<st.nx by omega);obtain ⟨a21,a22,a23,a24⟩:=fr (show 2<st.nx by omega);obtain ⟨a31,a32,a33,a34⟩:=fr (show 0<o by omega);obtain ⟨a41,a42,a43,a44⟩:=fr (show 1<o by omega);obtain ⟨a51,a52,a53,a54⟩:=fr (show 2<o by omega);obtain ⟨a61,a62,a63,a64⟩:=fr (show o<st.nx by omega);obtain ⟨a71,a72,a73,a74⟩:=fr (show o<st.nx+1 by omega)
 by_cases h:i<l.length
 ·obtain ⟨x,hx⟩ : ∃ x,l[i]?=some x:=⟨_,bG h⟩;have hx':=zy8 hx;have hxm:=bF hx;have hws:=wS h (by omega:l.length<=9223372036854775807);have e1:=eM x hxm;have hml:m.length<=i:=by rw [hm]; exact bJ (List.length_filter_le _ _) (by simp; omega)
  have hr48:zag 48 (m.length+1)=true:=by simp [zag]; omega
  have htk:(l.take (i+1)).filter (zdm c b)=if zdm c b x=true then m++[x] else m:=by
   rw [List.take_succ,hx,List.filter_append,<- hm]
   by_cases c':zdm c b x=true <;> simp [c']
  have hsn:zck m++[[iv x.f,iv x.b,iv x.a.n,iv x.a.g,iv x.z.n,iv x.z.g]]=zck (m++[x]):=by simp [zck,cnd]
  clear eM eB hm;cases hmx:zdm c b x with
  | true =>
   rw [hmx] at e1;rw [if_pos hmx] at htk;simp [-getElem?_pos,z4n,v3,v4,v8,v17,v18,v19,hS0,hS1,hSo,h,hx',cnd,e1,hws,hr48,hsn,a01,a11,a61,a63];exact zai (n-1) (by omega) ⟨i+1,st.nx+2,st.ep,m++[x],by omega,htk.symm,by simp [v3],by simp [v4],by simp [v6],by simp,by simp [v17],by simp [v18],by simp,by omega,by simp [a01,a02,a11,a21,a23,a31,a41,a51,hS0,hS1,hS2]⟩
  | false =>
   rw [hmx] at e1;rw [if_neg (by simp [hmx])] at htk;simp [-getElem?_pos,z4n,v3,v4,v17,v18,v19,hS0,hS1,h,hx',cnd,e1,hws,a01,a11];exact zai (n-1) (by omega) ⟨i+1,o,e,m,by omega,htk.symm,by simp [v3],by simp [v4],by simp [v6],by simp [v8],by simp [v17],by simp [v18],by simp,by omega,by simp; omega,by simp [a01,a11,a21,a61,hS0,hS1,hS2,hSo]⟩
 ·rw [List.take_of_length_le (by omega)] at hm;rw [<- hm] at hR;have hmem : ∀ y∈m,y∈l:=fun y hy=>by rw [hm] at hy; exact (List.mem_filter.mp hy).1
  have hml:m.length<=1048576:=by rw [hm]; exact bJ (List.length_filter_le _ _) hl
  simp [-getElem?_pos,z4n,v8,v18,v19,hSo,h];obtain ⟨q,hq⟩ : ∃ q:Cnd->Bool,q=fun x=>m.all fun y => !zd4 y x c.la:=⟨_,rfl⟩;rw [<- hq] at hR;clear eM hm hin;refine zao (fun n st => ∃ i:Nat,i+n=m.length/\(m.drop i).find? q=m.find? q/\st.V 3 = .ptr 0 none 0 0 0/\st.V 4 = .ptr 1 none 0 0 0/\st.V 6 = .ptr 2 none 0 0 0/\st.V 8 = .ref o none e 0 m.length/\st.V 32 = .ref o none e 0 m.length/\st.V 33=iv m.length/\st.V 34=iv i/\2<o/\o<st.nx/\st.S 0=some (.box [iv c.ro,iv c.de,iv c.bi,iv c.la,iv c.rw,iv c.nu,iv c.dn,.sl 1 (zab c.sg)])/\st.S 1=some (.box [iv b.lo,iv b.hi])/\st.S 2=some (.box [iv 0,iv 0,iv 0,iv 0,iv 0,iv 0])/\st.S o=some (.row 6 (zck m))) ?_ m.length _ ⟨0,by simp,by simp,by simp [v3],by simp [v4],by simp [v6],by simp [v8],by simp,by simp,by simp,ho,by simp [hox,hS0,hS1,hS2,hSo]⟩;clear v3 v4 v6 v8 v17 v18 v19 hS0 hS1 hS2 hSo hox ho;clear a01 a02 a03 a04 a11 a12 a13 a14 a21 a22 a23 a24 a31 a32 a33 a34 a41 a42 a43 a44 a51 a52 a53 a54 a61 a62 a63 a64 a71 a72 a73 a74;rintro n st ⟨i,hin,hf,v3,v4,v6,v8,v32,v33,v34,ho,hox,hS0,hS1,hS2,hSo⟩;obtain ⟨b01,b02,b03,b04⟩:=fr (show 0<st.nx by omega);obtain ⟨b11,b12,b13,b14⟩:=fr (show 1<st.nx by omega);obtain ⟨b21,b22,b23,b24⟩:=fr (show 2<st.nx by omega);obtain ⟨b31,b32,b33,b34⟩:=fr (show 0<o by omega);obtain ⟨b41,b42,b43,b44⟩:=fr (show 1<o by omega);obtain ⟨b51,b52,b53,b54⟩:=fr (show 2<o by omega);obtain ⟨b61,b62,b63,b64⟩:=fr (show o<st.nx by omega)
  by_cases h:i<m.length
  ·obtain ⟨x,hx⟩ : ∃ x,m[i]?=some x:=⟨_,bG h⟩;have hx':=zy8 hx;have hxm:=bF hx;have hws:=wS h (by omega:m.length<=9223372036854775807);rw [zcr hx,List.find?_cons] at hf;obtain ⟨kb0,hkb⟩ : ∃ k,k=q x:=⟨_,rfl⟩;rw [<- hkb] at hf;have hkb2:kb0=(true && (m.drop 0).all fun y => !zd4 y x c.la):=by rw [hkb,hq]; rfl
   clear hkb hq;simp [-getElem?_pos,yab,v8,v32,v33,v34,hSo,h,hx',cnd,b61];generalize hpp:st.nx=pp at *;refine zao (fun n' s => ∃ (j:Nat) (k:Bool),j+n'=m.length/\(k && (m.drop j).all fun y => !zd4 y x c.la)=kb0/\s.V 3 = .ptr 0 none 0 0 0/\s.V 4 = .ptr 1 none 0 0 0/\s.V 6 = .ptr 2 none 0 0 0/\s.V 8 = .ref o none e 0 m.length/\s.V 32 = .ref o none e 0 m.length/\s.V 33=iv m.length/\s.V 34=iv i/\s.V 11=iv i/\s.V 12 = .ptr pp none st.ep 0 0/\s.V 13=bv k/\s.V 39 = .ref o none e 0 m.length/\s.V 40=iv m.length/\s.V 41=iv j/\pp<s.nx/\s.S 0=some (.box [iv c.ro,iv c.de,iv c.bi,iv c.la,iv c.rw,iv c.nu,iv c.dn,.sl 1 (zab c.sg)])/\s.S 1=some (.box [iv b.lo,iv b.hi])/\s.S 2=some (.box [iv 0,iv 0,iv 0,iv 0,iv 0,iv 0])/\s.S o=some (.row 6 (zck m))/\s.S pp=some (.box [iv x.f,iv x.b,iv x.a.n,iv x.a.g,iv x.z.n,iv x.z.g])) ?_ m.length _ ⟨0,true,by omega,hkb2.symm,by simp [v3,v4,v6,v8,v32,v33,v34,b01,b11,b21,b61,hS0,hS1,hS2,hSo]⟩;clear v3 v4 v6 v8 v32 v33 v34 hS0 hS1 hS2 hSo;rintro n' s ⟨j,k,hj,hk,v3,v4,v6,v8,v32,v33,v34,v11,v12,v13,v39,v40,v41,hpn,hS0,hS1,hS2,hSo,hSp⟩;obtain ⟨d01,d02,d03,d04⟩:=fr (show 0<s.nx by omega);obtain ⟨d11,d12,d13,d14⟩:=fr (show 1<s.nx by omega);obtain ⟨d21,d22,d23,d24⟩:=fr (show 2<s.nx by omega);obtain ⟨d31,d32,d33,d34⟩:=fr (show 0<o by omega)
   obtain ⟨d41,d42,d43,d44⟩:=fr (show 1<o by omega);obtain ⟨d51,d52,d53,d54⟩:=fr (show 2<o by omega);obtain ⟨d61,d62,d63,d64⟩:=fr (show o<s.nx by omega);obtain ⟨d71,d72,d73,d74⟩:=fr (show 0<pp by omega);obtain ⟨d81,d82,d83,d84⟩:=fr (show 1<pp by omega);obtain ⟨d91,d92,d93,d94⟩:=fr (show 2<pp by omega);obtain ⟨d101,d102,d103,d104⟩:=fr (show o<pp by omega);obtain ⟨d111,d112,d113,d114⟩:=fr (show pp<s.nx by omega);have Z0:=bI d01 <| bI d02 <| bI d03 <| bI d04 <| bI d11 <| bI d12 <| bI d13 <| bI d14 <| bI d21 <| bI d22 <| bI d23 <| bI d24 <| bI d31 <| bI d32 <| bI d33 <| bI d34 <| bI d41 <| bI d42 <| bI d43 <| bI d44 <| bI d51 <| bI d52 <| bI d53 <| bI d54 <| bI d61 <| bI d62 <| bI d63 <| bI d64 <| bI d71 <| bI d72 <| bI d73 <| bI d74 <| bI d81 <| bI d82 <| bI d83 <| bI d84 <| bI d91 <| bI d92 <| bI d93 <| bI d94 <| bI d101 <| bI d102 <| bI d103 <| bI d104 <| bI d111 <| bI d112 <| bI d113 d114
   by_cases hjl:j<m.length
   ·obtain ⟨y,hy⟩ : ∃ y,m[j]?=some y:=⟨_,bG hjl⟩;have hy':=zy8 hy;have hym:=bF hy;have hwj:=wS hjl (by omega:m.length<=9223372036854775807);have e3:=eB y (hmem y hym) x (hmem x hxm);rw [zcr hy,List.all_cons] at hk;clear eB;cases k with
    | false =>
     have hk':(false && (m.drop (j+1)).all fun y => !zd4 y x c.la)=kb0:=by rw [<- hk]; rfl
     simp [-getElem?_pos,zo5,v13,v39,v40,v41,hSo,hjl,hy',cnd,hwj];exact zai (n'-1) (by omega) ⟨j+1,false,by omega,hk',by simp [v3],by simp [v4],by simp [v6],by simp [v8],by simp [v32],by simp [v33],by simp [v34],by simp [v11],by simp [v12],by simp,by simp [v39],by simp [v40],by simp,by simp; omega,by simp [Z0,hS0,hS1,hS2,hSo,hSp]⟩
    | true =>
     by_cases hij:j=i
     ·have hyx:y=x:=by
       subst hij;rw [hx] at hy; exact (Option.some.inj hy).symm
      subst hyx;rw [qgt] at hk;have hk':(true && (m.drop (j+1)).all fun z => !zd4 z y c.la)=kb0:=by rw [<- hk]; rfl
      subst hij;simp [-getElem?_pos,zo5,v11,v13,v39,v40,v41,hSo,hjl,hy',cnd,hwj];exact zai (n'-1) (by omega) ⟨j+1,true,by omega,hk',by simp [v3],by simp [v4],by simp [v6],by simp [v8],by simp [v32],by simp [v33],by simp [v34],by simp [v11],by simp [v12],by simp,by simp [v39],by simp [v40],by simp,by simp; omega,by simp [Z0,hS0,hS1,hS2,hSo,hSp]⟩
     ·have h1:((j:Int)=i)=False:=bK (by omega);have h2:((i:Int)=j)=False:=bK (by omega);have hji : ¬ i=j:=fun e=>hij e.symm;generalize zd4 y x c.la=bb at *;cases bb with
      | true =>
       have hk':(false && (m.drop (j+1)).all fun y => !zd4 y x c.la)=kb0:=by rw [<- hk]; rfl
       simp [-getElem?_pos,zo5,v3,v11,v12,v13,v39,v40,v41,hS0,hSo,hSp,hjl,hy',cnd,hwj,Z0,h1,e3];exact zai (n'-1) (by omega) ⟨j+1,false,by omega,hk',by simp [v3],by simp [v4],by simp [v6],by simp [v8],by simp [v32],by simp [v33],by simp [v34],by simp [v11],by simp [v12],by simp,by simp [v39],by simp [v40],by simp,by simp; omega,by simp [Z0,hS0,hS1,hS2,hSo,hSp]⟩
      | false =>
       have hk':(true && (m.drop (j+1)).all fun y => !zd4 y x c.la)=kb0:=by rw [<- hk]; rfl
       simp [-getElem?_pos,zo5,v3,v11,v12,v13,v39,v40,v41,hS0,hSo,hSp,hjl,hy',cnd,hwj,Z0,h1,e3];exact zai (n'-1) (by omega) ⟨j+1,true,by omega,hk',by simp [v3],by simp [v4],by simp [v6],by simp [v8],by simp [v32],by simp [v33],by simp [v34],by simp [v11],by simp [v12],by simp,by simp [v39],by simp [v40],by simp,by simp; omega,by simp [Z0,hS0,hS1,hS2,hSo,hSp]⟩
   ·rw [bN (by omega)] at hk;simp only [List.all_nil,Bool.and_true] at hk;subst hk;cases k with
    | true =>
     simp only at hf;rw [<- hf] at hR;simp only at hR;subst hR;simp [-getElem?_pos,zo5,v6,v12,v13,v40,v41,hS2,hSp,hjl]
    | false =>
     simp only at hf;simp [-getElem?_pos,zo5,v13,v34,v40,v41,hjl,hws];exact zai (n-1) (by omega) ⟨i+1,by omega,hf,by simp [v3],by simp [v4],by simp [v6],by simp [v8],by simp [v32],by simp [v33],by simp,ho,by simp; omega,by simp [hS0,hS1,hS2,hSo]⟩
  ·rw [bN (by omega)] at hf;rw [<- hf] at hR;simp only [List.find?_nil] at hR;subst hR;simp [-getElem?_pos,yab,v6,v33,v34,hS2,h,zlo,cnd]
def zea (a b:Sl):Sl×Bool:=if ((sbi a.n b.n).2 && (sbi a.g b.g).2)=true then (⟨(sbi a.n b.n).1,(sbi a.g b.g).1⟩,true) else (⟨0,0⟩,false)
theorem yss {a b:Int}:inI (sbi a b).1:=by
 unfold sbi inI;split
 ·rename_i h; simpa using h
 ·simp
theorem qb4 (a b:Sl):slI (zea a b).1:=by
 unfold zea;split
 ·exact ⟨yss,yss⟩
 ·unfold slI inI; simp
def zdg (s:Sl):List Sl->Option (List Sl)
 | []=>some []
 | x::xs=>if (zbk s x).2=true then (zdg (zbk s x).1 xs).map ((zbk s x).1 :: ·) else none
def zcs (h:List Sl):List Sl×Bool:=match zdg ⟨0,0⟩ h with
 | some l=>(l,true)
 | none=>([],false)
theorem ytv : ∀ (h:List Sl) (s:Sl) (l:List Sl),slI s->zdg s h=some l->l.length=h.length/\∀ x∈l,slI x
 | [],s,l,_,e=>by simp [zdg] at e; subst e; simp
 | x::xs,s,l,hs,e=>by
  simp only [zdg] at e;split at e
  ·simp only [bB] at e;obtain ⟨l',h1,rfl⟩:=e;have hp:=zm8 (b:=x) hs;obtain ⟨h2,h3⟩:=ytv xs _ _ hp h1;refine ⟨by simp [h2],fun y hy => ?_⟩;rcases List.mem_cons.mp hy with e | e
   ·subst e; exact hp
   ·exact h3 y e
  ·cases e
theorem z9j:slI ⟨0,0⟩:=⟨by unfold inI; simp,by unfold inI; simp⟩
theorem ydw (h:List Sl):(zcs h).1.length<=h.length/\(∀ x∈(zcs h).1,slI x)/\((zcs h).2=true->(zcs h).1.length=h.length):=by
 unfold zcs;cases e:zdg ⟨0,0⟩ h with
 | none=>simp
 | some l =>
  obtain ⟨h1,h2⟩:=ytv h _ l z9j e;exact ⟨by simp [h1],h2,fun _=>h1⟩
def zfr (f:Int) (all:Sl) (least:Int):Int->List Sl->List Cnd->Option (List Cnd)
 | b,x::y::xs,acc=>if (zea all x).2=true then zfr f all least (b+1) (y::xs) (if least<=x.n/\least<=(zea all x).1.n then acc++[⟨f,b,x,(zea all x).1⟩] else acc) else none
 | _,_,acc=>some acc
def zha (l:List Sl):Sl:=l.getLast?.getD ⟨0,0⟩
def zec (least:Int):Int->List (List Sl)->List Cnd->Option (List Cnd)
 | _,[],acc=>some acc
 | f,h::hs,acc=>if (zcs h).2=true then match zfr f (zha (zcs h).1) least 0 (zcs h).1 acc with
  | some a=>zec least (f+1) hs a
  | none=>none
  else none
def zez (H:List (List Sl)) (least:Int):List Cnd:=(zec least 0 H []).getD []
theorem z8v {f:Int} {all:Sl} {least:Int} {l:List Sl} {i:Nat} {x:Sl} (acc:List Cnd) (hx:l[i]?=some x) (hi:i+1<l.length):zfr f all least i (l.drop i) acc=if (zea all x).2=true then zfr f all least (i+1:Nat) (l.drop (i+1)) (if least<=x.n/\least<=(zea all x).1.n then acc++[⟨f,i,x,(zea all x).1⟩] else acc) else none:=by
 rw [zcr hx,zcr (bG hi),zfr];simp
theorem zu2 {f:Int} {all:Sl} {least:Int} {l:List Sl} {i:Nat} (acc:List Cnd) (hi : ¬ i+1<l.length):zfr f all least i (l.drop i) acc=some acc:=by
 match h:l.drop i with
 | []=>rw [zfr]; simp
 | [x]=>rw [zfr]; simp
 | x::y::xs =>
  have:=congrArg List.length h;simp at this; omega
theorem ytn {l:List Sl} {x:Sl} (h:l[l.length-1]?=some x):zha l=x:=by
 unfold zha; rw [List.getLast?_eq_getElem?,h]; rfl
def zvp (H:List (List Sl)) (x:Cnd):Prop := ∃ (f b:Nat) (h:List Sl),x.f=f/\x.b=b/\H[f]?=some h/\b+1<h.length/\slI x.a/\slI x.z
theorem yc4 {f:Int} {all:Sl} {least:Int} {p:Cnd->Prop} {l:List Sl} (hl : ∀ x∈l,slI x) (hp : ∀ (b:Nat) (x z:Sl),b+1<l.length->slI x->slI z->p ⟨f,b,x,z⟩) : ∀ (k i:Nat) (acc a:List Cnd),i+k=l.length->(∀ x∈acc,p x)->zfr f all least i (l.drop i) acc=some a->a.length<=acc.length+k/\∀ x∈a,p x
 | 0,i,acc,a,hk,ha,h=>by
  rw [zu2 acc (by omega)] at h;cases h;exact ⟨by omega,ha⟩
 | k+1,i,acc,a,hk,ha,h=>by
  by_cases hi:i+1<l.length
  ·obtain ⟨x,hx⟩ : ∃ x,l[i]?=some x:=⟨_,bG (by omega)⟩;rw [z8v acc hx hi] at h;have hxi:=hl x (bF hx);split at h
   ·split at h
    ·obtain ⟨h1,h2⟩:=yc4 hl hp k (i+1) _ _ (by omega) (fun y hy=>by
      rcases bM hy with e | e
      ·exact ha y e
      ·simp only [List.mem_singleton] at e; subst e; exact hp i x _ hi hxi (qb4 _ _)) h
     exact ⟨by simp at h1; omega,h2⟩
    ·obtain ⟨h1,h2⟩:=yc4 hl hp k (i+1) _ _ (by omega) ha h;exact ⟨by omega,h2⟩
   ·cases h
  ·rw [zu2 acc hi] at h;cases h;exact ⟨by omega,ha⟩
theorem z71 {least:Int} {H:List (List Sl)} {i:Nat} {h:List Sl} (acc:List Cnd) (hx:H[i]?=some h):zec least i (H.drop i) acc=if (zcs h).2=true then match zfr i (zha (zcs h).1) least 0 (zcs h).1 acc with
  | some a=>zec least (i+1:Nat) (H.drop (i+1)) a
  | none=>none
  else none:=by
 rw [zcr hx,zec];simp
theorem ynt {least:Int} {H:List (List Sl)} {m:Nat} (hm : ∀ l∈H,l.length<=m) : ∀ (k i:Nat) (acc a:List Cnd),i+k=H.length->(∀ x∈acc,zvp H x)->zec least i (H.drop i) acc=some a->a.length<=acc.length+m*k/\∀ x∈a,zvp H x
 | 0,i,acc,a,hk,ha,h=>by
  rw [bN (by omega),zec] at h;cases h;exact ⟨by omega,ha⟩
 | k+1,i,acc,a,hk,ha,h=>by
  obtain ⟨l,hx⟩ : ∃ x,H[i]?=some x:=⟨_,bG (by omega)⟩;rw [z71 acc hx] at h;obtain ⟨p1,p2,p3⟩:=ydw l;split at h
  ·rename_i hp;split at h
   ·rename_i a' h';have h'':zfr i (zha (zcs l).1) least ((0:Nat):Int) ((zcs l).1.drop 0) acc=some a':=by simpa using h'
    obtain ⟨q1,q2⟩:=yc4 (p:=zvp H) p2 (fun b x z hb hx' hz'=>⟨i,b,l,rfl,rfl,hx,by omega,hx',hz'⟩) (zcs l).1.length 0 acc a' (by omega) ha h'';obtain ⟨r1,r2⟩:=ynt hm k (i+1) a' a (by omega) q2 h;have:=hm l (bF hx);refine ⟨?_,r2⟩;rw [Nat.mul_add];omega
   ·cases h
  ·cases h
theorem yp9 {least:Int} {H:List (List Sl)} {m:Nat} (hm : ∀ l∈H,l.length<=m):(zez H least).length<=m*H.length/\∀ x∈zez H least,zvp H x:=by
 unfold zez;cases h:zec least 0 H [] with
 | none=>simp
 | some a =>
  have h':zec least ((0:Nat):Int) (H.drop 0) []=some a:=by simpa using h
  obtain ⟨h1,h2⟩:=ynt hm H.length 0 [] a (by omega) (fun x hx=>by cases hx) h';exact ⟨by simpa using h1,h2⟩
theorem ydq {H:List (List Sl)} {x:Cnd} (hH:H.length<=1048576) (hl : ∀ l∈H,l.length<=1048576) (h:zvp H x):zek x:=by
 obtain ⟨f,b,l,h1,h2,h3,h4,h5,h6⟩:=h;have:=(bD h3).1;have:=hl l (bF h3);exact ⟨by unfold inI; omega,by unfold inI; omega,h5,h6⟩
theorem ydu {c:Cfg} {b:Bd} {l:List Cnd} (h:(zfe c b l).2=true):(zfe c b l).1∈l/\zdm c b (zfe c b l).1=true/\∀ y∈l,zdm c b y=true->zd4 y (zfe c b l).1 c.la=false:=by
 unfold zfe at h ⊢;cases e:l.find? (zm9 c b l) with
 | none=>rw [e] at h; cases h
 | some x =>
  simp only;have h1:=List.mem_of_find?_eq_some e;have h2:=List.find?_some e;unfold zm9 at h2;simp only [Bool.and_eq_true] at h2;refine ⟨h1,h2.1,fun y hy hm => ?_⟩;have:=List.all_eq_true.mp h2.2 y hy;unfold noB at this;rw [hm] at this;simpa using this
theorem qds : ∀ x y:Nat,2*(x &&& y)+(x ^^^ y)=x+y:=by
 intro x
 induction x using Nat.strongRecOn with
 | _ x ih =>
  intro y
  by_cases hx:x=0
  ·subst hx; simp
  ·have h1:=ih (x / 2) (by omega) (y / 2);have h2:(x &&& y) / 2=x / 2 &&& y / 2:=by rw [Nat.and_div_two]
   have h3:(x ^^^ y) / 2=x / 2 ^^^ y / 2:=by rw [Nat.xor_div_two]
   have h4:(x &&& y) % 2=1↔x % 2=1/\y % 2=1:=Nat.and_mod_two_eq_one;have h5:(x ^^^ y) % 2=1↔¬ (x % 2=1↔y % 2=1):=Nat.xor_mod_two_eq_one;omega
def zc9 (a:Int):Nat:=(a % 18446744073709551616).toNat
theorem z9d {a:Int} (h:inI a):(zc9 a:Int)=if a<0 then a+18446744073709551616 else a:=by
 unfold inI at h;unfold zc9;split <;> omega
theorem z78 (a:Int):zc9 a<18446744073709551616:=by
 unfold zc9; omega
theorem yca {n:Nat} (h:n<18446744073709551616):IntKind.i64.wrap n=if n<9223372036854775808 then (n:Int) else n-18446744073709551616:=by
 split
 ·exact w64 (by omega) (by omega)
 ·simp [IntKind.wrap,IntKind.signed,IntKind.bits];omega
theorem qho (x y:Nat) (hx:x<18446744073709551616) (hy:y<18446744073709551616):(9223372036854775808<=(x &&& y)↔9223372036854775808<=x/\9223372036854775808<=y)/\(9223372036854775808<=(x ^^^ y)↔¬ (9223372036854775808<=x↔9223372036854775808<=y)):=by
 have h1:(x &&& y) >>> 63=x >>> 63 &&& y >>> 63:=Nat.shiftRight_and_distrib;have h2:(x ^^^ y) >>> 63=x >>> 63 ^^^ y >>> 63:=Nat.shiftRight_xor_distrib;rw [Nat.shiftRight_eq_div_pow,Nat.shiftRight_eq_div_pow,Nat.shiftRight_eq_div_pow] at h1 h2;have hx':x / 2 ^ 63=0\/x / 2 ^ 63=1:=by omega
 have hy':y / 2 ^ 63=0\/y / 2 ^ 63=1:=by omega
 rcases hx' with e1 | e1 <;> rcases hy' with e2 | e2 <;> rw [e1,e2] at h1 h2 <;> simp at h1 h2 <;> omega
theorem yp7 {x y:Nat} (hx:x<18446744073709551616):(x &&& y)<18446744073709551616:=Nat.lt_of_le_of_lt Nat.and_le_left hx
theorem qfp {x y:Nat} (hx:x<18446744073709551616) (hy:y<18446744073709551616):(x ^^^ y)<18446744073709551616:=Nat.xor_lt_two_pow (n:=64) hx hy
theorem qhi {a b:Int} (ha:inI a) (hb:inI b):2*IntKind.i64.wrap ((zc9 a &&& zc9 b:Nat):Int)+IntKind.i64.wrap ((zc9 a ^^^ zc9 b:Nat):Int)=a+b:=by
 have la:=z78 a;have lb:=z78 b;have ea:=z9d ha;have eb:=z9d hb;obtain ⟨t1,t2⟩:=qho _ _ la lb;have hs:=qds (zc9 a) (zc9 b);rw [yca (yp7 la),yca (qfp la lb)];unfold inI at ha hb;generalize zc9 a &&& zc9 b=p at *;generalize zc9 a ^^^ zc9 b=q at *;split at ea <;> split at eb <;> split <;> split <;> omega
theorem ys9 {a b:Int} (ha:inI a) (hb:inI b):inI (IntKind.i64.wrap ((zc9 a &&& zc9 b:Nat):Int))/\(IntKind.i64.wrap ((zc9 a &&& zc9 b:Nat):Int) % 2=1↔a % 2=1/\b % 2=1):=by
 have la:=z78 a;have lb:=z78 b;have ea:=z9d ha;have eb:=z9d hb;have h4:(zc9 a &&& zc9 b) % 2=1↔zc9 a % 2=1/\zc9 b % 2=1:=Nat.and_mod_two_eq_one;have hl:=yp7 (y:=zc9 b) la;rw [yca hl];unfold inI at *;generalize zc9 a &&& zc9 b=p at *;split at ea <;> split at eb <;> split <;> omega
def zfi (a b:Int):Int:=(a+b) / 2
theorem y8y (a b:Int) (ha:inI a) (hb:inI b):RUN T zsy [iv a,iv b]=some ([iv (zfi a b)],[]):=by
 refine zae rfl rfl ?_;have h:=qhi ha hb;obtain ⟨h1,_⟩:=ys9 ha hb;unfold zc9 at h h1;unfold inI at ha hb h1;have hb64:IntKind.i64.bits=64:=rfl;simp [z48,zvz,hb64];rw [Int.fdiv_eq_ediv_of_nonneg _ (by omega)];unfold zfi;generalize IntKind.i64.wrap (((a % 18446744073709551616).toNat &&& (b % 18446744073709551616).toNat:Nat):Int)=p at *;generalize IntKind.i64.wrap (((a % 18446744073709551616).toNat ^^^ (b % 18446744073709551616).toNat:Nat):Int)=q at *;rw [w64 (by omega) (by omega)];omega
theorem y8z (a b:Int) (ha:inI a) (hb:inI b):RUN T zsu [iv a,iv b]=some ([iv (zfi a b)],[]):=by
 refine zae rfl rfl ?_;obtain ⟨h1,h2⟩:=ys9 ha hb;unfold zc9 at h1 h2;unfold inI at ha hb h1;have hb64:IntKind.i64.bits=64:=rfl;simp [z4x,zvz,hb64];rw [Int.fdiv_eq_ediv_of_nonneg _ (by omega),Int.fdiv_eq_ediv_of_nonneg _ (by omega)];unfold zfi;generalize IntKind.i64.wrap (((a % 18446744073709551616).toNat &&& (b % 18446744073709551616).toNat:Nat):Int)=p at *;have h3:max (p % 18446744073709551616) 0 % 2=p % 2:=by omega
 rw [h3,w64 (x:=p % 2) (by omega) (by omega),w64 (x:=a / 2+b / 2) (by omega) (by omega),w64 (by omega) (by omega)];omega
def zeo (s:Int) (b:Bd) (l r:Int):Bd×Bd:=if zd9 b=true then (if s=1 then (⟨b.lo,zeb (zfi l r) b.lo b.hi⟩,⟨zeb (zfi l r) b.lo b.hi,b.hi⟩) else if s = -1 then (⟨zeb (zfi l r) b.lo b.hi,b.hi⟩,⟨b.lo,zeb (zfi l r) b.lo b.hi⟩) else (b,b)) else (b,b)
theorem y80 (s:Int) (b:Bd) (l r:Int) (hl:inI l) (hr:inI r):RUN T zsd [iv s,.agg (bnd b),iv l,iv r]=some ([.agg (bnd (zeo s b l r).1),.agg (bnd (zeo s b l r).2)],[]):=by
 have e1:=ymk b;have e2:=y8y l r hl hr;have e3:=ymm (zfi l r) b.lo b.hi;refine zae rfl rfl ?_;unfold zeo;generalize zd9 b=q at *;generalize zeb (zfi l r) b.lo b.hi=m at *;obtain ⟨lo,hi⟩:=b;simp only [bnd] at *;cases q with
 | false=>simp [zui,zud,e1]
 | true =>
  by_cases h1:s=1
  ·simp [zui,zud,e1,e2,e3,h1]
  ·by_cases h2:s = -1 <;> simp [zui,zud,e1,e2,e3,h1,h2]
theorem y81 (s:Int) (b:Bd) (l r:Int) (hl:inI l) (hr:inI r):RUN T zr4 [iv s,.agg (bnd b),iv l,iv r]=some ([.agg (bnd (zeo s b l r).1),.agg (bnd (zeo s b l r).2)],[]):=by
 have e1:=ymj b;have e2:=y8z l r hl hr;have e3:=yml (zfi l r) b.lo b.hi;refine zae rfl rfl ?_;unfold zeo;generalize zd9 b=q at *;generalize zeb (zfi l r) b.lo b.hi=m at *;obtain ⟨lo,hi⟩:=b;simp only [bnd] at *;cases q with
 | false=>simp [zuc,zud,e1,e2,e3]
 | true =>
  by_cases h1:s=1
  ·simp [zuc,zud,e1,e2,e3,h1]
  ·by_cases h2:s = -1 <;> simp [zuc,zud,e1,e2,e3,h1,h2]
theorem y82 (a b:Sl) (ha:slI a) (hb:slI b):RUN T zs4 [.agg (slc a),.agg (slc b)]=some ([.agg (slc (zea a b).1),bv (zea a b).2],[]):=by
 have e1:=yap a.n b.n ha.1 hb.1;have e2:=yap a.g b.g ha.2 hb.2;unfold zea;generalize sbi a.n b.n=x at *;generalize sbi a.g b.g=y at *;obtain ⟨x,xb⟩:=x;obtain ⟨y,yb⟩:=y;simp only at e1 e2 ⊢;refine zae rfl rfl ?_;cases xb <;> cases yb <;> simp [z5n,z5o,e1,e2,slc]
theorem yqb (m:List Sl) (x:Sl):zbh m++[[iv x.n,iv x.g]]=zbh (m++[x]):=by simp [zbh,slc]
theorem yne {s x:Sl} {h:List Sl} {i:Nat} (hx:h[i]?=some x):zdg s (h.drop i)=if (zbk s x).2=true then (zdg (zbk s x).1 (h.drop (i+1))).map ((zbk s x).1 :: ·) else none:=by
 rw [zcr hx,zdg]
theorem y83 (h:List Sl) (hl:h.length<=1048576) (hi : ∀ x∈h,slI x):RUN T zs3 [.sl 2 (zbh h)]=some ([.own 2 (zbh (zcs h).1),bv (zcs h).2],[]):=by
 obtain ⟨R,hR⟩ : ∃ R,R=zcs h:=⟨_,rfl⟩;have hR':R=match zdg ⟨0,0⟩ h with
  | some l=>(l,true)
  | none=>([],false):=by rw [hR]; rfl
 rw [<- hR];clear hR;have hr0:zag 16 0=true:=by decide
 have hr1:zag 16 1=true:=by decide
 refine zae rfl rfl ?_;simp [-getElem?_pos,z5l,z5m];refine zao (fun n st => ∃ (i o e:Nat) (m:List Sl) (s:Sl),i+n=h.length/\m.length=i/\slI s/\zdg ⟨0,0⟩ h=(zdg s (h.drop i)).map (m ++ ·)/\st.V 4 = .ref o none e 0 m.length/\st.V 5 = .ptr 1 none 0 0 0/\st.V 12 = .sl 2 (zbh h)/\st.V 13=iv h.length/\st.V 14=iv i/\¬ o=1/\o<st.nx/\1<st.nx/\st.S o=some (.row 2 (zbh m))/\st.S 1=some (.box [iv s.n,iv s.g])) ?_ h.length _ ⟨0,0,0,[],⟨0,0⟩,by omega,rfl,z9j,by simp [zbh]⟩;rintro n st ⟨i,o,ep,m,s,hin,hm,hs,hp,v4,v5,v12,v13,v14,ho1,hox,h1x,hSo,hS1⟩;obtain ⟨x1,x2,x3,x4⟩:=fr hox;obtain ⟨z1,z2,z3,z4⟩:=fr h1x;obtain ⟨a1,a2,a3,a4⟩:=fr (show o<st.nx+1 by omega);obtain ⟨b1,b2,b3,b4⟩:=fr (show o<st.nx+2 by omega);obtain ⟨c1,c2,c3,c4⟩:=fr (show 1<st.nx+1 by omega);obtain ⟨d1,d2,d3,d4⟩:=fr (show 1<st.nx+2 by omega);have ho2 : ¬ 1=o:=fun e=>ho1 e.symm;have hn0 : ¬ st.nx=0:=by omega
 have hn1 : ¬ 1=st.nx+1:=by omega
 by_cases hlt:i<h.length
 ·obtain ⟨x,hx⟩ : ∃ x,h[i]?=some x:=⟨_,bG hlt⟩;have hx':=zm1 hx;have hws:=wS hlt (by omega:h.length<=9223372036854775807);have hr16:zag 16 (m.length+1)=true:=by simp [zag]; omega
  have e1:=yax s x hs (hi x (bF hx));have hpi:=zm8 (b:=x) hs;rw [yne hx] at hp;generalize zbk s x=p at *;obtain ⟨⟨pn,pg⟩,pb⟩:=p;simp only [slc] at e1 hp hpi;cases pb with
  | false =>
   rw [if_neg (by simp)] at hp;rw [hp] at hR';subst hR';simp [-getElem?_pos,z5k,v5,v12,v13,v14,hlt,hx',hS1,e1,z1];simp [zbh]
  | true =>
   rw [if_pos rfl] at hp;have hsn:=yqb m ⟨pn,pg⟩;simp only at hsn;simp [-getElem?_pos,z5k,v4,v5,v12,v13,v14,hlt,hx',hSo,hS1,hr16,hws,hsn,e1,ho2,hn0,x1,x3,x4,z1];exact zai (n-1) (by omega) ⟨i+1,st.nx+1+2,st.ep,m++[⟨pn,pg⟩],⟨pn,pg⟩,by omega,by simp [hm],hpi,by rw [hp]; cases zdg ⟨pn,pg⟩ (h.drop (i+1)) <;> simp,by simp,by simp [v5],by simp [v12],by simp [v13],by simp,by omega,by simp,by simp <;> omega,by simp⟩
 ·rw [bN (by omega),zdg] at hp;simp only [Option.map_some,List.append_nil] at hp;rw [hp] at hR';subst hR';simp [-getElem?_pos,z5k,v4,v13,v14,hlt,hSo]
theorem y84 (h:List Sl) (hl:h.length<=1048576) (hi : ∀ x∈h,slI x):RUN T zs7 [.sl 2 (zbh h)]=some ([.own 2 (zbh (zcs h).1),bv (zcs h).2],[]):=by
 obtain ⟨R,hR⟩ : ∃ R,R=zcs h:=⟨_,rfl⟩;have hR':R=match zdg ⟨0,0⟩ h with
  | some l=>(l,true)
  | none=>([],false):=by rw [hR]; rfl
 rw [<- hR];clear hR;have hr0:zag 16 0=true:=by decide
 have hr1:zag 16 1=true:=by decide
 refine zae rfl rfl ?_;simp [-getElem?_pos,z5w,z5m];refine zao (fun n st => ∃ (i o e:Nat) (m:List Sl) (s:Sl),i+n=h.length/\m.length=i/\slI s/\zdg ⟨0,0⟩ h=(zdg s (h.drop i)).map (m ++ ·)/\st.V 0 = .sl 2 (zbh h)/\st.V 4 = .ref o none e 0 m.length/\st.V 5 = .ptr 1 none 0 0 0/\st.V 6=iv i/\¬ o=1/\o<st.nx/\1<st.nx/\st.S o=some (.row 2 (zbh m))/\st.S 1=some (.box [iv s.n,iv s.g])) ?_ h.length _ ⟨0,0,0,[],⟨0,0⟩,by omega,rfl,z9j,by simp [zbh]⟩;rintro n st ⟨i,o,ep,m,s,hin,hm,hs,hp,v0,v4,v5,v6,ho1,hox,h1x,hSo,hS1⟩;obtain ⟨x1,x2,x3,x4⟩:=fr hox;obtain ⟨z1,z2,z3,z4⟩:=fr h1x;obtain ⟨a1,a2,a3,a4⟩:=fr (show o<st.nx+1 by omega);obtain ⟨c1,c2,c3,c4⟩:=fr (show 1<st.nx+1 by omega);have ho2 : ¬ 1=o:=fun e=>ho1 e.symm;have hn0 : ¬ st.nx=0:=by omega
 have hn1 : ¬ 1=st.nx+1:=by omega
 by_cases hlt:i<h.length
 ·obtain ⟨x,hx⟩ : ∃ x,h[i]?=some x:=⟨_,bG hlt⟩;have hx':=zm1 hx;have hws:=wS hlt (by omega:h.length<=9223372036854775807);have hr16:zag 16 (m.length+1)=true:=by simp [zag]; omega
  have e1:=yay s x hs (hi x (bF hx));have hpi:=zm8 (b:=x) hs;rw [yne hx] at hp;generalize zbk s x=p at *;obtain ⟨⟨pn,pg⟩,pb⟩:=p;simp only [slc] at e1 hp hpi;cases pb with
  | false =>
   rw [if_neg (by simp)] at hp;rw [hp] at hR';subst hR';simp [-getElem?_pos,z5v,v0,v5,v6,hlt,hx',hS1,e1];simp [zbh]
  | true =>
   rw [if_pos rfl] at hp;have hsn:=yqb m ⟨pn,pg⟩;simp only at hsn;simp [-getElem?_pos,z5v,v0,v4,v5,v6,hlt,hx',hSo,hS1,hr16,hws,hsn,e1,ho1,x1,x3,z1];exact zai (n-1) (by omega) ⟨i+1,st.nx+2,st.ep,m++[⟨pn,pg⟩],⟨pn,pg⟩,by omega,by simp [hm],hpi,by rw [hp]; cases zdg ⟨pn,pg⟩ (h.drop (i+1)) <;> simp,by simp [v0],by simp,by simp [v5],by simp,by omega,by simp,by simp <;> omega,by simp [hn0,ho2]⟩
 ·rw [bN (by omega),zdg] at hp;simp only [Option.map_some,List.append_nil] at hp;rw [hp] at hR';subst hR';simp [-getElem?_pos,z5v,v0,v4,v6,hlt,hSo]
theorem yti (m:List Cnd) (x:Cnd):zck m++[[iv x.f,iv x.b,iv x.a.n,iv x.a.g,iv x.z.n,iv x.z.g]]=zck (m++[x]):=by simp [zck,cnd]
theorem y85 (q:Bool) (H:List (List Sl)) (least:Int) (hH:H.length<=16) (hl : ∀ l∈H,l.length<=16) (hi : ∀ l∈H,∀ x∈l,slI x):RUN T zst [.sl 1 (rss q H),iv least]=some ([.own 6 (zck (zez H least))],[]):=by
 obtain ⟨R,hR⟩ : ∃ R,R=zez H least:=⟨_,rfl⟩;have hR':R=(zec least 0 H []).getD []:=hR;rw [<- hR];clear hR;have hr0:zag 48 0=true:=by decide
 have hr1:zag 48 1=true:=by decide
 refine zae rfl rfl ?_;simp [-getElem?_pos,z4r,z4s];refine zao (fun n st => ∃ (i o e:Nat) (acc:List Cnd),i+n=H.length/\acc.length<=16*i/\zec least i (H.drop i) acc=zec least 0 H []/\st.V 1=iv least/\st.V 5 = .ref o none e 0 acc.length/\st.V 14 = .sl 1 (rss q H)/\st.V 15=iv H.length/\st.V 16=iv i/\o<st.nx/\st.S o=some (.row 6 (zck acc))) ?_ H.length _ ⟨0,0,0,[],by omega,by simp [zck]⟩;rintro n st ⟨i,o,ep,acc,hin,hacc,hF,v1,v5,v14,v15,v16,hox,hSo⟩;obtain ⟨x1,x2,x3,x4⟩:=fr hox
 by_cases hlt:i<H.length
 ·obtain ⟨l,hx⟩ : ∃ x,H[i]?=some x:=⟨_,bG hlt⟩;have hx':=yu7 (q:=q) hx;have hlm:=bF hx;have hws:=wS hlt (by omega:H.length<=9223372036854775807);have hll:=hl l hlm;have e1:=y83 l (by omega) (hi l hlm);obtain ⟨p1,p2,p3⟩:=ydw l;rw [z71 acc hx] at hF;generalize zcs l=p at *;obtain ⟨sums,pb⟩:=p;simp only at e1 p1 p2 p3 hF;cases pb with
  | false =>
   rw [if_neg (by simp)] at hF;rw [<- hF] at hR';subst hR';simp [-getElem?_pos,z4q,v14,v15,v16,hlt,hx',e1];simp [zck]
  | true =>
   rw [if_pos rfl] at hF;have p3:=p3 rfl;simp [-getElem?_pos,z4q,v14,v15,v16,hlt,hx',e1];obtain ⟨tgt,htgt⟩ : ∃ t,t=zfr i (zha sums) least 0 sums acc:=⟨_,rfl⟩;rw [<- htgt] at hF;obtain ⟨p,hpe⟩ : ∃ p,p=st.nx:=⟨_,rfl⟩;refine zao (fun n' s => ∃ (b o' e':Nat) (acc':List Cnd),b+n'=sums.length/\acc'.length<=16*i+b/\zfr i (zha sums) least b (sums.drop b) acc'=tgt/\s.V 1=iv least/\s.V 5 = .ref o' none e' 0 acc'.length/\s.V 6=iv i/\s.V 8 = .ref p none st.ep 0 sums.length/\s.V 10=iv b/\s.V 14 = .sl 1 (rss q H)/\s.V 15=iv H.length/\s.V 16=iv i/\¬ o'=p/\o'<s.nx/\p<s.nx/\s.S o'=some (.row 6 (zck acc'))/\s.S p=some (.row 2 (zbh sums))) ?_ sums.length _ ⟨0,o,ep,acc,by omega,by omega,by rw [htgt]; simp,by simp [v1],by simp [v5],by simp,by simp [hpe],by simp,by simp [v14],by simp [v15],by simp [v16],by omega,by simp; omega,by simp; omega,by simp [x1,hSo,hpe]⟩;clear v1 v5 v14 v15 v16 hox hSo x1 x2 x3 x4;generalize st.ep=ep2;rintro n' s ⟨b,o',e',acc',hbn,hacc',hB,v1,v5,v6,v8,v10,v14,v15,v16,hop,hox,hpx,hSo,hSp⟩;obtain ⟨x1,x2,x3,x4⟩:=fr hox;obtain ⟨z1,z2,z3,z4⟩:=fr hpx;have Z0:=bI z1 <| bI z2 <| bI z3 z4
   obtain ⟨a1,a2,a3,a4⟩:=fr (show o'<s.nx+1 by omega);obtain ⟨c1,c2,c3,c4⟩:=fr (show p<s.nx+1 by omega);have hpo : ¬ p=o':=fun e=>hop e.symm
   by_cases hb:b+1<sums.length
   ·obtain ⟨x,hx⟩ : ∃ x,sums[b]?=some x:=⟨_,bG (by omega)⟩;obtain ⟨y,hy⟩ : ∃ x,sums[sums.length-1]?=some x:=⟨_,bG (by omega)⟩;have hxs:=zm1 hx;have hys:=zm1 hy;have hly:=ytn hy;have w1:IntKind.i64.wrap ((sums.length:Int)-1)=((sums.length-1:Nat):Int):=by rw [w64 (by omega) (by omega)]; omega
    have w2:=w64 (x:=(b:Int)+1) (by omega) (by omega);have k1:b<sums.length-1:=by omega
    have k2:b<sums.length:=by omega
    have k3:sums.length-1<sums.length:=by omega
    have hr48:zag 48 (acc'.length+1)=true:=by simp [zag]; omega
    have e2:=y82 y x (p2 y (bF hy)) (p2 x (bF hx));rw [z8v acc' hx hb,hly] at hB;generalize zea y x=d at *;obtain ⟨⟨dn,dg⟩,db⟩:=d;simp only [slc] at e2 hB;cases db with
    | false =>
     rw [if_neg (by simp)] at hB;rw [<- hB] at hF;simp only at hF;rw [<- hF] at hR';simp only [Option.getD_none] at hR';subst hR';simp [-getElem?_pos,zuk,v8,v10,hSp,hxs,hys,w1,k1,k2,k3,e2];simp [zck]
    | true =>
     rw [if_pos rfl] at hB
     by_cases g1:least<=x.n
     ·by_cases g2:least<=dn
      ·rw [if_pos ⟨g1,g2⟩] at hB;have hsn:=yti acc' ⟨i,b,x,⟨dn,dg⟩⟩;simp only at hsn;simp [-getElem?_pos,zuk,v1,v5,v6,v8,v10,hSo,hSp,hxs,hys,w1,w2,k1,k2,k3,e2,g1,g2,hr48,hsn,x1,x3,Z0];refine zai (n'-1) (by omega) ⟨b+1,s.nx+2,s.ep,acc'++[⟨i,b,x,⟨dn,dg⟩⟩],by omega,by simp; omega,by rw [hly]; exact hB,by simp [v1],by simp,by simp [v6],by simp [v8],by simp,by simp [v14],by simp [v15],by simp [v16],by omega,by simp,by simp; omega,by simp [hpo,Z0,hSp]⟩
      ·rw [if_neg (fun h=>g2 h.2)] at hB;simp [-getElem?_pos,zuk,v1,v8,v10,hSp,hxs,hys,w1,w2,k1,k2,k3,e2,g1,g2,Z0];refine zai (n'-1) (by omega) ⟨b+1,o',e',acc',by omega,by omega,by rw [hly]; exact hB,by simp [v1],by simp [v5],by simp [v6],by simp [v8],by simp,by simp [v14],by simp [v15],by simp [v16],hop,by simp; omega,by simp; omega,by simp [x1,hSo,Z0,hSp]⟩
     ·rw [if_neg (fun h=>g1 h.1)] at hB;simp [-getElem?_pos,zuk,v1,v8,v10,hSp,hxs,hys,w1,w2,k1,k2,k3,e2,g1,Z0];refine zai (n'-1) (by omega) ⟨b+1,o',e',acc',by omega,by omega,by rw [hly]; exact hB,by simp [v1],by simp [v5],by simp [v6],by simp [v8],by simp,by simp [v14],by simp [v15],by simp [v16],hop,by simp; omega,by simp; omega,by simp [x1,hSo,Z0,hSp]⟩
   ·rw [zu2 acc' hb] at hB;rw [<- hB] at hF;simp only at hF;have w1:IntKind.i64.wrap ((sums.length:Int)-1)=(sums.length:Int)-1:=w64 (by omega) (by omega);have k1 : ¬ (b:Int)<(sums.length:Int)-1:=by omega
    simp [-getElem?_pos,zuk,v8,v10,v16,hSp,w1,k1,hws];exact zai (n-1) (by omega) ⟨i+1,o',e',acc',by omega,by omega,hF,by simp [v1,v5,v14,v15,hox,hSo]⟩
 ·rw [bN (by omega),zec] at hF;rw [<- hF] at hR';simp only [Option.getD_some] at hR';subst hR';simp [-getElem?_pos,z4q,v5,v15,v16,hlt,hSo]
theorem y86 (q:Bool) (H:List (List Sl)) (least:Int) (hH:H.length<=16) (hl : ∀ l∈H,l.length<=16) (hi : ∀ l∈H,∀ x∈l,slI x):RUN T zsx [.sl 1 (rss q H),iv least]=some ([.own 6 (zck (zez H least))],[]):=by
 obtain ⟨R,hR⟩ : ∃ R,R=zez H least:=⟨_,rfl⟩;have hR':R=(zec least 0 H []).getD []:=hR;rw [<- hR];clear hR;have hr0:zag 48 0=true:=by decide
 have hr1:zag 48 1=true:=by decide
 refine zae rfl rfl ?_;simp [-getElem?_pos,z43,z4s];refine zao (fun n st => ∃ (i o e:Nat) (acc:List Cnd),i+n=H.length/\acc.length<=16*i/\zec least i (H.drop i) acc=zec least 0 H []/\st.V 1=iv least/\st.V 5 = .ref o none e 0 acc.length/\st.V 0 = .sl 1 (rss q H)/\st.V 6=iv i/\o<st.nx/\st.S o=some (.row 6 (zck acc))) ?_ H.length _ ⟨0,0,0,[],by omega,by simp [zck]⟩;rintro n st ⟨i,o,ep,acc,hin,hacc,hF,v1,v5,v0,v6,hox,hSo⟩;obtain ⟨x1,x2,x3,x4⟩:=fr hox
 by_cases hlt:i<H.length
 ·obtain ⟨l,hx⟩ : ∃ x,H[i]?=some x:=⟨_,bG hlt⟩;have hx':=yu7 (q:=q) hx;have hlm:=bF hx;have hws:=wS hlt (by omega:H.length<=9223372036854775807);have hll:=hl l hlm;have e1:=y84 l (by omega) (hi l hlm);obtain ⟨p1,p2,p3⟩:=ydw l;rw [z71 acc hx] at hF;generalize zcs l=p at *;obtain ⟨sums,pb⟩:=p;simp only at e1 p1 p2 p3 hF;cases pb with
  | false =>
   rw [if_neg (by simp)] at hF;rw [<- hF] at hR';subst hR';simp [-getElem?_pos,z42,v0,v6,hlt,hx',e1];simp [zck]
  | true =>
   rw [if_pos rfl] at hF;have p3:=p3 rfl;simp [-getElem?_pos,z42,v0,v6,hlt,hx',e1];obtain ⟨tgt,htgt⟩ : ∃ t,t=zfr i (zha sums) least 0 sums acc:=⟨_,rfl⟩;rw [<- htgt] at hF;obtain ⟨p,hpe⟩ : ∃ p,p=st.nx:=⟨_,rfl⟩;refine zao (fun n' s => ∃ (b o' e':Nat) (acc':List Cnd),b+n'=sums.length/\acc'.length<=16*i+b/\zfr i (zha sums) least b (sums.drop b) acc'=tgt/\s.V 0 = .sl 1 (rss q H)/\s.V 1=iv least/\s.V 5 = .ref o' none e' 0 acc'.length/\s.V 6=iv i/\s.V 7 = .ref p none st.ep 0 sums.length/\s.V 9=iv b/\¬ o'=p/\o'<s.nx/\p<s.nx/\s.S o'=some (.row 6 (zck acc'))/\s.S p=some (.row 2 (zbh sums))) ?_ sums.length _ ⟨0,o,ep,acc,by omega,by omega,by rw [htgt]; simp,by simp [v0],by simp [v1],by simp [v5],by simp [v6],by simp [hpe],by simp,by omega,by simp; omega,by simp; omega,by simp [x1,hSo,hpe]⟩;clear v0 v1 v5 v6 hox hSo x1 x2 x3 x4;generalize st.ep=ep2;rintro n' s ⟨b,o',e',acc',hbn,hacc',hB,v0,v1,v5,v6,v7,v9,hop,hox,hpx,hSo,hSp⟩;obtain ⟨x1,x2,x3,x4⟩:=fr hox;obtain ⟨z1,z2,z3,z4⟩:=fr hpx;obtain ⟨a1,a2,a3,a4⟩:=fr (show o'<s.nx+1 by omega);obtain ⟨c1,c2,c3,c4⟩:=fr (show p<s.nx+1 by omega);have hpo : ¬ p=o':=fun e=>hop e.symm;have Z0:=bI hpo <| bI x1 <| bI x2 <| bI x3 <| bI x4 <| bI z1 <| bI z2 <| bI z3 z4
   by_cases hb:b+1<sums.length
   ·obtain ⟨x,hx⟩ : ∃ x,sums[b]?=some x:=⟨_,bG (by omega)⟩;obtain ⟨y,hy⟩ : ∃ x,sums[sums.length-1]?=some x:=⟨_,bG (by omega)⟩;have hxs:=zm1 hx;have hys:=zm1 hy;have hly:=ytn hy;have w1:IntKind.i64.wrap ((sums.length:Int)-1)=((sums.length-1:Nat):Int):=by rw [w64 (by omega) (by omega)]; omega
    have w2:=w64 (x:=(b:Int)+1) (by omega) (by omega);have k1:(b:Int)+1<(sums.length:Int):=by omega
    have k2:b<sums.length:=by omega
    have k3:sums.length-1<sums.length:=by omega
    have hr48:zag 48 (acc'.length+1)=true:=by simp [zag]; omega
    have e2:=yaq y.n x.n (p2 y (bF hy)).1 (p2 x (bF hx)).1;have e3:=yaq y.g x.g (p2 y (bF hy)).2 (p2 x (bF hx)).2;rw [z8v acc' hx hb,hly] at hB;unfold zea at hB;generalize sbi y.n x.n=d at *;generalize sbi y.g x.g=d' at *;obtain ⟨dn,db⟩:=d;obtain ⟨dg,db'⟩:=d';simp only at e2 e3 hB;obtain ⟨dd,hdd⟩ : ∃ dd,dd=(db && db'):=⟨_,rfl⟩;rw [<- hdd] at hB;cases dd with
    | false =>
     simp only [Bool.false_eq_true,if_false] at hB;rw [<- hB] at hF;simp only at hF;rw [<- hF] at hR';simp only [Option.getD_none] at hR';subst hR';cases db with
     | false =>
      simp [-getElem?_pos,zo8,v7,v9,hSp,hxs,hys,w1,w2,k1,k2,k3,e2,e3,Z0];simp [zck]
     | true =>
      have hd2:db'=false:=by simpa using hdd.symm
      subst hd2;simp [-getElem?_pos,zo8,v7,v9,hSp,hxs,hys,w1,w2,k1,k2,k3,e2,e3,Z0];simp [zck]
    | true =>
     obtain ⟨hd1,hd2⟩:db=true/\db'=true:=by simpa using hdd.symm
     subst hd1 hd2;simp only [if_true] at hB
     by_cases g1:least<=x.n
     ·by_cases g2:least<=dn
      ·rw [if_pos ⟨g1,g2⟩] at hB;have hsn:=yti acc' ⟨i,b,x,⟨dn,dg⟩⟩;simp only at hsn;simp [-getElem?_pos,zo8,v1,v5,v6,v7,v9,hSo,hSp,hxs,hys,w1,w2,k1,k2,k3,e2,e3,Z0,g1,g2,hr48,hsn];refine zai (n'-1) (by omega) ⟨b+1,s.nx+2,s.ep,acc'++[⟨i,b,x,⟨dn,dg⟩⟩],by omega,by simp; omega,by rw [hly]; exact hB,by simp [v0],by simp [v1],by simp,by simp [v6],by simp [v7],by simp,by omega,by simp,by simp; omega,by simp [Z0,hSp]⟩
      ·rw [if_neg (fun h=>g2 h.2)] at hB;simp [-getElem?_pos,zo8,v1,v7,v9,hSp,hxs,hys,w1,w2,k1,k2,k3,e2,e3,Z0,g1,g2];refine zai (n'-1) (by omega) ⟨b+1,o',e',acc',by omega,by omega,by rw [hly]; exact hB,by simp [v0],by simp [v1],by simp [v5],by simp [v6],by simp [v7],by simp,hop,by simp; omega,by simp; omega,by simp [x1,hSo,z1,hSp]⟩
     ·rw [if_neg (fun h=>g1 h.1)] at hB;simp [-getElem?_pos,zo8,v1,v7,v9,hSp,hxs,hys,w1,w2,k1,k2,k3,e2,e3,Z0,g1];refine zai (n'-1) (by omega) ⟨b+1,o',e',acc',by omega,by omega,by rw [hly]; exact hB,by simp [v0],by simp [v1],by simp [v5],by simp [v6],by simp [v7],by simp,hop,by simp; omega,by simp; omega,by simp [x1,hSo,z1,hSp]⟩
   ·rw [zu2 acc' hb] at hB;rw [<- hB] at hF;simp only at hF;have w1:IntKind.i64.wrap ((sums.length:Int)-1)=(sums.length:Int)-1:=w64 (by omega) (by omega);have w2:=w64 (x:=(b:Int)+1) (by omega) (by omega);have k1 : ¬ (b:Int)+1<(sums.length:Int):=by omega
    simp [-getElem?_pos,zo8,v6,v7,v9,hSp,w2,k1,hws];exact zai (n-1) (by omega) ⟨i+1,o',e',acc',by omega,by omega,hF,by simp [v1,v5,v0,hox,hSo]⟩
 ·rw [bN (by omega),zec] at hF;rw [<- hF] at hR';simp only [Option.getD_some] at hR';subst hR';simp [-getElem?_pos,z42,v0,v5,v6,hlt,hSo]
def zaw (c v:List (List Int)) (g:List Int) (cfg:Cfg) (rows:List Int) (b:Bd):Cnd×Bool:=if ze9 c v g cfg=true then (if (zbz c v g rows).2=true then zfe cfg b (zez (zbz c v g rows).1 cfg.rw) else (zlo,false)) else (zlo,false)
theorem yu5 {b g:List Int} : ∀ (rows:List Int) (h h':List Sl),(∀ x∈h,slI x)->zco b g rows h=some h'->∀ x∈h',slI x
 | [],h,h',hh,e=>by simp [zco] at e; subst e; exact hh
 | r::rs,h,h',hh,e=>by
  simp only [zco] at e;split at e
  ·split at e
   ·rename_i s hs;split at e
    ·refine yu5 rs _ _ (fun x hx => ?_) e;rcases List.mem_or_eq_of_mem_set hx with h1 | h1
     ·exact hh x h1
     ·subst h1;obtain ⟨_,_,h3,_⟩:=zg4 hs;exact zm8 (hh _ (bF h3))
    ·cases e
   ·cases e
  ·cases e
theorem qgc (b g rows:List Int) (k:Int) : ∀ x∈(zcm b g rows k).1,slI x:=by
 unfold zcm;split
 ·cases h:zco b g rows (List.replicate k.toNat ⟨0,0⟩) with
  | none=>simp
  | some h'=>exact yu5 _ _ _ (fun x hx=>by rw [List.eq_of_mem_replicate hx]; exact z9j) h
 ·simp
theorem yq9 {g rows:List Int} : ∀ (c v:List (List Int)) (H:List (List Sl)),zb3 g rows c v=some H->∀ l∈H,∀ x∈l,slI x
 | [],v,H,h=>by simp [zb3] at h; subst h; simp
 | x::c,[],H,h=>by simp [zb3] at h; subst h; simp
 | x::c,y::v,H,h=>by
  simp only [zb3] at h;split at h
  ·simp only [bB] at h;obtain ⟨H',h1,rfl⟩:=h;intro l hl;rcases List.mem_cons.mp hl with e | e
   ·subst e; exact qgc _ _ _ _
   ·exact yq9 c v H' h1 l e
  ·cases h
theorem ynk (c v:List (List Int)) (g rows:List Int) : ∀ l∈(zbz c v g rows).1,∀ x∈l,slI x:=by
 unfold zbz;split
 ·cases h:zb3 g rows c v with
  | none=>simp
  | some H=>exact yq9 c v H h
 ·simp
theorem zye (c v:List (List Int)) (g rows:List Int):(zbz c v g rows).1.length<=4:=by
 by_cases h:zdb c v=true
 ·have:=(zqa c v g rows).1;have:=zy9 h;omega
 ·unfold zbz;rw [if_neg h]; simp
theorem ynj (c v:List (List Int)) (g rows:List Int) (least:Int):(zez (zbz c v g rows).1 least).length<=1048576/\∀ x∈zez (zbz c v g rows).1 least,zek x:=by
 have h1:=zye c v g rows;have h2:=(zqa c v g rows).2;obtain ⟨h3,h4⟩:=yp9 (least:=least) h2;exact ⟨by omega,fun x hx=>ydq (by omega) (fun l hl=>bJ (h2 l hl) (by omega)) (h4 x hx)⟩
theorem y87 (q:Bool) (c v:List (List Int)) (g:List Int) (cfg:Cfg) (rows:List Int) (b:Bd) (hc : ∀ l∈c,l.length<=1048576) (hv : ∀ l∈v,l.length<=1048576) (hg:g.length<=1048576) (hr:rows.length<=1048576) (hs:cfg.sg.length<=1048576) (hgi : ∀ x∈g,inI x):RUN T zr2 [.agg [.sl 1 (rws q c),.sl 1 (rws q v)],.sl 1 (zab g),cfS cfg,.sl 1 (zab rows),.agg (bnd b)]=some ([.agg (cnd (zaw c v g cfg rows b).1),bv (zaw c v g cfg rows b).2],[]):=by
 have e1:=ylx q c v g cfg (fun l hl=>bJ (hc l hl) (by omega)) (fun l hl=>bJ (hv l hl) (by omega)) (by omega) (by omega);have e2:=y8d q c v g rows hc hv hg hr hgi;obtain ⟨f1,f2⟩:=ynj c v g rows cfg.rw;have e3:=y85 true (zbz c v g rows).1 cfg.rw (by have:=zye c v g rows; omega) (fun l hl=>by have:=(zqa c v g rows).2 l hl; omega) (ynk c v g rows);have e4:=y8x cfg b (zez (zbz c v g rows).1 cfg.rw) f1 hs f2;unfold zaw;simp only [zd1,bnd] at e1 e4;generalize ze9 c v g cfg=t at *;generalize zbz c v g rows=H at *;obtain ⟨H,hb⟩:=H;simp only at e2 e3 e4 ⊢;generalize zfe cfg b (zez H cfg.rw)=r at *;generalize zez H cfg.rw=L at *;obtain ⟨r,rb⟩:=r;simp only [cnd] at e4 ⊢;refine zae rfl rfl ?_;cases t with
 | false=>simp [-getElem?_pos,zua,zub,e1,zlo]
 | true =>
  cases hb with
  | false=>simp [-getElem?_pos,zua,zub,e1,e2,zlo]
  | true =>
   simp [-getElem?_pos,zua,zub,e1,e2,e3,e4]
theorem y88 (q:Bool) (c v:List (List Int)) (g:List Int) (cfg:Cfg) (rows:List Int) (b:Bd) (hc : ∀ l∈c,l.length<=1048576) (hv : ∀ l∈v,l.length<=1048576) (hg:g.length<=1048576) (hr:rows.length<=1048576) (hs:cfg.sg.length<=1048576) (hgi : ∀ x∈g,inI x):RUN T zsa [.agg [.sl 1 (rws q c),.sl 1 (rws q v)],.sl 1 (zab g),cfS cfg,.sl 1 (zab rows),.agg (bnd b)]=some ([.agg (cnd (zaw c v g cfg rows b).1),bv (zaw c v g cfg rows b).2],[]):=by
 have e1:=yly q c v g cfg (fun l hl=>bJ (hc l hl) (by omega)) (fun l hl=>bJ (hv l hl) (by omega)) (by omega) (by omega);have e2:=y8e q c v g rows hc hv hg hr hgi;obtain ⟨f1,f2⟩:=ynj c v g rows cfg.rw;have e3:=y86 true (zbz c v g rows).1 cfg.rw (by have:=zye c v g rows; omega) (fun l hl=>by have:=(zqa c v g rows).2 l hl; omega) (ynk c v g rows);have e4:=y8w cfg b (zez (zbz c v g rows).1 cfg.rw) f1 hs f2;unfold zaw;simp only [zd1,bnd] at e1 e4;generalize ze9 c v g cfg=t at *;generalize zbz c v g rows=H at *;obtain ⟨H,hb⟩:=H;simp only at e2 e3 e4 ⊢;generalize zfe cfg b (zez H cfg.rw)=r at *;generalize zez H cfg.rw=L at *;obtain ⟨r,rb⟩:=r;simp only [cnd] at e4 ⊢;refine zae rfl rfl ?_;cases t with
 | false=>simp [-getElem?_pos,zue,zub,e1,zlo]
 | true =>
  cases hb with
  | false=>simp [-getElem?_pos,zue,zub,e1,e2,zlo]
  | true =>
   simp [-getElem?_pos,zue,zub,e1,e2,e3,e4]
def zd6 (g:List Int) (rows:List Int):Sl:=⟨rows.length,(rows.map fun r=>(atI g r).getD 0).sum⟩
def zgv (bins:List Int) (b r:Int):Bool:=match atI bins r with
 | some x=>decide (x<=b)
 | none=>false
def zj0 (bins:List Int) (b r:Int):Bool:=match atI bins r with
 | some x => !decide (x<=b)
 | none=>false
def zcc (bins rows:List Int) (b:Int):List Int:=rows.filter (zgv bins b)
def zdk (bins rows:List Int) (b:Int):List Int:=rows.filter (zj0 bins b)
structure Pnd where
 r:List Int
 b:Bd
 l:Int
def ze4 (c v:List (List Int)) (cfg:Cfg) (x:Pnd) (k:Cnd):Pnd:=⟨zcc ((atI v k.f).getD []) x.r k.b,(zeo (zej cfg k.f) x.b (zbw cfg x.b k).1 (zbw cfg x.b k).2.1).1,x.l+1⟩
def zew (c v:List (List Int)) (cfg:Cfg) (x:Pnd) (k:Cnd):Pnd:=⟨zdk ((atI v k.f).getD []) x.r k.b,(zeo (zej cfg k.f) x.b (zbw cfg x.b k).1 (zbw cfg x.b k).2.1).2,x.l+1⟩
def zcy (g:List Int) (cfg:Cfg) (x:Pnd):Nd:=⟨-1,0,0,0,(zen (zd6 g x.r) cfg.la x.b).1⟩
def zfq (c:List (List Int)) (k:Cnd) (n:Nat):Nd:=⟨k.f,(atI ((atI c k.f).getD []) k.b).getD 0,n,n+1,0⟩
def goes (c v:List (List Int)) (g:List Int) (cfg:Cfg) (x:Pnd):Bool:=decide (x.l<cfg.de) && (zaw c v g cfg x.r x.b).2
def zby (c v:List (List Int)) (g:List Int) (cfg:Cfg):Nat->List Pnd->Nat->List Nd->List Nd
 | 0,_,_,out=>out
 | n+1,q,i,out=>match q[i]? with
  | none=>out
  | some x=>if goes c v g cfg x=true then zby c v g cfg n (q++[ze4 c v cfg x (zaw c v g cfg x.r x.b).1,zew c v cfg x (zaw c v g cfg x.r x.b).1]) (i+1) (out++[zfq c (zaw c v g cfg x.r x.b).1 q.length]) else zby c v g cfg n q (i+1) (out++[zcy g cfg x])
def zjc:Bd:=⟨-1099511627776,1099511627776⟩
def zcn (g:List Int):Pnd:=⟨(List.range g.length).map fun (i:Nat)=>(i:Int),zjc,0⟩
def zb6 (c v:List (List Int)) (g:List Int) (cfg:Cfg):List Nd×Bool:=if ze9 c v g cfg=true then (zby c v g cfg 32 [zcn g] 0 [],true) else ([],false)
def pot (d:Int) (x:Pnd):Nat:=2 ^ (d+1-x.l).toNat-1
def zd0 (d:Int) (l:List Pnd):Nat:=(l.map (pot d)).sum
theorem zgu (d:Int) (x:Pnd) (l:List Pnd):zd0 d (x::l)=pot d x+zd0 d l:=by simp [zd0]
theorem z72 (d:Int) (l m:List Pnd):zd0 d (l++m)=zd0 d l+zd0 d m:=by simp [zd0]
theorem zyl {d:Int} {x:Pnd} (h:x.l<=d):1<=pot d x:=by
 unfold pot;obtain ⟨k,hk⟩ : ∃ k,(d+1-x.l).toNat=k+1:=⟨(d-x.l).toNat,by omega⟩;rw [hk,Nat.pow_succ];have:=Nat.one_le_two_pow (n:=k);omega
theorem ybi {d:Int} {x y z:Pnd} (h:x.l<d) (hy:y.l=x.l+1) (hz:z.l=x.l+1):pot d x=pot d y+pot d z+1:=by
 unfold pot;rw [hy,hz];obtain ⟨k,hk⟩ : ∃ k,(d+1-x.l).toNat=k+1:=⟨(d-x.l).toNat,by omega⟩;have hk2:(d+1-(x.l+1)).toNat=k:=by omega
 rw [hk,hk2,Nat.pow_succ];have:=Nat.one_le_two_pow (n:=k);omega
def zzb (n:Nat) (d:Int) (x:Pnd):Prop:=(∀ r∈x.r,0<=r/\r<n)/\x.r.length<=n/\0<=x.l/\x.l<=d
theorem z9v {bins rows:List Int} {b r:Int}:(r∈zcc bins rows b->r∈rows)/\(r∈zdk bins rows b->r∈rows):=⟨fun h=>(List.mem_filter.mp h).1,fun h=>(List.mem_filter.mp h).1⟩
theorem ysz {n:Nat} {c v:List (List Int)} {cfg:Cfg} {x:Pnd} {k:Cnd} (h:zzb n cfg.de x) (hl:x.l<cfg.de):zzb n cfg.de (ze4 c v cfg x k)/\zzb n cfg.de (zew c v cfg x k):=by
 obtain ⟨h1,h2,h3,h4⟩:=h;refine ⟨⟨fun r hr=>h1 r (z9v.1 hr),bJ (List.length_filter_le _ _) h2,?_,?_⟩,⟨fun r hr=>h1 r (z9v.2 hr),bJ (List.length_filter_le _ _) h2,?_,?_⟩⟩
 ·show 0<=x.l+1; omega
 ·show x.l+1<=cfg.de; omega
 ·show 0<=x.l+1; omega
 ·show x.l+1<=cfg.de; omega
theorem zmx {c v:List (List Int)} {g:List Int} {cfg:Cfg} (h:ze9 c v g cfg=true):zdb c v=true/\zb9 cfg=true/\g.length=zd3 v/\(∀ x∈g,-2199023255552<=x/\x<=2199023255552):=by
 unfold ze9 at h;simp only [Bool.and_eq_true,decide_eq_true_eq] at h;exact ⟨h.1.1.1,h.1.1.2,by omega,fun x hx=>zar.mp (List.all_eq_true.mp h.2 x hx)⟩
theorem yeg {c v:List (List Int)} (h:zdb c v=true):1<=zd3 v/\zd3 v<=40:=by
 unfold zdb at h;simp only [Bool.and_eq_true] at h;have:=zar.mp h.1.2;omega
theorem yey {cfg:Cfg} (h:zb9 cfg=true):(0<=cfg.de/\cfg.de<=4)/\cfg.sg.length<=4/\(1<=cfg.la/\cfg.la<=100):=by
 unfold zb9 at h;simp only [Bool.and_eq_true,decide_eq_true_eq] at h;have h1:=zar.mp h.1.1.1.1.1.1.1.2;have h2:=zar.mp h.1.1.1.1.1.2;omega
theorem ych {c v:List (List Int)} {g:List Int} {cfg:Cfg} {rows:List Int} {b:Bd} (h:(zaw c v g cfg rows b).2=true):zvp (zbz c v g rows).1 (zaw c v g cfg rows b).1/\(zbz c v g rows).2=true:=by
 unfold zaw at h ⊢;split
 ·rename_i h1;rw [if_pos h1] at h;split
  ·rename_i h2;rw [if_pos h2] at h;obtain ⟨h3,_,_⟩:=ydu h;exact ⟨(yp9 (zqa c v g rows).2).2 _ h3,h2⟩
  ·rename_i h2;rw [if_neg h2] at h; cases h
 ·rename_i h1;rw [if_neg h1] at h; cases h
theorem y89:RUN T zr9 []=some ([.agg (bnd zjc)],[]):=by
 refine zae rfl rfl ?_;simp [z29,z2u,bnd,zjc]
theorem y9a:RUN T zr1 []=some ([.agg (bnd zjc)],[]):=by
 refine zae rfl rfl ?_;simp [z2t,z2u,bnd,zjc]
def upl (n:Nat):List Int:=(List.range n).map fun (i:Nat)=>(i:Int)
theorem yp5 (n:Nat):upl n++[(n:Int)]=upl (n+1):=by simp [upl,List.range_succ]
@[simp] theorem q0s (n:Nat):(upl n).length=n:=by simp [upl]
@[simp] theorem q46:upl 0=[]:=rfl
theorem y9b (n:Nat) (h1:1<=n) (h2:n<=40):RUN T zr0 [iv n]=some ([.own 1 (zab (upl n))],[]):=by
 have e:=zc0 n 1 40;rw [zar.mpr (by omega)] at e;have hr0:zag 8 0=true:=by decide
 have hr1:zag 8 1=true:=by decide
 refine zae rfl rfl ?_;simp [-getElem?_pos,z2r,zz2,-zbm,e];refine zao (fun k st => ∃ (i o e:Nat),i+k=n/\st.V 3 = .ref o none e 0 i/\st.V 10=iv n/\st.V 11=iv i/\o<st.nx/\st.S o=some (.row 1 (zab (upl i)))) ?_ n _ ⟨0,0,0,by omega,by simp⟩;rintro k st ⟨i,o,ep,hi,v3,v10,v11,hox,hSo⟩;obtain ⟨x1,x2,x3,x4⟩:=fr hox
 by_cases hlt:i<n
 ·have hws:=wS hlt (by omega:n<=9223372036854775807);have hr8:=zbx (n:=i+1) (by omega);have hsn:zab (upl i)++[[iv (i:Int)]]=zab (upl (i+1)):=by rw [zbn,yp5]
  simp [-getElem?_pos,z97,v3,v10,v11,hSo,hlt,hws,hr8,hsn,x1];exact zai (k-1) (by omega) ⟨i+1,st.nx+1,st.ep,by omega,by simp [v10]⟩
 ·have hin:i=n:=by omega
  subst hin;simp [-getElem?_pos,z97,v3,v10,v11,hSo]
theorem y9c (n:Nat) (h2:n<=40):RUN T zr8 [iv n]=some ([.own 1 (zab (upl n))],[]):=by
 have hr0:zag 8 0=true:=by decide
 have hr1:zag 8 1=true:=by decide
 refine zae rfl rfl ?_;simp [-getElem?_pos,z26,zz2];refine zao (fun k st => ∃ (i o e:Nat),i+k=n/\st.V 0=iv n/\st.V 3 = .ref o none e 0 i/\st.V 4=iv i/\o<st.nx/\st.S o=some (.row 1 (zab (upl i)))) ?_ n _ ⟨0,0,0,by omega,by simp⟩;rintro k st ⟨i,o,ep,hi,v0,v3,v4,hox,hSo⟩;obtain ⟨x1,x2,x3,x4⟩:=fr hox;have h3:(n:Int)<=40:=by omega
 by_cases hlt:i<n
 ·have hws:=wS hlt (by omega:n<=9223372036854775807);have hr8:=zbx (n:=i+1) (by omega);have hsn:zab (upl i)++[[iv (i:Int)]]=zab (upl (i+1)):=by rw [zbn,yp5]
  simp [-getElem?_pos,z99,v0,v3,v4,hSo,hlt,h3,hws,hr8,hsn,x1];exact zai (k-1) (by omega) ⟨i+1,st.nx+1,st.ep,by omega,by simp [v0]⟩
 ·have hin:i=n:=by omega
  subst hin;simp [-getElem?_pos,z99,v0,v3,v4,hSo]
def zfy (g rows:List Int) (i:Nat):Int:=((rows.take i).map fun r=>(atI g r).getD 0).sum
theorem ysu {g rows:List Int} {i:Nat} {r x:Int} (hr:rows[i]?=some r) (hx:atI g r=some x):zfy g rows (i+1)=zfy g rows i+x:=by
 unfold zfy;rw [List.take_succ,hr];simp [hx]
theorem z82 {g rows:List Int} (hg : ∀ x∈g,-2199023255552<=x/\x<=2199023255552) : ∀ i:Nat,i<=rows.length -> -2199023255552*(i:Int)<=zfy g rows i/\zfy g rows i<=2199023255552*(i:Int)
 | 0,_=>by simp [zfy]
 | i+1,h=>by
  have ih:=z82 (rows:=rows) hg i (by omega);obtain ⟨r,hr⟩ : ∃ r,rows[i]?=some r:=⟨_,bG (by omega)⟩;have e:zfy g rows (i+1)=zfy g rows i+(atI g r).getD 0:=by
   unfold zfy;rw [List.take_succ,hr];simp
  rw [e];cases hx:atI g r with
  | none=>simp only [Option.getD_none]; omega
  | some x =>
   obtain ⟨_,_,h3,_⟩:=zg4 hx;have:=hg x (bF h3);simp only [Option.getD_some]; omega
theorem ycf (g rows:List Int):zd6 g rows=⟨rows.length,zfy g rows rows.length⟩:=by simp [zd6,zfy]
theorem ytu {g rows:List Int} (hg : ∀ x∈g,-2199023255552<=x/\x<=2199023255552) (hl:rows.length<=1048576):slI (zd6 g rows):=by
 rw [ycf];have:=z82 (rows:=rows) hg rows.length (by omega);exact ⟨by unfold inI; simp only; omega,by unfold inI; simp only; omega⟩
theorem y9d (g rows:List Int) (hg : ∀ x∈g,-2199023255552<=x/\x<=2199023255552) (hr : ∀ r∈rows,0<=r/\r<g.length) (hl:rows.length<=1048576):RUN T zr3 [.sl 1 (zab g),.sl 1 (zab rows)]=some ([.agg (slc (zd6 g rows))],[]):=by
 rw [ycf];refine zae rfl rfl ?_;simp [-getElem?_pos,z2v,z2w];refine zao (fun k st => ∃ i:Nat,i+k=rows.length/\st.V 0 = .sl 1 (zab g)/\st.V 4 = .ptr 0 none 0 0 0/\st.V 5 = .ptr 1 none 0 0 0/\st.V 11 = .sl 1 (zab rows)/\st.V 12=iv rows.length/\st.V 13=iv i/\1<st.nx/\st.S 1=some (.box [iv rows.length,iv (zfy g rows i)])/\st.S 0=some (.box [iv 0,iv 0])) ?_ rows.length _ ⟨0,by omega,by simp [zfy]⟩;rintro k st ⟨i,hi,v0,v4,v5,v11,v12,v13,h1x,hS1,hS0⟩;obtain ⟨z1,z2,z3,z4⟩:=fr h1x
 by_cases hlt:i<rows.length
 ·obtain ⟨r,hrr⟩ : ∃ r,rows[i]?=some r:=⟨_,bG hlt⟩;obtain ⟨r0,r1⟩:=hr r (bF hrr);obtain ⟨rn,rfl⟩ : ∃ n:Nat,r=n:=⟨r.toNat,by omega⟩;obtain ⟨x,hx⟩ : ∃ x,g[rn]?=some x:=⟨_,bG (by omega)⟩;have hrn:rn<g.length:=by omega
  have hr':=zay hrr;have hx':=zay hx;have hws:=wS hlt (by omega:rows.length<=9223372036854775807);have hs:=ysu (g:=g) hrr (x:=x) (by unfold atI; rw [if_pos r0]; simpa using hx);have b1:=z82 (rows:=rows) hg (i+1) (by omega);rw [hs] at b1;have hw:=w64 (x:=zfy g rows i+x) (by omega) (by omega);simp [-getElem?_pos,z98,v0,v5,v11,v12,v13,hS1,hlt,hr',hx',hw,hws];exact zai (k-1) (by omega) ⟨i+1,by omega,by simp [v0,v4,v5,v11,v12,h1x,hs,hS0]⟩
 ·have hin:i=rows.length:=by omega
  subst hin;simp [-getElem?_pos,z98,v4,v5,v12,v13,hS1,hS0,slc]
theorem y9e (g rows:List Int) (hg : ∀ x∈g,-2199023255552<=x/\x<=2199023255552) (hr : ∀ r∈rows,0<=r/\r<g.length) (hl:rows.length<=1048576):RUN T zsb [.sl 1 (zab g),.sl 1 (zab rows)]=some ([.agg (slc (zd6 g rows))],[]):=by
 rw [ycf];refine zae rfl rfl ?_;simp [-getElem?_pos,z3b,z2w];refine zao (fun k st => ∃ i:Nat,i+k=rows.length/\st.V 0 = .sl 1 (zab g)/\st.V 1 = .sl 1 (zab rows)/\st.V 4 = .ptr 0 none 0 0 0/\st.V 5 = .ptr 1 none 0 0 0/\st.V 6=iv i/\1<st.nx/\st.S 1=some (.box [iv i,iv (zfy g rows i)])/\st.S 0=some (.box [iv 0,iv 0])) ?_ rows.length _ ⟨0,by omega,by simp [zfy]⟩;rintro k st ⟨i,hi,v0,v1,v4,v5,v6,h1x,hS1,hS0⟩;obtain ⟨z1,z2,z3,z4⟩:=fr h1x
 by_cases hlt:i<rows.length
 ·obtain ⟨r,hrr⟩ : ∃ r,rows[i]?=some r:=⟨_,bG hlt⟩;obtain ⟨r0,r1⟩:=hr r (bF hrr);obtain ⟨rn,rfl⟩ : ∃ n:Nat,r=n:=⟨r.toNat,by omega⟩;obtain ⟨x,hx⟩ : ∃ x,g[rn]?=some x:=⟨_,bG (by omega)⟩;have hrn:rn<g.length:=by omega
  have hr':=zay hrr;have hx':=zay hx;have hws:=wS hlt (by omega:rows.length<=9223372036854775807);have hs:=ysu (g:=g) hrr (x:=x) (by unfold atI; rw [if_pos r0]; simpa using hx);have b1:=z82 (rows:=rows) hg (i+1) (by omega);rw [hs] at b1;have hw:=w64 (x:=zfy g rows i+x) (by omega) (by omega);simp [-getElem?_pos,yaa,v0,v1,v5,v6,hS1,hlt,hr',hx',hw,hws];exact zai (k-1) (by omega) ⟨i+1,by omega,by simp [v0,v1,v4,v5,h1x,hs,hS0]⟩
 ·have hin:i=rows.length:=by omega
  subst hin;simp [-getElem?_pos,yaa,v1,v4,v5,v6,hS1,hS0,slc]
theorem y9f (bins rows:List Int) (b:Int) (hb:bins.length<=1048576) (hl:rows.length<=1048576):RUN T zr5 [.sl 1 (zab bins),.sl 1 (zab rows),iv b]=some ([.own 1 (zab (zcc bins rows b)),.own 1 (zab (zdk bins rows b))],[]):=by
 have hr0:zag 8 0=true:=by decide
 have hr1:zag 8 1=true:=by decide
 have w1:=w64 (x:=(bins.length:Int)-1) (by omega) (by omega);refine zae rfl rfl ?_;simp [-getElem?_pos,z2z,z20];refine zao (fun k st => ∃ (i o e p e2:Nat) (m l:List Int),i+k=rows.length/\m.length<=i/\l.length<=i/\m++(rows.drop i).filter (zgv bins b)=zcc bins rows b/\l++(rows.drop i).filter (zj0 bins b)=zdk bins rows b/\st.V 0 = .sl 1 (zab bins)/\st.V 2=iv b/\st.V 8 = .ref o none e 0 m.length/\st.V 9 = .ref p none e2 0 l.length/\st.V 14 = .sl 1 (zab rows)/\st.V 15=iv rows.length/\st.V 16=iv i/\¬ o=p/\o<st.nx/\p<st.nx/\st.S o=some (.row 1 (zab m))/\st.S p=some (.row 1 (zab l))) ?_ rows.length _ ⟨0,0,0,1,0,[],[],by omega,by simp [zcc,zdk]⟩;rintro k st ⟨i,o,e,p,e2,m,l,hi,hml,hll,hm,hl2,v0,v2,v8,v9,v14,v15,v16,hop,hox,hpx,hSo,hSp⟩;obtain ⟨x1,x2,x3,x4⟩:=fr hox;obtain ⟨z1,z2,z3,z4⟩:=fr hpx;have hpo : ¬ p=o:=fun e=>hop e.symm
 by_cases hlt:i<rows.length
 ·obtain ⟨r,hrr⟩ : ∃ r,rows[i]?=some r:=⟨_,bG hlt⟩;have hr':=zay hrr;have hws:=wS hlt (by omega:rows.length<=9223372036854775807);have e1:=zc0 r 0 ((bins.length:Int)-1);rw [zcr hrr,List.filter_cons] at hm hl2;have hB:zgv bins b r=match atI bins r with
   | some x=>decide (x<=b)
   | none=>false:=rfl
  have hC:zj0 bins b r=match atI bins r with
   | some x => !decide (x<=b)
   | none=>false:=rfl
  have r1:=zbx (n:=m.length+1) (by omega);have r2:=zbx (n:=l.length+1) (by omega);have s1:=zbn m r;have s2:=zbn l r;cases hx:atI bins r with
  | none =>
   have hn:=zjl hx;rw [show zah r 0 ((bins.length:Int)-1)=false from by
    cases hw:zah r 0 ((bins.length:Int)-1) with
    | false=>rfl
    | true=>have:=zar.mp hw; omega] at e1
   rw [hx] at hB hC;rw [hB] at hm;rw [hC] at hl2;simp [-getElem?_pos,zww,-zbm,v0,v14,v15,v16,hlt,hr',hws,w1,e1];exact zai (k-1) (by omega) ⟨i+1,o,e,p,e2,m,l,by omega,by omega,by omega,by simpa using hm,by simpa using hl2,by simp [v0],by simp [v2],by simp [v8],by simp [v9],by simp [v14],by simp [v15],by simp,hop,by simp [hox,hpx,hSo,hSp]⟩
  | some x =>
   obtain ⟨rn,rfl,hbr,hbl⟩:=zg4 hx;rw [show zah rn 0 ((bins.length:Int)-1)=true from zar.mpr (by omega)] at e1;rw [hx] at hB hC;rw [hB] at hm;rw [hC] at hl2;have hb':=zay hbr
   by_cases hc:x<=b
   ·have d1:decide (x<=b)=true:=decide_eq_true hc;simp only [d1,if_true,Bool.not_true,Bool.false_eq_true,if_false] at hm hl2;simp [-getElem?_pos,zww,-zbm,v0,v2,v8,v14,v15,v16,hSo,hlt,hr',hws,w1,e1,hb',hc,r1,s1,x1];exact zai (k-1) (by omega) ⟨i+1,st.nx+1,st.ep,p,e2,m++[(rn:Int)],l,by omega,by simp; omega,by omega,by simpa using hm,hl2,by simp [v0],by simp [v2],by simp,by simp [v9],by simp [v14],by simp [v15],by simp,by omega,by simp,by simp; omega,by simp [hpo,z1,z3,hSp]⟩
   ·have d1:decide (x<=b)=false:=decide_eq_false hc;simp only [d1,if_true,Bool.not_false,Bool.false_eq_true,if_false] at hm hl2;simp [-getElem?_pos,zww,-zbm,v0,v2,v9,v14,v15,v16,hSp,hlt,hr',hws,w1,e1,hb',hc,r2,s2,z1];exact zai (k-1) (by omega) ⟨i+1,o,e,st.nx+1,st.ep,m,l++[(rn:Int)],by omega,by omega,by simp; omega,hm,by simpa using hl2,by simp [v0],by simp [v2],by simp [v8],by simp,by simp [v14],by simp [v15],by simp,by omega,by simp; omega,by simp [hop,x1,x3,hSo]⟩
 ·rw [bN (by omega)] at hm hl2;simp only [List.filter_nil,List.append_nil] at hm hl2;subst hm hl2;simp [-getElem?_pos,zww,v8,v9,v15,v16,hSo,hSp,hlt,hpo]
theorem y9g (bins rows:List Int) (b:Int) (hb:bins.length<=1048576) (hl:rows.length<=1048576):RUN T zsc [.sl 1 (zab bins),.sl 1 (zab rows),iv b]=some ([.own 1 (zab (zcc bins rows b)),.own 1 (zab (zdk bins rows b))],[]):=by
 have hr0:zag 8 0=true:=by decide
 have hr1:zag 8 1=true:=by decide
 have w1:=w64 (x:=(bins.length:Int)-1) (by omega) (by omega);refine zae rfl rfl ?_;simp [-getElem?_pos,z3d,z20];refine zao (fun k st => ∃ (i o e p e2:Nat) (m l:List Int),i+k=rows.length/\m.length<=i/\l.length<=i/\m++(rows.drop i).filter (zgv bins b)=zcc bins rows b/\l++(rows.drop i).filter (zj0 bins b)=zdk bins rows b/\st.V 0 = .sl 1 (zab bins)/\st.V 1 = .sl 1 (zab rows)/\st.V 2=iv b/\st.V 8 = .ref o none e 0 m.length/\st.V 9 = .ref p none e2 0 l.length/\st.V 10=iv i/\¬ o=p/\o<st.nx/\p<st.nx/\st.S o=some (.row 1 (zab m))/\st.S p=some (.row 1 (zab l))) ?_ rows.length _ ⟨0,0,0,1,0,[],[],by omega,by simp [zcc,zdk]⟩;rintro k st ⟨i,o,e,p,e2,m,l,hi,hml,hll,hm,hl2,v0,v1,v2,v8,v9,v10,hop,hox,hpx,hSo,hSp⟩;obtain ⟨x1,x2,x3,x4⟩:=fr hox;obtain ⟨z1,z2,z3,z4⟩:=fr hpx;have hpo : ¬ p=o:=fun e=>hop e.symm
 by_cases hlt:i<rows.length
 ·obtain ⟨r,hrr⟩ : ∃ r,rows[i]?=some r:=⟨_,bG hlt⟩;have hr':=zay hrr;have hws:=wS hlt (by omega:rows.length<=9223372036854775807);have e1:=zbb r 0 ((bins.length:Int)-1);rw [zcr hrr,List.filter_cons] at hm hl2;have hB:zgv bins b r=match atI bins r with
   | some x=>decide (x<=b)
   | none=>false:=rfl
  have hC:zj0 bins b r=match atI bins r with
   | some x => !decide (x<=b)
   | none=>false:=rfl
  have r1:=zbx (n:=m.length+1) (by omega);have r2:=zbx (n:=l.length+1) (by omega);have s1:=zbn m r;have s2:=zbn l r;cases hx:atI bins r with
  | none =>
   have hn:=zjl hx;rw [show zah r 0 ((bins.length:Int)-1)=false from by
    cases hw:zah r 0 ((bins.length:Int)-1) with
    | false=>rfl
    | true=>have:=zar.mp hw; omega] at e1
   rw [hx] at hB hC;rw [hB] at hm;rw [hC] at hl2;simp [-getElem?_pos,zwz,-za1,v0,v1,v10,hlt,hr',hws,w1,e1];exact zai (k-1) (by omega) ⟨i+1,o,e,p,e2,m,l,by omega,by omega,by omega,by simpa using hm,by simpa using hl2,by simp [v0],by simp [v1],by simp [v2],by simp [v8],by simp [v9],by simp,hop,by simp [hox,hpx,hSo,hSp]⟩
  | some x =>
   obtain ⟨rn,rfl,hbr,hbl⟩:=zg4 hx;rw [show zah rn 0 ((bins.length:Int)-1)=true from zar.mpr (by omega)] at e1;rw [hx] at hB hC;rw [hB] at hm;rw [hC] at hl2;have hb':=zay hbr
   by_cases hc:x<=b
   ·have d1:decide (x<=b)=true:=decide_eq_true hc;simp only [d1,if_true,Bool.not_true,Bool.false_eq_true,if_false] at hm hl2;simp [-getElem?_pos,zwz,-za1,v0,v1,v2,v8,v10,hSo,hlt,hr',hws,w1,e1,hb',hc,r1,s1,x1];exact zai (k-1) (by omega) ⟨i+1,st.nx+1,st.ep,p,e2,m++[(rn:Int)],l,by omega,by simp; omega,by omega,by simpa using hm,hl2,by simp [v0],by simp [v1],by simp [v2],by simp,by simp [v9],by simp,by omega,by simp,by simp; omega,by simp [hpo,z1,z3,hSp]⟩
   ·have d1:decide (x<=b)=false:=decide_eq_false hc;simp only [d1,if_true,Bool.not_false,Bool.false_eq_true,if_false] at hm hl2;simp [-getElem?_pos,zwz,-za1,v0,v1,v2,v9,v10,hSp,hlt,hr',hws,w1,e1,hb',hc,r2,s2,z1];exact zai (k-1) (by omega) ⟨i+1,o,e,st.nx+1,st.ep,m,l++[(rn:Int)],by omega,by omega,by simp; omega,hm,by simpa using hl2,by simp [v0],by simp [v1],by simp [v2],by simp [v8],by simp,by simp,by omega,by simp; omega,by simp [hop,x1,x3,hSo]⟩
 ·rw [bN (by omega)] at hm hl2;simp only [List.filter_nil,List.append_nil] at hm hl2;subst hm hl2;simp [-getElem?_pos,zwz,v1,v8,v9,v10,hSo,hSp,hlt,hpo]
def pnd (x:Pnd):List PV:=[.own 1 (zab x.r),iv x.b.lo,iv x.b.hi,iv x.l]
def zgs (l:List Pnd):List (List PV):=l.map pnd
@[simp] theorem q3u (l:List Pnd):(zgs l).length=l.length:=by simp [zgs]
theorem yb3 {l:List Pnd} {i:Nat} {x:Pnd} (h:l[i]?=some x):(zgs l)[i]?=some [.own 1 (zab x.r),iv x.b.lo,iv x.b.hi,iv x.l]:=by simp [zgs,h,pnd]
theorem yr8 {l:List Pnd} {i:Nat} {x:Pnd} (h:l[i]?=some x):zbe (zgs l) i 0=some (1,zab x.r):=by simp [zbe,yb3 h]
theorem yp4 (l:List Pnd) (x y:Pnd):zgs l++[[.own 1 (zab x.r),iv x.b.lo,iv x.b.hi,iv x.l],[.own 1 (zab y.r),iv y.b.lo,iv y.b.hi,iv y.l]]=zgs (l++[x,y]):=by simp [zgs,pnd]
theorem zf7 {α:Type} {l:List α} {i:Nat} {x:α} (h:l[i]?=some x):atI l (i:Int)=some x:=by
 unfold atI;rw [if_pos (by omega)];simpa using h
theorem qdh {b g rows:List Int} {k:Int} (h:(zcm b g rows k).2=true):((zcm b g rows k).1.length:Int)=k:=by
 unfold zcm at h ⊢;split
 ·rename_i hk;rw [if_pos hk] at h;have hk':=zar.mp hk;cases e:zco b g rows (List.replicate k.toNat ⟨0,0⟩) with
  | none=>rw [e] at h; cases h
  | some h'=>have:=ycb _ _ _ e; simp at this; simp only; omega
 ·rename_i hk;rw [if_neg hk] at h; cases h
theorem yp2 {g rows:List Int} : ∀ (c v:List (List Int)) (H:List (List Sl)) (f:Nat) (h:List Sl),zb3 g rows c v=some H->H[f]?=some h->∃ x y,c[f]?=some x/\v[f]?=some y/\h.length=x.length+1
 | [],v,H,f,h,e,hf=>by simp [zb3] at e; subst e; simp at hf
 | x::c,[],H,f,h,e,hf=>by simp [zb3] at e; subst e; simp at hf
 | x::c,y::v,H,f,h,e,hf=>by
  simp only [zb3] at e;split at e
  ·rename_i hp;simp only [bB] at e;obtain ⟨H',h1,rfl⟩:=e;cases f with
   | zero =>
    simp at hf;subst hf;have:=qdh hp;exact ⟨x,y,rfl,rfl,by omega⟩
   | succ f =>
    simp at hf;obtain ⟨x',y',h2,h3,h4⟩:=yp2 c v H' f h h1 hf;exact ⟨x',y',by simpa using h2,by simpa using h3,h4⟩
  ·cases e
theorem qd4 {c v:List (List Int)} {g rows:List Int} {f:Nat} {h:List Sl} (hb:(zbz c v g rows).2=true) (hf:(zbz c v g rows).1[f]?=some h) : ∃ x y,c[f]?=some x/\v[f]?=some y/\h.length=x.length+1:=by
 unfold zbz at hb hf;split at hb
 ·rename_i hg;rw [if_pos hg] at hf;cases e:zb3 g rows c v with
  | none=>rw [e] at hb; cases hb
  | some H=>rw [e] at hf; exact yp2 c v H f h e hf
 ·cases hb
theorem z8u {c v:List (List Int)} {g:List Int} {cfg:Cfg} {rows:List Int} {b:Bd} (h:(zaw c v g cfg rows b).2=true) : ∃ (f k:Nat) (x y:List Int) (z:Int),(zaw c v g cfg rows b).1.f=f/\(zaw c v g cfg rows b).1.b=k/\c[f]?=some x/\v[f]?=some y/\x[k]?=some z/\zek (zaw c v g cfg rows b).1:=by
 obtain ⟨h1,h2⟩:=ych h;have hI:=ydq (by have:=zye c v g rows; omega) (fun l hl=>bJ ((zqa c v g rows).2 l hl) (by omega)) h1;obtain ⟨f,k,l,e1,e2,e3,e4,_,_⟩:=h1;obtain ⟨x,y,hx,hy,hl⟩:=qd4 h2 e3;exact ⟨f,k,x,y,x[k]'(by omega),e1,e2,hx,hy,bG (by omega),hI⟩
theorem qek {x lo hi:Int} (h:lo<=hi):lo<=zeb x lo hi/\zeb x lo hi<=hi:=by
 unfold zeb;split
 ·omega
 ·split <;> omega
theorem qa6 {b:Bd} (h:zd9 b=true):b.lo<=b.hi /\ -1099511627776<=b.lo/\b.hi<=1099511627776:=by
 unfold zd9 at h;simp only [Bool.and_eq_true,decide_eq_true_eq] at h;have h1:=h.1.2;have h2:=h.2;unfold zda at h1 h2;have:=zar.mp h1;have:=zar.mp h2;omega
theorem yce (s:Sl) (l:Int) (b:Bd) : -1099511627776<=(zen s l b).1/\(zen s l b).1<=1099511627776:=by
 unfold zen;split
 ·rename_i h;simp only [Bool.and_eq_true] at h;obtain ⟨h1,h2,h3⟩:=qa6 h.2;have:=qek (x:=(fdv s.g (s.n+l)).1) h1;simp only; omega
 ·simp
theorem z8y (c:Cfg) (b:Bd) (x:Cnd):inI (zbw c b x).1/\inI (zbw c b x).2.1:=by
 have h1:=yce x.a c.la b;have h2:=yce x.z c.la b;unfold zbw inI;split
 ·simp only; omega
 ·simp
def NC (S:Nat->Option Ob) (nx oq:Nat) (m:List Nd) (x:PV):Prop:=(x = .e0/\m=[])\/∃ o e,x = .ref o none e 0 m.length/\5<o/\o<nx/\¬ o=oq/\S o=some (.row 5 (m.map nd))
theorem ybx {c v:List (List Int)} {g:List Int} {cfg:Cfg} {n:Nat} {q:List Pnd} {i:Nat} {out:List Nd} (h:q[i]?=none):zby c v g cfg n q i out=out:=by
 cases n with
 | zero=>rfl
 | succ n=>rw [zby,h]
theorem ydc {c v:List (List Int)} {g:List Int} {cfg:Cfg} {n:Nat} {q:List Pnd} {i:Nat} {out:List Nd} {x:Pnd} (h:q[i]?=some x) (hg:goes c v g cfg x=false):zby c v g cfg (n+1) q i out=zby c v g cfg n q (i+1) (out++[zcy g cfg x]):=by
 rw [zby,h]; simp [hg]
theorem yco {c v:List (List Int)} {g:List Int} {cfg:Cfg} {n:Nat} {q:List Pnd} {i:Nat} {out:List Nd} {x:Pnd} (h:q[i]?=some x) (hg:goes c v g cfg x=true):zby c v g cfg (n+1) q i out=zby c v g cfg n (q++[ze4 c v cfg x (zaw c v g cfg x.r x.b).1,zew c v cfg x (zaw c v g cfg x.r x.b).1]) (i+1) (out++[zfq c (zaw c v g cfg x.r x.b).1 q.length]):=by
 rw [zby,h]; simp [hg]
structure GI (c v:List (List Int)) (g:List Int) (cfg:Cfg) (n:Nat) (q:List Pnd) (i:Nat) (out:List Nd):Prop where
 n1:i+n=32
 le:i<=q.length
 ql:q.length<=2*i+1
 ol:out.length=i
 po:zd0 cfg.de (q.drop i)<=n
 ok : ∀ x∈q,zzb g.length cfg.de x
 go:zby c v g cfg n q i out=zby c v g cfg 32 [zcn g] 0 []
theorem GI.leaf {c v:List (List Int)} {g:List Int} {cfg:Cfg} {n:Nat} {q:List Pnd} {i:Nat} {out:List Nd} {x:Pnd} (h:GI c v g cfg n q i out) (hx:q[i]?=some x) (hg:goes c v g cfg x=false):1<=n/\GI c v g cfg (n-1) q (i+1) (out++[zcy g cfg x]):=by
 have hp:=h.po;rw [zcr hx,zgu] at hp;have:=zyl (h.ok x (bF hx)).2.2.2;have hlt:=(bD hx).1;obtain ⟨m,rfl⟩ : ∃ m,n=m+1:=⟨n-1,by omega⟩;have:=h.n1;have:=h.ql;exact ⟨by omega,by simp; omega,by omega,by omega,by simp [h.ol],by simp; omega,h.ok,by rw [<- h.go,ydc hx hg]; rfl⟩
theorem GI.cut {c v:List (List Int)} {g:List Int} {cfg:Cfg} {n:Nat} {q:List Pnd} {i:Nat} {out:List Nd} {x:Pnd} (h:GI c v g cfg n q i out) (hx:q[i]?=some x) (hg:goes c v g cfg x=true):1<=n/\GI c v g cfg (n-1) (q++[ze4 c v cfg x (zaw c v g cfg x.r x.b).1,zew c v cfg x (zaw c v g cfg x.r x.b).1]) (i+1) (out++[zfq c (zaw c v g cfg x.r x.b).1 q.length]):=by
 have hp:=h.po;have hlt:=(bD hx).1;have hxo:=h.ok x (bF hx);rw [zcr hx,zgu] at hp;have hlv:x.l<cfg.de:=by
  unfold goes at hg;simp only [Bool.and_eq_true,decide_eq_true_eq] at hg;exact hg.1
 have hk:=ybi (y:=ze4 c v cfg x (zaw c v g cfg x.r x.b).1) (z:=zew c v cfg x (zaw c v g cfg x.r x.b).1) hlv rfl rfl;obtain ⟨m,rfl⟩ : ∃ m,n=m+1:=⟨n-1,by omega⟩;have:=h.n1;have:=h.ql;obtain ⟨ko1,ko2⟩:=ysz (c:=c) (v:=v) (k:=(zaw c v g cfg x.r x.b).1) hxo hlv;refine ⟨by omega,by simp; omega,by simp; omega,by simp; omega,by simp [h.ol],?_,fun y hy => ?_,by rw [<- h.go,yco hx hg]; rfl⟩
 ·rw [List.drop_append_of_le_length (by omega),z72,zgu,zgu];have:zd0 cfg.de ([]:List Pnd)=0:=rfl;simp only [Nat.add_sub_cancel];omega
 ·rcases bM hy with e | e
  ·exact h.ok y e
  ·simp only [List.mem_cons,List.not_mem_nil,or_false] at e;rcases e with e | e
   ·subst e; exact ko1
   ·subst e; exact ko2
theorem GI.start {c v:List (List Int)} {g:List Int} {cfg:Cfg} (h:ze9 c v g cfg=true):GI c v g cfg 32 [zcn g] 0 []:=by
 obtain ⟨h1,h2,h3,h4⟩:=zmx h;obtain ⟨d1,d2⟩:=(yey h2).1;refine ⟨rfl,by simp,by simp,rfl,?_,fun x hx => ?_,rfl⟩
 ·simp only [List.drop_zero,zd0,List.map_cons,List.map_nil,List.sum_cons,List.sum_nil,pot,zcn];have:(cfg.de+1-0).toNat<=5:=by omega
  have:=Nat.pow_le_pow_right (n:=2) (by omega) this;omega
 ·simp only [List.mem_singleton] at hx;subst hx;refine ⟨fun r hr => ?_,by simp [zcn],by simp [zcn],d1⟩;simp only [zcn,List.mem_map,List.mem_range] at hr;obtain ⟨j,hj,rfl⟩:=hr;omega
theorem y9h (q:Bool) (c v:List (List Int)) (g:List Int) (cfg:Cfg) (hc : ∀ l∈c,l.length<=1048576) (hv : ∀ l∈v,l.length<=1048576) (hg:g.length<=1048576) (hs:cfg.sg.length<=1048576) (hgi : ∀ x∈g,inI x):RUN T zrb [.agg [.sl 1 (rws q c),.sl 1 (rws q v)],.sl 1 (zab g),cfS cfg]=some ([.agg [.own 5 ((zb6 c v g cfg).1.map nd)],bv (zb6 c v g cfg).2],[]):=by
 have e1:=ylx q c v g cfg (fun l hl=>bJ (hc l hl) (by omega)) (fun l hl=>bJ (hv l hl) (by omega)) (by omega) (by omega);simp only [zd1] at e1;cases ht:ze9 c v g cfg with
 | false =>
  rw [ht] at e1;have hR:zb6 c v g cfg=([],false):=by unfold zb6; rw [ht]; rfl
  rw [hR];refine zae rfl rfl ?_;simp [-getElem?_pos,zwb,zwc,e1]
 | true =>
  rw [ht] at e1;have hR:zb6 c v g cfg=(zby c v g cfg 32 [zcn g] 0 [],true):=by unfold zb6; rw [if_pos ht]
  rw [hR];obtain ⟨R,hR'⟩ : ∃ R,R=zby c v g cfg 32 [zcn g] 0 []:=⟨_,rfl⟩;rw [<- hR'];obtain ⟨t1,t2,t3,t4⟩:=zmx ht;obtain ⟨t5,t6⟩:=yeg t1;have e2:=yan q c v;have e3:=y9b (zd3 v) t5 t6;have e4:=y9a;have hr48:zag 48 1=true:=by decide
  have hG:=GI.start ht;have hroot:zgs [zcn g]=[[.own 1 (zab (upl (zd3 v))),iv zjc.lo,iv zjc.hi,iv 0]]:=by simp [zgs,pnd,zcn,t3,upl]
  simp only [bnd] at e4;refine zae rfl rfl ?_;simp [-getElem?_pos,zwb,zwc,e1,e2,e3,e4];refine zao (fun n st => ∃ (i o e:Nat) (Q:List Pnd) (out:List Nd) (x:PV),GI c v g cfg n Q i out/\st.V 1 = .sl 1 (zab g)/\st.V 3 = .ptr 0 none 0 0 0/\st.V 5 = .ptr 1 none 0 0 0/\st.V 6 = .ptr 2 none 0 0 0/\st.V 8 = .ref o none e 0 Q.length/\st.V 9 = .ptr 5 none 0 0 0/\st.V 10=iv i/\3<o/\¬ o=5/\o<st.nx/\5<st.nx/\st.S 0=some (.box [.sl 1 (rws q c),.sl 1 (rws q v)])/\st.S 1=some (.box [iv cfg.ro,iv cfg.de,iv cfg.bi,iv cfg.la,iv cfg.rw,iv cfg.nu,iv cfg.dn,.sl 1 (zab cfg.sg)])/\st.S 2=some (.box [.e0])/\st.S 5=some (.box [x])/\st.S o=some (.row 4 (zgs Q))/\NC st.S st.nx o out x) ?_ 32 _ ⟨0,4,0,[zcn g],[],.e0,hG,?_⟩
  ·rintro n st ⟨i,o,ep,Q,out,x,hG,v1,v3,v5,v6,v8,v9,v10,ho3,ho5,hox,h5x,hS0,hS1,hS2,hS5,hSo,hN⟩;obtain ⟨Fa01,Fa02,Fa03,Fa04⟩:=fr (show 0<st.nx by omega);obtain ⟨Fb01,Fb02,Fb03,Fb04⟩:=fr (show 1<st.nx by omega);obtain ⟨Fc01,Fc02,Fc03,Fc04⟩:=fr (show 2<st.nx by omega);obtain ⟨Fd01,Fd02,Fd03,Fd04⟩:=fr (show 5<st.nx by omega);obtain ⟨Fo01,Fo02,Fo03,Fo04⟩:=fr (show o<st.nx by omega);have N0a:(o=0)=False:=bK (by omega);have N0b:(0=o)=False:=bK (by omega);have N1a:(o=1)=False:=bK (by omega);have N1b:(1=o)=False:=bK (by omega);have N2a:(o=2)=False:=bK (by omega);have N2b:(2=o)=False:=bK (by omega);have N3a:(o=5)=False:=bK (by omega);have N3b:(5=o)=False:=bK (by omega);have y0:(st.nx=0)=False:=bK (by omega);have y1:(st.nx=1)=False:=bK (by omega);have y2:(st.nx=2)=False:=bK (by omega);have y3:(st.nx=3)=False:=bK (by omega);have y4:(st.nx=4)=False:=bK (by omega);have y5:(st.nx=5)=False:=bK (by omega);have na : ∀ a b:Nat,st.nx+a+b=st.nx+(a+b):=fun a b=>Nat.add_assoc _ _ _;have Z0:=bI Fa01 <| bI Fa02 <| bI Fa03 <| bI Fa04 <| bI Fb01 <| bI Fb02 <| bI Fb03 <| bI Fb04 <| bI Fc01 <| bI Fc02 <| bI Fc03 <| bI Fc04 <| bI Fd01 <| bI Fd02 <| bI Fd03 <| bI Fd04 <| bI Fo01 <| bI Fo02 <| bI Fo03 <| bI Fo04 <| bI N0a <| bI N0b <| bI N1a <| bI N1b <| bI N2a <| bI N2b <| bI N3a <| bI N3b <| bI y0 <| bI y1 <| bI y2 <| bI y3 <| bI y4 <| bI y5 na
   by_cases hlt:i<Q.length
   ·obtain ⟨p,hp⟩ : ∃ p,Q[i]?=some p:=⟨_,bG hlt⟩;have hp':=yb3 hp;have hps:=yr8 hp;have hpo:=hG.ok p (bF hp);obtain ⟨p1,p2,p3,p4⟩:=hpo;have hn1:=hG.n1;have hql:=hG.ql;have hws:=wS hlt (by omega:Q.length<=9223372036854775807);have f1:=y87 q c v g cfg p.r p.b hc hv hg (by omega) hs hgi;have f2:=y9d g p.r t4 p1 (by omega);have f3:=ya0 (zd6 g p.r) cfg.la p.b (ytu t4 (by omega));have hr40:zag 40 1=true:=by decide
    have hr41:zag 40 (out.length+1)=true:=by have:=hG.ol; simp [zag]; omega
    have hsn:=zpo out (zcy g cfg p);simp only [zcy] at hsn;simp only [bnd] at f1 f3;obtain ⟨K,hK⟩ : ∃ K,K=zaw c v g cfg p.r p.b:=⟨_,rfl⟩;obtain ⟨G,hGg⟩ : ∃ G,G=goes c v g cfg p:=⟨_,rfl⟩;have hG2:G=(decide (p.l<cfg.de) && K.2):=by rw [hGg,hK]; rfl
    cases G with
    | false =>
     obtain ⟨m1,hG'⟩:=hG.leaf hp hGg.symm;rw [<- hK] at f1;simp only [slc] at f2 f3
     by_cases hlv:p.l<cfg.de
     ·have hK2:K.2=false:=by simpa [hlv] using hG2.symm
      obtain ⟨K,Kb⟩:=K;simp only at hK2 f1;subst hK2;simp only [cnd] at f1;rcases hN with ⟨rfl,rfl⟩ | ⟨w,ew,rfl,hw5,hwx,hwo,hSw⟩
      ·simp [-getElem?_pos,zkt,v1,v3,v5,v8,v9,v10,hS0,hS1,hS5,hSo,hlt,hp',hps,hlv,f1,f2,f3,hws,hr40,Z0];refine zai (n-1) (by omega) ⟨i+1,o,ep,Q,[zcy g cfg p],.ref (st.nx+3) none st.ep 0 1,hG',by simp [v1],by simp [v3],by simp [v5],by simp [v6],by simp [v8],by simp [v9],by simp,ho3,ho5,(by simp <;> omega),by simp <;> omega,by simp [Z0,hS0],by simp [Z0,hS1],by simp [Z0,hS2],by simp,by simp [Z0,hSo],.inr ⟨st.nx+3,st.ep,by simp,by omega,by simp <;> omega,by omega,by simp [nd,zcy,y2]⟩⟩
      ·obtain ⟨Fw01,Fw02,Fw03,Fw04⟩:=fr (show w<st.nx by omega);have M0a:(w=0)=False:=bK (by omega);have M0b:(0=w)=False:=bK (by omega);have M1a:(w=1)=False:=bK (by omega);have M1b:(1=w)=False:=bK (by omega);have M2a:(w=2)=False:=bK (by omega);have M2b:(2=w)=False:=bK (by omega);have M3a:(w=5)=False:=bK (by omega);have M3b:(5=w)=False:=bK (by omega);have M4a:(w=o)=False:=bK (by omega);have M4b:(o=w)=False:=bK (by omega);have Z1:=bI Z0 <| bI Fw01 <| bI Fw02 <| bI Fw03 <| bI Fw04 <| bI M0a <| bI M0b <| bI M1a <| bI M1b <| bI M2a <| bI M2b <| bI M3a <| bI M3b <| bI M4a M4b
       simp [-getElem?_pos,zkt,v1,v3,v5,v8,v9,v10,hS0,hS1,hS5,hSo,hSw,hlt,hp',hps,hlv,f1,f2,f3,hws,hr41,hsn,Z1];refine zai (n-1) (by omega) ⟨i+1,o,ep,Q,out++[zcy g cfg p],.ref (st.nx+3) none st.ep 0 (out.length+1),hG',by simp [v1],by simp [v3],by simp [v5],by simp [v6],by simp [v8],by simp [v9],by simp,ho3,ho5,(by simp <;> omega),by simp <;> omega,by simp [Z1,hS0],by simp [Z1,hS1],by simp [Z1,hS2],by simp,by simp [Z1,hSo],.inr ⟨st.nx+3,st.ep,by simp,by omega,by simp <;> omega,by omega,by simp [nd,zcy,y2]⟩⟩
     ·rcases hN with ⟨rfl,rfl⟩ | ⟨w,ew,rfl,hw5,hwx,hwo,hSw⟩
      ·simp [-getElem?_pos,zkt,v1,v5,v8,v9,v10,hS1,hS5,hSo,hlt,hp',hps,hlv,f2,f3,hws,hr40,Z0];refine zai (n-1) (by omega) ⟨i+1,o,ep,Q,[zcy g cfg p],.ref (st.nx+3) none st.ep 0 1,hG',by simp [v1],by simp [v3],by simp [v5],by simp [v6],by simp [v8],by simp [v9],by simp,ho3,ho5,(by simp <;> omega),by simp <;> omega,by simp [Z0,hS0],by simp [Z0,hS1],by simp [Z0,hS2],by simp,by simp [Z0,hSo],.inr ⟨st.nx+3,st.ep,by simp,by omega,by simp <;> omega,by omega,by simp [nd,zcy,y2]⟩⟩
      ·obtain ⟨Fw01,Fw02,Fw03,Fw04⟩:=fr (show w<st.nx by omega);have M0a:(w=0)=False:=bK (by omega);have M0b:(0=w)=False:=bK (by omega);have M1a:(w=1)=False:=bK (by omega);have M1b:(1=w)=False:=bK (by omega);have M2a:(w=2)=False:=bK (by omega);have M2b:(2=w)=False:=bK (by omega);have M3a:(w=5)=False:=bK (by omega);have M3b:(5=w)=False:=bK (by omega);have M4a:(w=o)=False:=bK (by omega);have M4b:(o=w)=False:=bK (by omega);have Z1:=bI Z0 <| bI Fw01 <| bI Fw02 <| bI Fw03 <| bI Fw04 <| bI M0a <| bI M0b <| bI M1a <| bI M1b <| bI M2a <| bI M2b <| bI M3a <| bI M3b <| bI M4a M4b
       simp [-getElem?_pos,zkt,v1,v5,v8,v9,v10,hS1,hS5,hSo,hSw,hlt,hp',hps,hlv,f2,f3,hws,hr41,hsn,Z1];refine zai (n-1) (by omega) ⟨i+1,o,ep,Q,out++[zcy g cfg p],.ref (st.nx+3) none st.ep 0 (out.length+1),hG',by simp [v1],by simp [v3],by simp [v5],by simp [v6],by simp [v8],by simp [v9],by simp,ho3,ho5,(by simp <;> omega),by simp <;> omega,by simp [Z1,hS0],by simp [Z1,hS1],by simp [Z1,hS2],by simp,by simp [Z1,hSo],.inr ⟨st.nx+3,st.ep,by simp,by omega,by simp <;> omega,by omega,by simp [nd,zcy,y2]⟩⟩
    | true =>
     obtain ⟨m1,hG'⟩:=hG.cut hp hGg.symm;have t7:=yey t2;have hlv:p.l<cfg.de:=by
      have h9:=hG2.symm;simp only [Bool.and_eq_true,decide_eq_true_eq] at h9;exact h9.1
     have hK2:K.2=true:=by
      have h9:=hG2.symm;simp only [Bool.and_eq_true,decide_eq_true_eq] at h9;exact h9.2
     obtain ⟨kf,kb,X,Y,z,k1,k2,hX,hY,hz,kI⟩:=z8u (c:=c) (v:=v) (g:=g) (cfg:=cfg) (rows:=p.r) (b:=p.b) (by rw [<- hK]; exact hK2);rw [<- hK] at f1 hG' k1 k2 kI;obtain ⟨⟨kf',kb',ka,kz⟩,Kb⟩:=K;simp only at hK2 k1 k2 kI f1 hG';subst hK2 k1 k2;have hfc:=(bD hX).1;have hfv:=(bD hY).1;have hbx:=(bD hz).1;have hX':=zc3 (q:=q) hX;have hY':=zc3 (q:=q) hY;have hz':=zay hz;have f4:=ymn cfg p.b ⟨kf,kb,ka,kz⟩ kI;have f5:=ymp cfg kf (by omega);have f6:=y81 (zej cfg kf) p.b (zbw cfg p.b ⟨kf,kb,ka,kz⟩).1 (zbw cfg p.b ⟨kf,kb,ka,kz⟩).2.1 (z8y _ _ _).1 (z8y _ _ _).2;have f7:=y9f Y p.r kb (hv Y (bF hY)) (by omega);have hkl:ze4 c v cfg p ⟨kf,kb,ka,kz⟩=⟨zcc Y p.r kb,(zeo (zej cfg kf) p.b (zbw cfg p.b ⟨kf,kb,ka,kz⟩).1 (zbw cfg p.b ⟨kf,kb,ka,kz⟩).2.1).1,p.l+1⟩:=by
      unfold ze4;simp only [zf7 hY,Option.getD_some]
     have hkr:zew c v cfg p ⟨kf,kb,ka,kz⟩=⟨zdk Y p.r kb,(zeo (zej cfg kf) p.b (zbw cfg p.b ⟨kf,kb,ka,kz⟩).1 (zbw cfg p.b ⟨kf,kb,ka,kz⟩).2.1).2,p.l+1⟩:=by
      unfold zew;simp only [zf7 hY,Option.getD_some]
     have hcn:zfq c ⟨kf,kb,ka,kz⟩ Q.length=⟨kf,z,Q.length,Q.length+1,0⟩:=by
      unfold zfq;simp only [zf7 hX,Option.getD_some,zf7 hz]
     rw [hkl,hkr,hcn] at hG';clear hkl hkr hcn;generalize zbw cfg p.b ⟨kf,kb,ka,kz⟩=sv at *;obtain ⟨sl,sr,sb⟩:=sv;simp only at f4 f6 hG';generalize zej cfg kf=sg at *;generalize zeo sg p.b sl sr=bb at *;obtain ⟨⟨ll,lh⟩,⟨rl,rh⟩⟩:=bb;generalize zcc Y p.r kb=L1 at *;generalize zdk Y p.r kb=R1 at *;simp only [bnd,cnd] at f1 f4 f6 hG';have hQ:=yp4 Q ⟨L1,⟨ll,lh⟩,p.l+1⟩ ⟨R1,⟨rl,rh⟩,p.l+1⟩;have hsn2:=zpo out ⟨kf,z,Q.length,Q.length+1,0⟩;simp only at hQ hsn2;have wl:=w64 (x:=p.l+1) (by omega) (by omega);have wq:=w64 (x:=(Q.length:Int)+1) (by omega) (by omega);have hr482:zag 48 2=true:=by decide
     have hr483:zag 48 (Q.length+2)=true:=by simp [zag]; omega
     rcases hN with ⟨rfl,rfl⟩ | ⟨w,ew,rfl,hw5,hwx,hwo,hSw⟩
     ·simp [-getElem?_pos,zkt,v1,v3,v5,v8,v9,v10,hS0,hS1,hS5,hSo,hlt,hp',hps,hlv,f1,f4,f5,f6,f7,hX',hY',hz',wl,wq,hr483,hQ,hws,hr40,Z0];refine zai (n-1) (by omega) ⟨i+1,st.nx+9,st.ep,(Q++[⟨L1,⟨ll,lh⟩,p.l+1⟩,⟨R1,⟨rl,rh⟩,p.l+1⟩]),[⟨kf,z,Q.length,Q.length+1,0⟩],.ref (st.nx+7) none st.ep 0 1,hG',by simp [v1],by simp [v3],by simp [v5],by simp [v6],by simp,by simp [v9],by simp,by omega,by omega,by simp,by simp <;> omega,by simp [Z0,hS0],by simp [Z0,hS1],by simp [Z0,hS2],by simp [Z0],by simp,.inr ⟨st.nx+7,st.ep,by simp,by omega,by simp [nd,Fo04]⟩⟩
     ·obtain ⟨Fw01,Fw02,Fw03,Fw04⟩:=fr (show w<st.nx by omega);have M0a:(w=0)=False:=bK (by omega);have M0b:(0=w)=False:=bK (by omega);have M1a:(w=1)=False:=bK (by omega);have M1b:(1=w)=False:=bK (by omega);have M2a:(w=2)=False:=bK (by omega);have M2b:(2=w)=False:=bK (by omega);have M3a:(w=5)=False:=bK (by omega);have M3b:(5=w)=False:=bK (by omega);have M4a:(w=o)=False:=bK (by omega);have M4b:(o=w)=False:=bK (by omega);have Z1:=bI Z0 <| bI Fw01 <| bI Fw02 <| bI Fw03 <| bI Fw04 <| bI M0a <| bI M0b <| bI M1a <| bI M1b <| bI M2a <| bI M2b <| bI M3a <| bI M3b <| bI M4a M4b
      simp [-getElem?_pos,zkt,v1,v3,v5,v8,v9,v10,hS0,hS1,hS5,hSo,hSw,hlt,hp',hps,hlv,f1,f4,f5,f6,f7,hX',hY',hz',wl,wq,hr483,hQ,hws,hr41,hsn2,Z1];refine zai (n-1) (by omega) ⟨i+1,st.nx+9,st.ep,(Q++[⟨L1,⟨ll,lh⟩,p.l+1⟩,⟨R1,⟨rl,rh⟩,p.l+1⟩]),(out++[⟨kf,z,Q.length,Q.length+1,0⟩]),.ref (st.nx+7) none st.ep 0 (out.length+1),hG',by simp [v1],by simp [v3],by simp [v5],by simp [v6],by simp,by simp [v9],by simp,by omega,by omega,by simp,by simp <;> omega,by simp [Z1,hS0],by simp [Z1,hS1],by simp [Z1,hS2],by simp [Z1],by simp,.inr ⟨st.nx+7,st.ep,by simp,by omega,by simp [nd,Fo04]⟩⟩
   ·have hiq:i=Q.length:=by have:=hG.le; omega
    have hgo:=hG.go;rw [ybx (List.getElem?_eq_none (by omega)),<- hR'] at hgo;subst hgo;have hol:=hG.ol;rcases hN with ⟨rfl,rfl⟩ | ⟨w,ew,rfl,hw5,hwx,hwo,hSw⟩
    ·simp [-getElem?_pos,zkt,v6,v8,v9,v10,hS2,hS5,hSo,hlt]
    ·obtain ⟨Fw01,Fw02,Fw03,Fw04⟩:=fr (show w<st.nx by omega);have M0a:(w=0)=False:=bK (by omega);have M0b:(0=w)=False:=bK (by omega);have M1a:(w=1)=False:=bK (by omega);have M1b:(1=w)=False:=bK (by omega);have M2a:(w=2)=False:=bK (by omega);have M2b:(2=w)=False:=bK (by omega);have M3a:(w=5)=False:=bK (by omega);have M3b:(5=w)=False:=bK (by omega);have M4a:(w=o)=False:=bK (by omega);have M4b:(o=w)=False:=bK (by omega);have Z1:=bI Z0 <| bI Fw01 <| bI Fw02 <| bI Fw03 <| bI Fw04 <| bI M0a <| bI M0b <| bI M1a <| bI M1b <| bI M2a <| bI M2b <| bI M3a <| bI M3b <| bI M4a M4b
     simp [-getElem?_pos,zkt,v6,v8,v9,v10,hS2,hS5,hSo,hSw,hlt,Z1]
  ·refine ⟨by simp,by simp,by simp,by simp,by simp,by simp,by simp,by simp,by simp,by simp,by simp,by simp,by simp,by simp,by simp,by simp [hroot],.inl ⟨rfl,rfl⟩⟩
theorem y9i (q:Bool) (c v:List (List Int)) (g:List Int) (cfg:Cfg) (hc : ∀ l∈c,l.length<=1048576) (hv : ∀ l∈v,l.length<=1048576) (hg:g.length<=1048576) (hs:cfg.sg.length<=1048576) (hgi : ∀ x∈g,inI x):RUN T zrf [.agg [.sl 1 (rws q c),.sl 1 (rws q v)],.sl 1 (zab g),cfS cfg]=some ([.agg [.own 5 ((zb6 c v g cfg).1.map nd)],bv (zb6 c v g cfg).2],[]):=by
 have e1:=yly q c v g cfg (fun l hl=>bJ (hc l hl) (by omega)) (fun l hl=>bJ (hv l hl) (by omega)) (by omega) (by omega);simp only [zd1] at e1;cases ht:ze9 c v g cfg with
 | false =>
  rw [ht] at e1;have hR:zb6 c v g cfg=([],false):=by unfold zb6; rw [ht]; rfl
  rw [hR];refine zae rfl rfl ?_;simp [-getElem?_pos,zwf,zwc,e1]
 | true =>
  rw [ht] at e1;have hR:zb6 c v g cfg=(zby c v g cfg 32 [zcn g] 0 [],true):=by unfold zb6; rw [if_pos ht]
  rw [hR];obtain ⟨R,hR'⟩ : ∃ R,R=zby c v g cfg 32 [zcn g] 0 []:=⟨_,rfl⟩;rw [<- hR'];obtain ⟨t1,t2,t3,t4⟩:=zmx ht;obtain ⟨t5,t6⟩:=yeg t1;have e3:=y9c g.length (by omega);have e4:=y89;have hr48:zag 48 1=true:=by decide
  have hG:=GI.start ht;have hroot:zgs [zcn g]=[[.own 1 (zab (upl g.length)),iv zjc.lo,iv zjc.hi,iv 0]]:=by simp [zgs,pnd,zcn,upl]
  simp only [bnd] at e4;refine zae rfl rfl ?_;simp [-getElem?_pos,zwf,zwc,e1,e3,e4];refine zao (fun n st => ∃ (i o e:Nat) (Q:List Pnd) (out:List Nd) (x:PV),GI c v g cfg n Q i out/\st.V 1 = .sl 1 (zab g)/\st.V 3 = .ptr 0 none 0 0 0/\st.V 5 = .ptr 1 none 0 0 0/\st.V 6 = .ptr 2 none 0 0 0/\st.V 8 = .ptr 3 none 0 0 0/\st.V 9 = .ref o none e 0 Q.length/\st.V 10=iv i/\4<o/\o<st.nx/\3<st.nx/\st.S 0=some (.box [.sl 1 (rws q c),.sl 1 (rws q v)])/\st.S 1=some (.box [iv cfg.ro,iv cfg.de,iv cfg.bi,iv cfg.la,iv cfg.rw,iv cfg.nu,iv cfg.dn,.sl 1 (zab cfg.sg)])/\st.S 2=some (.box [.e0])/\st.S 3=some (.box [x])/\st.S o=some (.row 4 (zgs Q))/\NC st.S st.nx o out x) ?_ 32 _ ⟨0,5,0,[zcn g],[],.e0,hG,?_⟩
  ·rintro n st ⟨i,o,ep,Q,out,x,hG,v1,v3,v5,v6,v8,v9,v10,ho3,hox,h3x,hS0,hS1,hS2,hS3,hSo,hN⟩;obtain ⟨Fa01,Fa02,Fa03,Fa04⟩:=fr (show 0<st.nx by omega);obtain ⟨Fb01,Fb02,Fb03,Fb04⟩:=fr (show 1<st.nx by omega);obtain ⟨Fc01,Fc02,Fc03,Fc04⟩:=fr (show 2<st.nx by omega);obtain ⟨Fd01,Fd02,Fd03,Fd04⟩:=fr (show 3<st.nx by omega);obtain ⟨Fo01,Fo02,Fo03,Fo04⟩:=fr (show o<st.nx by omega);have N0a:(o=0)=False:=bK (by omega);have N0b:(0=o)=False:=bK (by omega);have N1a:(o=1)=False:=bK (by omega);have N1b:(1=o)=False:=bK (by omega);have N2a:(o=2)=False:=bK (by omega);have N2b:(2=o)=False:=bK (by omega);have N3a:(o=3)=False:=bK (by omega);have N3b:(3=o)=False:=bK (by omega);have y0:(st.nx=0)=False:=bK (by omega);have y1:(st.nx=1)=False:=bK (by omega);have y2:(st.nx=2)=False:=bK (by omega);have y3:(st.nx=3)=False:=bK (by omega);have y4:(st.nx=4)=False:=bK (by omega);have y5:(st.nx=5)=False:=bK (by omega);have na : ∀ a b:Nat,st.nx+a+b=st.nx+(a+b):=fun a b=>Nat.add_assoc _ _ _;have Z0:=bI Fa01 <| bI Fa02 <| bI Fa03 <| bI Fa04 <| bI Fb01 <| bI Fb02 <| bI Fb03 <| bI Fb04 <| bI Fc01 <| bI Fc02 <| bI Fc03 <| bI Fc04 <| bI Fd01 <| bI Fd02 <| bI Fd03 <| bI Fd04 <| bI Fo01 <| bI Fo02 <| bI Fo03 <| bI Fo04 <| bI N0a <| bI N0b <| bI N1a <| bI N1b <| bI N2a <| bI N2b <| bI N3a <| bI N3b <| bI y0 <| bI y1 <| bI y2 <| bI y3 <| bI y4 <| bI y5 na
   by_cases hlt:i<Q.length
   ·obtain ⟨p,hp⟩ : ∃ p,Q[i]?=some p:=⟨_,bG hlt⟩;have hp':=yb3 hp;have hps:=yr8 hp;have hpo:=hG.ok p (bF hp);obtain ⟨p1,p2,p3,p4⟩:=hpo;have hn1:=hG.n1;have hql:=hG.ql;have hws:=wS hlt (by omega:Q.length<=9223372036854775807);have f1:=y88 q c v g cfg p.r p.b hc hv hg (by omega) hs hgi;have f2:=y9e g p.r t4 p1 (by omega);have f3:=ya1 (zd6 g p.r) cfg.la p.b (ytu t4 (by omega));have hr40:zag 40 1=true:=by decide
    have hr41:zag 40 (out.length+1)=true:=by have:=hG.ol; simp [zag]; omega
    have hsn:=zpo out (zcy g cfg p);simp only [zcy] at hsn;simp only [bnd] at f1 f3;obtain ⟨K,hK⟩ : ∃ K,K=zaw c v g cfg p.r p.b:=⟨_,rfl⟩;obtain ⟨G,hGg⟩ : ∃ G,G=goes c v g cfg p:=⟨_,rfl⟩;have hG2:G=(decide (p.l<cfg.de) && K.2):=by rw [hGg,hK]; rfl
    cases G with
    | false =>
     obtain ⟨m1,hG'⟩:=hG.leaf hp hGg.symm;rw [<- hK] at f1;simp only [slc] at f2 f3
     by_cases hlv:p.l<cfg.de
     ·have hK2:K.2=false:=by simpa [hlv] using hG2.symm
      obtain ⟨K,Kb⟩:=K;simp only at hK2 f1;subst hK2;simp only [cnd] at f1;have hge : ¬ cfg.de<=p.l:=by omega
      rcases hN with ⟨rfl,rfl⟩ | ⟨w,ew,rfl,hw5,hwx,hwo,hSw⟩
      ·simp [-getElem?_pos,zku,v1,v3,v5,v8,v9,v10,hS0,hS1,hS3,hSo,hlt,hp',hps,hge,f1,f2,f3,hws,hr40,Z0];refine zai (n-1) (by omega) ⟨i+1,o,ep,Q,[zcy g cfg p],.ref (st.nx+3) none st.ep 0 1,hG',by simp [v1],by simp [v3],by simp [v5],by simp [v6],by simp [v8],by simp [v9],by simp,ho3,(by simp <;> omega),by simp <;> omega,by simp [Z0,hS0],by simp [Z0,hS1],by simp [Z0,hS2],by simp,by simp [Z0,hSo],.inr ⟨st.nx+3,st.ep,by simp,by omega,by simp <;> omega,by omega,by simp [nd,zcy,y0]⟩⟩
      ·obtain ⟨Fw01,Fw02,Fw03,Fw04⟩:=fr (show w<st.nx by omega);have M0a:(w=0)=False:=bK (by omega);have M0b:(0=w)=False:=bK (by omega);have M1a:(w=1)=False:=bK (by omega);have M1b:(1=w)=False:=bK (by omega);have M2a:(w=2)=False:=bK (by omega);have M2b:(2=w)=False:=bK (by omega);have M3a:(w=3)=False:=bK (by omega);have M3b:(3=w)=False:=bK (by omega);have M4a:(w=o)=False:=bK (by omega);have M4b:(o=w)=False:=bK (by omega);have Z1:=bI Z0 <| bI Fw01 <| bI Fw02 <| bI Fw03 <| bI Fw04 <| bI M0a <| bI M0b <| bI M1a <| bI M1b <| bI M2a <| bI M2b <| bI M3a <| bI M3b <| bI M4a M4b
       simp [-getElem?_pos,zku,v1,v3,v5,v8,v9,v10,hS0,hS1,hS3,hSo,hSw,hlt,hp',hps,hge,f1,f2,f3,hws,hr41,hsn,Z1];refine zai (n-1) (by omega) ⟨i+1,o,ep,Q,out++[zcy g cfg p],.ref (st.nx+3) none st.ep 0 (out.length+1),hG',by simp [v1],by simp [v3],by simp [v5],by simp [v6],by simp [v8],by simp [v9],by simp,ho3,(by simp <;> omega),by simp <;> omega,by simp [Z1,hS0],by simp [Z1,hS1],by simp [Z1,hS2],by simp,by simp [Z1,hSo],.inr ⟨st.nx+3,st.ep,by simp,by omega,by simp <;> omega,by omega,by simp [nd,zcy,y0]⟩⟩
     ·obtain ⟨K,Kb⟩:=K;simp only [cnd] at f1;have hge:cfg.de<=p.l:=by omega
      rcases hN with ⟨rfl,rfl⟩ | ⟨w,ew,rfl,hw5,hwx,hwo,hSw⟩
      ·simp [-getElem?_pos,zku,v1,v3,v5,v8,v9,v10,hS0,hS1,hS3,hSo,hlt,hp',hps,hge,f1,f2,f3,hws,hr40,Z0];refine zai (n-1) (by omega) ⟨i+1,o,ep,Q,[zcy g cfg p],.ref (st.nx+3) none st.ep 0 1,hG',by simp [v1],by simp [v3],by simp [v5],by simp [v6],by simp [v8],by simp [v9],by simp,ho3,(by simp <;> omega),by simp <;> omega,by simp [Z0,hS0],by simp [Z0,hS1],by simp [Z0,hS2],by simp,by simp [Z0,hSo],.inr ⟨st.nx+3,st.ep,by simp,by omega,by simp <;> omega,by omega,by simp [nd,zcy,y0]⟩⟩
      ·obtain ⟨Fw01,Fw02,Fw03,Fw04⟩:=fr (show w<st.nx by omega);have M0a:(w=0)=False:=bK (by omega);have M0b:(0=w)=False:=bK (by omega);have M1a:(w=1)=False:=bK (by omega);have M1b:(1=w)=False:=bK (by omega);have M2a:(w=2)=False:=bK (by omega);have M2b:(2=w)=False:=bK (by omega);have M3a:(w=3)=False:=bK (by omega);have M3b:(3=w)=False:=bK (by omega);have M4a:(w=o)=False:=bK (by omega);have M4b:(o=w)=False:=bK (by omega);have Z1:=bI Z0 <| bI Fw01 <| bI Fw02 <| bI Fw03 <| bI Fw04 <| bI M0a <| bI M0b <| bI M1a <| bI M1b <| bI M2a <| bI M2b <| bI M3a <| bI M3b <| bI M4a M4b
       simp [-getElem?_pos,zku,v1,v3,v5,v8,v9,v10,hS0,hS1,hS3,hSo,hSw,hlt,hp',hps,hge,f1,f2,f3,hws,hr41,hsn,Z1];refine zai (n-1) (by omega) ⟨i+1,o,ep,Q,out++[zcy g cfg p],.ref (st.nx+3) none st.ep 0 (out.length+1),hG',by simp [v1],by simp [v3],by simp [v5],by simp [v6],by simp [v8],by simp [v9],by simp,ho3,(by simp <;> omega),by simp <;> omega,by simp [Z1,hS0],by simp [Z1,hS1],by simp [Z1,hS2],by simp,by simp [Z1,hSo],.inr ⟨st.nx+3,st.ep,by simp,by omega,by simp <;> omega,by omega,by simp [nd,zcy,y0]⟩⟩
    | true =>
     obtain ⟨m1,hG'⟩:=hG.cut hp hGg.symm;have t7:=yey t2;have hlv:p.l<cfg.de:=by
      have h9:=hG2.symm;simp only [Bool.and_eq_true,decide_eq_true_eq] at h9;exact h9.1
     have hK2:K.2=true:=by
      have h9:=hG2.symm;simp only [Bool.and_eq_true,decide_eq_true_eq] at h9;exact h9.2
     obtain ⟨kf,kb,X,Y,z,k1,k2,hX,hY,hz,kI⟩:=z8u (c:=c) (v:=v) (g:=g) (cfg:=cfg) (rows:=p.r) (b:=p.b) (by rw [<- hK]; exact hK2);rw [<- hK] at f1 hG' k1 k2 kI;obtain ⟨⟨kf',kb',ka,kz⟩,Kb⟩:=K;simp only at hK2 k1 k2 kI f1 hG';subst hK2 k1 k2;have hfc:=(bD hX).1;have hfv:=(bD hY).1;have hbx:=(bD hz).1;have hX':=zc3 (q:=q) hX;have hY':=zc3 (q:=q) hY;have hz':=zay hz;have f4:=ymo cfg p.b ⟨kf,kb,ka,kz⟩ kI;have f5:=ymq cfg kf (by omega);have f6:=y80 (zej cfg kf) p.b (zbw cfg p.b ⟨kf,kb,ka,kz⟩).1 (zbw cfg p.b ⟨kf,kb,ka,kz⟩).2.1 (z8y _ _ _).1 (z8y _ _ _).2;have f7:=y9g Y p.r kb (hv Y (bF hY)) (by omega);have hkl:ze4 c v cfg p ⟨kf,kb,ka,kz⟩=⟨zcc Y p.r kb,(zeo (zej cfg kf) p.b (zbw cfg p.b ⟨kf,kb,ka,kz⟩).1 (zbw cfg p.b ⟨kf,kb,ka,kz⟩).2.1).1,p.l+1⟩:=by
      unfold ze4;simp only [zf7 hY,Option.getD_some]
     have hkr:zew c v cfg p ⟨kf,kb,ka,kz⟩=⟨zdk Y p.r kb,(zeo (zej cfg kf) p.b (zbw cfg p.b ⟨kf,kb,ka,kz⟩).1 (zbw cfg p.b ⟨kf,kb,ka,kz⟩).2.1).2,p.l+1⟩:=by
      unfold zew;simp only [zf7 hY,Option.getD_some]
     have hcn:zfq c ⟨kf,kb,ka,kz⟩ Q.length=⟨kf,z,Q.length,Q.length+1,0⟩:=by
      unfold zfq;simp only [zf7 hX,Option.getD_some,zf7 hz]
     rw [hkl,hkr,hcn] at hG';clear hkl hkr hcn;generalize zbw cfg p.b ⟨kf,kb,ka,kz⟩=sv at *;obtain ⟨sl,sr,sb⟩:=sv;simp only at f4 f6 hG';generalize zej cfg kf=sg at *;generalize zeo sg p.b sl sr=bb at *;obtain ⟨⟨ll,lh⟩,⟨rl,rh⟩⟩:=bb;generalize zcc Y p.r kb=L1 at *;generalize zdk Y p.r kb=R1 at *;simp only [bnd,cnd] at f1 f4 f6 hG';have hQ:=yp4 Q ⟨L1,⟨ll,lh⟩,p.l+1⟩ ⟨R1,⟨rl,rh⟩,p.l+1⟩;have hsn2:=zpo out ⟨kf,z,Q.length,Q.length+1,0⟩;simp only at hQ hsn2;have wl:=w64 (x:=p.l+1) (by omega) (by omega);have wq:=w64 (x:=(Q.length:Int)+1) (by omega) (by omega);have hge : ¬ cfg.de<=p.l:=by omega
     have hr482:zag 48 2=true:=by decide
     have hr483:zag 48 (Q.length+2)=true:=by simp [zag]; omega
     rcases hN with ⟨rfl,rfl⟩ | ⟨w,ew,rfl,hw5,hwx,hwo,hSw⟩
     ·simp [-getElem?_pos,zku,v1,v3,v5,v8,v9,v10,hS0,hS1,hS3,hSo,hlt,hp',hps,hge,f1,f4,f5,f6,f7,hX',hY',hz',wl,wq,hr483,hQ,hws,hr40,Z0];refine zai (n-1) (by omega) ⟨i+1,st.nx+9,st.ep,(Q++[⟨L1,⟨ll,lh⟩,p.l+1⟩,⟨R1,⟨rl,rh⟩,p.l+1⟩]),[⟨kf,z,Q.length,Q.length+1,0⟩],.ref (st.nx+7) none st.ep 0 1,hG',by simp [v1],by simp [v3],by simp [v5],by simp [v6],by simp [v8],by simp,by simp,by omega,by simp,by simp <;> omega,by simp [Z0,hS0],by simp [Z0,hS1],by simp [Z0,hS2],by simp [Z0],by simp,.inr ⟨st.nx+7,st.ep,by simp,by omega,by simp [nd,Fo04]⟩⟩
     ·obtain ⟨Fw01,Fw02,Fw03,Fw04⟩:=fr (show w<st.nx by omega);have M0a:(w=0)=False:=bK (by omega);have M0b:(0=w)=False:=bK (by omega);have M1a:(w=1)=False:=bK (by omega);have M1b:(1=w)=False:=bK (by omega);have M2a:(w=2)=False:=bK (by omega);have M2b:(2=w)=False:=bK (by omega);have M3a:(w=3)=False:=bK (by omega);have M3b:(3=w)=False:=bK (by omega);have M4a:(w=o)=False:=bK (by omega);have M4b:(o=w)=False:=bK (by omega);have Z1:=bI Z0 <| bI Fw01 <| bI Fw02 <| bI Fw03 <| bI Fw04 <| bI M0a <| bI M0b <| bI M1a <| bI M1b <| bI M2a <| bI M2b <| bI M3a <| bI M3b <| bI M4a M4b
      simp [-getElem?_pos,zku,v1,v3,v5,v8,v9,v10,hS0,hS1,hS3,hSo,hSw,hlt,hp',hps,hge,f1,f4,f5,f6,f7,hX',hY',hz',wl,wq,hr483,hQ,hws,hr41,hsn2,Z1];refine zai (n-1) (by omega) ⟨i+1,st.nx+9,st.ep,(Q++[⟨L1,⟨ll,lh⟩,p.l+1⟩,⟨R1,⟨rl,rh⟩,p.l+1⟩]),(out++[⟨kf,z,Q.length,Q.length+1,0⟩]),.ref (st.nx+7) none st.ep 0 (out.length+1),hG',by simp [v1],by simp [v3],by simp [v5],by simp [v6],by simp [v8],by simp,by simp,by omega,by simp,by simp <;> omega,by simp [Z1,hS0],by simp [Z1,hS1],by simp [Z1,hS2],by simp [Z1],by simp,.inr ⟨st.nx+7,st.ep,by simp,by omega,by simp [nd,Fo04]⟩⟩
   ·have hiq:i=Q.length:=by have:=hG.le; omega
    have hgo:=hG.go;rw [ybx (List.getElem?_eq_none (by omega)),<- hR'] at hgo;subst hgo;have hol:=hG.ol;rcases hN with ⟨rfl,rfl⟩ | ⟨w,ew,rfl,hw5,hwx,hwo,hSw⟩
    ·simp [-getElem?_pos,zku,v6,v8,v9,v10,hS2,hS3,hSo,hlt]
    ·obtain ⟨Fw01,Fw02,Fw03,Fw04⟩:=fr (show w<st.nx by omega);have M0a:(w=0)=False:=bK (by omega);have M0b:(0=w)=False:=bK (by omega);have M1a:(w=1)=False:=bK (by omega);have M1b:(1=w)=False:=bK (by omega);have M2a:(w=2)=False:=bK (by omega);have M2b:(2=w)=False:=bK (by omega);have M3a:(w=3)=False:=bK (by omega);have M3b:(3=w)=False:=bK (by omega);have M4a:(w=o)=False:=bK (by omega);have M4b:(o=w)=False:=bK (by omega);have Z1:=bI Z0 <| bI Fw01 <| bI Fw02 <| bI Fw03 <| bI Fw04 <| bI M0a <| bI M0b <| bI M1a <| bI M1b <| bI M2a <| bI M2b <| bI M3a <| bI M3b <| bI M4a M4b
     simp [-getElem?_pos,zku,v6,v8,v9,v10,hS2,hS3,hSo,hSw,hlt,Z1]
  ·refine ⟨by simp,by simp,by simp,by simp,by simp,by simp,by simp,by simp,by simp,by simp,by simp,by simp,by simp,by simp,by simp [hroot],.inl ⟨rfl,rfl⟩⟩
theorem yeu {c v:List (List Int)} {g:List Int} {cfg:Cfg} : ∀ (n:Nat) (q:List Pnd) (i:Nat) (out:List Nd),(zby c v g cfg n q i out).length<=out.length+n
 | 0,q,i,out=>by simp [zby]
 | n+1,q,i,out=>by
  rw [zby];split
  ·omega
  ·split
   ·refine bJ (yeu n _ _ _) ?_;simp; omega
   ·refine bJ (yeu n _ _ _) ?_;simp; omega
theorem ycx (c v:List (List Int)) (g:List Int) (cfg:Cfg):(zb6 c v g cfg).1.length<=32:=by
 unfold zb6;split
 ·have:=yeu (c:=c) (v:=v) (g:=g) (cfg:=cfg) 32 [zcn g] 0 [];simpa using this
 ·simp
theorem y9j {q:Bool} {f:Nat} {cs:List PV} {p:List Int->Bool} (M:List (List Int)) (hl:M.length<=9223372036854775807) (hm:zad T f=[]) (hp : ∀ t∈M,RUN T f [.sl 1 (zab t),.fptr cs 0]=some ([bv (p t)],[])) :
  RUN T zsk [.sl 1 (rws q M),.fn f [.fptr cs 0]]=some ([iv (zg5 p M)],[]):=by
 refine zae rfl rfl ?_;simp [z35,zvz];refine zao (fun n st => ∃ i:Nat,i+n=M.length/\st.V 0 = .sl 1 (rws q M)/\st.V 1 = .fn f [.fptr cs 0]/\st.V 8=iv i/\st.V 7=iv M.length/\∀ (j:Nat) (x:List Int),j<i->M[j]?=some x->p x=false) ?_ M.length _ ⟨0,by simp⟩;rintro n st ⟨i,hi,h0,h1,h8,h7,hj⟩;simp [yfq,h8,h7];refine zau (fun h => ?_) (fun h => ?_)
 ·simp at h;obtain ⟨x,hx⟩ : ∃ x,M[i]?=some x:=⟨_,bG h⟩;have hw:=wS h hl;have hx':=zc3 (q:=q) hx;have hpx:=hp x (bF hx);simp [-getElem?_pos,h0,h1,h8,hx',hm,hpx,h];refine zau (fun b0 => ?_) (fun b0 => ?_) <;> (try simp at b0) <;> simp [-getElem?_pos,b0,h8,hw]
  all_goals first
   | exact (zuy hx b0 hj).symm
   | exact zai (n-1) (by omega) ⟨i+1,by omega,by simp [h0],by simp [h1],by simp,by simp [h7],z9s hj hx b0⟩
 ·simp at h;simp;exact (zy6 fun j x hl hx=>hj j x (by omega) hx).symm
theorem y9k {q:Bool} {f:Nat} {cs:List PV} {p:List Int->Bool} (M:List (List Int)) (hl:M.length<=9223372036854775807) (hm:zad T f=[]) (hp : ∀ t∈M,RUN T f [.sl 1 (zab t),.fptr cs 0]=some ([bv (p t)],[])) :
  RUN T zrp [.sl 1 (rws q M),.fn f [.fptr cs 0]]=some ([bv (M.any p)],[]):=by
 refine zae rfl rfl ?_;have e:=y9j (q:=q) M hl hm hp;simp [z1m,zvz,e,z8k]
def zfn (n:Nat) (r:List Int):Bool:=decide ((r.length:Int)=n) && r.all zbg
def zcv (t:Ta):Bool:=zah t.ns.length 1 4 && zgq (t.ns++[t.nm]) && zah t.rw.length 1 40 && decide ((t.lb.length:Int)=t.rw.length) && t.lb.all zbg && t.rw.all (zfn t.ns.length)
theorem yuz {L:List ByteArray} {x:ByteArray} {i:Nat} (h:i<L.length):nmB (L++[x]) i=nmB L i:=by
 obtain ⟨y,hy⟩ : ∃ y,L[i]?=some y:=⟨_,bG h⟩;have hy2:(L++[x])[i]?=some y:=by rw [List.getElem?_append_left h]; exact hy
 rw [zze hy,zze hy2,List.take_append_of_le_length (by omega)]
theorem qao {L:List ByteArray} {x:ByteArray}:nmB (L++[x]) L.length=(zee x && !zgc L x):=by
 rw [zze (x:=x) (by simp)];simp
theorem qai (L:List ByteArray) (x:ByteArray):zgq (L++[x])=(zgq L && (zee x && !zgc L x)):=by
 unfold zgq;rw [show (L++[x]).length=L.length+1 by simp,List.range_succ,List.all_append];simp only [List.all_cons,List.all_nil,Bool.and_true];rw [qao]
 congr 1
 rw [Bool.eq_iff_iff,List.all_eq_true,List.all_eq_true];constructor
 ·intro h j hj; rw [<- yuz (x:=x) (List.mem_range.mp hj)]; exact h j hj
 ·intro h j hj; rw [yuz (List.mem_range.mp hj)]; exact h j hj
theorem qgv (l:List ByteArray):zch (za6 l)=true:=by
 induction l with
 | nil=>rfl
 | cons x l ih=>simpa [za6,zch] using ih
theorem ym0 (l:List Int):zch (zab l)=true:=by
 induction l with
 | nil=>rfl
 | cons x l ih=>simpa [zab,zch] using ih
theorem qaw (l:List Nd):zch (l.map nd)=true:=by
 induction l with
 | nil=>rfl
 | cons x l ih=>simpa [nd,zch] using ih
theorem y9l (l:List ByteArray) (hl:l.length<=1048576):RUN T zqv [.sl 1 (za6 l)]=some ([.own 1 (za6 l)],[]) :=
 yd3 ygl (qgv l) (by simp [zag]; omega)
theorem y9m (l:List Int) (hl:l.length<=1048576):RUN T zqw [.sl 1 (zab l)]=some ([.own 1 (zab l)],[]) :=
 yd3 ygm (ym0 l) (by simp [zag]; omega)
theorem y9n (l:List Nd) (hl:l.length<=1048576):RUN T zsl [.sl 5 (l.map nd)]=some ([.own 5 (l.map nd)],[]) :=
 yd3 yi7 (qaw l) (by simp [zag]; omega)
theorem y9o (q:Bool) (t:Ta) (r:List Int) (hr:r.length<=9223372036854775807):RUN T znn [.sl 1 (zab r),.fptr [.sl 1 (za6 t.ns),.v (.string t.nm),.sl 1 (rws q t.rw),.sl 1 (zab t.lb)] 0]=some ([bv (!zfn t.ns.length r)],[]):=by
 have e:=yam r hr;unfold zfn;generalize r.all zbg=a at *;refine zae rfl rfl ?_;rcases bL ((r.length:Int)=t.ns.length) with h | h <;> cases a <;> simp [-getElem?_pos,z1o,z1p,e,h]
theorem qcn (l:List ByteArray) (x:ByteArray):za6 l++[[.v (.string x)]]=za6 (l++[x]):=by simp [za6]
theorem ymr (q:Bool) (t:Ta) (ht:TaL 1048576 t):RUN T znj [taS q t]=some ([bv (zcv t)],[]):=by
 have h0:=y9l t.ns ht.ns;have h1:=y70 (t.ns++[t.nm]) (by have:=ht.ns; simp; omega) (fun x hx=>by
  rcases bM hx with e | e
  ·exact bJ (ht.ss x e) (by omega)
  ·simp at e; subst e; exact bJ ht.nm (by omega))
 have h2:=yam t.lb (bJ ht.lb (by omega));have h3:=y9k (q:=q) (f:=znn) (cs:=[.sl 1 (za6 t.ns),.v (.string t.nm),.sl 1 (rws q t.rw),.sl 1 (zab t.lb)]) (p:=fun r => !zfn t.ns.length r) t.rw (bJ ht.rw (by omega)) (by simp) (fun r hr=>y9o q t r (bJ (ht.rr r hr) (by omega)));have e3:(!(t.rw.any fun r => !zfn t.ns.length r))=t.rw.all (zfn t.ns.length):=by simp [List.any_eq_not_all_not]
 have g1:=zc0 t.ns.length 1 4;have g2:=zc0 t.rw.length 1 40;have hsn:=qcn t.ns t.nm;have hns:=ht.ns;have hr1:zag 16 1=true:=by decide
 have hr2:zag 16 (t.ns.length+1)=true:=by simp [zag]; omega
 have Z0:=bI g1 <| bI g2 <| bI h0 <| bI h1 <| bI h2 <| bI h3 <| bI hsn <| bI hr1 hr2
 unfold zcv;rw [<- e3];clear e3;generalize zgq (t.ns++[t.nm])=a1 at *;generalize t.lb.all zbg=a2 at *;generalize (t.rw.any fun r => !zfn t.ns.length r)=a3 at *;generalize zah t.ns.length 1 4=b1 at *;generalize zah t.rw.length 1 40=b2 at *;refine zae rfl rfl ?_;cases b1 with
 | false=>simp [-getElem?_pos,zkp,ztr,-zbm,Z0]
 | true =>
 cases a1 with
 | false=>simp [-getElem?_pos,zkp,ztr,-zbm,Z0]
 | true =>
 cases b2 with
 | false=>simp [-getElem?_pos,zkp,ztr,-zbm,Z0]
 | true =>
 rcases bL ((t.lb.length:Int)=t.rw.length) with h | h
 ·cases a2 with
  | false=>simp [-getElem?_pos,zkp,ztr,-zbm,Z0,h]
  | true=>cases a3 <;> simp [-getElem?_pos,zkp,ztr,-zbm,Z0,h]
 ·simp [-getElem?_pos,zkp,ztr,-zbm,Z0,h]
abbrev taB (q:Bool) (t:Ta):List PV:=[.sl 1 (za6 t.ns),.v (.string t.nm),.sl 1 (rws q t.rw),.sl 1 (zab t.lb)]
theorem qdr (q:Bool) (t:Ta) (ht:TaL 9223372036854775807 t) {Q:Ex->St->Prop} {st:St} (h1:st.V 1 = .ptr 0 none 0 0 0) (h3:st.V 3=iv t.ns.length) (h4:st.V 4=iv (0:Nat)) (hS:st.S 0=some (.box (taB q t)))
  (hr:zgq t.ns=false->∀ s:St,s.V 2=bv false->Q .ret s) (he:zgq t.ns=true->∀ s:St,s.V 1 = .ptr 0 none 0 0 0->s.V 3=iv t.ns.length->s.S 0=some (.box (taB q t))->Q (.exit 0) s):W (zad T) (RUN T) (.loop zts) st Q:=by
 refine zao (fun n st => ∃ i:Nat,i+n=t.ns.length/\(∀ j,j<i->nmB t.ns j=true)/\st.V 1 = .ptr 0 none 0 0 0/\st.V 3=iv t.ns.length/\st.V 4=iv i/\st.S 0=some (.box (taB q t))) ?_ t.ns.length _ ⟨0,by omega,fun _ h=>by omega,h1,h3,h4,hS⟩;clear h1 h3 h4 hS;rintro n st ⟨i,hi,hj,v1,v3,v4,hS⟩
 by_cases h:i<t.ns.length
 ·obtain ⟨x,hx⟩ : ∃ x,t.ns[i]?=some x:=⟨_,bG h⟩;have hx':=zu4 hx;have hw:=wS h ht.ns;have hml:=ht.ns;have hN:=yl2 x (ht.ss x (bF hx));have hC:=yl3 (t.ns.take i) x (by simp; omega);have hc:=zze hx;have hil:i<=t.ns.length:=by omega
  cases a1:zee x with
  | false =>
   rw [a1] at hN hc;simp [-getElem?_pos,zts,v1,v3,v4,hS,hx',h,hN];exact hr (zhn h (by rw [hc]; rfl)) _ (by simp)
  | true =>
   rw [a1] at hN hc;cases a2:zgc (t.ns.take i) x with
   | true =>
    rw [a2] at hC hc;simp [-getElem?_pos,zts,v1,v3,v4,hS,hx',h,hN,hC,hil,z9n];exact hr (zhn h (by rw [hc]; rfl)) _ (by simp)
   | false =>
    rw [a2] at hC hc;simp [-getElem?_pos,zts,v1,v3,v4,hS,hx',h,hw,hN,hC,hil,z9n];exact zai (n-1) (by omega) ⟨i+1,by omega,zh4 hj (by rw [hc]; rfl),by simp [v1,v3,hS]⟩
 ·simp [-getElem?_pos,zts,v3,v4,h];exact he (zuw fun j hj'=>hj j (by omega)) _ (by simp [v1]) (by simp [v3]) (by simp [hS])
theorem qfo (q:Bool) (t:Ta) (ht:TaL 9223372036854775807 t) {r:List Int} {j:Nat} (hj:t.rw[j]?=some r) (hl:r.length=t.ns.length) {Q:Ex->St->Prop} {st:St} (h1:st.V 1 = .ptr 0 none 0 0 0) (h3:st.V 3=iv t.ns.length) (h5:st.V 5=iv j) (h6:st.V 6=iv (0:Nat)) (hS:st.S 0=some (.box (taB q t)))
  (hr:r.all zbg=false->∀ s:St,s.V 2=bv false->Q .ret s) (he:r.all zbg=true->∀ s:St,s.V 1 = .ptr 0 none 0 0 0->s.V 3=iv t.ns.length->s.V 5=iv j->s.S 0=some (.box (taB q t))->Q (.exit 4) s):W (zad T) (RUN T) (.loop zvx) st Q:=by
 have hj':=zc3 (q:=q) hj;have hjl:=(bD hj).1;refine zao (fun n st => ∃ i:Nat,i+n=r.length/\(∀ (k:Nat) (x:Int),k<i->r[k]?=some x->zbg x=true)/\st.V 1 = .ptr 0 none 0 0 0/\st.V 3=iv t.ns.length/\st.V 5=iv j/\st.V 6=iv i/\st.S 0=some (.box (taB q t))) ?_ r.length _ ⟨0,by omega,fun _ _ h=>by omega,h1,h3,h5,h6,hS⟩;clear h1 h3 h5 h6 hS;rintro n st ⟨i,hi,hk,v1,v3,v5,v6,hS⟩
 by_cases h:i<t.ns.length
 ·obtain ⟨x,hx⟩ : ∃ x,r[i]?=some x:=⟨_,bG (by omega)⟩;have hx':=zay hx;have hw:=wS h ht.ns;have hir:i<r.length:=by omega
  have hD:=zph x;cases a1:zbg x with
  | false =>
   rw [a1] at hD;simp [-getElem?_pos,zvx,-zph,v1,v3,v5,v6,hS,hj',hx',h,hD];exact hr (zys hx a1) _ (by simp)
  | true =>
   rw [a1] at hD;simp [-getElem?_pos,zvx,-zph,v1,v3,v5,v6,hS,hj',hx',h,hw,hD];exact zai (n-1) (by omega) ⟨i+1,by omega,zlp (P:=fun _ x=>zbg x=true) hk hx a1,by simp [v1,v3,v5,hS]⟩
 ·simp [-getElem?_pos,zvx,v3,v6,h];exact he (zyj fun k a h1 h2=>hk k a (by omega) h2) _ (by simp [v1]) (by simp [v3]) (by simp [v5]) (by simp [hS])
theorem ynw {M:List (List Int)} {p:List Int->Bool} {j:Nat} {a:List Int} (h1:M[j]?=some a) (h2:p a=false):M.all p=false:=by
 cases e:M.all p with
 | false=>rfl
 | true=>rw [List.all_eq_true.mp e a (bF h1)] at h2; cases h2
theorem qca {M:List (List Int)} {p:List Int->Bool} (h : ∀ (j:Nat) (a:List Int),j<M.length->M[j]?=some a->p a=true):M.all p=true:=by
 rw [List.all_eq_true];intro x hx;obtain ⟨j,hj⟩:=bH hx;exact h j x (bD hj).1 hj
theorem qch (q:Bool) (t:Ta) (ht:TaL 9223372036854775807 t) (hyl:t.lb.length=t.rw.length) {Q:Ex->St->Prop} {st:St} (h1:st.V 1 = .ptr 0 none 0 0 0) (h3:st.V 3=iv t.ns.length) (h5:st.V 5=iv (0:Nat)) (hS:st.S 0=some (.box (taB q t)))
  (hr:(t.lb.all zbg && t.rw.all (zfn t.ns.length))=false->∀ s:St,s.V 2=bv false->Q .ret s) (he:(t.lb.all zbg && t.rw.all (zfn t.ns.length))=true->∀ s:St,Q (.exit 2) s):W (zad T) (RUN T) (.loop ztt) st Q:=by
 refine zao (fun n st => ∃ i:Nat,i+n=t.rw.length/\(∀ (k:Nat) (x:Int),k<i->t.lb[k]?=some x->zbg x=true)/\(∀ (k:Nat) (x:List Int),k<i->t.rw[k]?=some x->zfn t.ns.length x=true)/\st.V 1 = .ptr 0 none 0 0 0/\st.V 3=iv t.ns.length/\st.V 5=iv i/\st.S 0=some (.box (taB q t))) ?_ t.rw.length _ ⟨0,by omega,fun _ _ h=>by omega,fun _ _ h=>by omega,h1,h3,h5,hS⟩;clear h1 h3 h5 hS;rintro n st ⟨i,hi,hk,hk2,v1,v3,v5,hS⟩
 by_cases h:i<t.rw.length
 ·obtain ⟨r,hx⟩ : ∃ x,t.rw[i]?=some x:=⟨_,bG h⟩;obtain ⟨y,hy⟩ : ∃ x,t.lb[i]?=some x:=⟨_,bG (by omega)⟩;have hx':=zc3 (q:=q) hx;have hy':=zay hy;have hw:=wS h ht.rw;have hil:i<t.lb.length:=by omega
  have hD:=zph y;have hrb:zfn t.ns.length r=(decide ((r.length:Int)=t.ns.length) && r.all zbg):=rfl;rcases bL ((r.length:Int)=t.ns.length) with e1 | e1
  ·cases a1:zbg y with
   | false =>
    rw [a1] at hD;simp [-getElem?_pos,ztt,-zph,v1,v3,v5,hS,hx',hy',h,hD,e1];exact hr (by rw [zys hy a1]; rfl) _ (by simp)
   | true =>
    rw [a1] at hD;have e2:(r.length:Int)=t.ns.length:=by rw [e1]; trivial
    simp [-getElem?_pos,ztt,-zph,v1,v3,v5,hS,hx',hy',h,hD,e1];refine qfo q t ht hx (by omega) (by simp [v1]) (by simp [v3]) (by simp [v5]) (by simp) (by simp [hS]) (fun no s h2 => ?_) (fun ok s w1 w3 w5 wS => ?_)
    ·simp;refine hr ?_ _ (by simp [h2]);rw [ynw hx (by rw [hrb,no]; simp)]; simp
    ·simp [-getElem?_pos,w5,hw];exact zai (n-1) (by omega) ⟨i+1,by omega,zlp (P:=fun _ x=>zbg x=true) hk hy a1,(fun k x h1 h2=>by
      rcases Nat.lt_or_ge k i with h3 | h3
      ·exact hk2 k x h3 h2
      ·have:k=i:=by omega
       subst this;rw [hx] at h2; cases h2;rw [hrb,ok,decide_eq_true e2]; rfl),by simp [w1,w3,wS]⟩
  ·simp [-getElem?_pos,ztt,-zph,v1,v3,v5,hS,hx',h,e1];refine hr ?_ _ (by simp);rw [ynw hx (by rw [hrb]; simp [e1])]; simp
 ·simp [-getElem?_pos,ztt,v1,v5,hS,h];exact he (by rw [zyj fun k a h1 h2=>hk k a (by omega) h2,qca fun k a h1 h2=>hk2 k a (by omega) h2]; rfl) _
theorem ya6 (q:Bool) (t:Ta) (ht:TaL 9223372036854775807 t):RUN T zlq [taS q t]=some ([bv (zcv t)],[]):=by
 have g1:=zbb t.ns.length 1 4;have g2:=zbb t.rw.length 1 40;have g3:=yl2 t.nm ht.nm;have g4:=yl3 t.ns t.nm ht.ns;have mod:zcv t=(zah t.ns.length 1 4 && (zgq t.ns && (zee t.nm && !zgc t.ns t.nm)) && zah t.rw.length 1 40 && decide ((t.lb.length:Int)=t.rw.length) && t.lb.all zbg && t.rw.all (zfn t.ns.length)):=by
  unfold zcv;rw [qai]
 rw [mod];clear mod;generalize zah t.ns.length 1 4=b1 at *;generalize zah t.rw.length 1 40=b2 at *;generalize zee t.nm=b3 at *;generalize zgc t.ns t.nm=b4 at *;obtain ⟨R,hR⟩ : ∃ R,R=(b1 && (zgq t.ns && (b3 && !b4)) && b2 && decide ((t.lb.length:Int)=t.rw.length) && t.lb.all zbg && t.rw.all (zfn t.ns.length)):=⟨_,rfl⟩;rw [<- hR];refine zae rfl rfl ?_;cases b1 with
 | false =>
  have hR:R=false:=by rw [hR]; simp
  subst hR;simp [-getElem?_pos,zkh,ztr,-za1,g1]
 | true =>
 cases b3 with
 | false =>
  have hR:R=false:=by rw [hR]; simp
  subst hR;simp [-getElem?_pos,zkh,ztr,-za1,g1,g3]
 | true =>
 cases b4 with
 | true =>
  have hR:R=false:=by rw [hR]; simp
  subst hR;simp [-getElem?_pos,zkh,ztr,-za1,g1,g3,g4]
 | false =>
 cases b2 with
 | false =>
  have hR:R=false:=by rw [hR]; simp
  subst hR;simp [-getElem?_pos,zkh,ztr,-za1,g1,g2,g3,g4]
 | true =>
 by_cases e2:(t.lb.length:Int)=t.rw.length
 ·have e1:((t.lb.length:Int)=t.rw.length)=True:=eq_true e2;rw [decide_eq_true e2] at hR;simp [-getElem?_pos,zkh,ztr,-za1,g1,g2,g3,g4,e1];refine qdr q t ht (by simp) (by simp) (by simp) (by simp) (fun no s h2 => ?_) (fun ok s u1 u3 uS => ?_)
  ·have hR:R=false:=by rw [hR,no]; simp
   simp [h2,hR]
  ·simp [-getElem?_pos];refine qch q t ht (by omega) (by simp [u1]) (by simp [u3]) (by simp) (by simp [uS]) (fun no s h2 => ?_) (fun ok2 s => ?_)
   ·have hR:R=false:=by rw [hR,ok]; generalize t.lb.all zbg=a at *; generalize t.rw.all (zfn t.ns.length)=b at *; cases a <;> cases b <;> first | rfl | cases no
    simp [h2,hR]
   ·have hR:R=true:=by rw [hR,ok]; generalize t.lb.all zbg=a at *; generalize t.rw.all (zfn t.ns.length)=b at *; cases a <;> cases b <;> first | rfl | cases ok2
    simp [hR]
 ·have e1:((t.lb.length:Int)=t.rw.length)=False:=bK e2;have hR:R=false:=by rw [hR,decide_eq_false e2]; simp
  subst hR;simp [-getElem?_pos,zkh,ztr,-za1,g1,g2,g3,g4,e1]
theorem yms (t:List Nd) (hl:t.length<=1048576):RUN T znp [.agg [.sl 5 (t.map nd)]]=some ([.agg [.own 5 (t.map nd)]],[]):=by
 have e:=y9n t hl;refine zae rfl rfl ?_;simp [-getElem?_pos,z1s,zii,e]
theorem ymt (t:List Nd) (hl:t.length<=1048576):RUN T znq [.agg [.sl 5 (t.map nd)]]=some ([.agg [.own 5 (t.map nd)]],[]):=by
 have h0:zag 40 0=true:=by decide
 have h1:zag 40 t.length=true:=by simp [zag]; omega
 have h2:=yt9 t;refine zae rfl rfl ?_;simp [-getElem?_pos,z1w,zii,h1,h2]
theorem y9p (q:Bool) (M:List (List Nd)) (hl:M.length<=1048576) (ht : ∀ t∈M,t.length<=1048576):RUN T zqx [.sl 1 (trs q M)]=some ([.own 1 (trs true M)],[]):=by
 have hr0:zag 24 0=true:=by decide
 have hr1:zag 24 1=true:=by decide
 refine zae rfl rfl ?_;simp [-getElem?_pos,z0b,zz2];refine zao (fun n st => ∃ (i o e:Nat),i+n=M.length/\st.V 3 = .ref o none e 0 i/\st.V 7 = .sl 1 (trs q M)/\st.V 8=iv M.length/\st.V 9=iv i/\o<st.nx/\st.S o=some (.row 1 (trs true (M.take i)))) ?_ M.length _ ⟨0,0,0,by omega,by simp [trs]⟩;rintro n st ⟨i,o,ep,hi,v3,v7,v8,v9,hox,hSo⟩;obtain ⟨x1,x2,x3,x4⟩:=fr hox;have na : ∀ a b:Nat,st.nx+a+b=st.nx+(a+b):=fun a b=>Nat.add_assoc _ _ _
 by_cases h:i<M.length
 ·obtain ⟨t,hx⟩ : ∃ t,M[i]?=some t:=⟨_,bG h⟩;have hx':=ypi (q:=q) hx;have hw:=wS h (by omega:M.length<=9223372036854775807);have e1:=yms t (ht t (bF hx));have hr24:zag 24 (i+1)=true:=by simp [zag]; omega
  have hsn:trs true (M.take i)++[[.own 5 (t.map nd)]]=trs true (M.take (i+1)):=by rw [yqr,List.take_succ,hx]; rfl
  have hml:(M.take i).length=i:=by simp; omega
  simp [-getElem?_pos,z9y,v3,v7,v8,v9,hSo,h,hx',hw,e1,hr24,hsn,hml,x1,x3,na];exact zai (n-1) (by omega) ⟨i+1,st.nx+3,st.ep,by omega,by simp; omega,by simp [v7,v8]⟩
 ·have e:i=M.length:=by omega
  subst e;rw [List.take_length] at hSo;simp [-getElem?_pos,z9y,v3,v8,v9,hSo]
theorem y9q (q:Bool) (M:List (List Nd)) (hl:M.length<=1048576) (ht : ∀ t∈M,t.length<=1048576):RUN T zqz [.sl 1 (trs q M)]=some ([.own 1 (trs true M)],[]):=by
 have hr0:zag 24 0=true:=by decide
 have hr1:zag 24 1=true:=by decide
 refine zae rfl rfl ?_;simp [-getElem?_pos,z0f,zz2];refine zao (fun n st => ∃ (i o e:Nat),i+n=M.length/\st.V 0 = .sl 1 (trs q M)/\st.V 3 = .ref o none e 0 i/\st.V 4=iv i/\o<st.nx/\st.S o=some (.row 1 (trs true (M.take i)))) ?_ M.length _ ⟨0,0,0,by omega,by simp [trs]⟩;rintro n st ⟨i,o,ep,hi,v0,v3,v4,hox,hSo⟩;obtain ⟨x1,x2,x3,x4⟩:=fr hox;have na : ∀ a b:Nat,st.nx+a+b=st.nx+(a+b):=fun a b=>Nat.add_assoc _ _ _
 by_cases h:i<M.length
 ·obtain ⟨t,hx⟩ : ∃ t,M[i]?=some t:=⟨_,bG h⟩;have hx':=ypi (q:=q) hx;have hw:=wS h (by omega:M.length<=9223372036854775807);have e1:=ymt t (ht t (bF hx));have hr24:zag 24 (i+1)=true:=by simp [zag]; omega
  have hsn:trs true (M.take i)++[[.own 5 (t.map nd)]]=trs true (M.take (i+1)):=by rw [yqr,List.take_succ,hx]; rfl
  have hml:(M.take i).length=i:=by simp; omega
  simp [-getElem?_pos,z9z,v0,v3,v4,hSo,h,hx',hw,e1,hr24,hsn,hml,x1,x3,na];exact zai (n-1) (by omega) ⟨i+1,st.nx+2,st.ep,by omega,by simp [v0],by simp; omega,by simp⟩
 ·have e:i=M.length:=by omega
  subst e;rw [List.take_length] at hSo;simp [-getElem?_pos,z9z,v0,v3,v4,hSo]
def zgk (c:Cfg) (x:Nd):Nd:=if x.f = -1 then ⟨x.f,x.c,x.l,x.r,(shr x.v c).1⟩ else x
def zjj (c:Cfg) (x:Nd):Bool := !decide (x.f = -1) || (shr x.v c).2
def zgf (c:Cfg) (t:List Nd):List Nd×Bool:=if t.all (zjj c)=true then (t.map (zgk c),true) else ([],false)
theorem yuk : ∀ (t:List Nd) (i:Int) (j:Int),j∈lvs t i↔∃ (k:Nat) (x:Nd),j=i+k/\t[k]?=some x/\x.f = -1
 | [],i,j=>by simp [lvs]
 | x::xs,i,j=>by
  have ih:=yuk xs (i+1) j;have key:(∃ (k:Nat) (y:Nd),j=i+k/\(x::xs)[k]?=some y/\y.f = -1)↔(j=i/\x.f = -1)\/∃ (k:Nat) (y:Nd),j=i+1+k/\xs[k]?=some y/\y.f = -1:=by
   constructor
   ·rintro ⟨k,y,h1,h2,h3⟩;cases k with
    | zero=>simp at h2; subst h2; exact .inl ⟨by omega,h3⟩
    | succ k=>exact .inr ⟨k,y,by omega,by simpa using h2,h3⟩
   ·rintro (⟨h1,h2⟩ | ⟨k,y,h1,h2,h3⟩)
    ·exact ⟨0,x,by omega,rfl,h2⟩
    ·exact ⟨k+1,y,by omega,by simpa using h2,h3⟩
  rw [key,<- ih];simp only [lvs];split
  ·rename_i hf;rw [List.mem_cons];constructor
   ·rintro (h | h)
    ·exact .inl ⟨h,hf⟩
    ·exact .inr h
   ·rintro (h | h)
    ·exact .inl h.1
    ·exact .inr h
  ·rename_i hf;constructor
   ·exact .inr
   ·rintro (h | h)
    ·exact absurd h.2 hf
    ·exact h
def zvu (c:Cfg) (t C:List Nd) (p:Nat->Prop):Prop:=C.length=t.length/\∀ (j:Nat) (x:Nd),t[j]?=some x->(p j->C[j]?=some (zgk c x))/\(¬ p j->C[j]?=some x)
theorem yq4 {c:Cfg} {t C:List Nd} {p:Nat->Prop} (h:zvu c t C p) (hp : ∀ (j:Nat) (x:Nd),t[j]?=some x->x.f = -1->p j):C=t.map (zgk c):=by
 refine List.ext_getElem? fun j => ?_;rcases Nat.lt_or_ge j t.length with hj | hj
 ·obtain ⟨x,hx⟩ : ∃ x,t[j]?=some x:=⟨_,bG hj⟩;obtain ⟨h1,h2⟩:=h.2 j x hx;rw [List.getElem?_map,hx,Option.map_some];rcases Classical.em (p j) with hpj | hpj
  ·exact h1 hpj
  ·rw [h2 hpj]
   by_cases hf:x.f = -1
   ·exact absurd (hp j x hx hf) hpj
   ·unfold zgk; rw [if_neg hf]
 ·rw [List.getElem?_eq_none (by rw [h.1]; omega),List.getElem?_eq_none (by simpa using hj)]
theorem yn3 {c:Cfg} {t C:List Nd} {p:Nat->Prop} {i:Nat} {x:Nd} (h:zvu c t C p) (hx:t[i]?=some x) (hf:x.f = -1):zvu c t (C.set i ⟨x.f,x.c,x.l,x.r,(shr x.v c).1⟩) (fun j=>p j\/j=i):=by
 refine ⟨by rw [List.length_set,h.1],fun j y hy => ?_⟩;obtain ⟨h1,h2⟩:=h.2 j y hy;have hi:=(bD hx).1
 by_cases e:j=i
 ·subst e;rw [hx] at hy; cases hy;refine ⟨fun _ => ?_,fun hn=>absurd (.inr rfl) hn⟩;rw [List.getElem?_set_self (by rw [h.1]; exact hi)];unfold zgk; rw [if_pos hf]
 ·rw [List.getElem?_set_ne (fun h=>e h.symm)];exact ⟨fun hp=>h1 (hp.resolve_right e),fun hn=>h2 fun hp=>hn (.inl hp)⟩
theorem yqg {c:Cfg} {t C:List Nd} {p:Nat->Prop} {i:Nat} {x:Nd} (h:zvu c t C p) (hx:t[i]?=some x) : ∃ v,C[i]?=some ⟨x.f,x.c,x.l,x.r,v⟩:=by
 obtain ⟨h1,h2⟩:=h.2 i x hx;rcases Classical.em (p i) with hp | hp
 ·rw [h1 hp];unfold zgk;split
  ·exact ⟨_,rfl⟩
  ·exact ⟨x.v,rfl⟩
 ·exact ⟨x.v,h2 hp⟩
theorem ypl {c:Cfg} {t:List Nd} {i:Nat} {x:Nd} (hx:t[i]?=some x) (hf:x.f = -1) (hs:(shr x.v c).2=false):t.all (zjj c)=false:=by
 cases e:t.all (zjj c) with
 | false=>rfl
 | true =>
  have:=List.all_eq_true.mp e x (bF hx);unfold zjj at this;rw [hs,decide_eq_true hf] at this;cases this
theorem yo7 {c:Cfg} {t:List Nd} (h : ∀ (j:Nat) (x:Nd),t[j]?=some x->x.f = -1->(shr x.v c).2=true):t.all (zjj c)=true:=by
 rw [List.all_eq_true];intro x hx;obtain ⟨j,hj⟩:=bH hx;unfold zjj
 by_cases hf:x.f = -1
 ·rw [h j x hj hf]; simp
 ·rw [decide_eq_false hf]; rfl
theorem y9r (t:List Nd) (c:Cfg) (hl:t.length<=1048576) (hc:c.sg.length<=1048576):RUN T zrg [.agg [.sl 5 (t.map nd)],zd1 c]=some ([.agg [.own 5 ((zgf c t).1.map nd)],bv (zgf c t).2],[]):=by
 have e1:=ymt t hl;obtain ⟨R,hR⟩ : ∃ R,R=zgf c t:=⟨_,rfl⟩;have hR':R=if t.all (zjj c)=true then (t.map (zgk c),true) else ([],false):=hR
 rw [<- hR];clear hR;simp only [zd1];refine zae rfl rfl ?_;simp [-getElem?_pos,z02,z0z,e1];refine zao (fun n st => ∃ (i:Nat) (C:List Nd),i+n=t.length/\zvu c t C (fun j=>j<i)/\(∀ (j:Nat) (x:Nd),j<i->t[j]?=some x->(x.f = -1->(shr x.v c).2=true))/\st.V 2 = .ptr 0 none 0 0 0/\st.V 3 = .ptr 1 none 0 0 0/\st.V 4 = .ptr 2 none 0 0 0/\st.V 6 = .ptr 4 none 0 0 0/\st.V 7=iv i/\4<st.nx/\st.S 0=some (.box [.sl 5 (t.map nd)])/\st.S 1=some (.box [iv c.ro,iv c.de,iv c.bi,iv c.la,iv c.rw,iv c.nu,iv c.dn,.sl 1 (zab c.sg)])/\st.S 2=some (.box [.e0])/\st.S 4=some (.box [.ref 3 none 0 0 t.length])/\st.S 3=some (.row 5 (C.map nd))) ?_ t.length _ ⟨0,t,by omega,⟨rfl,fun j x hx=>⟨fun h=>by omega,fun _=>hx⟩⟩,fun j x h=>by omega,by simp⟩;rintro n st ⟨i,C,hi,hC,hok,v2,v3,v4,v6,v7,h4x,hS0,hS1,hS2,hS4,hS3⟩;obtain ⟨z1,z2,z3,z4⟩:=fr h4x
 by_cases h:i<t.length
 ·obtain ⟨x,hx⟩ : ∃ x,t[i]?=some x:=⟨_,bG h⟩;have hx':=zyc hx;have hw:=wS h (by omega:t.length<=9223372036854775807);have f1:=y7g x.v c (by omega);obtain ⟨v,hv⟩:=yqg hC hx;have hv':=zyc hv;have hCl:i<C.length:=by rw [hC.1]; exact h
  simp only [zd1] at f1;rcases bL (x.f = -1) with hf | hf
  ·have hf':x.f = -1:=by rw [hf]; trivial
   have hset:=zqi C i x.f x.c x.l x.r (shr x.v c).1;have hI:=yn3 hC hx hf';cases hb:(shr x.v c).2 with
   | false =>
    rw [ypl hx hf' hb,if_neg (by simp)] at hR';subst hR';rw [hb] at f1;simp [-getElem?_pos,zwh,v2,v3,v4,v7,hS0,hS1,hS2,h,hx',hf,f1]
   | true =>
    have hok2:=zlp (P:=fun _ x=>x.f = -1->(shr x.v c).2=true) hok hx (fun _=>hb);rw [hb] at f1;simp [-getElem?_pos,zwh,v2,v3,v6,v7,hS0,hS1,hS4,hS3,h,hx',hw,hf,f1,hv',hset];exact zai (n-1) (by omega) ⟨i+1,_,by omega,⟨hI.1,fun j y hy=>⟨fun hj=>(hI.2 j y hy).1 (by omega),fun hj=>(hI.2 j y hy).2 (by omega)⟩⟩,hok2,by simp [v2,v3,v4,v6,h4x,hS0,hS1,hS2,hS4]⟩
  ·have hf' : ¬ x.f = -1:=by rw [hf]; exact id
   have hok2:=zlp (P:=fun _ x=>x.f = -1->(shr x.v c).2=true) hok hx (fun h=>absurd h hf');simp [-getElem?_pos,zwh,v2,v7,hS0,h,hx',hw,hf];refine zai (n-1) (by omega) ⟨i+1,C,by omega,⟨hC.1,fun j y hy=>⟨fun hj => ?_,fun hj=>(hC.2 j y hy).2 (by omega)⟩⟩,hok2,by simp [v2,v3,v4,v6,h4x,hS0,hS1,hS2,hS4,hS3]⟩
   by_cases e:j=i
   ·subst e;rw [hx] at hy; cases hy;rw [(hC.2 j x hx).2 (by omega)];unfold zgk; rw [if_neg hf']
   ·exact (hC.2 j y hy).1 (by omega)
 ·have hall:=yq4 hC (fun j x hx _=>by have:=(bD hx).1; omega);rw [yo7 (fun j x hx hf=>hok j x (by have:=(bD hx).1; omega) hx hf),if_pos rfl,<- hall] at hR';have hCl:=hC.1;subst hR';simp [-getElem?_pos,zwh,v2,v4,v6,v7,hS0,hS2,hS4,hS3,h,hCl]
theorem y9s (t:List Nd) (c:Cfg) (hl:t.length<=1048576) (hc:c.sg.length<=1048576):RUN T zrc [.agg [.sl 5 (t.map nd)],zd1 c]=some ([.agg [.own 5 ((zgf c t).1.map nd)],bv (zgf c t).2],[]):=by
 have e1:=yms t hl;have e2:=y65 t hl;have hll:=zyy t 0;have hmem:=yuk t 0;generalize lvs t 0=L at *;obtain ⟨R,hR⟩ : ∃ R,R=zgf c t:=⟨_,rfl⟩;have hR':R=if t.all (zjj c)=true then (t.map (zgk c),true) else ([],false):=hR
 rw [<- hR];clear hR;simp only [zd1];refine zae rfl rfl ?_;simp [-getElem?_pos,z0y,z0z,e1,e2];refine zao (fun n st => ∃ (i:Nat) (C:List Nd),i+n=L.length/\zvu c t C (fun j=>(j:Int)∈L.take i)/\(∀ (k:Nat) (y:Int),k<i->L[k]?=some y->∀ (j:Nat) (x:Nd),y=j->t[j]?=some x->(shr x.v c).2=true)/\st.V 2 = .ptr 0 none 0 0 0/\st.V 3 = .ptr 1 none 0 0 0/\st.V 4 = .ptr 2 none 0 0 0/\st.V 6 = .ptr 4 none 0 0 0/\st.V 14 = .ref 5 none 0 0 L.length/\st.V 15=iv L.length/\st.V 16=iv i/\5<st.nx/\st.S 0=some (.box [.sl 5 (t.map nd)])/\st.S 1=some (.box [iv c.ro,iv c.de,iv c.bi,iv c.la,iv c.rw,iv c.nu,iv c.dn,.sl 1 (zab c.sg)])/\st.S 2=some (.box [.e0])/\st.S 4=some (.box [.ref 3 none 0 0 t.length])/\st.S 5=some (.row 1 (zab L))/\st.S 3=some (.row 5 (C.map nd))) ?_ L.length _ ⟨0,t,by omega,⟨rfl,fun j x hx=>⟨fun h=>by simp at h,fun _=>hx⟩⟩,fun k y h=>by omega,by simp⟩;rintro n st ⟨i,C,hi,hC,hok,v2,v3,v4,v6,v14,v15,v16,h5x,hS0,hS1,hS2,hS4,hS5,hS3⟩;obtain ⟨z1,z2,z3,z4⟩:=fr h5x
 by_cases h:i<L.length
 ·obtain ⟨y,hy⟩ : ∃ y,L[i]?=some y:=⟨_,bG h⟩;obtain ⟨k,x,hyk,hx,hf'⟩:=(hmem y).mp (bF hy);have hyk:y=(k:Int):=by omega
  subst hyk;have hy':=zay hy;have hkt:=(bD hx).1;have hx':=zyc hx;have hw:=wS h (by omega:L.length<=9223372036854775807);have f1:=y7h x.v c (by omega);obtain ⟨v,hv⟩:=yqg hC hx;have hv':=zyc hv;have hCl:k<C.length:=by rw [hC.1]; exact hkt
  simp only [zd1] at f1;have hset:=zqi C k x.f x.c x.l x.r (shr x.v c).1;have hI:=yn3 hC hx hf';have htk:L.take (i+1)=L.take i++[(k:Int)]:=by rw [List.take_succ,hy]; rfl
  cases hb:(shr x.v c).2 with
  | false =>
   rw [ypl hx hf' hb,if_neg (by simp)] at hR';subst hR';rw [hb] at f1;simp [-getElem?_pos,z0x,v2,v3,v4,v14,v15,v16,hS0,hS1,hS2,hS5,h,hy',hx',f1]
  | true =>
   rw [hb] at f1;have hok2 : ∀ (k':Nat) (y:Int),k'<i+1->L[k']?=some y->∀ (j:Nat) (x:Nd),y=j->t[j]?=some x->(shr x.v c).2=true:=by
    intro k' y hk' hy2 j x2 e1 e2;rcases Nat.lt_or_ge k' i with h3 | h3
    ·exact hok k' y h3 hy2 j x2 e1 e2
    ·have e3:k'=i:=by omega
     subst e3;rw [hy] at hy2; cases hy2;have e4:j=k:=by omega
     subst e4;rw [hx] at e2; cases e2;exact hb
   simp [-getElem?_pos,z0x,v2,v3,v6,v14,v15,v16,hS0,hS1,hS4,hS5,hS3,h,hy',hkt,hx',hw,f1,hv',hset];refine zai (n-1) (by omega) ⟨i+1,_,by omega,⟨hI.1,fun j y hy2=>⟨fun hj=>(hI.2 j y hy2).1 ?_,fun hj=>(hI.2 j y hy2).2 ?_⟩⟩,hok2,by simp [v2,v3,v4,v6,v14,v15,h5x,hS0,hS1,hS2,hS4,hS5]⟩
   ·rw [htk,List.mem_append,List.mem_singleton] at hj;exact hj.imp id (fun e=>by omega)
   ·intro hp;apply hj;rw [htk,List.mem_append,List.mem_singleton];exact hp.imp id (fun e=>by omega)
 ·have hiL:i=L.length:=by omega
  subst hiL;rw [List.take_length] at hC;have hin : ∀ (j:Nat) (x:Nd),t[j]?=some x->x.f = -1->(j:Int)∈L:=fun j x hx hf=>(hmem j).mpr ⟨j,x,by omega,hx,hf⟩;have hall:=yq4 hC hin;rw [yo7 (fun j x hx hf=>by
   obtain ⟨k,hk⟩:=bH (hin j x hx hf);exact hok k j (bD hk).1 hk j x rfl hx),if_pos rfl,<- hall] at hR'
  have hCl:=hC.1;subst hR';simp [-getElem?_pos,z0x,v4,v6,v15,v16,hS2,hS4,hS3,hCl]
theorem ydz (c:Cfg) (t:List Nd):(zgf c t).1.length<=t.length:=by
 unfold zgf;split
 ·simp
 ·simp
def zh7 (t:Ta):Sta×Bool:=if zcv t=true then (⟨List.replicate t.lb.length (zdc t.lb).1,[]⟩,true) else (⟨[],[]⟩,false)
theorem qb3 (b:Int) (i:Nat):zab (List.replicate i b)++[[iv b]]=zab (List.replicate (i+1) b):=by
 rw [List.replicate_succ']; simp [zab]
theorem y9t (q:Bool) (t:Ta) (ht:TaL 1048576 t) (hi : ∀ x∈t.lb,inI x):RUN T zq2 [taS q t]=some ([stO (zh7 t).1,bv (zh7 t).2],[]):=by
 have e1:=ya6 q t ⟨bJ ht.ns (by omega),fun x hx=>bJ (ht.ss x hx) (by omega),bJ ht.nm (by omega),bJ ht.rw (by omega),fun x hx=>bJ (ht.rr x hx) (by omega),bJ ht.lb (by omega)⟩;have e3:=y7p t.lb (bJ ht.lb (by omega)) hi;have hlb:=ht.lb;unfold zh7;generalize zcv t=b1 at *;generalize zdc t.lb=bs at *;obtain ⟨bs,bb⟩:=bs;simp only at e3 ⊢;have hr1:zag 8 1=true:=by decide
 have zi:zab []=[]:=rfl;have zt:trs true []=[]:=rfl;refine zae rfl rfl ?_;cases b1 with
 | false=>simp [-getElem?_pos,zv5,zv6,e1,zi,zt]
 | true =>
  simp [-getElem?_pos,zv5,zv6,e1,e3];refine zao (fun n st => ∃ (i:Nat) (x:PV),i+n=t.lb.length/\st.V 1 = .ptr 0 none 0 0 0/\st.V 2 = .ptr 1 none 0 0 0/\st.V 5=iv bs/\st.V 4 = .ptr 2 none 0 0 0/\st.V 7=iv i/\2<st.nx/\LC st.S st.nx 2 (List.replicate i bs) x/\st.S 0=some (.box [.sl 1 (za6 t.ns),.v (.string t.nm),.sl 1 (rws q t.rw),.sl 1 (zab t.lb)])/\st.S 1=some (.box [.e0,.e0])/\st.S 2=some (.box [x,.e0])) ?_ t.lb.length _ ⟨0,.e0,by omega,by simp,by simp,by simp,by simp,by simp,by simp,.inl ⟨rfl,rfl⟩,by simp⟩;rintro n st ⟨i,x,hin,v1,v2,v5,v4,v7,hnx,hx,hS0,hS1,hS2⟩;have z1:=fr hnx;have z2:=fr (by omega:1<st.nx);have nz0 : ¬ st.nx=0:=by omega
  have z3:=fr (by omega:0<st.nx)
  by_cases h:i<t.lb.length
  ·have hw:=wS h (by omega:t.lb.length<=9223372036854775807);have hsn:=qb3 bs i;rcases hx with ⟨rfl,hm⟩ | ⟨o,e,rfl,ho,hox,hSo⟩
   ·have hi0:i=0:=by cases i with | zero=>rfl | succ n=>simp [List.replicate_succ] at hm
    subst hi0;simp [-getElem?_pos,zv4,v1,v4,v5,v7,hS0,hS2,z1,h,hr1];exact zai (n-1) (by omega) ⟨1,_,by omega,by simp [v1],by simp [v2],by simp [v5],by simp [v4],by simp,by simp; omega,.inr ⟨st.nx+1,st.ep,rfl,by omega,by simp,by
     have n2 : ¬ st.nx+1=2:=by omega
     simp [n2,zab]⟩,by simp [z2,z3,hS0,hS1]⟩
   ·have hr8:=zbx (n:=i+1) (by omega);have y1:=fr hox;have y2:=fr ho;have y3:=fr (by omega:1<o);have y4:=fr (by omega:0<o);rw [List.length_replicate] at *;have hil:(zab (List.replicate i bs)).length=i:=by simp [zab]
    generalize zab (List.replicate i bs)=A at *;simp [-getElem?_pos,zv4,v1,v4,v5,v7,hS0,hS2,hSo,z1,y1,y2,h,hw,hr8,hsn,hil];exact zai (n-1) (by omega) ⟨i+1,.ref (st.nx+1) none st.ep 0 (i+1),by omega,by simp [v1],by simp [v2],by simp [v5],by simp [v4],by simp,by simp; omega,.inr ⟨st.nx+1,st.ep,by simp,by omega,by simp,by
     have n2 : ¬ st.nx+1=2:=by omega
     simp [n2]⟩,by simp [z2,z3,y3,y4,hS0,hS1]⟩
  ·have e:i=t.lb.length:=by omega
   subst e;rcases hx with ⟨rfl,hm⟩ | ⟨o,e,rfl,ho,hox,hSo⟩
   ·rw [hm];simp [-getElem?_pos,zv4,v1,v2,v4,v7,hS0,hS1,hS2,zi,zt]
   ·have y2:=fr ho;have y3:=fr (by omega:1<o);rw [List.length_replicate] at *;simp [-getElem?_pos,zv4,v1,v2,v4,v7,hS0,hS1,hS2,hSo,y3,zt]
def PDc (v:PV):Prop := ∃ n,v=iv n/\zbg n=true
theorem zu3 {n:Int} (h1 : -2147483647<=n) (h2:n<=2147483647):zbg n=true:=by
 unfold zbg; exact zar.mpr ⟨h1,h2⟩
theorem ya7 (B:List Int) (p:Nat) (s:Int) (hp:p<=B.length) (hB:B.length<=9223372036854775807) : ∃ r,RUN T zlz [.bx [.sl 1 (zbl B),iv p,iv s]]=some r/\zf0 B PDc r:=by
 refine ze0 rfl rfl ?_;have hr5:zag 8 5=true:=by decide
 obtain ⟨r1,h1,v1,p1,s1,⟨b1,rfl⟩,hp1,rfl⟩:=zg6 B p s hp hB 20 (by omega);cases b1 with
 | true =>
  obtain ⟨r2,h2,v2,p2,s2,⟨a2,rfl,hm⟩,hp2,rfl⟩:=zf2 B p1 s1 hp1 hB [2147483647,-2147483647,1,-1,1000000000] (by simp);simp only [zab,List.map] at h2;simp [-getElem?_pos,zt6,ztr,h1,h2];refine ⟨_,p2,s2,⟨a2,rfl,?_⟩,hp2,rfl⟩;simp at hm;exact zu3 (by omega) (by omega)
 | false =>
  obtain ⟨r2,h2,v2,p2,s2,⟨b2,rfl⟩,hp2,rfl⟩:=zg6 B p1 s1 hp1 hB 2 (by omega);cases b2 with
  | true =>
   obtain ⟨r3,h3,v3,p3,s3,⟨a3,rfl,a30,a31⟩,hp3,rfl⟩:=zba B p2 s2 hp2 hB 9 (by omega);have a32:=a31 (by omega);have w1:=w64 (x:=a3-4) (by omega) (by omega);have w2:=w64 (x:=1000*(a3-4)) (by omega) (by omega);simp [-getElem?_pos,zt6,ztr,h1,h2,h3,w1,w2];exact ⟨_,p3,s3,⟨_,rfl,zu3 (by omega) (by omega)⟩,hp3,rfl⟩
  | false =>
   obtain ⟨r3,h3,v3,p3,s3,⟨a3,rfl,a30,a31⟩,hp3,rfl⟩:=zba B p2 s2 hp2 hB 41 (by omega);have a32:=a31 (by omega);have w1:=w64 (x:=a3-20) (by omega) (by omega);have w2:=w64 (x:=250*(a3-20)) (by omega) (by omega);simp [-getElem?_pos,zt6,ztr,h1,h2,h3,w1,w2];exact ⟨_,p3,s3,⟨_,rfl,zu3 (by omega) (by omega)⟩,hp3,rfl⟩
theorem z9r (l:List Int):(zef l).length=l.length:=by
 unfold zef;rw [qas]; simp
theorem ym4 (x:Int) (l:List Int) : ∀ k:Nat,(∀ j,pos x l k<=j->j<k->x<l.getD j 0)/\(pos x l k=0\/l.getD (pos x l k-1) 0<=x)
 | 0=>by
  refine ⟨fun j _ h=>by omega,.inl ?_⟩;simp only [pos]
 | k+1=>by
  obtain ⟨h1,h2⟩:=ym4 x l k;rw [yc2]
  by_cases hc:x<l.getD k 0
  ·rw [if_pos hc];refine ⟨fun j hj hk => ?_,h2⟩
   by_cases hjk:j=k
   ·subst hjk; exact hc
   ·exact h1 j hj (by omega)
  ·rw [if_neg hc];refine ⟨fun j hj hk=>by omega,.inr ?_⟩;simp only [Nat.add_sub_cancel];omega
def srt (l:List Int):Prop:=l.Pairwise fun a b=>a<=b
theorem zpp {l:List Int} (h:srt l) {i j:Nat} {a b:Int} (hij:i<=j) (ha:l[i]?=some a) (hb:l[j]?=some b):a<=b:=by
 by_cases e:i=j
 ·subst e; rw [ha] at hb; cases hb; exact Int.le_refl _
 ·obtain ⟨hi,rfl⟩:=bD ha;obtain ⟨hj,rfl⟩:=bD hb;exact List.pairwise_iff_getElem.mp h i j hi hj (by omega)
theorem qdw {l:List Int} (h:srt l) (x:Int):srt (ins l x):=by
 obtain ⟨P,hP⟩:=zem.ex x l l.length;rw [z9a hP];have hp:pos x l l.length=P:=by unfold zem at hP; exact hP
 obtain ⟨h1,h2⟩:=ym4 x l l.length;rw [hp] at h1 h2;have hle:=ydf x l l.length;rw [hp] at hle;unfold srt;rw [List.pairwise_append];refine ⟨h.sublist (List.take_sublist _ _),?_,?_⟩
 ·rw [List.pairwise_cons];refine ⟨fun b hb => ?_,h.sublist (List.drop_sublist _ _)⟩;obtain ⟨j,hj⟩:=bH hb;rw [List.getElem?_drop] at hj;have hlt:=(bD hj).1;have:=h1 (P+j) (by omega) hlt;rw [List.getD,hj,Option.getD_some] at this;omega
 ·intro a ha b hb;obtain ⟨i,hi⟩:=bH ha;have hi2:i<P:=by
   have:=(bD hi).1;simp at this; omega
  rw [List.getElem?_take_of_lt hi2] at hi;have hax:a<=x:=by
   rcases h2 with h2 | h2
   ·omega
   ·obtain ⟨y,hy⟩ : ∃ y,l[P-1]?=some y:=⟨_,bG (by omega)⟩;rw [List.getD,hy,Option.getD_some] at h2;have:=zpp h (by omega:i<=P-1) hi hy;omega
  rcases List.mem_cons.mp hb with rfl | hb
  ·exact hax
  ·obtain ⟨j,hj⟩:=bH hb;rw [List.getElem?_drop] at hj;exact zpp h (by omega:i<=P+j) hi hj
theorem qcx (l:List Int) (x:Int):(ins l x).Perm (x::l):=by
 obtain ⟨P,hP⟩:=zem.ex x l l.length;rw [z9a hP];have:=List.perm_middle (a:=x) (l₁:=l.take P) (l₂:=l.drop P)
 rwa [List.take_append_drop] at this
theorem zyz : ∀ (l a:List Int),srt a->srt (l.foldl ins a)/\(l.foldl ins a).Perm (a++l)
 | [],a,h=>⟨h,by simp⟩
 | x::l,a,h=>by
  obtain ⟨h1,h2⟩:=zyz l (ins a x) (qdw h x);refine ⟨h1,h2.trans ?_⟩;refine ((qcx a x).append_right l).trans ?_;exact List.perm_middle.symm
theorem qaj (l:List Int):zit l=zef l:=by
 obtain ⟨h1,h2⟩:=zyz l [] List.Pairwise.nil;have h3:srt (zit l):=by
  have:=List.pairwise_mergeSort (le:=fun x y:Int=>decide (x<=y)) (fun a b c h1 h2=>by simp at *; omega) (fun a b=>by simp; omega) l;unfold srt zit;exact this.imp fun h=>by simpa using h
 refine List.Perm.eq_of_pairwise (le:=fun a b=>a<=b) (fun a b _ _ h1 h2=>by omega) h3 h1 ?_;exact (List.mergeSort_perm _ _).trans (by have h4:=h2.symm; rw [List.nil_append] at h4; exact h4)
theorem y9u (l:List Int) (hl:l.length<=1048576):RUN T zs0 [.own 1 (zab l)]=some ([],[.own 1 (zab (zef l))]):=by
 rw [<- qaj];exact qhq yjy (by omega)
theorem y9v (l:List Int) (hl:l.length<=1048576):RUN T zsq [.own 1 (zab l)]=some ([.own 1 (zab (Lib.compact l))],[.undef]):=qc3 yjf (by omega)
theorem y9w (l:List Int) (hl:l.length<=1048576):RUN T zsp [.sl 1 (zab l)]=some ([.own 1 (zab (zef l))],[]):=by
 have e1:=y9m l hl;have e2:=y9u l hl;have hl2:=z9r l;generalize zef l=a at *;refine zae rfl rfl ?_;simp [-getElem?_pos,z4i,zz2,e1,e2,hl2]
theorem yre {a:List Int} {i:Nat} {x:Int} (h:a[i]?=some x):Lib.compactUpTo a.toArray (i+1)=if (i=0\/¬ a[i-1]?=some x) then Lib.compactUpTo a.toArray i++[x] else Lib.compactUpTo a.toArray i:=by
 have hx:a.toArray[i]! = x:=by simp [h]
 have hlt:=(bD h).1;unfold Lib.compactUpTo;rw [List.range_succ,List.filter_append,List.map_append];have hk:Lib.keeps a.toArray i=decide (i=0\/¬ a[i-1]?=some x):=by
  unfold Lib.keeps
  by_cases h0:i=0
  ·simp [h0]
  ·obtain ⟨y,hy⟩ : ∃ y,a[i-1]?=some y:=⟨_,bG (by omega)⟩;have hy':a.toArray[i-1]! = y:=by simp [hy]
   rw [hx,hy',hy];simp only [h0,false_or,bC]
   congr 1
   simp only [ne_eq,eq_comm]
 simp only [List.filter_cons,List.filter_nil,hk]
 by_cases hc:i=0\/¬ a[i-1]?=some x
 ·simp only [hc,decide_true,if_true,List.map_cons,List.map_nil,hx]
 ·simp only [hc,decide_false,if_false,Bool.false_eq_true,List.map_nil,List.append_nil]
theorem y9x (l:List Int) (hl:l.length<=1048576):RUN T zsm [.sl 1 (zab l)]=some ([.own 1 (zab (Lib.compact (zef l)))],[]):=by
 have e1:=yma l hl;have hsl:=z9r l;generalize zef l=a at *;have hr0:zag 8 0=true:=by decide
 have hr1:zag 8 1=true:=by decide
 refine zae rfl rfl ?_;simp [-getElem?_pos,z4a,zz2,e1];refine zao (fun n st => ∃ (i o e q e2:Nat) (m:List Int),i+n=l.length/\m=Lib.compactUpTo a.toArray i/\m.length<=i/\st.V 3 = .ref o none e 0 m.length/\st.V 4 = .ref q none e2 0 a.length/\st.V 5=iv i/\¬ o=q/\o<st.nx/\q<st.nx/\st.S o=some (.row 1 (zab m))/\st.S q=some (.row 1 (zab a))) ?_ l.length _ ⟨0,0,0,1,0,[],by omega,rfl,by simp,by simp,by simp,by simp,by omega,by simp [zab]⟩;rintro n st ⟨i,o,e,q,e2,m,hi,hmm,hm,v3,v4,v5,hoq,hox,hqx,hSo,hSq⟩;obtain ⟨x1,x2,x3,x4⟩:=fr hox;obtain ⟨z1,z2,z3,z4⟩:=fr hqx;have hqo : ¬ q=o:=fun e=>hoq e.symm
 by_cases h:i<a.length
 ·obtain ⟨x,hx⟩ : ∃ x,a[i]?=some x:=⟨_,bG h⟩;have hx':=zay hx;have hw:=wS h (by omega:a.length<=9223372036854775807);have hr8:=zbx (n:=m.length+1) (by omega);have hsn:=zbn m x;have hcs:=yre hx;rw [<- hmm] at hcs
  by_cases h0:i=0
  ·subst h0;rw [if_pos (.inl rfl)] at hcs;simp [-getElem?_pos,zw2,v3,v4,v5,hSo,hSq,h,hx',hr8,hsn,x1];exact zai (n-1) (by omega) ⟨1,st.nx+1,st.ep,q,e2,m++[x],by omega,hcs.symm,by rw [List.length_append]; simp only [List.length_cons,List.length_nil]; omega,by simp,by simp [v4],by simp,by omega,by simp,by simp; omega,by simp [hqo,z1,z3,hSq]⟩
  ·obtain ⟨y,hy⟩ : ∃ x,a[i-1]?=some x:=⟨_,bG (by omega)⟩;have hy':=zay hy;have w1:IntKind.i64.wrap ((i:Int)-1)=((i-1:Nat):Int):=by rw [w64 (by omega) (by omega)]; omega
   have hil:i-1<a.length:=by omega
   rw [hy] at hcs
   by_cases hxy:x=y
   ·subst hxy;rw [if_neg (by simp [h0])] at hcs;simp [-getElem?_pos,zw2,v4,v5,hSq,h,h0,hil,hx',hy',hw,w1];exact zai (n-1) (by omega) ⟨i+1,o,e,q,e2,m,by omega,hcs.symm,by omega,by simp [v3],by simp [v4],by simp,hoq,by simp [hox,hqx,hSo,hSq]⟩
   ·rw [if_pos (.inr (fun e=>hxy (by cases e; rfl)))] at hcs;simp [-getElem?_pos,zw2,v3,v4,v5,hSo,hSq,h,h0,hil,hx',hy',hw,w1,hxy,hr8,hsn,x1];exact zai (n-1) (by omega) ⟨i+1,st.nx+1,st.ep,q,e2,m++[x],by omega,hcs.symm,by simp; omega,by simp,by simp [v4],by simp,by omega,by simp,by simp; omega,by simp [hqo,z1,z3,hSq]⟩
 ·have hia:i=a.length:=by omega
  have hR:Lib.compact a=m:=by rw [hmm,hia]; rfl
  rw [hR];simp [-getElem?_pos,zw2,v3,v4,v5,hSo,hSq,h]
def zdu (c:List Int) (v:Int):Nat:=(c.filter fun x=>decide (x<v)).length
def zb0 (t:Ta) (f:Nat):List Int:=t.rw.map fun r=>r.getD f 0
def zhv (a:List Int) (b k:Nat):Nat:=a.length*k / b
def zj6 (a:List Int) (b k:Nat):List Int:=if 1<=zhv a b k/\a.getD (zhv a b k-1) 0≠a.getD (a.length-1) 0 then [a.getD (zhv a b k-1) 0] else []
def zet (a:List Int) (b:Nat):Nat->List Int
 | 0=>[]
 | k+1=>zet a b k++zj6 a b (k+1)
def zb5 (l:List Int) (b:Int):List Int:=if (zah b 2 8 && zah l.length 1 40)=true then Lib.compact (zet (zef l) b.toNat (b.toNat-1)) else []
def zmw (t:Ta) (b:Int) (f:Nat):List Int:=(zb0 t f).map fun v=>(zdu (zb5 (zb0 t f) b) v:Int)
def zbq (t:Ta) (b:Int):List (List Int):=if (zcv t && zah b 2 8)=true then (List.range t.ns.length).map fun f=>zb5 (zb0 t f) b else []
def zbr (t:Ta) (b:Int):List (List Int):=if (zcv t && zah b 2 8)=true then (List.range t.ns.length).map (zmw t b) else []
theorem ypd (l:List Int):(Lib.compact l).length<=l.length:=by
 unfold Lib.compact Lib.compactUpTo;rw [List.length_map];exact bJ (List.length_filter_le _ _) (by simp)
theorem ynr {a:List Int} (ha:srt a) : ∀ i:Nat,i<=a.length->(Lib.compactUpTo a.toArray i).Pairwise (fun x y=>x<y)/\∀ y,y∈Lib.compactUpTo a.toArray i↔∃ j,j<i/\a[j]?=some y
 | 0,_=>by
  refine ⟨List.Pairwise.nil,fun y => ?_⟩;constructor
  ·intro h; exact absurd h (by simp [Lib.compactUpTo])
  ·rintro ⟨j,h,_⟩; omega
 | i+1,hi=>by
  obtain ⟨h1,h2⟩:=ynr ha i (by omega);obtain ⟨x,hx⟩ : ∃ x,a[i]?=some x:=⟨_,bG (by omega)⟩;rw [yre hx]
  by_cases hc:i=0\/¬ a[i-1]?=some x
  ·rw [if_pos hc];refine ⟨?_,fun y => ?_⟩
   ·rw [List.pairwise_append];refine ⟨h1,by simp,fun y hy z hz => ?_⟩;simp only [List.mem_singleton] at hz;subst hz;obtain ⟨j,hj,hjy⟩:=(h2 y).mp hy;rcases hc with hc | hc
    ·omega
    ·obtain ⟨w,hw⟩ : ∃ w,a[i-1]?=some w:=⟨_,bG (by omega)⟩;have e1:=zpp ha (by omega:j<=i-1) hjy hw;have e2:=zpp ha (by omega:i-1<=i) hw hx;have e3:w≠z:=fun e=>hc (by rw [hw,e]);omega
   ·rw [List.mem_append,List.mem_singleton,h2 y];constructor
    ·rintro (⟨j,hj,e⟩ | rfl)
     ·exact ⟨j,by omega,e⟩
     ·exact ⟨i,by omega,hx⟩
    ·rintro ⟨j,hj,e⟩
     by_cases hji:j<i
     ·exact .inl ⟨j,hji,e⟩
     ·obtain rfl:j=i:=by omega
      rw [hx] at e; cases e;exact .inr rfl
  ·rw [if_neg hc];refine ⟨h1,fun y => ?_⟩;rw [h2 y];constructor
   ·rintro ⟨j,hj,e⟩; exact ⟨j,by omega,e⟩
   ·rintro ⟨j,hj,e⟩
    by_cases hji:j<i
    ·exact ⟨j,hji,e⟩
    ·obtain rfl:j=i:=by omega
     rw [hx] at e; cases e;have hc1 : ¬ j=0:=fun h=>hc (.inl h);have hc2:a[j-1]?=some x:=Classical.byContradiction fun h=>hc (.inr h);exact ⟨j-1,by omega,hc2⟩
theorem zk9 {t:Ta} (h:zcv t=true):1<=t.ns.length/\t.ns.length<=4/\1<=t.rw.length/\t.rw.length<=40/\t.lb.length=t.rw.length/\∀ r∈t.rw,r.length=t.ns.length:=by
 unfold zcv at h;simp only [Bool.and_eq_true,decide_eq_true_eq,List.all_eq_true] at h;obtain ⟨⟨⟨⟨⟨h1,_⟩,h3⟩,h4⟩,_⟩,h6⟩:=h;have h1:=zar.mp h1;have h3:=zar.mp h3;refine ⟨by omega,by omega,by omega,by omega,by omega,fun r hr => ?_⟩;have:=h6 r hr;unfold zfn at this;simp only [Bool.and_eq_true,decide_eq_true_eq] at this;omega
theorem z83 (l:List Int):srt (zef l):=(zyz l [] List.Pairwise.nil).1
theorem qgk {l:List Int} (h:srt l):zef l=l:=by
 have h2:=(zyz l [] List.Pairwise.nil).2;refine List.Perm.eq_of_pairwise (le:=fun a b=>a<=b) (fun a b _ _ h1 h2=>by omega) (z83 l) h ?_;rw [List.nil_append] at h2;exact h2
theorem qd0 {l:List Int} {x:Int}:x∈zef l↔x∈l:=by
 have h2:=(zyz l [] List.Pairwise.nil).2;rw [List.nil_append] at h2;exact h2.mem_iff
theorem qdb (a:List Int) (b k:Nat):(zj6 a b k).length<=1:=by unfold zj6; split <;> simp
theorem yt7 (a:List Int) (b:Nat) : ∀ k,(zet a b k).length<=k
 | 0=>by simp [zet]
 | k+1=>by
  have:=yt7 a b k;have:=qdb a b (k+1);simp only [zet,List.length_append]; omega
theorem qdg {a:List Int} {b k:Nat} (hk:k<=b):zhv a b k<=a.length:=by
 unfold zhv;exact Nat.div_le_of_le_mul (by rw [Nat.mul_comm b]; exact Nat.mul_le_mul_left _ hk)
theorem ysp {a:List Int} {b k:Nat}:zhv a b k<=zhv a b (k+1):=Nat.div_le_div_right (Nat.mul_le_mul_left _ (Nat.le_succ k))
theorem yqe {a:List Int} {b k:Nat} (hk:k<=b) {x:Int} (h:x∈zj6 a b k) : ∃ j,j+1=zhv a b k/\a[j]?=some x:=by
 unfold zj6 at h;split at h
 ·rename_i hc;simp only [List.mem_singleton] at h;have:=qdg (a:=a) hk;refine ⟨zhv a b k-1,by omega,?_⟩;rw [h,List.getD_eq_getElem?_getD,bG (by omega)];rfl
 ·simp at h
theorem yej {a:List Int} {b:Nat} : ∀ k,k<=b->∀ x∈zet a b k,∃ j,j<zhv a b k/\a[j]?=some x
 | 0,_,x,h=>by simp [zet] at h
 | k+1,hk,x,h=>by
  rw [zet] at h;rcases bM h with h | h
  ·obtain ⟨j,h1,h2⟩:=yej k (by omega) x h;exact ⟨j,Nat.lt_of_lt_of_le h1 ysp,h2⟩
  ·obtain ⟨j,h1,h2⟩:=yqe hk h;exact ⟨j,by omega,h2⟩
theorem yd2 {a:List Int} {b:Nat} (ha:srt a) : ∀ k,k<=b->srt (zet a b k)
 | 0,_=>by unfold zet; exact List.Pairwise.nil
 | k+1,hk=>by
  rw [zet];unfold srt;rw [List.pairwise_append];refine ⟨yd2 ha k (by omega),?_,fun x hx y hy => ?_⟩
  ·unfold zj6; split <;> simp
  ·obtain ⟨i,h1,h2⟩:=yej k (by omega) x hx;obtain ⟨j,h3,h4⟩:=yqe hk hy;have:=ysp (a:=a) (b:=b) (k:=k);exact zpp ha (by omega) h2 h4
theorem z77 (l:List Int) (b:Int):(zb5 l b).Pairwise (fun x y=>x<y)/\(∀ x∈zb5 l b,x∈l)/\(zb5 l b).length<=7:=by
 unfold zb5;split
 ·rename_i hc;simp only [Bool.and_eq_true] at hc;have hb:=zar.mp hc.1;have hs:=yd2 (z83 l) (b:=b.toNat) (b.toNat-1) (by omega);obtain ⟨h1,h2⟩:=ynr hs _ (Nat.le_refl _);refine ⟨h1,fun x hx => ?_,?_⟩
  ·obtain ⟨j,_,hj⟩:=(h2 x).mp hx;obtain ⟨i,_,hi⟩:=yej (a:=zef l) (b:=b.toNat) (b.toNat-1) (by omega) x (bF hj);exact qd0.mp (bF hi)
  ·have:=ypd (zet (zef l) b.toNat (b.toNat-1));have:=yt7 (zef l) b.toNat (b.toNat-1);omega
 ·exact ⟨List.Pairwise.nil,by simp⟩
theorem yc3 {t:Ta} {b:Int} (h:zcv t=true) (hb:zah b 2 8=true):(zbq t b).length=t.ns.length/\(zbr t b).length=t.ns.length:=by
 have hc:(zcv t && zah b 2 8)=true:=by rw [h,hb]; rfl
 unfold zbq zbr;rw [if_pos hc,if_pos hc];simp
theorem yps {t:Ta} {b:Int}:(∀ l∈zbq t b,l.length<=7)/\∀ l∈zbr t b,l.length=t.rw.length:=by
 unfold zbq zbr;split
 ·refine ⟨fun l hl => ?_,fun l hl => ?_⟩
  ·obtain ⟨f,_,rfl⟩:=List.mem_map.mp hl;exact (z77 _ _).2.2
  ·obtain ⟨f,_,rfl⟩:=List.mem_map.mp hl;simp [zmw,zb0]
 ·exact ⟨by simp,by simp⟩
theorem qgz {t:Ta} {b:Int} : ∀ l∈zbr t b,∀ x∈l,0<=x/\x<=8:=by
 unfold zbr;split
 ·intro l hl x hx;obtain ⟨f,_,rfl⟩:=List.mem_map.mp hl;obtain ⟨v,_,rfl⟩:=List.mem_map.mp hx;have h1:zdu (zb5 (zb0 t f) b) v<=(zb5 (zb0 t f) b).length:=List.length_filter_le _ _;have h2:=(z77 (zb0 t f) b).2.2;omega
 ·simp
theorem ynm (c:List Int) (v x:Int):zdu (c++[x]) v=zdu c v+if x<v then 1 else 0:=by
 unfold zdu;rw [List.filter_append,List.length_append]
 by_cases h:x<v <;> simp [h]
theorem zu1 {α:Type} {l:List α} {i:Nat} {x:α} (h:l[i]?=some x):l.take (i+1)=l.take i++[x]:=by
 rw [List.take_add_one,h]; rfl
theorem y9y (c:List Int) (v:Int) (hc:c.length<=1048576):RUN T zrs [.sl 1 (zab c),iv v]=some ([iv (zdu c v)],[]):=by
 refine zae rfl rfl ?_;simp [-getElem?_pos,z18,zvz];refine zao (fun n st => ∃ i m:Nat,i+n=c.length/\m<=i/\m=zdu (c.take i) v/\st.V 0 = .sl 1 (zab c)/\st.V 1=iv v/\st.V 5=iv m/\st.V 6=iv i) ?_ c.length _ ⟨0,0,by omega,by omega,by simp [zdu]⟩;rintro n st ⟨i,m,hi,hm,hmv,v0,v1,v5,v6⟩
 by_cases h:i<c.length
 ·obtain ⟨x,hx⟩ : ∃ x,c[i]?=some x:=⟨_,bG h⟩;have hx':=zay hx;have hw:=wS h (by omega:c.length<=9223372036854775807);have hw2:=w64 (x:=(m:Int)+1) (by omega) (by omega);have hs:=ynm (c.take i) v x;rw [<- zu1 hx,<- hmv] at hs
  by_cases hl:x<v
  ·rw [if_pos hl] at hs;simp [-getElem?_pos,z17,v0,v1,v5,v6,h,hx',hw,hw2,hl];exact zai (n-1) (by omega) ⟨i+1,m+1,by omega,by omega,hs.symm,by simp [v0,v1]⟩
  ·rw [if_neg hl] at hs;simp [-getElem?_pos,z17,v0,v1,v6,h,hx',hw,hl];exact zai (n-1) (by omega) ⟨i+1,m,by omega,by omega,hs.symm,by simp [v0,v1,v5]⟩
 ·rw [List.take_of_length_le (by omega)] at hmv;rw [<- hmv];simp [-getElem?_pos,z17,v0,v5,v6,h]
theorem y9z (l:List Int) (b:Int) (hl:l.length<=1048576):RUN T zrr [.sl 1 (zab l),iv b]=some ([.own 1 (zab (zb5 l b))],[]):=by
 have e1:=yma l hl;have hsl:=z9r l;have hss:=z83 l;have hr0:zag 8 0=true:=by decide
 have hr1:zag 8 1=true:=by decide
 have g1:=zbb b 2 8;have g2:=zbb l.length 1 40;cases c1:zah b 2 8 with
 | false =>
  have hv:zb5 l b=[]:=by unfold zb5; rw [c1]; rfl
  rw [hv];rw [c1] at g1;refine zae rfl rfl ?_;simp [-getElem?_pos,zt4,z1z,-za1,g1]
 | true =>
 cases c2:zah l.length 1 40 with
 | false =>
  have hv:zb5 l b=[]:=by unfold zb5; rw [c1,c2]; rfl
  rw [hv];rw [c1] at g1;rw [c2] at g2;refine zae rfl rfl ?_;simp [-getElem?_pos,zt4,z1z,-za1,g1,g2]
 | true =>
 have hv:zb5 l b=Lib.compact (zet (zef l) b.toNat (b.toNat-1)):=by unfold zb5; rw [c1,c2]; rfl
 rw [hv];rw [c1] at g1;rw [c2] at g2;have hb:=zar.mp c1;have h12:=zar.mp c2;have h1:1<=l.length:=by omega
 have h2:l.length<=40:=by omega
 clear c1 c2 h12 hv;generalize zef l=a at *;obtain ⟨bn,rfl⟩ : ∃ n:Nat,b=n:=⟨b.toNat,by omega⟩;rw [Int.toNat_natCast];refine zae rfl rfl ?_;simp [-getElem?_pos,zt4,z1z,-za1,g1,g2,e1];refine zao (fun n st => ∃ (i o e:Nat) (m:List Int),1<=i/\i+n=bn/\m.length<i/\m=zet a bn (i-1)/\st.V 1=iv bn/\st.V 5=iv l.length/\st.V 6 = .ref 0 none 0 0 a.length/\st.V 7 = .ref o none e 0 m.length/\st.V 8=iv i/\0<o/\o<st.nx/\st.S o=some (.row 1 (zab m))/\st.S 0=some (.row 1 (zab a))) ?_ (bn-1) _ ⟨1,1,0,[],by omega,by omega,by simp,rfl,by simp [zab]⟩;rintro n st ⟨i,o,e,m,hi1,hi,hm,hmp,v1,v5,v6,v7,v8,ho,hox,hSo,hS0⟩;obtain ⟨x1,x2,x3,x4⟩:=fr hox;obtain ⟨g1,g2,g3,g4⟩:=fr ho;obtain ⟨z1,z2,z3,z4⟩:=fr (show 0<st.nx by omega)
 by_cases h:i<bn
 ·have hw:=wS h (by omega:bn<=9223372036854775807);have hb0 : ¬ bn=0:=by omega
  have hq:(l.length:Int)*i<=40*8:=Int.mul_le_mul (by omega) (by omega) (by omega) (by omega);have hq0:0<=(l.length:Int)*i:=Int.mul_nonneg (by omega) (by omega);have w1:=w64 (x:=(l.length:Int)*i) (by omega) (by omega);obtain ⟨k,hkk⟩ : ∃ k:Nat,k=l.length*i / bn:=⟨_,rfl⟩;have hk:((l.length:Int)*i).tdiv bn=k:=by
   rw [Int.tdiv_eq_ediv_of_nonneg hq0,hkk]
   push_cast
   rfl
  have hcs:zet a bn i=m++zj6 a bn i:=by
   obtain ⟨j,rfl⟩ : ∃ j,i=j+1:=⟨i-1,by omega⟩;rw [hmp]; rfl
  unfold zj6 zhv at hcs;rw [hsl,<- hkk] at hcs;have hkl:k<=l.length:=by
   have h3:((l.length:Int)*i).tdiv bn<=l.length:=by
    rw [Int.tdiv_eq_ediv_of_nonneg hq0];refine Int.ediv_le_of_le_mul (by omega) ?_;exact Int.mul_le_mul_of_nonneg_left (by omega) (by omega)
   omega
  have w2:=w64 (x:=(k:Int)) (by omega) (by omega)
  by_cases hk1:1<=k
  ·obtain ⟨x,hx⟩ : ∃ x,a[k-1]?=some x:=⟨_,bG (by omega)⟩;obtain ⟨y,hy⟩ : ∃ x,a[a.length-1]?=some x:=⟨_,bG (by omega)⟩;have hx':=zay hx;have hy':=zay hy;rw [hsl] at hy';have w3:IntKind.i64.wrap ((k:Int)-1)=((k-1:Nat):Int):=by rw [w64 (by omega) (by omega)]; omega
   have w4:IntKind.i64.wrap ((l.length:Int)-1)=((l.length-1:Nat):Int):=by rw [w64 (by omega) (by omega)]; omega
   have c1:k-1<l.length:=by omega
   have c2:l.length-1<l.length:=by omega
   have hk1':(1:Int)<=k:=by omega
   have hr8:=zbx (n:=m.length+1) (by omega);have hsn:=zbn m x;have gx:a.getD (k-1) 0=x:=by rw [List.getD_eq_getElem?_getD,hx]; rfl
   have gy:a.getD (l.length-1) 0=y:=by rw [<- hsl,List.getD_eq_getElem?_getD,hy]; rfl
   rw [gx,gy] at hcs;have hle:=zpp hss (by omega:k-1<=a.length-1) hx hy
   by_cases hxy:x<y
   ·rw [if_pos ⟨hk1,by omega⟩] at hcs;simp [-getElem?_pos,zwk,v1,v5,v6,v7,v8,hSo,hS0,h,hw,hb0,w1,w2,w3,w4,hk,hk1',hx',hy',hsl,c1,c2,hxy,hr8,hsn,x1];exact zai (n-1) (by omega) ⟨i+1,st.nx+1,st.ep,m++[x],by omega,by omega,by simp; omega,hcs.symm,by simp [v1],by simp [v5],by simp [v6,hsl],by simp,by simp,by omega,by simp [g1,z1,z2,hS0]⟩
   ·rw [if_neg (by omega),List.append_nil] at hcs;simp [-getElem?_pos,zwk,v1,v5,v6,v8,hS0,h,hw,hb0,w1,w2,w3,w4,hk,hk1',hx',hy',hsl,c1,c2,hxy];exact zai (n-1) (by omega) ⟨i+1,o,e,m,by omega,by omega,by omega,hcs.symm,by simp [v1],by simp [v5],by simp [v6,hsl],by simp [v7],by simp,ho,by simp [hox,hSo,hS0]⟩
  ·have hk0:k=0:=by omega
   rw [if_neg (by omega),List.append_nil] at hcs;rw [hk0] at hk w2;clear hkk hkl;subst hk0;simp [-getElem?_pos,zwk,v1,v5,v8,h,hw,hb0,w1,hk];exact zai (n-1) (by omega) ⟨i+1,o,e,m,by omega,by omega,by omega,hcs.symm,by simp [v1],by simp [v5],by simp [v6],by simp [v7],by simp,ho,by simp [hox,hSo,hS0]⟩
 ·have h3:=y9x m (by omega);have hib:i=bn:=by omega
  have hsm:=yd2 (b:=bn) hss (bn-1) (by omega);have hm2:m=zet a bn (bn-1):=by rw [hmp,hib]
  rw [<- hm2] at hsm;rw [qgk hsm] at h3;rw [<- hm2];have hmm:(Lib.compact m).length<=m.length:=ypd m;generalize Lib.compact m=z at *;simp [-getElem?_pos,zwk,v1,v7,v8,hSo,h,h3]
theorem y90 (q:Bool) (t:Ta) (f:Nat) (ht:TaL 1048576 t) (hf:f<t.ns.length) (h40:t.rw.length<=40) (hr : ∀ r∈t.rw,r.length=t.ns.length):RUN T zrq [taS q t,iv f]=some ([.own 1 (zab (zb0 t f))],[]):=by
 have hr0:zag 8 0=true:=by decide
 have hr1:zag 8 1=true:=by decide
 have hns:=ht.ns;have g1:=zbb f 0 ((t.ns.length:Int)-1);rw [zar.mpr (by omega)] at g1;have w1:=w64 (x:=(t.ns.length:Int)-1) (by omega) (by omega);refine zae rfl rfl ?_;simp [-getElem?_pos,z1y,z1z];refine zao (fun n st => ∃ (i o e:Nat) (m:List Int),i+n=t.rw.length/\m=(t.rw.take i).map (fun r=>r.getD f 0)/\m.length=i/\st.V 1=iv f/\st.V 2 = .ptr 0 none 0 0 0/\st.V 5 = .ref o none e 0 m.length/\st.V 6=iv i/\0<o/\o<st.nx/\st.S o=some (.row 1 (zab m))/\st.S 0=some (.box (taB q t))) ?_ t.rw.length _ ⟨0,1,0,[],by omega,rfl,rfl,by simp [zab]⟩;rintro n st ⟨i,o,e,m,hi,hmv,hm,v1,v2,v5,v6,ho,hox,hSo,hS0⟩;obtain ⟨x1,x2,x3,x4⟩:=fr hox;obtain ⟨g1',g2,g3,g4⟩:=fr ho;obtain ⟨z1,z2,z3,z4⟩:=fr (show 0<st.nx by omega)
 by_cases h:i<t.rw.length
 ·obtain ⟨r,hx⟩ : ∃ x,t.rw[i]?=some x:=⟨_,bG h⟩;have hx':=zc3 (q:=q) hx;have hrl:=hr r (bF hx);obtain ⟨y,hy⟩ : ∃ x,r[f]?=some x:=⟨_,bG (by omega)⟩;have hy':=zay hy;have hfr:f<r.length:=by omega
  have hw:=wS h (by omega:t.rw.length<=9223372036854775807);have hr8:=zbx (n:=m.length+1) (by omega);have hsn:=zbn m y;have hmn:m++[y]=(t.rw.take (i+1)).map (fun r=>r.getD f 0):=by
   rw [zu1 hx,List.map_append,<- hmv,List.map_singleton,List.getD_eq_getElem?_getD,hy]; rfl
  simp [-getElem?_pos,z94,-za1,v1,v2,v5,v6,hSo,hS0,h,hx',hy',hfr,g1,w1,hw,hr8,hsn,x1];exact zai (n-1) (by omega) ⟨i+1,st.nx+1,st.ep,m++[y],by omega,hmn,by simp [hm],by simp [v1],by simp [v2],by simp,by simp,by omega,by simp [g1',z1,z2,hS0]⟩
 ·rw [List.take_of_length_le (by omega)] at hmv;have hcv:zb0 t f=m:=hmv.symm;rw [hcv];simp [-getElem?_pos,z94,-za1,v2,v5,v6,hSo,hS0,h]
theorem qev (cuts col:List Int) (hcu:cuts.length<=8) (hco:col.length<=40) {st:St} {q1 e1 q2 e2 q3 e3:Nat} {Q:Ex->St->Prop} (v7:st.V 7 = .ref q1 none e1 0 col.length) (v8:st.V 8 = .ref q2 none e2 0 cuts.length) (v9:st.V 9 = .ref q3 none e3 0 0) (v10:st.V 10=iv (0:Nat)) (h1:q1<q3) (h2:q2<q3) (h3:q3<st.nx) (hS1:st.S q1=some (.row 1 (zab col))) (hS2:st.S q2=some (.row 1 (zab cuts))) (hS3:st.S q3=some (.row 1 []))
  (hQ : ∀ (s':St) (q' e':Nat) (bins:List Int),bins.length=col.length->bins=col.map (fun v=>(zdu cuts v:Int))->(∀ k,k≠9->k≠10->s'.V k=st.V k)->s'.V 9 = .ref q' none e' 0 bins.length->q3<=q'->q'<s'.nx->st.nx<=s'.nx->s'.S q'=some (.row 1 (zab bins))->(∀ k,k<q3->s'.S k=st.S k)->Q (.exit 2) s') :
  W (zad T) (RUN T) (.loop z0h) st Q:=by
 refine zao (fun m s' => ∃ (i q' e':Nat) (bins:List Int),i+m=col.length/\bins.length=i/\bins=(col.take i).map (fun v=>(zdu cuts v:Int))/\(∀ k,k≠9->k≠10->s'.V k=st.V k)/\s'.V 9 = .ref q' none e' 0 bins.length/\s'.V 10=iv i/\q3<=q'/\q'<s'.nx/\st.nx<=s'.nx/\s'.S q'=some (.row 1 (zab bins))/\(∀ k,k<q3->s'.S k=st.S k)) ?_ col.length _ ⟨0,q3,e3,[],by omega,rfl,rfl,fun _ _ _=>rfl,by simpa using v9,by simpa using v10,by omega,h3,Nat.le_refl _,by simpa [zab] using hS3,fun _ _=>rfl⟩;rintro m s' ⟨i,q',e',bins,hi,hb,hbb,hV,v9',v10',hq,hqx,hnx,hSq,hfr⟩;have v7':s'.V 7 = .ref q1 none e1 0 col.length:=by rw [hV 7 (by decide) (by decide)]; exact v7
 have v8':s'.V 8 = .ref q2 none e2 0 cuts.length:=by rw [hV 8 (by decide) (by decide)]; exact v8
 have hS1':s'.S q1=some (.row 1 (zab col)):=by rw [hfr q1 h1]; exact hS1
 have hS2':s'.S q2=some (.row 1 (zab cuts)):=by rw [hfr q2 h2]; exact hS2
 by_cases h:i<col.length
 ·obtain ⟨x,hx⟩ : ∃ x,col[i]?=some x:=⟨_,bG h⟩;have hx':=zay hx;have hw:=wS h (by omega:col.length<=9223372036854775807);have hr1:zag 8 1=true:=by decide
  have hr8:=zbx (n:=bins.length+1) (by omega);have h4:=y9y cuts x (by omega);have hbn:bins++[(zdu cuts x:Int)]=(col.take (i+1)).map (fun v=>(zdu cuts v:Int)):=by rw [zu1 hx,List.map_append,<- hbb]; rfl
  generalize zdu cuts x=y at *;have hsn:=zbn bins (y:Int);have a1:=fr hqx;have a2:=fr (show q1<q' by omega);have a3:=fr (show q2<q' by omega);have a4:=fr (show q1<s'.nx by omega);have a5:=fr (show q2<s'.nx by omega);simp [-getElem?_pos,z0h,v7',v8',v9',v10',hS1',hS2',hSq,h,hx',h4,hw,hr8,hsn,a1];refine zai (m-1) (by omega) ⟨i+1,s'.nx+1,s'.ep,bins++[(y:Int)],by omega,by simp [hb],hbn,fun k k1 k2 => ?_,by simp,by simp,by omega,by simp,by simp; omega,by simp,fun k k1 => ?_⟩
  ·simp [k1,k2]; exact hV k k1 k2
  ·have b1:(k=s'.nx)=False:=bK (by omega);have b2:(k=s'.nx+1)=False:=bK (by omega);have b3:(k=q')=False:=bK (by omega);simp [b1,b2,b3];exact hfr k k1
 ·have hin:i=col.length:=by omega
  simp [-getElem?_pos,z0h,v7',v10',hS1',h];exact hQ _ q' e' bins (by omega) (by rw [hbb,List.take_of_length_le (by omega)]) (fun k k1 k2=>by simp; exact hV k k1 k2) (by simp [v9']) hq (by simp [hqx]) (by simp [hnx]) (by simp [hSq]) (fun k k1=>by simp; exact hfr k k1)
def LG (S:Nat->Option Ob) (nx:Nat) (C D:List (List Int)) (x y:PV):Prop:=(x = .e0/\y = .e0/\C=[]/\D=[])\/∃ o e o' e',x = .ref o none e 0 C.length/\y = .ref o' none e' 0 D.length/\2<o/\o<nx/\2<o'/\o'<nx/\o≠o'/\S o=some (.row 1 (rws true C))/\S o'=some (.row 1 (rws true D))
theorem LG.mono {S S':Nat->Option Ob} {nx nx':Nat} {C D:List (List Int)} {x y:PV} (h:LG S nx C D x y) (hn:nx<=nx') (hS : ∀ k,2<k->k<nx->S' k=S k):LG S' nx' C D x y:=by
 rcases h with h | ⟨o,e,o',e',h1,h2,h3,h4,h5,h6,h7,h8,h9⟩
 ·exact .inl h
 ·exact .inr ⟨o,e,o',e',h1,h2,h3,by omega,h5,by omega,h7,by rw [hS o h3 h4]; exact h8,by rw [hS o' h5 h6]; exact h9⟩
theorem ya8 (q:Bool) (t:Ta) (b:Int) (ht:TaL 1048576 t):RUN T zlu [taS q t,iv b]=some ([.agg [.own 1 (rws true (zbq t b)),.own 1 (rws true (zbr t b))]],[]):=by
 have e1:=ya6 q t ⟨bJ ht.ns (by omega),fun x hx=>bJ (ht.ss x hx) (by omega),bJ ht.nm (by omega),bJ ht.rw (by omega),fun x hx=>bJ (ht.rr x hx) (by omega),bJ ht.lb (by omega)⟩;have g1:=zbb b 2 8;cases hok:zcv t with
 | false =>
  have hC:zbq t b=[]:=by unfold zbq; rw [hok]; rfl
  have hW:zbr t b=[]:=by unfold zbr; rw [hok]; rfl
  rw [hC,hW];rw [hok] at e1;simp only [taS] at *;refine zae rfl rfl ?_;simp [-getElem?_pos,zty,ztz,-za1,e1,show rws true []=[] from rfl]
 | true =>
 cases hbi:zah b 2 8 with
 | false =>
  have hC:zbq t b=[]:=by unfold zbq; rw [hbi,Bool.and_false]; rfl
  have hW:zbr t b=[]:=by unfold zbr; rw [hbi,Bool.and_false]; rfl
  rw [hC,hW];rw [hok] at e1;rw [hbi] at g1;simp only [taS] at *;refine zae rfl rfl ?_;simp [-getElem?_pos,zty,ztz,-za1,e1,g1,show rws true []=[] from rfl]
 | true =>
 have hb:=zar.mp hbi;rw [hok] at e1;rw [hbi] at g1;obtain ⟨t1,t2,t3,t4,t5,t6⟩:=zk9 hok;have hgC:zbq t b=(List.range t.ns.length).map fun f=>zb5 (zb0 t f) b:=by unfold zbq; rw [hok,hbi]; rfl
 have hgW:zbr t b=(List.range t.ns.length).map (zmw t b):=by unfold zbr; rw [hok,hbi]; rfl
 rw [hgC,hgW];have hr1:zag 24 1=true:=by decide
 have hr0:zag 8 0=true:=by decide
 have cl:=y90 q t;simp only [taS] at *;refine zae rfl rfl ?_;simp [-getElem?_pos,zty,ztz,-za1,e1,g1];refine zao (fun n st => ∃ (i:Nat) (C D:List (List Int)) (x y:PV),i+n=t.ns.length/\C.length=i/\D.length=i/\C=(List.range i).map (fun f=>zb5 (zb0 t f) b)/\D=(List.range i).map (zmw t b)/\st.V 1=iv b/\st.V 2 = .ptr 0 none 0 0 0/\st.V 4 = .ptr 1 none 0 0 0/\st.V 5 = .ptr 2 none 0 0 0/\st.V 6=iv i/\2<st.nx/\LG st.S st.nx C D x y/\st.S 0=some (.box [.sl 1 (za6 t.ns),.v (.string t.nm),.sl 1 (rws q t.rw),.sl 1 (zab t.lb)])/\st.S 1=some (.box [.e0,.e0])/\st.S 2=some (.box [x,y])) ?_ t.ns.length _ ⟨0,[],[],.e0,.e0,by omega,rfl,rfl,rfl,rfl,by simp,by simp,by simp,by simp,by simp,by simp,.inl ⟨rfl,rfl,rfl,rfl⟩,by simp⟩;rintro n st ⟨i,C,D,x,y,hi,hC,hD,hC8,hD8,v1,v2,v4,v5,v6,hnx,hx,hS0,hS1,hS2⟩;have z1:=fr hnx;have z2:=fr (show 1<st.nx by omega);have z3:=fr (show 0<st.nx by omega)
 by_cases h:i<t.ns.length
 ·have hw:=wS h (by omega:t.ns.length<=9223372036854775807);have h1:=cl i ht h t4 t6;have hcol:(zb0 t i).length=t.rw.length:=by simp [zb0]
  have h2:=y9z (zb0 t i) b (by omega);have hcu:(zb5 (zb0 t i) b).length<=8:=bJ (z77 (zb0 t i) b).2.2 (by omega);have hCn:C++[zb5 (zb0 t i) b]=(List.range (i+1)).map (fun f=>zb5 (zb0 t f) b):=by rw [List.range_succ,List.map_append,<- hC8]; rfl
  have hDn:D++[(zb0 t i).map fun v=>(zdu (zb5 (zb0 t i) b) v:Int)]=(List.range (i+1)).map (zmw t b):=by rw [List.range_succ,List.map_append,<- hD8]; rfl
  generalize zb5 (zb0 t i) b=cuts at *;generalize zb0 t i=col at *;simp [-getElem?_pos,z90,-za1,v1,v2,v6,hS0,h,h1,h2];refine qev cuts col hcu (by omega) (q1:=st.nx) (q2:=st.nx+1) (q3:=st.nx+2) (by simp; rfl) (by simp; rfl) (by simp; rfl) (by simp) (by omega) (by omega) (by simp) (by simp) (by simp) (by simp) ?_;intro s' q' e' bins hbl hbb hV w9 hq hqx hnx' hSq hfr;simp only at hq hnx';have w1:s'.V 1=iv b:=by rw [hV 1 (by decide) (by decide)]; simp [v1]
  have w2:s'.V 2 = .ptr 0 none 0 0 0:=by rw [hV 2 (by decide) (by decide)]; simp [v2]
  have w4:s'.V 4 = .ptr 1 none 0 0 0:=by rw [hV 4 (by decide) (by decide)]; simp [v4]
  have w5:s'.V 5 = .ptr 2 none 0 0 0:=by rw [hV 5 (by decide) (by decide)]; simp [v5]
  have w6:s'.V 6=iv i:=by rw [hV 6 (by decide) (by decide)]; simp [v6]
  obtain ⟨e8,w8⟩ : ∃ e,s'.V 8 = .ref (st.nx+1) none e 0 cuts.length:=⟨_,by rw [hV 8 (by decide) (by decide)]; simp; rfl⟩;have hT0:s'.S 0=some (.box [.sl 1 (za6 t.ns),.v (.string t.nm),.sl 1 (rws q t.rw),.sl 1 (zab t.lb)]):=by rw [hfr 0 (by omega)]; simp [z3,hS0]
  have hT1:s'.S 1=some (.box [.e0,.e0]):=by rw [hfr 1 (by omega)]; simp [z2,z3,hS1]
  have hT2:s'.S 2=some (.box [x,y]):=by rw [hfr 2 (by omega)]; simp [z1,z3,hS2]
  have hT8:s'.S (st.nx+1)=some (.row 1 (zab cuts)):=by rw [hfr _ (by omega)]; simp
  have hL:LG s'.S s'.nx C D x y:=hx.mono (by omega) (fun k k1 k2=>by
   rw [hfr k (by omega)];have b1:(k=st.nx)=False:=bK (by omega);have b2:(k=st.nx+1)=False:=bK (by omega);have b3:(k=st.nx+2)=False:=bK (by omega);simp [b1,b2,b3])
  have hr24:zag 24 (C.length+1)=true:=by simp [zag]; omega
  have hr24':zag 24 (D.length+1)=true:=by simp [zag]; omega
  have s1:=zm7 C cuts;have s2:=zm7 D bins;obtain ⟨p8,hp8⟩ : ∃ p8,p8=st.nx+1:=⟨_,rfl⟩;rw [<- hp8] at w8 hT8;have hp8q:p8<q':=by omega
  have hp82:2<p8:=by omega
  have hL':LG s'.S p8 C D x y:=by
   rcases hx with hx | ⟨o,e,o',e',k1,k2,k3,k4,k5,k6,k7,k8,k9⟩
   ·exact .inl hx
   ·rcases hL with ⟨l1,_⟩ | ⟨o2,e2,o2',e2',l1,l2,l3,l4,l5,l6,l7,l8,l9⟩
    ·rw [k1] at l1; cases l1
    ·rw [k1] at l1; cases l1;rw [k2] at l2; cases l2;exact .inr ⟨o,e,o',e',k1,k2,k3,by omega,k5,by omega,k7,l8,l9⟩
  clear hL hx hfr hV hp8 hS0 hS1 hS2 v1 v2 v4 v5 v6 z1 z2 z3 h1 h2;have a1:=fr hqx;have a2:=fr hp8q;have a3:=fr (show p8<s'.nx by omega);have a4:=fr hp82;have a5:=fr (show 2<q' by omega);have a6:=fr (show 2<s'.nx by omega);have b1:=fr (show 1<p8 by omega);have b2:=fr (show 1<q' by omega);have b3:=fr (show 1<s'.nx by omega);have b4:=fr (show 0<p8 by omega);have b5:=fr (show 0<q' by omega);have b6:=fr (show 0<s'.nx by omega);have nn1 : ¬ s'.nx=1:=by omega
  have nn2 : ¬ s'.nx+1=q':=by omega
  have na : ∀ a b:Nat,s'.nx+a+b=s'.nx+(a+b):=fun a b=>Nat.add_assoc _ _ _;rw [<- hbb] at hDn;rcases hL' with ⟨rfl,rfl,hC0,hD0⟩ | ⟨o,e,o',e',rfl,rfl,ho,hox,ho',hox',hoo,hSo,hSo'⟩
  ·subst hC0 hD0;simp only [List.nil_append] at hCn hDn;simp [-getElem?_pos,w5,w6,w8,w9,hT2,hT8,hSq,hw,hr1,na,a1,a2,a4,a5,a6,b6];exact zai (n-1) (by omega) ⟨i+1,[cuts],[bins],.ref (s'.nx+1) none s'.ep 0 1,.ref (s'.nx+3) none s'.ep 0 1,by omega,by simp at hC; simp; omega,by simp at hC; simp; omega,hCn,hDn,by simp [w1],by simp [w2],by simp [w4],by simp [w5],by simp,by first | (simp; done) | (simp; omega),.inr ⟨s'.nx+1,s'.ep,s'.nx+3,s'.ep,rfl,rfl,by omega,by simp,by omega,by simp,by omega,by simp [nn1,nn2,rws,cel]⟩,by simp [b1,b2,b3,b4,b5,b6,hT0,hT1]⟩
  ·have c1:=fr ho;have c2:=fr hox;have c3:=fr ho';have c4:=fr hox';have c5:=fr (show o<q' by omega);have c6:=fr (show o'<q' by omega);have d1:=fr (show o<s'.nx by omega);have d2:=fr (show o'<s'.nx by omega);have d3:=fr (show 1<o by omega);have d4:=fr (show 1<o' by omega);have d5:=fr (show 0<o by omega);have d6:=fr (show 0<o' by omega);have hoo2 : ¬ o'=o:=fun e=>hoo e.symm;have nn3 : ¬ s'.nx+1=o':=by omega
   simp [-getElem?_pos,w5,w6,w8,w9,hT2,hT8,hSq,hSo,hSo',hoo2,hw,hr24,hr24',s1,s2,na,a1,a2,a4,a5,a6,b6,c1,c2,c3,c4,c5,c6,d1,d2];exact zai (n-1) (by omega) ⟨i+1,C++[cuts],D++[bins],.ref (s'.nx+1) none s'.ep 0 (C.length+1),.ref (s'.nx+3) none s'.ep 0 (D.length+1),by omega,by simp [hC],by simp [hD],hCn,hDn,by simp [w1],by simp [w2],by simp [w4],by simp [w5],by simp,by first | (simp; done) | (simp; omega),.inr ⟨s'.nx+1,s'.ep,s'.nx+3,s'.ep,by simp,by simp,by omega,by simp,by omega,by simp,by omega,by simp [nn1,nn2,nn3]⟩,by simp [b1,b2,b3,b4,b5,b6,d3,d4,d5,d6,hT0,hT1]⟩
 ·have hin:i=t.ns.length:=by omega
  rcases hx with ⟨rfl,rfl,hC0,hD0⟩ | ⟨o,e,o',e',rfl,rfl,ho,hox,ho',hox',hoo,hSo,hSo'⟩
  ·subst hC0;simp at hC; omega
  ·have c1:=fr ho;have c3:=fr ho';have d3:=fr (show 1<o by omega);have d4:=fr (show 1<o' by omega);have d5:=fr (show 0<o by omega);have d6:=fr (show 0<o' by omega);have hoo2 : ¬ o'=o:=fun e=>hoo e.symm;simp [-getElem?_pos,z90,v2,v4,v5,v6,hS0,hS1,hS2,h,hSo,hSo',hoo2,d3,d4];rw [hC8,hD8,hin];exact ⟨rfl,rfl⟩
def zzf (x:Int):Prop := -1500<=x/\x<=1500
end Go.Pe
