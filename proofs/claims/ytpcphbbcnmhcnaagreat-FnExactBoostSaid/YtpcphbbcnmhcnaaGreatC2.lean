/- What each function answers by the evaluator,and the law; for each answer its own conditions stand ahead of it. -/
import Derived.Test.YtpcphbbcnmhcnaaGreatC1
import Derived.Test.YtpcphbbcnmhcnaaGreatEvB2
import Derived.IntWalk
set_option linter.all false
set_option maxHeartbeats 8000000
set_option maxRecDepth 8000
namespace Go.Pe
open Go
theorem yp5 {tr:List Nd} : ∀ {ps:List Int} {rs:List (List Int)},ps.length=rs.length->(∀ p∈ps,∀ r∈rs,(adi p (evt tr r)).2=true)->∃ q,zfg tr ps rs=some q/\q.length=ps.length/\∀ (i:Nat) (p:Int) (r:List Int),ps[i]?=some p->rs[i]?=some r->q[i]?=some (p+evt tr r)
 | [],[],_,_=>⟨[],rfl,rfl,by simp⟩
 | p::ps,r::rs,hl,h=>by
  have h1:=h p (by simp) r (by simp);obtain ⟨q,h2,h3,h4⟩:=yp5 (ps:=ps) (rs:=rs) (by simpa using hl) (fun p hp r hr=>h p (by simp [hp]) r (by simp [hr]));refine ⟨(adi p (evt tr r)).1::q,by rw [zfg,if_pos h1,h2]; rfl,by simp [h3],fun i p' r' e1 e2 => ?_⟩;cases i with
  | zero =>
   simp at e1 e2;subst e1 e2;unfold adi at h1 ⊢;split at h1
   ·rename_i hc; rw [if_pos hc]; rfl
   ·cases h1
  | succ i=>simpa using h4 i p' r' (by simpa using e1) (by simpa using e2)
structure StI (t:Ta) (n:Nat) (s:Sta):Prop where
 l:s.sm.length=t.lb.length
 k:s.ts.length=n
 r : ∀ (i:Nat) (y p:Int),t.lb[i]?=some y->s.sm[i]?=some p->inR (4294967296*2 ^ n) (y-p)
theorem z9p {t:Ta} (h:zbi t=true) : ∀ y∈t.lb,inR 2147483647 y:=by
 unfold zbi at h;simp only [Bool.and_eq_true,List.all_eq_true] at h;intro y hy;have:=h.1.2 y hy;unfold zb7 at this;exact zaw.mp this
theorem ypn {R:Int} : ∀ {l:List Int} {a b:Int},(∀ y∈l,inR R y)->zgo a l=some b->a-R*l.length<=b/\b<=a+R*l.length
 | [],a,b,_,h=>by simp [zgo] at h; simp; omega
 | x::xs,a,b,hl,h=>by
  rw [zgo] at h;split at h
  ·rename_i hc;have h1:=ypn (fun y hy=>hl y (by simp [hy])) h;have h2:=hl x (by simp);have e:R*((x::xs).length:Int)=R*xs.length+R:=by
    simp only [List.length_cons]; push_cast; rw [Int.mul_add,Int.mul_one]
   rw [e];have e2:(adi a x).1=a+x:=by
    unfold adi at hc ⊢;split at hc
    ·rename_i hd; rw [if_pos hd]
    ·cases hc
   rw [e2] at h1;unfold inR at h2;omega
  ·cases h
theorem ynb {t:Ta} (h:zbi t=true):inR 2147483647 (zca t.lb).1:=by
 obtain ⟨t1,t2,t3,t4,t5,t6⟩:=zgu h;unfold zca;cases e:zgo 0 t.lb with
 | none=>exact zhq (by omega)
 | some b =>
  have:=ypn (z9p h) e;simp only;unfold fdv;split
  ·exact zhq (by omega)
  ·exact yeo (by omega) (by omega) (by omega)
theorem StI.new {t:Ta} (h:zbi t=true):StI t 0 (zc0 t).1:=by
 have hb:=ynb h;unfold zc0;rw [if_pos h];refine ⟨by simp,rfl,fun i y p h1 h2 => ?_⟩;simp only at h2;have hy:=z9p h y (bF h1);have hp:p=(zca t.lb).1:=by
  have:=bF h2;exact (List.mem_replicate.mp this).2
 subst hp;unfold inR at *;omega
theorem qc0 {t:Ta} {n:Nat} {s:Sta} (H:StI t n s) (hn:n<=8):(zdb t.lb s.sm).2=true/\(zdb t.lb s.sm).1.length=t.lb.length/\∀ x∈(zdb t.lb s.sm).1,inR (4294967296*2 ^ n) x:=by
 have hp:(2:Int) ^ n<=256:=by
  have h1:=Nat.pow_le_pow_right (n:=2) (by omega) hn;have h2:(2:Int) ^ n=((2 ^ n:Nat):Int):=by push_cast; rfl
  omega
 have key : ∀ (l m:List Int),l.length=m.length->(∀ (i:Nat) (y p:Int),l[i]?=some y->m[i]?=some p->inR (4294967296*2 ^ n) (y-p))->∃ r,res l m=some r/\r.length=l.length/\∀ x∈r,inR (4294967296*2 ^ n) x:=by
  intro l
  induction l with
  | nil=>intro m hl _; exact ⟨[],ybq m,rfl,by simp⟩
  | cons y l ih =>
   intro m hl hr;cases m with
   | nil=>simp at hl
   | cons p m =>
    obtain ⟨r,h1,h2,h3⟩:=ih m (by simpa using hl) (fun i y p e1 e2=>hr (i+1) y p (by simpa using e1) (by simpa using e2));have h0:=hr 0 y p rfl rfl;have hs:sbi y p=(y-p,true):=by
     unfold sbi;rw [if_pos];unfold inR at h0;omega
    refine ⟨(y-p)::r,by rw [res,hs]; simp [h1],by simp [h2],fun x hx => ?_⟩;rcases List.mem_cons.mp hx with rfl | hx
    ·exact h0
    ·exact h3 x hx
 obtain ⟨r,h1,h2,h3⟩:=key t.lb s.sm H.l.symm H.r;unfold zdb;rw [if_pos H.l.symm,h1];exact ⟨rfl,h2,h3⟩
theorem qa3 {t:Ta} {cfg:Cfg} {n:Nat} {s:Sta} (h:zbi t=true) (hc:zbk cfg=true) (H:StI t n s) (hn:n<=7):(rnd t cfg s).2=true/\StI t (n+1) (rnd t cfg s).1/\∃ tr,(rnd t cfg s).1.ts=s.ts++[tr]/\(∀ x∈tr,inR 1099511627776 x.v)/\tr.length<=32/\∀ (i:Nat) (p:Int) (r:List Int),s.sm[i]?=some p->t.rw[i]?=some r->(rnd t cfg s).1.sm[i]?=some (p+evt tr r):=by
 obtain ⟨t1,t2,t3,t4,t5,t6⟩:=zgu h;obtain ⟨_,_,hb,_⟩:=zo9 hc;have hbi:zah cfg.bi 2 8=true:=zaw.mpr (by omega);have hg:=qfu h hbi;have hrw:=ytu h hbi;obtain ⟨r1,r2,r3⟩:=qc0 H (by omega);have hp:(2:Int) ^ n<=128:=by
  have h1:=Nat.pow_le_pow_right (n:=2) (by omega) hn;have h2:(2:Int) ^ n=((2 ^ n:Nat):Int):=by push_cast; rfl
  omega
 have hp0:(0:Int)<=2 ^ n:=Int.pow_nonneg (by omega);have hs:(2:Int) ^ (n+1)=2*2 ^ n:=by rw [Int.pow_succ]; omega
 obtain ⟨R,hR⟩ : ∃ R:Int,R=4294967296*2 ^ n:=⟨_,rfl⟩;rw [<- hR] at r3;have hR0:0<=R:=by omega
 have hR1:R<=549755813888:=by omega
 have hgr:(zb3 (za7 t cfg.bi) (za6 t cfg.bi) (zdb t.lb s.sm).1 cfg).2=true:=by
  unfold zb3;rw [if_pos];unfold zf8;rw [hg,hc,decide_eq_true (by rw [r2,hrw]; omega),List.all_eq_true.mpr fun x hx => ?_]
  ·rfl
  ·have:=r3 x hx;unfold inR at this;exact zaw.mpr (by omega)
 have hv:=yqf (c:=za7 t cfg.bi) (v:=za6 t cfg.bi) (cfg:=cfg) hR0 r3;have hk:(zb3 (za7 t cfg.bi) (za6 t cfg.bi) (zdb t.lb s.sm).1 cfg).1.all (zi7 cfg)=true:=by
  rw [List.all_eq_true];intro x hx;have:=hv x hx;unfold inR at this;unfold zi7 shr;rw [if_pos (by rw [hc]; exact zaw.mpr (by omega))];simp
 have hT:zva t (za7 t cfg.bi) (za6 t cfg.bi) cfg s=((zb3 (za7 t cfg.bi) (za6 t cfg.bi) (zdb t.lb s.sm).1 cfg).1.map (zgy cfg),true):=by
  unfold zva;rw [if_pos (by rw [r1,hgr]; rfl)];unfold zf4;rw [if_pos hk]
 have htl:((zb3 (za7 t cfg.bi) (za6 t cfg.bi) (zdb t.lb s.sm).1 cfg).1.map (zgy cfg)).length<=32:=by rw [List.length_map]; exact ydb _ _ _ _
 have hv2:=ycu (c:=cfg) hR0 hv;unfold zf4 at hv2;rw [if_pos hk] at hv2;simp only at hv2;generalize (zb3 (za7 t cfg.bi) (za6 t cfg.bi) (zdb t.lb s.sm).1 cfg).1.map (zgy cfg)=tr at *;have he:=yca hR0 hv2;have hsm : ∀ p∈s.sm,inR 551903297535 p:=by
  intro p hp';obtain ⟨i,hi⟩:=bH hp';have hlt:=(bD hi).1;have hl:=H.l;obtain ⟨y,hy⟩ : ∃ y,t.lb[i]?=some y:=⟨_,bG (by omega)⟩;have a1:=H.r i y p hy hi;have a2:=z9p h y (bF hy);rw [<- hR] at a1;unfold inR at *;omega
 have hlr:s.sm.length=t.rw.length:=by have:=H.l; omega
 obtain ⟨q,q1,q2,q3⟩:=yp5 (tr:=tr) hlr (fun p hp' r hr=>by
  have a1:=hsm p hp';have a2:=he r;unfold inR at *;unfold adi;rw [if_pos (by omega)])
 have hrnd:rnd t cfg s=(⟨q,s.ts++[tr]⟩,true):=by
  unfold rnd zea;rw [if_pos ⟨h,rfl,rfl⟩];unfold zuc;rw [hT,if_pos rfl];unfold ziw;simp only [q1]
 rw [hrnd];refine ⟨rfl,⟨by rw [q2]; exact H.l,by simp [H.k],fun i y p' e1 e2 => ?_⟩,tr,rfl,fun x hx => ?_,htl,q3⟩
 ·have hlt:=(bD e1).1;have hl:=H.l;obtain ⟨p,hp'⟩ : ∃ p,s.sm[i]?=some p:=⟨_,bG (by omega)⟩;obtain ⟨r,hr⟩ : ∃ r,t.rw[i]?=some r:=⟨_,bG (by omega)⟩;have a1:=q3 i p r hp' hr;simp only at e2;rw [a1] at e2;cases e2;have a2:=H.r i y p e1 hp';have a3:=he r;rw [<- hR] at a2;rw [hs];unfold inR at *;omega
 ·have:=hv2 x hx;unfold inR at *;omega
theorem qan (c:List Int) (v:Int) (hc:c.length<=1048576):RUN T zre [.sl 1 (zab c),iv v]=some ([iv (zdr c v)],[]):=by
 refine zae rfl rfl ?_;simp [-getElem?_pos,z2p,zs6];refine zan (fun n st => ∃ i m:Nat,i+n=c.length/\m<=i/\m=zdr (c.take i) v/\st.V 8 = .sl 1 (zab c)/\st.V 1=iv v/\st.V 5=iv m/\st.V 10=iv i/\st.V 9=iv c.length) ?_ c.length _ ⟨0,0,by omega,by omega,by simp [zdr]⟩;rintro n st ⟨i,m,hi,hm,hmv,v8,v1,v5,v10,v9⟩
 by_cases h:i<c.length
 ·obtain ⟨x,hx⟩ : ∃ x,c[i]?=some x:=⟨_,bG h⟩;have hx':=zaz hx;have hw:=wS h (by omega:c.length<=9223372036854775807);have hw2:=w64 (x:=(m:Int)+1) (by omega) (by omega);have hs:=yp9 (c.take i) v x;rw [<- zuh hx,<- hmv] at hs
  by_cases hl:x<v
  ·rw [if_pos hl] at hs;simp [-getElem?_pos,z2o,v8,v1,v5,v10,v9,h,hx',hw,hw2,hl];exact zai (n-1) (by omega) ⟨i+1,m+1,by omega,by omega,hs.symm,by simp [v8,v1,v9]⟩
  ·rw [if_neg hl] at hs;simp [-getElem?_pos,z2o,v8,v1,v5,v10,v9,h,hx',hw,hl];exact zai (n-1) (by omega) ⟨i+1,m,by omega,by omega,hs.symm,by simp [v8,v1,v5,v9]⟩
 ·rw [List.take_of_length_le (by omega)] at hmv;rw [<- hmv];simp [-getElem?_pos,z2o,v8,v5,v10,v9,h]
theorem qao (l:List Int) (b:Int) (hl:l.length<=1048576):RUN T zrd [.sl 1 (zab l),iv b]=some ([.own 1 (zab (zbu l b))],[]):=by
 have e1:=qai l hl;have hsl:=z9z l;have hss:=z74 l;have hr0:zaj 8 0=true:=by decide
 have hr1:zaj 8 1=true:=by decide
 have g1:=zcs b 2 8;have g2:=zcs l.length 1 40;cases c1:zah b 2 8 with
 | false =>
  have hv:zbu l b=[]:=by unfold zbu; rw [c1]; rfl
  rw [hv];rw [c1] at g1;refine zae rfl rfl ?_;simp [-getElem?_pos,-zbm,ztn,z18,g1,hr0]
 | true =>
 cases c2:zah l.length 1 40 with
 | false =>
  have hv:zbu l b=[]:=by unfold zbu; rw [c1,c2]; rfl
  rw [hv];rw [c1] at g1;rw [c2] at g2;refine zae rfl rfl ?_;simp [-getElem?_pos,-zbm,ztn,z18,g1,g2,hr0]
 | true =>
 have hv:zbu l b=Lib.compact (zed (zd3 l) b.toNat (b.toNat-1)):=by unfold zbu; rw [c1,c2]; rfl
 rw [hv];rw [c1] at g1;rw [c2] at g2;have hb:=zaw.mp c1;have h12:=zaw.mp c2;have h1:1<=l.length:=by omega
 have h2:l.length<=40:=by omega
 clear c1 c2 h12 hv;generalize zd3 l=a at *;obtain ⟨bn,rfl⟩ : ∃ n:Nat,b=n:=⟨b.toNat,by omega⟩;rw [Int.toNat_natCast];refine zae rfl rfl ?_;simp [-getElem?_pos,-zbm,ztn,z18,g1,g2,hr0,e1];refine zan (fun n st => ∃ (i o e:Nat) (m:List Int),1<=i/\i+n=bn/\m.length<i/\m=zed a bn (i-1)/\st.V 1=iv bn/\st.V 0 = .sl 1 (zab l)/\st.V 6 = .ref 1 none 0 0 a.length/\st.V 5 = .ref o none e 0 m.length/\st.V 7=iv i/\¬ o=1/\o<st.nx/\1<st.nx/\st.S o=some (.row 1 (zab m))/\st.S 1=some (.row 1 (zab a))) ?_ (bn-1) _ ⟨1,0,0,[],by omega,by omega,by simp,rfl,by simp,by simp,by simp,by simp,by simp,by omega,by simp [zab]⟩;rintro n st ⟨i,o,e,m,hi1,hi,hm,hmp,v1,v0,v6,v5,v7,ho,hox,h1x,hSo,hS1⟩;obtain ⟨x1,x2,x3,x4⟩:=fr hox;have g1:(o=1)=False:=eq_false ho;have g2:(1=o)=False:=eq_false (fun e=>ho e.symm);obtain ⟨z1,z2,z3,z4⟩:=fr h1x
 by_cases h:i<bn
 ·have hw:=wS h (by omega:bn<=9223372036854775807);have hb0 : ¬ bn=0:=by omega
  have hq:(l.length:Int)*i<=40*8:=Int.mul_le_mul (by omega) (by omega) (by omega) (by omega);have hq0:0<=(l.length:Int)*i:=Int.mul_nonneg (by omega) (by omega);have w1:=w64 (x:=(l.length:Int)*i) (by omega) (by omega);obtain ⟨k,hkk⟩ : ∃ k:Nat,k=l.length*i / bn:=⟨_,rfl⟩;have hk:((l.length:Int)*i).tdiv bn=k:=by
   rw [Int.tdiv_eq_ediv_of_nonneg hq0,hkk]
   push_cast
   rfl
  have hcs:zed a bn i=m++zi9 a bn i:=by
   obtain ⟨j,rfl⟩ : ∃ j,i=j+1:=⟨i-1,by omega⟩;rw [hmp]; rfl
  unfold zi9 zhr at hcs;rw [hsl,<- hkk] at hcs;have hkl:k<=l.length:=by
   have h3:((l.length:Int)*i).tdiv bn<=l.length:=by
    rw [Int.tdiv_eq_ediv_of_nonneg hq0];refine Int.ediv_le_of_le_mul (by omega) ?_;exact Int.mul_le_mul_of_nonneg_left (by omega) (by omega)
   omega
  have w2:=w64 (x:=(k:Int)) (by omega) (by omega)
  by_cases hk1:1<=k
  ·obtain ⟨x,hx⟩ : ∃ x,a[k-1]?=some x:=⟨_,bG (by omega)⟩;obtain ⟨y,hy⟩ : ∃ x,a[a.length-1]?=some x:=⟨_,bG (by omega)⟩;have hx':=zaz hx;have hy':=zaz hy;rw [hsl] at hy';have w3:IntKind.i64.wrap ((k:Int)-1)=((k-1:Nat):Int):=by rw [w64 (by omega) (by omega)]; omega
   have w4:IntKind.i64.wrap ((l.length:Int)-1)=((l.length-1:Nat):Int):=by rw [w64 (by omega) (by omega)]; omega
   have c1:k-1<l.length:=by omega
   have c2:l.length-1<l.length:=by omega
   have hk1':(1:Int)<=k:=by omega
   have hr8:=zc4 (n:=m.length+1) (by omega);have hsn:=zc8 m x;have gx:a.getD (k-1) 0=x:=by rw [List.getD_eq_getElem?_getD,hx]; rfl
   have gy:a.getD (l.length-1) 0=y:=by rw [<- hsl,List.getD_eq_getElem?_getD,hy]; rfl
   rw [gx,gy] at hcs;have hle:=zo5 hss (by omega:k-1<=a.length-1) hx hy
   by_cases hxy:x=y
   ·have hxy2 : ¬ ¬ x=y:=fun h=>h hxy;rw [if_neg (fun h=>h.2 hxy),List.append_nil] at hcs;subst hxy;simp [-getElem?_pos,zv5,v1,v0,v6,v5,v7,hSo,hS1,h,hw,hb0,w1,w2,w3,w4,hk,hk1,hk1',hx',hy',hsl,c1,c2,hxy2,g1,g2,x1,x2,x3,x4,z1,z2,z3,z4];exact zai (n-1) (by omega) ⟨i+1,o,e,m,by omega,by omega,by omega,hcs.symm,by simp [v1],by simp [v0],by simp [v6,hsl],by simp [v5],by simp,ho,by simp [hox,h1x,hSo,hS1]⟩
   ·rw [if_pos ⟨hk1,hxy⟩] at hcs;simp [-getElem?_pos,zv5,v1,v0,v6,v5,v7,hSo,hS1,h,hw,hb0,w1,w2,w3,w4,hk,hk1,hk1',hx',hy',hsl,c1,c2,hxy,hr1,hr8,hsn,g1,g2,x1,x2,x3,x4,z1,z2,z3,z4];exact zai (n-1) (by omega) ⟨i+1,st.nx+1,st.ep,m++[x],by omega,by omega,by simp; omega,hcs.symm,by simp [v1],by simp [v0],by simp [v6,hsl],by simp,by simp,by simp; omega,by simp,by first | (simp; done) | (simp; omega),by first | (simp; done) | (simp; omega),by simp [g1,g2,x1,x2,x3,x4,z1,z2,z3,z4,hS1,show ¬ st.nx=0 by omega]⟩
  ·have hk0:k=0:=by omega
   rw [if_neg (by omega),List.append_nil] at hcs;rw [hk0] at hk w2;clear hkk hkl;subst hk0;simp [-getElem?_pos,zv5,v1,v0,v6,v5,v7,hSo,hS1,h,hw,hb0,w1,w2,hk];exact zai (n-1) (by omega) ⟨i+1,o,e,m,by omega,by omega,by omega,hcs.symm,by simp [v1],by simp [v0],by simp [v6],by simp [v5],by simp,ho,by simp [hox,h1x,hSo,hS1]⟩
 ·have hib:i=bn:=by omega
  have hm2:m=zed a bn (bn-1):=by rw [hmp,hib]
  have h3:=qah m (by omega);rw [<- hm2];generalize Lib.compact m=z at *;simp [-getElem?_pos,zv5,v1,v5,v7,hSo,h,h3]
theorem qap (q:Bool) (t:Ta) (f:Nat) (ht:TaL 1048576 t) (hf:f<t.ns.length) (h40:t.rw.length<=40) (hr : ∀ r∈t.rw,r.length=t.ns.length):RUN T zrc [taS q t,iv f]=some ([.own 1 (zab (zbh t f))],[]):=by
 have hr0:zaj 8 0=true:=by decide
 have hr1:zaj 8 1=true:=by decide
 have hns:=ht.ns;have g1:=zcs f 0 ((t.ns.length:Int)-1);rw [zaw.mpr (by omega)] at g1;have w1:=w64 (x:=(t.ns.length:Int)-1) (by omega) (by omega);refine zae rfl rfl ?_;simp [-getElem?_pos,-zbm,z2m,z18,hr0,g1,w1];refine zan (fun n st => ∃ (i o e:Nat) (m:List Int),i+n=t.rw.length/\m=(t.rw.take i).map (fun r=>r.getD f 0)/\m.length=i/\st.V 1=iv f/\st.V 19 = .sl 1 (rws q t.rw)/\st.V 20=iv t.rw.length/\st.V 5 = .ref o none e 0 m.length/\st.V 21=iv i/\0<o/\o<st.nx/\st.S o=some (.row 1 (zab m))) ?_ t.rw.length _ ⟨0,1,0,[],by omega,rfl,rfl,by simp [zab]⟩;rintro n st ⟨i,o,e,m,hi,hmv,hm,v1,v19,v20,v5,v21,ho,hox,hSo⟩;obtain ⟨x1,x2,x3,x4⟩:=fr hox
 by_cases h:i<t.rw.length
 ·obtain ⟨r,hx⟩ : ∃ x,t.rw[i]?=some x:=⟨_,bG h⟩;have hx':=zcu (q:=q) hx;have hrl:=hr r (bF hx);obtain ⟨y,hy⟩ : ∃ x,r[f]?=some x:=⟨_,bG (by omega)⟩;have hy':=zaz hy;have hfr:f<r.length:=by omega
  have hw:=wS h (by omega:t.rw.length<=9223372036854775807);have hr8:=zc4 (n:=m.length+1) (by omega);have hsn:=zc8 m y;have hmn:m++[y]=(t.rw.take (i+1)).map (fun r=>r.getD f 0):=by
   rw [zuh hx,List.map_append,<- hmv,List.map_singleton,List.getD_eq_getElem?_getD,hy]; rfl
  simp [-getElem?_pos,yad,v1,v19,v20,v5,v21,hSo,h,hx',hy',hfr,hw,hr1,hr8,hsn,x1,x2,x3,x4];exact zai (n-1) (by omega) ⟨i+1,st.nx+1,st.ep,m++[y],by omega,hmn,by simp [hm],by simp [v1],by simp [v19],by simp [v20],by simp,by simp,by omega,by simp⟩
 ·rw [List.take_of_length_le (by omega)] at hmv;have hcv:zbh t f=m:=hmv.symm;rw [hcv];simp [-getElem?_pos,yad,v1,v20,v5,v21,hSo,h]
open Classical in
theorem qaq (l m:List Int) (hl:l.length<=9223372036854775807):RUN T zlm [.sl 1 (zab l),.sl 1 (zab m)]=some ([bv (decide (l=m))],[]):=by
 have h:=y79 l m hl;refine zae rfl rfl ?_;simp [-getElem?_pos,z38,zs6,h]
open Classical in
theorem qar (p q:Bool) (L M:List (List Int)) (hl:L.length<=9223372036854775807) (hll : ∀ l∈L,l.length<=9223372036854775807):RUN T zr2 [.sl 1 (rws p L),.sl 1 (rws q M),.fn zlm []]=some ([bv (decide (L=M))],[]):=by
 refine zae rfl rfl ?_;rcases Classical.propComplete ((L.length:Int)=M.length) with hlm | hlm
 case inr =>
  simp [-getElem?_pos,zwl,zzl,hlm,z9x hlm]
 simp [-getElem?_pos,zwl,zzl,hlm];have hlen:L.length=M.length:=by simp at hlm; omega
 refine zan (fun n st => ∃ i:Nat,i+n=L.length/\(∀ j,j<i->L[j]?=M[j]?)/\st.V 1 = .sl 1 (rws q M)/\st.V 2 = .fn zlm []/\st.V 15 = .sl 1 (rws p L)/\st.V 16=iv L.length/\st.V 17=iv i) ?_ L.length _ ⟨0,by simp [hlen]⟩;rintro n st ⟨i,hi,hj,v1,v2,v15,v16,v17⟩;simp [yfv,v16,v17];refine zay (fun h => ?_) (fun h => ?_)
 ·simp at h;obtain ⟨x,hx⟩ : ∃ x,L[i]?=some x:=⟨_,bG h⟩;obtain ⟨y,hy⟩ : ∃ y,M[i]?=some y:=⟨_,bG (by omega)⟩;have hx':=zcu (q:=p) hx;have hy':=zcu (q:=q) hy;have hw:=wS h hl;have him:i<M.length:=by omega
  have hs:=qaq x y (hll x (bF hx));have z:=fr (by omega:st.nx<st.nx+1)
  by_cases e:x=y
  ·rw [decide_eq_true e] at hs;simp [-getElem?_pos,v1,v2,v15,v16,v17,hx',hy',h,him,hw,hs,z];exact zai (n-1) (by omega) ⟨i+1,by omega,zik hj (by rw [hx,hy,e]),by simp [v1,v2,v15,v16]⟩
  ·rw [decide_eq_false e] at hs;simp [-getElem?_pos,v1,v2,v15,v16,v17,hx',hy',h,him,hw,hs,z,z70 hx hy e]
 ·simp at h;simp [z9v hlen h hj]
open Classical in
theorem yms (p q:Bool) (L M:List (List Int)) (hl:L.length<=9223372036854775807) (hll : ∀ l∈L,l.length<=9223372036854775807):RUN T zm6 [.sl 1 (rws p L),.sl 1 (rws q M)]=some ([bv (decide (L=M))],[]):=by
 have h:=qar p q L M hl hll;refine zae rfl rfl ?_;simp [-getElem?_pos,z2k,zs6,h]
open Classical in
theorem qas (p q:Bool) (c v c' v':List (List Int)) (hc:c.length<=9223372036854775807) (hcl : ∀ l∈c,l.length<=9223372036854775807) (hv:v.length<=9223372036854775807) (hvl : ∀ l∈v,l.length<=9223372036854775807):RUN T zqj [.agg [.sl 1 (rws p c),.sl 1 (rws p v)],.agg [.sl 1 (rws q c'),.sl 1 (rws q v')]]=some ([bv (decide (c=c') && decide (v=v'))],[]):=by
 have h1:=yms p q c c' hc hcl;have h2:=yms p q v v' hv hvl;generalize decide (c=c')=b1 at *;generalize decide (v=v')=b2 at *;refine zae rfl rfl ?_;cases b1 <;> simp [-getElem?_pos,z0h,zs6,h1,h2]
open Classical in
theorem ymt (p q:Bool) (L M:List (List Int)) (hl:L.length<=9223372036854775807) (hll : ∀ l∈L,l.length<=9223372036854775807):RUN T zna [.sl 1 (rws p L),.sl 1 (rws q M)]=some ([bv (decide (L=M))],[]):=by
 refine zae rfl rfl ?_;rcases Classical.propComplete ((L.length:Int)=M.length) with hlm | hlm
 case inr =>
  simp [-getElem?_pos,zwd,zs6,hlm,z9x hlm]
 simp [-getElem?_pos,zwd,zs6,hlm];have hlen:L.length=M.length:=by simp at hlm; omega
 refine zan (fun n st => ∃ i:Nat,i+n=L.length/\(∀ j,j<i->L[j]?=M[j]?)/\st.V 0 = .sl 1 (rws p L)/\st.V 1 = .sl 1 (rws q M)/\st.V 5=iv i) ?_ L.length _ ⟨0,by simp [hlen]⟩;rintro n st ⟨i,hi,hj,v0,v1,v5⟩;simp [yfn,v0,v5];refine zay (fun h => ?_) (fun h => ?_)
 ·simp at h;obtain ⟨x,hx⟩ : ∃ x,L[i]?=some x:=⟨_,bG h⟩;obtain ⟨y,hy⟩ : ∃ y,M[i]?=some y:=⟨_,bG (by omega)⟩;have hx':=zcu (q:=p) hx;have hy':=zcu (q:=q) hy;have hw:=wS h hl;have him:i<M.length:=by omega
  have hs:=y78 x y (hll x (bF hx))
  by_cases e:x=y
  ·rw [decide_eq_true e] at hs;simp [-getElem?_pos,v0,v1,v5,hx',hy',h,him,hw,hs];exact zai (n-1) (by omega) ⟨i+1,by omega,zik hj (by rw [hx,hy,e]),by simp [v0,v1]⟩
  ·rw [decide_eq_false e] at hs;simp [-getElem?_pos,v0,v1,v5,hx',hy',h,him,hw,hs,z70 hx hy e]
 ·simp at h;simp [z9v hlen h hj]
open Classical in
theorem qat (p q:Bool) (c v c' v':List (List Int)) (hc:c.length<=9223372036854775807) (hcl : ∀ l∈c,l.length<=9223372036854775807) (hv:v.length<=9223372036854775807) (hvl : ∀ l∈v,l.length<=9223372036854775807):RUN T zqn [.agg [.sl 1 (rws p c),.sl 1 (rws p v)],.agg [.sl 1 (rws q c'),.sl 1 (rws q v')]]=some ([bv (decide (c=c') && decide (v=v'))],[]):=by
 have h1:=ymt p q c c' hc hcl;have h2:=ymt p q v v' hv hvl;generalize decide (c=c')=b1 at *;generalize decide (v=v')=b2 at *;refine zae rfl rfl ?_;cases b1 <;> simp [-getElem?_pos,z0n,zs6,h1,h2]
theorem qb6 (cuts col:List Int) (hcu:cuts.length<=8) (hco:col.length<=40) {st:St} {q1 e1 q2 e2 q3 e3:Nat} {Q:Ex->St->Prop} (v35:st.V 35 = .ref q1 none e1 0 col.length) (v36:st.V 36=iv col.length) (v37:st.V 37=iv (0:Nat)) (v9:st.V 9 = .ref q2 none e2 0 cuts.length) (v8:st.V 8 = .ref q3 none e3 0 0) (h13:q1≠q3) (h23:q2≠q3) (h1:q1<st.nx) (h2:q2<st.nx) (h3:q3<st.nx) (hS1:st.S q1=some (.row 1 (zab col))) (hS2:st.S q2=some (.row 1 (zab cuts))) (hS3:st.S q3=some (.row 1 []))
  (hQ : ∀ (s':St) (q' e':Nat) (bins:List Int),bins=col.map (fun v=>(zdr cuts v:Int))->(∀ k,k≠8->k≠11->k≠37->s'.V k=st.V k)->s'.V 8 = .ref q' none e' 0 bins.length->(q'=q3\/st.nx<=q')->q'<s'.nx->st.nx<=s'.nx->s'.S q'=some (.row 1 (zab bins))->(∀ k,k<st.nx->k≠q3->s'.S k=st.S k)->Q (.exit 2) s') :
  W (zad T) (RUN T) (.loop z0j) st Q:=by
 refine zan (fun m s' => ∃ (i q' e':Nat) (bins:List Int),i+m=col.length/\bins.length=i/\bins=(col.take i).map (fun v=>(zdr cuts v:Int))/\(∀ k,k≠8->k≠11->k≠37->s'.V k=st.V k)/\s'.V 8 = .ref q' none e' 0 bins.length/\s'.V 37=iv i/\(q'=q3\/st.nx<=q')/\q'<s'.nx/\st.nx<=s'.nx/\s'.S q'=some (.row 1 (zab bins))/\(∀ k,k<st.nx->k≠q3->s'.S k=st.S k)) ?_ col.length _ ⟨0,q3,e3,[],by omega,rfl,rfl,fun _ _ _ _=>rfl,by simpa using v8,by simpa using v37,.inl rfl,h3,Nat.le_refl _,by simpa [zab] using hS3,fun _ _ _=>rfl⟩;rintro m s' ⟨i,q',e',bins,hi,hb,hbb,hV,v8',v37',hq,hqx,hnx,hSq,hfr⟩;have v35':s'.V 35 = .ref q1 none e1 0 col.length:=by rw [hV 35 (by decide) (by decide) (by decide)]; exact v35
 have v36':s'.V 36=iv col.length:=by rw [hV 36 (by decide) (by decide) (by decide)]; exact v36
 have v9':s'.V 9 = .ref q2 none e2 0 cuts.length:=by rw [hV 9 (by decide) (by decide) (by decide)]; exact v9
 have hS1':s'.S q1=some (.row 1 (zab col)):=by rw [hfr q1 h1 h13]; exact hS1
 have hS2':s'.S q2=some (.row 1 (zab cuts)):=by rw [hfr q2 h2 h23]; exact hS2
 by_cases h:i<col.length
 ·obtain ⟨x,hx⟩ : ∃ x,col[i]?=some x:=⟨_,bG h⟩;have hx':=zaz hx;have hw:=wS h (by omega:col.length<=9223372036854775807);have hr1:zaj 8 1=true:=by decide
  have hr8:=zc4 (n:=bins.length+1) (by omega);have h4:=qan cuts x (by omega);have hbn:bins++[(zdr cuts x:Int)]=(col.take (i+1)).map (fun v=>(zdr cuts v:Int)):=by rw [zuh hx,List.map_append,<- hbb]; rfl
  generalize zdr cuts x=y at *;have hsn:=zc8 bins (y:Int);have a1:=fr hqx;have a2:(q1=q')=False/\(q'=q1)=False/\(q2=q')=False/\(q'=q2)=False:=⟨eq_false (by omega),eq_false (by omega),eq_false (by omega),eq_false (by omega)⟩;have a4:=fr (show q1<s'.nx by omega);have a5:=fr (show q2<s'.nx by omega);simp [-getElem?_pos,z0j,v35',v36',v37',v9',v8',hS1',hS2',hSq,h,hx',h4,hw,hr1,hr8,hsn,a1,a2,a4,a5];refine zai (m-1) (by omega) ⟨i+1,s'.nx+1,s'.ep,bins++[(y:Int)],by omega,by simp [hb],hbn,fun k k1 k2 k3 => ?_,by simp,by simp,.inr (by omega),by simp,by simp; omega,by simp,fun k k1 k2 => ?_⟩
  ·simp [k1,k2,k3]; exact hV k k1 k2 k3
  ·have b1:(k=s'.nx)=False:=eq_false (by omega);have b2:(k=s'.nx+1)=False:=eq_false (by omega);have b3:(k=q')=False:=eq_false (by omega);simp [b1,b2,b3];exact hfr k k1 k2
 ·have hin:i=col.length:=by omega
  simp [-getElem?_pos,z0j,v36',v37',h];exact hQ _ q' e' bins (by rw [hbb,List.take_of_length_le (by omega)]) (fun k k1 k2 k3=>by simp; exact hV k k1 k2 k3) (by simp [v8']) hq (by simp [hqx]) (by simp [hnx]) (by simp [hSq]) (fun k k1 k2=>by simp; exact hfr k k1 k2)
theorem ymu (q:Bool) (t:Ta) (b:Int) (ht:TaL 1048576 t):RUN T zmz [taS q t,iv b]=some ([.agg [.own 1 (rws true (za7 t b)),.own 1 (rws true (za6 t b))]],[]):=by
 have e1:=ybf q t ht;have g1:=zcs b 2 8;cases hok:zbi t with
 | false =>
  have hC:za7 t b=[]:=by unfold za7; rw [hok]; rfl
  have hW:za6 t b=[]:=by unfold za6; rw [hok]; rfl
  rw [hC,hW];rw [hok] at e1;simp only [taS] at *;refine zae rfl rfl ?_;simp [-getElem?_pos,-zbm,ztj,zti,e1,show rws true []=[] from rfl]
 | true =>
 cases hbi:zah b 2 8 with
 | false =>
  have hC:za7 t b=[]:=by unfold za7; rw [hbi,Bool.and_false]; rfl
  have hW:za6 t b=[]:=by unfold za6; rw [hbi,Bool.and_false]; rfl
  rw [hC,hW];rw [hok] at e1;rw [hbi] at g1;simp only [taS] at *;refine zae rfl rfl ?_;simp [-getElem?_pos,-zbm,ztj,zti,e1,g1,show rws true []=[] from rfl]
 | true =>
 have hb:=zaw.mp hbi;rw [hok] at e1;rw [hbi] at g1;obtain ⟨t1,t2,t3,t4,t5,t6⟩:=zgu hok;have hgC:za7 t b=(List.range t.ns.length).map fun f=>zbu (zbh t f) b:=by unfold za7; rw [hok,hbi]; rfl
 have hgW:za6 t b=(List.range t.ns.length).map (zh4 t b):=by unfold za6; rw [hok,hbi]; rfl
 rw [hgC,hgW];have hr1:zaj 24 1=true:=by decide
 have hr0:zaj 8 0=true:=by decide
 have cl:=qap q t;simp only [taS] at *;refine zae rfl rfl ?_;simp [-getElem?_pos,-zbm,ztj,zti,e1,g1];refine zan (fun n st => ∃ (i:Nat) (C D:List (List Int)) (x y:PV),i+n=t.ns.length/\C.length=i/\D.length=i/\C=(List.range i).map (fun f=>zbu (zbh t f) b)/\D=(List.range i).map (zh4 t b)/\st.V 1=iv b/\st.V 2 = .ptr 0 none 0 0 0/\st.V 4 = .ptr 1 none 0 0 0/\st.V 5 = .ptr 2 none 0 0 0/\st.V 25=iv i/\st.V 24=iv t.ns.length/\2<st.nx/\LG st.S st.nx C D x y/\st.S 0=some (.box [.sl 1 (za2 t.ns),.v (.string t.nm),.sl 1 (rws q t.rw),.sl 1 (zab t.lb)])/\st.S 1=some (.box [.e0,.e0])/\st.S 2=some (.box [x,y])) ?_ t.ns.length _ ⟨0,[],[],.e0,.e0,by omega,rfl,rfl,rfl,rfl,by simp,by simp,by simp,by simp,by simp,by simp,by simp,.inl ⟨rfl,rfl,rfl,rfl⟩,by simp⟩;rintro n st ⟨i,C,D,x,y,hi,hC,hD,hC8,hD8,v1,v2,v4,v5,v25,v24,hnx,hx,hS0,hS1,hS2⟩;have z1:=fr hnx;have z2:=fr (show 1<st.nx by omega);have z3:=fr (show 0<st.nx by omega)
 by_cases h:i<t.ns.length
 ·have hw:=wS h (by omega:t.ns.length<=9223372036854775807);have h1:=cl i ht h t4 t6;have hcol:(zbh t i).length=t.rw.length:=by simp [zbh]
  have h2:=qao (zbh t i) b (by omega);have hcu:(zbu (zbh t i) b).length<=8:=Nat.le_trans (z7v (zbh t i) b).2.2 (by omega);have hCn:C++[zbu (zbh t i) b]=(List.range (i+1)).map (fun f=>zbu (zbh t f) b):=by rw [List.range_succ,List.map_append,<- hC8]; rfl
  have hDn:D++[(zbh t i).map fun v=>(zdr (zbu (zbh t i) b) v:Int)]=(List.range (i+1)).map (zh4 t b):=by rw [List.range_succ,List.map_append,<- hD8]; rfl
  generalize zbu (zbh t i) b=cuts at *;generalize zbh t i=col at *;simp [-getElem?_pos,z98,v1,v2,v4,v5,v25,v24,hS0,hS1,hS2,h,h1,h2,hr0,z1,z2,z3];refine qb6 cuts col hcu (by omega) (q1:=st.nx) (q2:=st.nx+2) (q3:=st.nx+1) (by simp; rfl) (by simp) (by simp) (by simp; rfl) (by simp; rfl) (by omega) (by omega) (by first | (simp; done) | (simp; omega)) (by first | (simp; done) | (simp; omega)) (by first | (simp; done) | (simp; omega)) (by simp) (by simp) (by simp) ?_;intro s' q' e' bins hbb hV w8 hq hqx hnx' hSq hfr;simp only at hq hnx';have hbl:bins.length=col.length:=by rw [hbb]; simp
  have w1:s'.V 1=iv b:=by rw [hV 1 (by decide) (by decide) (by decide)]; simp [v1]
  have w2:s'.V 2 = .ptr 0 none 0 0 0:=by rw [hV 2 (by decide) (by decide) (by decide)]; simp [v2]
  have w4:s'.V 4 = .ptr 1 none 0 0 0:=by rw [hV 4 (by decide) (by decide) (by decide)]; simp [v4]
  have w5:s'.V 5 = .ptr 2 none 0 0 0:=by rw [hV 5 (by decide) (by decide) (by decide)]; simp [v5]
  have w25:s'.V 25=iv i:=by rw [hV 25 (by decide) (by decide) (by decide)]; simp [v25]
  have w24:s'.V 24=iv t.ns.length:=by rw [hV 24 (by decide) (by decide) (by decide)]; simp [v24]
  obtain ⟨e9,w9⟩ : ∃ e,s'.V 9 = .ref (st.nx+2) none e 0 cuts.length:=⟨_,by rw [hV 9 (by decide) (by decide) (by decide)]; simp; rfl⟩;have hT0:s'.S 0=some (.box [.sl 1 (za2 t.ns),.v (.string t.nm),.sl 1 (rws q t.rw),.sl 1 (zab t.lb)]):=by rw [hfr 0 (by first | (simp; done) | (simp; omega)) (by omega)]; simp [z1,z2,z3,hS0]
  have hT1:s'.S 1=some (.box [.e0,.e0]):=by rw [hfr 1 (by first | (simp; done) | (simp; omega)) (by omega)]; simp [z1,z2,z3,hS1]
  have hT2:s'.S 2=some (.box [x,y]):=by rw [hfr 2 (by first | (simp; done) | (simp; omega)) (by omega)]; simp [z1,z2,z3,hS2]
  have hT8:s'.S (st.nx+2)=some (.row 1 (zab cuts)):=by rw [hfr _ (by first | (simp; done) | (simp; omega)) (by omega)]; simp
  have hL:LG s'.S s'.nx C D x y:=hx.mono (by omega) (fun k k1 k2=>by
   rw [hfr k (by first | (simp; done) | (simp; omega)) (by omega)];have b1:(k=st.nx)=False:=eq_false (by omega);have b2:(k=st.nx+1)=False:=eq_false (by omega);have b3:(k=st.nx+2)=False:=eq_false (by omega);simp [b1,b2,b3])
  have hr24:zaj 24 (C.length+1)=true:=by simp [zaj]; omega
  have hr24':zaj 24 (D.length+1)=true:=by simp [zaj]; omega
  have s1:=z8j C cuts;have s2:=z8j D bins;obtain ⟨p8,hp8⟩ : ∃ p8,p8=st.nx+2:=⟨_,rfl⟩;rw [<- hp8] at w9 hT8;have hp8x:p8<s'.nx:=by first | omega | (simp at hnx'; omega)
  have hp8q : ¬ p8=q':=by first | omega | (simp at hq; omega)
  have hq2:2<q':=by first | omega | (simp at hq; omega)
  have hp82:2<p8:=by omega
  obtain ⟨P,hP⟩ : ∃ P,P=st.nx:=⟨_,rfl⟩;have hPp:P<p8:=by omega
  have hPq:P<q':=by first | omega | (simp at hq; omega)
  have hL':LG s'.S P C D x y:=by
   rcases hx with hx | ⟨o,e,o',e',k1,k2,k3,k4,k5,k6,k7,k8,k9⟩
   ·exact .inl hx
   ·rcases hL with ⟨l1,_⟩ | ⟨o2,e2,o2',e2',l1,l2,l3,l4,l5,l6,l7,l8,l9⟩
    ·rw [k1] at l1; cases l1
    ·rw [k1] at l1; cases l1;rw [k2] at l2; cases l2;exact .inr ⟨o,e,o',e',k1,k2,k3,by omega,k5,by omega,k7,l8,l9⟩
  clear hL hx hfr hV hp8 hP hq hS0 hS1 hS2 v1 v2 v4 v5 v25 v24 z1 z2 z3 h1 h2;have a1:=fr hqx;have a2:(p8=q')=False/\(q'=p8)=False:=⟨eq_false hp8q,eq_false fun e=>hp8q e.symm⟩;have a3:=fr (show p8<s'.nx by omega);have a4:=fr hp82;have a5:=fr (show 2<q' by omega);have a6:=fr (show 2<s'.nx by omega);have b1:=fr (show 1<p8 by omega);have b2:=fr (show 1<q' by omega);have b3:=fr (show 1<s'.nx by omega);have b4:=fr (show 0<p8 by omega);have b5:=fr (show 0<q' by omega);have b6:=fr (show 0<s'.nx by omega);have nn1 : ¬ s'.nx=1:=by omega
  have nn2 : ¬ s'.nx+1=q':=by omega
  have na : ∀ a b:Nat,s'.nx+a+b=s'.nx+(a+b):=fun a b=>Nat.add_assoc _ _ _;rw [<- hbb] at hDn;rcases hL' with ⟨rfl,rfl,hC0,hD0⟩ | ⟨o,e,o',e',rfl,rfl,ho,hox,ho',hox',hoo,hSo,hSo'⟩
  ·subst hC0 hD0;simp only [List.nil_append] at hCn hDn;simp [-getElem?_pos,w1,w2,w4,w5,w25,w24,w8,w9,hT0,hT1,hT2,hT8,hSq,hw,hr1,na,a1,a2,a3,a4,a5,a6,b1,b2,b3,b4,b5,b6];exact zai (n-1) (by omega) ⟨i+1,[cuts],[bins],.ref (s'.nx+1) none s'.ep 0 1,.ref (s'.nx+3) none s'.ep 0 1,by omega,by simp at hC; simp; omega,by simp at hC; simp; omega,hCn,hDn,by simp [w1],by simp [w2],by simp [w4],by simp [w5],by simp,by simp [w24],by first | (simp; done) | (simp; omega),.inr ⟨s'.nx+1,s'.ep,s'.nx+3,s'.ep,rfl,rfl,by omega,by simp,by omega,by simp,by omega,by simp [nn1,nn2,rws,cel]⟩,by simp [a1,a2,a3,a4,a5,a6,b1,b2,b3,b4,b5,b6,hT0,hT1]⟩
  ·have c1:=fr ho;have c2:=fr (show o<p8 by omega);have c3:=fr ho';have c4:=fr (show o'<p8 by omega);have c5:=fr (show o<q' by omega);have c6:=fr (show o'<q' by omega);have d1:=fr (show o<s'.nx by omega);have d2:=fr (show o'<s'.nx by omega);have d3:=fr (show 1<o by omega);have d4:=fr (show 1<o' by omega);have d5:=fr (show 0<o by omega);have d6:=fr (show 0<o' by omega);have hoo2 : ¬ o'=o:=fun e=>hoo e.symm;have nn3 : ¬ s'.nx+1=o':=by omega
   simp [-getElem?_pos,w1,w2,w4,w5,w25,w24,w8,w9,hT0,hT1,hT2,hT8,hSq,hSo,hSo',hoo,hoo2,hw,hr1,hr24,hr24',s1,s2,na,a1,a2,a3,a4,a5,a6,b1,b2,b3,b4,b5,b6,c1,c2,c3,c4,c5,c6,d1,d2,d3,d4,d5,d6];exact zai (n-1) (by omega) ⟨i+1,C++[cuts],D++[bins],.ref (s'.nx+1) none s'.ep 0 (C.length+1),.ref (s'.nx+3) none s'.ep 0 (D.length+1),by omega,by simp [hC],by simp [hD],hCn,hDn,by simp [w1],by simp [w2],by simp [w4],by simp [w5],by simp,by simp [w24],by first | (simp; done) | (simp; omega),.inr ⟨s'.nx+1,s'.ep,s'.nx+3,s'.ep,by simp,by simp,by omega,by simp,by omega,by simp,by omega,by simp [nn1,nn2,nn3]⟩,by simp [a1,a2,a3,a4,a5,a6,b1,b2,b3,b4,b5,b6,c1,c2,c3,c4,c5,c6,d1,d2,d3,d4,d5,d6,hT0,hT1]⟩
 ·have hin:i=t.ns.length:=by omega
  rcases hx with ⟨rfl,rfl,hC0,hD0⟩ | ⟨o,e,o',e',rfl,rfl,ho,hox,ho',hox',hoo,hSo,hSo'⟩
  ·subst hC0;simp at hC; omega
  ·have c1:=fr ho;have c3:=fr ho';have d3:=fr (show 1<o by omega);have d4:=fr (show 1<o' by omega);have d5:=fr (show 0<o by omega);have d6:=fr (show 0<o' by omega);have hoo2 : ¬ o'=o:=fun e=>hoo e.symm;simp [-getElem?_pos,z98,v1,v2,v4,v5,v25,v24,hS0,hS1,hS2,h,hSo,hSo',hoo,hoo2,c1,c3,d3,d4,d5,d6];rw [hC8,hD8,hin];exact ⟨rfl,rfl⟩
theorem ytx {l m:List Int} : ∀ x∈(zdb l m).1,inI x:=by
 unfold zdb;split
 ·rename_i hl;cases e:res l m with
  | none=>intro x hx; cases hx
  | some r =>
   obtain ⟨h1,h2⟩:=yc5 hl e;intro x hx
   replace hx:x∈r:=hx
   obtain ⟨i,hi⟩:=bH hx;have hlt:=(bD hi).1;obtain ⟨a,ha⟩ : ∃ a,l[i]?=some a:=⟨_,bG (by omega)⟩;obtain ⟨b,hb⟩ : ∃ b,m[i]?=some b:=⟨_,bG (by omega)⟩;obtain ⟨rfl,h4,h5⟩:=h2 i a b x ha hb hi;exact ⟨h4,h5⟩
 ·intro x hx; cases hx
theorem yo2 {l m:List Int}:(zdb l m).1.length<=l.length/\((zdb l m).2=true->l.length=m.length):=by
 unfold zdb;split
 ·rename_i hl;cases e:res l m with
  | none=>simp
  | some r=>exact ⟨Nat.le_of_eq (yc5 hl e).1,fun _=>hl⟩
 ·simp
theorem ypi {c v:List (List Int)} {g:List Int} {cfg:Cfg} (h:(zb3 c v g cfg).2=true) : ∀ x∈(zb3 c v g cfg).1,inR 2199023255552 x.v:=by
 refine yqf (by omega) fun x hx => ?_;unfold zb3 at h;split at h
 ·rename_i ht;exact (zx1 ht).2.2.2 x hx
 ·cases h
theorem yp2 {tr:List Nd} {ps:List Int} {rs:List (List Int)} {i:Nat} {p:Int} {r:List Int} (hp:ps[i]?=some p) (hr:rs[i]?=some r):zfg tr (ps.drop i) (rs.drop i)=if (adi p (evt tr r)).2=true then (zfg tr (ps.drop (i+1)) (rs.drop (i+1))).map ((adi p (evt tr r)).1 :: ·) else none:=by
 rw [zc3 hp,zc3 hr,zfg]
theorem yug (M:List (List Nd)) (t:List Nd):trs true M++[[.own 5 (t.map nd)]]=trs true (M++[t]):=by simp [trs,zjk]
theorem TaL.up {t:Ta} (ht:TaL 1048576 t):TaL 9223372036854775807 t:=⟨Nat.le_trans ht.ns (by omega),fun x hx=>Nat.le_trans (ht.ss x hx) (by omega),Nat.le_trans ht.nm (by omega),Nat.le_trans ht.rw (by omega),fun x hx=>Nat.le_trans (ht.rr x hx) (by omega),Nat.le_trans ht.lb (by omega)⟩
open Classical in
theorem qau (p q r:Bool) (t:Ta) (c v:List (List Int)) (cfg:Cfg) (s:Sta) (ht:TaL 1048576 t) (hti : ∀ y∈t.lb,inI y) (hcl:c.length<=1048576) (hc : ∀ l∈c,l.length<=1048576) (hvl:v.length<=1048576) (hv : ∀ l∈v,l.length<=1048576) (hg:cfg.sg.length<=1048576) (hs:zk5 1048576 s) (hsi : ∀ x∈s.sm,inI x):RUN T zpu [taS p t,.agg [.sl 1 (rws q c),.sl 1 (rws q v)],cfS cfg,stS r s]=some ([stO (zea t c v cfg s).1,bv (zea t c v cfg s).2],[]):=by
 have e1:=ybg p t ht.up;have e2:=ymr p t cfg.bi ht;have e3:=qat q true c v (za7 t cfg.bi) (za6 t cfg.bi) (by omega) (fun l hl=>Nat.le_trans (hc l hl) (by omega)) (by omega) (fun l hl=>Nat.le_trans (hv l hl) (by omega));have r1:=y73 t.lb s.sm ht.lb hs.sm hti hsi;have hrl:=yo2 (l:=t.lb) (m:=s.sm);have hri:=ytx (l:=t.lb) (m:=s.sm);have hrw:=ht.rw;have hsm:=hs.sm;have hlb:=ht.lb;have hz:stO noS = .agg [.own 1 [],.own 1 []]:=rfl;simp only [taS,stS] at *;cases ht1:zbi t with
 | false =>
  have hR:zea t c v cfg s=(noS,false):=by unfold zea; rw [if_neg (by rw [ht1]; simp)]
  rw [hR,hz];rw [ht1] at e1;refine zae rfl rfl ?_;simp [-getElem?_pos,zj4,zj3,e1]
 | true =>
 rw [ht1] at e1;have htr:=zgu ht1
 by_cases hcg:c=za7 t cfg.bi/\v=za6 t cfg.bi
 case neg =>
  have hR:zea t c v cfg s=(noS,false):=by unfold zea; rw [if_neg fun h=>hcg h.2]
  have hd:(decide (c=za7 t cfg.bi) && decide (v=za6 t cfg.bi))=false:=by
   cases h1:decide (c=za7 t cfg.bi) with
   | false=>rfl
   | true=>exact decide_eq_false fun h=>hcg ⟨of_decide_eq_true h1,h⟩
  rw [hR,hz];rw [hd] at e3;generalize za7 t cfg.bi=GC at *;generalize za6 t cfg.bi=GW at *;refine zae rfl rfl ?_;simp [-getElem?_pos,zj4,zj3,e1,e2,e3]
 case pos =>
 have hR:zea t c v cfg s=zuc t c v cfg s:=by unfold zea; rw [if_pos ⟨ht1,hcg⟩]
 have hd:(decide (c=za7 t cfg.bi) && decide (v=za6 t cfg.bi))=true:=by rw [decide_eq_true hcg.1,decide_eq_true hcg.2]; rfl
 rw [hR];rw [hd] at e3;generalize za7 t cfg.bi=GC at *;generalize za6 t cfg.bi=GW at *;clear hR hd hcg ht1;unfold zuc zva;generalize zdb t.lb s.sm=QQ at *;obtain ⟨RS,rb⟩:=QQ;simp only at r1 hrl hri;have g1:=y9x q c v RS cfg hc hv (by omega) hg hri;have hgl:=ydb (c:=c) (v:=v) (g:=RS) (cfg:=cfg);have hgv:=ypi (c:=c) (v:=v) (g:=RS) (cfg:=cfg);have s1:=qac (zb3 c v RS cfg).1 cfg (by omega) hg;have hsl:=ytn (c:=cfg) (t:=(zb3 c v RS cfg).1);have hsv:=fun h=>ycu (c:=cfg) (t:=(zb3 c v RS cfg).1) (R:=2199023255552) (by omega) (hgv h);have t1:=y97 r s.ts hs.ts hs.tl;generalize zb3 c v RS cfg=QQ at *;obtain ⟨G,gb⟩:=QQ;simp only at g1 hgl s1 hsl hsv;generalize zf4 cfg G=QQ at *;obtain ⟨tr,sb⟩:=QQ;simp only at s1 hsl hsv;cases rb with
 | false =>
  simp only [Bool.false_and,Bool.false_eq_true,if_false];rw [hz];refine zae rfl rfl ?_;simp [-getElem?_pos,zj4,zj3,e1,e2,e3,r1]
 | true =>
 cases gb with
 | false =>
  simp only [Bool.and_false,Bool.false_eq_true,if_false];rw [hz];refine zae rfl rfl ?_;simp [-getElem?_pos,zj4,zj3,e1,e2,e3,r1,g1,s1]
 | true =>
 cases sb with
 | false =>
  simp only [Bool.and_true,if_true,Bool.false_eq_true,if_false];rw [hz];refine zae rfl rfl ?_;simp [-getElem?_pos,zj4,zj3,e1,e2,e3,r1,g1,s1]
 | true =>
 simp only [Bool.and_true,if_true];have hev:=yca (t:=tr) (by omega) (hsv rfl);have hlr:s.sm.length=t.rw.length:=by have:=hrl.2 rfl; omega
 have hts:=yug s.ts tr;have hrt:zaj 24 (s.ts.length+1)=true:=by have:=hs.ts; simp [zaj]; omega
 have hr24:zaj 24 1=true:=by decide
 clear hsv hgv;refine zae rfl rfl ?_;simp [-getElem?_pos,zj4,zj3,e1,e2,e3,r1,g1,s1,t1,hts,hrt,hr24];refine zan (fun n st => ∃ (i:Nat) (m:List Int) (x:PV),i+n=s.sm.length/\m.length=i/\zfg tr s.sm t.rw=(zfg tr (s.sm.drop i) (t.rw.drop i)).map (m ++ ·)/\st.V 4 = .ptr 0 none 0 0 0/\st.V 7 = .ptr 3 none 0 0 0/\st.V 8 = .ptr 4 none 0 0 0/\st.V 14 = .ptr 11 none 0 0 0/\st.V 16 = .ptr 15 none 0 0 0/\st.V 17=iv i/\st.ep=0/\15<st.nx/\LC st.S st.nx 15 m x/\st.S 0=some (.box [.sl 1 (za2 t.ns),.v (.string t.nm),.sl 1 (rws p t.rw),.sl 1 (zab t.lb)])/\st.S 3=some (.box [.sl 1 (zab s.sm),.sl 1 (trs r s.ts)])/\st.S 4=some (.box [.e0,.e0])/\st.S 10=some (.shadow 5 (tr.map nd) 0)/\st.S 11=some (.box [.ref 10 none 0 0 tr.length])/\st.S 14=some (.row 1 (trs true (s.ts++[tr])))/\st.S 15=some (.box [x,.ref 14 none 0 0 (s.ts.length+1)])) ?_ s.sm.length _ ⟨0,[],.e0,by omega,rfl,by simp,by simp,by simp,by simp,by simp,by simp,by simp,by simp,by simp,.inl ⟨rfl,rfl⟩,by simp⟩;rintro n st ⟨i,m,x,hi,hm,hE,v4,v7,v8,v14,v16,v17,hep,hnx,hx,hS0,hS3,hS4,hS10,hS11,hS14,hS15⟩;have Z0:=bI v4 <| bI v7 <| bI v8 <| bI v14 <| bI v16 <| bI v17 <| bI hep <| bI hS0 <| bI hS3 <| bI hS4 <| bI hS10 <| bI hS11 <| bI hS14 hS15
 have z0:=fr (show 0<st.nx by omega);have z3:=fr (show 3<st.nx by omega);have z4:=fr (show 4<st.nx by omega);have z10:=fr (show 10<st.nx by omega);have z11:=fr (show 11<st.nx by omega);have z14:=fr (show 14<st.nx by omega);have z15:=fr hnx;have n14 : ¬ st.nx=14:=by omega
 by_cases h:i<s.sm.length
 ·obtain ⟨y,hy⟩ : ∃ x,s.sm[i]?=some x:=⟨_,bG h⟩;obtain ⟨w,hw⟩ : ∃ x,t.rw[i]?=some x:=⟨_,bG (by omega)⟩;have hy':=zaz hy;have hw':=zcu (q:=p) hw;have hir:i<t.rw.length:=by omega
  have hwS:=wS h (by omega:s.sm.length<=9223372036854775807);have v1:=y7j tr w (by omega) (ht.rr w (bF hw));have hei:=hev w;have a1:=z7t y (evt tr w) (hsi y (bF hy)) (by unfold inR at hei; unfold inI; omega);rw [yp2 hy hw] at hE;generalize evt tr w=ew at *;generalize adi y ew=QQ at *;obtain ⟨ad,ab⟩:=QQ;simp only at a1 hE;cases ab with
  | false =>
   have hA:ziw t tr s=(noS,false):=by unfold ziw; rw [hE]; rfl
   rw [hA,hz];simp [-getElem?_pos,ztc,Z0,h,hy',hw',hir,v1,a1]
  | true =>
   rw [if_pos rfl] at hE;have hE2:zfg tr s.sm t.rw=(zfg tr (s.sm.drop (i+1)) (t.rw.drop (i+1))).map ((m++[ad]) ++ ·):=by
    rw [hE,Option.map_map]; congr 1; funext l; simp
   have hr8:zaj 8 1=true:=by decide
   have hr8':=zc4 (n:=m.length+1) (by omega);have hsn:=zc8 m ad;rcases hx with ⟨rfl,rfl⟩ | ⟨o,e,rfl,ho,hox,hSo⟩
   ·simp [-getElem?_pos,ztc,Z0,h,hy',hw',hir,v1,a1,hwS,hr8,z0,z3,z4,z10,z11,z14,z15];exact zai (n-1) (by omega) ⟨i+1,[ad],.ref (st.nx+1) none 0 0 1,by omega,by simp at hm; simp; omega,by simpa using hE2,by simp [v4],by simp [v7],by simp [v8],by simp [v14],by simp [v16],by simp,by simp [hep],by simp; omega,.inr ⟨st.nx+1,0,by simp,by omega,by simp [zab,n14]⟩,by simp [z0,hS0,z3,hS3,z4,hS4,z10,hS10,z11,hS11,z14,hS14,n14]⟩
   ·have y1:=fr hox;have y2:=fr (show 0<o by omega);have y3:=fr (show 3<o by omega);have y4:=fr (show 4<o by omega);have y5:=fr (show 10<o by omega);have y6:=fr (show 11<o by omega);have y7:=fr (show 14<o by omega);have y8:=fr ho;simp [-getElem?_pos,ztc,Z0,hSo,h,hy',hw',hir,v1,a1,hwS,hr8,hr8',hsn,z0,z3,z4,z10,z11,z14,z15,y1,y2,y3,y4,y5,y6,y7,y8];exact zai (n-1) (by omega) ⟨i+1,m++[ad],.ref (st.nx+1) none 0 0 (m.length+1),by omega,by simp [hm],hE2,by simp [v4],by simp [v7],by simp [v8],by simp [v14],by simp [v16],by simp,by simp [hep],by simp; omega,.inr ⟨st.nx+1,0,by simp,by omega,by simp [n14]⟩,by simp [z0,y2,hS0,z3,y3,hS3,z4,y4,hS4,z10,y5,hS10,z11,y6,hS11,z14,y7,hS14,n14]⟩
 ·have hA:ziw t tr s=(⟨m,s.ts++[tr]⟩,true):=by
   unfold ziw;rw [hE,List.drop_eq_nil_of_le (by omega),List.drop_eq_nil_of_le (by omega)];simp [zfg]
  rw [hA];rcases hx with ⟨rfl,rfl⟩ | ⟨o,e,rfl,ho,hox,hSo⟩
  ·simp [-getElem?_pos,ztc,Z0,h,z0,z3,z4,z10,z11,z14,z15]
  ·have y4:=fr (show 4<o by omega);have y7:=fr (show 14<o by omega);have y8:=fr ho;simp [-getElem?_pos,ztc,Z0,hSo,h,z0,z3,z4,z10,z11,z14,z15,y4,y7,y8]
open Classical in
theorem qav (p q r:Bool) (t:Ta) (c v:List (List Int)) (cfg:Cfg) (s:Sta) (ht:TaL 1048576 t) (hti : ∀ y∈t.lb,inI y) (hcl:c.length<=1048576) (hc : ∀ l∈c,l.length<=1048576) (hvl:v.length<=1048576) (hv : ∀ l∈v,l.length<=1048576) (hg:cfg.sg.length<=1048576) (hs:zk5 1048576 s) (hsi : ∀ x∈s.sm,inI x):RUN T zpt [taS p t,.agg [.sl 1 (rws q c),.sl 1 (rws q v)],cfS cfg,stS r s]=some ([stO (zea t c v cfg s).1,bv (zea t c v cfg s).2],[]):=by
 have e1:=ybf p t ht;have e2:=ymu p t cfg.bi ht;have e3:=qas q true c v (za7 t cfg.bi) (za6 t cfg.bi) (by omega) (fun l hl=>Nat.le_trans (hc l hl) (by omega)) (by omega) (fun l hl=>Nat.le_trans (hv l hl) (by omega));have r1:=y72 t.lb s.sm ht.lb hs.sm hti hsi;have hrl:=yo2 (l:=t.lb) (m:=s.sm);have hri:=ytx (l:=t.lb) (m:=s.sm);have hrw:=ht.rw;have hsm:=hs.sm;have hlb:=ht.lb;have hz:stO noS = .agg [.own 1 [],.own 1 []]:=rfl;simp only [taS,stS] at *;cases ht1:zbi t with
 | false =>
  have hR:zea t c v cfg s=(noS,false):=by unfold zea; rw [if_neg (by rw [ht1]; simp)]
  rw [hR,hz];rw [ht1] at e1;refine zae rfl rfl ?_;simp [-getElem?_pos,zj2,zj3,e1]
 | true =>
 rw [ht1] at e1;have htr:=zgu ht1
 by_cases hcg:c=za7 t cfg.bi/\v=za6 t cfg.bi
 case neg =>
  have hR:zea t c v cfg s=(noS,false):=by unfold zea; rw [if_neg fun h=>hcg h.2]
  have hd:(decide (c=za7 t cfg.bi) && decide (v=za6 t cfg.bi))=false:=by
   cases h1:decide (c=za7 t cfg.bi) with
   | false=>rfl
   | true=>exact decide_eq_false fun h=>hcg ⟨of_decide_eq_true h1,h⟩
  rw [hR,hz];rw [hd] at e3;generalize za7 t cfg.bi=GC at *;generalize za6 t cfg.bi=GW at *;refine zae rfl rfl ?_;simp [-getElem?_pos,zj2,zj3,e1,e2,e3]
 case pos =>
 have hR:zea t c v cfg s=zuc t c v cfg s:=by unfold zea; rw [if_pos ⟨ht1,hcg⟩]
 have hd:(decide (c=za7 t cfg.bi) && decide (v=za6 t cfg.bi))=true:=by rw [decide_eq_true hcg.1,decide_eq_true hcg.2]; rfl
 rw [hR];rw [hd] at e3;generalize za7 t cfg.bi=GC at *;generalize za6 t cfg.bi=GW at *;clear hR hd hcg ht1;unfold zuc zva;generalize zdb t.lb s.sm=QQ at *;obtain ⟨RS,rb⟩:=QQ;simp only at r1 hrl hri;have g1:=y9w q c v RS cfg hc hv (by omega) hg hri;have hgl:=ydb (c:=c) (v:=v) (g:=RS) (cfg:=cfg);have hgv:=ypi (c:=c) (v:=v) (g:=RS) (cfg:=cfg);have s1:=qad (zb3 c v RS cfg).1 cfg (by omega) hg;have hsl:=ytn (c:=cfg) (t:=(zb3 c v RS cfg).1);have hsv:=fun h=>ycu (c:=cfg) (t:=(zb3 c v RS cfg).1) (R:=2199023255552) (by omega) (hgv h);have t1:=y96 r s.ts hs.ts hs.tl;generalize zb3 c v RS cfg=QQ at *;obtain ⟨G,gb⟩:=QQ;simp only at g1 hgl s1 hsl hsv;generalize zf4 cfg G=QQ at *;obtain ⟨tr,sb⟩:=QQ;simp only at s1 hsl hsv;cases rb with
 | false =>
  simp only [Bool.false_and,Bool.false_eq_true,if_false];rw [hz];refine zae rfl rfl ?_;simp [-getElem?_pos,zj2,zj3,e1,e2,e3,r1]
 | true =>
 cases gb with
 | false =>
  simp only [Bool.and_false,Bool.false_eq_true,if_false];rw [hz];refine zae rfl rfl ?_;simp [-getElem?_pos,zj2,zj3,e1,e2,e3,r1,g1,s1]
 | true =>
 cases sb with
 | false =>
  simp only [Bool.and_true,if_true,Bool.false_eq_true,if_false];rw [hz];refine zae rfl rfl ?_;simp [-getElem?_pos,zj2,zj3,e1,e2,e3,r1,g1,s1]
 | true =>
 simp only [Bool.and_true,if_true];have hev:=yca (t:=tr) (by omega) (hsv rfl);have hlr:s.sm.length=t.rw.length:=by have:=hrl.2 rfl; omega
 have hts:=yug s.ts tr;have hrt:zaj 24 (s.ts.length+1)=true:=by have:=hs.ts; simp [zaj]; omega
 have hr24:zaj 24 1=true:=by decide
 clear hsv hgv;refine zae rfl rfl ?_;simp [-getElem?_pos,zj2,zj3,e1,e2,e3,r1,g1,s1,t1,hts,hrt,hr24];refine zan (fun n st => ∃ (i:Nat) (m:List Int) (x:PV),i+n=s.sm.length/\m.length=i/\zfg tr s.sm t.rw=(zfg tr (s.sm.drop i) (t.rw.drop i)).map (m ++ ·)/\st.V 4 = .ptr 0 none 0 0 0/\st.V 70 = .sl 1 (zab s.sm)/\st.V 71=iv s.sm.length/\st.V 8 = .ptr 4 none 0 0 0/\st.V 13 = .ptr 11 none 0 0 0/\st.V 14 = .ptr 15 none 0 0 0/\st.V 72=iv i/\st.ep=0/\15<st.nx/\LC st.S st.nx 15 m x/\st.S 0=some (.box [.sl 1 (za2 t.ns),.v (.string t.nm),.sl 1 (rws p t.rw),.sl 1 (zab t.lb)])/\st.S 4=some (.box [.e0,.e0])/\st.S 10=some (.shadow 5 (tr.map nd) 0)/\st.S 11=some (.box [.ref 10 none 0 0 tr.length])/\st.S 14=some (.row 1 (trs true (s.ts++[tr])))/\st.S 15=some (.box [x,.ref 14 none 0 0 (s.ts.length+1)])) ?_ s.sm.length _ ⟨0,[],.e0,by omega,rfl,by simp,by simp,by simp,by simp,by simp,by simp,by simp,by simp,by simp,by simp,.inl ⟨rfl,rfl⟩,by simp⟩;rintro n st ⟨i,m,x,hi,hm,hE,v4,v70,v71,v8,v13,v14,v72,hep,hnx,hx,hS0,hS4,hS10,hS11,hS14,hS15⟩;have Z0:=bI v4 <| bI v70 <| bI v71 <| bI v8 <| bI v13 <| bI v14 <| bI v72 <| bI hep <| bI hS0 <| bI hS4 <| bI hS10 <| bI hS11 <| bI hS14 hS15
 have z0:=fr (show 0<st.nx by omega);have z3:=fr (show 3<st.nx by omega);have z4:=fr (show 4<st.nx by omega);have z10:=fr (show 10<st.nx by omega);have z11:=fr (show 11<st.nx by omega);have z14:=fr (show 14<st.nx by omega);have z15:=fr hnx;have n14 : ¬ st.nx=14:=by omega
 by_cases h:i<s.sm.length
 ·obtain ⟨y,hy⟩ : ∃ x,s.sm[i]?=some x:=⟨_,bG h⟩;obtain ⟨w,hw⟩ : ∃ x,t.rw[i]?=some x:=⟨_,bG (by omega)⟩;have hy':=zaz hy;have hw':=zcu (q:=p) hw;have hir:i<t.rw.length:=by omega
  have hwS:=wS h (by omega:s.sm.length<=9223372036854775807);have v1:=y7k tr w (by omega) (ht.rr w (bF hw));have hei:=hev w;have a1:=z7s y (evt tr w) (hsi y (bF hy)) (by unfold inR at hei; unfold inI; omega);rw [yp2 hy hw] at hE;generalize evt tr w=ew at *;generalize adi y ew=QQ at *;obtain ⟨ad,ab⟩:=QQ;simp only at a1 hE;cases ab with
  | false =>
   have hA:ziw t tr s=(noS,false):=by unfold ziw; rw [hE]; rfl
   rw [hA,hz];simp [-getElem?_pos,ztb,Z0,h,hy',hw',hir,v1,a1]
  | true =>
   rw [if_pos rfl] at hE;have hE2:zfg tr s.sm t.rw=(zfg tr (s.sm.drop (i+1)) (t.rw.drop (i+1))).map ((m++[ad]) ++ ·):=by
    rw [hE,Option.map_map]; congr 1; funext l; simp
   have hr8:zaj 8 1=true:=by decide
   have hr8':=zc4 (n:=m.length+1) (by omega);have hsn:=zc8 m ad;rcases hx with ⟨rfl,rfl⟩ | ⟨o,e,rfl,ho,hox,hSo⟩
   ·simp [-getElem?_pos,ztb,Z0,h,hy',hw',hir,v1,a1,hwS,hr8,z0,z3,z4,z10,z11,z14,z15];exact zai (n-1) (by omega) ⟨i+1,[ad],.ref (st.nx+1) none 0 0 1,by omega,by simp at hm; simp; omega,by simpa using hE2,by simp [v4],by simp [v70],by simp [v71],by simp [v8],by simp [v13],by simp [v14],by simp,by simp [hep],by simp; omega,.inr ⟨st.nx+1,0,by simp,by omega,by simp [zab,n14]⟩,by simp [z0,hS0,z4,hS4,z10,hS10,z11,hS11,z14,hS14,n14]⟩
   ·have y1:=fr hox;have y2:=fr (show 0<o by omega);have y3:=fr (show 3<o by omega);have y4:=fr (show 4<o by omega);have y5:=fr (show 10<o by omega);have y6:=fr (show 11<o by omega);have y7:=fr (show 14<o by omega);have y8:=fr ho;simp [-getElem?_pos,ztb,Z0,hSo,h,hy',hw',hir,v1,a1,hwS,hr8,hr8',hsn,z0,z3,z4,z10,z11,z14,z15,y1,y2,y3,y4,y5,y6,y7,y8];exact zai (n-1) (by omega) ⟨i+1,m++[ad],.ref (st.nx+1) none 0 0 (m.length+1),by omega,by simp [hm],hE2,by simp [v4],by simp [v70],by simp [v71],by simp [v8],by simp [v13],by simp [v14],by simp,by simp [hep],by simp; omega,.inr ⟨st.nx+1,0,by simp,by omega,by simp [n14]⟩,by simp [z0,y2,hS0,z4,y4,hS4,z10,y5,hS10,z11,y6,hS11,z14,y7,hS14,n14]⟩
 ·have hA:ziw t tr s=(⟨m,s.ts++[tr]⟩,true):=by
   unfold ziw;rw [hE,List.drop_eq_nil_of_le (by omega),List.drop_eq_nil_of_le (by omega)];simp [zfg]
  rw [hA];rcases hx with ⟨rfl,rfl⟩ | ⟨o,e,rfl,ho,hox,hSo⟩
  ·simp [-getElem?_pos,ztb,Z0,h,z0,z3,z4,z10,z11,z14,z15]
  ·have y4:=fr (show 4<o by omega);have y7:=fr (show 14<o by omega);have y8:=fr ho;simp [-getElem?_pos,ztb,Z0,hSo,h,z0,z3,z4,z10,z11,z14,z15,y4,y7,y8]
theorem yo6 {r:List Int} {tr:List Nd} : ∀ (ts:List (List Nd)) (a:Int),z8q r (ts++[tr]) a=IntKind.i64.wrap (z8q r ts a+evt tr r)
 | [],a=>rfl
 | x::ts,a=>yo6 ts _
structure BI (t:Ta) (n:Nat) (s:Sta):Prop where
 st:StI t n s
 tl : ∀ x∈s.ts,x.length<=32
 sum : ∀ (i:Nat) (p:Int) (r:List Int),s.sm[i]?=some p->t.rw[i]?=some r->z8q r s.ts (zca t.lb).1=p
theorem StI.inI {t:Ta} (h:zbi t=true) {n:Nat} {s:Sta} (H:StI t n s) (hn:n<=8) : ∀ x∈s.sm,inI x:=by
 intro p hp;have hp2:(2:Int) ^ n<=256:=by
  have h1:=Nat.pow_le_pow_right (n:=2) (by omega) hn;have h2:(2:Int) ^ n=((2 ^ n:Nat):Int):=by push_cast; rfl
  omega
 obtain ⟨i,hi⟩:=bH hp;have hlt:=(bD hi).1;have hl:=H.l;obtain ⟨y,hy⟩ : ∃ y,t.lb[i]?=some y:=⟨_,bG (by omega)⟩;have a1:=H.r i y p hy hi;have a2:=z9p h y (bF hy);unfold inR at a1 a2;unfold Go.Pe.inI;omega
theorem BI.new {t:Ta} (h:zbi t=true):BI t 0 (zc0 t).1:=by
 refine ⟨StI.new h,?_,fun i p r hp hr => ?_⟩
 ·unfold zc0; rw [if_pos h]; intro x hx; cases hx
 ·unfold zc0 at hp ⊢;rw [if_pos h] at hp ⊢;exact ((List.mem_replicate.mp (bF hp)).2).symm
theorem BI.next {t:Ta} {cfg:Cfg} (h:zbi t=true) (hc:zbk cfg=true) {n:Nat} (hn:n<=7) {s:Sta} (H:BI t n s):(rnd t cfg s).2=true/\BI t (n+1) (rnd t cfg s).1:=by
 obtain ⟨r1,r2,tr,r3,r4,r5,r6⟩:=qa3 h hc H.st hn;refine ⟨r1,r2,fun x hx => ?_,fun i p r hp hr => ?_⟩
 ·rw [r3] at hx;rcases List.mem_append.mp hx with hx | hx
  ·exact H.tl x hx
  ·simp at hx; subst hx; exact r5
 ·have hi:=r2.inI h (by omega) p (bF hp);have hlt:=(bD hr).1;have hl:=H.st.l;have:=zgu h;obtain ⟨p0,hp0⟩ : ∃ y,s.sm[i]?=some y:=⟨_,bG (by omega)⟩;have e:=r6 i p0 r hp0 hr;rw [hp] at e;cases e;rw [r3,yo6,H.sum i p0 r hp0 hr];unfold Go.Pe.inI at hi;exact w64 hi.1 hi.2
theorem zpc {t:Ta} {cfg:Cfg} (h:zbi t=true) (hc:zbk cfg=true) : ∀ n:Nat,n<=8->∃ s,zgg t cfg n=some s/\BI t n s
 | 0,_=>⟨_,rfl,BI.new h⟩
 | n+1,hn=>by
  obtain ⟨s,h1,h2⟩:=zpc h hc n (by omega);obtain ⟨h3,h4⟩:=BI.next h hc (by omega) h2
  exact ⟨_,by rw [zgg,h1]; simp only [Option.bind_some,h3,if_true],h4⟩
theorem BI.lens {t:Ta} {n:Nat} {s:Sta} (h:zbi t=true) (H:BI t n s) (hn:n<=8):zk5 1048576 s:=by
 obtain ⟨t1,t2,t3,t4,t5,t6⟩:=zgu h;have:=H.st.l;have:=H.st.k;exact ⟨by omega,by omega,fun x hx=>Nat.le_trans (H.tl x hx) (by omega)⟩
theorem qaw (p:Bool) (t:Ta) (cfg:Cfg) (ht:TaL 1048576 t) (hti : ∀ y∈t.lb,inI y) (hg:cfg.sg.length<=1048576):RUN T zpq [taS p t,cfS cfg]=some ([stO (zc7 t cfg).1,bv (zc7 t cfg).2],[]):=by
 have e1:=qaf p t ht hti;have e2:=z7r cfg (by omega);have e3:=ymr p t cfg.bi ht;have hz:stO noS = .agg [.own 1 [],.own 1 []]:=rfl;have rn:=fun s=>qau p true true t (za7 t cfg.bi) (za6 t cfg.bi) cfg s ht hti;simp only [taS,stO,cfS] at *;cases ht1:zbi t with
 | false =>
  have hR:zc7 t cfg=(noS,false):=by unfold zc7; rw [ht1]; rfl
  have hN:zc0 t=(noS,false):=by unfold zc0; rw [if_neg (by rw [ht1]; simp)]; rfl
  rw [hR];rw [hN] at e1;have hz1:zab noS.sm=[]:=rfl;have hz2:trs true noS.ts=[]:=rfl;rw [hz1,hz2] at e1 ⊢;refine zae rfl rfl ?_;simp [-getElem?_pos,zs9,zta,e1]
 | true =>
 have hN:(zc0 t).2=true:=by unfold zc0; rw [if_pos ht1]
 rw [hN] at e1;cases hc:zbk cfg with
 | false =>
  have hR:zc7 t cfg=(noS,false):=by unfold zc7; rw [ht1,hc]; rfl
  rw [hR];have hz1:zab noS.sm=[]:=rfl;have hz2:trs true noS.ts=[]:=rfl;rw [hz1,hz2];rw [hc] at e2;generalize (zc0 t).1=s0 at *;refine zae rfl rfl ?_;simp [-getElem?_pos,zs9,zta,e1,e2]
 | true =>
 rw [hc] at e2;obtain ⟨t1,t2,t3,t4,t5,t6⟩:=zgu ht1;obtain ⟨⟨ro1,ro8⟩,_,hbi,_⟩:=zo9 hc;obtain ⟨N,hN8⟩ : ∃ N:Nat,cfg.ro=N:=⟨cfg.ro.toNat,by omega⟩;obtain ⟨sN,hsN,_⟩:=zpc ht1 hc N (by omega);have hR:zc7 t cfg=(sN,true):=by unfold zc7; rw [ht1,hc,hN8]; simp [hsN]
 rw [hR];have hwi:zah cfg.bi 2 8=true:=zaw.mpr (by omega);obtain ⟨l1,l2⟩:=ydc ht1 hwi;obtain ⟨l3,l4⟩:=yry (t:=t) (b:=cfg.bi);have rn:=fun s=>rn s (by omega) (fun l hl=>Nat.le_trans (l3 l hl) (by omega)) (by omega) (fun l hl=>by rw [l4 l hl]; omega) hg;have hnx:=fun (i:Nat) (hn:i<=7) (s:Sta) => @BI.next t cfg ht1 hc i hn s
 have hrd : ∀ s,zea t (za7 t cfg.bi) (za6 t cfg.bi) cfg s=rnd t cfg s:=fun _=>rfl;simp only [hrd] at rn;have hst:=fun i=>zpc ht1 hc i;obtain ⟨s0,hs0⟩ : ∃ s0,s0=(zc0 t).1:=⟨_,rfl⟩;rw [<- hs0] at e1;have hb0:zgg t cfg 0=some s0:=by rw [hs0]; rfl
 generalize za7 t cfg.bi=GC at *;generalize za6 t cfg.bi=GW at *;refine zae rfl rfl ?_;simp [-getElem?_pos,zs9,zta,e1,e2,e3];refine zan (fun n st => ∃ (i o1 o2:Nat) (s:Sta),i+n=N/\zgg t cfg i=some s/\st.V 2 = .ptr 0 none 0 0 0/\st.V 3 = .ptr 1 none 0 0 0/\st.V 4 = .ptr 2 none 0 0 0/\st.V 6 = .ptr 5 none 0 0 0/\st.V 8 = .ptr 8 none 0 0 0/\st.V 9=iv i/\st.ep=0/\2<o1/\o1<st.nx/\2<o2/\o2<st.nx/\¬ o1=o2/\¬ o1=5/\¬ o2=5/\¬ o1=6/\¬ o2=6/\¬ o1=7/\¬ o2=7/\¬ o1=8/\¬ o2=8/\8<st.nx/\st.S 0=some (.box [.sl 1 (za2 t.ns),.v (.string t.nm),.sl 1 (rws p t.rw),.sl 1 (zab t.lb)])/\st.S 1=some (.box [iv cfg.ro,iv cfg.de,iv cfg.bi,iv cfg.la,iv cfg.rw,iv cfg.nu,iv cfg.dn,.sl 1 (zab cfg.sg)])/\st.S 2=some (.box [.e0,.e0])/\st.S 5=some (.box [.ref o1 none 0 0 s.sm.length,.ref o2 none 0 0 s.ts.length])/\st.S 6=some (.row 1 (rws true GC))/\st.S 7=some (.row 1 (rws true GW))/\st.S 8=some (.box [.ref 6 none 0 0 GC.length,.ref 7 none 0 0 GW.length])/\st.S o1=some (.row 1 (zab s.sm))/\st.S o2=some (.row 1 (trs true s.ts))) ?_ N _ ⟨0,3,4,s0,by omega,hb0,?_⟩
 ·rintro n st ⟨i,o1,o2,s,hi,hbs,v2,v3,v4,v6,v8,v9,hep,ho1,ho1x,ho2,ho2x,ho12,h15,h25,h16,h26,h17,h27,h18,h28,hnx8,hS0,hS1,hS2,hS5,hS6,hS7,hS8,hSa,hSb⟩;have nz : ¬ st.nx=0/\¬ st.nx=1/\¬ st.nx=4/\¬ st.nx=5/\¬ st.nx=6/\¬ st.nx=7:=by omega
  have z0:=fr (show 0<st.nx by omega);have z1:=fr (show 1<st.nx by omega);have z2:=fr (show 2<st.nx by omega);have z5:=fr (show 5<st.nx by omega);have z6:=fr (show 6<st.nx by omega);have z7:=fr (show 7<st.nx by omega);have z8:=fr hnx8;have y1:=fr ho1x;have y2:=fr ho2x;have h21 : ¬ o2=o1:=fun e=>ho12 e.symm
  by_cases h:i<N
  ·obtain ⟨s',hs',HB⟩:=hst i (by omega);rw [hbs] at hs';cases hs';obtain ⟨k1,k2⟩:=hnx i (by omega) s HB;have rr:=rn s (HB.lens ht1 (by omega)) (HB.st.inI ht1 (by omega));rw [k1] at rr;have hb':zgg t cfg (i+1)=some (rnd t cfg s).1:=by rw [zgg,hbs]; simp only [Option.bind_some,k1,if_true]
   generalize (rnd t cfg s).1=s2 at *;simp only [stS] at rr;have hw:=wS h (by omega:N<=9223372036854775807);have hlt:(i:Int)<cfg.ro:=by omega
   simp [-getElem?_pos,z93,v2,v3,v4,v6,v8,v9,hep,hS0,hS1,hS2,hS5,hS6,hS7,hS8,hSa,hSb,hlt,rr,hw,z0,z1,z2,z5,z6,z7,z8,y1,y2,ho12,h21];exact zai (n-1) (by omega) ⟨i+1,st.nx,st.nx+1,s2,by omega,hb',by simp [v2],by simp [v3],by simp [v4],by simp [v6],by simp [v8],by simp,by simp [hep],by omega,by simp; try omega,by omega,by simp; try omega,by omega,by omega,by omega,by omega,by omega,by omega,by omega,by omega,by omega,by simp; omega,by simp [z0,hS0,nz,z1,hS1,z2,hS2,z5,z6,hS6,z7,hS7,z8,hS8]⟩
  ·have hiN:i=N:=by omega
   subst hiN;rw [hbs] at hsN;cases hsN;have hge : ¬ ((i:Int)<cfg.ro):=by omega
   simp [-getElem?_pos,z93,v2,v3,v4,v6,v8,v9,hep,hS0,hS1,hS2,hS5,hS6,hS7,hS8,hSa,hSb,hge,show ¬ o1=2 by omega,show ¬ o2=2 by omega,z0,z1,z2,z5,z6,z7,z8,y1,y2,ho12,h21]
 ·simp
theorem qax (s:Sta) (k:Int) (h0:0<=k) (hk:k<=1048576) (hs:zk5 1048576 s) (hr:zbw s.ts<=1048608):RUN T zp2 [stO s,iv k]=some ([iv (k+s.sm.length+5*zbw s.ts)],[.own 1 (zab (upto k s.sm.length)),.own 1 (trs true ((List.range s.ts.length).map (zha (k+s.sm.length) s.ts)))]):=by
 have hm1:=hs.sm;have hm2:=hs.ts;have h1:=z7p s.sm k h0 (by omega);have h2:=y8l s.ts (k+s.sm.length) (by omega) (by omega) (by omega);generalize hM:(List.range s.ts.length).map (zha (k+s.sm.length) s.ts)=M at *;have hMl:M.length=s.ts.length:=by rw [<- hM]; simp
 generalize hu:upto k s.sm.length=u at *;have hul:u.length=s.sm.length:=by rw [<- hu]; simp [upto]
 refine zae rfl rfl ?_;simp [-getElem?_pos,zzg,zs6,h1,h2,stO,hul,hMl]
theorem qay (s:Sta) (k:Int) (h0:0<=k) (hk:k<=1048576) (hs:zk5 1048576 s) (hr:zbw s.ts<=1048608):RUN T zmv [.agg [.sl 1 (zab (upto k s.sm.length)),.sl 1 (trs true ((List.range s.ts.length).map (zha (k+s.sm.length) s.ts)))],iv k]=some ([iv (k+s.sm.length+5*zbw s.ts)],[]):=by
 have hm1:=hs.sm;have hm2:=hs.ts;have h1:=y7c k s.sm.length (by omega) (by omega);have h2:=qaa s.ts (k+s.sm.length) (by omega) (by omega) (by omega);generalize (List.range s.ts.length).map (zha (k+s.sm.length) s.ts)=M at *;generalize upto k s.sm.length=u at *;have n1 : ¬ k+(s.sm.length:Int)<0:=by omega
 have n2 : ¬ k+(s.sm.length:Int)+5*zbw s.ts<0:=by omega
 refine zae rfl rfl ?_;simp [-getElem?_pos,zzi,zs6,h1,h2,n1,n2]
def stC (s:Sta):List PV:=[.own 1 (zab s.sm),.own 1 (trs true s.ts)]
def ze5 (t:Ta) (cfg:Cfg) (n:Nat):List Sta:=(List.range (n+1)).map fun k=>(zgg t cfg k).getD noS
theorem yct {t:Ta} {cfg:Cfg} {n:Nat}:(ze5 t cfg n).length=n+1:=by simp [ze5]
theorem qcw {t:Ta} {cfg:Cfg} {n:Nat} {s:Sta} (h:zgg t cfg (n+1)=some s):ze5 t cfg n++[s]=ze5 t cfg (n+1):=by
 unfold ze5;rw [List.range_succ (n:=n+1),List.map_append,List.map_singleton,h];rfl
def zhj (t:Ta) (cfg:Cfg):List Sta×Bool:=if (zbi t && zbk cfg)=true then (ze5 t cfg cfg.ro.toNat,true) else ([],false)
theorem qaz (p:Bool) (t:Ta) (cfg:Cfg) (ht:TaL 1048576 t) (hti : ∀ y∈t.lb,inI y) (hg:cfg.sg.length<=1048576):RUN T zp3 [taS p t,cfS cfg]=some ([.own 2 ((zhj t cfg).1.map stC),bv (zhj t cfg).2],[]):=by
 have e1:=qae p t ht hti;have e2:=z7q cfg (by omega);have e3:=ymu p t cfg.bi ht;have rn:=fun s=>qav p true true t (za7 t cfg.bi) (za6 t cfg.bi) cfg s ht hti;simp only [taS,stO,cfS] at *;cases ht1:zbi t with
 | false =>
  have hR:zhj t cfg=([],false):=by unfold zhj; rw [ht1]; rfl
  have hN:zc0 t=(noS,false):=by unfold zc0; rw [if_neg (by rw [ht1]; simp)]; rfl
  rw [hR];rw [hN] at e1;have hz1:zab noS.sm=[]:=rfl;have hz2:trs true noS.ts=[]:=rfl;rw [hz1,hz2] at e1;refine zae rfl rfl ?_;simp [-getElem?_pos,ztd,zte,e1]
 | true =>
 have hN:(zc0 t).2=true:=by unfold zc0; rw [if_pos ht1]
 rw [hN] at e1;cases hc:zbk cfg with
 | false =>
  have hR:zhj t cfg=([],false):=by unfold zhj; rw [ht1,hc]; rfl
  rw [hR];rw [hc] at e2;generalize (zc0 t).1=s0 at *;refine zae rfl rfl ?_;simp [-getElem?_pos,ztd,zte,e1,e2]
 | true =>
 rw [hc] at e2;obtain ⟨t1,t2,t3,t4,t5,t6⟩:=zgu ht1;obtain ⟨⟨ro1,ro8⟩,_,hbi,_⟩:=zo9 hc;obtain ⟨N,hN8⟩ : ∃ N:Nat,cfg.ro=N:=⟨cfg.ro.toNat,by omega⟩;obtain ⟨sN,hsN,_⟩:=zpc ht1 hc N (by omega);have hR:zhj t cfg=(ze5 t cfg N,true):=by unfold zhj; rw [ht1,hc,hN8]; rfl
 rw [hR];have hwi:zah cfg.bi 2 8=true:=zaw.mpr (by omega);obtain ⟨l1,l2⟩:=ydc ht1 hwi;obtain ⟨l3,l4⟩:=yry (t:=t) (b:=cfg.bi);have rn:=fun s=>rn s (by omega) (fun l hl=>Nat.le_trans (l3 l hl) (by omega)) (by omega) (fun l hl=>by rw [l4 l hl]; omega) hg;have hnx:=fun (i:Nat) (hn:i<=7) (s:Sta) => @BI.next t cfg ht1 hc i hn s
 have hrd : ∀ s,zea t (za7 t cfg.bi) (za6 t cfg.bi) cfg s=rnd t cfg s:=fun _=>rfl;simp only [hrd] at rn;have hst:=fun i=>zpc ht1 hc i;obtain ⟨s0,hs0⟩ : ∃ s0,s0=(zc0 t).1:=⟨_,rfl⟩;rw [<- hs0] at e1;have hb0:zgg t cfg 0=some s0:=by rw [hs0]; rfl
 generalize za7 t cfg.bi=GC at *;generalize za6 t cfg.bi=GW at *;refine zae rfl rfl ?_;simp [-getElem?_pos,ztd,zte,e1,e2,e3];refine zan (fun n st => ∃ (i o e o1 o2:Nat) (s:Sta),i+n=N/\zgg t cfg i=some s/\st.V 2 = .ptr 0 none 0 0 0/\st.V 3 = .ptr 1 none 0 0 0/\st.V 6 = .ptr 4 none 0 0 0/\st.V 9 = .ptr 7 none 0 0 0/\st.V 8 = .ref o none e 0 (i+1)/\st.V 31=iv cfg.ro/\st.V 32=iv i/\st.ep=0/\1<o1/\o1<st.nx/\1<o2/\o2<st.nx/\7<o/\o<st.nx/\¬ o1=o2/\¬ o1=o/\¬ o2=o/\¬ o1=4/\¬ o1=5/\¬ o1=6/\¬ o1=7/\¬ o2=4/\¬ o2=5/\¬ o2=6/\¬ o2=7/\st.S 0=some (.box [.sl 1 (za2 t.ns),.v (.string t.nm),.sl 1 (rws p t.rw),.sl 1 (zab t.lb)])/\st.S 1=some (.box [iv cfg.ro,iv cfg.de,iv cfg.bi,iv cfg.la,iv cfg.rw,iv cfg.nu,iv cfg.dn,.sl 1 (zab cfg.sg)])/\st.S 4=some (.box [.ref o1 none 0 0 s.sm.length,.ref o2 none 0 0 s.ts.length])/\st.S 5=some (.row 1 (rws true GC))/\st.S 6=some (.row 1 (rws true GW))/\st.S 7=some (.box [.ref 5 none 0 0 GC.length,.ref 6 none 0 0 GW.length])/\st.S o1=some (.shadow 1 (zab s.sm) 0)/\st.S o2=some (.shadow 1 (trs true s.ts) 0)/\st.S o=some (.row 2 ((ze5 t cfg i).map stC))) ?_ N _ ⟨0,8,0,2,3,s0,by omega,hb0,by simp,by simp,by simp,by simp,by simp,by simp,by simp,by simp,by omega,by simp,by omega,by simp,by omega,by simp,by omega,by omega,by omega,by omega,by omega,by omega,by omega,by omega,by omega,by omega,by omega,by simp [ze5,hb0,stC]⟩;rintro n st ⟨i,o,e,o1,o2,s,hi,hbs,v2,v3,v6,v9,v8,v31,v32,hep,ho1,ho1x,ho2,ho2x,ho,hox,h12,h1o,h2o,h14,h15,h16,h17,h24,h25,h26,h27,hS0,hS1,hS4,hS5,hS6,hS7,hSa,hSb,hSo⟩
 have nz : ¬ st.nx=0/\¬ st.nx=1/\¬ st.nx=2/\¬ st.nx=3/\¬ st.nx=4/\¬ st.nx=5/\¬ st.nx=6/\¬ st.nx=7:=by omega
 have z0:=fr (show 0<st.nx by omega);have z1:=fr (show 1<st.nx by omega);have z4:=fr (show 4<st.nx by omega);have z5:=fr (show 5<st.nx by omega);have z6:=fr (show 6<st.nx by omega);have z7:=fr (show 7<st.nx by omega);have y1:=fr ho1x;have y2:=fr ho2x;have yo:=fr hox;have u : ¬ o2=o1/\¬ o=o1/\¬ o=o2/\¬ 4=o/\¬ o=4/\¬ 0=o/\¬ o=0/\¬ 1=o/\¬ o=1/\¬ 5=o/\¬ 6=o/\¬ 7=o/\¬ o=5/\¬ o=6/\¬ o=7:=by omega
 have na : ∀ a b:Nat,st.nx+a+b=st.nx+(a+b):=fun a b=>Nat.add_assoc _ _ _;have hlen:((ze5 t cfg i).map stC).length=i+1:=by rw [List.length_map,yct]
 by_cases h:i<N
 ·obtain ⟨s',hs',HB⟩:=hst i (by omega);rw [hbs] at hs';cases hs';obtain ⟨k1,k2⟩:=hnx i (by omega) s HB;have rr:=rn s (HB.lens ht1 (by omega)) (HB.st.inI ht1 (by omega));rw [k1] at rr;have hb':zgg t cfg (i+1)=some (rnd t cfg s).1:=by rw [zgg,hbs]; simp only [Option.bind_some,k1,if_true]
  generalize (rnd t cfg s).1=s2 at *;have hap:(ze5 t cfg i).map stC++[[.own 1 (zab s2.sm),.own 1 (trs true s2.ts)]]=(ze5 t cfg (i+1)).map stC:=by rw [<- qcw hb',List.map_append]; rfl
  have hro:zaj 48 (i+1+1)=true:=by simp [zaj]; omega
  generalize (ze5 t cfg i).map stC=L at *;simp only [stS] at rr;have hw:=wS h (by omega:N<=9223372036854775807);have hlt:(i:Int)<cfg.ro:=by omega
  simp [-getElem?_pos,z94,v2,v3,v6,v9,v8,v31,v32,hep,hS0,hS1,hS4,hS5,hS6,hS7,hSa,hSb,hSo,hlt,rr,hw,hlen,hap,hro,na,nz,z0,z1,z4,z5,z6,z7,y1,y2,yo,u,h12,h1o,h2o,h14,h15,h16,h17,h24,h25,h26,h27];exact zai (n-1) (by omega) ⟨i+1,st.nx+4,0,st.nx,st.nx+1,s2,by omega,hb',by simp [v2],by simp [v3],by simp [v6],by simp [v9],by simp [yct],by simp [v31],by simp,by simp,by omega,by simp,by omega,by simp,by omega,by simp,by omega,by omega,by omega,by omega,by omega,by omega,by omega,by omega,by omega,by omega,by omega,by simp [z0,z1,z4,z5,z6,z7,yo,u,nz,hS0,hS1,hS4,hS5,hS6,hS7,h12]⟩
 ·have hiN:i=N:=by omega
  subst hiN;have hge : ¬ ((i:Int)<cfg.ro):=by omega
  simp [-getElem?_pos,z94,v2,v3,v6,v9,v8,v31,v32,hep,hS0,hS1,hS4,hS5,hS6,hS7,hSa,hSb,hSo,hge,hlen,nz,u,h12,h1o,h2o]
theorem qa0 (p:Bool) (t:Ta) (cfg:Cfg) (ht:TaL 1048576 t) (hti : ∀ y∈t.lb,inI y) (hg:cfg.sg.length<=1048576):RUN T zmu [taS p t,cfS cfg]=some ([stO (zc7 t cfg).1,bv (zc7 t cfg).2],[]):=by
 have e1:=qaz p t cfg ht hti hg;have hz:stO noS = .agg [.own 1 [],.own 1 []]:=rfl;cases hok:(zbi t && zbk cfg) with
 | false =>
  have hs:zhj t cfg=([],false):=by unfold zhj; rw [hok]; rfl
  have hR:zc7 t cfg=(noS,false):=by unfold zc7; rw [hok]; rfl
  rw [hR,hz];rw [hs] at e1;simp only [taS,stO,cfS] at *;refine zae rfl rfl ?_;simp [-getElem?_pos,zvc,zvd,e1]
 | true =>
 have hb:=hok;simp only [Bool.and_eq_true] at hb;obtain ⟨ht1,hc⟩:=hb;obtain ⟨⟨ro1,ro8⟩,_⟩:=zo9 hc;obtain ⟨N,hN8⟩ : ∃ N:Nat,cfg.ro=N:=⟨cfg.ro.toNat,by omega⟩;obtain ⟨sN,hsN,_⟩:=zpc ht1 hc N (by omega);have hs:zhj t cfg=(ze5 t cfg N,true):=by unfold zhj; rw [hok,hN8]; rfl
 have hR:zc7 t cfg=(sN,true):=by unfold zc7; rw [hok,hN8]; simp [hsN]
 rw [hR];rw [hs] at e1;have hl:((ze5 t cfg N).map stC).length=N+1:=by rw [List.length_map,yct]
 have hg:((ze5 t cfg N).map stC)[N]?=some [.own 1 (zab sN.sm),.own 1 (trs true sN.ts)]:=by
  unfold ze5;rw [List.getElem?_map,List.getElem?_map,List.getElem?_range (by omega)];simp [hsN,stC]
 simp only [taS,stO,cfS] at *;generalize (ze5 t cfg N).map stC=L at *;have hw:=w64 (x:=(N:Int)) (by omega) (by omega);have hLN:N<L.length:=by omega
 have s0:zbl L N 0=some (1,zab sN.sm):=by simp [zbl,hg]
 have s1:zbl L N 1=some (1,trs true sN.ts):=by simp [zbl,hg]
 have s2:zbl (zb0 L N 0 .undef) N 1=some (1,trs true sN.ts):=by
  unfold zb0;rw [hg];unfold zbl;rw [List.getElem?_set_self hLN];rfl
 refine zae rfl rfl ?_;simp [-getElem?_pos,zvc,zvd,e1,hl,hg,hw,s0,s1,s2]
theorem yt2 : ∀ {M:List (List Nd)},(∀ x∈M,x.length<=32)->zbw M<=32*M.length
 | [],_=>by simp [zbw]
 | x::M,h=>by
  have h1:=yt2 (M:=M) (fun y hy=>h y (by simp [hy]));have h2:=h x (by simp);rw [z85];simp only [List.length_cons];omega
theorem qbr (t:Ta) (c:Cfg):(zc7 t c).1.sm.length<=40/\(zc7 t c).1.ts.length<=8/\∀ x∈(zc7 t c).1.ts,x.length<=32:=by
 unfold zc7;split
 ·rename_i h;simp only [Bool.and_eq_true] at h;obtain ⟨⟨ro1,ro8⟩,_⟩:=zo9 h.2;obtain ⟨s,h1,h2⟩:=zpc h.1 h.2 c.ro.toNat (by omega);rw [h1];have:=zgu h.1;have:=h2.st.l;have:=h2.st.k;exact ⟨by simp only; omega,by simp only; omega,h2.tl⟩
 ·simp [noS]
theorem qgn (t:Ta) (c:Cfg) (ht:TaL 9223372036854775807 t) (hi : ∀ x∈t.lb,inI x) (hc:c.sg.length<=9223372036854775807):RUN T zvb [taS false t,zcj c]=some ([bv true],[]):=by
 have s1:=y8m false t 1048576 (by omega) (by omega) ht;have s2:=fun h0 h1=>y7q c (1048576-zk3 t) h0 h1 hc;have htt:zk3 t=ze0 t.ns+t.nm.size+tot t.rw+t.lb.length:=rfl;have htr:tot t.rw=t.rw.length+lens t.rw:=rfl
 by_cases d1:(1048576:Int)-zk3 t<0
 ·rw [if_pos d1] at s1;simp only [taS,zcj] at *;refine zae rfl rfl ?_;simp [zs5,zs6,s1]
 rw [if_neg d1] at s1;have s2:=s2 (by omega) (by omega)
 by_cases d2:(1048576:Int)-zk3 t-c.sg.length<0
 ·rw [if_pos d2] at s2;simp only [taS,zcj] at *;refine zae rfl rfl ?_;simp [zs5,zs6,s1,s2,d1]
 rw [if_neg d2] at s2;have ht1:TaL 1048576 t:=TaL.of (by omega);have t1:=y8n false t ht1;have t2:=y7r c (by omega);have a1:=qaw true t c ht1 hi (by omega);have a2:=qa0 true t c ht1 hi (by omega);have q1:=y8o true true t ht;have q2:=y7s c hc;obtain ⟨u1,u2,u3⟩:=qbr t c;have hL:zk5 1048576 (zc7 t c).1:=⟨by omega,by omega,fun x hx=>Nat.le_trans (u3 x hx) (by omega)⟩;have hlt:zbw (zc7 t c).1.ts<=1048608:=by have:=yt2 u3; omega
 have q4:=y8p true true (zc7 t c).1 ⟨Nat.le_trans hL.sm (by omega),Nat.le_trans hL.ts (by omega),fun x hx=>Nat.le_trans (hL.tl x hx) (by omega)⟩;obtain ⟨t',ht1',ht2',ht3',m1⟩:=qab t 1 (by omega) (by omega) ht1 (by omega);have m2:=y9y c (1+t.ns.length+lens t.rw+t.lb.length) (by omega) (by have:=ht1.ns; have:=ht1.lb; omega);have m4:=qax (zc7 t c).1 1 (by omega) (by omega) hL hlt;have m5:=qay (zc7 t c).1 1 (by omega) (by omega) hL hlt;have n1 : ¬ (1+(t.ns.length:Int)+lens t.rw+t.lb.length+c.sg.length<0):=by omega
 have n2 : ¬ (1+((zc7 t c).1.sm.length:Int)+5*zbw (zc7 t c).1.ts<0):=by omega
 generalize zc7 t c=g at *;obtain ⟨g,gb⟩:=g;simp only at a1 a2 q4 m4 m5 n2 hL hlt;have w2:(upto 1 g.sm.length).length=g.sm.length:=by simp [upto]
 generalize upto 1 g.sm.length=B at *;have w3:((List.range g.ts.length).map (zha (1+g.sm.length) g.ts)).length=g.ts.length:=by simp
 generalize (List.range g.ts.length).map (zha (1+g.sm.length) g.ts)=C at *;have w4:(upto (1+(t.ns.length:Int)+lens t.rw+t.lb.length) c.sg.length).length=c.sg.length:=by simp [upto]
 generalize upto (1+(t.ns.length:Int)+lens t.rw+t.lb.length) c.sg.length=D at *;simp only [taS,taO,zcj,z71,cfS,stS,stO] at *;refine zae rfl rfl ?_;cases gb <;> simp [zs5,zs6,s1,s2,t1,t2,a1,a2,q1,q2,q4,m1,m2,m4,m5,d1,d2,n1,n2,ht1',ht2',ht3',w2,w3,w4]
structure SmS (k:Nat) (s:Sta):Prop where
 sm:s.sm.length<=128
 ts:s.ts.length<=k
 tl : ∀ x∈s.ts,x.length<=32
 si : ∀ x∈s.sm,inI x
theorem SmS.new {t:Ta} (ht:TaL 128 t):SmS 0 (zc0 t).1:=by
 cases h:zbi t with
 | false=>unfold zc0; rw [if_neg (by rw [h]; simp)]; exact ⟨by simp,by simp,by simp,by simp⟩
 | true =>
  have hb:=ynb h;have:=ht.lb;unfold zc0;rw [if_pos h];refine ⟨by simp; omega,by simp,by simp,fun x hx => ?_⟩;rw [(List.mem_replicate.mp hx).2];unfold inR at hb;unfold inI;omega
end Go.Pe
