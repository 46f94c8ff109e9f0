/- What each function answers by the evaluator,and the law; for each answer its own conditions stand ahead of it. -/
import Derived.Test.YtpcphbbcnmhcnaaGreatC1
import Derived.Test.YtpcphbbcnmhcnaaGreatEvB2
import Derived.IntWalk
set_option linter.all false
set_option maxHeartbeats 8000000
set_option maxRecDepth 8000
namespace Go.Pe
open Go
theorem ynu {R:Int} {g:List Int} (hR:0<=R) (hg : ∀ x∈g,inR R x) : ∀ rows:List Int,-(R*rows.length)<=(zev g rows).g/\(zev g rows).g<=R*rows.length
 | []=>by simp [zev]
 | r::rs=>by
  have ih:=ynu hR hg rs;have h1:=y8m hR hg r;have e:R*((r::rs).length:Int)=R*rs.length+R:=by
   simp only [List.length_cons]; push_cast; rw [Int.mul_add,Int.mul_one]
  rw [e];unfold inR at h1;simp only [zev,List.map_cons,List.sum_cons] at *;omega
theorem ybr {R:Int} {g:List Int} (hR:0<=R) (hg : ∀ x∈g,inR R x) (rows:List Int) (l:Int) {b:Bd} (hb:bdR R b):inR R (zed (zev g rows) l b).1:=by
 unfold zed;split
 ·rename_i hc;simp only [Bool.and_eq_true] at hc;have h1:=hc.1;unfold zia at h1;simp only [Bool.and_eq_true] at h1;have hn:=zaw.mp h1.1;have hl:=zaw.mp h1.2;refine ypy ?_ hb;unfold fdv;split
  ·exact zhm hR
  ·obtain ⟨s1,s2⟩:=ynu hR hg rows;have e:(zev g rows).n=rows.length:=rfl;rw [e];have hm:R*rows.length<=R*(rows.length+l):=Int.mul_le_mul_of_nonneg_left (by omega) hR;exact ya1 (by omega) (by omega) (by omega)
 ·exact zhm hR
theorem y87 {R:Int} {c v:List (List Int)} {g rows:List Int} {cfg:Cfg} {b:Bd} (hR:0<=R) (hg : ∀ x∈g,inR R x) (hb:bdR R b) (h:(zbg c v g cfg rows b).2=true):inR R (zbx cfg b (zbg c v g cfg rows b).1).1/\inR R (zbx cfg b (zbg c v g cfg rows b).1).2.1:=by
 obtain ⟨f,k,y,_,_,_,ha,hz⟩:=y76 h;unfold zbx;rw [<- ha,<- hz];split
 ·exact ⟨ybr hR hg _ _ hb,ybr hR hg _ _ hb⟩
 ·exact ⟨zhm hR,zhm hR⟩
theorem qek {R s l r:Int} {b:Bd} (hb:bdR R b) (hl:inR R l) (hr:inR R r):bdR R (zff s b l r).1/\bdR R (zff s b l r).2:=by
 have hh:inR R (zgb l r):=by unfold zgb inR at *; omega
 have hm:=ypy hh hb;unfold zff;generalize zfd (zgb l r) b.lo b.hi=m at *;unfold inR bdR at *;split
 ·split
  ·simp only; omega
  ·split <;> simp only <;> omega
 ·simp only; omega
theorem ybt {R:Int} {c v:List (List Int)} {g:List Int} {cfg:Cfg} (hR:0<=R) (hg : ∀ x∈g,inR R x) : ∀ (n:Nat) (q:List Pnd) (i:Nat) (out:List Nd),(∀ x∈q,bdR R x.b)->(∀ x∈out,inR R x.v)->∀ x∈zd0 c v g cfg n q i out,inR R x.v
 | 0,q,i,out,_,ho=>ho
 | n+1,q,i,out,hq,ho=>by
  cases hx:q[i]? with
  | none=>rw [yci hx]; exact ho
  | some x =>
   have hb:=hq x (bF hx);cases hgo:goes c v g cfg x with
   | false =>
    rw [ymt hx hgo];refine ybt hR hg n _ _ _ hq fun y hy => ?_;rcases List.mem_append.mp hy with hy | hy
    ·exact ho y hy
    ·simp only [List.mem_singleton] at hy;subst hy;exact ybr hR hg _ _ hb
   | true =>
    rw [yrl hx hgo];have hp:(zbg c v g cfg x.r x.b).2=true:=by
     unfold goes at hgo;simp only [Bool.and_eq_true] at hgo;exact hgo.2
    obtain ⟨s1,s2⟩:=y87 hR hg hb hp;obtain ⟨k1,k2⟩:=qek (s:=zei cfg (zbg c v g cfg x.r x.b).1.f) hb s1 s2;refine ybt hR hg n _ _ _ (fun y hy => ?_) fun y hy => ?_
    ·rcases List.mem_append.mp hy with hy | hy
     ·exact hq y hy
     ·simp only [List.mem_cons,List.not_mem_nil,or_false] at hy;rcases hy with rfl | rfl
      ·exact k1
      ·exact k2
    ·rcases List.mem_append.mp hy with hy | hy
     ·exact ho y hy
     ·simp only [List.mem_singleton] at hy;subst hy;exact zhm hR
theorem yoj {R:Int} {c v:List (List Int)} {g:List Int} {cfg:Cfg} (hR:0<=R) (hg : ∀ x∈g,inR R x) : ∀ x∈(zb3 c v g cfg).1,inR R x.v:=by
 unfold zb3;split
 ·show ∀ x∈zd0 c v g cfg 32 [zem g] 0 [],inR R x.v;refine ybt hR hg 32 _ _ _ (fun x hx => ?_) (fun x hx=>by cases hx);simp only [List.mem_singleton] at hx;subst hx;exact ⟨by show -1099511627776<=R; omega,by show -R<=1099511627776; omega⟩
 ·simp
theorem qei {R v:Int} {c:Cfg} (hR:0<=R) (h:inR R v):inR R (shr v c).1:=by
 unfold shr;split
 ·rename_i hc;simp only [Bool.and_eq_true] at hc;obtain ⟨_,_,_,_,_,hd,hn,_⟩:=zpw hc.1;obtain ⟨h1,h2⟩:=h;have a1:v*c.nu<=R*c.nu:=Int.mul_le_mul_of_nonneg_right h2 (by omega);have a2:R*c.nu<=R*c.dn:=Int.mul_le_mul_of_nonneg_left (by omega) hR;have a3 : -R*c.nu<=v*c.nu:=Int.mul_le_mul_of_nonneg_right h1 (by omega);rw [Int.neg_mul] at a3;exact ya1 (by omega) (by omega) (by omega)
 ·exact zhm hR
theorem yak {R:Int} {c:Cfg} {t:List Nd} (hR:0<=R) (h : ∀ x∈t,inR R x.v) : ∀ x∈(zf5 c t).1,inR R x.v:=by
 unfold zf5;split
 ·intro x hx;obtain ⟨y,hy,rfl⟩:=List.mem_map.mp hx;unfold zg4;split
  ·exact qei hR (h y hy)
  ·exact h y hy
 ·simp
theorem ycz {R:Int} {t:List Nd} (hR:0<=R) (h : ∀ x∈t,inR R x.v) (row:List Int):inR R (evt t row):=by
 unfold evt;split
 ·exact zhm hR
 ·cases e:t[(rto t row).toNat]? with
  | none=>exact zhm hR
  | some x=>exact h x (bF e)
def noS:Sta:=⟨[],[]⟩
def zfi (tr:List Nd):List Int->List (List Int)->Option (List Int)
 | p::ps,r::rs=>if (adi p (evt tr r)).2=true then (zfi tr ps rs).map ((adi p (evt tr r)).1 :: ·) else none
 | _,_=>some []
def zuh (t:Ta) (c v:List (List Int)) (cfg:Cfg) (s:Sta):List Nd×Bool:=if ((zdd t.lb s.sm).2 && (zb3 c v (zdd t.lb s.sm).1 cfg).2)=true then zf5 cfg (zb3 c v (zdd t.lb s.sm).1 cfg).1 else ([],false)
def zjs (t:Ta) (tr:List Nd) (s:Sta):Sta×Bool:=match zfi tr s.sm t.rw with
 | some p=>(⟨p,s.ts++[tr]⟩,true)
 | none=>(noS,false)
def zui (t:Ta) (c v:List (List Int)) (cfg:Cfg) (s:Sta):Sta×Bool:=if (zuh t c v cfg s).2=true then zjs t (zuh t c v cfg s).1 s else (noS,false)
def zd9 (t:Ta) (c v:List (List Int)) (cfg:Cfg) (s:Sta):Sta×Bool:=if zba t=true/\c=za6 t cfg.bi/\v=za5 t cfg.bi then zui t c v cfg s else (noS,false)
def rnd (t:Ta) (cfg:Cfg) (s:Sta):Sta×Bool:=zd9 t (za6 t cfg.bi) (za5 t cfg.bi) cfg s
def zgt (t:Ta) (cfg:Cfg):Nat->Option Sta
 | 0=>some (zc2 t).1
 | n+1=>(zgt t cfg n).bind fun s=>if (rnd t cfg s).2=true then some (rnd t cfg s).1 else none
def ze3 (t:Ta) (cfg:Cfg):Sta×Bool:=if (zba t && zbf cfg)=true then match zgt t cfg cfg.ro.toNat with
 | some s=>(s,true)
 | none=>(noS,false)
 else (noS,false)
theorem yrs {tr:List Nd} : ∀ {ps:List Int} {rs:List (List Int)},ps.length=rs.length->(∀ p∈ps,∀ r∈rs,(adi p (evt tr r)).2=true)->∃ q,zfi tr ps rs=some q/\q.length=ps.length/\∀ (i:Nat) (p:Int) (r:List Int),ps[i]?=some p->rs[i]?=some r->q[i]?=some (p+evt tr r)
 | [],[],_,_=>⟨[],rfl,rfl,by simp⟩
 | p::ps,r::rs,hl,h=>by
  have h1:=h p (by simp) r (by simp);obtain ⟨q,h2,h3,h4⟩:=yrs (ps:=ps) (rs:=rs) (by simpa using hl) (fun p hp r hr=>h p (by simp [hp]) r (by simp [hr]));refine ⟨(adi p (evt tr r)).1::q,by rw [zfi,if_pos h1,h2]; rfl,by simp [h3],fun i p' r' e1 e2 => ?_⟩;cases i with
  | zero =>
   simp at e1 e2;subst e1 e2;unfold adi at h1 ⊢;split at h1
   ·rename_i hc; rw [if_pos hc]; rfl
   ·cases h1
  | succ i=>simpa using h4 i p' r' (by simpa using e1) (by simpa using e2)
structure StI (t:Ta) (n:Nat) (s:Sta):Prop where
 l:s.sm.length=t.lb.length
 k:s.ts.length=n
 r : ∀ (i:Nat) (y p:Int),t.lb[i]?=some y->s.sm[i]?=some p->inR (4294967296*2 ^ n) (y-p)
theorem z67 {t:Ta} (h:zba t=true) : ∀ y∈t.lb,inR 2147483647 y:=by
 unfold zba at h;simp only [Bool.and_eq_true,List.all_eq_true] at h;intro y hy;have:=h.1.2 y hy;unfold zbi at this;exact zaw.mp this
theorem yr0 {R:Int} : ∀ {l:List Int} {a b:Int},(∀ y∈l,inR R y)->zgg a l=some b->a-R*l.length<=b/\b<=a+R*l.length
 | [],a,b,_,h=>by simp [zgg] at h; simp; omega
 | x::xs,a,b,hl,h=>by
  rw [zgg] at h;split at h
  ·rename_i hc;have h1:=yr0 (fun y hy=>hl y (by simp [hy])) h;have h2:=hl x (by simp);have e:R*((x::xs).length:Int)=R*xs.length+R:=by
    simp only [List.length_cons]; push_cast; rw [Int.mul_add,Int.mul_one]
   rw [e];have e2:(adi a x).1=a+x:=by
    unfold adi at hc ⊢;split at hc
    ·rename_i hd; rw [if_pos hd]
    ·cases hc
   rw [e2] at h1;unfold inR at h2;omega
  ·cases h
theorem ymg {t:Ta} (h:zba t=true):inR 2147483647 (zb7 t.lb).1:=by
 obtain ⟨t1,t2,t3,t4,t5,t6⟩:=zgo h;unfold zb7;cases e:zgg 0 t.lb with
 | none=>exact zhm (by omega)
 | some b =>
  have:=yr0 (z67 h) e;simp only;unfold fdv;split
  ·exact zhm (by omega)
  ·exact ya1 (by omega) (by omega) (by omega)
theorem StI.new {t:Ta} (h:zba t=true):StI t 0 (zc2 t).1:=by
 have hb:=ymg h;unfold zc2;rw [if_pos h];refine ⟨by simp,rfl,fun i y p h1 h2 => ?_⟩;simp only at h2;have hy:=z67 h y (bF h1);have hp:p=(zb7 t.lb).1:=by
  have:=bF h2;exact (List.mem_replicate.mp this).2
 subst hp;unfold inR at *;omega
theorem y9w {t:Ta} {n:Nat} {s:Sta} (H:StI t n s) (hn:n<=8):(zdd t.lb s.sm).2=true/\(zdd t.lb s.sm).1.length=t.lb.length/\∀ x∈(zdd t.lb s.sm).1,inR (4294967296*2 ^ n) x:=by
 have hp:(2:Int) ^ n<=256:=by
  have h1:=Nat.pow_le_pow_right (n:=2) (by omega) hn;have h2:(2:Int) ^ n=((2 ^ n:Nat):Int):=by push_cast; rfl
  omega
 have key : ∀ (l m:List Int),l.length=m.length->(∀ (i:Nat) (y p:Int),l[i]?=some y->m[i]?=some p->inR (4294967296*2 ^ n) (y-p))->∃ r,res l m=some r/\r.length=l.length/\∀ x∈r,inR (4294967296*2 ^ n) x:=by
  intro l
  induction l with
  | nil=>intro m hl _; exact ⟨[],z9p m,rfl,by simp⟩
  | cons y l ih =>
   intro m hl hr;cases m with
   | nil=>simp at hl
   | cons p m =>
    obtain ⟨r,h1,h2,h3⟩:=ih m (by simpa using hl) (fun i y p e1 e2=>hr (i+1) y p (by simpa using e1) (by simpa using e2));have h0:=hr 0 y p rfl rfl;have hs:sbi y p=(y-p,true):=by
     unfold sbi;rw [if_pos];unfold inR at h0;omega
    refine ⟨(y-p)::r,by rw [res,hs]; simp [h1],by simp [h2],fun x hx => ?_⟩;rcases List.mem_cons.mp hx with rfl | hx
    ·exact h0
    ·exact h3 x hx
 obtain ⟨r,h1,h2,h3⟩:=key t.lb s.sm H.l.symm H.r;unfold zdd;rw [if_pos H.l.symm,h1];exact ⟨rfl,h2,h3⟩
theorem y8g {t:Ta} {cfg:Cfg} {n:Nat} {s:Sta} (h:zba t=true) (hc:zbf cfg=true) (H:StI t n s) (hn:n<=7):(rnd t cfg s).2=true/\StI t (n+1) (rnd t cfg s).1/\∃ tr,(rnd t cfg s).1.ts=s.ts++[tr]/\(∀ x∈tr,inR 1099511627776 x.v)/\tr.length<=32/\∀ (i:Nat) (p:Int) (r:List Int),s.sm[i]?=some p->t.rw[i]?=some r->(rnd t cfg s).1.sm[i]?=some (p+evt tr r):=by
 obtain ⟨t1,t2,t3,t4,t5,t6⟩:=zgo h;obtain ⟨_,_,hb,_⟩:=zpw hc;have hbi:zai cfg.bi 2 8=true:=zaw.mpr (by omega);have hg:=qeb h hbi;have hrw:=yqf h hbi;obtain ⟨r1,r2,r3⟩:=y9w H (by omega);have hp:(2:Int) ^ n<=128:=by
  have h1:=Nat.pow_le_pow_right (n:=2) (by omega) hn;have h2:(2:Int) ^ n=((2 ^ n:Nat):Int):=by push_cast; rfl
  omega
 have hp0:(0:Int)<=2 ^ n:=Int.pow_nonneg (by omega);have hs:(2:Int) ^ (n+1)=2*2 ^ n:=by rw [Int.pow_succ]; omega
 obtain ⟨R,hR⟩ : ∃ R:Int,R=4294967296*2 ^ n:=⟨_,rfl⟩;rw [<- hR] at r3;have hR0:0<=R:=by omega
 have hR1:R<=549755813888:=by omega
 have hgr:(zb3 (za6 t cfg.bi) (za5 t cfg.bi) (zdd t.lb s.sm).1 cfg).2=true:=by
  unfold zb3;rw [if_pos];unfold zf3;rw [hg,hc,decide_eq_true (by rw [r2,hrw]; omega),List.all_eq_true.mpr fun x hx => ?_]
  ·rfl
  ·have:=r3 x hx;unfold inR at this;exact zaw.mpr (by omega)
 have hv:=yoj (c:=za6 t cfg.bi) (v:=za5 t cfg.bi) (cfg:=cfg) hR0 r3;have hk:(zb3 (za6 t cfg.bi) (za5 t cfg.bi) (zdd t.lb s.sm).1 cfg).1.all (zi9 cfg)=true:=by
  rw [List.all_eq_true];intro x hx;have:=hv x hx;unfold inR at this;unfold zi9 shr;rw [if_pos (by rw [hc]; exact zaw.mpr (by omega))];simp
 have hT:zuh t (za6 t cfg.bi) (za5 t cfg.bi) cfg s=((zb3 (za6 t cfg.bi) (za5 t cfg.bi) (zdd t.lb s.sm).1 cfg).1.map (zg4 cfg),true):=by
  unfold zuh;rw [if_pos (by rw [r1,hgr]; rfl)];unfold zf5;rw [if_pos hk]
 have htl:((zb3 (za6 t cfg.bi) (za5 t cfg.bi) (zdd t.lb s.sm).1 cfg).1.map (zg4 cfg)).length<=32:=by rw [List.length_map]; exact ych _ _ _ _
 have hv2:=yak (c:=cfg) hR0 hv;unfold zf5 at hv2;rw [if_pos hk] at hv2;simp only at hv2;generalize (zb3 (za6 t cfg.bi) (za5 t cfg.bi) (zdd t.lb s.sm).1 cfg).1.map (zg4 cfg)=tr at *;have he:=ycz hR0 hv2;have hsm : ∀ p∈s.sm,inR 551903297535 p:=by
  intro p hp';obtain ⟨i,hi⟩:=bH hp';have hlt:=(bD hi).1;have hl:=H.l;obtain ⟨y,hy⟩ : ∃ y,t.lb[i]?=some y:=⟨_,bG (by omega)⟩;have a1:=H.r i y p hy hi;have a2:=z67 h y (bF hy);rw [<- hR] at a1;unfold inR at *;omega
 have hlr:s.sm.length=t.rw.length:=by have:=H.l; omega
 obtain ⟨q,q1,q2,q3⟩:=yrs (tr:=tr) hlr (fun p hp' r hr=>by
  have a1:=hsm p hp';have a2:=he r;unfold inR at *;unfold adi;rw [if_pos (by omega)])
 have hrnd:rnd t cfg s=(⟨q,s.ts++[tr]⟩,true):=by
  unfold rnd zd9;rw [if_pos ⟨h,rfl,rfl⟩];unfold zui;rw [hT,if_pos rfl];unfold zjs;simp only [q1]
 rw [hrnd];refine ⟨rfl,⟨by rw [q2]; exact H.l,by simp [H.k],fun i y p' e1 e2 => ?_⟩,tr,rfl,fun x hx => ?_,htl,q3⟩
 ·have hlt:=(bD e1).1;have hl:=H.l;obtain ⟨p,hp'⟩ : ∃ p,s.sm[i]?=some p:=⟨_,bG (by omega)⟩;obtain ⟨r,hr⟩ : ∃ r,t.rw[i]?=some r:=⟨_,bG (by omega)⟩;have a1:=q3 i p r hp' hr;simp only at e2;rw [a1] at e2;cases e2;have a2:=H.r i y p e1 hp';have a3:=he r;rw [<- hR] at a2;rw [hs];unfold inR at *;omega
 ·have:=hv2 x hx;unfold inR at *;omega
theorem y58 (c:List Int) (v:Int) (hc:c.length<=1048576):RUN T zrc [.sl 1 (zab c),iv v]=some ([iv (zds c v)],[]):=by
 refine zae rfl rfl ?_;simp [-getElem?_pos,z1g,zy0];refine zaq (fun n st => ∃ i m:Nat,i+n=c.length/\m<=i/\m=zds (c.take i) v/\st.V 8 = .sl 1 (zab c)/\st.V 1=iv v/\st.V 5=iv m/\st.V 10=iv i/\st.V 9=iv c.length) ?_ c.length _ ⟨0,0,by omega,by omega,by simp [zds]⟩;rintro n st ⟨i,m,hi,hm,hmv,v8,v1,v5,v10,v9⟩
 by_cases h:i<c.length
 ·obtain ⟨x,hx⟩ : ∃ x,c[i]?=some x:=⟨_,bG h⟩;have hx':=zay hx;have hw:=wS h (by omega:c.length<=9223372036854775807);have hw2:=w64 (x:=(m:Int)+1) (by omega) (by omega);have hs:=ykd (c.take i) v x;rw [<- zp0 hx,<- hmv] at hs
  by_cases hl:x<v
  ·rw [if_pos hl] at hs;simp [-getElem?_pos,z1f,v8,v1,v5,v10,v9,h,hx',hw,hw2,hl];exact zaj (n-1) (by omega) ⟨i+1,m+1,by omega,by omega,hs.symm,by simp [v8,v1,v9]⟩
  ·rw [if_neg hl] at hs;simp [-getElem?_pos,z1f,v8,v1,v5,v10,v9,h,hx',hw,hl];exact zaj (n-1) (by omega) ⟨i+1,m,by omega,by omega,hs.symm,by simp [v8,v1,v5,v9]⟩
 ·rw [List.take_of_length_le (by omega)] at hmv;rw [<- hmv];simp [-getElem?_pos,z1f,v8,v5,v10,v9,h]
theorem y59 (l:List Int) (b:Int) (hl:l.length<=1048576):RUN T zrb [.sl 1 (zab l),iv b]=some ([.own 1 (zab (zbu l b))],[]):=by
 have e1:=y53 l hl;have hsl:=z6j l;have hss:=z8b l;have hr0:zag 8 0=true:=by decide
 have hr1:zag 8 1=true:=by decide
 have g1:=zcv b 2 8;have g2:=zcv l.length 1 40;cases c1:zai b 2 8 with
 | false =>
  have hv:zbu l b=[]:=by unfold zbu; rw [c1]; rfl
  rw [hv];rw [c1] at g1;refine zae rfl rfl ?_;simp [-getElem?_pos,-zbm,zti,z0z,g1,hr0]
 | true =>
 cases c2:zai l.length 1 40 with
 | false =>
  have hv:zbu l b=[]:=by unfold zbu; rw [c1,c2]; rfl
  rw [hv];rw [c1] at g1;rw [c2] at g2;refine zae rfl rfl ?_;simp [-getElem?_pos,-zbm,zti,z0z,g1,g2,hr0]
 | true =>
 have hv:zbu l b=Lib.compact (zd8 (zd6 l) b.toNat (b.toNat-1)):=by unfold zbu; rw [c1,c2]; rfl
 rw [hv];rw [c1] at g1;rw [c2] at g2;have hb:=zaw.mp c1;have h12:=zaw.mp c2;have h1:1<=l.length:=by omega
 have h2:l.length<=40:=by omega
 clear c1 c2 h12 hv;generalize zd6 l=a at *;obtain ⟨bn,rfl⟩ : ∃ n:Nat,b=n:=⟨b.toNat,by omega⟩;rw [Int.toNat_natCast];refine zae rfl rfl ?_;simp [-getElem?_pos,-zbm,zti,z0z,g1,g2,hr0,e1];refine zaq (fun n st => ∃ (i o e:Nat) (m:List Int),1<=i/\i+n=bn/\m.length<i/\m=zd8 a bn (i-1)/\st.V 1=iv bn/\st.V 0 = .sl 1 (zab l)/\st.V 6 = .ref 1 none 0 0 a.length/\st.V 5 = .ref o none e 0 m.length/\st.V 7=iv i/\¬ o=1/\o<st.nx/\1<st.nx/\st.S o=some (.row 1 (zab m))/\st.S 1=some (.row 1 (zab a))) ?_ (bn-1) _ ⟨1,0,0,[],by omega,by omega,by simp,rfl,by simp,by simp,by simp,by simp,by simp,by omega,by simp [zab]⟩;rintro n st ⟨i,o,e,m,hi1,hi,hm,hmp,v1,v0,v6,v5,v7,ho,hox,h1x,hSo,hS1⟩;obtain ⟨x1,x2,x3,x4⟩:=fr hox;have g1:(o=1)=False:=eq_false ho;have g2:(1=o)=False:=eq_false (fun e=>ho e.symm);obtain ⟨z1,z2,z3,z4⟩:=fr h1x
 by_cases h:i<bn
 ·have hw:=wS h (by omega:bn<=9223372036854775807);have hb0 : ¬ bn=0:=by omega
  have hq:(l.length:Int)*i<=40*8:=Int.mul_le_mul (by omega) (by omega) (by omega) (by omega);have hq0:0<=(l.length:Int)*i:=Int.mul_nonneg (by omega) (by omega);have w1:=w64 (x:=(l.length:Int)*i) (by omega) (by omega);obtain ⟨k,hkk⟩ : ∃ k:Nat,k=l.length*i / bn:=⟨_,rfl⟩;have hk:((l.length:Int)*i).tdiv bn=k:=by
   rw [Int.tdiv_eq_ediv_of_nonneg hq0,hkk]
   push_cast
   rfl
  have hcs:zd8 a bn i=m++zjk a bn i:=by
   obtain ⟨j,rfl⟩ : ∃ j,i=j+1:=⟨i-1,by omega⟩;rw [hmp]; rfl
  unfold zjk zhl at hcs;rw [hsl,<- hkk] at hcs;have hkl:k<=l.length:=by
   have h3:((l.length:Int)*i).tdiv bn<=l.length:=by
    rw [Int.tdiv_eq_ediv_of_nonneg hq0];refine Int.ediv_le_of_le_mul (by omega) ?_;exact Int.mul_le_mul_of_nonneg_left (by omega) (by omega)
   omega
  have w2:=w64 (x:=(k:Int)) (by omega) (by omega)
  by_cases hk1:1<=k
  ·obtain ⟨x,hx⟩ : ∃ x,a[k-1]?=some x:=⟨_,bG (by omega)⟩;obtain ⟨y,hy⟩ : ∃ x,a[a.length-1]?=some x:=⟨_,bG (by omega)⟩;have hx':=zay hx;have hy':=zay hy;rw [hsl] at hy';have w3:IntKind.i64.wrap ((k:Int)-1)=((k-1:Nat):Int):=by rw [w64 (by omega) (by omega)]; omega
   have w4:IntKind.i64.wrap ((l.length:Int)-1)=((l.length-1:Nat):Int):=by rw [w64 (by omega) (by omega)]; omega
   have c1:k-1<l.length:=by omega
   have c2:l.length-1<l.length:=by omega
   have hk1':(1:Int)<=k:=by omega
   have hr8:=zcg (n:=m.length+1) (by omega);have hsn:=zb1 m x;have gx:a.getD (k-1) 0=x:=by rw [List.getD_eq_getElem?_getD,hx]; rfl
   have gy:a.getD (l.length-1) 0=y:=by rw [<- hsl,List.getD_eq_getElem?_getD,hy]; rfl
   rw [gx,gy] at hcs;have hle:=zo5 hss (by omega:k-1<=a.length-1) hx hy
   by_cases hxy:x=y
   ·have hxy2 : ¬ ¬ x=y:=fun h=>h hxy;rw [if_neg (fun h=>h.2 hxy),List.append_nil] at hcs;subst hxy;simp [-getElem?_pos,zv2,v1,v0,v6,v5,v7,hSo,hS1,h,hw,hb0,w1,w2,w3,w4,hk,hk1,hk1',hx',hy',hsl,c1,c2,hxy2,g1,g2,x1,x2,x3,x4,z1,z2,z3,z4];exact zaj (n-1) (by omega) ⟨i+1,o,e,m,by omega,by omega,by omega,hcs.symm,by simp [v1],by simp [v0],by simp [v6,hsl],by simp [v5],by simp,ho,by simp [hox,h1x,hSo,hS1]⟩
   ·rw [if_pos ⟨hk1,hxy⟩] at hcs;simp [-getElem?_pos,zv2,v1,v0,v6,v5,v7,hSo,hS1,h,hw,hb0,w1,w2,w3,w4,hk,hk1,hk1',hx',hy',hsl,c1,c2,hxy,hr1,hr8,hsn,g1,g2,x1,x2,x3,x4,z1,z2,z3,z4];exact zaj (n-1) (by omega) ⟨i+1,st.nx+1,st.ep,m++[x],by omega,by omega,by simp; omega,hcs.symm,by simp [v1],by simp [v0],by simp [v6,hsl],by simp,by simp,by simp; omega,by simp,by first | (simp; done) | (simp; omega),by first | (simp; done) | (simp; omega),by simp [g1,g2,x1,x2,x3,x4,z1,z2,z3,z4,hS1,show ¬ st.nx=0 by omega]⟩
  ·have hk0:k=0:=by omega
   rw [if_neg (by omega),List.append_nil] at hcs;rw [hk0] at hk w2;clear hkk hkl;subst hk0;simp [-getElem?_pos,zv2,v1,v0,v6,v5,v7,hSo,hS1,h,hw,hb0,w1,w2,hk];exact zaj (n-1) (by omega) ⟨i+1,o,e,m,by omega,by omega,by omega,hcs.symm,by simp [v1],by simp [v0],by simp [v6],by simp [v5],by simp,ho,by simp [hox,h1x,hSo,hS1]⟩
 ·have hib:i=bn:=by omega
  have hm2:m=zd8 a bn (bn-1):=by rw [hmp,hib]
  have h3:=y52 m (by omega);rw [<- hm2];generalize Lib.compact m=z at *;simp [-getElem?_pos,zv2,v1,v5,v7,hSo,h,h3]
theorem y6a (q:Bool) (t:Ta) (f:Nat) (ht:TaL 1048576 t) (hf:f<t.ns.length) (h40:t.rw.length<=40) (hr : ∀ r∈t.rw,r.length=t.ns.length):RUN T zra [taS q t,iv f]=some ([.own 1 (zab (zbl t f))],[]):=by
 have hr0:zag 8 0=true:=by decide
 have hr1:zag 8 1=true:=by decide
 have hns:=ht.ns;have g1:=zcv f 0 ((t.ns.length:Int)-1);rw [zaw.mpr (by omega)] at g1;have w1:=w64 (x:=(t.ns.length:Int)-1) (by omega) (by omega);refine zae rfl rfl ?_;simp [-getElem?_pos,-zbm,z1d,z0z,hr0,g1,w1];refine zaq (fun n st => ∃ (i o e:Nat) (m:List Int),i+n=t.rw.length/\m=(t.rw.take i).map (fun r=>r.getD f 0)/\m.length=i/\st.V 1=iv f/\st.V 19 = .sl 1 (rws q t.rw)/\st.V 20=iv t.rw.length/\st.V 5 = .ref o none e 0 m.length/\st.V 21=iv i/\0<o/\o<st.nx/\st.S o=some (.row 1 (zab m))) ?_ t.rw.length _ ⟨0,1,0,[],by omega,rfl,rfl,by simp [zab]⟩;rintro n st ⟨i,o,e,m,hi,hmv,hm,v1,v19,v20,v5,v21,ho,hox,hSo⟩;obtain ⟨x1,x2,x3,x4⟩:=fr hox
 by_cases h:i<t.rw.length
 ·obtain ⟨r,hx⟩ : ∃ x,t.rw[i]?=some x:=⟨_,bG h⟩;have hx':=zc8 (q:=q) hx;have hrl:=hr r (bF hx);obtain ⟨y,hy⟩ : ∃ x,r[f]?=some x:=⟨_,bG (by omega)⟩;have hy':=zay hy;have hfr:f<r.length:=by omega
  have hw:=wS h (by omega:t.rw.length<=9223372036854775807);have hr8:=zcg (n:=m.length+1) (by omega);have hsn:=zb1 m y;have hmn:m++[y]=(t.rw.take (i+1)).map (fun r=>r.getD f 0):=by
   rw [zp0 hx,List.map_append,<- hmv,List.map_singleton,List.getD_eq_getElem?_getD,hy]; rfl
  simp [-getElem?_pos,z8p,v1,v19,v20,v5,v21,hSo,h,hx',hy',hfr,hw,hr1,hr8,hsn,x1,x2,x3,x4];exact zaj (n-1) (by omega) ⟨i+1,st.nx+1,st.ep,m++[y],by omega,hmn,by simp [hm],by simp [v1],by simp [v19],by simp [v20],by simp,by simp,by omega,by simp⟩
 ·rw [List.take_of_length_le (by omega)] at hmv;have hcv:zbl t f=m:=hmv.symm;rw [hcv];simp [-getElem?_pos,z8p,v1,v20,v5,v21,hSo,h]
open Classical in
theorem y6b (l m:List Int) (hl:l.length<=9223372036854775807):RUN T zll [.sl 1 (zab l),.sl 1 (zab m)]=some ([bv (decide (l=m))],[]):=by
 have h:=y37 l m hl;refine zae rfl rfl ?_;simp [-getElem?_pos,z2x,zy0,h]
open Classical in
theorem y6c (p q:Bool) (L M:List (List Int)) (hl:L.length<=9223372036854775807) (hll : ∀ l∈L,l.length<=9223372036854775807):RUN T zrx [.sl 1 (rws p L),.sl 1 (rws q M),.fn zll []]=some ([bv (decide (L=M))],[]):=by
 refine zae rfl rfl ?_;rcases Classical.propComplete ((L.length:Int)=M.length) with hlm | hlm
 case inr =>
  simp [-getElem?_pos,zwg,zy4,hlm,z6p hlm]
 simp [-getElem?_pos,zwg,zy4,hlm];have hlen:L.length=M.length:=by simp at hlm; omega
 refine zaq (fun n st => ∃ i:Nat,i+n=L.length/\(∀ j,j<i->L[j]?=M[j]?)/\st.V 1 = .sl 1 (rws q M)/\st.V 2 = .fn zll []/\st.V 15 = .sl 1 (rws p L)/\st.V 16=iv L.length/\st.V 17=iv i) ?_ L.length _ ⟨0,by simp [hlen]⟩;rintro n st ⟨i,hi,hj,v1,v2,v15,v16,v17⟩;simp [ydm,v16,v17];refine za9 (fun h => ?_) (fun h => ?_)
 ·simp at h;obtain ⟨x,hx⟩ : ∃ x,L[i]?=some x:=⟨_,bG h⟩;obtain ⟨y,hy⟩ : ∃ y,M[i]?=some y:=⟨_,bG (by omega)⟩;have hx':=zc8 (q:=p) hx;have hy':=zc8 (q:=q) hy;have hw:=wS h hl;have him:i<M.length:=by omega
  have hs:=y6b x y (hll x (bF hx));have z:=fr (by omega:st.nx<st.nx+1)
  by_cases e:x=y
  ·rw [decide_eq_true e] at hs;simp [-getElem?_pos,v1,v2,v15,v16,v17,hx',hy',h,him,hw,hs,z];exact zaj (n-1) (by omega) ⟨i+1,by omega,zh8 hj (by rw [hx,hy,e]),by simp [v1,v2,v15,v16]⟩
  ·rw [decide_eq_false e] at hs;simp [-getElem?_pos,v1,v2,v15,v16,v17,hx',hy',h,him,hw,hs,z,z71 hx hy e]
 ·simp at h;simp [z6q hlen h hj]
open Classical in
theorem yj7 (p q:Bool) (L M:List (List Int)) (hl:L.length<=9223372036854775807) (hll : ∀ l∈L,l.length<=9223372036854775807):RUN T zm6 [.sl 1 (rws p L),.sl 1 (rws q M)]=some ([bv (decide (L=M))],[]):=by
 have h:=y6c p q L M hl hll;refine zae rfl rfl ?_;simp [-getElem?_pos,z1b,zy0,h]
open Classical in
theorem y6d (p q:Bool) (c v c' v':List (List Int)) (hc:c.length<=9223372036854775807) (hcl : ∀ l∈c,l.length<=9223372036854775807) (hv:v.length<=9223372036854775807) (hvl : ∀ l∈v,l.length<=9223372036854775807):RUN T zqq [.agg [.sl 1 (rws p c),.sl 1 (rws p v)],.agg [.sl 1 (rws q c'),.sl 1 (rws q v')]]=some ([bv (decide (c=c') && decide (v=v'))],[]):=by
 have h1:=yj7 p q c c' hc hcl;have h2:=yj7 p q v v' hv hvl;generalize decide (c=c')=b1 at *;generalize decide (v=v')=b2 at *;refine zae rfl rfl ?_;cases b1 <;> simp [-getElem?_pos,zz2,zy0,h1,h2]
open Classical in
theorem yj8 (p q:Bool) (L M:List (List Int)) (hl:L.length<=9223372036854775807) (hll : ∀ l∈L,l.length<=9223372036854775807):RUN T zna [.sl 1 (rws p L),.sl 1 (rws q M)]=some ([bv (decide (L=M))],[]):=by
 refine zae rfl rfl ?_;rcases Classical.propComplete ((L.length:Int)=M.length) with hlm | hlm
 case inr =>
  simp [-getElem?_pos,zwa,zy0,hlm,z6p hlm]
 simp [-getElem?_pos,zwa,zy0,hlm];have hlen:L.length=M.length:=by simp at hlm; omega
 refine zaq (fun n st => ∃ i:Nat,i+n=L.length/\(∀ j,j<i->L[j]?=M[j]?)/\st.V 0 = .sl 1 (rws p L)/\st.V 1 = .sl 1 (rws q M)/\st.V 5=iv i) ?_ L.length _ ⟨0,by simp [hlen]⟩;rintro n st ⟨i,hi,hj,v0,v1,v5⟩;simp [ydg,v0,v5];refine za9 (fun h => ?_) (fun h => ?_)
 ·simp at h;obtain ⟨x,hx⟩ : ∃ x,L[i]?=some x:=⟨_,bG h⟩;obtain ⟨y,hy⟩ : ∃ y,M[i]?=some y:=⟨_,bG (by omega)⟩;have hx':=zc8 (q:=p) hx;have hy':=zc8 (q:=q) hy;have hw:=wS h hl;have him:i<M.length:=by omega
  have hs:=y36 x y (hll x (bF hx))
  by_cases e:x=y
  ·rw [decide_eq_true e] at hs;simp [-getElem?_pos,v0,v1,v5,hx',hy',h,him,hw,hs];exact zaj (n-1) (by omega) ⟨i+1,by omega,zh8 hj (by rw [hx,hy,e]),by simp [v0,v1]⟩
  ·rw [decide_eq_false e] at hs;simp [-getElem?_pos,v0,v1,v5,hx',hy',h,him,hw,hs,z71 hx hy e]
 ·simp at h;simp [z6q hlen h hj]
open Classical in
theorem y6e (p q:Bool) (c v c' v':List (List Int)) (hc:c.length<=9223372036854775807) (hcl : ∀ l∈c,l.length<=9223372036854775807) (hv:v.length<=9223372036854775807) (hvl : ∀ l∈v,l.length<=9223372036854775807):RUN T zqu [.agg [.sl 1 (rws p c),.sl 1 (rws p v)],.agg [.sl 1 (rws q c'),.sl 1 (rws q v')]]=some ([bv (decide (c=c') && decide (v=v'))],[]):=by
 have h1:=yj8 p q c c' hc hcl;have h2:=yj8 p q v v' hv hvl;generalize decide (c=c')=b1 at *;generalize decide (v=v')=b2 at *;refine zae rfl rfl ?_;cases b1 <;> simp [-getElem?_pos,zz8,zy0,h1,h2]
theorem qcb (cuts col:List Int) (hcu:cuts.length<=8) (hco:col.length<=40) {st:St} {q1 e1 q2 e2 q3 e3:Nat} {Q:Ex->St->Prop} (v35:st.V 35 = .ref q1 none e1 0 col.length) (v36:st.V 36=iv col.length) (v37:st.V 37=iv (0:Nat)) (v9:st.V 9 = .ref q2 none e2 0 cuts.length) (v8:st.V 8 = .ref q3 none e3 0 0) (h13:q1≠q3) (h23:q2≠q3) (h1:q1<st.nx) (h2:q2<st.nx) (h3:q3<st.nx) (hS1:st.S q1=some (.row 1 (zab col))) (hS2:st.S q2=some (.row 1 (zab cuts))) (hS3:st.S q3=some (.row 1 []))
  (hQ : ∀ (s':St) (q' e':Nat) (bins:List Int),bins=col.map (fun v=>(zds cuts v:Int))->(∀ k,k≠8->k≠11->k≠37->s'.V k=st.V k)->s'.V 8 = .ref q' none e' 0 bins.length->(q'=q3\/st.nx<=q')->q'<s'.nx->st.nx<=s'.nx->s'.S q'=some (.row 1 (zab bins))->(∀ k,k<st.nx->k≠q3->s'.S k=st.S k)->Q (.exit 2) s') :
  W (zad T) (RUN T) (.loop zz4) st Q:=by
 refine zaq (fun m s' => ∃ (i q' e':Nat) (bins:List Int),i+m=col.length/\bins.length=i/\bins=(col.take i).map (fun v=>(zds cuts v:Int))/\(∀ k,k≠8->k≠11->k≠37->s'.V k=st.V k)/\s'.V 8 = .ref q' none e' 0 bins.length/\s'.V 37=iv i/\(q'=q3\/st.nx<=q')/\q'<s'.nx/\st.nx<=s'.nx/\s'.S q'=some (.row 1 (zab bins))/\(∀ k,k<st.nx->k≠q3->s'.S k=st.S k)) ?_ col.length _ ⟨0,q3,e3,[],by omega,rfl,rfl,fun _ _ _ _=>rfl,by simpa using v8,by simpa using v37,.inl rfl,h3,Nat.le_refl _,by simpa [zab] using hS3,fun _ _ _=>rfl⟩;rintro m s' ⟨i,q',e',bins,hi,hb,hbb,hV,v8',v37',hq,hqx,hnx,hSq,hfr⟩;have v35':s'.V 35 = .ref q1 none e1 0 col.length:=by rw [hV 35 (by decide) (by decide) (by decide)]; exact v35
 have v36':s'.V 36=iv col.length:=by rw [hV 36 (by decide) (by decide) (by decide)]; exact v36
 have v9':s'.V 9 = .ref q2 none e2 0 cuts.length:=by rw [hV 9 (by decide) (by decide) (by decide)]; exact v9
 have hS1':s'.S q1=some (.row 1 (zab col)):=by rw [hfr q1 h1 h13]; exact hS1
 have hS2':s'.S q2=some (.row 1 (zab cuts)):=by rw [hfr q2 h2 h23]; exact hS2
 by_cases h:i<col.length
 ·obtain ⟨x,hx⟩ : ∃ x,col[i]?=some x:=⟨_,bG h⟩;have hx':=zay hx;have hw:=wS h (by omega:col.length<=9223372036854775807);have hr1:zag 8 1=true:=by decide
  have hr8:=zcg (n:=bins.length+1) (by omega);have h4:=y58 cuts x (by omega);have hbn:bins++[(zds cuts x:Int)]=(col.take (i+1)).map (fun v=>(zds cuts v:Int)):=by rw [zp0 hx,List.map_append,<- hbb]; rfl
  generalize zds cuts x=y at *;have hsn:=zb1 bins (y:Int);have a1:=fr hqx;have a2:(q1=q')=False/\(q'=q1)=False/\(q2=q')=False/\(q'=q2)=False:=⟨eq_false (by omega),eq_false (by omega),eq_false (by omega),eq_false (by omega)⟩;have a4:=fr (show q1<s'.nx by omega);have a5:=fr (show q2<s'.nx by omega);simp [-getElem?_pos,zz4,v35',v36',v37',v9',v8',hS1',hS2',hSq,h,hx',h4,hw,hr1,hr8,hsn,a1,a2,a4,a5];refine zaj (m-1) (by omega) ⟨i+1,s'.nx+1,s'.ep,bins++[(y:Int)],by omega,by simp [hb],hbn,fun k k1 k2 k3 => ?_,by simp,by simp,.inr (by omega),by simp,by simp; omega,by simp,fun k k1 k2 => ?_⟩
  ·simp [k1,k2,k3]; exact hV k k1 k2 k3
  ·have b1:(k=s'.nx)=False:=eq_false (by omega);have b2:(k=s'.nx+1)=False:=eq_false (by omega);have b3:(k=q')=False:=eq_false (by omega);simp [b1,b2,b3];exact hfr k k1 k2
 ·have hin:i=col.length:=by omega
  simp [-getElem?_pos,zz4,v36',v37',h];exact hQ _ q' e' bins (by rw [hbb,List.take_of_length_le (by omega)]) (fun k k1 k2 k3=>by simp; exact hV k k1 k2 k3) (by simp [v8']) hq (by simp [hqx]) (by simp [hnx]) (by simp [hSq]) (fun k k1 k2=>by simp; exact hfr k k1 k2)
theorem yj9 (q:Bool) (t:Ta) (b:Int) (ht:TaL 1048576 t):RUN T zmw [taS q t,iv b]=some ([.agg [.own 1 (rws true (za6 t b)),.own 1 (rws true (za5 t b))]],[]):=by
 have e1:=z9o q t ht;have g1:=zcv b 2 8;cases hok:zba t with
 | false =>
  have hC:za6 t b=[]:=by unfold za6; rw [hok]; rfl
  have hW:za5 t b=[]:=by unfold za5; rw [hok]; rfl
  rw [hC,hW];rw [hok] at e1;simp only [taS] at *;refine zae rfl rfl ?_;simp [-getElem?_pos,-zbm,ztc,zs9,e1,show rws true []=[] from rfl]
 | true =>
 cases hbi:zai b 2 8 with
 | false =>
  have hC:za6 t b=[]:=by unfold za6; rw [hbi,Bool.and_false]; rfl
  have hW:za5 t b=[]:=by unfold za5; rw [hbi,Bool.and_false]; rfl
  rw [hC,hW];rw [hok] at e1;rw [hbi] at g1;simp only [taS] at *;refine zae rfl rfl ?_;simp [-getElem?_pos,-zbm,ztc,zs9,e1,g1,show rws true []=[] from rfl]
 | true =>
 have hb:=zaw.mp hbi;rw [hok] at e1;rw [hbi] at g1;obtain ⟨t1,t2,t3,t4,t5,t6⟩:=zgo hok;have hgC:za6 t b=(List.range t.ns.length).map fun f=>zbu (zbl t f) b:=by unfold za6; rw [hok,hbi]; rfl
 have hgW:za5 t b=(List.range t.ns.length).map (zij t b):=by unfold za5; rw [hok,hbi]; rfl
 rw [hgC,hgW];have hr1:zag 24 1=true:=by decide
 have hr0:zag 8 0=true:=by decide
 have cl:=y6a q t;simp only [taS] at *;refine zae rfl rfl ?_;simp [-getElem?_pos,-zbm,ztc,zs9,e1,g1];refine zaq (fun n st => ∃ (i:Nat) (C D:List (List Int)) (x y:PV),i+n=t.ns.length/\C.length=i/\D.length=i/\C=(List.range i).map (fun f=>zbu (zbl t f) b)/\D=(List.range i).map (zij t b)/\st.V 1=iv b/\st.V 2 = .ptr 0 none 0 0 0/\st.V 4 = .ptr 1 none 0 0 0/\st.V 5 = .ptr 2 none 0 0 0/\st.V 25=iv i/\st.V 24=iv t.ns.length/\2<st.nx/\LG st.S st.nx C D x y/\st.S 0=some (.box [.sl 1 (za4 t.ns),.v (.string t.nm),.sl 1 (rws q t.rw),.sl 1 (zab t.lb)])/\st.S 1=some (.box [.e0,.e0])/\st.S 2=some (.box [x,y])) ?_ t.ns.length _ ⟨0,[],[],.e0,.e0,by omega,rfl,rfl,rfl,rfl,by simp,by simp,by simp,by simp,by simp,by simp,by simp,.inl ⟨rfl,rfl,rfl,rfl⟩,by simp⟩;rintro n st ⟨i,C,D,x,y,hi,hC,hD,hC8,hD8,v1,v2,v4,v5,v25,v24,hnx,hx,hS0,hS1,hS2⟩;have z1:=fr hnx;have z2:=fr (show 1<st.nx by omega);have z3:=fr (show 0<st.nx by omega)
 by_cases h:i<t.ns.length
 ·have hw:=wS h (by omega:t.ns.length<=9223372036854775807);have h1:=cl i ht h t4 t6;have hcol:(zbl t i).length=t.rw.length:=by simp [zbl]
  have h2:=y59 (zbl t i) b (by omega);have hcu:(zbu (zbl t i) b).length<=8:=Nat.le_trans (z8a (zbl t i) b).2.2 (by omega);have hCn:C++[zbu (zbl t i) b]=(List.range (i+1)).map (fun f=>zbu (zbl t f) b):=by rw [List.range_succ,List.map_append,<- hC8]; rfl
  have hDn:D++[(zbl t i).map fun v=>(zds (zbu (zbl t i) b) v:Int)]=(List.range (i+1)).map (zij t b):=by rw [List.range_succ,List.map_append,<- hD8]; rfl
  generalize zbu (zbl t i) b=cuts at *;generalize zbl t i=col at *;simp [-getElem?_pos,z8k,v1,v2,v4,v5,v25,v24,hS0,hS1,hS2,h,h1,h2,hr0,z1,z2,z3];refine qcb cuts col hcu (by omega) (q1:=st.nx) (q2:=st.nx+2) (q3:=st.nx+1) (by simp; rfl) (by simp) (by simp) (by simp; rfl) (by simp; rfl) (by omega) (by omega) (by first | (simp; done) | (simp; omega)) (by first | (simp; done) | (simp; omega)) (by first | (simp; done) | (simp; omega)) (by simp) (by simp) (by simp) ?_;intro s' q' e' bins hbb hV w8 hq hqx hnx' hSq hfr;simp only at hq hnx';have hbl:bins.length=col.length:=by rw [hbb]; simp
  have w1:s'.V 1=iv b:=by rw [hV 1 (by decide) (by decide) (by decide)]; simp [v1]
  have w2:s'.V 2 = .ptr 0 none 0 0 0:=by rw [hV 2 (by decide) (by decide) (by decide)]; simp [v2]
  have w4:s'.V 4 = .ptr 1 none 0 0 0:=by rw [hV 4 (by decide) (by decide) (by decide)]; simp [v4]
  have w5:s'.V 5 = .ptr 2 none 0 0 0:=by rw [hV 5 (by decide) (by decide) (by decide)]; simp [v5]
  have w25:s'.V 25=iv i:=by rw [hV 25 (by decide) (by decide) (by decide)]; simp [v25]
  have w24:s'.V 24=iv t.ns.length:=by rw [hV 24 (by decide) (by decide) (by decide)]; simp [v24]
  obtain ⟨e9,w9⟩ : ∃ e,s'.V 9 = .ref (st.nx+2) none e 0 cuts.length:=⟨_,by rw [hV 9 (by decide) (by decide) (by decide)]; simp; rfl⟩;have hT0:s'.S 0=some (.box [.sl 1 (za4 t.ns),.v (.string t.nm),.sl 1 (rws q t.rw),.sl 1 (zab t.lb)]):=by rw [hfr 0 (by first | (simp; done) | (simp; omega)) (by omega)]; simp [z1,z2,z3,hS0]
  have hT1:s'.S 1=some (.box [.e0,.e0]):=by rw [hfr 1 (by first | (simp; done) | (simp; omega)) (by omega)]; simp [z1,z2,z3,hS1]
  have hT2:s'.S 2=some (.box [x,y]):=by rw [hfr 2 (by first | (simp; done) | (simp; omega)) (by omega)]; simp [z1,z2,z3,hS2]
  have hT8:s'.S (st.nx+2)=some (.row 1 (zab cuts)):=by rw [hfr _ (by first | (simp; done) | (simp; omega)) (by omega)]; simp
  have hL:LG s'.S s'.nx C D x y:=hx.mono (by omega) (fun k k1 k2=>by
   rw [hfr k (by first | (simp; done) | (simp; omega)) (by omega)];have b1:(k=st.nx)=False:=eq_false (by omega);have b2:(k=st.nx+1)=False:=eq_false (by omega);have b3:(k=st.nx+2)=False:=eq_false (by omega);simp [b1,b2,b3])
  have hr24:zag 24 (C.length+1)=true:=by simp [zag]; omega
  have hr24':zag 24 (D.length+1)=true:=by simp [zag]; omega
  have s1:=zuo C cuts;have s2:=zuo D bins;obtain ⟨p8,hp8⟩ : ∃ p8,p8=st.nx+2:=⟨_,rfl⟩;rw [<- hp8] at w9 hT8;have hp8x:p8<s'.nx:=by first | omega | (simp at hnx'; omega)
  have hp8q : ¬ p8=q':=by first | omega | (simp at hq; omega)
  have hq2:2<q':=by first | omega | (simp at hq; omega)
  have hp82:2<p8:=by omega
  obtain ⟨P,hP⟩ : ∃ P,P=st.nx:=⟨_,rfl⟩;have hPp:P<p8:=by omega
  have hPq:P<q':=by first | omega | (simp at hq; omega)
  have hL':LG s'.S P C D x y:=by
   rcases hx with hx | ⟨o,e,o',e',k1,k2,k3,k4,k5,k6,k7,k8,k9⟩
   ·exact .inl hx
   ·rcases hL with ⟨l1,_⟩ | ⟨o2,e2,o2',e2',l1,l2,l3,l4,l5,l6,l7,l8,l9⟩
    ·rw [k1] at l1; cases l1
    ·rw [k1] at l1; cases l1;rw [k2] at l2; cases l2;exact .inr ⟨o,e,o',e',k1,k2,k3,by omega,k5,by omega,k7,l8,l9⟩
  clear hL hx hfr hV hp8 hP hq hS0 hS1 hS2 v1 v2 v4 v5 v25 v24 z1 z2 z3 h1 h2;have a1:=fr hqx;have a2:(p8=q')=False/\(q'=p8)=False:=⟨eq_false hp8q,eq_false fun e=>hp8q e.symm⟩;have a3:=fr (show p8<s'.nx by omega);have a4:=fr hp82;have a5:=fr (show 2<q' by omega);have a6:=fr (show 2<s'.nx by omega);have b1:=fr (show 1<p8 by omega);have b2:=fr (show 1<q' by omega);have b3:=fr (show 1<s'.nx by omega);have b4:=fr (show 0<p8 by omega);have b5:=fr (show 0<q' by omega);have b6:=fr (show 0<s'.nx by omega);have nn1 : ¬ s'.nx=1:=by omega
  have nn2 : ¬ s'.nx+1=q':=by omega
  have na : ∀ a b:Nat,s'.nx+a+b=s'.nx+(a+b):=fun a b=>Nat.add_assoc _ _ _;rw [<- hbb] at hDn;rcases hL' with ⟨rfl,rfl,hC0,hD0⟩ | ⟨o,e,o',e',rfl,rfl,ho,hox,ho',hox',hoo,hSo,hSo'⟩
  ·subst hC0 hD0;simp only [List.nil_append] at hCn hDn;simp [-getElem?_pos,w1,w2,w4,w5,w25,w24,w8,w9,hT0,hT1,hT2,hT8,hSq,hw,hr1,na,a1,a2,a3,a4,a5,a6,b1,b2,b3,b4,b5,b6];exact zaj (n-1) (by omega) ⟨i+1,[cuts],[bins],.ref (s'.nx+1) none s'.ep 0 1,.ref (s'.nx+3) none s'.ep 0 1,by omega,by simp at hC; simp; omega,by simp at hC; simp; omega,hCn,hDn,by simp [w1],by simp [w2],by simp [w4],by simp [w5],by simp,by simp [w24],by first | (simp; done) | (simp; omega),.inr ⟨s'.nx+1,s'.ep,s'.nx+3,s'.ep,rfl,rfl,by omega,by simp,by omega,by simp,by omega,by simp [nn1,nn2,rws,cel]⟩,by simp [a1,a2,a3,a4,a5,a6,b1,b2,b3,b4,b5,b6,hT0,hT1]⟩
  ·have c1:=fr ho;have c2:=fr (show o<p8 by omega);have c3:=fr ho';have c4:=fr (show o'<p8 by omega);have c5:=fr (show o<q' by omega);have c6:=fr (show o'<q' by omega);have d1:=fr (show o<s'.nx by omega);have d2:=fr (show o'<s'.nx by omega);have d3:=fr (show 1<o by omega);have d4:=fr (show 1<o' by omega);have d5:=fr (show 0<o by omega);have d6:=fr (show 0<o' by omega);have hoo2 : ¬ o'=o:=fun e=>hoo e.symm;have nn3 : ¬ s'.nx+1=o':=by omega
   simp [-getElem?_pos,w1,w2,w4,w5,w25,w24,w8,w9,hT0,hT1,hT2,hT8,hSq,hSo,hSo',hoo,hoo2,hw,hr1,hr24,hr24',s1,s2,na,a1,a2,a3,a4,a5,a6,b1,b2,b3,b4,b5,b6,c1,c2,c3,c4,c5,c6,d1,d2,d3,d4,d5,d6];exact zaj (n-1) (by omega) ⟨i+1,C++[cuts],D++[bins],.ref (s'.nx+1) none s'.ep 0 (C.length+1),.ref (s'.nx+3) none s'.ep 0 (D.length+1),by omega,by simp [hC],by simp [hD],hCn,hDn,by simp [w1],by simp [w2],by simp [w4],by simp [w5],by simp,by simp [w24],by first | (simp; done) | (simp; omega),.inr ⟨s'.nx+1,s'.ep,s'.nx+3,s'.ep,by simp,by simp,by omega,by simp,by omega,by simp,by omega,by simp [nn1,nn2,nn3]⟩,by simp [a1,a2,a3,a4,a5,a6,b1,b2,b3,b4,b5,b6,c1,c2,c3,c4,c5,c6,d1,d2,d3,d4,d5,d6,hT0,hT1]⟩
 ·have hin:i=t.ns.length:=by omega
  rcases hx with ⟨rfl,rfl,hC0,hD0⟩ | ⟨o,e,o',e',rfl,rfl,ho,hox,ho',hox',hoo,hSo,hSo'⟩
  ·subst hC0;simp at hC; omega
  ·have c1:=fr ho;have c3:=fr ho';have d3:=fr (show 1<o by omega);have d4:=fr (show 1<o' by omega);have d5:=fr (show 0<o by omega);have d6:=fr (show 0<o' by omega);have hoo2 : ¬ o'=o:=fun e=>hoo e.symm;simp [-getElem?_pos,z8k,v1,v2,v4,v5,v25,v24,hS0,hS1,hS2,h,hSo,hSo',hoo,hoo2,c1,c3,d3,d4,d5,d6];rw [hC8,hD8,hin];exact ⟨rfl,rfl⟩
theorem ymk {l m:List Int} : ∀ x∈(zdd l m).1,inI x:=by
 unfold zdd;split
 ·rename_i hl;cases e:res l m with
  | none=>intro x hx; cases hx
  | some r =>
   obtain ⟨h1,h2⟩:=ybb hl e;intro x hx
   replace hx:x∈r:=hx
   obtain ⟨i,hi⟩:=bH hx;have hlt:=(bD hi).1;obtain ⟨a,ha⟩ : ∃ a,l[i]?=some a:=⟨_,bG (by omega)⟩;obtain ⟨b,hb⟩ : ∃ b,m[i]?=some b:=⟨_,bG (by omega)⟩;obtain ⟨rfl,h4,h5⟩:=h2 i a b x ha hb hi;exact ⟨h4,h5⟩
 ·intro x hx; cases hx
theorem yqr {l m:List Int}:(zdd l m).1.length<=l.length/\((zdd l m).2=true->l.length=m.length):=by
 unfold zdd;split
 ·rename_i hl;cases e:res l m with
  | none=>simp
  | some r=>exact ⟨Nat.le_of_eq (ybb hl e).1,fun _=>hl⟩
 ·simp
theorem yng {c v:List (List Int)} {g:List Int} {cfg:Cfg} (h:(zb3 c v g cfg).2=true) : ∀ x∈(zb3 c v g cfg).1,inR 2199023255552 x.v:=by
 refine yoj (by omega) fun x hx => ?_;unfold zb3 at h;split at h
 ·rename_i ht;exact (zxm ht).2.2.2 x hx
 ·cases h
theorem ynb {tr:List Nd} {ps:List Int} {rs:List (List Int)} {i:Nat} {p:Int} {r:List Int} (hp:ps[i]?=some p) (hr:rs[i]?=some r):zfi tr (ps.drop i) (rs.drop i)=if (adi p (evt tr r)).2=true then (zfi tr (ps.drop (i+1)) (rs.drop (i+1))).map ((adi p (evt tr r)).1 :: ·) else none:=by
 rw [zdi hp,zdi hr,zfi]
theorem yqp (M:List (List Nd)) (t:List Nd):trs true M++[[.own 5 (t.map nd)]]=trs true (M++[t]):=by simp [trs,zoy]
theorem TaL.up {t:Ta} (ht:TaL 1048576 t):TaL 9223372036854775807 t:=⟨Nat.le_trans ht.ns (by omega),fun x hx=>Nat.le_trans (ht.ss x hx) (by omega),Nat.le_trans ht.nm (by omega),Nat.le_trans ht.rw (by omega),fun x hx=>Nat.le_trans (ht.rr x hx) (by omega),Nat.le_trans ht.lb (by omega)⟩
open Classical in
theorem y6f (p q r:Bool) (t:Ta) (c v:List (List Int)) (cfg:Cfg) (s:Sta) (ht:TaL 1048576 t) (hti : ∀ y∈t.lb,inI y) (hcl:c.length<=1048576) (hc : ∀ l∈c,l.length<=1048576) (hvl:v.length<=1048576) (hv : ∀ l∈v,l.length<=1048576) (hg:cfg.sg.length<=1048576) (hs:z96 1048576 s) (hsi : ∀ x∈s.sm,inI x):RUN T zp6 [taS p t,.agg [.sl 1 (rws q c),.sl 1 (rws q v)],cfS cfg,stS r s]=some ([stO (zd9 t c v cfg s).1,bv (zd9 t c v cfg s).2],[]):=by
 have e1:=z6f p t ht.up;have e2:=yj5 p t cfg.bi ht;have e3:=y6e q true c v (za6 t cfg.bi) (za5 t cfg.bi) (by omega) (fun l hl=>Nat.le_trans (hc l hl) (by omega)) (by omega) (fun l hl=>Nat.le_trans (hv l hl) (by omega));have r1:=y35 t.lb s.sm ht.lb hs.sm hti hsi;have hrl:=yqr (l:=t.lb) (m:=s.sm);have hri:=ymk (l:=t.lb) (m:=s.sm);have hrw:=ht.rw;have hsm:=hs.sm;have hlb:=ht.lb;have hz:stO noS = .agg [.own 1 [],.own 1 []]:=rfl;simp only [taS,stS] at *;cases ht1:zba t with
 | false =>
  have hR:zd9 t c v cfg s=(noS,false):=by unfold zd9; rw [if_neg (by rw [ht1]; simp)]
  rw [hR,hz];rw [ht1] at e1;refine zae rfl rfl ?_;simp [-getElem?_pos,zj7,zj6,e1]
 | true =>
 rw [ht1] at e1;have htr:=zgo ht1
 by_cases hcg:c=za6 t cfg.bi/\v=za5 t cfg.bi
 case neg =>
  have hR:zd9 t c v cfg s=(noS,false):=by unfold zd9; rw [if_neg fun h=>hcg h.2]
  have hd:(decide (c=za6 t cfg.bi) && decide (v=za5 t cfg.bi))=false:=by
   cases h1:decide (c=za6 t cfg.bi) with
   | false=>rfl
   | true=>exact decide_eq_false fun h=>hcg ⟨of_decide_eq_true h1,h⟩
  rw [hR,hz];rw [hd] at e3;generalize za6 t cfg.bi=GC at *;generalize za5 t cfg.bi=GW at *;refine zae rfl rfl ?_;simp [-getElem?_pos,zj7,zj6,e1,e2,e3]
 case pos =>
 have hR:zd9 t c v cfg s=zui t c v cfg s:=by unfold zd9; rw [if_pos ⟨ht1,hcg⟩]
 have hd:(decide (c=za6 t cfg.bi) && decide (v=za5 t cfg.bi))=true:=by rw [decide_eq_true hcg.1,decide_eq_true hcg.2]; rfl
 rw [hR];rw [hd] at e3;generalize za6 t cfg.bi=GC at *;generalize za5 t cfg.bi=GW at *;clear hR hd hcg ht1;unfold zui zuh;generalize zdd t.lb s.sm=QQ at *;obtain ⟨RS,rb⟩:=QQ;simp only at r1 hrl hri;have g1:=y5o q c v RS cfg hc hv (by omega) hg hri;have hgl:=ych (c:=c) (v:=v) (g:=RS) (cfg:=cfg);have hgv:=yng (c:=c) (v:=v) (g:=RS) (cfg:=cfg);have s1:=y5x (zb3 c v RS cfg).1 cfg (by omega) hg;have hsl:=yke (c:=cfg) (t:=(zb3 c v RS cfg).1);have hsv:=fun h=>yak (c:=cfg) (t:=(zb3 c v RS cfg).1) (R:=2199023255552) (by omega) (hgv h);have t1:=y5w r s.ts hs.ts hs.tl;generalize zb3 c v RS cfg=QQ at *;obtain ⟨G,gb⟩:=QQ;simp only at g1 hgl s1 hsl hsv;generalize zf5 cfg G=QQ at *;obtain ⟨tr,sb⟩:=QQ;simp only at s1 hsl hsv;cases rb with
 | false =>
  simp only [Bool.false_and,Bool.false_eq_true,if_false];rw [hz];refine zae rfl rfl ?_;simp [-getElem?_pos,zj7,zj6,e1,e2,e3,r1]
 | true =>
 cases gb with
 | false =>
  simp only [Bool.and_false,Bool.false_eq_true,if_false];rw [hz];refine zae rfl rfl ?_;simp [-getElem?_pos,zj7,zj6,e1,e2,e3,r1,g1,s1]
 | true =>
 cases sb with
 | false =>
  simp only [Bool.and_true,if_true,Bool.false_eq_true,if_false];rw [hz];refine zae rfl rfl ?_;simp [-getElem?_pos,zj7,zj6,e1,e2,e3,r1,g1,s1]
 | true =>
 simp only [Bool.and_true,if_true];have hev:=ycz (t:=tr) (by omega) (hsv rfl);have hlr:s.sm.length=t.rw.length:=by have:=hrl.2 rfl; omega
 have hts:=yqp s.ts tr;have hrt:zag 24 (s.ts.length+1)=true:=by have:=hs.ts; simp [zag]; omega
 have hr24:zag 24 1=true:=by decide
 clear hsv hgv;refine zae rfl rfl ?_;simp [-getElem?_pos,zj7,zj6,e1,e2,e3,r1,g1,s1,t1,hts,hrt,hr24];refine zaq (fun n st => ∃ (i:Nat) (m:List Int) (x:PV),i+n=s.sm.length/\m.length=i/\zfi tr s.sm t.rw=(zfi tr (s.sm.drop i) (t.rw.drop i)).map (m ++ ·)/\st.V 4 = .ptr 0 none 0 0 0/\st.V 7 = .ptr 3 none 0 0 0/\st.V 8 = .ptr 4 none 0 0 0/\st.V 14 = .ptr 11 none 0 0 0/\st.V 16 = .ptr 15 none 0 0 0/\st.V 17=iv i/\st.ep=0/\15<st.nx/\LC st.S st.nx 15 m x/\st.S 0=some (.box [.sl 1 (za4 t.ns),.v (.string t.nm),.sl 1 (rws p t.rw),.sl 1 (zab t.lb)])/\st.S 3=some (.box [.sl 1 (zab s.sm),.sl 1 (trs r s.ts)])/\st.S 4=some (.box [.e0,.e0])/\st.S 10=some (.shadow 5 (tr.map nd) 0)/\st.S 11=some (.box [.ref 10 none 0 0 tr.length])/\st.S 14=some (.row 1 (trs true (s.ts++[tr])))/\st.S 15=some (.box [x,.ref 14 none 0 0 (s.ts.length+1)])) ?_ s.sm.length _ ⟨0,[],.e0,by omega,rfl,by simp,by simp,by simp,by simp,by simp,by simp,by simp,by simp,by simp,.inl ⟨rfl,rfl⟩,by simp⟩;rintro n st ⟨i,m,x,hi,hm,hE,v4,v7,v8,v14,v16,v17,hep,hnx,hx,hS0,hS3,hS4,hS10,hS11,hS14,hS15⟩;have Z0:=bI v4 <| bI v7 <| bI v8 <| bI v14 <| bI v16 <| bI v17 <| bI hep <| bI hS0 <| bI hS3 <| bI hS4 <| bI hS10 <| bI hS11 <| bI hS14 hS15
 have z0:=fr (show 0<st.nx by omega);have z3:=fr (show 3<st.nx by omega);have z4:=fr (show 4<st.nx by omega);have z10:=fr (show 10<st.nx by omega);have z11:=fr (show 11<st.nx by omega);have z14:=fr (show 14<st.nx by omega);have z15:=fr hnx;have n14 : ¬ st.nx=14:=by omega
 by_cases h:i<s.sm.length
 ·obtain ⟨y,hy⟩ : ∃ x,s.sm[i]?=some x:=⟨_,bG h⟩;obtain ⟨w,hw⟩ : ∃ x,t.rw[i]?=some x:=⟨_,bG (by omega)⟩;have hy':=zay hy;have hw':=zc8 (q:=p) hw;have hir:i<t.rw.length:=by omega
  have hwS:=wS h (by omega:s.sm.length<=9223372036854775807);have v1:=y3q tr w (by omega) (ht.rr w (bF hw));have hei:=hev w;have a1:=z6d y (evt tr w) (hsi y (bF hy)) (by unfold inR at hei; unfold inI; omega);rw [ynb hy hw] at hE;generalize evt tr w=ew at *;generalize adi y ew=QQ at *;obtain ⟨ad,ab⟩:=QQ;simp only at a1 hE;cases ab with
  | false =>
   have hA:zjs t tr s=(noS,false):=by unfold zjs; rw [hE]; rfl
   rw [hA,hz];simp [-getElem?_pos,zs3,Z0,h,hy',hw',hir,v1,a1]
  | true =>
   rw [if_pos rfl] at hE;have hE2:zfi tr s.sm t.rw=(zfi tr (s.sm.drop (i+1)) (t.rw.drop (i+1))).map ((m++[ad]) ++ ·):=by
    rw [hE,Option.map_map]; congr 1; funext l; simp
   have hr8:zag 8 1=true:=by decide
   have hr8':=zcg (n:=m.length+1) (by omega);have hsn:=zb1 m ad;rcases hx with ⟨rfl,rfl⟩ | ⟨o,e,rfl,ho,hox,hSo⟩
   ·simp [-getElem?_pos,zs3,Z0,h,hy',hw',hir,v1,a1,hwS,hr8,z0,z3,z4,z10,z11,z14,z15];exact zaj (n-1) (by omega) ⟨i+1,[ad],.ref (st.nx+1) none 0 0 1,by omega,by simp at hm; simp; omega,by simpa using hE2,by simp [v4],by simp [v7],by simp [v8],by simp [v14],by simp [v16],by simp,by simp [hep],by simp; omega,.inr ⟨st.nx+1,0,by simp,by omega,by simp [zab,n14]⟩,by simp [z0,hS0,z3,hS3,z4,hS4,z10,hS10,z11,hS11,z14,hS14,n14]⟩
   ·have y1:=fr hox;have y2:=fr (show 0<o by omega);have y3:=fr (show 3<o by omega);have y4:=fr (show 4<o by omega);have y5:=fr (show 10<o by omega);have y6:=fr (show 11<o by omega);have y7:=fr (show 14<o by omega);have y8:=fr ho;simp [-getElem?_pos,zs3,Z0,hSo,h,hy',hw',hir,v1,a1,hwS,hr8,hr8',hsn,z0,z3,z4,z10,z11,z14,z15,y1,y2,y3,y4,y5,y6,y7,y8];exact zaj (n-1) (by omega) ⟨i+1,m++[ad],.ref (st.nx+1) none 0 0 (m.length+1),by omega,by simp [hm],hE2,by simp [v4],by simp [v7],by simp [v8],by simp [v14],by simp [v16],by simp,by simp [hep],by simp; omega,.inr ⟨st.nx+1,0,by simp,by omega,by simp [n14]⟩,by simp [z0,y2,hS0,z3,y3,hS3,z4,y4,hS4,z10,y5,hS10,z11,y6,hS11,z14,y7,hS14,n14]⟩
 ·have hA:zjs t tr s=(⟨m,s.ts++[tr]⟩,true):=by
   unfold zjs;rw [hE,List.drop_eq_nil_of_le (by omega),List.drop_eq_nil_of_le (by omega)];simp [zfi]
  rw [hA];rcases hx with ⟨rfl,rfl⟩ | ⟨o,e,rfl,ho,hox,hSo⟩
  ·simp [-getElem?_pos,zs3,Z0,h,z0,z3,z4,z10,z11,z14,z15]
  ·have y4:=fr (show 4<o by omega);have y7:=fr (show 14<o by omega);have y8:=fr ho;simp [-getElem?_pos,zs3,Z0,hSo,h,z0,z3,z4,z10,z11,z14,z15,y4,y7,y8]
open Classical in
theorem y6g (p q r:Bool) (t:Ta) (c v:List (List Int)) (cfg:Cfg) (s:Sta) (ht:TaL 1048576 t) (hti : ∀ y∈t.lb,inI y) (hcl:c.length<=1048576) (hc : ∀ l∈c,l.length<=1048576) (hvl:v.length<=1048576) (hv : ∀ l∈v,l.length<=1048576) (hg:cfg.sg.length<=1048576) (hs:z96 1048576 s) (hsi : ∀ x∈s.sm,inI x):RUN T zp5 [taS p t,.agg [.sl 1 (rws q c),.sl 1 (rws q v)],cfS cfg,stS r s]=some ([stO (zd9 t c v cfg s).1,bv (zd9 t c v cfg s).2],[]):=by
 have e1:=z9o p t ht;have e2:=yj9 p t cfg.bi ht;have e3:=y6d q true c v (za6 t cfg.bi) (za5 t cfg.bi) (by omega) (fun l hl=>Nat.le_trans (hc l hl) (by omega)) (by omega) (fun l hl=>Nat.le_trans (hv l hl) (by omega));have r1:=y34 t.lb s.sm ht.lb hs.sm hti hsi;have hrl:=yqr (l:=t.lb) (m:=s.sm);have hri:=ymk (l:=t.lb) (m:=s.sm);have hrw:=ht.rw;have hsm:=hs.sm;have hlb:=ht.lb;have hz:stO noS = .agg [.own 1 [],.own 1 []]:=rfl;simp only [taS,stS] at *;cases ht1:zba t with
 | false =>
  have hR:zd9 t c v cfg s=(noS,false):=by unfold zd9; rw [if_neg (by rw [ht1]; simp)]
  rw [hR,hz];rw [ht1] at e1;refine zae rfl rfl ?_;simp [-getElem?_pos,zj5,zj6,e1]
 | true =>
 rw [ht1] at e1;have htr:=zgo ht1
 by_cases hcg:c=za6 t cfg.bi/\v=za5 t cfg.bi
 case neg =>
  have hR:zd9 t c v cfg s=(noS,false):=by unfold zd9; rw [if_neg fun h=>hcg h.2]
  have hd:(decide (c=za6 t cfg.bi) && decide (v=za5 t cfg.bi))=false:=by
   cases h1:decide (c=za6 t cfg.bi) with
   | false=>rfl
   | true=>exact decide_eq_false fun h=>hcg ⟨of_decide_eq_true h1,h⟩
  rw [hR,hz];rw [hd] at e3;generalize za6 t cfg.bi=GC at *;generalize za5 t cfg.bi=GW at *;refine zae rfl rfl ?_;simp [-getElem?_pos,zj5,zj6,e1,e2,e3]
 case pos =>
 have hR:zd9 t c v cfg s=zui t c v cfg s:=by unfold zd9; rw [if_pos ⟨ht1,hcg⟩]
 have hd:(decide (c=za6 t cfg.bi) && decide (v=za5 t cfg.bi))=true:=by rw [decide_eq_true hcg.1,decide_eq_true hcg.2]; rfl
 rw [hR];rw [hd] at e3;generalize za6 t cfg.bi=GC at *;generalize za5 t cfg.bi=GW at *;clear hR hd hcg ht1;unfold zui zuh;generalize zdd t.lb s.sm=QQ at *;obtain ⟨RS,rb⟩:=QQ;simp only at r1 hrl hri;have g1:=y5n q c v RS cfg hc hv (by omega) hg hri;have hgl:=ych (c:=c) (v:=v) (g:=RS) (cfg:=cfg);have hgv:=yng (c:=c) (v:=v) (g:=RS) (cfg:=cfg);have s1:=y5y (zb3 c v RS cfg).1 cfg (by omega) hg;have hsl:=yke (c:=cfg) (t:=(zb3 c v RS cfg).1);have hsv:=fun h=>yak (c:=cfg) (t:=(zb3 c v RS cfg).1) (R:=2199023255552) (by omega) (hgv h);have t1:=y5v r s.ts hs.ts hs.tl;generalize zb3 c v RS cfg=QQ at *;obtain ⟨G,gb⟩:=QQ;simp only at g1 hgl s1 hsl hsv;generalize zf5 cfg G=QQ at *;obtain ⟨tr,sb⟩:=QQ;simp only at s1 hsl hsv;cases rb with
 | false =>
  simp only [Bool.false_and,Bool.false_eq_true,if_false];rw [hz];refine zae rfl rfl ?_;simp [-getElem?_pos,zj5,zj6,e1,e2,e3,r1]
 | true =>
 cases gb with
 | false =>
  simp only [Bool.and_false,Bool.false_eq_true,if_false];rw [hz];refine zae rfl rfl ?_;simp [-getElem?_pos,zj5,zj6,e1,e2,e3,r1,g1,s1]
 | true =>
 cases sb with
 | false =>
  simp only [Bool.and_true,if_true,Bool.false_eq_true,if_false];rw [hz];refine zae rfl rfl ?_;simp [-getElem?_pos,zj5,zj6,e1,e2,e3,r1,g1,s1]
 | true =>
 simp only [Bool.and_true,if_true];have hev:=ycz (t:=tr) (by omega) (hsv rfl);have hlr:s.sm.length=t.rw.length:=by have:=hrl.2 rfl; omega
 have hts:=yqp s.ts tr;have hrt:zag 24 (s.ts.length+1)=true:=by have:=hs.ts; simp [zag]; omega
 have hr24:zag 24 1=true:=by decide
 clear hsv hgv;refine zae rfl rfl ?_;simp [-getElem?_pos,zj5,zj6,e1,e2,e3,r1,g1,s1,t1,hts,hrt,hr24];refine zaq (fun n st => ∃ (i:Nat) (m:List Int) (x:PV),i+n=s.sm.length/\m.length=i/\zfi tr s.sm t.rw=(zfi tr (s.sm.drop i) (t.rw.drop i)).map (m ++ ·)/\st.V 4 = .ptr 0 none 0 0 0/\st.V 70 = .sl 1 (zab s.sm)/\st.V 71=iv s.sm.length/\st.V 8 = .ptr 4 none 0 0 0/\st.V 13 = .ptr 11 none 0 0 0/\st.V 14 = .ptr 15 none 0 0 0/\st.V 72=iv i/\st.ep=0/\15<st.nx/\LC st.S st.nx 15 m x/\st.S 0=some (.box [.sl 1 (za4 t.ns),.v (.string t.nm),.sl 1 (rws p t.rw),.sl 1 (zab t.lb)])/\st.S 4=some (.box [.e0,.e0])/\st.S 10=some (.shadow 5 (tr.map nd) 0)/\st.S 11=some (.box [.ref 10 none 0 0 tr.length])/\st.S 14=some (.row 1 (trs true (s.ts++[tr])))/\st.S 15=some (.box [x,.ref 14 none 0 0 (s.ts.length+1)])) ?_ s.sm.length _ ⟨0,[],.e0,by omega,rfl,by simp,by simp,by simp,by simp,by simp,by simp,by simp,by simp,by simp,by simp,.inl ⟨rfl,rfl⟩,by simp⟩;rintro n st ⟨i,m,x,hi,hm,hE,v4,v70,v71,v8,v13,v14,v72,hep,hnx,hx,hS0,hS4,hS10,hS11,hS14,hS15⟩;have Z0:=bI v4 <| bI v70 <| bI v71 <| bI v8 <| bI v13 <| bI v14 <| bI v72 <| bI hep <| bI hS0 <| bI hS4 <| bI hS10 <| bI hS11 <| bI hS14 hS15
 have z0:=fr (show 0<st.nx by omega);have z3:=fr (show 3<st.nx by omega);have z4:=fr (show 4<st.nx by omega);have z10:=fr (show 10<st.nx by omega);have z11:=fr (show 11<st.nx by omega);have z14:=fr (show 14<st.nx by omega);have z15:=fr hnx;have n14 : ¬ st.nx=14:=by omega
 by_cases h:i<s.sm.length
 ·obtain ⟨y,hy⟩ : ∃ x,s.sm[i]?=some x:=⟨_,bG h⟩;obtain ⟨w,hw⟩ : ∃ x,t.rw[i]?=some x:=⟨_,bG (by omega)⟩;have hy':=zay hy;have hw':=zc8 (q:=p) hw;have hir:i<t.rw.length:=by omega
  have hwS:=wS h (by omega:s.sm.length<=9223372036854775807);have v1:=yi2 tr w (by omega) (ht.rr w (bF hw));have hei:=hev w;have a1:=z6c y (evt tr w) (hsi y (bF hy)) (by unfold inR at hei; unfold inI; omega);rw [ynb hy hw] at hE;generalize evt tr w=ew at *;generalize adi y ew=QQ at *;obtain ⟨ad,ab⟩:=QQ;simp only at a1 hE;cases ab with
  | false =>
   have hA:zjs t tr s=(noS,false):=by unfold zjs; rw [hE]; rfl
   rw [hA,hz];simp [-getElem?_pos,zs2,Z0,h,hy',hw',hir,v1,a1]
  | true =>
   rw [if_pos rfl] at hE;have hE2:zfi tr s.sm t.rw=(zfi tr (s.sm.drop (i+1)) (t.rw.drop (i+1))).map ((m++[ad]) ++ ·):=by
    rw [hE,Option.map_map]; congr 1; funext l; simp
   have hr8:zag 8 1=true:=by decide
   have hr8':=zcg (n:=m.length+1) (by omega);have hsn:=zb1 m ad;rcases hx with ⟨rfl,rfl⟩ | ⟨o,e,rfl,ho,hox,hSo⟩
   ·simp [-getElem?_pos,zs2,Z0,h,hy',hw',hir,v1,a1,hwS,hr8,z0,z3,z4,z10,z11,z14,z15];exact zaj (n-1) (by omega) ⟨i+1,[ad],.ref (st.nx+1) none 0 0 1,by omega,by simp at hm; simp; omega,by simpa using hE2,by simp [v4],by simp [v70],by simp [v71],by simp [v8],by simp [v13],by simp [v14],by simp,by simp [hep],by simp; omega,.inr ⟨st.nx+1,0,by simp,by omega,by simp [zab,n14]⟩,by simp [z0,hS0,z4,hS4,z10,hS10,z11,hS11,z14,hS14,n14]⟩
   ·have y1:=fr hox;have y2:=fr (show 0<o by omega);have y3:=fr (show 3<o by omega);have y4:=fr (show 4<o by omega);have y5:=fr (show 10<o by omega);have y6:=fr (show 11<o by omega);have y7:=fr (show 14<o by omega);have y8:=fr ho;simp [-getElem?_pos,zs2,Z0,hSo,h,hy',hw',hir,v1,a1,hwS,hr8,hr8',hsn,z0,z3,z4,z10,z11,z14,z15,y1,y2,y3,y4,y5,y6,y7,y8];exact zaj (n-1) (by omega) ⟨i+1,m++[ad],.ref (st.nx+1) none 0 0 (m.length+1),by omega,by simp [hm],hE2,by simp [v4],by simp [v70],by simp [v71],by simp [v8],by simp [v13],by simp [v14],by simp,by simp [hep],by simp; omega,.inr ⟨st.nx+1,0,by simp,by omega,by simp [n14]⟩,by simp [z0,y2,hS0,z4,y4,hS4,z10,y5,hS10,z11,y6,hS11,z14,y7,hS14,n14]⟩
 ·have hA:zjs t tr s=(⟨m,s.ts++[tr]⟩,true):=by
   unfold zjs;rw [hE,List.drop_eq_nil_of_le (by omega),List.drop_eq_nil_of_le (by omega)];simp [zfi]
  rw [hA];rcases hx with ⟨rfl,rfl⟩ | ⟨o,e,rfl,ho,hox,hSo⟩
  ·simp [-getElem?_pos,zs2,Z0,h,z0,z3,z4,z10,z11,z14,z15]
  ·have y4:=fr (show 4<o by omega);have y7:=fr (show 14<o by omega);have y8:=fr ho;simp [-getElem?_pos,zs2,Z0,hSo,h,z0,z3,z4,z10,z11,z14,z15,y4,y7,y8]
theorem ycf {r:List Int} {tr:List Nd} : ∀ (ts:List (List Nd)) (a:Int),zpn r (ts++[tr]) a=IntKind.i64.wrap (zpn r ts a+evt tr r)
 | [],a=>rfl
 | x::ts,a=>ycf ts _
structure BI (t:Ta) (n:Nat) (s:Sta):Prop where
 st:StI t n s
 tl : ∀ x∈s.ts,x.length<=32
 sum : ∀ (i:Nat) (p:Int) (r:List Int),s.sm[i]?=some p->t.rw[i]?=some r->zpn r s.ts (zb7 t.lb).1=p
theorem StI.inI {t:Ta} (h:zba t=true) {n:Nat} {s:Sta} (H:StI t n s) (hn:n<=8) : ∀ x∈s.sm,inI x:=by
 intro p hp;have hp2:(2:Int) ^ n<=256:=by
  have h1:=Nat.pow_le_pow_right (n:=2) (by omega) hn;have h2:(2:Int) ^ n=((2 ^ n:Nat):Int):=by push_cast; rfl
  omega
 obtain ⟨i,hi⟩:=bH hp;have hlt:=(bD hi).1;have hl:=H.l;obtain ⟨y,hy⟩ : ∃ y,t.lb[i]?=some y:=⟨_,bG (by omega)⟩;have a1:=H.r i y p hy hi;have a2:=z67 h y (bF hy);unfold inR at a1 a2;unfold Go.Pe.inI;omega
theorem BI.new {t:Ta} (h:zba t=true):BI t 0 (zc2 t).1:=by
 refine ⟨StI.new h,?_,fun i p r hp hr => ?_⟩
 ·unfold zc2; rw [if_pos h]; intro x hx; cases hx
 ·unfold zc2 at hp ⊢;rw [if_pos h] at hp ⊢;exact ((List.mem_replicate.mp (bF hp)).2).symm
theorem BI.next {t:Ta} {cfg:Cfg} (h:zba t=true) (hc:zbf cfg=true) {n:Nat} (hn:n<=7) {s:Sta} (H:BI t n s):(rnd t cfg s).2=true/\BI t (n+1) (rnd t cfg s).1:=by
 obtain ⟨r1,r2,tr,r3,r4,r5,r6⟩:=y8g h hc H.st hn;refine ⟨r1,r2,fun x hx => ?_,fun i p r hp hr => ?_⟩
 ·rw [r3] at hx;rcases List.mem_append.mp hx with hx | hx
  ·exact H.tl x hx
  ·simp at hx; subst hx; exact r5
 ·have hi:=r2.inI h (by omega) p (bF hp);have hlt:=(bD hr).1;have hl:=H.st.l;have:=zgo h;obtain ⟨p0,hp0⟩ : ∃ y,s.sm[i]?=some y:=⟨_,bG (by omega)⟩;have e:=r6 i p0 r hp0 hr;rw [hp] at e;cases e;rw [r3,ycf,H.sum i p0 r hp0 hr];unfold Go.Pe.inI at hi;exact w64 hi.1 hi.2
theorem zph {t:Ta} {cfg:Cfg} (h:zba t=true) (hc:zbf cfg=true) : ∀ n:Nat,n<=8->∃ s,zgt t cfg n=some s/\BI t n s
 | 0,_=>⟨_,rfl,BI.new h⟩
 | n+1,hn=>by
  obtain ⟨s,h1,h2⟩:=zph h hc n (by omega);obtain ⟨h3,h4⟩:=BI.next h hc (by omega) h2
  exact ⟨_,by rw [zgt,h1]; simp only [Option.bind_some,h3,if_true],h4⟩
theorem BI.lens {t:Ta} {n:Nat} {s:Sta} (h:zba t=true) (H:BI t n s) (hn:n<=8):z96 1048576 s:=by
 obtain ⟨t1,t2,t3,t4,t5,t6⟩:=zgo h;have:=H.st.l;have:=H.st.k;exact ⟨by omega,by omega,fun x hx=>Nat.le_trans (H.tl x hx) (by omega)⟩
theorem y6h (p:Bool) (t:Ta) (cfg:Cfg) (ht:TaL 1048576 t) (hti : ∀ y∈t.lb,inI y) (hg:cfg.sg.length<=1048576):RUN T zp4 [taS p t,cfS cfg]=some ([stO (ze3 t cfg).1,bv (ze3 t cfg).2],[]):=by
 have e1:=y50 p t ht hti;have e2:=zxe cfg (by omega);have e3:=yj5 p t cfg.bi ht;have hz:stO noS = .agg [.own 1 [],.own 1 []]:=rfl;have rn:=fun s=>y6f p true true t (za6 t cfg.bi) (za5 t cfg.bi) cfg s ht hti;simp only [taS,stO,cfS] at *;cases ht1:zba t with
 | false =>
  have hR:ze3 t cfg=(noS,false):=by unfold ze3; rw [ht1]; rfl
  have hN:zc2 t=(noS,false):=by unfold zc2; rw [if_neg (by rw [ht1]; simp)]; rfl
  rw [hR];rw [hN] at e1;have hz1:zab noS.sm=[]:=rfl;have hz2:trs true noS.ts=[]:=rfl;rw [hz1,hz2] at e1 ⊢;refine zae rfl rfl ?_;simp [-getElem?_pos,zs0,zs1,e1]
 | true =>
 have hN:(zc2 t).2=true:=by unfold zc2; rw [if_pos ht1]
 rw [hN] at e1;cases hc:zbf cfg with
 | false =>
  have hR:ze3 t cfg=(noS,false):=by unfold ze3; rw [ht1,hc]; rfl
  rw [hR];have hz1:zab noS.sm=[]:=rfl;have hz2:trs true noS.ts=[]:=rfl;rw [hz1,hz2];rw [hc] at e2;generalize (zc2 t).1=s0 at *;refine zae rfl rfl ?_;simp [-getElem?_pos,zs0,zs1,e1,e2]
 | true =>
 rw [hc] at e2;obtain ⟨t1,t2,t3,t4,t5,t6⟩:=zgo ht1;obtain ⟨⟨ro1,ro8⟩,_,hbi,_⟩:=zpw hc;obtain ⟨N,hN8⟩ : ∃ N:Nat,cfg.ro=N:=⟨cfg.ro.toNat,by omega⟩;obtain ⟨sN,hsN,_⟩:=zph ht1 hc N (by omega);have hR:ze3 t cfg=(sN,true):=by unfold ze3; rw [ht1,hc,hN8]; simp [hsN]
 rw [hR];have hwi:zai cfg.bi 2 8=true:=zaw.mpr (by omega);obtain ⟨l1,l2⟩:=ybz ht1 hwi;obtain ⟨l3,l4⟩:=ynj (t:=t) (b:=cfg.bi);have rn:=fun s=>rn s (by omega) (fun l hl=>Nat.le_trans (l3 l hl) (by omega)) (by omega) (fun l hl=>by rw [l4 l hl]; omega) hg;have hnx:=fun (i:Nat) (hn:i<=7) (s:Sta) => @BI.next t cfg ht1 hc i hn s
 have hrd : ∀ s,zd9 t (za6 t cfg.bi) (za5 t cfg.bi) cfg s=rnd t cfg s:=fun _=>rfl;simp only [hrd] at rn;have hst:=fun i=>zph ht1 hc i;obtain ⟨s0,hs0⟩ : ∃ s0,s0=(zc2 t).1:=⟨_,rfl⟩;rw [<- hs0] at e1;have hb0:zgt t cfg 0=some s0:=by rw [hs0]; rfl
 generalize za6 t cfg.bi=GC at *;generalize za5 t cfg.bi=GW at *;refine zae rfl rfl ?_;simp [-getElem?_pos,zs0,zs1,e1,e2,e3];refine zaq (fun n st => ∃ (i o1 o2:Nat) (s:Sta),i+n=N/\zgt t cfg i=some s/\st.V 2 = .ptr 0 none 0 0 0/\st.V 3 = .ptr 1 none 0 0 0/\st.V 4 = .ptr 2 none 0 0 0/\st.V 6 = .ptr 5 none 0 0 0/\st.V 8 = .ptr 8 none 0 0 0/\st.V 9=iv i/\st.ep=0/\2<o1/\o1<st.nx/\2<o2/\o2<st.nx/\¬ o1=o2/\¬ o1=5/\¬ o2=5/\¬ o1=6/\¬ o2=6/\¬ o1=7/\¬ o2=7/\¬ o1=8/\¬ o2=8/\8<st.nx/\st.S 0=some (.box [.sl 1 (za4 t.ns),.v (.string t.nm),.sl 1 (rws p t.rw),.sl 1 (zab t.lb)])/\st.S 1=some (.box [iv cfg.ro,iv cfg.de,iv cfg.bi,iv cfg.la,iv cfg.rw,iv cfg.nu,iv cfg.dn,.sl 1 (zab cfg.sg)])/\st.S 2=some (.box [.e0,.e0])/\st.S 5=some (.box [.ref o1 none 0 0 s.sm.length,.ref o2 none 0 0 s.ts.length])/\st.S 6=some (.row 1 (rws true GC))/\st.S 7=some (.row 1 (rws true GW))/\st.S 8=some (.box [.ref 6 none 0 0 GC.length,.ref 7 none 0 0 GW.length])/\st.S o1=some (.row 1 (zab s.sm))/\st.S o2=some (.row 1 (trs true s.ts))) ?_ N _ ⟨0,3,4,s0,by omega,hb0,?_⟩
 ·rintro n st ⟨i,o1,o2,s,hi,hbs,v2,v3,v4,v6,v8,v9,hep,ho1,ho1x,ho2,ho2x,ho12,h15,h25,h16,h26,h17,h27,h18,h28,hnx8,hS0,hS1,hS2,hS5,hS6,hS7,hS8,hSa,hSb⟩;have nz : ¬ st.nx=0/\¬ st.nx=1/\¬ st.nx=4/\¬ st.nx=5/\¬ st.nx=6/\¬ st.nx=7:=by omega
  have z0:=fr (show 0<st.nx by omega);have z1:=fr (show 1<st.nx by omega);have z2:=fr (show 2<st.nx by omega);have z5:=fr (show 5<st.nx by omega);have z6:=fr (show 6<st.nx by omega);have z7:=fr (show 7<st.nx by omega);have z8:=fr hnx8;have y1:=fr ho1x;have y2:=fr ho2x;have h21 : ¬ o2=o1:=fun e=>ho12 e.symm
  by_cases h:i<N
  ·obtain ⟨s',hs',HB⟩:=hst i (by omega);rw [hbs] at hs';cases hs';obtain ⟨k1,k2⟩:=hnx i (by omega) s HB;have rr:=rn s (HB.lens ht1 (by omega)) (HB.st.inI ht1 (by omega));rw [k1] at rr;have hb':zgt t cfg (i+1)=some (rnd t cfg s).1:=by rw [zgt,hbs]; simp only [Option.bind_some,k1,if_true]
   generalize (rnd t cfg s).1=s2 at *;simp only [stS] at rr;have hw:=wS h (by omega:N<=9223372036854775807);have hlt:(i:Int)<cfg.ro:=by omega
   simp [-getElem?_pos,z8f,v2,v3,v4,v6,v8,v9,hep,hS0,hS1,hS2,hS5,hS6,hS7,hS8,hSa,hSb,hlt,rr,hw,z0,z1,z2,z5,z6,z7,z8,y1,y2,ho12,h21];exact zaj (n-1) (by omega) ⟨i+1,st.nx,st.nx+1,s2,by omega,hb',by simp [v2],by simp [v3],by simp [v4],by simp [v6],by simp [v8],by simp,by simp [hep],by omega,by simp; try omega,by omega,by simp; try omega,by omega,by omega,by omega,by omega,by omega,by omega,by omega,by omega,by omega,by simp; omega,by simp [z0,hS0,nz,z1,hS1,z2,hS2,z5,z6,hS6,z7,hS7,z8,hS8]⟩
  ·have hiN:i=N:=by omega
   subst hiN;rw [hbs] at hsN;cases hsN;have hge : ¬ ((i:Int)<cfg.ro):=by omega
   simp [-getElem?_pos,z8f,v2,v3,v4,v6,v8,v9,hep,hS0,hS1,hS2,hS5,hS6,hS7,hS8,hSa,hSb,hge,show ¬ o1=2 by omega,show ¬ o2=2 by omega,z0,z1,z2,z5,z6,z7,z8,y1,y2,ho12,h21]
 ·simp
def PTb (v:PV):Prop := ∃ t:Ta,v=taO t/\TaL 128 t/\∀ x∈t.lb,inI x
theorem ylx {t:Ta} (h:zba t=true) : ∀ y∈t.lb,inI y:=by
 unfold zba at h;simp only [Bool.and_eq_true,List.all_eq_true] at h;intro y hy;have:=zaw.mp (h.1.2 y hy);unfold inI;omega
theorem y6i (B:List Int) (p:Nat) (s:Int) (hp:p<=B.length) (hB:B.length<=9223372036854775807) : ∃ r,RUN T zq0 [.bx [.sl 1 (zb0 B),iv p,iv s]]=some r/\zgz B PTb r:=by
 refine zhy rfl rfl ?_;obtain ⟨r1,h1,v1,p1,s1,⟨t,rfl,ht,hok⟩,hp1,rfl⟩:=yj6 B p s hp hB;obtain ⟨t1,t2,t3,t4,t5,t6⟩:=zgo hok;have hlI:=ylx hok;clear hok;obtain ⟨ns,nm,rw,lb⟩:=t;have c1:=ht.ns;have c2:=ht.ss;have c3:=ht.nm;have c4:=ht.rw;have c5:=ht.rr;have c6:=ht.lb;simp only at t1 t2 t3 t4 t5 t6 hlI c1 c2 c3 c4 c5 c6;clear ht;simp only [taO] at h1;obtain ⟨r2,h2,v2,p2,s2,⟨a2,rfl,a20,a21⟩,hp2,rfl⟩:=zca B p1 s1 hp1 hB rw.length (by omega);have a22:=a21 (by omega);obtain ⟨f,rfl⟩ : ∃ f:Nat,a2=f:=⟨a2.toNat,by omega⟩;obtain ⟨r3,h3,v3,p3,s3,⟨d,rfl,d0,d1⟩,hp3,rfl⟩:=zca B p2 s2 hp2 hB 14 (by omega);have hf:f<rw.length:=by omega
 have hfy:f<lb.length:=by omega
 obtain ⟨l,hl⟩ : ∃ l,rw[f]?=some l:=⟨_,bG hf⟩;have hln:=t6 l (bF hl);have hl':=zc8 (q:=true) hl;simp only [cel,if_true] at hl';have hr1:zag 8 1=true:=by decide
 have hr0:zag 8 0=true:=by decide
 have hr3:zag 8 3=true:=by decide
 have hr7:zag 16 7=true:=by decide
 have hr13:zag 16 3=true:=by decide
 have hrl:=zcg (n:=l.length+1) (by omega);have hrb:=zcg (n:=lb.length+1) (by omega);have mk : ∀ {ns:List ByteArray} {nm:ByteArray} {rw:List (List Int)} {lb:List Int},ns.length<=128->(∀ x∈ns,x.size<=128)->nm.size<=128->rw.length<=128->(∀ l∈rw,l.length<=128)->lb.length<=128->(∀ x∈lb,inI x)->PTb (taO ⟨ns,nm,rw,lb⟩):=fun a b c d e f g=>⟨_,rfl,⟨a,b,c,d,e,f⟩,g⟩;have nsA : ∀ x∈ns,x.size<=128:=fun x hx=>Nat.le_trans (c2 x hx) (by omega);have rwA : ∀ l∈rw,l.length<=128:=fun l hl=>Nat.le_trans (c5 l hl) (by omega)
 by_cases e0:d=0
 ·subst e0;obtain ⟨x0,hx0⟩ : ∃ x,ns[0]?=some x:=⟨_,bG (by omega)⟩;have hx0':=zue hx0;have hn0:0<ns.length:=by omega
  obtain ⟨r4,h4,y,p4,s4,hy,hp4,rfl⟩:=yjk B p3 s3 hp3 hB [bs [],bs [65],bs [49,97],bs [121],bs [97,98,99,100,101,102,103,104,105,106,107,108],bs [97,98,99,100,101,102,103,104,105,106,107,108,109],bs [98]] (by simp);have hys:y.size<=128:=by
   simp only [List.mem_cons,List.not_mem_nil,or_false] at hy;rcases hy with rfl | rfl | rfl | rfl | rfl | rfl | rfl <;> decide
  simp only [za4,List.map] at h4;have hset:=qcy ns 0 y;simp [-getElem?_pos,zhf,zl5,h1,h2,h3,h4,hr7,hx0',hset,hn0];exact ⟨_,p4,s4,mk (by simp; omega) (zyc nsA hys) (by omega) (by omega) rwA (by omega) hlI,hp4,rfl⟩
 by_cases e1:d=1
 ·subst e1;obtain ⟨r4,h4,y,p4,s4,hy,hp4,rfl⟩:=yjk B p3 s3 hp3 hB [bs [],bs [97],bs [121,45]] (by simp);have hys:y.size<=128:=by
   simp only [List.mem_cons,List.not_mem_nil,or_false] at hy;rcases hy with rfl | rfl | rfl <;> decide
  simp only [za4,List.map] at h4;simp [-getElem?_pos,zhf,zl5,h1,h2,h3,h4,hr13];exact ⟨_,p4,s4,mk (by omega) nsA hys (by omega) rwA (by omega) hlI,hp4,rfl⟩
 by_cases e2:d=2
 ·subst e2;have hsn:=zb1 l 0;have hset:=ycl rw f (l++[0]);simp [-getElem?_pos,zhf,zl5,zbe,zb8,h1,h2,h3,hf,hl',hr1,hrl,hsn,hset];exact ⟨_,p3,s3,mk (by omega) nsA (by omega) (by simp; omega) (zyc rwA (by simp; omega)) (by omega) hlI,hp3,rfl⟩
 by_cases e3:d=3
 ·subst e3;obtain ⟨r4,h4,v4,p4,s4,⟨x,rfl,hx⟩,hp4,rfl⟩:=zi2 B p3 s3 hp3 hB [2147483647,2147483648,-2147483648] (by simp);simp only [zab,List.map] at h4;obtain ⟨y,hy⟩ : ∃ y,l[0]?=some y:=⟨_,bG (by omega)⟩;have hy':=zay hy;have hu0:0<l.length:=by omega
  have hset0:=yq2 l 0 x;have hset:=ycl rw f (l.set 0 x);simp [-getElem?_pos,zhf,zl5,zbe,zb8,h1,h2,h3,h4,hf,hl',hy',hu0,hr3,hset0,hset];exact ⟨_,p4,s4,mk (by omega) nsA (by omega) (by simp; omega) (zyc rwA (by simp; omega)) (by omega) hlI,hp4,rfl⟩
 by_cases e4:d=4
 ·subst e4;obtain ⟨r4,h4,v4,p4,s4,⟨x,rfl,hx⟩,hp4,rfl⟩:=y30 B p3 s3 hp3 hB;obtain ⟨y,hy⟩ : ∃ y,lb[f]?=some y:=⟨_,bG hfy⟩;have hy':=zay hy;have hset:=yq2 lb f x;simp [-getElem?_pos,zhf,zl5,h1,h2,h3,h4,hfy,hy',hset];exact ⟨_,p4,s4,mk (by omega) nsA (by omega) (by omega) rwA (by simp; omega) (zyc hlI hx),hp4,rfl⟩
 by_cases e5:d=5
 ·subst e5;have hsn:=zb1 lb 1;simp [-getElem?_pos,zhf,zl5,h1,h2,h3,hr1,hrb,hsn];exact ⟨_,p3,s3,mk (by omega) nsA (by omega) (by omega) rwA (by simp; omega) (ya3 hlI (by unfold inI; omega)),hp3,rfl⟩
 by_cases e6:d=6
 ·subst e6;have hset:=ycl rw f [];simp only [zab,List.map] at hset;simp [-getElem?_pos,zhf,zl5,zbe,zb8,h1,h2,h3,hf,hl',hr0,hset];exact ⟨_,p3,s3,mk (by omega) nsA (by omega) (by simp; omega) (zyc rwA (by simp)) (by omega) hlI,hp3,rfl⟩
 by_cases e7:d=7
 ·subst e7;simp [-getElem?_pos,zhf,zl5,h1,h2,h3];refine zaq (fun n st => ∃ (p o1 o2 a1 a2:Nat) (s:Int) (L:List (List Int)) (Y:List Int),L.length+n=50/\1<=L.length/\L.length<=41/\(∀ l∈L,l.length<=64)/\Y.length<=64+L.length/\(∀ x∈Y,inI x)/\p<=B.length/\st.V 0 = .ptr 0 none 0 0 0/\st.V 2 = .ptr 1 none 0 0 0/\st.V 3 = .ptr 5 none 0 0 0/\2<o1/\o1≠5/\o1<st.nx/\2<o2/\o2≠5/\o2<st.nx/\o1≠o2/\5<st.nx/\st.S 0=some (.box [.sl 1 (zb0 B),iv p,iv s])/\st.S 1=some (.box [.e0,.v (.string (bs [])),.e0,.e0])/\st.S 2=some (.row 1 (za4 ns))/\st.S o1=some (.row 1 (rws true L))/\st.S o2=some (.row 1 (zab Y))/\st.S 5=some (.box [.ref 2 none 0 0 ns.length,.v (.string nm),.ref o1 none a1 0 L.length,.ref o2 none a2 0 Y.length])) ?_ (50-rw.length) _ ⟨p3,3,4,0,0,s3,rw,lb,by omega,by omega,by omega,c5,by omega,hlI,hp3,by simp,by simp,by simp,by omega,by omega,by simp,by omega,by omega,by simp,by omega,by simp⟩;clear h1 h2 h3 hp1 hp2 hp3 hp e0 e1 e2 e3 e4 e5 e6 hl' hln hl hf hfy a20 a21 a22 d0 d1 hrl hrb;rintro n st ⟨p,o1,o2,a1,a2,s,L,Y,hi,hL1,hL,hLl,hY,hYi,hp,v0,v2,v3,ho1,ho15,ho1x,ho2,ho25,ho2x,ho12,hnx,hS0,hS1,hS2,hSo1,hSo2,hS5⟩;obtain ⟨r1,h1,v1,p1,s1,⟨b,rfl,b0,b1⟩,hp1,rfl⟩:=zca B p s hp hB 2 (by omega);have b2:=b1 (by omega);have w1:=w64 (x:=40+b) (by omega) (by omega);have z0:=fr (show 0<st.nx by omega);have z1:=fr (show 1<st.nx by omega);have z2:=fr (show 2<st.nx by omega);have z5:=fr hnx;have y1:=fr ho1x;have y2:=fr ho2x;have u:(o1=5)=False/\(5=o1)=False/\(o2=5)=False/\(5=o2)=False/\(o1=o2)=False/\(o2=o1)=False/\(o1=0)=False/\(0=o1)=False/\(o2=0)=False/\(0=o2)=False/\(o1=1)=False/\(1=o1)=False/\(o2=1)=False/\(1=o2)=False/\(o1=2)=False/\(2=o1)=False/\(o2=2)=False/\(2=o2)=False:=by
   refine ⟨?_,?_,?_,?_,?_,?_,?_,?_,?_,?_,?_,?_,?_,?_,?_,?_,?_,?_⟩ <;> exact eq_false (by omega)
  by_cases h:(L.length:Int)<40+b
  ·obtain ⟨l,hl⟩ : ∃ l,L[0]?=some l:=⟨_,bG (by omega)⟩;have hl':=zc8 (q:=true) hl;simp only [cel,if_true] at hl';have hl64:=hLl l (bF hl);have hrl:=zcg (n:=l.length) (by omega);have hrw:zag 24 (L.length+1)=true:=by simp [zag]; omega
   have hr24:zag 24 1=true:=by decide
   have hry:=zcg (n:=Y.length+1) (by omega);have hsn:=zuo L l;have hsy:=zb1 Y 0;have hL0:0<L.length:=by omega
   have nz : ¬ st.nx=0:=by omega
   have n53 : ¬ st.nx+3=o2/\¬ st.nx+3=5/\¬ st.nx+5=5/\¬ st.nx=2:=⟨by omega,by omega,by omega,by omega⟩;have na : ∀ a b:Nat,st.nx+a+b=st.nx+(a+b):=fun a b=>Nat.add_assoc _ _ _;simp [-getElem?_pos,z8m,zbe,zb8,v0,v2,v3,hS0,hS1,hS2,hSo1,hSo2,hS5,h1,w1,h,hl',hr0,hr1,hrl,hrw,hr24,hry,hsn,hsy,hL0,z0,z1,z2,z5,y1,y2,u,yk4,na];exact zaj (n-1) (by omega) ⟨p1,st.nx+3,st.nx+5,st.ep,st.ep,s1,L++[l],Y++[0],by simp; omega,by simp,by simp; omega,ya3 hLl hl64,by simp; omega,ya3 hYi (by unfold inI; omega),hp1,by simp [v0],by simp [v2],by simp [v3],by omega,by omega,by simp,by omega,by omega,by simp,by omega,by first | (simp; done) | (simp; omega),by simp [z0,u,nz,z1,hS1,z2,hS2,y1,y2,z5,n53]⟩
  ·simp [-getElem?_pos,z8m,v0,v2,v3,hS0,hS1,hS2,hSo1,hSo2,hS5,h1,w1,h,z0,z1,z2,z5,y1,y2,u,show 1<=o1 by omega,show 1<=o2 by omega];exact ⟨_,p1,s1,mk (by omega) nsA (by omega) (by omega) (fun l hl=>Nat.le_trans (hLl l hl) (by omega)) (by omega) hYi,hp1,rfl⟩
 ·simp [-getElem?_pos,zhf,zl5,h1,h2,h3,e0,e1,e2,e3,e4,e5,e6,e7];exact ⟨_,p3,s3,mk (by omega) nsA (by omega) (by omega) rwA (by omega) hlI,hp3,rfl⟩
theorem y6j (B:List Int) (hB:B.length<=9223372036854775807) : ∃ (t:Ta) (c:Cfg) (p:Nat) (s:Int),TaL 128 t/\(∀ x∈t.lb,inI x)/\c.sg.length<=64/\p<=B.length/\RUN T zp8 [.sl 1 (zb0 B)]=some ([.bx [.sl 1 (zb0 B),iv p,iv s],taO t,zkn c],[]):=by
 obtain ⟨r,h,s,rfl⟩:=y31 B hB;simp only [Int.natCast_zero] at h;obtain ⟨r1,h1,v1,p1,s1,⟨t,rfl,ht,hok⟩,hp1,rfl⟩:=yj6 B 0 s (by omega) hB;simp only [Int.natCast_zero] at h1;have hlI:=ylx hok;have ht':TaL 128 t:=⟨Nat.le_trans ht.ns (by omega),fun x hx=>Nat.le_trans (ht.ss x hx) (by omega),Nat.le_trans ht.nm (by omega),Nat.le_trans ht.rw (by omega),fun x hx=>Nat.le_trans (ht.rr x hx) (by omega),Nat.le_trans ht.lb (by omega)⟩;obtain ⟨r2,h2,v2,p2,s2,⟨c,rfl,hc⟩,hp2,rfl⟩:=yjb B p1 s1 hp1 hB;obtain ⟨r3,h3,v3,p3,s3,⟨b3,rfl⟩,hp3,rfl⟩:=zgu B p2 s2 hp2 hB 16 (by omega);simp only [taO,zkn] at h1 h2;cases b3 with
 | false =>
  obtain ⟨r5,h5,v5,p5,s5,⟨b5,rfl⟩,hp5,rfl⟩:=zgu B p3 s3 hp3 hB 16 (by omega);cases b5 with
  | false =>
   refine ⟨t,c,p5,s5,ht',hlI,by omega,hp5,zae rfl rfl ?_⟩;simp [-getElem?_pos,zn8,zn9,h,h1,h2,h3,h5]
  | true =>
   obtain ⟨r6,h6,v6,p6,s6,⟨c',rfl,hc'⟩,hp6,rfl⟩:=yjc B p5 s5 hp5 hB;simp only [zkn] at h6;refine ⟨t,c',p6,s6,ht',hlI,hc',hp6,zae rfl rfl ?_⟩;simp [-getElem?_pos,zn8,zn9,h,h1,h2,h3,h5,h6]
 | true =>
  obtain ⟨r4,h4,v4,p4,s4,⟨t',rfl,ht2,hl2⟩,hp4,rfl⟩:=y6i B p3 s3 hp3 hB;obtain ⟨r5,h5,v5,p5,s5,⟨b5,rfl⟩,hp5,rfl⟩:=zgu B p4 s4 hp4 hB 16 (by omega);simp only [taO] at h4;cases b5 with
  | false =>
   refine ⟨t',c,p5,s5,ht2,hl2,by omega,hp5,zae rfl rfl ?_⟩;simp [-getElem?_pos,zn8,zn9,h,h1,h2,h3,h4,h5]
  | true =>
   obtain ⟨r6,h6,v6,p6,s6,⟨c',rfl,hc'⟩,hp6,rfl⟩:=yjc B p5 s5 hp5 hB;simp only [zkn] at h6;refine ⟨t',c',p6,s6,ht2,hl2,hc',hp6,zae rfl rfl ?_⟩;simp [-getElem?_pos,zn8,zn9,h,h1,h2,h3,h4,h5,h6]
def stC (s:Sta):List PV:=[.own 1 (zab s.sm),.own 1 (trs true s.ts)]
def ze5 (t:Ta) (cfg:Cfg) (n:Nat):List Sta:=(List.range (n+1)).map fun k=>(zgt t cfg k).getD noS
theorem yaa {t:Ta} {cfg:Cfg} {n:Nat}:(ze5 t cfg n).length=n+1:=by simp [ze5]
theorem y9g {t:Ta} {cfg:Cfg} {n:Nat} {s:Sta} (h:zgt t cfg (n+1)=some s):ze5 t cfg n++[s]=ze5 t cfg (n+1):=by
 unfold ze5;rw [List.range_succ (n:=n+1),List.map_append,List.map_singleton,h];rfl
def zht (t:Ta) (cfg:Cfg):List Sta×Bool:=if (zba t && zbf cfg)=true then (ze5 t cfg cfg.ro.toNat,true) else ([],false)
theorem y6k (p:Bool) (t:Ta) (cfg:Cfg) (ht:TaL 1048576 t) (hti : ∀ y∈t.lb,inI y) (hg:cfg.sg.length<=1048576):RUN T zp9 [taS p t,cfS cfg]=some ([.own 2 ((zht t cfg).1.map stC),bv (zht t cfg).2],[]):=by
 have e1:=y5z p t ht hti;have e2:=z6b cfg (by omega);have e3:=yj9 p t cfg.bi ht;have rn:=fun s=>y6g p true true t (za6 t cfg.bi) (za5 t cfg.bi) cfg s ht hti;simp only [taS,stO,cfS] at *;cases ht1:zba t with
 | false =>
  have hR:zht t cfg=([],false):=by unfold zht; rw [ht1]; rfl
  have hN:zc2 t=(noS,false):=by unfold zc2; rw [if_neg (by rw [ht1]; simp)]; rfl
  rw [hR];rw [hN] at e1;have hz1:zab noS.sm=[]:=rfl;have hz2:trs true noS.ts=[]:=rfl;rw [hz1,hz2] at e1;refine zae rfl rfl ?_;simp [-getElem?_pos,zs4,zs5,e1]
 | true =>
 have hN:(zc2 t).2=true:=by unfold zc2; rw [if_pos ht1]
 rw [hN] at e1;cases hc:zbf cfg with
 | false =>
  have hR:zht t cfg=([],false):=by unfold zht; rw [ht1,hc]; rfl
  rw [hR];rw [hc] at e2;generalize (zc2 t).1=s0 at *;refine zae rfl rfl ?_;simp [-getElem?_pos,zs4,zs5,e1,e2]
 | true =>
 rw [hc] at e2;obtain ⟨t1,t2,t3,t4,t5,t6⟩:=zgo ht1;obtain ⟨⟨ro1,ro8⟩,_,hbi,_⟩:=zpw hc;obtain ⟨N,hN8⟩ : ∃ N:Nat,cfg.ro=N:=⟨cfg.ro.toNat,by omega⟩;obtain ⟨sN,hsN,_⟩:=zph ht1 hc N (by omega);have hR:zht t cfg=(ze5 t cfg N,true):=by unfold zht; rw [ht1,hc,hN8]; rfl
 rw [hR];have hwi:zai cfg.bi 2 8=true:=zaw.mpr (by omega);obtain ⟨l1,l2⟩:=ybz ht1 hwi;obtain ⟨l3,l4⟩:=ynj (t:=t) (b:=cfg.bi);have rn:=fun s=>rn s (by omega) (fun l hl=>Nat.le_trans (l3 l hl) (by omega)) (by omega) (fun l hl=>by rw [l4 l hl]; omega) hg;have hnx:=fun (i:Nat) (hn:i<=7) (s:Sta) => @BI.next t cfg ht1 hc i hn s
 have hrd : ∀ s,zd9 t (za6 t cfg.bi) (za5 t cfg.bi) cfg s=rnd t cfg s:=fun _=>rfl;simp only [hrd] at rn;have hst:=fun i=>zph ht1 hc i;obtain ⟨s0,hs0⟩ : ∃ s0,s0=(zc2 t).1:=⟨_,rfl⟩;rw [<- hs0] at e1;have hb0:zgt t cfg 0=some s0:=by rw [hs0]; rfl
 generalize za6 t cfg.bi=GC at *;generalize za5 t cfg.bi=GW at *;refine zae rfl rfl ?_;simp [-getElem?_pos,zs4,zs5,e1,e2,e3];refine zaq (fun n st => ∃ (i o e o1 o2:Nat) (s:Sta),i+n=N/\zgt t cfg i=some s/\st.V 2 = .ptr 0 none 0 0 0/\st.V 3 = .ptr 1 none 0 0 0/\st.V 6 = .ptr 4 none 0 0 0/\st.V 9 = .ptr 7 none 0 0 0/\st.V 8 = .ref o none e 0 (i+1)/\st.V 31=iv cfg.ro/\st.V 32=iv i/\st.ep=0/\1<o1/\o1<st.nx/\1<o2/\o2<st.nx/\7<o/\o<st.nx/\¬ o1=o2/\¬ o1=o/\¬ o2=o/\¬ o1=4/\¬ o1=5/\¬ o1=6/\¬ o1=7/\¬ o2=4/\¬ o2=5/\¬ o2=6/\¬ o2=7/\st.S 0=some (.box [.sl 1 (za4 t.ns),.v (.string t.nm),.sl 1 (rws p t.rw),.sl 1 (zab t.lb)])/\st.S 1=some (.box [iv cfg.ro,iv cfg.de,iv cfg.bi,iv cfg.la,iv cfg.rw,iv cfg.nu,iv cfg.dn,.sl 1 (zab cfg.sg)])/\st.S 4=some (.box [.ref o1 none 0 0 s.sm.length,.ref o2 none 0 0 s.ts.length])/\st.S 5=some (.row 1 (rws true GC))/\st.S 6=some (.row 1 (rws true GW))/\st.S 7=some (.box [.ref 5 none 0 0 GC.length,.ref 6 none 0 0 GW.length])/\st.S o1=some (.shadow 1 (zab s.sm) 0)/\st.S o2=some (.shadow 1 (trs true s.ts) 0)/\st.S o=some (.row 2 ((ze5 t cfg i).map stC))) ?_ N _ ⟨0,8,0,2,3,s0,by omega,hb0,by simp,by simp,by simp,by simp,by simp,by simp,by simp,by simp,by omega,by simp,by omega,by simp,by omega,by simp,by omega,by omega,by omega,by omega,by omega,by omega,by omega,by omega,by omega,by omega,by omega,by simp [ze5,hb0,stC]⟩;rintro n st ⟨i,o,e,o1,o2,s,hi,hbs,v2,v3,v6,v9,v8,v31,v32,hep,ho1,ho1x,ho2,ho2x,ho,hox,h12,h1o,h2o,h14,h15,h16,h17,h24,h25,h26,h27,hS0,hS1,hS4,hS5,hS6,hS7,hSa,hSb,hSo⟩
 have nz : ¬ st.nx=0/\¬ st.nx=1/\¬ st.nx=2/\¬ st.nx=3/\¬ st.nx=4/\¬ st.nx=5/\¬ st.nx=6/\¬ st.nx=7:=by omega
 have z0:=fr (show 0<st.nx by omega);have z1:=fr (show 1<st.nx by omega);have z4:=fr (show 4<st.nx by omega);have z5:=fr (show 5<st.nx by omega);have z6:=fr (show 6<st.nx by omega);have z7:=fr (show 7<st.nx by omega);have y1:=fr ho1x;have y2:=fr ho2x;have yo:=fr hox;have u : ¬ o2=o1/\¬ o=o1/\¬ o=o2/\¬ 4=o/\¬ o=4/\¬ 0=o/\¬ o=0/\¬ 1=o/\¬ o=1/\¬ 5=o/\¬ 6=o/\¬ 7=o/\¬ o=5/\¬ o=6/\¬ o=7:=by omega
 have na : ∀ a b:Nat,st.nx+a+b=st.nx+(a+b):=fun a b=>Nat.add_assoc _ _ _;have hlen:((ze5 t cfg i).map stC).length=i+1:=by rw [List.length_map,yaa]
 by_cases h:i<N
 ·obtain ⟨s',hs',HB⟩:=hst i (by omega);rw [hbs] at hs';cases hs';obtain ⟨k1,k2⟩:=hnx i (by omega) s HB;have rr:=rn s (HB.lens ht1 (by omega)) (HB.st.inI ht1 (by omega));rw [k1] at rr;have hb':zgt t cfg (i+1)=some (rnd t cfg s).1:=by rw [zgt,hbs]; simp only [Option.bind_some,k1,if_true]
  generalize (rnd t cfg s).1=s2 at *;have hap:(ze5 t cfg i).map stC++[[.own 1 (zab s2.sm),.own 1 (trs true s2.ts)]]=(ze5 t cfg (i+1)).map stC:=by rw [<- y9g hb',List.map_append]; rfl
  have hro:zag 48 (i+1+1)=true:=by simp [zag]; omega
  generalize (ze5 t cfg i).map stC=L at *;simp only [stS] at rr;have hw:=wS h (by omega:N<=9223372036854775807);have hlt:(i:Int)<cfg.ro:=by omega
  simp [-getElem?_pos,z8g,v2,v3,v6,v9,v8,v31,v32,hep,hS0,hS1,hS4,hS5,hS6,hS7,hSa,hSb,hSo,hlt,rr,hw,hlen,hap,hro,na,nz,z0,z1,z4,z5,z6,z7,y1,y2,yo,u,h12,h1o,h2o,h14,h15,h16,h17,h24,h25,h26,h27];exact zaj (n-1) (by omega) ⟨i+1,st.nx+4,0,st.nx,st.nx+1,s2,by omega,hb',by simp [v2],by simp [v3],by simp [v6],by simp [v9],by simp [yaa],by simp [v31],by simp,by simp,by omega,by simp,by omega,by simp,by omega,by simp,by omega,by omega,by omega,by omega,by omega,by omega,by omega,by omega,by omega,by omega,by omega,by simp [z0,z1,z4,z5,z6,z7,yo,u,nz,hS0,hS1,hS4,hS5,hS6,hS7,h12]⟩
 ·have hiN:i=N:=by omega
  subst hiN;have hge : ¬ ((i:Int)<cfg.ro):=by omega
  simp [-getElem?_pos,z8g,v2,v3,v6,v9,v8,v31,v32,hep,hS0,hS1,hS4,hS5,hS6,hS7,hSa,hSb,hSo,hge,hlen,nz,u,h12,h1o,h2o]
theorem y6l (p:Bool) (t:Ta) (cfg:Cfg) (ht:TaL 1048576 t) (hti : ∀ y∈t.lb,inI y) (hg:cfg.sg.length<=1048576):RUN T zp3 [taS p t,cfS cfg]=some ([stO (ze3 t cfg).1,bv (ze3 t cfg).2],[]):=by
 have e1:=y6k p t cfg ht hti hg;have hz:stO noS = .agg [.own 1 [],.own 1 []]:=rfl;cases hok:(zba t && zbf cfg) with
 | false =>
  have hs:zht t cfg=([],false):=by unfold zht; rw [hok]; rfl
  have hR:ze3 t cfg=(noS,false):=by unfold ze3; rw [hok]; rfl
  rw [hR,hz];rw [hs] at e1;simp only [taS,stO,cfS] at *;refine zae rfl rfl ?_;simp [-getElem?_pos,zu7,zu8,e1]
 | true =>
 have hb:=hok;simp only [Bool.and_eq_true] at hb;obtain ⟨ht1,hc⟩:=hb;obtain ⟨⟨ro1,ro8⟩,_⟩:=zpw hc;obtain ⟨N,hN8⟩ : ∃ N:Nat,cfg.ro=N:=⟨cfg.ro.toNat,by omega⟩;obtain ⟨sN,hsN,_⟩:=zph ht1 hc N (by omega);have hs:zht t cfg=(ze5 t cfg N,true):=by unfold zht; rw [hok,hN8]; rfl
 have hR:ze3 t cfg=(sN,true):=by unfold ze3; rw [hok,hN8]; simp [hsN]
 rw [hR];rw [hs] at e1;have hl:((ze5 t cfg N).map stC).length=N+1:=by rw [List.length_map,yaa]
 have hg:((ze5 t cfg N).map stC)[N]?=some [.own 1 (zab sN.sm),.own 1 (trs true sN.ts)]:=by
  unfold ze5;rw [List.getElem?_map,List.getElem?_map,List.getElem?_range (by omega)];simp [hsN,stC]
 simp only [taS,stO,cfS] at *;generalize (ze5 t cfg N).map stC=L at *;have hw:=w64 (x:=(N:Int)) (by omega) (by omega);have hLN:N<L.length:=by omega
 have s0:zbe L N 0=some (1,zab sN.sm):=by simp [zbe,hg]
 have s1:zbe L N 1=some (1,trs true sN.ts):=by simp [zbe,hg]
 have s2:zbe (zb8 L N 0 .undef) N 1=some (1,trs true sN.ts):=by
  unfold zb8;rw [hg];unfold zbe;rw [List.getElem?_set_self hLN];rfl
 refine zae rfl rfl ?_;simp [-getElem?_pos,zu7,zu8,e1,hl,hg,hw,s0,s1,s2]
theorem TaL.of128 {t:Ta} (h:TaL 128 t):TaL 1048576 t:=⟨Nat.le_trans h.ns (by omega),fun x hx=>Nat.le_trans (h.ss x hx) (by omega),Nat.le_trans h.nm (by omega),Nat.le_trans h.rw (by omega),fun x hx=>Nat.le_trans (h.rr x hx) (by omega),Nat.le_trans h.lb (by omega)⟩
theorem y6m (B:List Int) (hB:B.length<=9223372036854775807) : ∃ (t:Ta) (c:Cfg),TaL 128 t/\(∀ x∈t.lb,inI x)/\c.sg.length<=64/\RUN T zp2 [.sl 1 (zb0 B)]=some ([taO t,zkn c],[]):=by
 obtain ⟨t,c,p,s,ht,hl,hc,hp,h⟩:=y6j B hB;refine ⟨t,c,ht,hl,hc,zae rfl rfl ?_⟩;simp only [taO,zkn] at *;simp [-getElem?_pos,zyt,zyu,h]
theorem qb4 (ts:List (List Nd)) (row:List Int) (b:Int) {st:St} {Q:Ex->St->Prop} {i m nl ll:Nat} {nm:ByteArray} {rw:List (List Int)} (v5:st.V 5 = .ptr 8 none 0 0 0) (v3:st.V 3 = .ptr 4 none 0 0 0) (v11:st.V 11=iv i) (v12:st.V 12=iv b) (v13:st.V 13=iv (0:Nat)) (S8:st.S 8=some (.box [.ref 6 none 0 0 m,.ref 7 none 0 0 ts.length])) (S4:st.S 4=some (.box [.ref 0 none 0 0 nl,.v (.string nm),.ref 1 none 0 0 rw.length,.ref 2 none 0 0 ll])) (S7:st.S 7=some (.row 1 (trs true ts))) (S1:st.S 1=some (.row 1 (rws true rw))) (hr:rw[i]?=some row) (hrl:row.length<=1048576) (htl : ∀ x∈ts,x.length<=32) (hts:ts.length<=8)
  (hQ : ∀ s':St,(∀ k,k≠12->k≠13->s'.V k=st.V k)->s'.V 12=iv (zpn row ts b)->s'.S=st.S->s'.nx=st.nx->s'.ep=st.ep->Q (.exit 2) s') :
  W (zad T) (RUN T) (.loop zyq) st Q:=by
 refine zaq (fun n s' => ∃ k:Nat,k+n=ts.length/\(∀ j,j≠12->j≠13->s'.V j=st.V j)/\s'.V 12=iv (zpn row (ts.take k) b)/\s'.V 13=iv k/\s'.S=st.S/\s'.nx=st.nx/\s'.ep=st.ep) ?_ ts.length _ ⟨0,by omega,fun _ _ _=>rfl,by simpa [zpn] using v12,v13,rfl,rfl,rfl⟩;rintro n s' ⟨k,hk,hV,w12,w13,hS,hnx,hep⟩;have w5:s'.V 5 = .ptr 8 none 0 0 0:=by rw [hV 5 (by decide) (by decide)]; exact v5
 have w3:s'.V 3 = .ptr 4 none 0 0 0:=by rw [hV 3 (by decide) (by decide)]; exact v3
 have w11:s'.V 11=iv i:=by rw [hV 11 (by decide) (by decide)]; exact v11
 have hir:=(bD hr).1;have hr':=zc8 (q:=true) hr;simp only [cel,if_true] at hr'
 by_cases h:k<ts.length
 ·obtain ⟨x,hx⟩ : ∃ x,ts[k]?=some x:=⟨_,bG h⟩;have hx':=yay (q:=true) hx;simp only [zoy,if_true] at hx';have hxl:=htl x (bF hx);have e1:=yi2 x row (by omega) hrl;have hw:=wS h (by omega:ts.length<=9223372036854775807);have hsn:=ycf (r:=row) (tr:=x) (ts.take k) b;rw [<- zp0 hx] at hsn;simp [-getElem?_pos,zyq,zbe,w5,w3,w11,w12,w13,hS,S8,S4,S7,S1,h,hir,hr',hx',e1,hw];refine zaj (n-1) (by omega) ⟨k+1,by omega,fun j j1 j2 => ?_,by simp [hsn,hnx,hep]⟩;simp [j1,j2]; exact hV j j1 j2
 ·rw [List.take_of_length_le (by omega)] at w12;simp [-getElem?_pos,zyq,w5,w13,hS,S8,S7,h];exact hQ _ (fun j j1 j2=>by first | exact hV j j1 j2 | (simp; exact hV j j1 j2)) (by first | exact w12 | simp [w12]) (by first | exact hS | simp) (by first | exact hnx | simp [hnx]) (by first | exact hep | simp [hep])
theorem y73 (B:List Int) (hB:B.length<=9223372036854775807):RUN T zu6 [.sl 1 (zb0 B)]=some ([bv true],[]):=by
 have hb:=y33 (zb0 B);rw [qb2] at hb
 by_cases c0:(1048576:Int)<B.length
 ·refine zae rfl rfl ?_;simp [-getElem?_pos,zn5,zn6,hb,c0]
 obtain ⟨t,c,ht,hl,hc,hd⟩:=y6m B hB;have ht1:=ht.of128;have b1:=y6l true t c ht1 hl (by omega);have b2:=y6h true t c ht1 hl (by omega);have e1:=z6f true t ht1.up;have e2:=zxe c (by omega);have e3:=yja t.lb (by have:=ht.lb; omega) hl;cases hok:(zba t && zbf c) with
 | false =>
  have hR:ze3 t c=(noS,false):=by unfold ze3; rw [hok]; rfl
  rw [hR] at b1 b2;have hz1:zab noS.sm=[]:=rfl;have hz2:trs true noS.ts=[]:=rfl;simp only [taO,taS,zkn,cfS,stO,hz1,hz2] at *;cases h1:zba t with
  | false =>
   rw [h1] at e1;refine zae rfl rfl ?_;simp [-getElem?_pos,zn5,zn6,hb,c0,hd,b1,e1]
  | true =>
   rw [h1] at e1 hok;have h2:zbf c=false:=by simpa using hok
   rw [h2] at e2;refine zae rfl rfl ?_;simp [-getElem?_pos,zn5,zn6,hb,c0,hd,b1,e1,e2]
 | true =>
 have hk:=hok;simp only [Bool.and_eq_true] at hk;obtain ⟨h1,h2⟩:=hk;obtain ⟨⟨r1,r8⟩,_⟩:=zpw h2;obtain ⟨N,hN⟩ : ∃ N:Nat,c.ro=N:=⟨c.ro.toNat,by omega⟩;obtain ⟨s,k1,H⟩:=zph h1 h2 N (by omega);have hR:ze3 t c=(s,true):=by unfold ze3; rw [hok,hN]; simp [k1]
 rw [hR] at b1 b2;rw [h1] at e1;rw [h2] at e2;obtain ⟨t1,t2,t3,t4,t5,t6⟩:=zgo h1;have hsl:=H.st.l;have hsk:=H.st.k;have hsm:s.sm.length=t.rw.length:=by omega
 have htl:=H.tl;have hsum:=H.sum;have hrr:=ht1.rr;simp only [taO,taS,zkn,cfS,stO] at *;generalize (zb7 t.lb).1=bs0 at *;refine zae rfl rfl ?_;simp [-getElem?_pos,zn5,zn6,hb,c0,hd,b1,b2,e1,e2,e3];refine zaq (fun n st => ∃ i:Nat,i+n=t.rw.length/\st.V 3 = .ptr 4 none 0 0 0/\st.V 4 = .ptr 5 none 0 0 0/\st.V 5 = .ptr 8 none 0 0 0/\st.V 7 = .ptr 11 none 0 0 0/\st.V 9=iv bs0/\st.V 11=iv i/\st.ep=0/\11<st.nx/\st.S 8=some (.box [.ref 6 none 0 0 s.sm.length,.ref 7 none 0 0 s.ts.length])/\st.S 11=some (.box [.ref 9 none 0 0 s.sm.length,.ref 10 none 0 0 s.ts.length])/\st.S 4=some (.box [.ref 0 none 0 0 t.ns.length,.v (.string t.nm),.ref 1 none 0 0 t.rw.length,.ref 2 none 0 0 t.lb.length])/\st.S 5=some (.box [iv c.ro,iv c.de,iv c.bi,iv c.la,iv c.rw,iv c.nu,iv c.dn,.ref 3 none 0 0 c.sg.length])/\st.S 6=some (.row 1 (zab s.sm))/\st.S 9=some (.row 1 (zab s.sm))/\st.S 7=some (.row 1 (trs true s.ts))/\st.S 1=some (.row 1 (rws true t.rw))) ?_ t.rw.length _ ⟨0,by omega,by simp⟩;clear hd b1 b2 e1 e2 e3 hb;rintro n st ⟨i,hi,v3,v4,v5,v7,v9,v11,hep,hnx,hS8,hS11,hS4,hS5,hS6,hS9,hS7,hS1⟩
 by_cases h:i<t.rw.length
 ·obtain ⟨row,hx⟩ : ∃ x,t.rw[i]?=some x:=⟨_,bG h⟩;obtain ⟨p,hp⟩ : ∃ x,s.sm[i]?=some x:=⟨_,bG (by omega)⟩;have hp':=zay hp;have hpl:i<s.sm.length:=by omega
  have hv:=hsum i p row hp hx;have hw:=wS h (by omega:t.rw.length<=9223372036854775807);simp [-getElem?_pos,z8e,v3,v4,v5,v7,v9,v11,hep,hS8,hS11,hS4,hS5,hS6,hS9,hS7,hS1,h];refine qb4 s.ts row bs0 (m:=s.sm.length) (nl:=t.ns.length) (ll:=t.lb.length) (nm:=t.nm) (by simp [v5]) (by simp [v3]) (by simp [v11]) (by simp) (by simp) (by simp [hS8]) (by simp [hS4]) (by simp [hS7]) (by simp [hS1]) hx (hrr row (bF hx)) htl (by omega) fun s' hV w12 hS hnx' hep' => ?_;have g3:s'.V 3 = .ptr 4 none 0 0 0:=by rw [hV 3 (by decide) (by decide)]; simp [v3]
  have g4:s'.V 4 = .ptr 5 none 0 0 0:=by rw [hV 4 (by decide) (by decide)]; simp [v4]
  have g5:s'.V 5 = .ptr 8 none 0 0 0:=by rw [hV 5 (by decide) (by decide)]; simp [v5]
  have g7:s'.V 7 = .ptr 11 none 0 0 0:=by rw [hV 7 (by decide) (by decide)]; simp [v7]
  have g9:s'.V 9=iv bs0:=by rw [hV 9 (by decide) (by decide)]; simp [v9]
  have g11:s'.V 11=iv i:=by rw [hV 11 (by decide) (by decide)]; simp [v11]
  rw [hv] at w12;simp only at hS hnx' hep';have ng:(p=p)=True:=eq_true rfl;simp [-getElem?_pos,g3,g4,g5,g7,g9,g11,w12,hS,hep',hS8,hS11,hS4,hS5,hS6,hS9,hS7,hS1,hpl,hp',hw];exact zaj (n-1) (by omega) ⟨i+1,by omega,by simp [g3,g4,g5,g7,g9,hep',hep,hnx',hnx,hS,hS8,hS11,hS4,hS5,hS6,hS9,hS7,hS1]⟩
 ·have hro:c.ro=(s.ts.length:Int):=by omega
  simp [-getElem?_pos,z8e,v3,v4,v5,v7,v9,v11,hep,hS8,hS11,hS4,hS5,hS6,hS9,hS7,hS1,h,hro,hsm]
structure SmS (k:Nat) (s:Sta):Prop where
 sm:s.sm.length<=128
 ts:s.ts.length<=k
 tl : ∀ x∈s.ts,x.length<=32
 si : ∀ x∈s.sm,inI x
theorem SmS.new {t:Ta} (ht:TaL 128 t):SmS 0 (zc2 t).1:=by
 cases h:zba t with
 | false=>unfold zc2; rw [if_neg (by rw [h]; simp)]; exact ⟨by simp,by simp,by simp,by simp⟩
 | true =>
  have hb:=ymg h;have:=ht.lb;unfold zc2;rw [if_pos h];refine ⟨by simp; omega,by simp,by simp,fun x hx => ?_⟩;rw [(List.mem_replicate.mp hx).2];unfold inR at hb;unfold inI;omega
end Go.Pe
