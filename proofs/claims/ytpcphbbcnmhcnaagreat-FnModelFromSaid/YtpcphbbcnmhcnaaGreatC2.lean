/- What each function answers by the evaluator,and the law; for each answer its own conditions stand ahead of it. -/
import Derived.Test.YtpcphbbcnmhcnaaGreatC1
import Derived.Test.YtpcphbbcnmhcnaaGreatEvB2
import Derived.IntWalk
set_option linter.all false
namespace Go.Pe
open Go
theorem y12 {t:Ta} {cfg:Cfg} {n:Nat} {s:Sta} (h:zbh t=true) (hc:zbm cfg=true) (H:StI t n s) (hn:n≤7):(rnd t cfg s).2=true∧StI t (n+1) (rnd t cfg s).1∧∃ tr,(rnd t cfg s).1.ts=s.ts++[tr]∧(∀ x∈tr,inR 1099511627776 x.v)∧tr.length≤32∧∀ (i:Nat) (p:Int) (r:List Int),s.sm[i]?=some p→t.rw[i]?=some r→(rnd t cfg s).1.sm[i]?=some (p+evt tr r):=by
 obtain ⟨t1,t2,t3,t4,t5,t6⟩:=zhf h
 obtain ⟨_,_,hb,_⟩:=zs9 hc
 have hbi:zai cfg.bi 2 8=true:=za2.mpr (by omega)
 have hg:=y1t h hbi
 have hrw:=yhu h hbi
 obtain ⟨r1,r2,r3⟩:=y8d H (by omega)
 have hp:(2:Int) ^ n≤128:=by
  have h1:=Nat.pow_le_pow_right (n:=2) (by omega) hn
  have h2:(2:Int) ^ n=((2 ^ n:Nat):Int):=by push_cast; rfl
  omega
 have hp0:(0:Int)≤2 ^ n:=Int.pow_nonneg (by omega)
 have hs:(2:Int) ^ (n+1)=2*2 ^ n:=by rw [Int.pow_succ]; omega
 obtain ⟨R,hR⟩ : ∃ R:Int,R=4294967296*2 ^ n:=⟨_,rfl⟩
 rw [← hR] at r3
 have hR0:0≤R:=by omega
 have hR1:R≤549755813888:=by omega
 have hgr:(zc3 (zby t cfg.bi) (zbv t cfg.bi) (zdq t.lb s.sm).1 cfg).2=true:=by
  unfold zc3
  rw [if_pos]
  unfold zhv
  rw [hg,hc,decide_eq_true (by rw [r2,hrw]; omega),List.all_eq_true.mpr fun x hx => ?_]
  ·rfl
  ·have:=r3 x hx
   unfold inR at this
   exact za2.mpr (by omega)
 have hv:=yk5 (c:=zby t cfg.bi) (v:=zbv t cfg.bi) (cfg:=cfg) hR0 r3
 have hk:(zc3 (zby t cfg.bi) (zbv t cfg.bi) (zdq t.lb s.sm).1 cfg).1.all (zkj cfg)=true:=by
  rw [List.all_eq_true]
  intro x hx
  have:=hv x hx
  unfold inR at this
  unfold zkj shr
  rw [if_pos (by rw [hc]; exact za2.mpr (by omega))]
  simp
 have hT:zwl t (zby t cfg.bi) (zbv t cfg.bi) cfg s=((zc3 (zby t cfg.bi) (zbv t cfg.bi) (zdq t.lb s.sm).1 cfg).1.map (zhg cfg),true):=by
  unfold zwl
  rw [if_pos (by rw [r1,hgr]; rfl)]
  unfold zim
  rw [if_pos hk]
 have htl:((zc3 (zby t cfg.bi) (zbv t cfg.bi) (zdq t.lb s.sm).1 cfg).1.map (zhg cfg)).length≤32:=by rw [List.length_map]; exact ykd _ _ _ _
 have hv2:=yki (c:=cfg) hR0 hv
 unfold zim at hv2
 rw [if_pos hk] at hv2
 simp only at hv2
 generalize (zc3 (zby t cfg.bi) (zbv t cfg.bi) (zdq t.lb s.sm).1 cfg).1.map (zhg cfg)=tr at *
 have he:=ylf hR0 hv2
 have hsm : ∀ p∈s.sm,inR 551903297535 p:=by
  intro p hp'
  obtain ⟨i,hi⟩:=List.getElem?_of_mem hp'
  have hlt:=(List.getElem?_eq_some_iff.mp hi).1
  have hl:=H.l
  obtain ⟨y,hy⟩ : ∃ y,t.lb[i]?=some y:=⟨_,List.getElem?_eq_getElem (by omega)⟩
  have a1:=H.r i y p hy hi
  have a2:=z4r h y (List.mem_of_getElem? hy)
  rw [← hR] at a1
  unfold inR at *
  omega
 have hlr:s.sm.length=t.rw.length:=by have:=H.l; omega
 obtain ⟨q,q1,q2,q3⟩:=ykp (tr:=tr) hlr (fun p hp' r hr=>by
  have a1:=hsm p hp'
  have a2:=he r
  unfold inR at *
  unfold adi
  rw [if_pos (by omega)])
 have hrnd:rnd t cfg s=(⟨q,s.ts++[tr]⟩,true):=by
  unfold rnd zip
  rw [if_pos ⟨h,rfl,rfl⟩]
  unfold z4p
  rw [hT,if_pos rfl]
  unfold zsy
  simp only [q1]
 rw [hrnd]
 refine ⟨rfl,⟨by rw [q2]; exact H.l,by simp [H.k],fun i y p' e1 e2 => ?_⟩,tr,rfl,fun x hx => ?_,htl,q3⟩
 ·have hlt:=(List.getElem?_eq_some_iff.mp e1).1
  have hl:=H.l
  obtain ⟨p,hp'⟩ : ∃ p,s.sm[i]?=some p:=⟨_,List.getElem?_eq_getElem (by omega)⟩
  obtain ⟨r,hr⟩ : ∃ r,t.rw[i]?=some r:=⟨_,List.getElem?_eq_getElem (by omega)⟩
  have a1:=q3 i p r hp' hr
  simp only at e2
  rw [a1] at e2
  cases e2
  have a2:=H.r i y p e1 hp'
  have a3:=he r
  rw [← hR] at a2
  rw [hs]
  unfold inR at *
  omega
 ·have:=hv2 x hx
  unfold inR at *
  omega
open Classical in
theorem yfr (p q:Bool) (L M:List (List Int)) (hl:L.length≤9223372036854775807) (hll : ∀ l∈L,l.length≤9223372036854775807):RUN T zm2 [.sl 1 (rws p L),.sl 1 (rws q M)]=some ([bv (decide (L=M))],[]):=by
 refine zaf yc0 rfl ?_
 rcases Classical.propComplete ((L.length:Int)=M.length) with hlm | hlm
 case inr =>
  simp [-getElem?_pos,zuk,zul,hlm,zmb hlm]
 simp [-getElem?_pos,zuk,zul,hlm]
 have hlen:L.length=M.length:=by simp at hlm; omega
 refine zas (fun n st => ∃ i:Nat,i+n=L.length∧(∀ j,j<i→L[j]?=M[j]?)∧st.V 0 = .sl 1 (rws p L)∧st.V 1 = .sl 1 (rws q M)∧st.V 5=iv i) ?_ L.length _ ⟨0,by simp [hlen]⟩
 rintro n st ⟨i,hi,hj,v0,v1,v5⟩
 simp [z91,v0,v5]
 refine zao (fun h => ?_) (fun h => ?_)
 ·simp at h
  obtain ⟨x,hx⟩ : ∃ x,L[i]?=some x:=⟨_,List.getElem?_eq_getElem h⟩
  obtain ⟨y,hy⟩ : ∃ y,M[i]?=some y:=⟨_,List.getElem?_eq_getElem (by omega)⟩
  have hx':=ze6 (q:=p) hx
  have hy':=ze6 (q:=q) hy
  have hw:=wS h hl
  have him:i<M.length:=by omega
  have hs:=ye9 x y (hll x (List.mem_of_getElem? hx))
  by_cases e:x=y
  ·rw [decide_eq_true e] at hs
   simp [-getElem?_pos,v0,v1,v5,hx',hy',h,him,hw,hs]
   exact zal (n-1) (by omega) ⟨i+1,by omega,zeq hj (by rw [hx,hy,e]),by simp [v0],by simp [v1],by simp⟩
  ·rw [decide_eq_false e] at hs
   simp [-getElem?_pos,v0,v1,v5,hx',hy',h,him,hw,hs,zkh hx hy e]
 ·simp at h
  simp [zj3 hlen h hj]
open Classical in
theorem yy5 (p q:Bool) (c v c' v':List (List Int)) (hc:c.length≤9223372036854775807) (hcl : ∀ l∈c,l.length≤9223372036854775807) (hv:v.length≤9223372036854775807) (hvl : ∀ l∈v,l.length≤9223372036854775807):RUN T zp3 [.agg [.sl 1 (rws p c),.sl 1 (rws p v)],.agg [.sl 1 (rws q c'),.sl 1 (rws q v')]]=some ([bv (decide (c=c') && decide (v=v'))],[]):=by
 have h1:=yfr p q c c' hc hcl
 have h2:=yfr p q v v' hv hvl
 generalize decide (c=c')=b1 at *
 generalize decide (v=v')=b2 at *
 refine zaf ybz rfl ?_
 cases b1 <;> simp [-getElem?_pos,zyi,zyj,h1,h2]
theorem y5s {l m:List Int} : ∀ x∈(zdq l m).1,inI x:=by
 unfold zdq
 split
 ·rename_i hl
  cases e:res l m with
  | none=>intro x hx; cases hx
  | some r =>
   obtain ⟨h1,h2⟩:=z6e hl e
   intro x hx
   replace hx:x∈r:=hx
   obtain ⟨i,hi⟩:=List.getElem?_of_mem hx
   have hlt:=(List.getElem?_eq_some_iff.mp hi).1
   obtain ⟨a,ha⟩ : ∃ a,l[i]?=some a:=⟨_,List.getElem?_eq_getElem (by omega)⟩
   obtain ⟨b,hb⟩ : ∃ b,m[i]?=some b:=⟨_,List.getElem?_eq_getElem (by omega)⟩
   obtain ⟨rfl,h4,h5⟩:=h2 i a b x ha hb hi
   exact ⟨h4,h5⟩
 ·intro x hx; cases hx
theorem y58 {l m:List Int}:(zdq l m).1.length≤l.length∧((zdq l m).2=true→l.length=m.length):=by
 unfold zdq
 split
 ·rename_i hl
  cases e:res l m with
  | none=>simp
  | some r=>exact ⟨Nat.le_of_eq (z6e hl e).1,fun _=>hl⟩
 ·simp
theorem y1k {c v:List (List Int)} {g:List Int} {cfg:Cfg} (h:(zc3 c v g cfg).2=true) : ∀ x∈(zc3 c v g cfg).1,inR 2199023255552 x.v:=by
 refine yk5 (by omega) fun x hx => ?_
 unfold zc3 at h
 split at h
 ·rename_i ht
  exact (z33 ht).2.2.2 x hx
 ·cases h
theorem y7n {tr:List Nd} {ps:List Int} {rs:List (List Int)} {i:Nat} {p:Int} {r:List Int} (hp:ps[i]?=some p) (hr:rs[i]?=some r):zhe tr (ps.drop i) (rs.drop i)=if (adi p (evt tr r)).2=true then (zhe tr (ps.drop (i+1)) (rs.drop (i+1))).map ((adi p (evt tr r)).1 :: ·) else none:=by
 rw [zct hp,zct hr,zhe]
theorem y0o (M:List (List Nd)) (t:List Nd):trs true M++[[.own 5 (t.map nd)]]=trs true (M++[t]):=by simp [trs,zsn]
theorem TaL.up {t:Ta} (ht:TaL 1048576 t):TaL 9223372036854775807 t:=⟨Nat.le_trans ht.ns (by omega),fun x hx=>Nat.le_trans (ht.ss x hx) (by omega),Nat.le_trans ht.nm (by omega),Nat.le_trans ht.rw (by omega),fun x hx=>Nat.le_trans (ht.rr x hx) (by omega),Nat.le_trans ht.lb (by omega)⟩
open Classical in
set_option maxHeartbeats 8000000 in
set_option maxRecDepth 8000 in
theorem yy6 (p q r:Bool) (t:Ta) (c v:List (List Int)) (cfg:Cfg) (s:Sta) (ht:TaL 1048576 t) (hti : ∀ y∈t.lb,inI y) (hcl:c.length≤1048576) (hc : ∀ l∈c,l.length≤1048576) (hvl:v.length≤1048576) (hv : ∀ l∈v,l.length≤1048576) (hg:cfg.sg.length≤1048576) (hs:zly 1048576 s) (hsi : ∀ x∈s.sm,inI x):RUN T zpe [taS p t,.agg [.sl 1 (rws q c),.sl 1 (rws q v)],cfS cfg,stS r s]=some ([stO (zip t c v cfg s).1,bv (zip t c v cfg s).2],[]):=by
 have e1:=z22 p t ht.up
 have e2:=yfp p t cfg.bi ht
 have e3:=yy5 q true c v (zby t cfg.bi) (zbv t cfg.bi) (by omega) (fun l hl=>Nat.le_trans (hc l hl) (by omega)) (by omega) (fun l hl=>Nat.le_trans (hv l hl) (by omega))
 have r1:=yxe t.lb s.sm ht.lb hs.sm hti hsi
 have hrl:=y58 (l:=t.lb) (m:=s.sm)
 have hri:=y5s (l:=t.lb) (m:=s.sm)
 have hrw:=ht.rw
 have hsm:=hs.sm
 have hlb:=ht.lb
 have hz:stO noS = .agg [.own 1 [],.own 1 []]:=rfl
 simp only [taS,stS] at *
 cases ht1:zbh t with
 | false =>
  have hR:zip t c v cfg s=(noS,false):=by unfold zip; rw [if_neg (by rw [ht1]; simp)]
  rw [hR,hz]
  rw [ht1] at e1
  refine zaf zn9 rfl ?_
  simp [-getElem?_pos,zjs,zjt,e1]
 | true =>
 rw [ht1] at e1
 have htr:=zhf ht1
 by_cases hcg:c=zby t cfg.bi∧v=zbv t cfg.bi
 case neg =>
  have hR:zip t c v cfg s=(noS,false):=by unfold zip; rw [if_neg fun h=>hcg h.2]
  have hd:(decide (c=zby t cfg.bi) && decide (v=zbv t cfg.bi))=false:=by
   cases h1:decide (c=zby t cfg.bi) with
   | false=>rfl
   | true=>exact decide_eq_false fun h=>hcg ⟨of_decide_eq_true h1,h⟩
  rw [hR,hz]
  rw [hd] at e3
  generalize zby t cfg.bi=GC at *
  generalize zbv t cfg.bi=GW at *
  refine zaf zn9 rfl ?_
  simp [-getElem?_pos,zjs,zjt,e1,e2,e3]
 case pos =>
 have hR:zip t c v cfg s=z4p t c v cfg s:=by unfold zip; rw [if_pos ⟨ht1,hcg⟩]
 have hd:(decide (c=zby t cfg.bi) && decide (v=zbv t cfg.bi))=true:=by rw [decide_eq_true hcg.1,decide_eq_true hcg.2]; rfl
 rw [hR]
 rw [hd] at e3
 generalize zby t cfg.bi=GC at *
 generalize zbv t cfg.bi=GW at *
 clear hR hd hcg ht1
 unfold z4p zwl
 generalize zdq t.lb s.sm=QQ at *
 obtain ⟨RS,rb⟩:=QQ
 simp only at r1 hrl hri
 have g1:=yyp q c v RS cfg hc hv (by omega) hg hri
 have hgl:=ykd (c:=c) (v:=v) (g:=RS) (cfg:=cfg)
 have hgv:=y1k (c:=c) (v:=v) (g:=RS) (cfg:=cfg)
 have s1:=yyz (zc3 c v RS cfg).1 cfg (by omega) hg
 have hsl:=y5n (c:=cfg) (t:=(zc3 c v RS cfg).1)
 have hsv:=fun h=>yki (c:=cfg) (t:=(zc3 c v RS cfg).1) (R:=2199023255552) (by omega) (hgv h)
 have t1:=yfm r s.ts hs.ts hs.tl
 generalize zc3 c v RS cfg=QQ at *
 obtain ⟨G,gb⟩:=QQ
 simp only at g1 hgl s1 hsl hsv
 generalize zim cfg G=QQ at *
 obtain ⟨tr,sb⟩:=QQ
 simp only at s1 hsl hsv
 cases rb with
 | false =>
  simp only [Bool.false_and,Bool.false_eq_true,if_false]
  rw [hz]
  refine zaf zn9 rfl ?_
  simp [-getElem?_pos,zjs,zjt,e1,e2,e3,r1]
 | true =>
 cases gb with
 | false =>
  simp only [Bool.and_false,Bool.false_eq_true,if_false]
  rw [hz]
  refine zaf zn9 rfl ?_
  simp [-getElem?_pos,zjs,zjt,e1,e2,e3,r1,g1,s1]
 | true =>
 cases sb with
 | false =>
  simp only [Bool.and_true,if_true,Bool.false_eq_true,if_false]
  rw [hz]
  refine zaf zn9 rfl ?_
  simp [-getElem?_pos,zjs,zjt,e1,e2,e3,r1,g1,s1]
 | true =>
 simp only [Bool.and_true,if_true]
 have hev:=ylf (t:=tr) (by omega) (hsv rfl)
 have hlr:s.sm.length=t.rw.length:=by have:=hrl.2 rfl; omega
 have hts:=y0o s.ts tr
 have hrt:zaj 24 (s.ts.length+1)=true:=by have:=hs.ts; simp [zaj]; omega
 have hr24:zaj 24 1=true:=by decide
 clear hsv hgv
 refine zaf zn9 rfl ?_
 simp [-getElem?_pos,zjs,zjt,e1,e2,e3,r1,g1,s1,t1,hts,hrt,hr24]
 refine zas (fun n st => ∃ (i:Nat) (m:List Int) (x:PV),i+n=s.sm.length∧m.length=i∧zhe tr s.sm t.rw=(zhe tr (s.sm.drop i) (t.rw.drop i)).map (m ++ ·)∧st.V 4 = .ptr 0 none 0 0 0∧st.V 7 = .ptr 3 none 0 0 0∧st.V 8 = .ptr 4 none 0 0 0∧st.V 14 = .ptr 11 none 0 0 0∧st.V 16 = .ptr 15 none 0 0 0∧st.V 17=iv i∧st.ep=0∧15<st.nx∧LC st.S st.nx 15 m x∧st.S 0=some (.box [.sl 1 (zaw t.ns),.v (.string t.nm),.sl 1 (rws p t.rw),.sl 1 (zab t.lb)])∧st.S 3=some (.box [.sl 1 (zab s.sm),.sl 1 (trs r s.ts)])∧st.S 4=some (.box [.e0,.e0])∧st.S 10=some (.shadow 5 (tr.map nd) 0)∧st.S 11=some (.box [.ref 10 none 0 0 tr.length])∧st.S 14=some (.row 1 (trs true (s.ts++[tr])))∧st.S 15=some (.box [x,.ref 14 none 0 0 (s.ts.length+1)])) ?_ s.sm.length _ ⟨0,[],.e0,by omega,rfl,by simp,by simp,by simp,by simp,by simp,by simp,by simp,by simp,by simp,.inl ⟨rfl,rfl⟩,by simp,by simp,by simp,by simp,by simp,by simp,by simp⟩
 rintro n st ⟨i,m,x,hi,hm,hE,v4,v7,v8,v14,v16,v17,hep,hnx,hx,hS0,hS3,hS4,hS10,hS11,hS14,hS15⟩
 have z0:=fr (show 0<st.nx by omega)
 have z3:=fr (show 3<st.nx by omega)
 have z4:=fr (show 4<st.nx by omega)
 have z10:=fr (show 10<st.nx by omega)
 have z11:=fr (show 11<st.nx by omega)
 have z14:=fr (show 14<st.nx by omega)
 have z15:=fr hnx
 have n14 : ¬ st.nx=14:=by omega
 by_cases h:i<s.sm.length
 ·obtain ⟨y,hy⟩ : ∃ x,s.sm[i]?=some x:=⟨_,List.getElem?_eq_getElem h⟩
  obtain ⟨w,hw⟩ : ∃ x,t.rw[i]?=some x:=⟨_,List.getElem?_eq_getElem (by omega)⟩
  have hy':=za7 hy
  have hw':=ze6 (q:=p) hw
  have hir:i<t.rw.length:=by omega
  have hwS:=wS h (by omega:s.sm.length≤9223372036854775807)
  have v1:=ywu tr w (by omega) (ht.rr w (List.mem_of_getElem? hw))
  have hei:=hev w
  have a1:=z20 y (evt tr w) (hsi y (List.mem_of_getElem? hy)) (by unfold inR at hei; unfold inI; omega)
  rw [y7n hy hw] at hE
  generalize evt tr w=ew at *
  generalize adi y ew=QQ at *
  obtain ⟨ad,ab⟩:=QQ
  simp only at a1 hE
  cases ab with
  | false =>
   have hA:zsy t tr s=(noS,false):=by unfold zsy; rw [hE]; rfl
   rw [hA,hz]
   simp [-getElem?_pos,zry,v4,v7,v8,v14,v16,v17,hep,hS0,hS3,hS4,hS10,hS11,hS14,hS15,h,hy',hw',hir,v1,a1]
  | true =>
   rw [if_pos rfl] at hE
   have hE2:zhe tr s.sm t.rw=(zhe tr (s.sm.drop (i+1)) (t.rw.drop (i+1))).map ((m++[ad]) ++ ·):=by
    rw [hE,Option.map_map]; congr 1; funext l; simp
   have hr8:zaj 8 1=true:=by decide
   have hr8':=zcb (n:=m.length+1) (by omega)
   have hsn:=zb8 m ad
   rcases hx with ⟨rfl,rfl⟩ | ⟨o,e,rfl,ho,hox,hSo⟩
   ·simp [-getElem?_pos,zry,v4,v7,v8,v14,v16,v17,hep,hS0,hS3,hS4,hS10,hS11,hS14,hS15,h,hy',hw',hir,v1,a1,hwS,hr8,z0,z3,z4,z10,z11,z14,z15]
    exact zal (n-1) (by omega) ⟨i+1,[ad],.ref (st.nx+1) none 0 0 1,by omega,by simp at hm; simp; omega,by simpa using hE2,by simp [v4],by simp [v7],by simp [v8],by simp [v14],by simp [v16],by simp,by simp [hep],by simp; omega,.inr ⟨st.nx+1,0,by simp,by omega,by simp,by simp [zab,n14]⟩,by simp [z0,hS0],by simp [z3,hS3],by simp [z4,hS4],by simp [z10,hS10],by simp [z11,hS11],by simp [z14,hS14,n14],by simp [n14]⟩
   ·have y1:=fr hox
    have y2:=fr (show 0<o by omega)
    have y3:=fr (show 3<o by omega)
    have y4:=fr (show 4<o by omega)
    have y5:=fr (show 10<o by omega)
    have y6:=fr (show 11<o by omega)
    have y7:=fr (show 14<o by omega)
    have y8:=fr ho
    simp [-getElem?_pos,zry,v4,v7,v8,v14,v16,v17,hep,hS0,hS3,hS4,hS10,hS11,hS14,hS15,hSo,h,hy',hw',hir,v1,a1,hwS,hr8,hr8',hsn,z0,z3,z4,z10,z11,z14,z15,y1,y2,y3,y4,y5,y6,y7,y8]
    exact zal (n-1) (by omega) ⟨i+1,m++[ad],.ref (st.nx+1) none 0 0 (m.length+1),by omega,by simp [hm],hE2,by simp [v4],by simp [v7],by simp [v8],by simp [v14],by simp [v16],by simp,by simp [hep],by simp; omega,.inr ⟨st.nx+1,0,by simp,by omega,by simp,by simp [n14]⟩,by simp [z0,y2,hS0],by simp [z3,y3,hS3],by simp [z4,y4,hS4],by simp [z10,y5,hS10],by simp [z11,y6,hS11],by simp [z14,y7,hS14,n14],by simp [n14]⟩
 ·have hA:zsy t tr s=(⟨m,s.ts++[tr]⟩,true):=by
   unfold zsy
   rw [hE,List.drop_eq_nil_of_le (by omega),List.drop_eq_nil_of_le (by omega)]
   simp [zhe]
  rw [hA]
  rcases hx with ⟨rfl,rfl⟩ | ⟨o,e,rfl,ho,hox,hSo⟩
  ·simp [-getElem?_pos,zry,v4,v7,v8,v14,v16,v17,hep,hS0,hS3,hS4,hS10,hS11,hS14,hS15,h,z0,z3,z4,z10,z11,z14,z15]
  ·have y4:=fr (show 4<o by omega)
   have y7:=fr (show 14<o by omega)
   have y8:=fr ho
   simp [-getElem?_pos,zry,v4,v7,v8,v14,v16,v17,hep,hS0,hS3,hS4,hS10,hS11,hS14,hS15,hSo,h,z0,z3,z4,z10,z11,z14,z15,y4,y7,y8]
theorem yml {r:List Int} {tr:List Nd} : ∀ (ts:List (List Nd)) (a:Int),zhx r (ts++[tr]) a=IntKind.i64.wrap (zhx r ts a+evt tr r)
 | [],a=>rfl
 | x::ts,a=>yml ts _
structure BI (t:Ta) (n:Nat) (s:Sta):Prop where
 st:StI t n s
 tl : ∀ x∈s.ts,x.length≤32
 sum : ∀ (i:Nat) (p:Int) (r:List Int),s.sm[i]?=some p→t.rw[i]?=some r→zhx r s.ts (zbs t.lb).1=p
theorem StI.inI {t:Ta} (h:zbh t=true) {n:Nat} {s:Sta} (H:StI t n s) (hn:n≤8) : ∀ x∈s.sm,inI x:=by
 intro p hp
 have hp2:(2:Int) ^ n≤256:=by
  have h1:=Nat.pow_le_pow_right (n:=2) (by omega) hn
  have h2:(2:Int) ^ n=((2 ^ n:Nat):Int):=by push_cast; rfl
  omega
 obtain ⟨i,hi⟩:=List.getElem?_of_mem hp
 have hlt:=(List.getElem?_eq_some_iff.mp hi).1
 have hl:=H.l
 obtain ⟨y,hy⟩ : ∃ y,t.lb[i]?=some y:=⟨_,List.getElem?_eq_getElem (by omega)⟩
 have a1:=H.r i y p hy hi
 have a2:=z4r h y (List.mem_of_getElem? hy)
 unfold inR at a1 a2
 unfold Go.Pe.inI
 omega
theorem BI.new {t:Ta} (h:zbh t=true):BI t 0 (zfm t).1:=by
 refine ⟨StI.new h,?_,fun i p r hp hr => ?_⟩
 ·unfold zfm; rw [if_pos h]; intro x hx; cases hx
 ·unfold zfm at hp ⊢
  rw [if_pos h] at hp ⊢
  exact ((List.mem_replicate.mp (List.mem_of_getElem? hp)).2).symm
theorem BI.next {t:Ta} {cfg:Cfg} (h:zbh t=true) (hc:zbm cfg=true) {n:Nat} (hn:n≤7) {s:Sta} (H:BI t n s):(rnd t cfg s).2=true∧BI t (n+1) (rnd t cfg s).1:=by
 obtain ⟨r1,r2,tr,r3,r4,r5,r6⟩:=y12 h hc H.st hn
 refine ⟨r1,r2,fun x hx => ?_,fun i p r hp hr => ?_⟩
 ·rw [r3] at hx
  rcases List.mem_append.mp hx with hx | hx
  ·exact H.tl x hx
  ·simp at hx; subst hx; exact r5
 ·have hi:=r2.inI h (by omega) p (List.mem_of_getElem? hp)
  have hlt:=(List.getElem?_eq_some_iff.mp hr).1
  have hl:=H.st.l
  have:=zhf h
  obtain ⟨p0,hp0⟩ : ∃ y,s.sm[i]?=some y:=⟨_,List.getElem?_eq_getElem (by omega)⟩
  have e:=r6 i p0 r hp0 hr
  rw [hp] at e
  cases e
  rw [r3,yml,H.sum i p0 r hp0 hr]
  unfold Go.Pe.inI at hi
  exact w64 hi.1 hi.2
theorem zvt {t:Ta} {cfg:Cfg} (h:zbh t=true) (hc:zbm cfg=true) : ∀ n:Nat,n≤8→∃ s,zl6 t cfg n=some s∧BI t n s
 | 0,_=>⟨_,rfl,BI.new h⟩
 | n+1,hn=>by
  obtain ⟨s,h1,h2⟩:=zvt h hc n (by omega)
  obtain ⟨h3,h4⟩:=BI.next h hc (by omega) h2
  exact ⟨_,by rw [zl6,h1]; simp only [Option.bind_some,h3,if_true],h4⟩
theorem BI.lens {t:Ta} {n:Nat} {s:Sta} (h:zbh t=true) (H:BI t n s) (hn:n≤8):zly 1048576 s:=by
 obtain ⟨t1,t2,t3,t4,t5,t6⟩:=zhf h
 have:=H.st.l
 have:=H.st.k
 exact ⟨by omega,by omega,fun x hx=>Nat.le_trans (H.tl x hx) (by omega)⟩
set_option maxHeartbeats 4000000 in
set_option maxRecDepth 8000 in
theorem yfs (p:Bool) (t:Ta) (cfg:Cfg) (ht:TaL 1048576 t) (hti : ∀ y∈t.lb,inI y) (hg:cfg.sg.length≤1048576):RUN T zmi [taS p t,cfS cfg]=some ([stO (zcl t cfg).1,bv (zcl t cfg).2],[]):=by
 have e1:=yy0 p t ht hti
 have e2:=zva cfg (by omega)
 have e3:=yfp p t cfg.bi ht
 have hz:stO noS = .agg [.own 1 [],.own 1 []]:=rfl
 have rn:=fun s=>yy6 p true true t (zby t cfg.bi) (zbv t cfg.bi) cfg s ht hti
 simp only [taS,stO,cfS] at *
 cases ht1:zbh t with
 | false =>
  have hR:zcl t cfg=(noS,false):=by unfold zcl; rw [ht1]; rfl
  have hN:zfm t=(noS,false):=by unfold zfm; rw [if_neg (by rw [ht1]; simp)]; rfl
  rw [hR]
  rw [hN] at e1
  have hz1:zab noS.sm=[]:=rfl
  have hz2:trs true noS.ts=[]:=rfl
  rw [hz1,hz2] at e1 ⊢
  refine zaf z2x rfl ?_
  simp [-getElem?_pos,zru,zrv,e1]
 | true =>
 have hN:(zfm t).2=true:=by unfold zfm; rw [if_pos ht1]
 rw [hN] at e1
 cases hc:zbm cfg with
 | false =>
  have hR:zcl t cfg=(noS,false):=by unfold zcl; rw [ht1,hc]; rfl
  rw [hR]
  have hz1:zab noS.sm=[]:=rfl
  have hz2:trs true noS.ts=[]:=rfl
  rw [hz1,hz2]
  rw [hc] at e2
  generalize (zfm t).1=s0 at *
  refine zaf z2x rfl ?_
  simp [-getElem?_pos,zru,zrv,e1,e2]
 | true =>
 rw [hc] at e2
 obtain ⟨t1,t2,t3,t4,t5,t6⟩:=zhf ht1
 obtain ⟨⟨ro1,ro8⟩,_,hbi,_⟩:=zs9 hc
 obtain ⟨N,hN8⟩ : ∃ N:Nat,cfg.ro=N:=⟨cfg.ro.toNat,by omega⟩
 obtain ⟨sN,hsN,_⟩:=zvt ht1 hc N (by omega)
 have hR:zcl t cfg=(sN,true):=by unfold zcl; rw [ht1,hc,hN8]; simp [hsN]
 rw [hR]
 have hwi:zai cfg.bi 2 8=true:=za2.mpr (by omega)
 obtain ⟨l1,l2⟩:=yjm ht1 hwi
 obtain ⟨l3,l4⟩:=y7k (t:=t) (b:=cfg.bi)
 have rn:=fun s=>rn s (by omega) (fun l hl=>Nat.le_trans (l3 l hl) (by omega)) (by omega) (fun l hl=>by rw [l4 l hl]; omega) hg
 have hnx:=fun (i:Nat) (hn:i≤7) (s:Sta) => @BI.next t cfg ht1 hc i hn s
 have hrd : ∀ s,zip t (zby t cfg.bi) (zbv t cfg.bi) cfg s=rnd t cfg s:=fun _=>rfl
 simp only [hrd] at rn
 have hst:=fun i=>zvt ht1 hc i
 obtain ⟨s0,hs0⟩ : ∃ s0,s0=(zfm t).1:=⟨_,rfl⟩
 rw [← hs0] at e1
 have hb0:zl6 t cfg 0=some s0:=by rw [hs0]; rfl
 generalize zby t cfg.bi=GC at *
 generalize zbv t cfg.bi=GW at *
 refine zaf z2x rfl ?_
 simp [-getElem?_pos,zru,zrv,e1,e2,e3]
 refine zas (fun n st => ∃ (i o1 o2:Nat) (s:Sta),i+n=N∧zl6 t cfg i=some s∧st.V 2 = .ptr 0 none 0 0 0∧st.V 3 = .ptr 1 none 0 0 0∧st.V 4 = .ptr 2 none 0 0 0∧st.V 6 = .ptr 5 none 0 0 0∧st.V 8 = .ptr 8 none 0 0 0∧st.V 9=iv i∧st.ep=0∧2<o1∧o1<st.nx∧2<o2∧o2<st.nx∧¬ o1=o2∧¬ o1=5∧¬ o2=5∧¬ o1=6∧¬ o2=6∧¬ o1=7∧¬ o2=7∧¬ o1=8∧¬ o2=8∧8<st.nx∧st.S 0=some (.box [.sl 1 (zaw t.ns),.v (.string t.nm),.sl 1 (rws p t.rw),.sl 1 (zab t.lb)])∧st.S 1=some (.box [iv cfg.ro,iv cfg.de,iv cfg.bi,iv cfg.la,iv cfg.rw,iv cfg.nu,iv cfg.dn,.sl 1 (zab cfg.sg)])∧st.S 2=some (.box [.e0,.e0])∧st.S 5=some (.box [.ref o1 none 0 0 s.sm.length,.ref o2 none 0 0 s.ts.length])∧st.S 6=some (.row 1 (rws true GC))∧st.S 7=some (.row 1 (rws true GW))∧st.S 8=some (.box [.ref 6 none 0 0 GC.length,.ref 7 none 0 0 GW.length])∧st.S o1=some (.row 1 (zab s.sm))∧st.S o2=some (.row 1 (trs true s.ts))) ?_ N _ ⟨0,3,4,s0,by omega,hb0,?_⟩
 ·rintro n st ⟨i,o1,o2,s,hi,hbs,v2,v3,v4,v6,v8,v9,hep,ho1,ho1x,ho2,ho2x,ho12,h15,h25,h16,h26,h17,h27,h18,h28,hnx8,hS0,hS1,hS2,hS5,hS6,hS7,hS8,hSa,hSb⟩
  have nz : ¬ st.nx=0∧¬ st.nx=1∧¬ st.nx=4∧¬ st.nx=5∧¬ st.nx=6∧¬ st.nx=7:=by omega
  have z0:=fr (show 0<st.nx by omega)
  have z1:=fr (show 1<st.nx by omega)
  have z2:=fr (show 2<st.nx by omega)
  have z5:=fr (show 5<st.nx by omega)
  have z6:=fr (show 6<st.nx by omega)
  have z7:=fr (show 7<st.nx by omega)
  have z8:=fr hnx8
  have y1:=fr ho1x
  have y2:=fr ho2x
  have h21 : ¬ o2=o1:=fun e=>ho12 e.symm
  by_cases h:i<N
  ·obtain ⟨s',hs',HB⟩:=hst i (by omega)
   rw [hbs] at hs'
   cases hs'
   obtain ⟨k1,k2⟩:=hnx i (by omega) s HB
   have rr:=rn s (HB.lens ht1 (by omega)) (HB.st.inI ht1 (by omega))
   rw [k1] at rr
   have hb':zl6 t cfg (i+1)=some (rnd t cfg s).1:=by rw [zl6,hbs]; simp only [Option.bind_some,k1,if_true]
   generalize (rnd t cfg s).1=s2 at *
   simp only [stS] at rr
   have hw:=wS h (by omega:N≤9223372036854775807)
   have hlt:(i:Int)<cfg.ro:=by omega
   simp [-getElem?_pos,z41,v2,v3,v4,v6,v8,v9,hep,hS0,hS1,hS2,hS5,hS6,hS7,hS8,hSa,hSb,hlt,rr,hw,z0,z1,z2,z5,z6,z7,z8,y1,y2,ho12,h21]
   exact zal (n-1) (by omega) ⟨i+1,st.nx,st.nx+1,s2,by omega,hb',by simp [v2],by simp [v3],by simp [v4],by simp [v6],by simp [v8],by simp,by simp [hep],by omega,by simp; try omega,by omega,by simp; try omega,by omega,by omega,by omega,by omega,by omega,by omega,by omega,by omega,by omega,by simp; omega,by simp [z0,hS0,nz],by simp [z1,hS1,nz],by simp [z2,hS2,nz],by simp [z5,nz],by simp [z6,hS6,nz],by simp [z7,hS7,nz],by simp [z8,hS8,nz],by simp [nz],by simp [nz]⟩
  ·have hiN:i=N:=by omega
   subst hiN
   rw [hbs] at hsN
   cases hsN
   have hge : ¬ ((i:Int)<cfg.ro):=by omega
   simp [-getElem?_pos,z41,v2,v3,v4,v6,v8,v9,hep,hS0,hS1,hS2,hS5,hS6,hS7,hS8,hSa,hSb,hge,show ¬ o1=2 by omega,show ¬ o2=2 by omega,z0,z1,z2,z5,z6,z7,z8,y1,y2,ho12,h21]
 ·simp
def PTb (v:PV):Prop := ∃ t:Ta,v=taO t∧TaL 128 t∧∀ x∈t.lb,inI x
theorem yk8 {t:Ta} (h:zbh t=true) : ∀ y∈t.lb,inI y:=by
 unfold zbh at h
 simp only [Bool.and_eq_true,List.all_eq_true] at h
 intro y hy
 have:=za2.mp (h.1.2 y hy)
 unfold inI
 omega
set_option maxHeartbeats 8000000 in
set_option maxRecDepth 8000 in
theorem yy7 (B:List Int) (p:Nat) (s:Int) (hp:p≤B.length) (hB:B.length≤9223372036854775807) : ∃ r,RUN T zqc [.bx [.sl 1 (zbl B),iv p,iv s]]=some r∧zfl B PTb r:=by
 refine zfe yca rfl ?_
 obtain ⟨r1,h1,v1,p1,s1,⟨t,rfl,ht,hok⟩,hp1,rfl⟩:=yfq B p s hp hB
 obtain ⟨t1,t2,t3,t4,t5,t6⟩:=zhf hok
 have hlI:=yk8 hok
 clear hok
 obtain ⟨ns,nm,rw,lb⟩:=t
 have c1:=ht.ns
 have c2:=ht.ss
 have c3:=ht.nm
 have c4:=ht.rw
 have c5:=ht.rr
 have c6:=ht.lb
 simp only at t1 t2 t3 t4 t5 t6 hlI c1 c2 c3 c4 c5 c6
 clear ht
 simp only [taO] at h1
 obtain ⟨r2,h2,v2,p2,s2,⟨a2,rfl,a20,a21⟩,hp2,rfl⟩:=zbf B p1 s1 hp1 hB rw.length (by omega)
 have a22:=a21 (by omega)
 obtain ⟨f,rfl⟩ : ∃ f:Nat,a2=f:=⟨a2.toNat,by omega⟩
 obtain ⟨r3,h3,v3,p3,s3,⟨d,rfl,d0,d1⟩,hp3,rfl⟩:=zbf B p2 s2 hp2 hB 14 (by omega)
 have hf:f<rw.length:=by omega
 have hfy:f<lb.length:=by omega
 obtain ⟨l,hl⟩ : ∃ l,rw[f]?=some l:=⟨_,List.getElem?_eq_getElem hf⟩
 have hln:=t6 l (List.mem_of_getElem? hl)
 have hl':=ze6 (q:=true) hl
 simp only [cel,if_true] at hl'
 have hr1:zaj 8 1=true:=by decide
 have hr0:zaj 8 0=true:=by decide
 have hr3:zaj 8 3=true:=by decide
 have hr7:zaj 16 7=true:=by decide
 have hr13:zaj 16 3=true:=by decide
 have hrl:=zcb (n:=l.length+1) (by omega)
 have hrb:=zcb (n:=lb.length+1) (by omega)
 have mk : ∀ {ns:List ByteArray} {nm:ByteArray} {rw:List (List Int)} {lb:List Int},ns.length≤128→(∀ x∈ns,x.size≤128)→nm.size≤128→rw.length≤128→(∀ l∈rw,l.length≤128)→lb.length≤128→(∀ x∈lb,inI x)→PTb (taO ⟨ns,nm,rw,lb⟩):=fun a b c d e f g=>⟨_,rfl,⟨a,b,c,d,e,f⟩,g⟩
 have nsA : ∀ x∈ns,x.size≤128:=fun x hx=>Nat.le_trans (c2 x hx) (by omega)
 have rwA : ∀ l∈rw,l.length≤128:=fun l hl=>Nat.le_trans (c5 l hl) (by omega)
 by_cases e0:d=0
 ·subst e0
  obtain ⟨x0,hx0⟩ : ∃ x,ns[0]?=some x:=⟨_,List.getElem?_eq_getElem (by omega)⟩
  have hx0':=zii hx0
  have hn0:0<ns.length:=by omega
  obtain ⟨r4,h4,y,p4,s4,hy,hp4,rfl⟩:=yfc B p3 s3 hp3 hB [bs [],bs [65],bs [49,97],bs [121],bs [97,98,99,100,101,102,103,104,105,106,107,108],bs [97,98,99,100,101,102,103,104,105,106,107,108,109],bs [98]] (by simp)
  have hys:y.size≤128:=by
   simp only [List.mem_cons,List.not_mem_nil,or_false] at hy
   rcases hy with rfl | rfl | rfl | rfl | rfl | rfl | rfl <;> decide
  simp only [zaw,List.map] at h4
  have hset:=y7p ns 0 y
  simp [-getElem?_pos,zgz,zg0,h1,h2,h3,h4,hr7,hx0',hset,hn0]
  exact ⟨_,p4,s4,mk (by simp; omega) (zvm nsA hys) (by omega) (by omega) rwA (by omega) hlI,hp4,rfl⟩
 by_cases e1:d=1
 ·subst e1
  obtain ⟨r4,h4,y,p4,s4,hy,hp4,rfl⟩:=yfc B p3 s3 hp3 hB [bs [],bs [97],bs [121,45]] (by simp)
  have hys:y.size≤128:=by
   simp only [List.mem_cons,List.not_mem_nil,or_false] at hy
   rcases hy with rfl | rfl | rfl <;> decide
  simp only [zaw,List.map] at h4
  simp [-getElem?_pos,zgz,zg0,h1,h2,h3,h4,hr13]
  exact ⟨_,p4,s4,mk (by omega) nsA hys (by omega) rwA (by omega) hlI,hp4,rfl⟩
 by_cases e2:d=2
 ·subst e2
  have hsn:=zb8 l 0
  have hset:=z6n rw f (l++[0])
  simp [-getElem?_pos,zgz,zg0,zbo,zb3,h1,h2,h3,hf,hl',hr1,hrl,hsn,hset]
  exact ⟨_,p3,s3,mk (by omega) nsA (by omega) (by simp; omega) (zvm rwA (by simp; omega)) (by omega) hlI,hp3,rfl⟩
 by_cases e3:d=3
 ·subst e3
  obtain ⟨r4,h4,v4,p4,s4,⟨x,rfl,hx⟩,hp4,rfl⟩:=zfk B p3 s3 hp3 hB [2147483647,2147483648,-2147483648] (by simp)
  simp only [zab,List.map] at h4
  obtain ⟨y,hy⟩ : ∃ y,l[0]?=some y:=⟨_,List.getElem?_eq_getElem (by omega)⟩
  have hy':=za7 hy
  have hu0:0<l.length:=by omega
  have hset0:=z8n l 0 x
  have hset:=z6n rw f (l.set 0 x)
  simp [-getElem?_pos,zgz,zg0,zbo,zb3,h1,h2,h3,h4,hf,hl',hy',hu0,hr3,hset0,hset]
  exact ⟨_,p4,s4,mk (by omega) nsA (by omega) (by simp; omega) (zvm rwA (by simp; omega)) (by omega) hlI,hp4,rfl⟩
 by_cases e4:d=4
 ·subst e4
  obtain ⟨r4,h4,v4,p4,s4,⟨x,rfl,hx⟩,hp4,rfl⟩:=yw7 B p3 s3 hp3 hB
  obtain ⟨y,hy⟩ : ∃ y,lb[f]?=some y:=⟨_,List.getElem?_eq_getElem hfy⟩
  have hy':=za7 hy
  have hset:=z8n lb f x
  simp [-getElem?_pos,zgz,zg0,h1,h2,h3,h4,hfy,hy',hset]
  exact ⟨_,p4,s4,mk (by omega) nsA (by omega) (by omega) rwA (by simp; omega) (zvm hlI hx),hp4,rfl⟩
 by_cases e5:d=5
 ·subst e5
  have hsn:=zb8 lb 1
  simp [-getElem?_pos,zgz,zg0,h1,h2,h3,hr1,hrb,hsn]
  exact ⟨_,p3,s3,mk (by omega) nsA (by omega) (by omega) rwA (by simp; omega) (z3t hlI (by unfold inI; omega)),hp3,rfl⟩
 by_cases e6:d=6
 ·subst e6
  have hset:=z6n rw f []
  simp only [zab,List.map] at hset
  simp [-getElem?_pos,zgz,zg0,zbo,zb3,h1,h2,h3,hf,hl',hr0,hset]
  exact ⟨_,p3,s3,mk (by omega) nsA (by omega) (by simp; omega) (zvm rwA (by simp)) (by omega) hlI,hp3,rfl⟩
 by_cases e7:d=7
 ·subst e7
  simp [-getElem?_pos,zgz,zg0,h1,h2,h3]
  refine zas (fun n st => ∃ (p o1 o2 a1 a2:Nat) (s:Int) (L:List (List Int)) (Y:List Int),L.length+n=50∧1≤L.length∧L.length≤41∧(∀ l∈L,l.length≤64)∧Y.length≤64+L.length∧(∀ x∈Y,inI x)∧p≤B.length∧st.V 0 = .ptr 0 none 0 0 0∧st.V 2 = .ptr 1 none 0 0 0∧st.V 3 = .ptr 5 none 0 0 0∧2<o1∧o1≠5∧o1<st.nx∧2<o2∧o2≠5∧o2<st.nx∧o1≠o2∧5<st.nx∧st.S 0=some (.box [.sl 1 (zbl B),iv p,iv s])∧st.S 1=some (.box [.e0,.v (.string (bs [])),.e0,.e0])∧st.S 2=some (.row 1 (zaw ns))∧st.S o1=some (.row 1 (rws true L))∧st.S o2=some (.row 1 (zab Y))∧st.S 5=some (.box [.ref 2 none 0 0 ns.length,.v (.string nm),.ref o1 none a1 0 L.length,.ref o2 none a2 0 Y.length])) ?_ (50-rw.length) _ ⟨p3,3,4,0,0,s3,rw,lb,by omega,by omega,by omega,c5,by omega,hlI,hp3,by simp,by simp,by simp,by omega,by omega,by simp,by omega,by omega,by simp,by omega,by simp,by simp,by simp,by simp,by simp,by simp,by simp⟩
  clear h1 h2 h3 hp1 hp2 hp3 hp e0 e1 e2 e3 e4 e5 e6 hl' hln hl hf hfy a20 a21 a22 d0 d1 hrl hrb
  rintro n st ⟨p,o1,o2,a1,a2,s,L,Y,hi,hL1,hL,hLl,hY,hYi,hp,v0,v2,v3,ho1,ho15,ho1x,ho2,ho25,ho2x,ho12,hnx,hS0,hS1,hS2,hSo1,hSo2,hS5⟩
  obtain ⟨r1,h1,v1,p1,s1,⟨b,rfl,b0,b1⟩,hp1,rfl⟩:=zbf B p s hp hB 2 (by omega)
  have b2:=b1 (by omega)
  have w1:=w64 (x:=40+b) (by omega) (by omega)
  have z0:=fr (show 0<st.nx by omega)
  have z1:=fr (show 1<st.nx by omega)
  have z2:=fr (show 2<st.nx by omega)
  have z5:=fr hnx
  have y1:=fr ho1x
  have y2:=fr ho2x
  have u:(o1=5)=False∧(5=o1)=False∧(o2=5)=False∧(5=o2)=False∧(o1=o2)=False∧(o2=o1)=False∧(o1=0)=False∧(0=o1)=False∧(o2=0)=False∧(0=o2)=False∧(o1=1)=False∧(1=o1)=False∧(o2=1)=False∧(1=o2)=False∧(o1=2)=False∧(2=o1)=False∧(o2=2)=False∧(2=o2)=False:=by
   refine ⟨?_,?_,?_,?_,?_,?_,?_,?_,?_,?_,?_,?_,?_,?_,?_,?_,?_,?_⟩ <;> exact eq_false (by omega)
  by_cases h:(L.length:Int)<40+b
  ·obtain ⟨l,hl⟩ : ∃ l,L[0]?=some l:=⟨_,List.getElem?_eq_getElem (by omega)⟩
   have hl':=ze6 (q:=true) hl
   simp only [cel,if_true] at hl'
   have hl64:=hLl l (List.mem_of_getElem? hl)
   have hrl:=zcb (n:=l.length) (by omega)
   have hrw:zaj 24 (L.length+1)=true:=by simp [zaj]; omega
   have hr24:zaj 24 1=true:=by decide
   have hry:=zcb (n:=Y.length+1) (by omega)
   have hsn:=z4k L l
   have hsy:=zb8 Y 0
   have hL0:0<L.length:=by omega
   have nz : ¬ st.nx=0:=by omega
   have n53 : ¬ st.nx+3=o2∧¬ st.nx+3=5∧¬ st.nx+5=5∧¬ st.nx=2:=⟨by omega,by omega,by omega,by omega⟩
   have na : ∀ a b:Nat,st.nx+a+b=st.nx+(a+b):=fun a b=>Nat.add_assoc _ _ _
   simp [-getElem?_pos,z49,zbo,zb3,v0,v2,v3,hS0,hS1,hS2,hSo1,hSo2,hS5,h1,w1,h,hl',hr0,hr1,hrl,hrw,hr24,hry,hsn,hsy,hL0,z0,z1,z2,z5,y1,y2,u,z8t,na]
   exact zal (n-1) (by omega) ⟨p1,st.nx+3,st.nx+5,st.ep,st.ep,s1,L++[l],Y++[0],by simp; omega,by simp,by simp; omega,z3t hLl hl64,by simp; omega,z3t hYi (by unfold inI; omega),hp1,by simp [v0],by simp [v2],by simp [v3],by omega,by omega,by simp,by omega,by omega,by simp,by omega,by first | (simp; done) | (simp; omega),by simp [z0,u,nz],by simp [z1,u,hS1,nz],by simp [z2,u,hS2,nz],by simp [y1,y2,z5,u,n53,nz],by simp [z5,n53,nz],by simp⟩
  ·simp [-getElem?_pos,z49,v0,v2,v3,hS0,hS1,hS2,hSo1,hSo2,hS5,h1,w1,h,z0,z1,z2,z5,y1,y2,u,show 1≤o1 by omega,show 1≤o2 by omega]
   exact ⟨_,p1,s1,mk (by omega) nsA (by omega) (by omega) (fun l hl=>Nat.le_trans (hLl l hl) (by omega)) (by omega) hYi,hp1,rfl⟩
 ·simp [-getElem?_pos,zgz,zg0,h1,h2,h3,e0,e1,e2,e3,e4,e5,e6,e7]
  exact ⟨_,p3,s3,mk (by omega) nsA (by omega) (by omega) rwA (by omega) hlI,hp3,rfl⟩
theorem yy8 (B:List Int) (hB:B.length≤9223372036854775807) : ∃ (t:Ta) (c:Cfg) (p:Nat) (s:Int),TaL 128 t∧(∀ x∈t.lb,inI x)∧c.sg.length≤64∧p≤B.length∧RUN T zpg [.sl 1 (zbl B)]=some ([.bx [.sl 1 (zbl B),iv p,iv s],taO t,zl9 c],[]):=by
 obtain ⟨r,h,s,rfl⟩:=yw8 B hB
 simp only [Int.natCast_zero] at h
 obtain ⟨r1,h1,v1,p1,s1,⟨t,rfl,ht,hok⟩,hp1,rfl⟩:=yfq B 0 s (by omega) hB
 simp only [Int.natCast_zero] at h1
 have hlI:=yk8 hok
 have ht':TaL 128 t:=⟨Nat.le_trans ht.ns (by omega),fun x hx=>Nat.le_trans (ht.ss x hx) (by omega),Nat.le_trans ht.nm (by omega),Nat.le_trans ht.rw (by omega),fun x hx=>Nat.le_trans (ht.rr x hx) (by omega),Nat.le_trans ht.lb (by omega)⟩
 obtain ⟨r2,h2,v2,p2,s2,⟨c,rfl,hc⟩,hp2,rfl⟩:=ye7 B p1 s1 hp1 hB
 obtain ⟨r3,h3,v3,p3,s3,⟨b3,rfl⟩,hp3,rfl⟩:=zfj B p2 s2 hp2 hB 16 (by omega)
 simp only [taO,zl9] at h1 h2
 cases b3 with
 | false =>
  obtain ⟨r5,h5,v5,p5,s5,⟨b5,rfl⟩,hp5,rfl⟩:=zfj B p3 s3 hp3 hB 16 (by omega)
  cases b5 with
  | false =>
   refine ⟨t,c,p5,s5,ht',hlI,by omega,hp5,zaf zu7 rfl ?_⟩
   simp [-getElem?_pos,znt,znu,h,h1,h2,h3,h5]
  | true =>
   obtain ⟨r6,h6,v6,p6,s6,⟨c',rfl,hc'⟩,hp6,rfl⟩:=ye8 B p5 s5 hp5 hB
   simp only [zl9] at h6
   refine ⟨t,c',p6,s6,ht',hlI,hc',hp6,zaf zu7 rfl ?_⟩
   simp [-getElem?_pos,znt,znu,h,h1,h2,h3,h5,h6]
 | true =>
  obtain ⟨r4,h4,v4,p4,s4,⟨t',rfl,ht2,hl2⟩,hp4,rfl⟩:=yy7 B p3 s3 hp3 hB
  obtain ⟨r5,h5,v5,p5,s5,⟨b5,rfl⟩,hp5,rfl⟩:=zfj B p4 s4 hp4 hB 16 (by omega)
  simp only [taO] at h4
  cases b5 with
  | false =>
   refine ⟨t',c,p5,s5,ht2,hl2,by omega,hp5,zaf zu7 rfl ?_⟩
   simp [-getElem?_pos,znt,znu,h,h1,h2,h3,h4,h5]
  | true =>
   obtain ⟨r6,h6,v6,p6,s6,⟨c',rfl,hc'⟩,hp6,rfl⟩:=ye8 B p5 s5 hp5 hB
   simp only [zl9] at h6
   refine ⟨t',c',p6,s6,ht2,hl2,hc',hp6,zaf zu7 rfl ?_⟩
   simp [-getElem?_pos,znt,znu,h,h1,h2,h3,h4,h5,h6]
theorem z5z : ∀ {M:List (List Nd)},(∀ x∈M,x.length≤32)→zmg M≤32*M.length
 | [],_=>by simp [zmg]
 | x::M,h=>by
  have h1:=z5z (M:=M) (fun y hy=>h y (by simp [hy]))
  have h2:=h x (by simp)
  rw [y2v]
  simp only [List.length_cons]
  omega
theorem yzv (m:Mo):ztm m m=true:=by simp [ztm]
theorem TaL.of128 {t:Ta} (h:TaL 128 t):TaL 1048576 t:=⟨Nat.le_trans h.ns (by omega),fun x hx=>Nat.le_trans (h.ss x hx) (by omega),Nat.le_trans h.nm (by omega),Nat.le_trans h.rw (by omega),fun x hx=>Nat.le_trans (h.rr x hx) (by omega),Nat.le_trans h.lb (by omega)⟩
theorem yga (t:Ta) (c:Cfg):(zcl t c).1.sm.length≤40∧(zcl t c).1.ts.length≤8∧∀ x∈(zcl t c).1.ts,x.length≤32:=by
 unfold zcl
 split
 ·rename_i h
  simp only [Bool.and_eq_true] at h
  obtain ⟨⟨ro1,ro8⟩,_⟩:=zs9 h.2
  obtain ⟨s,h1,h2⟩:=zvt h.1 h.2 c.ro.toNat (by omega)
  rw [h1]
  have:=zhf h.1
  have:=h2.st.l
  have:=h2.st.k
  exact ⟨by simp only; omega,by simp only; omega,h2.tl⟩
 ·simp [noS]
set_option maxHeartbeats 4000000 in
set_option maxRecDepth 8000 in
theorem yy9 (B:List Int) (hB:B.length≤9223372036854775807) : ∃ (t:Ta) (c:Cfg) (s:Sta),TaL 128 t∧(∀ x∈t.lb,inI x)∧c.sg.length≤128∧s.sm.length≤40∧s.ts.length≤9∧(∀ x∈s.ts,x.length≤32)∧RUN T zo6 [.sl 1 (zbl B)]=some ([taO t,zl9 c,stO s],[]):=by
 obtain ⟨t,c,p,s,ht,hl,hc,hp,h⟩:=yy8 B hB
 have hb:=yfs true t c ht.of128 hl (by omega)
 obtain ⟨b1,b2,b3⟩:=yga t c
 generalize zcl t c=g at *
 obtain ⟨⟨sm,ts⟩,gb⟩:=g
 simp only at hb b1 b2 b3
 obtain ⟨r1,h1,v1,p1,s1,⟨d1,rfl⟩,hp1,rfl⟩:=zfj B p s hp hB 2 (by omega)
 obtain ⟨r2,h2,v2,p2,s2,⟨d2,rfl⟩,hp2,rfl⟩:=zfj B p1 s1 hp1 hB 10 (by omega)
 obtain ⟨r3,h3,v3,p3,s3,⟨tr,rfl,htr⟩,hp3,rfl⟩:=yx2 B p2 s2 hp2 hB
 have hn:=ht.ns
 obtain ⟨c',hc',hcond⟩ : ∃ c':Cfg,c'.sg.length≤128∧c'=if d1=true∧0<c.sg.length∧0<t.ns.length then { c with sg:=(c.sg++[0,0,0]).take (min 4 t.ns.length) } else c:=by
  refine ⟨_,?_,rfl⟩
  split
  ·simp; omega
  ·omega
 have hts : ∀ x∈ts++[tr],x.length≤32:=z3t b3 htr
 have hsn:=z8c ts tr
 have hr24:zaj 24 1=true:=by decide
 have hrt:zaj 24 (ts.length+1)=true:=by simp [zaj]; omega
 have hr3:zaj 8 3=true:=by decide
 have hrc:=zcb (n:=c.sg.length+3) (by omega)
 have hap:zab c.sg++[[iv 0],[iv 0],[iv 0]]=zab (c.sg++[0,0,0]):=by simp [zab]
 refine ⟨t,c',⟨sm,if d2=true then ts++[tr] else ts⟩,ht,hl,hc',b1,?_,?_,?_⟩
 ·show (if d2=true then ts++[tr] else ts).length≤9
  split
  ·simp; omega
  ·omega
 ·show ∀ x∈(if d2=true then ts++[tr] else ts),x.length≤32
  split
  ·exact hts
  ·exact b3
 ·obtain ⟨ro,de,bi,la,rw,nu,dn,sg⟩:=c
  simp only [taO,taS,zl9,stO,cfS] at *
  by_cases k:d1=true∧0<sg.length∧0<t.ns.length
  ·rw [if_pos k] at hcond
   obtain ⟨k1,k2,k3⟩:=k
   subst k1
   subst hcond
   have k2':(0:Int)<sg.length:=by omega
   have k3':(0:Int)<t.ns.length:=by omega
   have k3d:(0<t.ns.length)=True:=eq_true (by omega)
   have k2d:(0<sg.length)=True:=eq_true (by omega)
   have hmin:min (4:Int) t.ns.length=((min 4 t.ns.length:Nat):Int):=by omega
   have hmle:min 4 t.ns.length≤sg.length+3:=by omega
   have hcut:cut (zab (sg++[0,0,0])) 0 (min 4 t.ns.length)=zab ((sg++[0,0,0]).take (min 4 t.ns.length)):=by
    unfold cut
    split
    ·rename_i e; rw [List.take_of_length_le (by have:=e.2; simp at this ⊢; omega)]
    ·simp [zab,List.map_take]
   generalize min 4 t.ns.length=q at *
   refine zaf z5e rfl ?_
   cases d2 <;> simp [-getElem?_pos,znl,znm,h,hb,h1,h2,h3,k2d,k3d,hmin,hmle,hap,hsn,hr24,hrt,hr3,hrc,hcut]
   all_goals
    split
    ·rename_i e; rw [List.take_of_length_le (by simp; omega)]
    ·simp [zab,List.map_take]
  ·rw [if_neg k] at hcond
   subst hcond
   refine zaf z5e rfl ?_
   by_cases k2:(0:Int)<sg.length
   ·by_cases k3:(0:Int)<t.ns.length
    ·have k1:d1=false:=by
      cases d1 with
      | false=>rfl
      | true=>exact absurd ⟨rfl,by omega,by omega⟩ k
     subst k1
     cases d2 <;> simp [-getElem?_pos,znl,znm,h,hb,h1,h2,h3,k2,k3,hsn,hr24,hrt]
    ·have k3d:(0<t.ns.length)=False:=eq_false (by omega)
     have k2d:(0<sg.length)=True:=eq_true (by omega)
     cases d1 <;> cases d2 <;> simp [-getElem?_pos,znl,znm,h,hb,h1,h2,h3,k2d,k3d,hsn,hr24,hrt]
   ·have k2d:(0<sg.length)=False:=eq_false (by omega)
    cases d1 <;> cases d2 <;> simp [-getElem?_pos,znl,znm,h,hb,h1,h2,h3,k2d,hsn,hr24,hrt]
theorem yhy {m:Mo} (hm:zd0 m=true) : ∀ {L:List (List Int)} {S:List Int},L.length=S.length→(∀ r∈L,r.length=m.ns.length)→(∀ (i:Nat) (p:Int) (r:List Int),S[i]?=some p→L[i]?=some r→zhx r m.ts m.b=p)→zkc m L=some S
 | [],[],_,_,_=>rfl
 | r::L,p::S,hl,hr,h=>by
  have h0:=h 0 p r rfl rfl
  have hp:zgq m r=(p,true):=by
   unfold zgq
   rw [if_pos ⟨hm,by rw [hr r (by simp)]⟩,h0]
  rw [zkc,hp,yhy hm (S:=S) (by simpa using hl) (fun x hx=>hr x (by simp [hx])) (fun i p r e1 e2=>h (i+1) p r (by simpa using e1) (by simpa using e2))]
  rfl
theorem y4b {t:Ta} {c:Cfg} (h1:(zcl t c).2=true) (h2:(zde t c (zcl t c).1).2=true):zmd (zde t c (zcl t c).1).1 t.rw=((zcl t c).1.sm,true)∧zd0 (zde t c (zcl t c).1).1=true:=by
 unfold zde at h2 ⊢
 split at h2
 ·rename_i hc
  rw [if_pos hc]
  simp only [Bool.and_eq_true] at hc
  obtain ⟨⟨ht,hcf⟩,hm⟩:=hc
  obtain ⟨⟨ro1,ro8⟩,_⟩:=zs9 hcf
  obtain ⟨s,e1,H⟩:=zvt ht hcf c.ro.toNat (by omega)
  have hb:zcl t c=(s,true):=by unfold zcl; rw [if_pos (by rw [ht,hcf]; rfl),e1]
  rw [hb] at hm ⊢
  obtain ⟨t1,t2,t3,t4,t5,t6⟩:=zhf ht
  have:=yhy hm (L:=t.rw) (S:=s.sm) (by rw [H.st.l]; omega) t6 H.sum
  refine ⟨?_,hm⟩
  unfold zmd
  simp only at this ⊢
  rw [this]
 ·cases h2
set_option maxHeartbeats 4000000 in
set_option maxRecDepth 8000 in
theorem y1i (B:List Int) (hB:B.length≤9223372036854775807):RUN T ztr [.sl 1 (zbl B)]=some ([bv true],[]):=by
 have hb:=yxb (zbl B)
 rw [yzl] at hb
 by_cases c0:(1048576:Int)<B.length
 ·refine zaf zsj rfl ?_
  simp [-getElem?_pos,zni,znj,hb,c0]
 obtain ⟨t,c,s,ht,hl,hc,s1,s2,s3,hd⟩:=yy9 B hB
 have hs:zly 1048576 s:=⟨by omega,by omega,fun x hx=>Nat.le_trans (s3 x hx) (by omega)⟩
 have ht1:=ht.of128
 have a1:=yfn true true t c s ht1 (by omega) hs hl
 have a2:=yyy true true t c s ht1 (by omega) hs hl
 have hL:MoL 1048576 (zde t c s).1:=(yjn ht1 (by omega) hs (by have:=z5z s3; omega)).1
 have m1:=yxm true true (zde t c s).1 (zde t c s).1 (hL.mono (by omega))
 have m2:=yxn true true (zde t c s).1 (zde t c s).1 (hL.mono (by omega)) (hL.mono (by omega))
 rw [yzv] at m1 m2
 have b1:=yfs true t c ht1 hl (by omega)
 obtain ⟨u1,u2,u3⟩:=yga t c
 have hu:zly 1048576 (zcl t c).1:=⟨by omega,by omega,fun x hx=>Nat.le_trans (u3 x hx) (by omega)⟩
 have a3:=yfn true true t c (zcl t c).1 ht1 (by omega) hu hl
 have hL2:MoL 1048576 (zde t c (zcl t c).1).1:=(yjn ht1 (by omega) hu (by have:=z5z u3; omega)).1
 have p1:=yx4 true true (zde t c (zcl t c).1).1 t.rw hL2 ht1.rw ht1.rr
 have o1:=z5l true (zde t c (zcl t c).1).1 (hL2.mono (by omega))
 have i1:=yx3 (zcl t c).1.sm (by omega)
 have told:=y4b (t:=t) (c:=c)
 generalize zde t c s=g at *
 obtain ⟨m,mb⟩:=g
 generalize zde t c (zcl t c).1=g2 at *
 obtain ⟨m',mb'⟩:=g2
 generalize zcl t c=g3 at *
 obtain ⟨u,ub⟩:=g3
 simp only [taS,taO,zfg,zl9,stS,stO,moS,moO,cfS] at *
 cases ub with
 | false =>
  refine zaf zsj rfl ?_
  cases mb <;> simp [-getElem?_pos,zni,znj,hb,c0,hd,a1,a2,m1,m2,b1,a3]
 | true =>
 cases mb' with
 | false =>
  refine zaf zsj rfl ?_
  cases mb <;> simp [-getElem?_pos,zni,znj,hb,c0,hd,a1,a2,m1,m2,b1,a3]
 | true =>
  obtain ⟨w1,w2⟩:=told rfl rfl
  rw [w1] at p1
  rw [w2] at o1
  refine zaf zsj rfl ?_
  cases mb <;> simp [-getElem?_pos,zni,znj,hb,c0,hd,a1,a2,m1,m2,b1,a3,p1,o1,i1]
end Go.Pe
