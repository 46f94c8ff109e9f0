/- What each function answers by the evaluator,and the law; for each answer its own conditions stand ahead of it. -/
import Derived.Test.YtadpenaldhkjcaaGreatC0
import Derived.Test.YtadpenaldhkjcaaGreatEvB2
import Derived.IntWalk
set_option linter.all false
namespace Go.Pe
open Go
set_option maxHeartbeats 4000000 in
set_option maxRecDepth 4000 in
theorem ykn (q:Bool) {c v:List (List Int)} {g:List Int} {cfg:Cfg} (H:GH c v g cfg) : ∀ (N:Nat) (x:Pnd),zi4 g.length cfg.de x→zcv x.b=true→(cfg.de-x.l).toNat=N→RUN T zip (zqf q c v g cfg x)=some ([.agg (snC true (zbv c v g cfg N x))],[]):=by
 intro N
 induction N with
 | zero =>
  intro x hx hb hN
  have hle : ¬ x.l<cfg.de:=by omega
  have hle':cfg.de≤x.l:=by omega
  have hgl:=H.gl
  have hr40:x.r.length≤40:=by have:=hx.2.1; omega
  have gW:=zfy (g:=g) (rows:=x.r) H.gb hr40
  have e1:=zv7 g x.r H.gb hx.1 (by omega)
  have e2:=zv6 (zah g x.r) cfg.la x.b (zxd gW)
  simp only [zbv,zor]
  generalize zer (zah g x.r) cfg.la x.b=V at *
  obtain ⟨V,Vb⟩:=V
  generalize zah g x.r=SW at *
  obtain ⟨wn,wg⟩:=SW
  obtain ⟨xr,⟨lo,hi⟩,xl⟩:=x
  simp only [slc,bnd,cfS,zqf,snC,snL,zeb,if_true] at *
  refine zae zxx rfl ?_
  simp [-getElem?_pos,zpr,zps,e1,e2,hle']
 | succ N ih =>
  intro x hx hb hN
  have hgl:=H.gl
  have hr40:x.r.length≤40:=by have:=hx.2.1; omega
  have hBf:=zy3 (v:=v) (g:=g) (rows:=x.r) (c:=c) (cfg:=cfg) (b:=x.b)
  obtain ⟨R,hR⟩ : ∃ R,R=snC true (zbv c v g cfg (N+1) x):=⟨_,rfl⟩
  rw [← hR]
  have hlv:x.l<cfg.de:=by omega
  have hlv' : ¬ cfg.de≤x.l:=by omega
  have gW:=zfy (g:=g) (rows:=x.r) H.gb hr40
  have e1:=zv7 g x.r H.gb hx.1 (by omega)
  have e2:=zv6 (zah g x.r) cfg.la x.b (zxd gW)
  obtain ⟨V,hV⟩ : ∃ V,V=zor g cfg x:=⟨_,rfl⟩
  have hVa:(zer (zah g x.r) cfg.la x.b).1=V:=hV.symm
  rw [hVa] at e2
  generalize (zer (zah g x.r) cfg.la x.b).2=Vb at *
  obtain ⟨xr,⟨lo,hi⟩,xl⟩:=x
  simp only at hr40 hBf hlv hN e1 e2 hlv'
  generalize zah g xr=SW at *
  obtain ⟨wn,wg⟩:=SW
  simp only [slc,bnd,zqf] at *
  refine zae zxx rfl ?_
  simp [-getElem?_pos,zpr,zps,e1,e2,hlv']
  refine zbu (fun n st => ∃ (f:Nat) (B:List PV) (fd:PV),f+n=c.length∧5<st.nx∧st.V 55=iv f∧NB (zcx c v g cfg xr ⟨lo,hi⟩ f) B fd∧st.V 1 = .sl 1 (zaf xr)∧st.V 3=iv xl∧st.V 4 = .ptr 0 none 0 0 0∧st.V 6 = .ptr 1 none 0 0 0∧st.V 8 = .ptr 2 none 0 0 0∧st.V 12 = .ptr 4 none 0 0 0∧st.V 13 = .ptr 5 none 0 0 0∧st.V 14=fd∧st.V 53 = .sl 1 (rws q c)∧st.V 54=iv c.length∧st.S 0=some (.box [.sl 1 (rws q c),.sl 1 (rws q v),.sl 1 (zaf g),iv cfg.ro,iv cfg.de,iv cfg.bi,iv cfg.la,iv cfg.rw,iv cfg.nu,iv cfg.dn,.sl 1 (zaf cfg.sg)])∧st.S 1=some (.box [iv lo,iv hi])∧st.S 2=some (.box [iv 0,iv 0,iv 0,.e0])∧st.S 4=some (.box [iv (-1),iv 0,iv V,.e0])∧st.S 5=some (.box B)) ?_ c.length _ ⟨0,_,_,by omega,by simp,by simp,.inl ⟨rfl,rfl,rfl⟩,by simp [cnd,zob]⟩
  clear gW e1 e2 hVa
  rintro n st ⟨f,B,fd,hfn,hnx,v55,hW,v1,v3,v4,v6,v8,v12,v13,v14,v53,v54,S0,S1,S2,S4,S5⟩
  by_cases hf:f<c.length
  ·obtain ⟨a,y,ha,hy,hyl,ha7⟩:=H.at hf
   have ha':=zee (q:=q) ha
   have hy':=zee (q:=q) hy
   have hcd:c.getD f []=a:=by simp [ha]
   have hyd:v.getD f []=y:=by simp [hy]
   have hfl:f<v.length:=(List.getElem?_eq_some_iff.mp hy).1
   have hwf:=wS hf (by omega:c.length≤9223372036854775807)
   simp [-getElem?_pos,zs0,v1,v3,v4,v6,v8,v12,v13,v14,v53,v54,S0,S1,S2,S4,S5,v55,hf,ha']
   refine zbu (fun n st => ∃ (k:Nat) (B:List PV) (fd:PV),k+n=a.length∧5<st.nx∧st.V 55=iv f∧st.V 15=iv f∧st.V 61=iv a.length∧st.V 62=iv k∧NB (zdt v g cfg xr ⟨lo,hi⟩ f (zcx c v g cfg xr ⟨lo,hi⟩ f) k) B fd∧st.V 1 = .sl 1 (zaf xr)∧st.V 3=iv xl∧st.V 4 = .ptr 0 none 0 0 0∧st.V 6 = .ptr 1 none 0 0 0∧st.V 8 = .ptr 2 none 0 0 0∧st.V 12 = .ptr 4 none 0 0 0∧st.V 13 = .ptr 5 none 0 0 0∧st.V 14=fd∧st.V 53 = .sl 1 (rws q c)∧st.V 54=iv c.length∧st.S 0=some (.box [.sl 1 (rws q c),.sl 1 (rws q v),.sl 1 (zaf g),iv cfg.ro,iv cfg.de,iv cfg.bi,iv cfg.la,iv cfg.rw,iv cfg.nu,iv cfg.dn,.sl 1 (zaf cfg.sg)])∧st.S 1=some (.box [iv lo,iv hi])∧st.S 2=some (.box [iv 0,iv 0,iv 0,.e0])∧st.S 4=some (.box [iv (-1),iv 0,iv V,.e0])∧st.S 5=some (.box B)) ?_ a.length _ ⟨0,B,fd,by omega,by simp; omega,by simp [v55],by simp,by simp,by simp,hW,by simp [v1,v3,v4,v6,v8,v12,v13,v14,v53,v54,S0,S1,S2,S4,S5]⟩
   clear hW v1 v3 v4 v6 v8 v12 v13 v14 v53 v54 S0 S1 S2 S4 S5 v55 hnx
   clear B fd
   rintro m st ⟨k,B,fd,hkm,hnx,v55,v15,v61,v62,hW,v1,v3,v4,v6,v8,v12,v13,v14,v53,v54,S0,S1,S2,S4,S5⟩
   have q0:=fr (by omega:0<st.nx)
   have q1:=fr (by omega:1<st.nx)
   have q2:=fr (by omega:2<st.nx)
   have q3:=fr (by omega:3<st.nx)
   have q4:=fr (by omega:4<st.nx)
   have q5:=fr (by omega:5<st.nx)
   have n0 : ¬ st.nx=0:=by omega
   have n1 : ¬ st.nx=1:=by omega
   have n2 : ¬ st.nx=2:=by omega
   have n3 : ¬ st.nx=3:=by omega
   have n4 : ¬ st.nx=4:=by omega
   have n5 : ¬ st.nx=5:=by omega
   by_cases hk:k<a.length
   ·have e3:=z5t y xr k (by omega) (by omega)
    have e4:=zv7 g (zav y xr k) H.gb (fun r hr=>hx.1 r (zoe.1 hr)) (Nat.le_trans (List.length_filter_le _ _) (by omega))
    have e5:=zv7 g (zau y xr k) H.gb (fun r hr=>hx.1 r (zoe.2 hr)) (Nat.le_trans (List.length_filter_le _ _) (by omega))
    obtain ⟨m1,m2,m3⟩:=H.may hx hb (k:=k) hf
    simp only at m1 m2 m3
    have hI:=z0j (by omega) (by omega) m2 m3
    have e6:=yj8 cfg ⟨lo,hi⟩ (zaq v g xr f k) hI (by have:=H.sg; omega)
    have hwk:=wS hk (by omega:a.length≤9223372036854775807)
    have hcv:cnd (zaq v g xr f k)=[iv f,iv k,iv (zah g (zav y xr k)).n,iv (zah g (zav y xr k)).g,iv (zah g (zau y xr k)).n,iv (zah g (zau y xr k)).g]:=by simp only [cnd,zaq,hyd]
    rw [hcv] at e6
    cases hm:zgy cfg ⟨lo,hi⟩ (zaq v g xr f k) with
    | false =>
     rw [hm] at e6
     have hst:zdt v g cfg xr ⟨lo,hi⟩ f (zcx c v g cfg xr ⟨lo,hi⟩ f) (k+1)=zdt v g cfg xr ⟨lo,hi⟩ f (zcx c v g cfg xr ⟨lo,hi⟩ f) k:=by rw [zl2]; unfold zhg; rw [if_neg (by rw [hm]; simp)]
     rw [← hst] at hW
     clear hcv hI m2 m3 m1
     generalize zah g (zav y xr k)=SA at *
     generalize zah g (zau y xr k)=SZ at *
     obtain ⟨an,ag⟩:=SA
     obtain ⟨zn,zg⟩:=SZ
     generalize zav y xr k=L1 at *
     generalize zau y xr k=L2 at *
     simp only [slc,bnd] at *
     simp [-getElem?_pos,zns,v1,v3,v4,v6,v8,v12,v13,v14,v53,v54,S0,S1,S2,S4,S5,v55,v15,v61,v62,hy',hfl,hk,hwk,e3,e4,e5,e6,zbc,q0,q1,q2,q3,q4,q5,n0,n1,n2,n3,n4,n5]
     exact za8 (m-1) (by omega) ⟨k+1,B,fd,by omega,by simp; omega,by simp [v55],by simp [v15],by simp [v61],by simp,hW,by simp [v1],by simp [v3],by simp [v4],by simp [v6],by simp [v8],by simp [v12],by simp [v13],by simp [v14],by simp [v53],by simp [v54],by simp [S0,q0,q1,q2,q3,q4,q5,n0,n1,n2,n3,n4,n5],by simp [S1,q0,q1,q2,q3,q4,q5,n0,n1,n2,n3,n4,n5],by simp [S2,q0,q1,q2,q3,q4,q5,n0,n1,n2,n3,n4,n5],by simp [S4,q0,q1,q2,q3,q4,q5,n0,n1,n2,n3,n4,n5],by simp [S5,q0,q1,q2,q3,q4,q5,n0,n1,n2,n3,n4,n5]⟩
    | true =>
     rw [hm] at e6
     have nW:NB (some (zaq v g xr f k)) [iv f,iv k,iv (zah g (zav y xr k)).n,iv (zah g (zav y xr k)).g,iv (zah g (zau y xr k)).n,iv (zah g (zau y xr k)).g] (bv true) := .inr ⟨_,rfl,hcv.symm,rfl⟩
     rcases hW with ⟨w1,w2,w3⟩ | ⟨x,w1,w2,w3⟩
     ·have hst:zdt v g cfg xr ⟨lo,hi⟩ f (zcx c v g cfg xr ⟨lo,hi⟩ f) (k+1)=some (zaq v g xr f k):=by rw [zl2,w1]; unfold zhg; rw [if_pos hm]
      rw [← hst] at nW
      subst w2 w3
      clear hcv hI m2 m3 m1
      generalize zah g (zav y xr k)=SA at *
      generalize zah g (zau y xr k)=SZ at *
      obtain ⟨an,ag⟩:=SA
      obtain ⟨zn,zg⟩:=SZ
      generalize zav y xr k=L1 at *
      generalize zau y xr k=L2 at *
      simp only [slc,bnd] at *
      simp [-getElem?_pos,zns,v1,v3,v4,v6,v8,v12,v13,v14,v53,v54,S0,S1,S2,S4,S5,v55,v15,v61,v62,hy',hfl,hk,hwk,e3,e4,e5,e6,zbc,cnd,zob,q0,q1,q2,q3,q4,q5,n0,n1,n2,n3,n4,n5]
      exact za8 (m-1) (by omega) ⟨k+1,_,_,by omega,by simp; omega,by simp [v55],by simp [v15],by simp [v61],by simp,nW,by simp [v1],by simp [v3],by simp [v4],by simp [v6],by simp [v8],by simp [v12],by simp [v13],by simp,by simp [v53],by simp [v54],by simp [S0,q0,q1,q2,q3,q4,q5,n0,n1,n2,n3,n4,n5],by simp [S1,q0,q1,q2,q3,q4,q5,n0,n1,n2,n3,n4,n5],by simp [S2,q0,q1,q2,q3,q4,q5,n0,n1,n2,n3,n4,n5],by simp [S4,q0,q1,q2,q3,q4,q5,n0,n1,n2,n3,n4,n5],by simp⟩
     ·have hb0:=zwr (f:=f) (a:=zcx c v g cfg xr ⟨lo,hi⟩ f) (hBf f (by omega)) hf k (by rw [hcd]; omega)
      rw [w1] at hb0
      obtain ⟨f2,k2,x1,_,x3,x6,_⟩:=hb0 _ rfl
      obtain ⟨a2,y2,ha2,_,_,ha72⟩:=H.at x3
      have hcd2:c.getD f2 []=a2:=by simp [ha2]
      rw [hcd2] at x6
      obtain ⟨_,m5,m6⟩:=H.may hx hb (k:=k2) x3
      have hIx:zh0 x:=by rw [x1]; exact z0j (by omega) (by omega) m5 m6
      have e7:=yj7 (zaq v g xr f k) x cfg.la hI hIx
      rw [hcv,← w2] at e7
      have oW:NB (some x) B fd := .inr ⟨_,rfl,w2,w3⟩
      have hst:zdt v g cfg xr ⟨lo,hi⟩ f (zcx c v g cfg xr ⟨lo,hi⟩ f) (k+1)=if zjl (zaq v g xr f k) x cfg.la=true then some (zaq v g xr f k) else some x:=by rw [zl2,w1]; unfold zhg; rw [if_pos hm]
      have v14':=v14
      rw [w3] at v14'
      obtain ⟨B1,B2,B3,B4,B5,B6,hB6⟩ : ∃ B1 B2 B3 B4 B5 B6:Int,B=[iv B1,iv B2,iv B3,iv B4,iv B5,iv B6]:=⟨_,_,_,_,_,_,w2⟩
      rw [hB6] at e7
      have S5':=S5
      rw [hB6] at S5'
      clear hcv hI m2 m3 m1 w2 w1 hb0 m5 m6
      cases hbt:zjl (zaq v g xr f k) x cfg.la with
      | true =>
       rw [hbt] at e7 hst
       rw [if_pos rfl] at hst
       rw [← hst] at nW
       clear oW hst S5
       generalize zah g (zav y xr k)=SA at *
       generalize zah g (zau y xr k)=SZ at *
       obtain ⟨an,ag⟩:=SA
       obtain ⟨zn,zg⟩:=SZ
       generalize zav y xr k=L1 at *
       generalize zau y xr k=L2 at *
       simp only [slc,bnd] at *
       simp [-getElem?_pos,zns,v1,v3,v4,v6,v8,v12,v13,v14',v53,v54,S0,S1,S2,S4,S5',v55,v15,v61,v62,hy',hfl,hk,hwk,e3,e4,e5,e6,e7,zbc,q0,q1,q2,q3,q4,q5,n0,n1,n2,n3,n4,n5]
       exact za8 (m-1) (by omega) ⟨k+1,_,_,by omega,by simp; omega,by simp [v55],by simp [v15],by simp [v61],by simp,nW,by simp [v1],by simp [v3],by simp [v4],by simp [v6],by simp [v8],by simp [v12],by simp [v13],by simp,by simp [v53],by simp [v54],by simp [S0,q0,q1,q2,q3,q4,q5,n0,n1,n2,n3,n4,n5],by simp [S1,q0,q1,q2,q3,q4,q5,n0,n1,n2,n3,n4,n5],by simp [S2,q0,q1,q2,q3,q4,q5,n0,n1,n2,n3,n4,n5],by simp [S4,q0,q1,q2,q3,q4,q5,n0,n1,n2,n3,n4,n5],by simp⟩
      | false =>
       rw [hbt] at e7 hst
       rw [if_neg (by simp)] at hst
       rw [← hst] at oW
       clear nW hst
       generalize zah g (zav y xr k)=SA at *
       generalize zah g (zau y xr k)=SZ at *
       obtain ⟨an,ag⟩:=SA
       obtain ⟨zn,zg⟩:=SZ
       generalize zav y xr k=L1 at *
       generalize zau y xr k=L2 at *
       simp only [slc,bnd] at *
       simp [-getElem?_pos,zns,v1,v3,v4,v6,v8,v12,v13,v14',v53,v54,S0,S1,S2,S4,S5',v55,v15,v61,v62,hy',hfl,hk,hwk,e3,e4,e5,e6,e7,zbc,q0,q1,q2,q3,q4,q5,n0,n1,n2,n3,n4,n5]
       exact za8 (m-1) (by omega) ⟨k+1,B,fd,by omega,by simp; omega,by simp [v55],by simp [v15],by simp [v61],by simp,oW,by simp [v1],by simp [v3],by simp [v4],by simp [v6],by simp [v8],by simp [v12],by simp [v13],by simp [v14],by simp [v53],by simp [v54],by simp [S0,q0,q1,q2,q3,q4,q5,n0,n1,n2,n3,n4,n5],by simp [S1,q0,q1,q2,q3,q4,q5,n0,n1,n2,n3,n4,n5],by simp [S2,q0,q1,q2,q3,q4,q5,n0,n1,n2,n3,n4,n5],by simp [S4,q0,q1,q2,q3,q4,q5,n0,n1,n2,n3,n4,n5],by simp [S5,q0,q1,q2,q3,q4,q5,n0,n1,n2,n3,n4,n5]⟩
   ·have hke:k=a.length:=by omega
    subst hke
    have hst:zcx c v g cfg xr ⟨lo,hi⟩ (f+1)=zdt v g cfg xr ⟨lo,hi⟩ f (zcx c v g cfg xr ⟨lo,hi⟩ f) a.length:=by rw [zz2,hcd]
    rw [← hst] at hW
    simp [-getElem?_pos,zns,v1,v3,v4,v6,v8,v12,v13,v14,v53,v54,S0,S1,S2,S4,S5,v55,v15,v61,v62,hf,hwf,q0,q1,q2,q3,q4,q5,n0,n1,n2,n3,n4,n5]
    exact za8 (n-1) (by omega) ⟨f+1,B,fd,by omega,by simp; omega,by simp,hW,by simp [v1,v3,v4,v6,v8,v12,v13,v14,v53,v54,S0,S1,S2,S4,S5]⟩
  ·have hfe:f=c.length:=by omega
   subst hfe
   have q0:=fr (by omega:0<st.nx)
   have q1:=fr (by omega:1<st.nx)
   have q2:=fr (by omega:2<st.nx)
   have q3:=fr (by omega:3<st.nx)
   have q4:=fr (by omega:4<st.nx)
   have q5:=fr (by omega:5<st.nx)
   have n0 : ¬ st.nx=0:=by omega
   have n1 : ¬ st.nx=1:=by omega
   have n2 : ¬ st.nx=2:=by omega
   have n3 : ¬ st.nx=3:=by omega
   have n4 : ¬ st.nx=4:=by omega
   have n5 : ¬ st.nx=5:=by omega
   have hb0:=hBf c.length (Nat.le_refl _)
   rcases hW with ⟨w1,w2,w3⟩ | ⟨x,w1,w2,w3⟩
   ·subst w2 w3
    have hR2:R=[iv (-1),iv 0,iv V,.own 4 []]:=by
     rw [hR,hV]
     simp only [zbv,w1,snC,snL,zeb,if_true]
    rw [hR2]
    clear hR hR2 hV
    simp [-getElem?_pos,zs0,v1,v3,v4,v6,v8,v12,v13,v14,v53,v54,S0,S1,S2,S4,S5,v55,q0,q1,q2,q3,q4,q5,n0,n1,n2,n3,n4,n5]
   ·rw [w1] at hb0
    obtain ⟨f',k',x1,_,hf',hk',_⟩:=hb0 _ rfl
    subst x1
    obtain ⟨a,y,ha,hy,hyl,ha7⟩:=H.at hf'
    have ha':=zee (q:=q) ha
    have hy':=zee (q:=q) hy
    have hfv:f'<v.length:=(List.getElem?_eq_some_iff.mp hy).1
    have hcd:c.getD f' []=a:=by simp [ha]
    have hyd:v.getD f' []=y:=by simp [hy]
    rw [hcd] at hk'
    obtain ⟨u,hu⟩ : ∃ u,a[k']?=some u:=⟨_,List.getElem?_eq_getElem hk'⟩
    have hu':=zcp hu
    obtain ⟨_,gA,gZ⟩:=H.may hx hb (k:=k') hf'
    have hI:=z0j (by omega) (by omega) gA gZ
    have e3:=z5t y xr k' (by omega) (by omega)
    have e4:=z5q cfg ⟨lo,hi⟩ (zaq v g xr f' k') hI
    simp only [zaq,hyd] at gA gZ
    have hsd:zd2 cfg ⟨lo,hi⟩ (zaq v g xr f' k')=(za4 (fdv (zah g (zav y xr k')).g ((zah g (zav y xr k')).n+cfg.la)).1 lo hi,za4 (fdv (zah g (zau y xr k')).g ((zah g (zau y xr k')).n+cfg.la)).1 lo hi,true):=by
     unfold zd2 zaq
     simp only [hyd,zjn gA H.la.1 H.la.2.1 hb,zjn gZ H.la.1 H.la.2.1 hb,Bool.and_self,if_true]
    rw [hsd,← w2] at e4
    have hBq:B=[iv f',iv k',iv (zah g (zav y xr k')).n,iv (zah g (zav y xr k')).g,iv (zah g (zau y xr k')).n,iv (zah g (zau y xr k')).g]:=by rw [w2]; simp only [cnd,zaq,hyd]
    have hK1:ze7 c v cfg ⟨xr,⟨lo,hi⟩,xl⟩ (zaq v g xr f' k')=⟨zav y xr k',(zd9 (zdl cfg f') ⟨lo,hi⟩ (za4 (fdv (zah g (zav y xr k')).g ((zah g (zav y xr k')).n+cfg.la)).1 lo hi) (za4 (fdv (zah g (zau y xr k')).g ((zah g (zau y xr k')).n+cfg.la)).1 lo hi)).1,xl+1⟩:=by
     unfold ze7
     rw [hsd]
     have:atI v (f':Int)=some y:=by unfold atI; simp [hy]
     simp only [zaq,this,Option.getD_some]
    have hK2:ze6 c v cfg ⟨xr,⟨lo,hi⟩,xl⟩ (zaq v g xr f' k')=⟨zau y xr k',(zd9 (zdl cfg f') ⟨lo,hi⟩ (za4 (fdv (zah g (zav y xr k')).g ((zah g (zav y xr k')).n+cfg.la)).1 lo hi) (za4 (fdv (zah g (zau y xr k')).g ((zah g (zau y xr k')).n+cfg.la)).1 lo hi)).2,xl+1⟩:=by
     unfold ze6
     rw [hsd]
     have:atI v (f':Int)=some y:=by unfold atI; simp [hy]
     simp only [zaq,this,Option.getD_some]
    have i1:=ih _ (zww (c:=c) (v:=v) (k:=zaq v g xr f' k') hx hlv).1 (by unfold ze7; exact (zxb hb).1) (by simp only [ze7]; omega)
    have i2:=ih _ (zww (c:=c) (v:=v) (k:=zaq v g xr f' k') hx hlv).2 (by unfold ze6; exact (zxb hb).2) (by simp only [ze6]; omega)
    have hcut:(atI ((atI c (f':Int)).getD []) (k':Int)).getD 0=u:=by
     have:atI c (f':Int)=some a:=by unfold atI; simp [ha]
     rw [this]
     unfold atI
     simp [hu]
    have hR2:R=snC true (.mk f' u 0 [zbv c v g cfg N (ze7 c v cfg ⟨xr,⟨lo,hi⟩,xl⟩ (zaq v g xr f' k')),zbv c v g cfg N (ze6 c v cfg ⟨xr,⟨lo,hi⟩,xl⟩ (zaq v g xr f' k'))]):=by
     rw [hR]
     simp only [zbv,w1]
     congr 2
    rw [hK1,hK2] at hR2
    rw [hK1] at i1
    rw [hK2] at i2
    rw [hR2]
    clear hR hR2 hK1 hK2 hsd
    have e5:=z5r cfg f' (by have:=H.sg; omega)
    obtain ⟨b1,b2⟩:=z6c hb
    have e6:=ykc (zdl cfg f') ⟨lo,hi⟩ (za4 (fdv (zah g (zav y xr k')).g ((zah g (zav y xr k')).n+cfg.la)).1 lo hi) (za4 (fdv (zah g (zau y xr k')).g ((zah g (zau y xr k')).n+cfg.la)).1 lo hi) (zwm b1 b2) (zwm b1 b2)
    have hx3:=hx.2.2.1
    simp only at hx3
    have wl:=w64 (x:=xl+1) (by omega) (by have:=H.la; omega)
    rw [hBq] at e4 S5
    subst w3
    clear w2 hBq hI
    generalize za4 (fdv (zah g (zav y xr k')).g ((zah g (zav y xr k')).n+cfg.la)).1 lo hi=V1 at *
    generalize za4 (fdv (zah g (zau y xr k')).g ((zah g (zau y xr k')).n+cfg.la)).1 lo hi=V2 at *
    generalize zdl cfg f'=SG at *
    generalize zd9 SG ⟨lo,hi⟩ V1 V2=SB at *
    obtain ⟨⟨l1,h1⟩,⟨l2,h2⟩⟩:=SB
    simp only at i1 i2 e6 e4
    generalize zbv c v g cfg N ⟨zav y xr k',⟨l1,h1⟩,xl+1⟩=T1 at *
    generalize zbv c v g cfg N ⟨zau y xr k',⟨l2,h2⟩,xl+1⟩=T2 at *
    obtain ⟨t11,t12,t13,t14⟩:=T1
    obtain ⟨t21,t22,t23,t24⟩:=T2
    generalize zah g (zav y xr k')=SA at *
    generalize zah g (zau y xr k')=SZ at *
    obtain ⟨an,ag⟩:=SA
    obtain ⟨zn,zg⟩:=SZ
    generalize zav y xr k'=L1 at *
    generalize zau y xr k'=L2 at *
    have hr2:zb7 48 2=true:=by decide
    have d1 : ¬ st.nx=st.nx+1+2:=by omega
    have d2 : ¬ st.nx+1=st.nx+1+2:=by omega
    have d3 : ¬ st.nx=st.nx+2+1:=by omega
    have d4 : ¬ st.nx+1=st.nx+2+1:=by omega
    have d5 : ¬ st.nx=st.nx+1+1:=by omega
    simp only [slc,bnd,cfS,zqf,snC,snL,zeb,if_true] at *
    clear hBf hb0 w1 gA gZ ih hV
    simp [-getElem?_pos,zs0,v1,v3,v4,v6,v8,v12,v13,v14,v53,v54,S0,S1,S2,S4,S5,v55,e3,e4,e5,e6,i1,i2,wl,ha',hy',hu',hk',hf',hfv,zbc,hr2,d1,d2,d3,d4,d5,q0,q1,q2,q3,q4,q5,n0,n1,n2,n3,n4,n5]
theorem z01 {c v:List (List Int)} {g:List Int} {cfg:Cfg} : ∀ (n:Nat) (x:Pnd),LnN 9223372036854775807 (zbv c v g cfg n x)
 | 0,x=>by unfold zbv; exact .mk (by simp) (by simp)
 | n+1,x=>by
  unfold zbv
  split
  ·exact .mk (by simp) (by simp)
  ·refine .mk (by simp) (fun k hk => ?_)
   simp only [List.mem_cons,List.not_mem_nil,or_false] at hk
   rcases hk with rfl | rfl
   ·exact z01 n _
   ·exact z01 n _
theorem zyh {c v:List (List Int)} {g:List Int} {cfg:Cfg} : ∀ (n:Nat) (x:Pnd),szN (zbv c v g cfg n x)+2≤2 ^ (n+1)
 | 0,x=>by unfold zbv; simp [szN,szK]
 | n+1,x=>by
  unfold zbv
  split
  ·simp only [szN,szK]
   have:2 ^ 1≤2 ^ (n+1+1):=Nat.pow_le_pow_right (by omega) (by omega)
   omega
  ·rename_i k _
   have h1:=zyh (c:=c) (v:=v) (g:=g) (cfg:=cfg) n (ze7 c v cfg x k)
   have h2:=zyh (c:=c) (v:=v) (g:=g) (cfg:=cfg) n (ze6 c v cfg x k)
   simp only [szN,szK]
   rw [Nat.pow_succ 2 (n+1)]
   omega
def zel (c v:List (List Int)) (g:List Int) (cfg:Cfg):SN×Bool:=if zgj c v g cfg=true then (zbv c v g cfg cfg.de.toNat (zc3 g),true) else (.mk 0 0 0 [],false)
theorem yle (c v:List (List Int)) (g:List Int) (cfg:Cfg):LnN 9223372036854775807 (zel c v g cfg).1∧szN (zel c v g cfg).1≤30:=by
 unfold zel
 split
 ·rename_i h
  refine ⟨z01 _ _,?_⟩
  have h1:=zyh (c:=c) (v:=v) (g:=g) (cfg:=cfg) cfg.de.toNat (zc3 g)
  have h2:=z6m (zi7 h).2.1
  have h3:2 ^ (cfg.de.toNat+1)≤2 ^ 5:=Nat.pow_le_pow_right (by omega) (by omega)
  simp only
  omega
 ·exact ⟨.mk (by simp) (by simp),by simp [szN,szK]⟩
theorem ybv {c v:List (List Int)} {g:List Int} {cfg:Cfg} (h:GH c v g cfg):zi4 g.length cfg.de (zc3 g)∧zcv (zc3 g).b=true∧(cfg.de-(zc3 g).l).toNat=cfg.de.toNat:=by
 have hl:=h.la
 refine ⟨⟨fun r hr => ?_,by simp [zc3],by simp [zc3],by simp only [zc3]; omega⟩,?_,by simp [zc3]⟩
 ·simp only [zc3,List.mem_map,List.mem_range] at hr
  obtain ⟨i,hi,rfl⟩:=hr
  omega
 ·simp only [zc3]; decide
theorem yko (q:Bool) (c v:List (List Int)) (g:List Int) (cfg:Cfg) (hc : ∀ l∈c,l.length≤1048576) (hv : ∀ l∈v,l.length≤1048576) (hg:g.length≤1048576) (hs:cfg.sg.length≤1048576):RUN T zmc [.agg [.sl 1 (rws q c),.sl 1 (rws q v)],.sl 1 (zaf g),cfS cfg]=some ([.agg (snC true (zel c v g cfg).1),bv (zel c v g cfg).2],[]):=by
 have e1:=yjo q c v g cfg (fun l hl=>Nat.le_trans (hc l hl) (by omega)) (fun l hl=>Nat.le_trans (hv l hl) (by omega)) (by omega) (by omega)
 simp only [zdq] at e1
 cases ht:zgj c v g cfg with
 | false =>
  rw [ht] at e1
  have hR:zel c v g cfg=(.mk 0 0 0 [],false):=by unfold zel; rw [ht]; rfl
  rw [hR]
  simp only [snC,snL,zeb,if_true]
  refine zae zxv rfl ?_
  simp [-getElem?_pos,zo8,zo9,e1]
 | true =>
  rw [ht] at e1
  have H:GH c v g cfg:=⟨ht,hs⟩
  have hR:zel c v g cfg=(zbv c v g cfg cfg.de.toNat (zc3 g),true):=by unfold zel; rw [if_pos ht]
  rw [hR]
  obtain ⟨r1,r2,r3⟩:=ybv H
  have e2:=ykm q H _ (zc3 g) r1 r2 r3
  have e3:=ykg g.length (by have:=H.gl; omega)
  have e4:=ykd
  have hroot:(zc3 g).r=upl g.length:=rfl
  have hul:(upl g.length).length=g.length:=by simp [upl]
  simp only [zqq,hroot,bnd,cfS] at e2 e4
  generalize zbv c v g cfg cfg.de.toNat (zc3 g)=S at *
  obtain ⟨sf,sc,sv,sk⟩:=S
  generalize upl g.length=U at *
  simp only [snC,zeb,if_true,zc3] at e2 ⊢
  refine zae zxv rfl ?_
  simp [-getElem?_pos,zo8,zo9,e1,e2,e3,e4,hul]
theorem ykp (q:Bool) (c v:List (List Int)) (g:List Int) (cfg:Cfg) (hc : ∀ l∈c,l.length≤1048576) (hv : ∀ l∈v,l.length≤1048576) (hg:g.length≤1048576) (hs:cfg.sg.length≤1048576):RUN T zjp [.agg [.sl 1 (rws q c),.sl 1 (rws q v)],.sl 1 (zaf g),cfS cfg]=some ([.agg (snC true (zel c v g cfg).1),bv (zel c v g cfg).2],[]):=by
 have e1:=yjn q c v g cfg (fun l hl=>Nat.le_trans (hc l hl) (by omega)) (fun l hl=>Nat.le_trans (hv l hl) (by omega)) (by omega) (by omega)
 simp only [zdq] at e1
 cases ht:zgj c v g cfg with
 | false =>
  rw [ht] at e1
  have hR:zel c v g cfg=(.mk 0 0 0 [],false):=by unfold zel; rw [ht]; rfl
  rw [hR]
  simp only [snC,snL,zeb,if_true]
  refine zae zxu rfl ?_
  simp [-getElem?_pos,zo4,zo5,e1]
 | true =>
  rw [ht] at e1
  have H:GH c v g cfg:=⟨ht,hs⟩
  have hR:zel c v g cfg=(zbv c v g cfg cfg.de.toNat (zc3 g),true):=by unfold zel; rw [if_pos ht]
  rw [hR]
  obtain ⟨r1,r2,r3⟩:=ybv H
  obtain ⟨t1,t2,t3,t4⟩:=zi7 ht
  obtain ⟨t5,t6⟩:=z84 t1
  have e2:=ykn q H _ (zc3 g) r1 r2 r3
  have e3:=ykf (zcb v) t5 t6
  have e4:=yke
  have e5:=zx5 q c v
  have hroot:(zc3 g).r=upl (zcb v):=by rw [← t3]; rfl
  have hul:(upl (zcb v)).length=zcb v:=by simp [upl]
  simp only [zqf,hroot,bnd,cfS] at e2 e4
  generalize zbv c v g cfg cfg.de.toNat (zc3 g)=S at *
  obtain ⟨sf,sc,sv,sk⟩:=S
  generalize upl (zcb v)=U at *
  simp only [snC,zeb,if_true,zc3] at e2 ⊢
  refine zae zxu rfl ?_
  simp [-getElem?_pos,zo4,zo5,e1,e2,e3,e4,e5,hul]
set_option maxHeartbeats 2000000 in
set_option maxRecDepth 4000 in
theorem yqh (c v:List (List Int)) (g:List Int) (cfg:Cfg) (hcl:c.length≤9223372036854775807) (hvl:v.length≤9223372036854775807) (hc : ∀ l∈c,l.length≤9223372036854775807) (hv : ∀ l∈v,l.length≤9223372036854775807) (hg:g.length≤9223372036854775807) (hcf:cfg.sg.length≤9223372036854775807):RUN T zo3 [.agg [.sl 1 (rws false c),.sl 1 (rws false v)],.sl 1 (zaf g),zdq cfg]=some ([bv true],[]):=by
 have s1:=yjk false c v 1048576 (by omega) (by omega) hcl hvl hc hv
 have s2:=fun h0 h1=>yja cfg (1048576-tot c-tot v) h0 h1 hcf
 have htc:tot c=c.length+zbf c:=rfl
 have htv:tot v=v.length+zbf v:=rfl
 have t2:=fun h=>zx1 g h
 have t4:=fun h=>yjb cfg h
 have q2:=yjm true true c v hcl hvl hc hv
 have q3:=zx2 g hg
 have q5:=yjc cfg hcf
 have a1:=fun h1 h2 h3 h5=>yko true c v g cfg h1 h2 h3 h5
 have a2:=fun h1 h2 h3 h5=>ykp true c v g cfg h1 h2 h3 h5
 have t1:=fun h1 h2 h3 h4=>yjl false c v h1 h2 h3 h4
 have m3:=fun h0 h1=>ykh cfg (1+zbf c+zbf v+g.length) h0 h1
 simp only [zdq,zwu] at *
 by_cases d1:(1048576:Int)<g.length
 ·refine zae zn0 rfl ?_
  simp [zkr,zks,d1]
 by_cases d3:(1048576:Int)-tot c-tot v<0
 ·rw [if_pos d3] at s1
  refine zae zn0 rfl ?_
  simp [zkr,zks,d1,s1]
 rw [if_neg d3] at s1
 have s2:=s2 (by omega) (by omega)
 by_cases d4:(1048576:Int)-tot c-tot v-cfg.sg.length<0
 ·rw [if_pos d4] at s2
  refine zae zn0 rfl ?_
  simp [zkr,zks,d1,s1,s2,d3]
 rw [if_neg d4] at s2
 have hc1 : ∀ l∈c,l.length≤1048576:=fun l hl=>by have:=z9h hl; omega
 have hv1 : ∀ l∈v,l.length≤1048576:=fun l hl=>by have:=z9h hl; omega
 have t1:=t1 (by omega) (by omega) hc1 hv1
 have t2:=t2 (by omega)
 have t4:=t4 (by omega)
 have a1:=a1 hc1 hv1 (by omega) (by omega)
 have a2:=a2 hc1 hv1 (by omega) (by omega)
 obtain ⟨c',v',hc',hv',m1⟩:=yjv c v 1 (by omega) (by omega) hcl hvl
 have m2:=zx3 g (1+zbf c+zbf v) (by omega) (by omega)
 have m3:=m3 (by omega) (by omega)
 have n1 : ¬ (1+(zbf c:Int)+zbf v+g.length+cfg.sg.length<0):=by omega
 obtain ⟨z1,z2⟩:=yle c v g cfg
 generalize zel c v g cfg=pr at *
 obtain ⟨pl,pb⟩:=pr
 simp only at a1 a2 z1 z2
 have q1:=yki true true pl z1
 obtain ⟨sf,sc,sv,sk⟩:=pl
 have hz:szN (.mk sf sc sv sk)=szK sk:=by simp [szN]
 rw [hz] at z2
 have m4:=ykj sf sc sv sk 1 (by omega) (by omega)
 have m5:=ykk sf sc sv sk 1 (by omega) (by omega)
 have n2 : ¬ (1+3*(szK sk:Int)<0):=by omega
 have hml:=zoa sk 1
 simp only [snC,snA,zeb,if_true] at a1 a2 q1
 generalize mkK 1 sk=mk' at *
 generalize hG:upto (1+(zbf c:Int)+zbf v) g.length=g' at *
 have hGl:g'.length=g.length:=by rw [← hG]; simp [upto]
 generalize hRr:upto (1+(zbf c:Int)+zbf v+g.length) cfg.sg.length=s' at *
 have hRl:s'.length=cfg.sg.length:=by rw [← hRr]; simp [upto]
 clear hG hRr
 refine zae zn0 rfl ?_
 cases pb <;> simp [zkr,zks,s1,s2,t1,t2,t4,a1,a2,q1,q2,q3,q5,m1,m2,m3,m4,m5,d1,d3,d4,n1,n2,hc',hv',hGl,hRl,hml]
theorem NC.up {S S':Nat→Option Ob} {nx nx' oq oq':Nat} {m:List Nd} {x:PV} (h:NC S nx oq m x) (hn:nx≤nx') (ho:oq'=oq∨nx≤oq') (hS : ∀ p,5<p→p<nx→¬ p=oq→S' p=S p):NC S' nx' oq' m x:=by
 rcases h with h | ⟨p,e,h1,h2,h3,h4,h5⟩
 ·exact .inl h
 ·exact .inr ⟨p,e,h1,h2,by omega,by omega,by rw [hS p h2 h3 h4]; exact h5⟩
end Go.Pe
