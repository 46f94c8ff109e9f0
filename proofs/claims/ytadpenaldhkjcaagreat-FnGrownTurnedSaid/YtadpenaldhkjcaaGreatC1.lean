/- What each function answers by the evaluator,and the law; for each answer its own conditions stand ahead of it. -/
import Derived.Test.YtadpenaldhkjcaaGreatC0
import Derived.Test.YtadpenaldhkjcaaGreatEvB2
import Derived.IntWalk
set_option linter.all false
namespace Go.Pe
open Go
theorem ye0 (c v:List (List Int)) (g rows:List Int) (least:Int):(zdp (zbi c v g rows).1 least).length≤1048576∧∀ x∈zdp (zbi c v g rows).1 least,zeg x:=by
 have h1:=z0s c v g rows
 have h2:=(znv c v g rows).2
 obtain ⟨h3,h4⟩:=yfv (least:=least) h2
 exact ⟨by omega,fun x hx=>ybp (by omega) (fun l hl=>Nat.le_trans (h2 l hl) (by omega)) (h4 x hx)⟩
set_option maxHeartbeats 1000000 in
theorem yrc (q:Bool) (c v:List (List Int)) (g:List Int) (cfg:Cfg) (rows:List Int) (b:Bd) (hc : ∀ l∈c,l.length≤1048576) (hv : ∀ l∈v,l.length≤1048576) (hg:g.length≤1048576) (hr:rows.length≤1048576) (hs:cfg.sg.length≤1048576) (hgi : ∀ x∈g,inI x):RUN T zn3 [.agg [.sl 1 (rws q c),.sl 1 (rws q v)],.sl 1 (zac g),cfS cfg,.sl 1 (zac rows),.agg (bnd b)]=some ([.agg (cnd (zb2 c v g cfg rows b).1),bv (zb2 c v g cfg rows b).2],[]):=by
 have e1:=z9l q c v g cfg (fun l hl=>Nat.le_trans (hc l hl) (by omega)) (fun l hl=>Nat.le_trans (hv l hl) (by omega)) (by omega) (by omega)
 have e2:=yqi q c v g rows hc hv hg hr hgi
 obtain ⟨f1,f2⟩:=ye0 c v g rows cfg.rw
 have e3:=yra true (zbi c v g rows).1 cfg.rw (by have:=z0s c v g rows; omega) (fun l hl=>by have:=(znv c v g rows).2 l hl; omega) (ydv c v g rows)
 have e4:=yq2 cfg b (zdp (zbi c v g rows).1 cfg.rw) f1 hs f2
 unfold zb2
 simp only [zf2,bnd] at e1 e4
 generalize zd0 c v g cfg=t at *
 generalize zbi c v g rows=H at *
 obtain ⟨H,hb⟩:=H
 simp only at e2 e3 e4 ⊢
 generalize zdo cfg b (zdp H cfg.rw)=r at *
 generalize zdp H cfg.rw=L at *
 obtain ⟨r,rb⟩:=r
 simp only [cnd] at e4 ⊢
 refine zah z5f rfl ?_
 cases t with
 | false=>simp [-getElem?_pos,zpz,zp0,bnd,e1,zhr]
 | true =>
  cases hb with
  | false=>simp [-getElem?_pos,zpz,zp0,bnd,e1,e2,zhr]
  | true =>
   simp [-getElem?_pos,zpz,zp0,bnd,e1,e2,e3,e4]
set_option maxHeartbeats 1000000 in
theorem yrd (q:Bool) (c v:List (List Int)) (g:List Int) (cfg:Cfg) (rows:List Int) (b:Bd) (hc : ∀ l∈c,l.length≤1048576) (hv : ∀ l∈v,l.length≤1048576) (hg:g.length≤1048576) (hr:rows.length≤1048576) (hs:cfg.sg.length≤1048576) (hgi : ∀ x∈g,inI x):RUN T zn4 [.agg [.sl 1 (rws q c),.sl 1 (rws q v)],.sl 1 (zac g),cfS cfg,.sl 1 (zac rows),.agg (bnd b)]=some ([.agg (cnd (zb2 c v g cfg rows b).1),bv (zb2 c v g cfg rows b).2],[]):=by
 have e1:=z9m q c v g cfg (fun l hl=>Nat.le_trans (hc l hl) (by omega)) (fun l hl=>Nat.le_trans (hv l hl) (by omega)) (by omega) (by omega)
 have e2:=yqj q c v g rows hc hv hg hr hgi
 obtain ⟨f1,f2⟩:=ye0 c v g rows cfg.rw
 have e3:=yrb true (zbi c v g rows).1 cfg.rw (by have:=z0s c v g rows; omega) (fun l hl=>by have:=(znv c v g rows).2 l hl; omega) (ydv c v g rows)
 have e4:=yq1 cfg b (zdp (zbi c v g rows).1 cfg.rw) f1 hs f2
 unfold zb2
 simp only [zf2,bnd] at e1 e4
 generalize zd0 c v g cfg=t at *
 generalize zbi c v g rows=H at *
 obtain ⟨H,hb⟩:=H
 simp only at e2 e3 e4 ⊢
 generalize zdo cfg b (zdp H cfg.rw)=r at *
 generalize zdp H cfg.rw=L at *
 obtain ⟨r,rb⟩:=r
 simp only [cnd] at e4 ⊢
 refine zah z5g rfl ?_
 cases t with
 | false=>simp [-getElem?_pos,zp1,zp2,bnd,e1,zhr]
 | true =>
  cases hb with
  | false=>simp [-getElem?_pos,zp1,zp2,bnd,e1,e2,zhr]
  | true =>
   simp [-getElem?_pos,zp1,zp2,bnd,e1,e2,e3,e4]
def zgn (g:List Int) (rows:List Int):Sl:=⟨rows.length,(rows.map fun r=>(atI g r).getD 0).sum⟩
def ztr (bins:List Int) (b r:Int):Bool:=match atI bins r with
 | some x=>decide (x≤b)
 | none=>false
def zua (bins:List Int) (b r:Int):Bool:=match atI bins r with
 | some x => !decide (x≤b)
 | none=>false
def zgp (bins rows:List Int) (b:Int):List Int:=rows.filter (ztr bins b)
def zg3 (bins rows:List Int) (b:Int):List Int:=rows.filter (zua bins b)
structure Pnd where
 r:List Int
 b:Bd
 l:Int
def zgf (c v:List (List Int)) (cfg:Cfg) (x:Pnd) (k:Cnd):Pnd:=⟨zgp ((atI v k.f).getD []) x.r k.b,(zfa (zc0 cfg k.f) x.b (zbs cfg x.b k).1 (zbs cfg x.b k).2.1).1,x.l+1⟩
def zgc (c v:List (List Int)) (cfg:Cfg) (x:Pnd) (k:Cnd):Pnd:=⟨zg3 ((atI v k.f).getD []) x.r k.b,(zfa (zc0 cfg k.f) x.b (zbs cfg x.b k).1 (zbs cfg x.b k).2.1).2,x.l+1⟩
def zde (g:List Int) (cfg:Cfg) (x:Pnd):Nd:=⟨-1,0,0,0,(zch (zgn g x.r) cfg.la x.b).1⟩
def zhk (c:List (List Int)) (k:Cnd) (n:Nat):Nd:=⟨k.f,(atI ((atI c k.f).getD []) k.b).getD 0,n,n+1,0⟩
def goes (c v:List (List Int)) (g:List Int) (cfg:Cfg) (x:Pnd):Bool:=decide (x.l<cfg.de) && (zb2 c v g cfg x.r x.b).2
def zdm (c v:List (List Int)) (g:List Int) (cfg:Cfg):Nat→List Pnd→Nat→List Nd→List Nd
 | 0,_,_,out=>out
 | n+1,q,i,out=>match q[i]? with
  | none=>out
  | some x=>if goes c v g cfg x=true then zdm c v g cfg n (q++[zgf c v cfg x (zb2 c v g cfg x.r x.b).1,zgc c v cfg x (zb2 c v g cfg x.r x.b).1]) (i+1) (out++[zhk c (zb2 c v g cfg x.r x.b).1 q.length]) else zdm c v g cfg n q (i+1) (out++[zde g cfg x])
def zfn:Bd:=⟨-1099511627776,1099511627776⟩
def zdl (g:List Int):Pnd:=⟨(List.range g.length).map fun (i:Nat)=>(i:Int),zfn,0⟩
def zdb (c v:List (List Int)) (g:List Int) (cfg:Cfg):List Nd×Bool:=if zd0 c v g cfg=true then (zdm c v g cfg 32 [zdl g] 0 [],true) else ([],false)
def pot (d:Int) (x:Pnd):Nat:=2 ^ (d+1-x.l).toNat-1
def zib (d:Int) (l:List Pnd):Nat:=(l.map (pot d)).sum
theorem z0y (d:Int) (x:Pnd) (l:List Pnd):zib d (x::l)=pot d x+zib d l:=by simp [zib]
theorem yx8 (d:Int) (l m:List Pnd):zib d (l++m)=zib d l+zib d m:=by simp [zib]
theorem yv1 {d:Int} {x:Pnd} (h:x.l≤d):1≤pot d x:=by
 unfold pot
 obtain ⟨k,hk⟩ : ∃ k,(d+1-x.l).toNat=k+1:=⟨(d-x.l).toNat,by omega⟩
 rw [hk,Nat.pow_succ]
 have:=Nat.one_le_two_pow (n:=k)
 omega
theorem yws {d:Int} {x y z:Pnd} (h:x.l<d) (hy:y.l=x.l+1) (hz:z.l=x.l+1):pot d x=pot d y+pot d z+1:=by
 unfold pot
 rw [hy,hz]
 obtain ⟨k,hk⟩ : ∃ k,(d+1-x.l).toNat=k+1:=⟨(d-x.l).toNat,by omega⟩
 have hk2:(d+1-(x.l+1)).toNat=k:=by omega
 rw [hk,hk2,Nat.pow_succ]
 have:=Nat.one_le_two_pow (n:=k)
 omega
def z0f (n:Nat) (d:Int) (x:Pnd):Prop:=(∀ r∈x.r,0≤r∧r<n)∧x.r.length≤n∧0≤x.l∧x.l≤d
theorem ybr {bins rows:List Int} {b r:Int}:(r∈zgp bins rows b→r∈rows)∧(r∈zg3 bins rows b→r∈rows):=⟨fun h=>(List.mem_filter.mp h).1,fun h=>(List.mem_filter.mp h).1⟩
theorem yxt {n:Nat} {c v:List (List Int)} {cfg:Cfg} {x:Pnd} {k:Cnd} (h:z0f n cfg.de x) (hl:x.l<cfg.de):z0f n cfg.de (zgf c v cfg x k)∧z0f n cfg.de (zgc c v cfg x k):=by
 obtain ⟨h1,h2,h3,h4⟩:=h
 refine ⟨⟨fun r hr=>h1 r (ybr.1 hr),Nat.le_trans (List.length_filter_le _ _) h2,?_,?_⟩,⟨fun r hr=>h1 r (ybr.2 hr),Nat.le_trans (List.length_filter_le _ _) h2,?_,?_⟩⟩
 ·show 0≤x.l+1; omega
 ·show x.l+1≤cfg.de; omega
 ·show 0≤x.l+1; omega
 ·show x.l+1≤cfg.de; omega
theorem zro {c v:List (List Int)} {g:List Int} {cfg:Cfg} (h:zd0 c v g cfg=true):zdr c v=true∧zcg cfg=true∧g.length=zc7 v∧(∀ x∈g,-2199023255552≤x∧x≤2199023255552):=by
 unfold zd0 at h
 simp only [Bool.and_eq_true,decide_eq_true_eq] at h
 exact ⟨h.1.1.1,h.1.1.2,by omega,fun x hx=>za3.mp (List.all_eq_true.mp h.2 x hx)⟩
theorem z0r {c v:List (List Int)} (h:zdr c v=true):1≤zc7 v∧zc7 v≤40:=by
 unfold zdr at h
 simp only [Bool.and_eq_true] at h
 have:=za3.mp h.1.2
 omega
theorem z2p {cfg:Cfg} (h:zcg cfg=true):(0≤cfg.de∧cfg.de≤4)∧cfg.sg.length≤4∧(1≤cfg.la∧cfg.la≤100):=by
 unfold zcg at h
 simp only [Bool.and_eq_true,decide_eq_true_eq] at h
 have h1:=za3.mp h.1.1.1.1.1.1.1.2
 have h2:=za3.mp h.1.1.1.1.1.2
 omega
theorem yr3 {c v:List (List Int)} {g:List Int} {cfg:Cfg} {rows:List Int} {b:Bd} (h:(zb2 c v g cfg rows b).2=true):zrf (zbi c v g rows).1 (zb2 c v g cfg rows b).1∧(zbi c v g rows).2=true:=by
 unfold zb2 at h ⊢
 split
 ·rename_i h1
  rw [if_pos h1] at h
  split
  ·rename_i h2
   rw [if_pos h2] at h
   obtain ⟨h3,_,_⟩:=yvv h
   exact ⟨(yfv (znv c v g rows).2).2 _ h3,h2⟩
  ·rename_i h2
   rw [if_neg h2] at h; cases h
 ·rename_i h1
  rw [if_neg h1] at h; cases h
theorem yre:RUN T zn8 []=some ([.agg (bnd zfn)],[]):=by
 refine zah z5o rfl ?_
 simp [zuv,zuw,bnd,zfn]
theorem yrf:RUN T zok []=some ([.agg (bnd zfn)],[]):=by
 refine zah z6b rfl ?_
 simp [zvv,zvw,bnd,zfn]
def upl (n:Nat):List Int:=(List.range n).map fun (i:Nat)=>(i:Int)
theorem yei (n:Nat):upl n++[(n:Int)]=upl (n+1):=by simp [upl,List.range_succ]
@[simp] theorem qe0 (n:Nat):(upl n).length=n:=by simp [upl]
@[simp] theorem qf9:upl 0=[]:=rfl
theorem yrg (n:Nat) (h1:1≤n) (h2:n≤40):RUN T zoj [iv n]=some ([.own 1 (zac (upl n))],[]):=by
 have e:=zdy n 1 40
 rw [za3.mpr (by omega)] at e
 have hr0:zak 8 0=true:=by decide
 have hr1:zak 8 1=true:=by decide
 refine zah z6a rfl ?_
 simp [-getElem?_pos,zvt,zvu,-zcp,e,hr0]
 refine za0 (fun k st => ∃ (i o e:Nat),i+k=n∧st.V 3 = .ref o none e 0 i∧st.V 10=iv n∧st.V 11=iv i∧o<st.nx∧st.S o=some (.row 1 (zac (upl i)))) ?_ n _ ⟨0,0,0,by omega,by simp⟩
 rintro k st ⟨i,o,ep,hi,v3,v10,v11,hox,hSo⟩
 obtain ⟨x1,x2,x3,x4⟩:=fr hox
 by_cases hlt:i<n
 ·have hws:=wS hlt (by omega:n≤9223372036854775807)
  have hr8:=zc3 (n:=i+1) (by omega)
  have hsn:zac (upl i)++[[iv (i:Int)]]=zac (upl (i+1)):=by rw [zcv,yei]
  simp [-getElem?_pos,z1k,v3,v10,v11,hSo,hlt,hws,hr1,hr8,hsn,x1,x2,x3,x4]
  exact zan (k-1) (by omega) ⟨i+1,st.nx+1,st.ep,by omega,by simp,by simp [v10],by simp,by simp,by simp⟩
 ·have hin:i=n:=by omega
  subst hin
  simp [-getElem?_pos,z1k,v3,v10,v11,hSo,hlt]
theorem yrh (n:Nat) (h2:n≤40):RUN T zn7 [iv n]=some ([.own 1 (zac (upl n))],[]):=by
 have hr0:zak 8 0=true:=by decide
 have hr1:zak 8 1=true:=by decide
 refine zah z5n rfl ?_
 simp [-getElem?_pos,zut,zuu,hr0]
 refine za0 (fun k st => ∃ (i o e:Nat),i+k=n∧st.V 0=iv n∧st.V 3 = .ref o none e 0 i∧st.V 4=iv i∧o<st.nx∧st.S o=some (.row 1 (zac (upl i)))) ?_ n _ ⟨0,0,0,by omega,by simp⟩
 rintro k st ⟨i,o,ep,hi,v0,v3,v4,hox,hSo⟩
 obtain ⟨x1,x2,x3,x4⟩:=fr hox
 have h3:(n:Int)≤40:=by omega
 by_cases hlt:i<n
 ·have hws:=wS hlt (by omega:n≤9223372036854775807)
  have hr8:=zc3 (n:=i+1) (by omega)
  have hsn:zac (upl i)++[[iv (i:Int)]]=zac (upl (i+1)):=by rw [zcv,yei]
  simp [-getElem?_pos,z1h,v0,v3,v4,hSo,hlt,h3,hws,hr1,hr8,hsn,x1,x2,x3,x4]
  exact zan (k-1) (by omega) ⟨i+1,st.nx+1,st.ep,by omega,by simp [v0],by simp,by simp,by simp,by simp⟩
 ·have hin:i=n:=by omega
  subst hin
  simp [-getElem?_pos,z1h,v0,v3,v4,hSo,hlt]
def ze0 (g rows:List Int) (i:Nat):Int:=((rows.take i).map fun r=>(atI g r).getD 0).sum
theorem yg5 {g rows:List Int} {i:Nat} {r x:Int} (hr:rows[i]?=some r) (hx:atI g r=some x):ze0 g rows (i+1)=ze0 g rows i+x:=by
 unfold ze0
 rw [List.take_succ,hr]
 simp [hx]
theorem z0a {g rows:List Int} (hg : ∀ x∈g,-2199023255552≤x∧x≤2199023255552) : ∀ i:Nat,i≤rows.length → -2199023255552*(i:Int)≤ze0 g rows i∧ze0 g rows i≤2199023255552*(i:Int)
 | 0,_=>by simp [ze0]
 | i+1,h=>by
  have ih:=z0a (rows:=rows) hg i (by omega)
  obtain ⟨r,hr⟩ : ∃ r,rows[i]?=some r:=⟨_,List.getElem?_eq_getElem (by omega)⟩
  have e:ze0 g rows (i+1)=ze0 g rows i+(atI g r).getD 0:=by
   unfold ze0
   rw [List.take_succ,hr]
   simp
  rw [e]
  cases hx:atI g r with
  | none=>simp only [Option.getD_none]; omega
  | some x =>
   obtain ⟨_,_,h3,_⟩:=zfx hx
   have:=hg x (List.mem_of_getElem? h3)
   simp only [Option.getD_some]; omega
theorem z2n (g rows:List Int):zgn g rows=⟨rows.length,ze0 g rows rows.length⟩:=by simp [zgn,ze0]
theorem yam {g rows:List Int} (hg : ∀ x∈g,-2199023255552≤x∧x≤2199023255552) (hl:rows.length≤1048576):slI (zgn g rows):=by
 rw [z2n]
 have:=z0a (rows:=rows) hg rows.length (by omega)
 exact ⟨by unfold inI; simp only; omega,by unfold inI; simp only; omega⟩
theorem yri (g rows:List Int) (hg : ∀ x∈g,-2199023255552≤x∧x≤2199023255552) (hr : ∀ r∈rows,0≤r∧r<g.length) (hl:rows.length≤1048576):RUN T zol [.sl 1 (zac g),.sl 1 (zac rows)]=some ([.agg (slc (zgn g rows))],[]):=by
 rw [z2n]
 refine zah z6d rfl ?_
 simp [-getElem?_pos,zvx,zvy]
 refine za0 (fun k st => ∃ i:Nat,i+k=rows.length∧st.V 0 = .sl 1 (zac g)∧st.V 4 = .ptr 0 none 0 0 0∧st.V 5 = .ptr 1 none 0 0 0∧st.V 11 = .sl 1 (zac rows)∧st.V 12=iv rows.length∧st.V 13=iv i∧1<st.nx∧st.S 1=some (.box [iv rows.length,iv (ze0 g rows i)])∧st.S 0=some (.box [iv 0,iv 0])) ?_ rows.length _ ⟨0,by omega,by simp,by simp,by simp,by simp,by simp,by simp,by simp,by simp [ze0],by simp⟩
 rintro k st ⟨i,hi,v0,v4,v5,v11,v12,v13,h1x,hS1,hS0⟩
 obtain ⟨z1,z2,z3,z4⟩:=fr h1x
 by_cases hlt:i<rows.length
 ·obtain ⟨r,hrr⟩ : ∃ r,rows[i]?=some r:=⟨_,List.getElem?_eq_getElem hlt⟩
  obtain ⟨r0,r1⟩:=hr r (List.mem_of_getElem? hrr)
  obtain ⟨rn,rfl⟩ : ∃ n:Nat,r=n:=⟨r.toNat,by omega⟩
  obtain ⟨x,hx⟩ : ∃ x,g[rn]?=some x:=⟨_,List.getElem?_eq_getElem (by omega)⟩
  have hrn:rn<g.length:=by omega
  have hr':=zba hrr
  have hx':=zba hx
  have hws:=wS hlt (by omega:rows.length≤9223372036854775807)
  have hs:=yg5 (g:=g) hrr (x:=x) (by unfold atI; rw [if_pos r0]; simpa using hx)
  have b1:=z0a (rows:=rows) hg (i+1) (by omega)
  rw [hs] at b1
  have hw:=w64 (x:=ze0 g rows i+x) (by omega) (by omega)
  simp [-getElem?_pos,z1l,v0,v4,v5,v11,v12,v13,hS1,hS0,hlt,hr',hx',hrn,hw,hws,z1,z2,z3,z4]
  exact zan (k-1) (by omega) ⟨i+1,by omega,by simp [v0],by simp [v4],by simp [v5],by simp [v11],by simp [v12],by simp,by simp [h1x],by simp [hs],by simp [hS0]⟩
 ·have hin:i=rows.length:=by omega
  subst hin
  simp [-getElem?_pos,z1l,v4,v5,v12,v13,hS1,hS0,slc]
theorem yrj (g rows:List Int) (hg : ∀ x∈g,-2199023255552≤x∧x≤2199023255552) (hr : ∀ r∈rows,0≤r∧r<g.length) (hl:rows.length≤1048576):RUN T zop [.sl 1 (zac g),.sl 1 (zac rows)]=some ([.agg (slc (zgn g rows))],[]):=by
 rw [z2n]
 refine zah z6j rfl ?_
 simp [-getElem?_pos,zv5,zv6]
 refine za0 (fun k st => ∃ i:Nat,i+k=rows.length∧st.V 0 = .sl 1 (zac g)∧st.V 1 = .sl 1 (zac rows)∧st.V 4 = .ptr 0 none 0 0 0∧st.V 5 = .ptr 1 none 0 0 0∧st.V 6=iv i∧1<st.nx∧st.S 1=some (.box [iv i,iv (ze0 g rows i)])∧st.S 0=some (.box [iv 0,iv 0])) ?_ rows.length _ ⟨0,by omega,by simp,by simp,by simp,by simp,by simp,by simp,by simp [ze0],by simp⟩
 rintro k st ⟨i,hi,v0,v1,v4,v5,v6,h1x,hS1,hS0⟩
 obtain ⟨z1,z2,z3,z4⟩:=fr h1x
 by_cases hlt:i<rows.length
 ·obtain ⟨r,hrr⟩ : ∃ r,rows[i]?=some r:=⟨_,List.getElem?_eq_getElem hlt⟩
  obtain ⟨r0,r1⟩:=hr r (List.mem_of_getElem? hrr)
  obtain ⟨rn,rfl⟩ : ∃ n:Nat,r=n:=⟨r.toNat,by omega⟩
  obtain ⟨x,hx⟩ : ∃ x,g[rn]?=some x:=⟨_,List.getElem?_eq_getElem (by omega)⟩
  have hrn:rn<g.length:=by omega
  have hr':=zba hrr
  have hx':=zba hx
  have hws:=wS hlt (by omega:rows.length≤9223372036854775807)
  have hs:=yg5 (g:=g) hrr (x:=x) (by unfold atI; rw [if_pos r0]; simpa using hx)
  have b1:=z0a (rows:=rows) hg (i+1) (by omega)
  rw [hs] at b1
  have hw:=w64 (x:=ze0 g rows i+x) (by omega) (by omega)
  simp [-getElem?_pos,z1m,v0,v1,v4,v5,v6,hS1,hS0,hlt,hr',hx',hrn,hw,hws,z1,z2,z3,z4]
  exact zan (k-1) (by omega) ⟨i+1,by omega,by simp [v0],by simp [v1],by simp [v4],by simp [v5],by simp,by simp [h1x],by simp [hs],by simp [hS0]⟩
 ·have hin:i=rows.length:=by omega
  subst hin
  simp [-getElem?_pos,z1m,v1,v4,v5,v6,hS1,hS0,slc]
set_option maxHeartbeats 1000000 in
theorem yrk (bins rows:List Int) (b:Int) (hb:bins.length≤1048576) (hl:rows.length≤1048576):RUN T zon [.sl 1 (zac bins),.sl 1 (zac rows),iv b]=some ([.own 1 (zac (zgp bins rows b)),.own 1 (zac (zg3 bins rows b))],[]):=by
 have hr0:zak 8 0=true:=by decide
 have hr1:zak 8 1=true:=by decide
 have w1:=w64 (x:=(bins.length:Int)-1) (by omega) (by omega)
 refine zah z6f rfl ?_
 simp [-getElem?_pos,zvz,zv0,hr0]
 refine za0 (fun k st => ∃ (i o e p e2:Nat) (m l:List Int),i+k=rows.length∧m.length≤i∧l.length≤i∧m++(rows.drop i).filter (ztr bins b)=zgp bins rows b∧l++(rows.drop i).filter (zua bins b)=zg3 bins rows b∧st.V 0 = .sl 1 (zac bins)∧st.V 2=iv b∧st.V 8 = .ref o none e 0 m.length∧st.V 9 = .ref p none e2 0 l.length∧st.V 14 = .sl 1 (zac rows)∧st.V 15=iv rows.length∧st.V 16=iv i∧¬ o=p∧o<st.nx∧p<st.nx∧st.S o=some (.row 1 (zac m))∧st.S p=some (.row 1 (zac l))) ?_ rows.length _ ⟨0,0,0,1,0,[],[],by omega,by simp,by simp,by simp [zgp],by simp [zg3],by simp⟩
 rintro k st ⟨i,o,e,p,e2,m,l,hi,hml,hll,hm,hl2,v0,v2,v8,v9,v14,v15,v16,hop,hox,hpx,hSo,hSp⟩
 obtain ⟨x1,x2,x3,x4⟩:=fr hox
 obtain ⟨z1,z2,z3,z4⟩:=fr hpx
 have hpo : ¬ p=o:=fun e=>hop e.symm
 by_cases hlt:i<rows.length
 ·obtain ⟨r,hrr⟩ : ∃ r,rows[i]?=some r:=⟨_,List.getElem?_eq_getElem hlt⟩
  have hr':=zba hrr
  have hws:=wS hlt (by omega:rows.length≤9223372036854775807)
  have e1:=zdy r 0 ((bins.length:Int)-1)
  rw [zfg hrr,List.filter_cons] at hm hl2
  have hB:ztr bins b r=match atI bins r with
   | some x=>decide (x≤b)
   | none=>false:=rfl
  have hC:zua bins b r=match atI bins r with
   | some x => !decide (x≤b)
   | none=>false:=rfl
  have r1:=zc3 (n:=m.length+1) (by omega)
  have r2:=zc3 (n:=l.length+1) (by omega)
  have s1:=zcv m r
  have s2:=zcv l r
  cases hx:atI bins r with
  | none =>
   have hn:=zia hx
   rw [show zaj r 0 ((bins.length:Int)-1)=false from by
    cases hw:zaj r 0 ((bins.length:Int)-1) with
    | false=>rfl
    | true=>have:=za3.mp hw; omega] at e1
   rw [hx] at hB hC
   rw [hB] at hm
   rw [hC] at hl2
   simp [-getElem?_pos,zsd,-zcp,v0,v2,v8,v9,v14,v15,v16,hSo,hSp,hlt,hr',hws,w1,e1]
   exact zan (k-1) (by omega) ⟨i+1,o,e,p,e2,m,l,by omega,by omega,by omega,by simpa using hm,by simpa using hl2,by simp [v0],by simp [v2],by simp [v8],by simp [v9],by simp [v14],by simp [v15],by simp,hop,by simp [hox],by simp [hpx],by simp [hSo],by simp [hSp]⟩
  | some x =>
   obtain ⟨rn,rfl,hbr,hbl⟩:=zfx hx
   rw [show zaj rn 0 ((bins.length:Int)-1)=true from za3.mpr (by omega)] at e1
   rw [hx] at hB hC
   rw [hB] at hm
   rw [hC] at hl2
   have hb':=zba hbr
   by_cases hc:x≤b
   ·have d1:decide (x≤b)=true:=decide_eq_true hc
    simp only [d1,if_true,Bool.not_true,Bool.false_eq_true,if_false] at hm hl2
    simp [-getElem?_pos,zsd,-zcp,v0,v2,v8,v9,v14,v15,v16,hSo,hSp,hlt,hr',hws,w1,e1,hb',hbl,hc,hr1,r1,s1,hop,hpo,x1,x2,x3,x4,z1,z2,z3,z4]
    exact zan (k-1) (by omega) ⟨i+1,st.nx+1,st.ep,p,e2,m++[(rn:Int)],l,by omega,by simp; omega,by omega,by simpa using hm,hl2,by simp [v0],by simp [v2],by simp,by simp [v9],by simp [v14],by simp [v15],by simp,by omega,by simp,by simp; omega,by simp,by simp [hop,hpo,x1,x2,x3,x4,z1,z2,z3,z4,hSp]⟩
   ·have d1:decide (x≤b)=false:=decide_eq_false hc
    simp only [d1,if_true,Bool.not_false,Bool.false_eq_true,if_false] at hm hl2
    simp [-getElem?_pos,zsd,-zcp,v0,v2,v8,v9,v14,v15,v16,hSo,hSp,hlt,hr',hws,w1,e1,hb',hbl,hc,hr1,r2,s2,hop,hpo,x1,x2,x3,x4,z1,z2,z3,z4]
    exact zan (k-1) (by omega) ⟨i+1,o,e,st.nx+1,st.ep,m,l++[(rn:Int)],by omega,by omega,by simp; omega,hm,by simpa using hl2,by simp [v0],by simp [v2],by simp [v8],by simp,by simp [v14],by simp [v15],by simp,by omega,by simp; omega,by simp,by simp [hop,hpo,x1,x2,x3,x4,z1,z2,z3,z4,hSo],by simp⟩
 ·rw [List.drop_eq_nil_of_le (by omega)] at hm hl2
  simp only [List.filter_nil,List.append_nil] at hm hl2
  subst hm hl2
  simp [-getElem?_pos,zsd,v8,v9,v14,v15,v16,hSo,hSp,hlt,hop,hpo]
set_option maxHeartbeats 1000000 in
theorem yrl (bins rows:List Int) (b:Int) (hb:bins.length≤1048576) (hl:rows.length≤1048576):RUN T zn5 [.sl 1 (zac bins),.sl 1 (zac rows),iv b]=some ([.own 1 (zac (zgp bins rows b)),.own 1 (zac (zg3 bins rows b))],[]):=by
 have hr0:zak 8 0=true:=by decide
 have hr1:zak 8 1=true:=by decide
 have w1:=w64 (x:=(bins.length:Int)-1) (by omega) (by omega)
 refine zah z5h rfl ?_
 simp [-getElem?_pos,zun,zuo,hr0]
 refine za0 (fun k st => ∃ (i o e p e2:Nat) (m l:List Int),i+k=rows.length∧m.length≤i∧l.length≤i∧m++(rows.drop i).filter (ztr bins b)=zgp bins rows b∧l++(rows.drop i).filter (zua bins b)=zg3 bins rows b∧st.V 0 = .sl 1 (zac bins)∧st.V 1 = .sl 1 (zac rows)∧st.V 2=iv b∧st.V 8 = .ref o none e 0 m.length∧st.V 9 = .ref p none e2 0 l.length∧st.V 10=iv i∧¬ o=p∧o<st.nx∧p<st.nx∧st.S o=some (.row 1 (zac m))∧st.S p=some (.row 1 (zac l))) ?_ rows.length _ ⟨0,0,0,1,0,[],[],by omega,by simp,by simp,by simp [zgp],by simp [zg3],by simp⟩
 rintro k st ⟨i,o,e,p,e2,m,l,hi,hml,hll,hm,hl2,v0,v1,v2,v8,v9,v10,hop,hox,hpx,hSo,hSp⟩
 obtain ⟨x1,x2,x3,x4⟩:=fr hox
 obtain ⟨z1,z2,z3,z4⟩:=fr hpx
 have hpo : ¬ p=o:=fun e=>hop e.symm
 by_cases hlt:i<rows.length
 ·obtain ⟨r,hrr⟩ : ∃ r,rows[i]?=some r:=⟨_,List.getElem?_eq_getElem hlt⟩
  have hr':=zba hrr
  have hws:=wS hlt (by omega:rows.length≤9223372036854775807)
  have e1:=zbd r 0 ((bins.length:Int)-1)
  rw [zfg hrr,List.filter_cons] at hm hl2
  have hB:ztr bins b r=match atI bins r with
   | some x=>decide (x≤b)
   | none=>false:=rfl
  have hC:zua bins b r=match atI bins r with
   | some x => !decide (x≤b)
   | none=>false:=rfl
  have r1:=zc3 (n:=m.length+1) (by omega)
  have r2:=zc3 (n:=l.length+1) (by omega)
  have s1:=zcv m r
  have s2:=zcv l r
  cases hx:atI bins r with
  | none =>
   have hn:=zia hx
   rw [show zaj r 0 ((bins.length:Int)-1)=false from by
    cases hw:zaj r 0 ((bins.length:Int)-1) with
    | false=>rfl
    | true=>have:=za3.mp hw; omega] at e1
   rw [hx] at hB hC
   rw [hB] at hm
   rw [hC] at hl2
   simp [-getElem?_pos,zrr,-za2,v0,v1,v2,v8,v9,v10,hSo,hSp,hlt,hr',hws,w1,e1]
   exact zan (k-1) (by omega) ⟨i+1,o,e,p,e2,m,l,by omega,by omega,by omega,by simpa using hm,by simpa using hl2,by simp [v0],by simp [v1],by simp [v2],by simp [v8],by simp [v9],by simp,hop,by simp [hox],by simp [hpx],by simp [hSo],by simp [hSp]⟩
  | some x =>
   obtain ⟨rn,rfl,hbr,hbl⟩:=zfx hx
   rw [show zaj rn 0 ((bins.length:Int)-1)=true from za3.mpr (by omega)] at e1
   rw [hx] at hB hC
   rw [hB] at hm
   rw [hC] at hl2
   have hb':=zba hbr
   by_cases hc:x≤b
   ·have d1:decide (x≤b)=true:=decide_eq_true hc
    simp only [d1,if_true,Bool.not_true,Bool.false_eq_true,if_false] at hm hl2
    simp [-getElem?_pos,zrr,-za2,v0,v1,v2,v8,v9,v10,hSo,hSp,hlt,hr',hws,w1,e1,hb',hbl,hc,hr1,r1,s1,hop,hpo,x1,x2,x3,x4,z1,z2,z3,z4]
    exact zan (k-1) (by omega) ⟨i+1,st.nx+1,st.ep,p,e2,m++[(rn:Int)],l,by omega,by simp; omega,by omega,by simpa using hm,hl2,by simp [v0],by simp [v1],by simp [v2],by simp,by simp [v9],by simp,by omega,by simp,by simp; omega,by simp,by simp [hop,hpo,x1,x2,x3,x4,z1,z2,z3,z4,hSp]⟩
   ·have d1:decide (x≤b)=false:=decide_eq_false hc
    simp only [d1,if_true,Bool.not_false,Bool.false_eq_true,if_false] at hm hl2
    simp [-getElem?_pos,zrr,-za2,v0,v1,v2,v8,v9,v10,hSo,hSp,hlt,hr',hws,w1,e1,hb',hbl,hc,hr1,r2,s2,hop,hpo,x1,x2,x3,x4,z1,z2,z3,z4]
    exact zan (k-1) (by omega) ⟨i+1,o,e,st.nx+1,st.ep,m,l++[(rn:Int)],by omega,by omega,by simp; omega,hm,by simpa using hl2,by simp [v0],by simp [v1],by simp [v2],by simp [v8],by simp,by simp,by omega,by simp; omega,by simp,by simp [hop,hpo,x1,x2,x3,x4,z1,z2,z3,z4,hSo],by simp⟩
 ·rw [List.drop_eq_nil_of_le (by omega)] at hm hl2
  simp only [List.filter_nil,List.append_nil] at hm hl2
  subst hm hl2
  simp [-getElem?_pos,zrr,v1,v8,v9,v10,hSo,hSp,hlt,hop,hpo]
def pnd (x:Pnd):List PV:=[.own 1 (zac x.r),iv x.b.lo,iv x.b.hi,iv x.l]
def zf0 (l:List Pnd):List (List PV):=l.map pnd
@[simp] theorem qc7 (l:List Pnd):(zf0 l).length=l.length:=by simp [zf0]
theorem z2h {l:List Pnd} {i:Nat} {x:Pnd} (h:l[i]?=some x):(zf0 l)[i]?=some [.own 1 (zac x.r),iv x.b.lo,iv x.b.hi,iv x.l]:=by simp [zf0,h,pnd]
theorem ydb {l:List Pnd} {i:Nat} {x:Pnd} (h:l[i]?=some x):zbv (zf0 l) i 0=some (1,zac x.r):=by simp [zbv,z2h h]
theorem yff (l:List Pnd) (x y:Pnd):zf0 l++[[.own 1 (zac x.r),iv x.b.lo,iv x.b.hi,iv x.l],[.own 1 (zac y.r),iv y.b.lo,iv y.b.hi,iv y.l]]=zf0 (l++[x,y]):=by simp [zf0,pnd]
theorem zk8 {α:Type} {l:List α} {i:Nat} {x:α} (h:l[i]?=some x):atI l (i:Int)=some x:=by
 unfold atI
 rw [if_pos (by omega)]
 simpa using h
theorem yuc {b g rows:List Int} {k:Int} (h:(zcb b g rows k).2=true):((zcb b g rows k).1.length:Int)=k:=by
 unfold zcb at h ⊢
 split
 ·rename_i hk
  rw [if_pos hk] at h
  have hk':=za3.mp hk
  cases e:zco b g rows (List.replicate k.toNat ⟨0,0⟩) with
  | none=>rw [e] at h; cases h
  | some h'=>have:=z3e _ _ _ e; simp at this; simp only; omega
 ·rename_i hk
  rw [if_neg hk] at h; cases h
theorem ybi {g rows:List Int} : ∀ (c v:List (List Int)) (H:List (List Sl)) (f:Nat) (h:List Sl),zbp g rows c v=some H→H[f]?=some h→∃ x y,c[f]?=some x∧v[f]?=some y∧h.length=x.length+1
 | [],v,H,f,h,e,hf=>by simp [zbp] at e; subst e; simp at hf
 | x::c,[],H,f,h,e,hf=>by simp [zbp] at e; subst e; simp at hf
 | x::c,y::v,H,f,h,e,hf=>by
  simp only [zbp] at e
  split at e
  ·rename_i hp
   simp only [Option.map_eq_some_iff] at e
   obtain ⟨H',h1,rfl⟩:=e
   cases f with
   | zero =>
    simp at hf
    subst hf
    have:=yuc hp
    exact ⟨x,y,rfl,rfl,by omega⟩
   | succ f =>
    simp at hf
    obtain ⟨x',y',h2,h3,h4⟩:=ybi c v H' f h h1 hf
    exact ⟨x',y',by simpa using h2,by simpa using h3,h4⟩
  ·cases e
theorem yvf {c v:List (List Int)} {g rows:List Int} {f:Nat} {h:List Sl} (hb:(zbi c v g rows).2=true) (hf:(zbi c v g rows).1[f]?=some h) : ∃ x y,c[f]?=some x∧v[f]?=some y∧h.length=x.length+1:=by
 unfold zbi at hb hf
 split at hb
 ·rename_i hg
  rw [if_pos hg] at hf
  cases e:zbp g rows c v with
  | none=>rw [e] at hb; cases hb
  | some H=>rw [e] at hf; exact ybi c v H f h e hf
 ·cases hb
theorem ycj {c v:List (List Int)} {g:List Int} {cfg:Cfg} {rows:List Int} {b:Bd} (h:(zb2 c v g cfg rows b).2=true) : ∃ (f k:Nat) (x y:List Int) (z:Int),(zb2 c v g cfg rows b).1.f=f∧(zb2 c v g cfg rows b).1.b=k∧c[f]?=some x∧v[f]?=some y∧x[k]?=some z∧zeg (zb2 c v g cfg rows b).1:=by
 obtain ⟨h1,h2⟩:=yr3 h
 have hI:=ybp (by have:=z0s c v g rows; omega) (fun l hl=>Nat.le_trans ((znv c v g rows).2 l hl) (by omega)) h1
 obtain ⟨f,k,l,e1,e2,e3,e4,_,_⟩:=h1
 obtain ⟨x,y,hx,hy,hl⟩:=yvf h2 e3
 exact ⟨f,k,x,y,x[k]'(by omega),e1,e2,hx,hy,List.getElem?_eq_getElem (by omega),hI⟩
theorem yuv {x lo hi:Int} (h:lo≤hi):lo≤zfm x lo hi∧zfm x lo hi≤hi:=by
 unfold zfm
 split
 ·omega
 ·split <;> omega
theorem yxu {b:Bd} (h:zg9 b=true):b.lo≤b.hi ∧ -1099511627776≤b.lo∧b.hi≤1099511627776:=by
 unfold zg9 at h
 simp only [Bool.and_eq_true,decide_eq_true_eq] at h
 have h1:=h.1.2
 have h2:=h.2
 unfold zgz at h1 h2
 have:=za3.mp h1
 have:=za3.mp h2
 omega
theorem yc9 (s:Sl) (l:Int) (b:Bd) : -1099511627776≤(zch s l b).1∧(zch s l b).1≤1099511627776:=by
 unfold zch
 split
 ·rename_i h
  simp only [Bool.and_eq_true] at h
  obtain ⟨h1,h2,h3⟩:=yxu h.2
  have:=yuv (x:=(fdv s.g (s.n+l)).1) h1
  simp only; omega
 ·simp
theorem z0n (c:Cfg) (b:Bd) (x:Cnd):inI (zbs c b x).1∧inI (zbs c b x).2.1:=by
 have h1:=yc9 x.a c.la b
 have h2:=yc9 x.z c.la b
 unfold zbs inI
 split
 ·simp only; omega
 ·simp
def NC (S:Nat→Option Ob) (nx oq:Nat) (m:List Nd) (x:PV):Prop:=(x = .e0∧m=[])∨∃ o e,x = .ref o none e 0 m.length∧5<o∧o<nx∧¬ o=oq∧S o=some (.row 5 (m.map nd))
theorem ya0 {c v:List (List Int)} {g:List Int} {cfg:Cfg} {n:Nat} {q:List Pnd} {i:Nat} {out:List Nd} (h:q[i]?=none):zdm c v g cfg n q i out=out:=by
 cases n with
 | zero=>rfl
 | succ n=>rw [zdm,h]
theorem yxn {c v:List (List Int)} {g:List Int} {cfg:Cfg} {n:Nat} {q:List Pnd} {i:Nat} {out:List Nd} {x:Pnd} (h:q[i]?=some x) (hg:goes c v g cfg x=false):zdm c v g cfg (n+1) q i out=zdm c v g cfg n q (i+1) (out++[zde g cfg x]):=by
 rw [zdm,h]; simp [hg]
theorem yyn {c v:List (List Int)} {g:List Int} {cfg:Cfg} {n:Nat} {q:List Pnd} {i:Nat} {out:List Nd} {x:Pnd} (h:q[i]?=some x) (hg:goes c v g cfg x=true):zdm c v g cfg (n+1) q i out=zdm c v g cfg n (q++[zgf c v cfg x (zb2 c v g cfg x.r x.b).1,zgc c v cfg x (zb2 c v g cfg x.r x.b).1]) (i+1) (out++[zhk c (zb2 c v g cfg x.r x.b).1 q.length]):=by
 rw [zdm,h]; simp [hg]
structure GI (c v:List (List Int)) (g:List Int) (cfg:Cfg) (n:Nat) (q:List Pnd) (i:Nat) (out:List Nd):Prop where
 n1:i+n=32
 le:i≤q.length
 ql:q.length≤2*i+1
 ol:out.length=i
 po:zib cfg.de (q.drop i)≤n
 ok : ∀ x∈q,z0f g.length cfg.de x
 go:zdm c v g cfg n q i out=zdm c v g cfg 32 [zdl g] 0 []
theorem GI.leaf {c v:List (List Int)} {g:List Int} {cfg:Cfg} {n:Nat} {q:List Pnd} {i:Nat} {out:List Nd} {x:Pnd} (h:GI c v g cfg n q i out) (hx:q[i]?=some x) (hg:goes c v g cfg x=false):1≤n∧GI c v g cfg (n-1) q (i+1) (out++[zde g cfg x]):=by
 have hp:=h.po
 rw [zfg hx,z0y] at hp
 have:=yv1 (h.ok x (List.mem_of_getElem? hx)).2.2.2
 have hlt:=(List.getElem?_eq_some_iff.mp hx).1
 obtain ⟨m,rfl⟩ : ∃ m,n=m+1:=⟨n-1,by omega⟩
 have:=h.n1
 have:=h.ql
 exact ⟨by omega,by simp; omega,by omega,by omega,by simp [h.ol],by simp; omega,h.ok,by rw [← h.go,yxn hx hg]; rfl⟩
theorem GI.cut {c v:List (List Int)} {g:List Int} {cfg:Cfg} {n:Nat} {q:List Pnd} {i:Nat} {out:List Nd} {x:Pnd} (h:GI c v g cfg n q i out) (hx:q[i]?=some x) (hg:goes c v g cfg x=true):1≤n∧GI c v g cfg (n-1) (q++[zgf c v cfg x (zb2 c v g cfg x.r x.b).1,zgc c v cfg x (zb2 c v g cfg x.r x.b).1]) (i+1) (out++[zhk c (zb2 c v g cfg x.r x.b).1 q.length]):=by
 have hp:=h.po
 have hlt:=(List.getElem?_eq_some_iff.mp hx).1
 have hxo:=h.ok x (List.mem_of_getElem? hx)
 rw [zfg hx,z0y] at hp
 have hlv:x.l<cfg.de:=by
  unfold goes at hg
  simp only [Bool.and_eq_true,decide_eq_true_eq] at hg
  exact hg.1
 have hk:=yws (y:=zgf c v cfg x (zb2 c v g cfg x.r x.b).1) (z:=zgc c v cfg x (zb2 c v g cfg x.r x.b).1) hlv rfl rfl
 obtain ⟨m,rfl⟩ : ∃ m,n=m+1:=⟨n-1,by omega⟩
 have:=h.n1
 have:=h.ql
 obtain ⟨ko1,ko2⟩:=yxt (c:=c) (v:=v) (k:=(zb2 c v g cfg x.r x.b).1) hxo hlv
 refine ⟨by omega,by simp; omega,by simp; omega,by simp; omega,by simp [h.ol],?_,fun y hy => ?_,by rw [← h.go,yyn hx hg]; rfl⟩
 ·rw [List.drop_append_of_le_length (by omega),yx8,z0y,z0y]
  have:zib cfg.de ([]:List Pnd)=0:=rfl
  simp only [Nat.add_sub_cancel]
  omega
 ·rcases List.mem_append.mp hy with e | e
  ·exact h.ok y e
  ·simp only [List.mem_cons,List.not_mem_nil,or_false] at e
   rcases e with e | e
   ·subst e; exact ko1
   ·subst e; exact ko2
theorem GI.start {c v:List (List Int)} {g:List Int} {cfg:Cfg} (h:zd0 c v g cfg=true):GI c v g cfg 32 [zdl g] 0 []:=by
 obtain ⟨h1,h2,h3,h4⟩:=zro h
 obtain ⟨d1,d2⟩:=(z2p h2).1
 refine ⟨rfl,by simp,by simp,rfl,?_,fun x hx => ?_,rfl⟩
 ·simp only [List.drop_zero,zib,List.map_cons,List.map_nil,List.sum_cons,List.sum_nil,pot,zdl]
  have:(cfg.de+1-0).toNat≤5:=by omega
  have:=Nat.pow_le_pow_right (n:=2) (by omega) this
  omega
 ·simp only [List.mem_singleton] at hx
  subst hx
  refine ⟨fun r hr => ?_,by simp [zdl],by simp [zdl],d1⟩
  simp only [zdl,List.mem_map,List.mem_range] at hr
  obtain ⟨j,hj,rfl⟩:=hr
  omega
set_option maxHeartbeats 8000000 in
set_option maxRecDepth 8000 in
theorem yag (q:Bool) (c v:List (List Int)) (g:List Int) (cfg:Cfg) (hc : ∀ l∈c,l.length≤1048576) (hv : ∀ l∈v,l.length≤1048576) (hg:g.length≤1048576) (hs:cfg.sg.length≤1048576) (hgi : ∀ x∈g,inI x):RUN T zlc [.agg [.sl 1 (rws q c),.sl 1 (rws q v)],.sl 1 (zac g),cfS cfg]=some ([.agg [.own 5 ((zdb c v g cfg).1.map nd)],bv (zdb c v g cfg).2],[]):=by
 have e1:=z9l q c v g cfg (fun l hl=>Nat.le_trans (hc l hl) (by omega)) (fun l hl=>Nat.le_trans (hv l hl) (by omega)) (by omega) (by omega)
 simp only [zf2] at e1
 cases ht:zd0 c v g cfg with
 | false =>
  rw [ht] at e1
  have hR:zdb c v g cfg=([],false):=by unfold zdb; rw [ht]; rfl
  rw [hR]
  refine zah z1r rfl ?_
  simp [-getElem?_pos,zrs,zrt,e1]
 | true =>
  rw [ht] at e1
  have hR:zdb c v g cfg=(zdm c v g cfg 32 [zdl g] 0 [],true):=by unfold zdb; rw [if_pos ht]
  rw [hR]
  obtain ⟨R,hR'⟩ : ∃ R,R=zdm c v g cfg 32 [zdl g] 0 []:=⟨_,rfl⟩
  rw [← hR']
  obtain ⟨t1,t2,t3,t4⟩:=zro ht
  obtain ⟨t5,t6⟩:=z0r t1
  have e2:=z1y q c v
  have e3:=yrg (zc7 v) t5 t6
  have e4:=yrf
  have hr48:zak 48 1=true:=by decide
  have hG:=GI.start ht
  have hroot:zf0 [zdl g]=[[.own 1 (zac (upl (zc7 v))),iv zfn.lo,iv zfn.hi,iv 0]]:=by simp [zf0,pnd,zdl,t3,upl]
  simp only [bnd] at e4
  refine zah z1r rfl ?_
  simp [-getElem?_pos,zrs,zrt,e1,e2,e3,e4,hr48]
  refine za0 (fun n st => ∃ (i o e:Nat) (Q:List Pnd) (out:List Nd) (x:PV),GI c v g cfg n Q i out∧st.V 1 = .sl 1 (zac g)∧st.V 3 = .ptr 0 none 0 0 0∧st.V 5 = .ptr 1 none 0 0 0∧st.V 6 = .ptr 2 none 0 0 0∧st.V 8 = .ref o none e 0 Q.length∧st.V 9 = .ptr 5 none 0 0 0∧st.V 10=iv i∧3<o∧¬ o=5∧o<st.nx∧5<st.nx∧st.S 0=some (.box [.sl 1 (rws q c),.sl 1 (rws q v)])∧st.S 1=some (.box [iv cfg.ro,iv cfg.de,iv cfg.bi,iv cfg.la,iv cfg.rw,iv cfg.nu,iv cfg.dn,.sl 1 (zac cfg.sg)])∧st.S 2=some (.box [.e0])∧st.S 5=some (.box [x])∧st.S o=some (.row 4 (zf0 Q))∧NC st.S st.nx o out x) ?_ 32 _ ⟨0,4,0,[zdl g],[],.e0,hG,?_⟩
  ·rintro n st ⟨i,o,ep,Q,out,x,hG,v1,v3,v5,v6,v8,v9,v10,ho3,ho5,hox,h5x,hS0,hS1,hS2,hS5,hSo,hN⟩
   obtain ⟨Fa01,Fa02,Fa03,Fa04⟩:=fr (show 0<st.nx by omega)
   obtain ⟨Fb01,Fb02,Fb03,Fb04⟩:=fr (show 1<st.nx by omega)
   obtain ⟨Fc01,Fc02,Fc03,Fc04⟩:=fr (show 2<st.nx by omega)
   obtain ⟨Fd01,Fd02,Fd03,Fd04⟩:=fr (show 5<st.nx by omega)
   obtain ⟨Fo01,Fo02,Fo03,Fo04⟩:=fr (show o<st.nx by omega)
   have N0a:(o=0)=False:=eq_false (by omega)
   have N0b:(0=o)=False:=eq_false (by omega)
   have N1a:(o=1)=False:=eq_false (by omega)
   have N1b:(1=o)=False:=eq_false (by omega)
   have N2a:(o=2)=False:=eq_false (by omega)
   have N2b:(2=o)=False:=eq_false (by omega)
   have N3a:(o=5)=False:=eq_false (by omega)
   have N3b:(5=o)=False:=eq_false (by omega)
   have y0:(st.nx=0)=False:=eq_false (by omega)
   have y1:(st.nx=1)=False:=eq_false (by omega)
   have y2:(st.nx=2)=False:=eq_false (by omega)
   have y3:(st.nx=3)=False:=eq_false (by omega)
   have y4:(st.nx=4)=False:=eq_false (by omega)
   have y5:(st.nx=5)=False:=eq_false (by omega)
   have na : ∀ a b:Nat,st.nx+a+b=st.nx+(a+b):=fun a b=>Nat.add_assoc _ _ _
   by_cases hlt:i<Q.length
   ·obtain ⟨p,hp⟩ : ∃ p,Q[i]?=some p:=⟨_,List.getElem?_eq_getElem hlt⟩
    have hp':=z2h hp
    have hps:=ydb hp
    have hpo:=hG.ok p (List.mem_of_getElem? hp)
    obtain ⟨p1,p2,p3,p4⟩:=hpo
    have hn1:=hG.n1
    have hql:=hG.ql
    have hws:=wS hlt (by omega:Q.length≤9223372036854775807)
    have f1:=yrc q c v g cfg p.r p.b hc hv hg (by omega) hs hgi
    have f2:=yri g p.r t4 p1 (by omega)
    have f3:=z18 (zgn g p.r) cfg.la p.b (yam t4 (by omega))
    have hr40:zak 40 1=true:=by decide
    have hr41:zak 40 (out.length+1)=true:=by have:=hG.ol; simp [zak]; omega
    have hsn:=z1e out (zde g cfg p)
    simp only [zde] at hsn
    simp only [bnd] at f1 f3
    obtain ⟨K,hK⟩ : ∃ K,K=zb2 c v g cfg p.r p.b:=⟨_,rfl⟩
    obtain ⟨G,hGg⟩ : ∃ G,G=goes c v g cfg p:=⟨_,rfl⟩
    have hG2:G=(decide (p.l<cfg.de) && K.2):=by rw [hGg,hK]; rfl
    cases G with
    | false =>
     obtain ⟨m1,hG'⟩:=hG.leaf hp hGg.symm
     rw [← hK] at f1
     simp only [slc] at f2 f3
     by_cases hlv:p.l<cfg.de
     ·have hK2:K.2=false:=by simpa [hlv] using hG2.symm
      obtain ⟨K,Kb⟩:=K
      simp only at hK2 f1
      subst hK2
      simp only [cnd] at f1
      rcases hN with ⟨rfl,rfl⟩ | ⟨w,ew,rfl,hw5,hwx,hwo,hSw⟩
      ·simp [-getElem?_pos,ziz,v1,v3,v5,v6,v8,v9,v10,hS0,hS1,hS2,hS5,hSo,hlt,hp',hps,hlv,f1,f2,f3,hws,hr40,Fa01,Fa02,Fa03,Fa04,Fb01,Fb02,Fb03,Fb04,Fc01,Fc02,Fc03,Fc04,Fd01,Fd02,Fd03,Fd04,Fo01,Fo02,Fo03,Fo04,N0a,N0b,N1a,N1b,N2a,N2b,N3a,N3b,y0,y1,y2,y3,y4,y5,na]
       refine zan (n-1) (by omega) ⟨i+1,o,ep,Q,[zde g cfg p],.ref (st.nx+3) none st.ep 0 1,hG',by simp [v1],by simp [v3],by simp [v5],by simp [v6],by simp [v8],by simp [v9],by simp,ho3,ho5,(by simp <;> omega),by simp <;> omega,by simp [Fa01,Fa02,Fa03,Fa04,Fb01,Fb02,Fb03,Fb04,Fc01,Fc02,Fc03,Fc04,Fd01,Fd02,Fd03,Fd04,Fo01,Fo02,Fo03,Fo04,N0a,N0b,N1a,N1b,N2a,N2b,N3a,N3b,y0,y1,y2,y3,y4,y5,na,hS0],by simp [Fa01,Fa02,Fa03,Fa04,Fb01,Fb02,Fb03,Fb04,Fc01,Fc02,Fc03,Fc04,Fd01,Fd02,Fd03,Fd04,Fo01,Fo02,Fo03,Fo04,N0a,N0b,N1a,N1b,N2a,N2b,N3a,N3b,y0,y1,y2,y3,y4,y5,na,hS1],by simp [Fa01,Fa02,Fa03,Fa04,Fb01,Fb02,Fb03,Fb04,Fc01,Fc02,Fc03,Fc04,Fd01,Fd02,Fd03,Fd04,Fo01,Fo02,Fo03,Fo04,N0a,N0b,N1a,N1b,N2a,N2b,N3a,N3b,y0,y1,y2,y3,y4,y5,na,hS2],by simp [Fa01,Fa02,Fa03,Fa04,Fb01,Fb02,Fb03,Fb04,Fc01,Fc02,Fc03,Fc04,Fd01,Fd02,Fd03,Fd04,Fo01,Fo02,Fo03,Fo04,N0a,N0b,N1a,N1b,N2a,N2b,N3a,N3b,y0,y1,y2,y3,y4,y5,na],by simp [Fa01,Fa02,Fa03,Fa04,Fb01,Fb02,Fb03,Fb04,Fc01,Fc02,Fc03,Fc04,Fd01,Fd02,Fd03,Fd04,Fo01,Fo02,Fo03,Fo04,N0a,N0b,N1a,N1b,N2a,N2b,N3a,N3b,y0,y1,y2,y3,y4,y5,na,hSo],.inr ⟨st.nx+3,st.ep,by simp,by omega,by simp <;> omega,by omega,by simp [nd,zde,y0,y1,y2,y3,y4,y5]⟩⟩
      ·obtain ⟨Fw01,Fw02,Fw03,Fw04⟩:=fr (show w<st.nx by omega)
       have M0a:(w=0)=False:=eq_false (by omega)
       have M0b:(0=w)=False:=eq_false (by omega)
       have M1a:(w=1)=False:=eq_false (by omega)
       have M1b:(1=w)=False:=eq_false (by omega)
       have M2a:(w=2)=False:=eq_false (by omega)
       have M2b:(2=w)=False:=eq_false (by omega)
       have M3a:(w=5)=False:=eq_false (by omega)
       have M3b:(5=w)=False:=eq_false (by omega)
       have M4a:(w=o)=False:=eq_false (by omega)
       have M4b:(o=w)=False:=eq_false (by omega)
       simp [-getElem?_pos,ziz,v1,v3,v5,v6,v8,v9,v10,hS0,hS1,hS2,hS5,hSo,hSw,hlt,hp',hps,hlv,f1,f2,f3,hws,hr40,hr41,hsn,Fa01,Fa02,Fa03,Fa04,Fb01,Fb02,Fb03,Fb04,Fc01,Fc02,Fc03,Fc04,Fd01,Fd02,Fd03,Fd04,Fo01,Fo02,Fo03,Fo04,N0a,N0b,N1a,N1b,N2a,N2b,N3a,N3b,y0,y1,y2,y3,y4,y5,na,Fw01,Fw02,Fw03,Fw04,M0a,M0b,M1a,M1b,M2a,M2b,M3a,M3b,M4a,M4b]
       refine zan (n-1) (by omega) ⟨i+1,o,ep,Q,out++[zde g cfg p],.ref (st.nx+3) none st.ep 0 (out.length+1),hG',by simp [v1],by simp [v3],by simp [v5],by simp [v6],by simp [v8],by simp [v9],by simp,ho3,ho5,(by simp <;> omega),by simp <;> omega,by simp [Fa01,Fa02,Fa03,Fa04,Fb01,Fb02,Fb03,Fb04,Fc01,Fc02,Fc03,Fc04,Fd01,Fd02,Fd03,Fd04,Fo01,Fo02,Fo03,Fo04,N0a,N0b,N1a,N1b,N2a,N2b,N3a,N3b,y0,y1,y2,y3,y4,y5,na,Fw01,Fw02,Fw03,Fw04,M0a,M0b,M1a,M1b,M2a,M2b,M3a,M3b,M4a,M4b,hS0],by simp [Fa01,Fa02,Fa03,Fa04,Fb01,Fb02,Fb03,Fb04,Fc01,Fc02,Fc03,Fc04,Fd01,Fd02,Fd03,Fd04,Fo01,Fo02,Fo03,Fo04,N0a,N0b,N1a,N1b,N2a,N2b,N3a,N3b,y0,y1,y2,y3,y4,y5,na,Fw01,Fw02,Fw03,Fw04,M0a,M0b,M1a,M1b,M2a,M2b,M3a,M3b,M4a,M4b,hS1],by simp [Fa01,Fa02,Fa03,Fa04,Fb01,Fb02,Fb03,Fb04,Fc01,Fc02,Fc03,Fc04,Fd01,Fd02,Fd03,Fd04,Fo01,Fo02,Fo03,Fo04,N0a,N0b,N1a,N1b,N2a,N2b,N3a,N3b,y0,y1,y2,y3,y4,y5,na,Fw01,Fw02,Fw03,Fw04,M0a,M0b,M1a,M1b,M2a,M2b,M3a,M3b,M4a,M4b,hS2],by simp [Fa01,Fa02,Fa03,Fa04,Fb01,Fb02,Fb03,Fb04,Fc01,Fc02,Fc03,Fc04,Fd01,Fd02,Fd03,Fd04,Fo01,Fo02,Fo03,Fo04,N0a,N0b,N1a,N1b,N2a,N2b,N3a,N3b,y0,y1,y2,y3,y4,y5,na,Fw01,Fw02,Fw03,Fw04,M0a,M0b,M1a,M1b,M2a,M2b,M3a,M3b,M4a,M4b],by simp [Fa01,Fa02,Fa03,Fa04,Fb01,Fb02,Fb03,Fb04,Fc01,Fc02,Fc03,Fc04,Fd01,Fd02,Fd03,Fd04,Fo01,Fo02,Fo03,Fo04,N0a,N0b,N1a,N1b,N2a,N2b,N3a,N3b,y0,y1,y2,y3,y4,y5,na,Fw01,Fw02,Fw03,Fw04,M0a,M0b,M1a,M1b,M2a,M2b,M3a,M3b,M4a,M4b,hSo],.inr ⟨st.nx+3,st.ep,by simp,by omega,by simp <;> omega,by omega,by simp [nd,zde,y0,y1,y2,y3,y4,y5]⟩⟩
     ·rcases hN with ⟨rfl,rfl⟩ | ⟨w,ew,rfl,hw5,hwx,hwo,hSw⟩
      ·simp [-getElem?_pos,ziz,v1,v3,v5,v6,v8,v9,v10,hS0,hS1,hS2,hS5,hSo,hlt,hp',hps,hlv,f2,f3,hws,hr40,Fa01,Fa02,Fa03,Fa04,Fb01,Fb02,Fb03,Fb04,Fc01,Fc02,Fc03,Fc04,Fd01,Fd02,Fd03,Fd04,Fo01,Fo02,Fo03,Fo04,N0a,N0b,N1a,N1b,N2a,N2b,N3a,N3b,y0,y1,y2,y3,y4,y5,na]
       refine zan (n-1) (by omega) ⟨i+1,o,ep,Q,[zde g cfg p],.ref (st.nx+3) none st.ep 0 1,hG',by simp [v1],by simp [v3],by simp [v5],by simp [v6],by simp [v8],by simp [v9],by simp,ho3,ho5,(by simp <;> omega),by simp <;> omega,by simp [Fa01,Fa02,Fa03,Fa04,Fb01,Fb02,Fb03,Fb04,Fc01,Fc02,Fc03,Fc04,Fd01,Fd02,Fd03,Fd04,Fo01,Fo02,Fo03,Fo04,N0a,N0b,N1a,N1b,N2a,N2b,N3a,N3b,y0,y1,y2,y3,y4,y5,na,hS0],by simp [Fa01,Fa02,Fa03,Fa04,Fb01,Fb02,Fb03,Fb04,Fc01,Fc02,Fc03,Fc04,Fd01,Fd02,Fd03,Fd04,Fo01,Fo02,Fo03,Fo04,N0a,N0b,N1a,N1b,N2a,N2b,N3a,N3b,y0,y1,y2,y3,y4,y5,na,hS1],by simp [Fa01,Fa02,Fa03,Fa04,Fb01,Fb02,Fb03,Fb04,Fc01,Fc02,Fc03,Fc04,Fd01,Fd02,Fd03,Fd04,Fo01,Fo02,Fo03,Fo04,N0a,N0b,N1a,N1b,N2a,N2b,N3a,N3b,y0,y1,y2,y3,y4,y5,na,hS2],by simp [Fa01,Fa02,Fa03,Fa04,Fb01,Fb02,Fb03,Fb04,Fc01,Fc02,Fc03,Fc04,Fd01,Fd02,Fd03,Fd04,Fo01,Fo02,Fo03,Fo04,N0a,N0b,N1a,N1b,N2a,N2b,N3a,N3b,y0,y1,y2,y3,y4,y5,na],by simp [Fa01,Fa02,Fa03,Fa04,Fb01,Fb02,Fb03,Fb04,Fc01,Fc02,Fc03,Fc04,Fd01,Fd02,Fd03,Fd04,Fo01,Fo02,Fo03,Fo04,N0a,N0b,N1a,N1b,N2a,N2b,N3a,N3b,y0,y1,y2,y3,y4,y5,na,hSo],.inr ⟨st.nx+3,st.ep,by simp,by omega,by simp <;> omega,by omega,by simp [nd,zde,y0,y1,y2,y3,y4,y5]⟩⟩
      ·obtain ⟨Fw01,Fw02,Fw03,Fw04⟩:=fr (show w<st.nx by omega)
       have M0a:(w=0)=False:=eq_false (by omega)
       have M0b:(0=w)=False:=eq_false (by omega)
       have M1a:(w=1)=False:=eq_false (by omega)
       have M1b:(1=w)=False:=eq_false (by omega)
       have M2a:(w=2)=False:=eq_false (by omega)
       have M2b:(2=w)=False:=eq_false (by omega)
       have M3a:(w=5)=False:=eq_false (by omega)
       have M3b:(5=w)=False:=eq_false (by omega)
       have M4a:(w=o)=False:=eq_false (by omega)
       have M4b:(o=w)=False:=eq_false (by omega)
       simp [-getElem?_pos,ziz,v1,v3,v5,v6,v8,v9,v10,hS0,hS1,hS2,hS5,hSo,hSw,hlt,hp',hps,hlv,f2,f3,hws,hr40,hr41,hsn,Fa01,Fa02,Fa03,Fa04,Fb01,Fb02,Fb03,Fb04,Fc01,Fc02,Fc03,Fc04,Fd01,Fd02,Fd03,Fd04,Fo01,Fo02,Fo03,Fo04,N0a,N0b,N1a,N1b,N2a,N2b,N3a,N3b,y0,y1,y2,y3,y4,y5,na,Fw01,Fw02,Fw03,Fw04,M0a,M0b,M1a,M1b,M2a,M2b,M3a,M3b,M4a,M4b]
       refine zan (n-1) (by omega) ⟨i+1,o,ep,Q,out++[zde g cfg p],.ref (st.nx+3) none st.ep 0 (out.length+1),hG',by simp [v1],by simp [v3],by simp [v5],by simp [v6],by simp [v8],by simp [v9],by simp,ho3,ho5,(by simp <;> omega),by simp <;> omega,by simp [Fa01,Fa02,Fa03,Fa04,Fb01,Fb02,Fb03,Fb04,Fc01,Fc02,Fc03,Fc04,Fd01,Fd02,Fd03,Fd04,Fo01,Fo02,Fo03,Fo04,N0a,N0b,N1a,N1b,N2a,N2b,N3a,N3b,y0,y1,y2,y3,y4,y5,na,Fw01,Fw02,Fw03,Fw04,M0a,M0b,M1a,M1b,M2a,M2b,M3a,M3b,M4a,M4b,hS0],by simp [Fa01,Fa02,Fa03,Fa04,Fb01,Fb02,Fb03,Fb04,Fc01,Fc02,Fc03,Fc04,Fd01,Fd02,Fd03,Fd04,Fo01,Fo02,Fo03,Fo04,N0a,N0b,N1a,N1b,N2a,N2b,N3a,N3b,y0,y1,y2,y3,y4,y5,na,Fw01,Fw02,Fw03,Fw04,M0a,M0b,M1a,M1b,M2a,M2b,M3a,M3b,M4a,M4b,hS1],by simp [Fa01,Fa02,Fa03,Fa04,Fb01,Fb02,Fb03,Fb04,Fc01,Fc02,Fc03,Fc04,Fd01,Fd02,Fd03,Fd04,Fo01,Fo02,Fo03,Fo04,N0a,N0b,N1a,N1b,N2a,N2b,N3a,N3b,y0,y1,y2,y3,y4,y5,na,Fw01,Fw02,Fw03,Fw04,M0a,M0b,M1a,M1b,M2a,M2b,M3a,M3b,M4a,M4b,hS2],by simp [Fa01,Fa02,Fa03,Fa04,Fb01,Fb02,Fb03,Fb04,Fc01,Fc02,Fc03,Fc04,Fd01,Fd02,Fd03,Fd04,Fo01,Fo02,Fo03,Fo04,N0a,N0b,N1a,N1b,N2a,N2b,N3a,N3b,y0,y1,y2,y3,y4,y5,na,Fw01,Fw02,Fw03,Fw04,M0a,M0b,M1a,M1b,M2a,M2b,M3a,M3b,M4a,M4b],by simp [Fa01,Fa02,Fa03,Fa04,Fb01,Fb02,Fb03,Fb04,Fc01,Fc02,Fc03,Fc04,Fd01,Fd02,Fd03,Fd04,Fo01,Fo02,Fo03,Fo04,N0a,N0b,N1a,N1b,N2a,N2b,N3a,N3b,y0,y1,y2,y3,y4,y5,na,Fw01,Fw02,Fw03,Fw04,M0a,M0b,M1a,M1b,M2a,M2b,M3a,M3b,M4a,M4b,hSo],.inr ⟨st.nx+3,st.ep,by simp,by omega,by simp <;> omega,by omega,by simp [nd,zde,y0,y1,y2,y3,y4,y5]⟩⟩
    | true =>
     obtain ⟨m1,hG'⟩:=hG.cut hp hGg.symm
     have t7:=z2p t2
     have hlv:p.l<cfg.de:=by
      have h9:=hG2.symm
      simp only [Bool.and_eq_true,decide_eq_true_eq] at h9
      exact h9.1
     have hK2:K.2=true:=by
      have h9:=hG2.symm
      simp only [Bool.and_eq_true,decide_eq_true_eq] at h9
      exact h9.2
     obtain ⟨kf,kb,X,Y,z,k1,k2,hX,hY,hz,kI⟩:=ycj (c:=c) (v:=v) (g:=g) (cfg:=cfg) (rows:=p.r) (b:=p.b) (by rw [← hK]; exact hK2)
     rw [← hK] at f1 hG' k1 k2 kI
     obtain ⟨⟨kf',kb',ka,kz⟩,Kb⟩:=K
     simp only at hK2 k1 k2 kI f1 hG'
     subst hK2 k1 k2
     have hfc:=(List.getElem?_eq_some_iff.mp hX).1
     have hfv:=(List.getElem?_eq_some_iff.mp hY).1
     have hbx:=(List.getElem?_eq_some_iff.mp hz).1
     have hX':=zem (q:=q) hX
     have hY':=zem (q:=q) hY
     have hz':=zba hz
     have f4:=yac cfg p.b ⟨kf,kb,ka,kz⟩ kI
     have f5:=yae cfg kf (by omega)
     have f6:=yq6 (zc0 cfg kf) p.b (zbs cfg p.b ⟨kf,kb,ka,kz⟩).1 (zbs cfg p.b ⟨kf,kb,ka,kz⟩).2.1 (z0n _ _ _).1 (z0n _ _ _).2
     have f7:=yrk Y p.r kb (hv Y (List.mem_of_getElem? hY)) (by omega)
     have hkl:zgf c v cfg p ⟨kf,kb,ka,kz⟩=⟨zgp Y p.r kb,(zfa (zc0 cfg kf) p.b (zbs cfg p.b ⟨kf,kb,ka,kz⟩).1 (zbs cfg p.b ⟨kf,kb,ka,kz⟩).2.1).1,p.l+1⟩:=by
      unfold zgf
      simp only [zk8 hY,Option.getD_some]
     have hkr:zgc c v cfg p ⟨kf,kb,ka,kz⟩=⟨zg3 Y p.r kb,(zfa (zc0 cfg kf) p.b (zbs cfg p.b ⟨kf,kb,ka,kz⟩).1 (zbs cfg p.b ⟨kf,kb,ka,kz⟩).2.1).2,p.l+1⟩:=by
      unfold zgc
      simp only [zk8 hY,Option.getD_some]
     have hcn:zhk c ⟨kf,kb,ka,kz⟩ Q.length=⟨kf,z,Q.length,Q.length+1,0⟩:=by
      unfold zhk
      simp only [zk8 hX,Option.getD_some,zk8 hz]
     rw [hkl,hkr,hcn] at hG'
     clear hkl hkr hcn
     generalize zbs cfg p.b ⟨kf,kb,ka,kz⟩=sv at *
     obtain ⟨sl,sr,sb⟩:=sv
     simp only at f4 f6 hG'
     generalize zc0 cfg kf=sg at *
     generalize zfa sg p.b sl sr=bb at *
     obtain ⟨⟨ll,lh⟩,⟨rl,rh⟩⟩:=bb
     generalize zgp Y p.r kb=L1 at *
     generalize zg3 Y p.r kb=R1 at *
     simp only [bnd,cnd] at f1 f4 f6 hG'
     have hQ:=yff Q ⟨L1,⟨ll,lh⟩,p.l+1⟩ ⟨R1,⟨rl,rh⟩,p.l+1⟩
     have hsn2:=z1e out ⟨kf,z,Q.length,Q.length+1,0⟩
     simp only at hQ hsn2
     have wl:=w64 (x:=p.l+1) (by omega) (by omega)
     have wq:=w64 (x:=(Q.length:Int)+1) (by omega) (by omega)
     have hr482:zak 48 2=true:=by decide
     have hr483:zak 48 (Q.length+2)=true:=by simp [zak]; omega
     rcases hN with ⟨rfl,rfl⟩ | ⟨w,ew,rfl,hw5,hwx,hwo,hSw⟩
     ·simp [-getElem?_pos,ziz,v1,v3,v5,v6,v8,v9,v10,hS0,hS1,hS2,hS5,hSo,hlt,hp',hps,hlv,f1,f4,f5,f6,f7,hX',hY',hz',hfc,hfv,hbx,wl,wq,hr482,hr483,hQ,hws,hr40,Fa01,Fa02,Fa03,Fa04,Fb01,Fb02,Fb03,Fb04,Fc01,Fc02,Fc03,Fc04,Fd01,Fd02,Fd03,Fd04,Fo01,Fo02,Fo03,Fo04,N0a,N0b,N1a,N1b,N2a,N2b,N3a,N3b,y0,y1,y2,y3,y4,y5,na]
      refine zan (n-1) (by omega) ⟨i+1,st.nx+9,st.ep,(Q++[⟨L1,⟨ll,lh⟩,p.l+1⟩,⟨R1,⟨rl,rh⟩,p.l+1⟩]),[⟨kf,z,Q.length,Q.length+1,0⟩],.ref (st.nx+7) none st.ep 0 1,hG',by simp [v1],by simp [v3],by simp [v5],by simp [v6],by simp,by simp [v9],by simp,by omega,by omega,by simp,by simp <;> omega,by simp [Fa01,Fa02,Fa03,Fa04,Fb01,Fb02,Fb03,Fb04,Fc01,Fc02,Fc03,Fc04,Fd01,Fd02,Fd03,Fd04,Fo01,Fo02,Fo03,Fo04,N0a,N0b,N1a,N1b,N2a,N2b,N3a,N3b,y0,y1,y2,y3,y4,y5,na,hS0],by simp [Fa01,Fa02,Fa03,Fa04,Fb01,Fb02,Fb03,Fb04,Fc01,Fc02,Fc03,Fc04,Fd01,Fd02,Fd03,Fd04,Fo01,Fo02,Fo03,Fo04,N0a,N0b,N1a,N1b,N2a,N2b,N3a,N3b,y0,y1,y2,y3,y4,y5,na,hS1],by simp [Fa01,Fa02,Fa03,Fa04,Fb01,Fb02,Fb03,Fb04,Fc01,Fc02,Fc03,Fc04,Fd01,Fd02,Fd03,Fd04,Fo01,Fo02,Fo03,Fo04,N0a,N0b,N1a,N1b,N2a,N2b,N3a,N3b,y0,y1,y2,y3,y4,y5,na,hS2],by simp [Fa01,Fa02,Fa03,Fa04,Fb01,Fb02,Fb03,Fb04,Fc01,Fc02,Fc03,Fc04,Fd01,Fd02,Fd03,Fd04,Fo01,Fo02,Fo03,Fo04,N0a,N0b,N1a,N1b,N2a,N2b,N3a,N3b,y0,y1,y2,y3,y4,y5,na],by simp [Fa01,Fa02,Fa03,Fa04,Fb01,Fb02,Fb03,Fb04,Fc01,Fc02,Fc03,Fc04,Fd01,Fd02,Fd03,Fd04,Fo01,Fo02,Fo03,Fo04,N0a,N0b,N1a,N1b,N2a,N2b,N3a,N3b,y0,y1,y2,y3,y4,y5,na],.inr ⟨st.nx+7,st.ep,by simp,by omega,by simp,by simp,by simp [nd,Fo03,Fo04,Fo01,Fo02,y0,y1,y2,y3,y4,y5]⟩⟩
     ·obtain ⟨Fw01,Fw02,Fw03,Fw04⟩:=fr (show w<st.nx by omega)
      have M0a:(w=0)=False:=eq_false (by omega)
      have M0b:(0=w)=False:=eq_false (by omega)
      have M1a:(w=1)=False:=eq_false (by omega)
      have M1b:(1=w)=False:=eq_false (by omega)
      have M2a:(w=2)=False:=eq_false (by omega)
      have M2b:(2=w)=False:=eq_false (by omega)
      have M3a:(w=5)=False:=eq_false (by omega)
      have M3b:(5=w)=False:=eq_false (by omega)
      have M4a:(w=o)=False:=eq_false (by omega)
      have M4b:(o=w)=False:=eq_false (by omega)
      simp [-getElem?_pos,ziz,v1,v3,v5,v6,v8,v9,v10,hS0,hS1,hS2,hS5,hSo,hSw,hlt,hp',hps,hlv,f1,f4,f5,f6,f7,hX',hY',hz',hfc,hfv,hbx,wl,wq,hr482,hr483,hQ,hws,hr40,hr41,hsn2,Fa01,Fa02,Fa03,Fa04,Fb01,Fb02,Fb03,Fb04,Fc01,Fc02,Fc03,Fc04,Fd01,Fd02,Fd03,Fd04,Fo01,Fo02,Fo03,Fo04,N0a,N0b,N1a,N1b,N2a,N2b,N3a,N3b,y0,y1,y2,y3,y4,y5,na,Fw01,Fw02,Fw03,Fw04,M0a,M0b,M1a,M1b,M2a,M2b,M3a,M3b,M4a,M4b]
      refine zan (n-1) (by omega) ⟨i+1,st.nx+9,st.ep,(Q++[⟨L1,⟨ll,lh⟩,p.l+1⟩,⟨R1,⟨rl,rh⟩,p.l+1⟩]),(out++[⟨kf,z,Q.length,Q.length+1,0⟩]),.ref (st.nx+7) none st.ep 0 (out.length+1),hG',by simp [v1],by simp [v3],by simp [v5],by simp [v6],by simp,by simp [v9],by simp,by omega,by omega,by simp,by simp <;> omega,by simp [Fa01,Fa02,Fa03,Fa04,Fb01,Fb02,Fb03,Fb04,Fc01,Fc02,Fc03,Fc04,Fd01,Fd02,Fd03,Fd04,Fo01,Fo02,Fo03,Fo04,N0a,N0b,N1a,N1b,N2a,N2b,N3a,N3b,y0,y1,y2,y3,y4,y5,na,Fw01,Fw02,Fw03,Fw04,M0a,M0b,M1a,M1b,M2a,M2b,M3a,M3b,M4a,M4b,hS0],by simp [Fa01,Fa02,Fa03,Fa04,Fb01,Fb02,Fb03,Fb04,Fc01,Fc02,Fc03,Fc04,Fd01,Fd02,Fd03,Fd04,Fo01,Fo02,Fo03,Fo04,N0a,N0b,N1a,N1b,N2a,N2b,N3a,N3b,y0,y1,y2,y3,y4,y5,na,Fw01,Fw02,Fw03,Fw04,M0a,M0b,M1a,M1b,M2a,M2b,M3a,M3b,M4a,M4b,hS1],by simp [Fa01,Fa02,Fa03,Fa04,Fb01,Fb02,Fb03,Fb04,Fc01,Fc02,Fc03,Fc04,Fd01,Fd02,Fd03,Fd04,Fo01,Fo02,Fo03,Fo04,N0a,N0b,N1a,N1b,N2a,N2b,N3a,N3b,y0,y1,y2,y3,y4,y5,na,Fw01,Fw02,Fw03,Fw04,M0a,M0b,M1a,M1b,M2a,M2b,M3a,M3b,M4a,M4b,hS2],by simp [Fa01,Fa02,Fa03,Fa04,Fb01,Fb02,Fb03,Fb04,Fc01,Fc02,Fc03,Fc04,Fd01,Fd02,Fd03,Fd04,Fo01,Fo02,Fo03,Fo04,N0a,N0b,N1a,N1b,N2a,N2b,N3a,N3b,y0,y1,y2,y3,y4,y5,na,Fw01,Fw02,Fw03,Fw04,M0a,M0b,M1a,M1b,M2a,M2b,M3a,M3b,M4a,M4b],by simp [Fa01,Fa02,Fa03,Fa04,Fb01,Fb02,Fb03,Fb04,Fc01,Fc02,Fc03,Fc04,Fd01,Fd02,Fd03,Fd04,Fo01,Fo02,Fo03,Fo04,N0a,N0b,N1a,N1b,N2a,N2b,N3a,N3b,y0,y1,y2,y3,y4,y5,na,Fw01,Fw02,Fw03,Fw04,M0a,M0b,M1a,M1b,M2a,M2b,M3a,M3b,M4a,M4b],.inr ⟨st.nx+7,st.ep,by simp,by omega,by simp,by simp,by simp [nd,Fo03,Fo04,Fo01,Fo02,y0,y1,y2,y3,y4,y5]⟩⟩
   ·have hiq:i=Q.length:=by have:=hG.le; omega
    have hgo:=hG.go
    rw [ya0 (List.getElem?_eq_none (by omega)),← hR'] at hgo
    subst hgo
    have hol:=hG.ol
    rcases hN with ⟨rfl,rfl⟩ | ⟨w,ew,rfl,hw5,hwx,hwo,hSw⟩
    ·simp [-getElem?_pos,ziz,v1,v3,v5,v6,v8,v9,v10,hS0,hS1,hS2,hS5,hSo,hlt,Fa01,Fa02,Fa03,Fa04,Fb01,Fb02,Fb03,Fb04,Fc01,Fc02,Fc03,Fc04,Fd01,Fd02,Fd03,Fd04,Fo01,Fo02,Fo03,Fo04,N0a,N0b,N1a,N1b,N2a,N2b,N3a,N3b,y0,y1,y2,y3,y4,y5,na]
    ·obtain ⟨Fw01,Fw02,Fw03,Fw04⟩:=fr (show w<st.nx by omega)
     have M0a:(w=0)=False:=eq_false (by omega)
     have M0b:(0=w)=False:=eq_false (by omega)
     have M1a:(w=1)=False:=eq_false (by omega)
     have M1b:(1=w)=False:=eq_false (by omega)
     have M2a:(w=2)=False:=eq_false (by omega)
     have M2b:(2=w)=False:=eq_false (by omega)
     have M3a:(w=5)=False:=eq_false (by omega)
     have M3b:(5=w)=False:=eq_false (by omega)
     have M4a:(w=o)=False:=eq_false (by omega)
     have M4b:(o=w)=False:=eq_false (by omega)
     simp [-getElem?_pos,ziz,v1,v3,v5,v6,v8,v9,v10,hS0,hS1,hS2,hS5,hSo,hSw,hlt,Fa01,Fa02,Fa03,Fa04,Fb01,Fb02,Fb03,Fb04,Fc01,Fc02,Fc03,Fc04,Fd01,Fd02,Fd03,Fd04,Fo01,Fo02,Fo03,Fo04,N0a,N0b,N1a,N1b,N2a,N2b,N3a,N3b,y0,y1,y2,y3,y4,y5,na,Fw01,Fw02,Fw03,Fw04,M0a,M0b,M1a,M1b,M2a,M2b,M3a,M3b,M4a,M4b]
  ·refine ⟨by simp,by simp,by simp,by simp,by simp,by simp,by simp,by simp,by simp,by simp,by simp,by simp,by simp,by simp,by simp,by simp [hroot],.inl ⟨rfl,rfl⟩⟩
set_option maxHeartbeats 8000000 in
set_option maxRecDepth 8000 in
theorem yrm (q:Bool) (c v:List (List Int)) (g:List Int) (cfg:Cfg) (hc : ∀ l∈c,l.length≤1048576) (hv : ∀ l∈v,l.length≤1048576) (hg:g.length≤1048576) (hs:cfg.sg.length≤1048576) (hgi : ∀ x∈g,inI x):RUN T zn9 [.agg [.sl 1 (rws q c),.sl 1 (rws q v)],.sl 1 (zac g),cfS cfg]=some ([.agg [.own 5 ((zdb c v g cfg).1.map nd)],bv (zdb c v g cfg).2],[]):=by
 have e1:=z9m q c v g cfg (fun l hl=>Nat.le_trans (hc l hl) (by omega)) (fun l hl=>Nat.le_trans (hv l hl) (by omega)) (by omega) (by omega)
 simp only [zf2] at e1
 cases ht:zd0 c v g cfg with
 | false =>
  rw [ht] at e1
  have hR:zdb c v g cfg=([],false):=by unfold zdb; rw [ht]; rfl
  rw [hR]
  refine zah z1s rfl ?_
  simp [-getElem?_pos,zru,zrv,e1]
 | true =>
  rw [ht] at e1
  have hR:zdb c v g cfg=(zdm c v g cfg 32 [zdl g] 0 [],true):=by unfold zdb; rw [if_pos ht]
  rw [hR]
  obtain ⟨R,hR'⟩ : ∃ R,R=zdm c v g cfg 32 [zdl g] 0 []:=⟨_,rfl⟩
  rw [← hR']
  obtain ⟨t1,t2,t3,t4⟩:=zro ht
  obtain ⟨t5,t6⟩:=z0r t1
  have e3:=yrh g.length (by omega)
  have e4:=yre
  have hr48:zak 48 1=true:=by decide
  have hG:=GI.start ht
  have hroot:zf0 [zdl g]=[[.own 1 (zac (upl g.length)),iv zfn.lo,iv zfn.hi,iv 0]]:=by simp [zf0,pnd,zdl,upl]
  simp only [bnd] at e4
  refine zah z1s rfl ?_
  simp [-getElem?_pos,zru,zrv,e1,e3,e4,hr48]
  refine za0 (fun n st => ∃ (i o e:Nat) (Q:List Pnd) (out:List Nd) (x:PV),GI c v g cfg n Q i out∧st.V 1 = .sl 1 (zac g)∧st.V 3 = .ptr 0 none 0 0 0∧st.V 5 = .ptr 1 none 0 0 0∧st.V 6 = .ptr 2 none 0 0 0∧st.V 8 = .ptr 3 none 0 0 0∧st.V 9 = .ref o none e 0 Q.length∧st.V 10=iv i∧4<o∧o<st.nx∧3<st.nx∧st.S 0=some (.box [.sl 1 (rws q c),.sl 1 (rws q v)])∧st.S 1=some (.box [iv cfg.ro,iv cfg.de,iv cfg.bi,iv cfg.la,iv cfg.rw,iv cfg.nu,iv cfg.dn,.sl 1 (zac cfg.sg)])∧st.S 2=some (.box [.e0])∧st.S 3=some (.box [x])∧st.S o=some (.row 4 (zf0 Q))∧NC st.S st.nx o out x) ?_ 32 _ ⟨0,5,0,[zdl g],[],.e0,hG,?_⟩
  ·rintro n st ⟨i,o,ep,Q,out,x,hG,v1,v3,v5,v6,v8,v9,v10,ho3,hox,h3x,hS0,hS1,hS2,hS3,hSo,hN⟩
   obtain ⟨Fa01,Fa02,Fa03,Fa04⟩:=fr (show 0<st.nx by omega)
   obtain ⟨Fb01,Fb02,Fb03,Fb04⟩:=fr (show 1<st.nx by omega)
   obtain ⟨Fc01,Fc02,Fc03,Fc04⟩:=fr (show 2<st.nx by omega)
   obtain ⟨Fd01,Fd02,Fd03,Fd04⟩:=fr (show 3<st.nx by omega)
   obtain ⟨Fo01,Fo02,Fo03,Fo04⟩:=fr (show o<st.nx by omega)
   have N0a:(o=0)=False:=eq_false (by omega)
   have N0b:(0=o)=False:=eq_false (by omega)
   have N1a:(o=1)=False:=eq_false (by omega)
   have N1b:(1=o)=False:=eq_false (by omega)
   have N2a:(o=2)=False:=eq_false (by omega)
   have N2b:(2=o)=False:=eq_false (by omega)
   have N3a:(o=3)=False:=eq_false (by omega)
   have N3b:(3=o)=False:=eq_false (by omega)
   have y0:(st.nx=0)=False:=eq_false (by omega)
   have y1:(st.nx=1)=False:=eq_false (by omega)
   have y2:(st.nx=2)=False:=eq_false (by omega)
   have y3:(st.nx=3)=False:=eq_false (by omega)
   have y4:(st.nx=4)=False:=eq_false (by omega)
   have y5:(st.nx=5)=False:=eq_false (by omega)
   have na : ∀ a b:Nat,st.nx+a+b=st.nx+(a+b):=fun a b=>Nat.add_assoc _ _ _
   by_cases hlt:i<Q.length
   ·obtain ⟨p,hp⟩ : ∃ p,Q[i]?=some p:=⟨_,List.getElem?_eq_getElem hlt⟩
    have hp':=z2h hp
    have hps:=ydb hp
    have hpo:=hG.ok p (List.mem_of_getElem? hp)
    obtain ⟨p1,p2,p3,p4⟩:=hpo
    have hn1:=hG.n1
    have hql:=hG.ql
    have hws:=wS hlt (by omega:Q.length≤9223372036854775807)
    have f1:=yrd q c v g cfg p.r p.b hc hv hg (by omega) hs hgi
    have f2:=yrj g p.r t4 p1 (by omega)
    have f3:=z19 (zgn g p.r) cfg.la p.b (yam t4 (by omega))
    have hr40:zak 40 1=true:=by decide
    have hr41:zak 40 (out.length+1)=true:=by have:=hG.ol; simp [zak]; omega
    have hsn:=z1e out (zde g cfg p)
    simp only [zde] at hsn
    simp only [bnd] at f1 f3
    obtain ⟨K,hK⟩ : ∃ K,K=zb2 c v g cfg p.r p.b:=⟨_,rfl⟩
    obtain ⟨G,hGg⟩ : ∃ G,G=goes c v g cfg p:=⟨_,rfl⟩
    have hG2:G=(decide (p.l<cfg.de) && K.2):=by rw [hGg,hK]; rfl
    cases G with
    | false =>
     obtain ⟨m1,hG'⟩:=hG.leaf hp hGg.symm
     rw [← hK] at f1
     simp only [slc] at f2 f3
     by_cases hlv:p.l<cfg.de
     ·have hK2:K.2=false:=by simpa [hlv] using hG2.symm
      obtain ⟨K,Kb⟩:=K
      simp only at hK2 f1
      subst hK2
      simp only [cnd] at f1
      have hge : ¬ cfg.de≤p.l:=by omega
      rcases hN with ⟨rfl,rfl⟩ | ⟨w,ew,rfl,hw5,hwx,hwo,hSw⟩
      ·simp [-getElem?_pos,zi0,v1,v3,v5,v6,v8,v9,v10,hS0,hS1,hS2,hS3,hSo,hlt,hp',hps,hge,f1,f2,f3,hws,hr40,Fa01,Fa02,Fa03,Fa04,Fb01,Fb02,Fb03,Fb04,Fc01,Fc02,Fc03,Fc04,Fd01,Fd02,Fd03,Fd04,Fo01,Fo02,Fo03,Fo04,N0a,N0b,N1a,N1b,N2a,N2b,N3a,N3b,y0,y1,y2,y3,y4,y5,na]
       refine zan (n-1) (by omega) ⟨i+1,o,ep,Q,[zde g cfg p],.ref (st.nx+3) none st.ep 0 1,hG',by simp [v1],by simp [v3],by simp [v5],by simp [v6],by simp [v8],by simp [v9],by simp,ho3,(by simp <;> omega),by simp <;> omega,by simp [Fa01,Fa02,Fa03,Fa04,Fb01,Fb02,Fb03,Fb04,Fc01,Fc02,Fc03,Fc04,Fd01,Fd02,Fd03,Fd04,Fo01,Fo02,Fo03,Fo04,N0a,N0b,N1a,N1b,N2a,N2b,N3a,N3b,y0,y1,y2,y3,y4,y5,na,hS0],by simp [Fa01,Fa02,Fa03,Fa04,Fb01,Fb02,Fb03,Fb04,Fc01,Fc02,Fc03,Fc04,Fd01,Fd02,Fd03,Fd04,Fo01,Fo02,Fo03,Fo04,N0a,N0b,N1a,N1b,N2a,N2b,N3a,N3b,y0,y1,y2,y3,y4,y5,na,hS1],by simp [Fa01,Fa02,Fa03,Fa04,Fb01,Fb02,Fb03,Fb04,Fc01,Fc02,Fc03,Fc04,Fd01,Fd02,Fd03,Fd04,Fo01,Fo02,Fo03,Fo04,N0a,N0b,N1a,N1b,N2a,N2b,N3a,N3b,y0,y1,y2,y3,y4,y5,na,hS2],by simp [Fa01,Fa02,Fa03,Fa04,Fb01,Fb02,Fb03,Fb04,Fc01,Fc02,Fc03,Fc04,Fd01,Fd02,Fd03,Fd04,Fo01,Fo02,Fo03,Fo04,N0a,N0b,N1a,N1b,N2a,N2b,N3a,N3b,y0,y1,y2,y3,y4,y5,na],by simp [Fa01,Fa02,Fa03,Fa04,Fb01,Fb02,Fb03,Fb04,Fc01,Fc02,Fc03,Fc04,Fd01,Fd02,Fd03,Fd04,Fo01,Fo02,Fo03,Fo04,N0a,N0b,N1a,N1b,N2a,N2b,N3a,N3b,y0,y1,y2,y3,y4,y5,na,hSo],.inr ⟨st.nx+3,st.ep,by simp,by omega,by simp <;> omega,by omega,by simp [nd,zde,y0,y1,y2,y3,y4,y5]⟩⟩
      ·obtain ⟨Fw01,Fw02,Fw03,Fw04⟩:=fr (show w<st.nx by omega)
       have M0a:(w=0)=False:=eq_false (by omega)
       have M0b:(0=w)=False:=eq_false (by omega)
       have M1a:(w=1)=False:=eq_false (by omega)
       have M1b:(1=w)=False:=eq_false (by omega)
       have M2a:(w=2)=False:=eq_false (by omega)
       have M2b:(2=w)=False:=eq_false (by omega)
       have M3a:(w=3)=False:=eq_false (by omega)
       have M3b:(3=w)=False:=eq_false (by omega)
       have M4a:(w=o)=False:=eq_false (by omega)
       have M4b:(o=w)=False:=eq_false (by omega)
       simp [-getElem?_pos,zi0,v1,v3,v5,v6,v8,v9,v10,hS0,hS1,hS2,hS3,hSo,hSw,hlt,hp',hps,hge,f1,f2,f3,hws,hr40,hr41,hsn,Fa01,Fa02,Fa03,Fa04,Fb01,Fb02,Fb03,Fb04,Fc01,Fc02,Fc03,Fc04,Fd01,Fd02,Fd03,Fd04,Fo01,Fo02,Fo03,Fo04,N0a,N0b,N1a,N1b,N2a,N2b,N3a,N3b,y0,y1,y2,y3,y4,y5,na,Fw01,Fw02,Fw03,Fw04,M0a,M0b,M1a,M1b,M2a,M2b,M3a,M3b,M4a,M4b]
       refine zan (n-1) (by omega) ⟨i+1,o,ep,Q,out++[zde g cfg p],.ref (st.nx+3) none st.ep 0 (out.length+1),hG',by simp [v1],by simp [v3],by simp [v5],by simp [v6],by simp [v8],by simp [v9],by simp,ho3,(by simp <;> omega),by simp <;> omega,by simp [Fa01,Fa02,Fa03,Fa04,Fb01,Fb02,Fb03,Fb04,Fc01,Fc02,Fc03,Fc04,Fd01,Fd02,Fd03,Fd04,Fo01,Fo02,Fo03,Fo04,N0a,N0b,N1a,N1b,N2a,N2b,N3a,N3b,y0,y1,y2,y3,y4,y5,na,Fw01,Fw02,Fw03,Fw04,M0a,M0b,M1a,M1b,M2a,M2b,M3a,M3b,M4a,M4b,hS0],by simp [Fa01,Fa02,Fa03,Fa04,Fb01,Fb02,Fb03,Fb04,Fc01,Fc02,Fc03,Fc04,Fd01,Fd02,Fd03,Fd04,Fo01,Fo02,Fo03,Fo04,N0a,N0b,N1a,N1b,N2a,N2b,N3a,N3b,y0,y1,y2,y3,y4,y5,na,Fw01,Fw02,Fw03,Fw04,M0a,M0b,M1a,M1b,M2a,M2b,M3a,M3b,M4a,M4b,hS1],by simp [Fa01,Fa02,Fa03,Fa04,Fb01,Fb02,Fb03,Fb04,Fc01,Fc02,Fc03,Fc04,Fd01,Fd02,Fd03,Fd04,Fo01,Fo02,Fo03,Fo04,N0a,N0b,N1a,N1b,N2a,N2b,N3a,N3b,y0,y1,y2,y3,y4,y5,na,Fw01,Fw02,Fw03,Fw04,M0a,M0b,M1a,M1b,M2a,M2b,M3a,M3b,M4a,M4b,hS2],by simp [Fa01,Fa02,Fa03,Fa04,Fb01,Fb02,Fb03,Fb04,Fc01,Fc02,Fc03,Fc04,Fd01,Fd02,Fd03,Fd04,Fo01,Fo02,Fo03,Fo04,N0a,N0b,N1a,N1b,N2a,N2b,N3a,N3b,y0,y1,y2,y3,y4,y5,na,Fw01,Fw02,Fw03,Fw04,M0a,M0b,M1a,M1b,M2a,M2b,M3a,M3b,M4a,M4b],by simp [Fa01,Fa02,Fa03,Fa04,Fb01,Fb02,Fb03,Fb04,Fc01,Fc02,Fc03,Fc04,Fd01,Fd02,Fd03,Fd04,Fo01,Fo02,Fo03,Fo04,N0a,N0b,N1a,N1b,N2a,N2b,N3a,N3b,y0,y1,y2,y3,y4,y5,na,Fw01,Fw02,Fw03,Fw04,M0a,M0b,M1a,M1b,M2a,M2b,M3a,M3b,M4a,M4b,hSo],.inr ⟨st.nx+3,st.ep,by simp,by omega,by simp <;> omega,by omega,by simp [nd,zde,y0,y1,y2,y3,y4,y5]⟩⟩
     ·obtain ⟨K,Kb⟩:=K
      simp only [cnd] at f1
      have hge:cfg.de≤p.l:=by omega
      rcases hN with ⟨rfl,rfl⟩ | ⟨w,ew,rfl,hw5,hwx,hwo,hSw⟩
      ·simp [-getElem?_pos,zi0,v1,v3,v5,v6,v8,v9,v10,hS0,hS1,hS2,hS3,hSo,hlt,hp',hps,hge,f1,f2,f3,hws,hr40,Fa01,Fa02,Fa03,Fa04,Fb01,Fb02,Fb03,Fb04,Fc01,Fc02,Fc03,Fc04,Fd01,Fd02,Fd03,Fd04,Fo01,Fo02,Fo03,Fo04,N0a,N0b,N1a,N1b,N2a,N2b,N3a,N3b,y0,y1,y2,y3,y4,y5,na]
       refine zan (n-1) (by omega) ⟨i+1,o,ep,Q,[zde g cfg p],.ref (st.nx+3) none st.ep 0 1,hG',by simp [v1],by simp [v3],by simp [v5],by simp [v6],by simp [v8],by simp [v9],by simp,ho3,(by simp <;> omega),by simp <;> omega,by simp [Fa01,Fa02,Fa03,Fa04,Fb01,Fb02,Fb03,Fb04,Fc01,Fc02,Fc03,Fc04,Fd01,Fd02,Fd03,Fd04,Fo01,Fo02,Fo03,Fo04,N0a,N0b,N1a,N1b,N2a,N2b,N3a,N3b,y0,y1,y2,y3,y4,y5,na,hS0],by simp [Fa01,Fa02,Fa03,Fa04,Fb01,Fb02,Fb03,Fb04,Fc01,Fc02,Fc03,Fc04,Fd01,Fd02,Fd03,Fd04,Fo01,Fo02,Fo03,Fo04,N0a,N0b,N1a,N1b,N2a,N2b,N3a,N3b,y0,y1,y2,y3,y4,y5,na,hS1],by simp [Fa01,Fa02,Fa03,Fa04,Fb01,Fb02,Fb03,Fb04,Fc01,Fc02,Fc03,Fc04,Fd01,Fd02,Fd03,Fd04,Fo01,Fo02,Fo03,Fo04,N0a,N0b,N1a,N1b,N2a,N2b,N3a,N3b,y0,y1,y2,y3,y4,y5,na,hS2],by simp [Fa01,Fa02,Fa03,Fa04,Fb01,Fb02,Fb03,Fb04,Fc01,Fc02,Fc03,Fc04,Fd01,Fd02,Fd03,Fd04,Fo01,Fo02,Fo03,Fo04,N0a,N0b,N1a,N1b,N2a,N2b,N3a,N3b,y0,y1,y2,y3,y4,y5,na],by simp [Fa01,Fa02,Fa03,Fa04,Fb01,Fb02,Fb03,Fb04,Fc01,Fc02,Fc03,Fc04,Fd01,Fd02,Fd03,Fd04,Fo01,Fo02,Fo03,Fo04,N0a,N0b,N1a,N1b,N2a,N2b,N3a,N3b,y0,y1,y2,y3,y4,y5,na,hSo],.inr ⟨st.nx+3,st.ep,by simp,by omega,by simp <;> omega,by omega,by simp [nd,zde,y0,y1,y2,y3,y4,y5]⟩⟩
      ·obtain ⟨Fw01,Fw02,Fw03,Fw04⟩:=fr (show w<st.nx by omega)
       have M0a:(w=0)=False:=eq_false (by omega)
       have M0b:(0=w)=False:=eq_false (by omega)
       have M1a:(w=1)=False:=eq_false (by omega)
       have M1b:(1=w)=False:=eq_false (by omega)
       have M2a:(w=2)=False:=eq_false (by omega)
       have M2b:(2=w)=False:=eq_false (by omega)
       have M3a:(w=3)=False:=eq_false (by omega)
       have M3b:(3=w)=False:=eq_false (by omega)
       have M4a:(w=o)=False:=eq_false (by omega)
       have M4b:(o=w)=False:=eq_false (by omega)
       simp [-getElem?_pos,zi0,v1,v3,v5,v6,v8,v9,v10,hS0,hS1,hS2,hS3,hSo,hSw,hlt,hp',hps,hge,f1,f2,f3,hws,hr40,hr41,hsn,Fa01,Fa02,Fa03,Fa04,Fb01,Fb02,Fb03,Fb04,Fc01,Fc02,Fc03,Fc04,Fd01,Fd02,Fd03,Fd04,Fo01,Fo02,Fo03,Fo04,N0a,N0b,N1a,N1b,N2a,N2b,N3a,N3b,y0,y1,y2,y3,y4,y5,na,Fw01,Fw02,Fw03,Fw04,M0a,M0b,M1a,M1b,M2a,M2b,M3a,M3b,M4a,M4b]
       refine zan (n-1) (by omega) ⟨i+1,o,ep,Q,out++[zde g cfg p],.ref (st.nx+3) none st.ep 0 (out.length+1),hG',by simp [v1],by simp [v3],by simp [v5],by simp [v6],by simp [v8],by simp [v9],by simp,ho3,(by simp <;> omega),by simp <;> omega,by simp [Fa01,Fa02,Fa03,Fa04,Fb01,Fb02,Fb03,Fb04,Fc01,Fc02,Fc03,Fc04,Fd01,Fd02,Fd03,Fd04,Fo01,Fo02,Fo03,Fo04,N0a,N0b,N1a,N1b,N2a,N2b,N3a,N3b,y0,y1,y2,y3,y4,y5,na,Fw01,Fw02,Fw03,Fw04,M0a,M0b,M1a,M1b,M2a,M2b,M3a,M3b,M4a,M4b,hS0],by simp [Fa01,Fa02,Fa03,Fa04,Fb01,Fb02,Fb03,Fb04,Fc01,Fc02,Fc03,Fc04,Fd01,Fd02,Fd03,Fd04,Fo01,Fo02,Fo03,Fo04,N0a,N0b,N1a,N1b,N2a,N2b,N3a,N3b,y0,y1,y2,y3,y4,y5,na,Fw01,Fw02,Fw03,Fw04,M0a,M0b,M1a,M1b,M2a,M2b,M3a,M3b,M4a,M4b,hS1],by simp [Fa01,Fa02,Fa03,Fa04,Fb01,Fb02,Fb03,Fb04,Fc01,Fc02,Fc03,Fc04,Fd01,Fd02,Fd03,Fd04,Fo01,Fo02,Fo03,Fo04,N0a,N0b,N1a,N1b,N2a,N2b,N3a,N3b,y0,y1,y2,y3,y4,y5,na,Fw01,Fw02,Fw03,Fw04,M0a,M0b,M1a,M1b,M2a,M2b,M3a,M3b,M4a,M4b,hS2],by simp [Fa01,Fa02,Fa03,Fa04,Fb01,Fb02,Fb03,Fb04,Fc01,Fc02,Fc03,Fc04,Fd01,Fd02,Fd03,Fd04,Fo01,Fo02,Fo03,Fo04,N0a,N0b,N1a,N1b,N2a,N2b,N3a,N3b,y0,y1,y2,y3,y4,y5,na,Fw01,Fw02,Fw03,Fw04,M0a,M0b,M1a,M1b,M2a,M2b,M3a,M3b,M4a,M4b],by simp [Fa01,Fa02,Fa03,Fa04,Fb01,Fb02,Fb03,Fb04,Fc01,Fc02,Fc03,Fc04,Fd01,Fd02,Fd03,Fd04,Fo01,Fo02,Fo03,Fo04,N0a,N0b,N1a,N1b,N2a,N2b,N3a,N3b,y0,y1,y2,y3,y4,y5,na,Fw01,Fw02,Fw03,Fw04,M0a,M0b,M1a,M1b,M2a,M2b,M3a,M3b,M4a,M4b,hSo],.inr ⟨st.nx+3,st.ep,by simp,by omega,by simp <;> omega,by omega,by simp [nd,zde,y0,y1,y2,y3,y4,y5]⟩⟩
    | true =>
     obtain ⟨m1,hG'⟩:=hG.cut hp hGg.symm
     have t7:=z2p t2
     have hlv:p.l<cfg.de:=by
      have h9:=hG2.symm
      simp only [Bool.and_eq_true,decide_eq_true_eq] at h9
      exact h9.1
     have hK2:K.2=true:=by
      have h9:=hG2.symm
      simp only [Bool.and_eq_true,decide_eq_true_eq] at h9
      exact h9.2
     obtain ⟨kf,kb,X,Y,z,k1,k2,hX,hY,hz,kI⟩:=ycj (c:=c) (v:=v) (g:=g) (cfg:=cfg) (rows:=p.r) (b:=p.b) (by rw [← hK]; exact hK2)
     rw [← hK] at f1 hG' k1 k2 kI
     obtain ⟨⟨kf',kb',ka,kz⟩,Kb⟩:=K
     simp only at hK2 k1 k2 kI f1 hG'
     subst hK2 k1 k2
     have hfc:=(List.getElem?_eq_some_iff.mp hX).1
     have hfv:=(List.getElem?_eq_some_iff.mp hY).1
     have hbx:=(List.getElem?_eq_some_iff.mp hz).1
     have hX':=zem (q:=q) hX
     have hY':=zem (q:=q) hY
     have hz':=zba hz
     have f4:=yad cfg p.b ⟨kf,kb,ka,kz⟩ kI
     have f5:=yaf cfg kf (by omega)
     have f6:=yq5 (zc0 cfg kf) p.b (zbs cfg p.b ⟨kf,kb,ka,kz⟩).1 (zbs cfg p.b ⟨kf,kb,ka,kz⟩).2.1 (z0n _ _ _).1 (z0n _ _ _).2
     have f7:=yrl Y p.r kb (hv Y (List.mem_of_getElem? hY)) (by omega)
     have hkl:zgf c v cfg p ⟨kf,kb,ka,kz⟩=⟨zgp Y p.r kb,(zfa (zc0 cfg kf) p.b (zbs cfg p.b ⟨kf,kb,ka,kz⟩).1 (zbs cfg p.b ⟨kf,kb,ka,kz⟩).2.1).1,p.l+1⟩:=by
      unfold zgf
      simp only [zk8 hY,Option.getD_some]
     have hkr:zgc c v cfg p ⟨kf,kb,ka,kz⟩=⟨zg3 Y p.r kb,(zfa (zc0 cfg kf) p.b (zbs cfg p.b ⟨kf,kb,ka,kz⟩).1 (zbs cfg p.b ⟨kf,kb,ka,kz⟩).2.1).2,p.l+1⟩:=by
      unfold zgc
      simp only [zk8 hY,Option.getD_some]
     have hcn:zhk c ⟨kf,kb,ka,kz⟩ Q.length=⟨kf,z,Q.length,Q.length+1,0⟩:=by
      unfold zhk
      simp only [zk8 hX,Option.getD_some,zk8 hz]
     rw [hkl,hkr,hcn] at hG'
     clear hkl hkr hcn
     generalize zbs cfg p.b ⟨kf,kb,ka,kz⟩=sv at *
     obtain ⟨sl,sr,sb⟩:=sv
     simp only at f4 f6 hG'
     generalize zc0 cfg kf=sg at *
     generalize zfa sg p.b sl sr=bb at *
     obtain ⟨⟨ll,lh⟩,⟨rl,rh⟩⟩:=bb
     generalize zgp Y p.r kb=L1 at *
     generalize zg3 Y p.r kb=R1 at *
     simp only [bnd,cnd] at f1 f4 f6 hG'
     have hQ:=yff Q ⟨L1,⟨ll,lh⟩,p.l+1⟩ ⟨R1,⟨rl,rh⟩,p.l+1⟩
     have hsn2:=z1e out ⟨kf,z,Q.length,Q.length+1,0⟩
     simp only at hQ hsn2
     have wl:=w64 (x:=p.l+1) (by omega) (by omega)
     have wq:=w64 (x:=(Q.length:Int)+1) (by omega) (by omega)
     have hge : ¬ cfg.de≤p.l:=by omega
     have hr482:zak 48 2=true:=by decide
     have hr483:zak 48 (Q.length+2)=true:=by simp [zak]; omega
     rcases hN with ⟨rfl,rfl⟩ | ⟨w,ew,rfl,hw5,hwx,hwo,hSw⟩
     ·simp [-getElem?_pos,zi0,v1,v3,v5,v6,v8,v9,v10,hS0,hS1,hS2,hS3,hSo,hlt,hp',hps,hge,f1,f4,f5,f6,f7,hX',hY',hz',hfc,hfv,hbx,wl,wq,hr482,hr483,hQ,hws,hr40,Fa01,Fa02,Fa03,Fa04,Fb01,Fb02,Fb03,Fb04,Fc01,Fc02,Fc03,Fc04,Fd01,Fd02,Fd03,Fd04,Fo01,Fo02,Fo03,Fo04,N0a,N0b,N1a,N1b,N2a,N2b,N3a,N3b,y0,y1,y2,y3,y4,y5,na]
      refine zan (n-1) (by omega) ⟨i+1,st.nx+9,st.ep,(Q++[⟨L1,⟨ll,lh⟩,p.l+1⟩,⟨R1,⟨rl,rh⟩,p.l+1⟩]),[⟨kf,z,Q.length,Q.length+1,0⟩],.ref (st.nx+7) none st.ep 0 1,hG',by simp [v1],by simp [v3],by simp [v5],by simp [v6],by simp [v8],by simp,by simp,by omega,by simp,by simp <;> omega,by simp [Fa01,Fa02,Fa03,Fa04,Fb01,Fb02,Fb03,Fb04,Fc01,Fc02,Fc03,Fc04,Fd01,Fd02,Fd03,Fd04,Fo01,Fo02,Fo03,Fo04,N0a,N0b,N1a,N1b,N2a,N2b,N3a,N3b,y0,y1,y2,y3,y4,y5,na,hS0],by simp [Fa01,Fa02,Fa03,Fa04,Fb01,Fb02,Fb03,Fb04,Fc01,Fc02,Fc03,Fc04,Fd01,Fd02,Fd03,Fd04,Fo01,Fo02,Fo03,Fo04,N0a,N0b,N1a,N1b,N2a,N2b,N3a,N3b,y0,y1,y2,y3,y4,y5,na,hS1],by simp [Fa01,Fa02,Fa03,Fa04,Fb01,Fb02,Fb03,Fb04,Fc01,Fc02,Fc03,Fc04,Fd01,Fd02,Fd03,Fd04,Fo01,Fo02,Fo03,Fo04,N0a,N0b,N1a,N1b,N2a,N2b,N3a,N3b,y0,y1,y2,y3,y4,y5,na,hS2],by simp [Fa01,Fa02,Fa03,Fa04,Fb01,Fb02,Fb03,Fb04,Fc01,Fc02,Fc03,Fc04,Fd01,Fd02,Fd03,Fd04,Fo01,Fo02,Fo03,Fo04,N0a,N0b,N1a,N1b,N2a,N2b,N3a,N3b,y0,y1,y2,y3,y4,y5,na],by simp [Fa01,Fa02,Fa03,Fa04,Fb01,Fb02,Fb03,Fb04,Fc01,Fc02,Fc03,Fc04,Fd01,Fd02,Fd03,Fd04,Fo01,Fo02,Fo03,Fo04,N0a,N0b,N1a,N1b,N2a,N2b,N3a,N3b,y0,y1,y2,y3,y4,y5,na],.inr ⟨st.nx+7,st.ep,by simp,by omega,by simp,by simp,by simp [nd,Fo03,Fo04,Fo01,Fo02,y0,y1,y2,y3,y4,y5]⟩⟩
     ·obtain ⟨Fw01,Fw02,Fw03,Fw04⟩:=fr (show w<st.nx by omega)
      have M0a:(w=0)=False:=eq_false (by omega)
      have M0b:(0=w)=False:=eq_false (by omega)
      have M1a:(w=1)=False:=eq_false (by omega)
      have M1b:(1=w)=False:=eq_false (by omega)
      have M2a:(w=2)=False:=eq_false (by omega)
      have M2b:(2=w)=False:=eq_false (by omega)
      have M3a:(w=3)=False:=eq_false (by omega)
      have M3b:(3=w)=False:=eq_false (by omega)
      have M4a:(w=o)=False:=eq_false (by omega)
      have M4b:(o=w)=False:=eq_false (by omega)
      simp [-getElem?_pos,zi0,v1,v3,v5,v6,v8,v9,v10,hS0,hS1,hS2,hS3,hSo,hSw,hlt,hp',hps,hge,f1,f4,f5,f6,f7,hX',hY',hz',hfc,hfv,hbx,wl,wq,hr482,hr483,hQ,hws,hr40,hr41,hsn2,Fa01,Fa02,Fa03,Fa04,Fb01,Fb02,Fb03,Fb04,Fc01,Fc02,Fc03,Fc04,Fd01,Fd02,Fd03,Fd04,Fo01,Fo02,Fo03,Fo04,N0a,N0b,N1a,N1b,N2a,N2b,N3a,N3b,y0,y1,y2,y3,y4,y5,na,Fw01,Fw02,Fw03,Fw04,M0a,M0b,M1a,M1b,M2a,M2b,M3a,M3b,M4a,M4b]
      refine zan (n-1) (by omega) ⟨i+1,st.nx+9,st.ep,(Q++[⟨L1,⟨ll,lh⟩,p.l+1⟩,⟨R1,⟨rl,rh⟩,p.l+1⟩]),(out++[⟨kf,z,Q.length,Q.length+1,0⟩]),.ref (st.nx+7) none st.ep 0 (out.length+1),hG',by simp [v1],by simp [v3],by simp [v5],by simp [v6],by simp [v8],by simp,by simp,by omega,by simp,by simp <;> omega,by simp [Fa01,Fa02,Fa03,Fa04,Fb01,Fb02,Fb03,Fb04,Fc01,Fc02,Fc03,Fc04,Fd01,Fd02,Fd03,Fd04,Fo01,Fo02,Fo03,Fo04,N0a,N0b,N1a,N1b,N2a,N2b,N3a,N3b,y0,y1,y2,y3,y4,y5,na,Fw01,Fw02,Fw03,Fw04,M0a,M0b,M1a,M1b,M2a,M2b,M3a,M3b,M4a,M4b,hS0],by simp [Fa01,Fa02,Fa03,Fa04,Fb01,Fb02,Fb03,Fb04,Fc01,Fc02,Fc03,Fc04,Fd01,Fd02,Fd03,Fd04,Fo01,Fo02,Fo03,Fo04,N0a,N0b,N1a,N1b,N2a,N2b,N3a,N3b,y0,y1,y2,y3,y4,y5,na,Fw01,Fw02,Fw03,Fw04,M0a,M0b,M1a,M1b,M2a,M2b,M3a,M3b,M4a,M4b,hS1],by simp [Fa01,Fa02,Fa03,Fa04,Fb01,Fb02,Fb03,Fb04,Fc01,Fc02,Fc03,Fc04,Fd01,Fd02,Fd03,Fd04,Fo01,Fo02,Fo03,Fo04,N0a,N0b,N1a,N1b,N2a,N2b,N3a,N3b,y0,y1,y2,y3,y4,y5,na,Fw01,Fw02,Fw03,Fw04,M0a,M0b,M1a,M1b,M2a,M2b,M3a,M3b,M4a,M4b,hS2],by simp [Fa01,Fa02,Fa03,Fa04,Fb01,Fb02,Fb03,Fb04,Fc01,Fc02,Fc03,Fc04,Fd01,Fd02,Fd03,Fd04,Fo01,Fo02,Fo03,Fo04,N0a,N0b,N1a,N1b,N2a,N2b,N3a,N3b,y0,y1,y2,y3,y4,y5,na,Fw01,Fw02,Fw03,Fw04,M0a,M0b,M1a,M1b,M2a,M2b,M3a,M3b,M4a,M4b],by simp [Fa01,Fa02,Fa03,Fa04,Fb01,Fb02,Fb03,Fb04,Fc01,Fc02,Fc03,Fc04,Fd01,Fd02,Fd03,Fd04,Fo01,Fo02,Fo03,Fo04,N0a,N0b,N1a,N1b,N2a,N2b,N3a,N3b,y0,y1,y2,y3,y4,y5,na,Fw01,Fw02,Fw03,Fw04,M0a,M0b,M1a,M1b,M2a,M2b,M3a,M3b,M4a,M4b],.inr ⟨st.nx+7,st.ep,by simp,by omega,by simp,by simp,by simp [nd,Fo03,Fo04,Fo01,Fo02,y0,y1,y2,y3,y4,y5]⟩⟩
   ·have hiq:i=Q.length:=by have:=hG.le; omega
    have hgo:=hG.go
    rw [ya0 (List.getElem?_eq_none (by omega)),← hR'] at hgo
    subst hgo
    have hol:=hG.ol
    rcases hN with ⟨rfl,rfl⟩ | ⟨w,ew,rfl,hw5,hwx,hwo,hSw⟩
    ·simp [-getElem?_pos,zi0,v1,v3,v5,v6,v8,v9,v10,hS0,hS1,hS2,hS3,hSo,hlt,Fa01,Fa02,Fa03,Fa04,Fb01,Fb02,Fb03,Fb04,Fc01,Fc02,Fc03,Fc04,Fd01,Fd02,Fd03,Fd04,Fo01,Fo02,Fo03,Fo04,N0a,N0b,N1a,N1b,N2a,N2b,N3a,N3b,y0,y1,y2,y3,y4,y5,na]
    ·obtain ⟨Fw01,Fw02,Fw03,Fw04⟩:=fr (show w<st.nx by omega)
     have M0a:(w=0)=False:=eq_false (by omega)
     have M0b:(0=w)=False:=eq_false (by omega)
     have M1a:(w=1)=False:=eq_false (by omega)
     have M1b:(1=w)=False:=eq_false (by omega)
     have M2a:(w=2)=False:=eq_false (by omega)
     have M2b:(2=w)=False:=eq_false (by omega)
     have M3a:(w=3)=False:=eq_false (by omega)
     have M3b:(3=w)=False:=eq_false (by omega)
     have M4a:(w=o)=False:=eq_false (by omega)
     have M4b:(o=w)=False:=eq_false (by omega)
     simp [-getElem?_pos,zi0,v1,v3,v5,v6,v8,v9,v10,hS0,hS1,hS2,hS3,hSo,hSw,hlt,Fa01,Fa02,Fa03,Fa04,Fb01,Fb02,Fb03,Fb04,Fc01,Fc02,Fc03,Fc04,Fd01,Fd02,Fd03,Fd04,Fo01,Fo02,Fo03,Fo04,N0a,N0b,N1a,N1b,N2a,N2b,N3a,N3b,y0,y1,y2,y3,y4,y5,na,Fw01,Fw02,Fw03,Fw04,M0a,M0b,M1a,M1b,M2a,M2b,M3a,M3b,M4a,M4b]
  ·refine ⟨by simp,by simp,by simp,by simp,by simp,by simp,by simp,by simp,by simp,by simp,by simp,by simp,by simp,by simp,by simp [hroot],.inl ⟨rfl,rfl⟩⟩
theorem z2x {c v:List (List Int)} {g:List Int} {cfg:Cfg} : ∀ (n:Nat) (q:List Pnd) (i:Nat) (out:List Nd),(zdm c v g cfg n q i out).length≤out.length+n
 | 0,q,i,out=>by simp [zdm]
 | n+1,q,i,out=>by
  rw [zdm]
  split
  ·omega
  ·split
   ·refine Nat.le_trans (z2x n _ _ _) ?_
    simp; omega
   ·refine Nat.le_trans (z2x n _ _ _) ?_
    simp; omega
def zgx (n:Nat) (r:List Int):Bool:=decide ((r.length:Int)=n) && r.all zbk
def zku (t:Ta):Bool:=zaj t.ns.length 1 4 && zjb (t.ns++[t.nm]) && zaj t.rw.length 1 40 && decide ((t.lb.length:Int)=t.rw.length) && t.lb.all zbk && t.rw.all (zgx t.ns.length)
theorem yef {L:List ByteArray} {x:ByteArray} {i:Nat} (h:i<L.length):nmB (L++[x]) i=nmB L i:=by
 obtain ⟨y,hy⟩ : ∃ y,L[i]?=some y:=⟨_,List.getElem?_eq_getElem h⟩
 have hy2:(L++[x])[i]?=some y:=by rw [List.getElem?_append_left h]; exact hy
 rw [zz9 hy,zz9 hy2,List.take_append_of_le_length (by omega)]
theorem yu0 {L:List ByteArray} {x:ByteArray}:nmB (L++[x]) L.length=(zfh x && !zg5 L x):=by
 rw [zz9 (x:=x) (by simp)]
 simp
theorem yv8 (L:List ByteArray) (x:ByteArray):zjb (L++[x])=(zjb L && (zfh x && !zg5 L x)):=by
 unfold zjb
 rw [show (L++[x]).length=L.length+1 by simp,List.range_succ,List.all_append]
 simp only [List.all_cons,List.all_nil,Bool.and_true]
 rw [yu0]
 congr 1
 rw [Bool.eq_iff_iff,List.all_eq_true,List.all_eq_true]
 constructor
 ·intro h j hj; rw [← yef (x:=x) (List.mem_range.mp hj)]; exact h j hj
 ·intro h j hj; rw [yef (List.mem_range.mp hj)]; exact h j hj
abbrev taB (q:Bool) (t:Ta):List PV:=[.sl 1 (zdn t.ns),.v (.string t.nm),.sl 1 (rws q t.rw),.sl 1 (zac t.lb)]
theorem yys (q:Bool) (t:Ta) (ht:TaL 9223372036854775807 t) {Q:Ex→St→Prop} {st:St} (h1:st.V 1 = .ptr 0 none 0 0 0) (h3:st.V 3=iv t.ns.length) (h4:st.V 4=iv (0:Nat)) (hS:st.S 0=some (.box (taB q t)))
  (hr:zjb t.ns=false→∀ s:St,s.V 2=bv false→Q .ret s) (he:zjb t.ns=true→∀ s:St,s.V 1 = .ptr 0 none 0 0 0→s.V 3=iv t.ns.length→s.S 0=some (.box (taB q t))→Q (.exit 0) s):W (zad T) (RUN T) (.loop zqe) st Q:=by
 refine za0 (fun n st => ∃ i:Nat,i+n=t.ns.length∧(∀ j,j<i→nmB t.ns j=true)∧st.V 1 = .ptr 0 none 0 0 0∧st.V 3=iv t.ns.length∧st.V 4=iv i∧st.S 0=some (.box (taB q t))) ?_ t.ns.length _ ⟨0,by omega,fun _ h=>by omega,h1,h3,h4,hS⟩
 clear h1 h3 h4 hS
 rintro n st ⟨i,hi,hj,v1,v3,v4,hS⟩
 by_cases h:i<t.ns.length
 ·obtain ⟨x,hx⟩ : ∃ x,t.ns[i]?=some x:=⟨_,List.getElem?_eq_getElem h⟩
  have hx':=yb8 hx
  have hw:=wS h ht.ns
  have hml:=ht.ns
  have hN:=z9s x (ht.ss x (List.mem_of_getElem? hx))
  have hC:=z9t (t.ns.take i) x (by simp; omega)
  have hc:=zz9 hx
  have hil:i≤t.ns.length:=by omega
  cases a1:zfh x with
  | false =>
   rw [a1] at hN hc
   simp [-getElem?_pos,zqe,v1,v3,v4,hS,hx',h,hw,hN]
   exact hr (zio h (by rw [hc]; rfl)) _ (by simp)
  | true =>
   rw [a1] at hN hc
   cases a2:zg5 (t.ns.take i) x with
   | true =>
    rw [a2] at hC hc
    simp [-getElem?_pos,zqe,v1,v3,v4,hS,hx',h,hw,hN,hC,hil,ybx]
    exact hr (zio h (by rw [hc]; rfl)) _ (by simp)
   | false =>
    rw [a2] at hC hc
    simp [-getElem?_pos,zqe,v1,v3,v4,hS,hx',h,hw,hN,hC,hil,ybx]
    exact zan (n-1) (by omega) ⟨i+1,by omega,zug hj (by rw [hc]; rfl),by simp [v1],by simp [v3],by simp,by simp [hS]⟩
 ·simp [-getElem?_pos,zqe,v3,v4,h]
  exact he (z0e fun j hj'=>hj j (by omega)) _ (by simp [v1]) (by simp [v3]) (by simp [hS])
theorem yr5 (q:Bool) (t:Ta) (ht:TaL 9223372036854775807 t) {r:List Int} {j:Nat} (hj:t.rw[j]?=some r) (hl:r.length=t.ns.length) {Q:Ex→St→Prop} {st:St} (h1:st.V 1 = .ptr 0 none 0 0 0) (h3:st.V 3=iv t.ns.length) (h5:st.V 5=iv j) (h6:st.V 6=iv (0:Nat)) (hS:st.S 0=some (.box (taB q t)))
  (hr:r.all zbk=false→∀ s:St,s.V 2=bv false→Q .ret s) (he:r.all zbk=true→∀ s:St,s.V 1 = .ptr 0 none 0 0 0→s.V 3=iv t.ns.length→s.V 5=iv j→s.S 0=some (.box (taB q t))→Q (.exit 4) s):W (zad T) (RUN T) (.loop zs4) st Q:=by
 have hj':=zem (q:=q) hj
 have hjl:=(List.getElem?_eq_some_iff.mp hj).1
 refine za0 (fun n st => ∃ i:Nat,i+n=r.length∧(∀ (k:Nat) (x:Int),k<i→r[k]?=some x→zbk x=true)∧st.V 1 = .ptr 0 none 0 0 0∧st.V 3=iv t.ns.length∧st.V 5=iv j∧st.V 6=iv i∧st.S 0=some (.box (taB q t))) ?_ r.length _ ⟨0,by omega,fun _ _ h=>by omega,h1,h3,h5,h6,hS⟩
 clear h1 h3 h5 h6 hS
 rintro n st ⟨i,hi,hk,v1,v3,v5,v6,hS⟩
 by_cases h:i<t.ns.length
 ·obtain ⟨x,hx⟩ : ∃ x,r[i]?=some x:=⟨_,List.getElem?_eq_getElem (by omega)⟩
  have hx':=zba hx
  have hw:=wS h ht.ns
  have hir:i<r.length:=by omega
  have hD:=zm7 x
  cases a1:zbk x with
  | false =>
   rw [a1] at hD
   simp [-getElem?_pos,zs4,-zm7,v1,v3,v5,v6,hS,hj',hjl,hir,hx',h,hw,hD]
   exact hr (zub hx a1) _ (by simp)
  | true =>
   rw [a1] at hD
   simp [-getElem?_pos,zs4,-zm7,v1,v3,v5,v6,hS,hj',hjl,hir,hx',h,hw,hD]
   exact zan (n-1) (by omega) ⟨i+1,by omega,zrd (P:=fun _ x=>zbk x=true) hk hx a1,by simp [v1],by simp [v3],by simp [v5],by simp,by simp [hS]⟩
 ·simp [-getElem?_pos,zs4,v3,v6,h]
  exact he (zuj fun k a h1 h2=>hk k a (by omega) h2) _ (by simp [v1]) (by simp [v3]) (by simp [v5]) (by simp [hS])
theorem ye2 {M:List (List Int)} {p:List Int→Bool} {j:Nat} {a:List Int} (h1:M[j]?=some a) (h2:p a=false):M.all p=false:=by
 cases e:M.all p with
 | false=>rfl
 | true=>rw [List.all_eq_true.mp e a (List.mem_of_getElem? h1)] at h2; cases h2
theorem ysz {M:List (List Int)} {p:List Int→Bool} (h : ∀ (j:Nat) (a:List Int),j<M.length→M[j]?=some a→p a=true):M.all p=true:=by
 rw [List.all_eq_true]
 intro x hx
 obtain ⟨j,hj⟩:=List.getElem?_of_mem hx
 exact h j x (List.getElem?_eq_some_iff.mp hj).1 hj
set_option maxHeartbeats 1000000 in
theorem ywb (q:Bool) (t:Ta) (ht:TaL 9223372036854775807 t) (hyl:t.lb.length=t.rw.length) {Q:Ex→St→Prop} {st:St} (h1:st.V 1 = .ptr 0 none 0 0 0) (h3:st.V 3=iv t.ns.length) (h5:st.V 5=iv (0:Nat)) (hS:st.S 0=some (.box (taB q t)))
  (hr:(t.lb.all zbk && t.rw.all (zgx t.ns.length))=false→∀ s:St,s.V 2=bv false→Q .ret s) (he:(t.lb.all zbk && t.rw.all (zgx t.ns.length))=true→∀ s:St,Q (.exit 2) s):W (zad T) (RUN T) (.loop zqf) st Q:=by
 refine za0 (fun n st => ∃ i:Nat,i+n=t.rw.length∧(∀ (k:Nat) (x:Int),k<i→t.lb[k]?=some x→zbk x=true)∧(∀ (k:Nat) (x:List Int),k<i→t.rw[k]?=some x→zgx t.ns.length x=true)∧st.V 1 = .ptr 0 none 0 0 0∧st.V 3=iv t.ns.length∧st.V 5=iv i∧st.S 0=some (.box (taB q t))) ?_ t.rw.length _ ⟨0,by omega,fun _ _ h=>by omega,fun _ _ h=>by omega,h1,h3,h5,hS⟩
 clear h1 h3 h5 hS
 rintro n st ⟨i,hi,hk,hk2,v1,v3,v5,hS⟩
 by_cases h:i<t.rw.length
 ·obtain ⟨r,hx⟩ : ∃ x,t.rw[i]?=some x:=⟨_,List.getElem?_eq_getElem h⟩
  obtain ⟨y,hy⟩ : ∃ x,t.lb[i]?=some x:=⟨_,List.getElem?_eq_getElem (by omega)⟩
  have hx':=zem (q:=q) hx
  have hy':=zba hy
  have hw:=wS h ht.rw
  have hil:i<t.lb.length:=by omega
  have hD:=zm7 y
  have hrb:zgx t.ns.length r=(decide ((r.length:Int)=t.ns.length) && r.all zbk):=rfl
  rcases Classical.propComplete ((r.length:Int)=t.ns.length) with e1 | e1
  ·cases a1:zbk y with
   | false =>
    rw [a1] at hD
    simp [-getElem?_pos,zqf,-zm7,v1,v3,v5,hS,hx',hy',h,hil,hD,e1]
    exact hr (by rw [zub hy a1]; rfl) _ (by simp)
   | true =>
    rw [a1] at hD
    have e2:(r.length:Int)=t.ns.length:=by rw [e1]; trivial
    simp [-getElem?_pos,zqf,-zm7,v1,v3,v5,hS,hx',hy',h,hil,hD,e1]
    refine yr5 q t ht hx (by omega) (by simp [v1]) (by simp [v3]) (by simp [v5]) (by simp) (by simp [hS]) (fun no s h2 => ?_) (fun ok s w1 w3 w5 wS => ?_)
    ·simp
     refine hr ?_ _ (by simp [h2])
     rw [ye2 hx (by rw [hrb,no]; simp)]; simp
    ·simp [-getElem?_pos,w1,w3,w5,wS,hw]
     exact zan (n-1) (by omega) ⟨i+1,by omega,zrd (P:=fun _ x=>zbk x=true) hk hy a1,(fun k x h1 h2=>by
      rcases Nat.lt_or_ge k i with h3 | h3
      ·exact hk2 k x h3 h2
      ·have:k=i:=by omega
       subst this
       rw [hx] at h2; cases h2
       rw [hrb,ok,decide_eq_true e2]; rfl),by simp [w1],by simp [w3],by simp,by simp [wS]⟩
  ·simp [-getElem?_pos,zqf,-zm7,v1,v3,v5,hS,hx',hy',h,hil,e1]
   refine hr ?_ _ (by simp)
   rw [ye2 hx (by rw [hrb]; simp [e1])]; simp
 ·simp [-getElem?_pos,zqf,v1,v5,hS,h]
  exact he (by rw [zuj fun k a h1 h2=>hk k a (by omega) h2,ysz fun k a h1 h2=>hk2 k a (by omega) h2]; rfl) _
set_option maxHeartbeats 2000000 in
theorem yrn (q:Bool) (t:Ta) (ht:TaL 9223372036854775807 t):RUN T zpn [taS q t]=some ([bv (zku t)],[]):=by
 have g1:=zbd t.ns.length 1 4
 have g2:=zbd t.rw.length 1 40
 have g3:=z9s t.nm ht.nm
 have g4:=z9t t.ns t.nm ht.ns
 have mod:zku t=(zaj t.ns.length 1 4 && (zjb t.ns && (zfh t.nm && !zg5 t.ns t.nm)) && zaj t.rw.length 1 40 && decide ((t.lb.length:Int)=t.rw.length) && t.lb.all zbk && t.rw.all (zgx t.ns.length)):=by
  unfold zku
  rw [yv8]
 rw [mod]
 clear mod
 generalize zaj t.ns.length 1 4=b1 at *
 generalize zaj t.rw.length 1 40=b2 at *
 generalize zfh t.nm=b3 at *
 generalize zg5 t.ns t.nm=b4 at *
 obtain ⟨R,hR⟩ : ∃ R,R=(b1 && (zjb t.ns && (b3 && !b4)) && b2 && decide ((t.lb.length:Int)=t.rw.length) && t.lb.all zbk && t.rw.all (zgx t.ns.length)):=⟨_,rfl⟩
 rw [← hR]
 refine zah z8b rfl ?_
 cases b1 with
 | false =>
  have hR:R=false:=by rw [hR]; simp
  subst hR
  simp [-getElem?_pos,zi3,zi4,-za2,g1]
 | true =>
 cases b3 with
 | false =>
  have hR:R=false:=by rw [hR]; simp
  subst hR
  simp [-getElem?_pos,zi3,zi4,-za2,g1,g3]
 | true =>
 cases b4 with
 | true =>
  have hR:R=false:=by rw [hR]; simp
  subst hR
  simp [-getElem?_pos,zi3,zi4,-za2,g1,g3,g4]
 | false =>
 cases b2 with
 | false =>
  have hR:R=false:=by rw [hR]; simp
  subst hR
  simp [-getElem?_pos,zi3,zi4,-za2,g1,g2,g3,g4]
 | true =>
 by_cases e2:(t.lb.length:Int)=t.rw.length
 ·have e1:((t.lb.length:Int)=t.rw.length)=True:=eq_true e2
  rw [decide_eq_true e2] at hR
  simp [-getElem?_pos,zi3,zi4,-za2,g1,g2,g3,g4,e1]
  refine yys q t ht (by simp) (by simp) (by simp) (by simp) (fun no s h2 => ?_) (fun ok s u1 u3 uS => ?_)
  ·have hR:R=false:=by rw [hR,no]; simp
   simp [h2,hR]
  ·simp [-getElem?_pos,u1,u3,uS]
   refine ywb q t ht (by omega) (by simp [u1]) (by simp [u3]) (by simp) (by simp [uS]) (fun no s h2 => ?_) (fun ok2 s => ?_)
   ·have hR:R=false:=by rw [hR,ok]; generalize t.lb.all zbk=a at *; generalize t.rw.all (zgx t.ns.length)=b at *; cases a <;> cases b <;> first | rfl | cases no
    simp [h2,hR]
   ·have hR:R=true:=by rw [hR,ok]; generalize t.lb.all zbk=a at *; generalize t.rw.all (zgx t.ns.length)=b at *; cases a <;> cases b <;> first | rfl | cases ok2
    simp [hR]
 ·have e1:((t.lb.length:Int)=t.rw.length)=False:=eq_false e2
  have hR:R=false:=by rw [hR,decide_eq_false e2]; simp
  subst hR
  simp [-getElem?_pos,zi3,zi4,-za2,g1,g2,g3,g4,e1]
def PDc (v:PV):Prop := ∃ n,v=iv n∧zbk n=true
theorem zq0 {n:Int} (h1 : -2147483647≤n) (h2:n≤2147483647):zbk n=true:=by
 unfold zbk; exact za3.mpr ⟨h1,h2⟩
theorem z2e (B:List Int) (p:Nat) (s:Int) (hp:p≤B.length) (hB:B.length≤9223372036854775807) : ∃ r,RUN T zj6 [.bx [.sl 1 (zbe B),iv p,iv s]]=some r∧zfl B PDc r:=by
 refine zd3 z7s rfl ?_
 have hr5:zak 8 5=true:=by decide
 obtain ⟨r1,h1,v1,p1,s1,⟨b1,rfl⟩,hp1,rfl⟩:=zev B p s hp hB 20 (by omega)
 cases b1 with
 | true =>
  obtain ⟨r2,h2,v2,p2,s2,⟨a2,rfl,hm⟩,hp2,rfl⟩:=zgl B p1 s1 hp1 hB [2147483647,-2147483647,1,-1,1000000000] (by simp)
  simp only [zac,List.map] at h2
  simp [-getElem?_pos,zqc,zqd,hr5,h1,h2]
  refine ⟨_,p2,s2,⟨a2,rfl,?_⟩,hp2,rfl⟩
  simp at hm
  exact zq0 (by omega) (by omega)
 | false =>
  obtain ⟨r2,h2,v2,p2,s2,⟨b2,rfl⟩,hp2,rfl⟩:=zev B p1 s1 hp1 hB 2 (by omega)
  cases b2 with
  | true =>
   obtain ⟨r3,h3,v3,p3,s3,⟨a3,rfl,a30,a31⟩,hp3,rfl⟩:=zbn B p2 s2 hp2 hB 9 (by omega)
   have a32:=a31 (by omega)
   have w1:=w64 (x:=a3-4) (by omega) (by omega)
   have w2:=w64 (x:=1000*(a3-4)) (by omega) (by omega)
   simp [-getElem?_pos,zqc,zqd,h1,h2,h3,w1,w2]
   exact ⟨_,p3,s3,⟨_,rfl,zq0 (by omega) (by omega)⟩,hp3,rfl⟩
  | false =>
   obtain ⟨r3,h3,v3,p3,s3,⟨a3,rfl,a30,a31⟩,hp3,rfl⟩:=zbn B p2 s2 hp2 hB 41 (by omega)
   have a32:=a31 (by omega)
   have w1:=w64 (x:=a3-20) (by omega) (by omega)
   have w2:=w64 (x:=250*(a3-20)) (by omega) (by omega)
   simp [-getElem?_pos,zqc,zqd,h1,h2,h3,w1,w2]
   exact ⟨_,p3,s3,⟨_,rfl,zq0 (by omega) (by omega)⟩,hp3,rfl⟩
theorem yro (c:List Int) (v:Int) (hc:c.length≤1048576) : ∃ r,RUN T zpq [.sl 1 (zac c),iv v]=some r∧∃ n:Nat,n≤c.length∧r=([iv n],[]):=by
 refine zd3 z8e rfl ?_
 simp [-getElem?_pos,zyw,zyx]
 refine za0 (fun n st => ∃ i m:Nat,i+n=c.length∧m≤i∧st.V 0 = .sl 1 (zac c)∧st.V 1=iv v∧st.V 5=iv m∧st.V 6=iv i) ?_ c.length _ ⟨0,0,by omega,by omega,by simp,by simp,by simp,by simp⟩
 rintro n st ⟨i,m,hi,hm,v0,v1,v5,v6⟩
 by_cases h:i<c.length
 ·obtain ⟨x,hx⟩ : ∃ x,c[i]?=some x:=⟨_,List.getElem?_eq_getElem h⟩
  have hx':=zba hx
  have hw:=wS h (by omega:c.length≤9223372036854775807)
  have hw2:=w64 (x:=(m:Int)+1) (by omega) (by omega)
  by_cases hl:x<v
  ·simp [-getElem?_pos,zyv,v0,v1,v5,v6,h,hx',hw,hw2,hl]
   exact zan (n-1) (by omega) ⟨i+1,m+1,by omega,by omega,by simp [v0],by simp [v1],by simp,by simp⟩
  ·simp [-getElem?_pos,zyv,v0,v1,v5,v6,h,hx',hw,hl]
   exact zan (n-1) (by omega) ⟨i+1,m,by omega,by omega,by simp [v0],by simp [v1],by simp [v5],by simp⟩
 ·simp [-getElem?_pos,zyv,v0,v5,v6,h]
  exact ⟨m,by omega,rfl⟩
theorem yft (l:List Int):(zqw l).length=l.length:=by
 unfold zqw
 rw [yxz]; simp
theorem yrp (l:List Int) (hl:l.length≤1048576) : ∃ r,RUN T zpx [.sl 1 (zac l)]=some r∧∃ m:List Int,m.length≤l.length∧r=([.own 1 (zac m)],[]):=by
 have e1:=z9z l hl
 have hsl:=yft l
 generalize zqw l=a at *
 have hr0:zak 8 0=true:=by decide
 have hr1:zak 8 1=true:=by decide
 refine zd3 z83 rfl ?_
 simp [-getElem?_pos,zzn,zzo,hr0,e1]
 refine za0 (fun n st => ∃ (i o e q e2:Nat) (m:List Int),i+n=l.length∧m.length≤i∧st.V 3 = .ref o none e 0 m.length∧st.V 4 = .ref q none e2 0 a.length∧st.V 5=iv i∧¬ o=q∧o<st.nx∧q<st.nx∧st.S o=some (.row 1 (zac m))∧st.S q=some (.row 1 (zac a))) ?_ l.length _ ⟨0,0,0,1,0,[],by omega,by simp,by simp,by simp,by simp,by omega,by simp,by simp,by simp [zac],by simp⟩
 rintro n st ⟨i,o,e,q,e2,m,hi,hm,v3,v4,v5,hoq,hox,hqx,hSo,hSq⟩
 obtain ⟨x1,x2,x3,x4⟩:=fr hox
 obtain ⟨z1,z2,z3,z4⟩:=fr hqx
 have hqo : ¬ q=o:=fun e=>hoq e.symm
 by_cases h:i<a.length
 ·obtain ⟨x,hx⟩ : ∃ x,a[i]?=some x:=⟨_,List.getElem?_eq_getElem h⟩
  have hx':=zba hx
  have hw:=wS h (by omega:a.length≤9223372036854775807)
  have hr8:=zc3 (n:=m.length+1) (by omega)
  have hsn:=zcv m x
  have key : ∀ K:St→Prop,True:=fun _=>trivial
  by_cases h0:i=0
  ·subst h0
   simp [-getElem?_pos,zs8,v3,v4,v5,hSo,hSq,h,hx',hw,hr1,hr8,hsn,hoq,hqo,x1,x2,x3,x4,z1,z2,z3,z4]
   exact zan (n-1) (by omega) ⟨1,st.nx+1,st.ep,q,e2,m++[x],by omega,by rw [List.length_append]; simp only [List.length_cons,List.length_nil]; omega,by simp,by simp [v4],by simp,by omega,by simp,by simp; omega,by simp,by simp [hoq,hqo,x1,x2,x3,x4,z1,z2,z3,z4,hSq]⟩
  ·obtain ⟨y,hy⟩ : ∃ x,a[i-1]?=some x:=⟨_,List.getElem?_eq_getElem (by omega)⟩
   have hy':=zba hy
   have w1:IntKind.i64.wrap ((i:Int)-1)=((i-1:Nat):Int):=by rw [w64 (by omega) (by omega)]; omega
   have hil:i-1<a.length:=by omega
   by_cases hxy:x=y
   ·have hxy2 : ¬ ¬ x=y:=fun h=>h hxy
    subst hxy
    simp [-getElem?_pos,zs8,v3,v4,v5,hSo,hSq,h,h0,hil,hx',hy',hw,w1,hoq,hqo,x1,x2,x3,x4,z1,z2,z3,z4]
    exact zan (n-1) (by omega) ⟨i+1,o,e,q,e2,m,by omega,by omega,by simp [v3],by simp [v4],by simp,hoq,by simp [hox],by simp [hqx],by simp [hSo],by simp [hSq]⟩
   ·simp [-getElem?_pos,zs8,v3,v4,v5,hSo,hSq,h,h0,hil,hx',hy',hw,w1,hxy,hr1,hr8,hsn,hoq,hqo,x1,x2,x3,x4,z1,z2,z3,z4]
    exact zan (n-1) (by omega) ⟨i+1,st.nx+1,st.ep,q,e2,m++[x],by omega,by simp; omega,by simp,by simp [v4],by simp,by omega,by simp,by simp; omega,by simp,by simp [hoq,hqo,x1,x2,x3,x4,z1,z2,z3,z4,hSq]⟩
 ·simp [-getElem?_pos,zs8,v3,v4,v5,hSo,hSq,h]
  exact ⟨m,by omega,rfl⟩
set_option maxHeartbeats 1000000 in
theorem yrq (l:List Int) (b:Int) (h1:1≤l.length) (h2:l.length≤40) (hb:2≤b∧b≤8) : ∃ r,RUN T zpp [.sl 1 (zac l),iv b]=some r∧∃ m:List Int,m.length≤8∧r=([.own 1 (zac m)],[]):=by
 have e1:=z9z l (by omega)
 have hsl:=yft l
 generalize zqw l=a at *
 have hr0:zak 8 0=true:=by decide
 have hr1:zak 8 1=true:=by decide
 have g1:=zbd b 2 8
 have g2:=zbd l.length 1 40
 rw [za3.mpr (by omega)] at g1
 rw [za3.mpr (by omega)] at g2
 obtain ⟨bn,rfl⟩ : ∃ n:Nat,b=n:=⟨b.toNat,by omega⟩
 refine zd3 z8d rfl ?_
 simp [-getElem?_pos,zyt,zyu,-za2,g1,g2,hr0,e1]
 refine za0 (fun n st => ∃ (i o e:Nat) (m:List Int),1≤i∧i+n=bn∧m.length<i∧st.V 1=iv bn∧st.V 5=iv l.length∧st.V 6 = .ref 0 none 0 0 a.length∧st.V 7 = .ref o none e 0 m.length∧st.V 8=iv i∧0<o∧o<st.nx∧st.S o=some (.row 1 (zac m))∧st.S 0=some (.row 1 (zac a))) ?_ (bn-1) _ ⟨1,1,0,[],by omega,by omega,by simp,by simp,by simp,by simp,by simp,by simp,by simp,by simp,by simp [zac],by simp⟩
 rintro n st ⟨i,o,e,m,hi1,hi,hm,v1,v5,v6,v7,v8,ho,hox,hSo,hS0⟩
 obtain ⟨x1,x2,x3,x4⟩:=fr hox
 obtain ⟨g1,g2,g3,g4⟩:=fr ho
 obtain ⟨z1,z2,z3,z4⟩:=fr (show 0<st.nx by omega)
 by_cases h:i<bn
 ·have hw:=wS h (by omega:bn≤9223372036854775807)
  have hb0 : ¬ bn=0:=by omega
  have hq:(l.length:Int)*i≤40*8:=Int.mul_le_mul (by omega) (by omega) (by omega) (by omega)
  have hq0:0≤(l.length:Int)*i:=Int.mul_nonneg (by omega) (by omega)
  have w1:=w64 (x:=(l.length:Int)*i) (by omega) (by omega)
  obtain ⟨k,hk⟩ : ∃ k:Nat,((l.length:Int)*i).tdiv bn=k:=by
   refine ⟨(((l.length:Int)*i).tdiv bn).toNat,?_⟩
   have:=Int.tdiv_nonneg hq0 (show (0:Int)≤bn by omega)
   omega
  have hkl:k≤l.length:=by
   have h3:((l.length:Int)*i).tdiv bn≤l.length:=by
    rw [Int.tdiv_eq_ediv_of_nonneg hq0]
    refine Int.ediv_le_of_le_mul (by omega) ?_
    exact Int.mul_le_mul_of_nonneg_left (by omega) (by omega)
   omega
  have w2:=w64 (x:=(k:Int)) (by omega) (by omega)
  by_cases hk1:1≤k
  ·obtain ⟨x,hx⟩ : ∃ x,a[k-1]?=some x:=⟨_,List.getElem?_eq_getElem (by omega)⟩
   obtain ⟨y,hy⟩ : ∃ x,a[a.length-1]?=some x:=⟨_,List.getElem?_eq_getElem (by omega)⟩
   have hx':=zba hx
   have hy':=zba hy
   rw [hsl] at hy'
   have w3:IntKind.i64.wrap ((k:Int)-1)=((k-1:Nat):Int):=by rw [w64 (by omega) (by omega)]; omega
   have w4:IntKind.i64.wrap ((l.length:Int)-1)=((l.length-1:Nat):Int):=by rw [w64 (by omega) (by omega)]; omega
   have c1:k-1<l.length:=by omega
   have c2:l.length-1<l.length:=by omega
   have hk1':(1:Int)≤k:=by omega
   have hr8:=zc3 (n:=m.length+1) (by omega)
   have hsn:=zcv m x
   by_cases hxy:x<y
   ·simp [-getElem?_pos,zs5,v1,v5,v6,v7,v8,hSo,hS0,h,hw,hb0,w1,w2,w3,w4,hk,hk1,hk1',hx',hy',hsl,c1,c2,hxy,hr1,hr8,hsn,g1,g2,g3,g4,x1,x2,x3,x4,z1,z2,z3,z4]
    exact zan (n-1) (by omega) ⟨i+1,st.nx+1,st.ep,m++[x],by omega,by omega,by simp; omega,by simp [v1],by simp [v5],by simp [v6,hsl],by simp,by simp,by omega,by simp,by simp,by simp [g1,g2,g3,g4,x1,x2,x3,x4,z1,z2,z3,z4,hS0]⟩
   ·simp [-getElem?_pos,zs5,v1,v5,v6,v7,v8,hSo,hS0,h,hw,hb0,w1,w2,w3,w4,hk,hk1,hk1',hx',hy',hsl,c1,c2,hxy,g1,g2,g3,g4,x1,x2,x3,x4,z1,z2,z3,z4]
    exact zan (n-1) (by omega) ⟨i+1,o,e,m,by omega,by omega,by omega,by simp [v1],by simp [v5],by simp [v6,hsl],by simp [v7],by simp,ho,by simp [hox],by simp [hSo],by simp [hS0]⟩
  ·have hk0:k=0:=by omega
   subst hk0
   simp [-getElem?_pos,zs5,v1,v5,v6,v7,v8,hSo,hS0,h,hw,hb0,w1,w2,hk]
   exact zan (n-1) (by omega) ⟨i+1,o,e,m,by omega,by omega,by omega,by simp [v1],by simp [v5],by simp [v6],by simp [v7],by simp,ho,by simp [hox],by simp [hSo],by simp [hS0]⟩
 ·obtain ⟨r2,h3,m',hm',rfl⟩:=yrp m (by omega)
  simp [-getElem?_pos,zs5,v1,v7,v8,hSo,h,h3]
  exact ⟨m',by omega,rfl⟩
set_option maxHeartbeats 1000000 in
theorem yrr (q:Bool) (t:Ta) (f:Nat) (ht:TaL 1048576 t) (hf:f<t.ns.length) (h40:t.rw.length≤40) (hr : ∀ r∈t.rw,r.length=t.ns.length) : ∃ r,RUN T zpo [taS q t,iv f]=some r∧∃ m:List Int,m.length=t.rw.length∧r=([.own 1 (zac m)],[]):=by
 have hr0:zak 8 0=true:=by decide
 have hr1:zak 8 1=true:=by decide
 have hns:=ht.ns
 have g1:=zbd f 0 ((t.ns.length:Int)-1)
 rw [za3.mpr (by omega)] at g1
 have w1:=w64 (x:=(t.ns.length:Int)-1) (by omega) (by omega)
 refine zd3 z8c rfl ?_
 simp [-getElem?_pos,zyr,zys,hr0]
 refine za0 (fun n st => ∃ (i o e:Nat) (m:List Int),i+n=t.rw.length∧m.length=i∧st.V 1=iv f∧st.V 2 = .ptr 0 none 0 0 0∧st.V 5 = .ref o none e 0 m.length∧st.V 6=iv i∧0<o∧o<st.nx∧st.S o=some (.row 1 (zac m))∧st.S 0=some (.box (taB q t))) ?_ t.rw.length _ ⟨0,1,0,[],by omega,rfl,by simp,by simp,by simp,by simp,by simp,by simp,by simp [zac],by simp⟩
 rintro n st ⟨i,o,e,m,hi,hm,v1,v2,v5,v6,ho,hox,hSo,hS0⟩
 obtain ⟨x1,x2,x3,x4⟩:=fr hox
 obtain ⟨g1',g2,g3,g4⟩:=fr ho
 obtain ⟨z1,z2,z3,z4⟩:=fr (show 0<st.nx by omega)
 by_cases h:i<t.rw.length
 ·obtain ⟨r,hx⟩ : ∃ x,t.rw[i]?=some x:=⟨_,List.getElem?_eq_getElem h⟩
  have hx':=zem (q:=q) hx
  have hrl:=hr r (List.mem_of_getElem? hx)
  obtain ⟨y,hy⟩ : ∃ x,r[f]?=some x:=⟨_,List.getElem?_eq_getElem (by omega)⟩
  have hy':=zba hy
  have hfr:f<r.length:=by omega
  have hw:=wS h (by omega:t.rw.length≤9223372036854775807)
  have hr8:=zc3 (n:=m.length+1) (by omega)
  have hsn:=zcv m y
  simp [-getElem?_pos,z1q,-za2,v1,v2,v5,v6,hSo,hS0,h,hx',hy',hfr,g1,w1,hw,hr1,hr8,hsn,g1',g2,g3,g4,x1,x2,x3,x4,z1,z2,z3,z4]
  exact zan (n-1) (by omega) ⟨i+1,st.nx+1,st.ep,m++[y],by omega,by simp [hm],by simp [v1],by simp [v2],by simp,by simp,by omega,by simp,by simp,by simp [g1',g2,g3,g4,x1,x2,x3,x4,z1,z2,z3,z4,hS0]⟩
 ·simp [-getElem?_pos,z1q,-za2,v1,v2,v5,v6,hSo,hS0,h]
  exact ⟨m,by omega,rfl⟩
def zuh (x:Int):Prop := -1500≤x∧x≤1500
theorem yy2 (B:List Int) (hB:B.length≤9223372036854775807) (far:Bool) (n:Nat) (hn:n≤3) {st:St} {p o e:Nat} {s:Int} {Q:Ex→St→Prop} (hp:p≤B.length) (v0:st.V 0 = .ptr 0 none 0 0 0) (v3:st.V 3=iv n) (v6:st.V 6=bv far) (v8:st.V 8 = .ref o none e 0 0) (v9:st.V 9=iv (0:Nat)) (ho:0<o) (hox:o<st.nx) (hS0:st.S 0=some (.box [.sl 1 (zbe B),iv p,iv s])) (hSo:st.S o=some (.row 1 []))
  (hQ : ∀ (s':St) (p' o' e':Nat) (sd:Int) (r:List Int),r.length=n→(∀ x∈r,zbk x=true)→(far=false→∀ x∈r,zuh x)→p'≤B.length→(∀ k,k≠8→k≠9→k≠10→s'.V k=st.V k)→s'.V 8 = .ref o' none e' 0 n→o≤o'→o'<s'.nx→st.nx≤s'.nx→s'.ep=st.ep→s'.S o'=some (.row 1 (zac r))→s'.S 0=some (.box [.sl 1 (zbe B),iv p',iv sd])→(∀ k,k≠0→k<o→s'.S k=st.S k)→Q (.exit 2) s') :
  W (zad T) (RUN T) (.loop zss) st Q:=by
 refine za0 (fun m s' => ∃ (i p' o' e':Nat) (sd:Int) (r:List Int),i+m=n∧r.length=i∧(∀ x∈r,zbk x=true)∧(far=false→∀ x∈r,zuh x)∧p'≤B.length∧(∀ k,k≠8→k≠9→k≠10→s'.V k=st.V k)∧s'.V 8 = .ref o' none e' 0 r.length∧s'.V 9=iv i∧o≤o'∧o'<s'.nx∧st.nx≤s'.nx∧s'.ep=st.ep∧s'.S o'=some (.row 1 (zac r))∧s'.S 0=some (.box [.sl 1 (zbe B),iv p',iv sd])∧(∀ k,k≠0→k<o→s'.S k=st.S k)) ?_ n _ ⟨0,p,o,e,s,[],by omega,rfl,by simp,by simp,hp,fun _ _ _ _=>rfl,by simpa using v8,by simpa using v9,by omega,hox,Nat.le_refl _,rfl,by simpa [zac] using hSo,hS0,fun _ _ _=>rfl⟩
 rintro m s' ⟨i,p',o',e',sd,r,hi,hr,hrd,hrs,hp',hV,v8',v9',hoo,hox',hnx,hep,hSo',hS0',hfr⟩
 have v0':s'.V 0 = .ptr 0 none 0 0 0:=by rw [hV 0 (by decide) (by decide) (by decide)]; exact v0
 have v3':s'.V 3=iv n:=by rw [hV 3 (by decide) (by decide) (by decide)]; exact v3
 have v6':s'.V 6=bv far:=by rw [hV 6 (by decide) (by decide) (by decide)]; exact v6
 obtain ⟨x1,x2,x3,x4⟩:=fr hox'
 obtain ⟨g1,g2,g3,g4⟩:=fr (show 0<o' by omega)
 obtain ⟨z1,z2,z3,z4⟩:=fr (show 0<s'.nx by omega)
 by_cases h:i<n
 ·have hw:=wS h (by omega:n≤9223372036854775807)
  have hr1:zak 8 1=true:=by decide
  have hr8:=zc3 (n:=r.length+1) (by omega)
  obtain ⟨r1,h1,w1,p1,s1,⟨a1,rfl,had⟩,hp1,rfl⟩:=z2e B p' sd hp' hB
  cases far with
  | true =>
   have hsn:=zcv r a1
   simp [-getElem?_pos,zss,v0',v3',v6',v8',v9',hSo',hS0',h,h1,hw,hr1,hr8,hsn,g1,g2,g3,g4,x1,x2,x3,x4,z1,z2,z3,z4]
   refine zan (m-1) (by omega) ⟨i+1,p1,s'.nx+1,s'.ep,s1,r++[a1],by omega,by simp [hr],?_,fun h=>(by cases h),hp1,fun k k1 k2 k3 => ?_,by simp,by simp,by omega,by simp,by simp; omega,by simp [hep],by simp,by simp [g1,g2,g3,g4,x1,x2,x3,x4,z1,z2,z3,z4],fun k k1 k2 => ?_⟩
   ·intro x hx
    rcases List.mem_append.mp hx with hx | hx
    ·exact hrd x hx
    ·simp at hx; subst hx; exact had
   ·simp [k1,k2,k3]; exact hV k k1 k2 k3
   ·have e1:(k=s'.nx)=False:=eq_false (by omega)
    have e2:(k=s'.nx+1)=False:=eq_false (by omega)
    have e3:(k=o')=False:=eq_false (by omega)
    have e4:(k=0)=False:=eq_false k1
    simp [e1,e2,e3,e4]
    exact hfr k k1 k2
  | false =>
   obtain ⟨r2,h2,w2,p2,s2,⟨a2,rfl,a20,a21⟩,hp2,rfl⟩:=zbn B p1 s1 hp1 hB 7 (by omega)
   have a22:=a21 (by omega)
   have u1:=w64 (x:=a2-3) (by omega) (by omega)
   have u2:=w64 (x:=500*(a2-3)) (by omega) (by omega)
   have hsn:=zcv r (500*(a2-3))
   simp [-getElem?_pos,zss,v0',v3',v6',v8',v9',hSo',hS0',h,h1,h2,hw,u1,u2,hr1,hr8,hsn,g1,g2,g3,g4,x1,x2,x3,x4,z1,z2,z3,z4]
   refine zan (m-1) (by omega) ⟨i+1,p2,s'.nx+1,s'.ep,s2,r++[500*(a2-3)],by omega,by simp [hr],?_,?_,hp2,fun k k1 k2 k3 => ?_,by simp,by simp,by omega,by simp,by simp; omega,by simp [hep],by simp,by simp [g1,g2,g3,g4,x1,x2,x3,x4,z1,z2,z3,z4],fun k k1 k2 => ?_⟩
   ·intro x hx
    rcases List.mem_append.mp hx with hx | hx
    ·exact hrd x hx
    ·simp at hx; subst hx; exact zq0 (by omega) (by omega)
   ·intro _ x hx
    rcases List.mem_append.mp hx with hx | hx
    ·exact hrs rfl x hx
    ·simp at hx; subst hx; unfold zuh; omega
   ·simp [k1,k2,k3]; exact hV k k1 k2 k3
   ·have e1:(k=s'.nx)=False:=eq_false (by omega)
    have e2:(k=s'.nx+1)=False:=eq_false (by omega)
    have e3:(k=o')=False:=eq_false (by omega)
    have e4:(k=0)=False:=eq_false k1
    simp [e1,e2,e3,e4]
    exact hfr k k1 k2
 ·have hin:i=n:=by omega
  subst hin
  simp [-getElem?_pos,zss,v3',v9',h]
  exact hQ _ p' o' e' sd r hr hrd hrs hp' (fun k k1 k2 k3=>by simp; exact hV k k1 k2 k3) (by simp [v8',hr]) hoo (by simp [hox']) (by simp [hnx]) (by simp [hep]) (by simp [hSo']) (by simp [hS0']) (fun k k1 k2=>by simp; exact hfr k k1 k2)
def PTa (v:PV):Prop := ∃ t:Ta,v=taO t∧TaL 64 t∧zku t=true
def nm4:List ByteArray:=[bs [97],bs [98],bs [99,50],bs [100]]
theorem yvw {n:Nat} (h1:1≤n) (h3:n≤3):zjb (nm4.take n++[bs [121]])=true:=by
 have h:n=1∨n=2∨n=3:=by omega
 rcases h with rfl | rfl | rfl <;> decide +kernel
theorem ytw {n m:Nat} {L:List (List Int)} {Y:List Int} (h1:1≤n) (h3:n≤3) (m1:1≤m) (m2:m≤40) (hL:L.length=m) (hY:Y.length=m) (hr : ∀ r∈L,r.length=n∧∀ x∈r,zbk x=true) (hy : ∀ y∈Y,zbk y=true):PTa (taO ⟨nm4.take n,bs [121],L,Y⟩):=by
 have hnl:(nm4.take n).length=n:=by simp [nm4]; omega
 have hsz:(bs [121]).size=1:=rfl
 refine ⟨_,rfl,⟨by simp only [hnl]; omega,fun x hx => ?_,by simp only [hsz]; omega,by simp only [hL]; omega,fun r hr'=>by have:=(hr r hr').1; omega,by simp only [hY]; omega⟩,?_⟩
 ·have hm:=List.mem_of_mem_take hx
  simp only [nm4,List.mem_cons,List.not_mem_nil,or_false] at hm
  rcases hm with rfl | rfl | rfl | rfl <;> decide
 ·unfold zku
  simp only [hnl,hL,hY]
  rw [za3.mpr (by omega),yvw h1 h3,za3.mpr (by omega)]
  have e1:Y.all zbk=true:=by rw [List.all_eq_true]; exact hy
  have e2:L.all (zgx n)=true:=by
   rw [List.all_eq_true]
   intro r hr'
   unfold zgx
   rw [decide_eq_true (by have:=(hr r hr').1; omega:(r.length:Int)=n),List.all_eq_true.mpr (hr r hr').2]; rfl
  rw [e1,e2]; simp
set_option maxHeartbeats 4000000 in
set_option maxRecDepth 8000 in
theorem yrs (B:List Int) (p:Nat) (s:Int) (hp:p≤B.length) (hB:B.length≤9223372036854775807) : ∃ r,RUN T zpc [.bx [.sl 1 (zbe B),iv p,iv s]]=some r∧zfl B PTa r:=by
 have hr0:zak 16 0=true:=by decide
 have hr1:zak 16 4=true:=by decide
 obtain ⟨r1,h1,v1,p1,s1,⟨a1,rfl,a10,a11⟩,hp1,rfl⟩:=zbn B p s hp hB 3 (by omega)
 have a12:=a11 (by omega)
 obtain ⟨n,hnf⟩ : ∃ n:Nat,1+a1=n:=⟨(1+a1).toNat,by omega⟩
 have w1:=w64 (x:=(n:Int)) (by omega) (by omega)
 have hr2:zak 16 n=true:=by simp [zak]; omega
 have hn3:n≤3:=by omega
 have hn4:n≤4:=by omega
 have hn1:1≤n:=by omega
 obtain ⟨ns,hns⟩ : ∃ ns,ns=nm4.take n:=⟨_,rfl⟩
 have hcut:(if n=4 then [[PV.v (Value.string (bs [97]))],[PV.v (Value.string (bs [98]))],[PV.v (Value.string (bs [99,50]))],[PV.v (Value.string (bs [100]))]] else List.take n [[PV.v (Value.string (bs [97]))],[PV.v (Value.string (bs [98]))],[PV.v (Value.string (bs [99,50]))],[PV.v (Value.string (bs [100]))]])=zdn ns:=by
  subst hns
  have h:n=1∨n=2∨n=3:=by omega
  rcases h with h | h | h <;> subst h <;> rfl
 have hnl:ns.length=n:=by subst hns; simp [nm4]; omega
 obtain ⟨r2,h2,v2,p2,s2,⟨a2,rfl,a20,a21⟩,hp2,rfl⟩:=zbn B p1 s1 hp1 hB 9 (by omega)
 have a22:=a21 (by omega)
 obtain ⟨r3,h3,v3,p3,s3,⟨b3,rfl⟩,hp3,rfl⟩:=zev B p2 s2 hp2 hB 10 (by omega)
 have key : ∀ (m:Nat) (far:Bool) (p:Nat) (s:Int) (st:St),1≤m→m≤40→p≤B.length→st.V 0 = .ptr 0 none 0 0 0→st.V 2 = .ptr 1 none 0 0 0→st.V 3=iv n→st.V 4 = .ptr 5 none 0 0 0→st.V 5=iv m→st.V 6=bv far→st.V 7=iv (0:Nat)→5<st.nx→st.S 0=some (.box [.sl 1 (zbe B),iv p,iv s])→st.S 1=some (.box [.e0,.v (.string (bs [])),.e0,.e0])→st.S 4=some (.row 1 (zdn ns))→st.S 5=some (.box [.ref 4 none 0 0 n,.v (.string (bs [121])),.e0,.e0]) →
   W (zad T) (RUN T) (.loop zx0) st (Bl 0 (Nx (fun s=>W (zad T) (RUN T) (.seq (.reg [oE 83 (.load true 4 (.V 4)),oN (.store [1,0,1,1] (.V 2) (.E 83))]) .ret) s (zh9 zkm 1 (zfl B PTa) ⟨⟩ ⟨⟩)) (zh9 zkm 1 (zfl B PTa) ⟨⟩ ⟨⟩) ⟨⟩ ⟨⟩) ⟨⟩):=by
  clear h1 h2 h3 hp1 hp2 hp3 hp
  intro m far p s st hm1 hm40 hp v0 v2 v3 v4 v5 v6 v7 h5x hS0 hS1 hS4 hS5
  refine za0 (fun k st => ∃ (i p:Nat) (s:Int) (L:List (List Int)) (Y:List Int) (xR xY:PV),i+k=m∧L.length=i∧Y.length=i∧(∀ r∈L,r.length=n∧∀ x∈r,zbk x=true)∧(∀ y∈Y,zbk y=true)∧p≤B.length∧st.V 0 = .ptr 0 none 0 0 0∧st.V 2 = .ptr 1 none 0 0 0∧st.V 3=iv n∧st.V 4 = .ptr 5 none 0 0 0∧st.V 5=iv m∧st.V 6=bv far∧st.V 7=iv i∧5<st.nx∧st.S 0=some (.box [.sl 1 (zbe B),iv p,iv s])∧st.S 1=some (.box [.e0,.v (.string (bs [])),.e0,.e0])∧st.S 4=some (.row 1 (zdn ns))∧st.S 5=some (.box [.ref 4 none 0 0 n,.v (.string (bs [121])),xR,xY])∧((L=[]∧Y=[]∧xR = .e0∧xY = .e0)∨∃ o1 e1 o2 e2,xR = .ref o1 none e1 0 i∧xY = .ref o2 none e2 0 i∧5<o1∧o1<st.nx∧5<o2∧o2<st.nx∧¬ o1=o2∧st.S o1=some (.row 1 (rws true L))∧st.S o2=some (.row 1 (zac Y)))) ?_ m _ ⟨0,p,s,[],[],.e0,.e0,by omega,rfl,rfl,by simp,by simp,hp,v0,v2,v3,v4,v5,v6,v7,h5x,hS0,hS1,hS4,hS5,.inl ⟨rfl,rfl,rfl,rfl⟩⟩
  clear v0 v2 v3 v4 v5 v6 v7 h5x hS0 hS1 hS4 hS5 hp
  rintro k st ⟨i,p,s,L,Y,xR,xY,hi,hL,hY,hLr,hYd,hp,v0,v2,v3,v4,v5,v6,v7,h5x,hS0,hS1,hS4,hS5,hx⟩
  obtain ⟨f1,f2,f3,f4⟩:=fr (show 0<st.nx by omega)
  obtain ⟨g1,g2,g3,g4⟩:=fr (show 1<st.nx by omega)
  obtain ⟨h1,h2,h3,h4⟩:=fr (show 4<st.nx by omega)
  obtain ⟨j1,j2,j3,j4⟩:=fr (show 5<st.nx by omega)
  by_cases h:i<m
  ·have hw:=wS h (by omega:m≤9223372036854775807)
   have hr1:zak 8 1=true:=by decide
   have hr00:zak 8 0=true:=by decide
   simp [-getElem?_pos,zx0,v5,v7,h,hr00]
   refine yy2 (o:=st.nx) (e:=st.ep) (p:=p) (s:=s) B hB far n (by omega) hp (by simp [v0]) (by simp [v3]) (by simp [v6]) (by simp) (by simp) (by omega) (by simp) (by simp [f1,f2,f3,f4,g1,g2,g3,g4,h1,h2,h3,h4,j1,j2,j3,j4,hS0]) (by simp) ?_
   intro t p1 o3 e3 s1 r hr hrd hrs hp1 hV w8 ho3 ho3x hnx hep hSo3 hT0 hfr
   simp only at ho3 hnx hep
   have w0:t.V 0 = .ptr 0 none 0 0 0:=by rw [hV 0 (by decide) (by decide) (by decide)]; simp [v0]
   have w2:t.V 2 = .ptr 1 none 0 0 0:=by rw [hV 2 (by decide) (by decide) (by decide)]; simp [v2]
   have w3:t.V 3=iv n:=by rw [hV 3 (by decide) (by decide) (by decide)]; simp [v3]
   have w4:t.V 4 = .ptr 5 none 0 0 0:=by rw [hV 4 (by decide) (by decide) (by decide)]; simp [v4]
   have w5:t.V 5=iv m:=by rw [hV 5 (by decide) (by decide) (by decide)]; simp [v5]
   have w6:t.V 6=bv far:=by rw [hV 6 (by decide) (by decide) (by decide)]; simp [v6]
   have w7:t.V 7=iv i:=by rw [hV 7 (by decide) (by decide) (by decide)]; simp [v7]
   have hT1:t.S 1=some (.box [.e0,.v (.string (bs [])),.e0,.e0]):=by rw [hfr 1 (by omega) (by omega)]; simp [f1,f2,f3,f4,g1,g2,g3,g4,h1,h2,h3,h4,j1,j2,j3,j4,hS1]
   have hT4:t.S 4=some (.row 1 (zdn ns)):=by rw [hfr 4 (by omega) (by omega)]; simp [f1,f2,f3,f4,g1,g2,g3,g4,h1,h2,h3,h4,j1,j2,j3,j4,hS4]
   have hT5:t.S 5=some (.box [.ref 4 none 0 0 n,.v (.string (bs [121])),xR,xY]):=by rw [hfr 5 (by omega) (by omega)]; simp [f1,f2,f3,f4,g1,g2,g3,g4,h1,h2,h3,h4,j1,j2,j3,j4,hS5]
   obtain ⟨x0,hx0⟩ : ∃ x,r[0]?=some x:=⟨_,List.getElem?_eq_getElem (by omega)⟩
   have hx0':=zba hx0
   obtain ⟨q1,d1,_,p2,s2,⟨y,rfl,hyd⟩,hp2,rfl⟩:=z2e B p1 s1 hp1 hB
   have hr24:zak 24 1=true:=by decide
   have hr24':zak 24 (i+1)=true:=by simp [zak]; omega
   have hr8:=zc3 (n:=i+1) (by omega)
   have hsn1:=ztg L r
   have hn0:(0:Nat)<n:=by omega
   have na : ∀ a b:Nat,t.nx+a+b=t.nx+(a+b):=fun a b=>Nat.add_assoc _ _ _
   obtain ⟨F1,F2,F3,F4⟩:=fr (show 0<t.nx by omega)
   obtain ⟨G1,G2,G3,G4⟩:=fr (show 1<t.nx by omega)
   obtain ⟨H1,H2,H3,H4⟩:=fr (show 4<t.nx by omega)
   obtain ⟨J1,J2,J3,J4⟩:=fr (show 5<t.nx by omega)
   obtain ⟨O1,O2,O3,O4⟩:=fr (show o3<t.nx by omega)
   have n0a:(o3=0)=False:=eq_false (by omega)
   have n0b:(0=o3)=False:=eq_false (by omega)
   have n1a:(o3=1)=False:=eq_false (by omega)
   have n1b:(1=o3)=False:=eq_false (by omega)
   have n2a:(o3=4)=False:=eq_false (by omega)
   have n2b:(4=o3)=False:=eq_false (by omega)
   have n3a:(o3=5)=False:=eq_false (by omega)
   have n3b:(5=o3)=False:=eq_false (by omega)
   rcases hx with ⟨rfl,rfl,rfl,rfl⟩ | ⟨o1,e1,o2,e2,rfl,rfl,ho1,ho1x,ho2,ho2x,ho12,hSo1,hSo2⟩
   ·have hi0:i=0:=by simpa using hL.symm
    subst hi0
    cases far with
    | true =>
     simp [-getElem?_pos,w0,w2,w3,w4,w5,w6,w7,w8,hT0,hT1,hT4,hT5,hSo3,hx0',hn0,hr,hw,hr1,d1,hr24,na,F1,F2,F3,F4,G1,G2,G3,G4,H1,H2,H3,H4,J1,J2,J3,J4,O1,O2,O3,O4,n0a,n0b,n1a,n1b,n2a,n2b,n3a,n3b]
     refine zan (k-1) (by omega) ⟨0+1,p2,s2,[]++[r],[]++[y],.ref (t.nx+1) none t.ep 0 (0+1),.ref (t.nx+3) none t.ep 0 (0+1),by omega,by simp [hL],by simp [hY],?_,?_,by assumption,by simp [w0],by simp [w2],by simp [w3],by simp [w4],by simp [w5],by simp [w6],by simp,by simp; omega,by simp [F1,F2,F3,F4,G1,G2,G3,G4,H1,H2,H3,H4,J1,J2,J3,J4,O1,O2,O3,O4,n0a,n0b,n1a,n1b,n2a,n2b,n3a,n3b],by simp [F1,F2,F3,F4,G1,G2,G3,G4,H1,H2,H3,H4,J1,J2,J3,J4,O1,O2,O3,O4,n0a,n0b,n1a,n1b,n2a,n2b,n3a,n3b,hT1],by simp [F1,F2,F3,F4,G1,G2,G3,G4,H1,H2,H3,H4,J1,J2,J3,J4,O1,O2,O3,O4,n0a,n0b,n1a,n1b,n2a,n2b,n3a,n3b,hT4],by simp [F1,F2,F3,F4,G1,G2,G3,G4,H1,H2,H3,H4,J1,J2,J3,J4,O1,O2,O3,O4,n0a,n0b,n1a,n1b,n2a,n2b,n3a,n3b],.inr ⟨t.nx+1,t.ep,t.nx+3,t.ep,rfl,rfl,by omega,by simp,by omega,by simp,by omega,by simp [F1,F2,F3,F4,G1,G2,G3,G4,H1,H2,H3,H4,J1,J2,J3,J4,O1,O2,O3,O4,n0a,n0b,n1a,n1b,n2a,n2b,n3a,n3b,rws,cel],by simp [F1,F2,F3,F4,G1,G2,G3,G4,H1,H2,H3,H4,J1,J2,J3,J4,O1,O2,O3,O4,n0a,n0b,n1a,n1b,n2a,n2b,n3a,n3b,zac]⟩⟩
     ·intro r' hr'
      rcases List.mem_append.mp hr' with hr' | hr'
      ·exact hLr r' hr'
      ·simp at hr'; subst hr'; exact ⟨hr,hrd⟩
     ·intro y' hy'
      rcases List.mem_append.mp hy' with hy' | hy'
      ·exact hYd y' hy'
      ·simp at hy'; subst hy'; exact hyd
    | false =>
     have hsx:=hrs rfl x0 (List.mem_of_getElem? hx0)
     unfold zuh at hsx
     obtain ⟨q2,d2,_,p3,s3,⟨b4,rfl⟩,hp3,rfl⟩:=zev B p2 s2 hp2 hB 4 (by omega)
     cases b4 with
     | true =>
      simp [-getElem?_pos,w0,w2,w3,w4,w5,w6,w7,w8,hT0,hT1,hT4,hT5,hSo3,hx0',hn0,hr,hw,hr1,d1,hr24,na,d2,F1,F2,F3,F4,G1,G2,G3,G4,H1,H2,H3,H4,J1,J2,J3,J4,O1,O2,O3,O4,n0a,n0b,n1a,n1b,n2a,n2b,n3a,n3b]
      refine zan (k-1) (by omega) ⟨0+1,p3,s3,[]++[r],[]++[y],.ref (t.nx+1) none t.ep 0 (0+1),.ref (t.nx+3) none t.ep 0 (0+1),by omega,by simp [hL],by simp [hY],?_,?_,by assumption,by simp [w0],by simp [w2],by simp [w3],by simp [w4],by simp [w5],by simp [w6],by simp,by simp; omega,by simp [F1,F2,F3,F4,G1,G2,G3,G4,H1,H2,H3,H4,J1,J2,J3,J4,O1,O2,O3,O4,n0a,n0b,n1a,n1b,n2a,n2b,n3a,n3b],by simp [F1,F2,F3,F4,G1,G2,G3,G4,H1,H2,H3,H4,J1,J2,J3,J4,O1,O2,O3,O4,n0a,n0b,n1a,n1b,n2a,n2b,n3a,n3b,hT1],by simp [F1,F2,F3,F4,G1,G2,G3,G4,H1,H2,H3,H4,J1,J2,J3,J4,O1,O2,O3,O4,n0a,n0b,n1a,n1b,n2a,n2b,n3a,n3b,hT4],by simp [F1,F2,F3,F4,G1,G2,G3,G4,H1,H2,H3,H4,J1,J2,J3,J4,O1,O2,O3,O4,n0a,n0b,n1a,n1b,n2a,n2b,n3a,n3b],.inr ⟨t.nx+1,t.ep,t.nx+3,t.ep,rfl,rfl,by omega,by simp,by omega,by simp,by omega,by simp [F1,F2,F3,F4,G1,G2,G3,G4,H1,H2,H3,H4,J1,J2,J3,J4,O1,O2,O3,O4,n0a,n0b,n1a,n1b,n2a,n2b,n3a,n3b,rws,cel],by simp [F1,F2,F3,F4,G1,G2,G3,G4,H1,H2,H3,H4,J1,J2,J3,J4,O1,O2,O3,O4,n0a,n0b,n1a,n1b,n2a,n2b,n3a,n3b,zac]⟩⟩
      ·intro r' hr'
       rcases List.mem_append.mp hr' with hr' | hr'
       ·exact hLr r' hr'
       ·simp at hr'; subst hr'; exact ⟨hr,hrd⟩
      ·intro y' hy'
       rcases List.mem_append.mp hy' with hy' | hy'
       ·exact hYd y' hy'
       ·simp at hy'; subst hy'; exact hyd
     | false =>
      obtain ⟨q3,d3,_,p4,s4,⟨a4,rfl,a40,a41⟩,hp4,rfl⟩:=zbn B p3 s3 hp3 hB 5 (by omega)
      have a42:=a41 (by omega)
      have u1:=w64 (x:=x0*2) (by omega) (by omega)
      have u2:=w64 (x:=100*a4) (by omega) (by omega)
      have u3:=w64 (x:=x0*2+100*a4) (by omega) (by omega)
      simp [-getElem?_pos,w0,w2,w3,w4,w5,w6,w7,w8,hT0,hT1,hT4,hT5,hSo3,hx0',hn0,hr,hw,hr1,d1,hr24,na,d2,d3,u1,u2,u3,F1,F2,F3,F4,G1,G2,G3,G4,H1,H2,H3,H4,J1,J2,J3,J4,O1,O2,O3,O4,n0a,n0b,n1a,n1b,n2a,n2b,n3a,n3b]
      refine zan (k-1) (by omega) ⟨0+1,p4,s4,[]++[r],[]++[x0*2+100*a4],.ref (t.nx+1) none t.ep 0 (0+1),.ref (t.nx+3) none t.ep 0 (0+1),by omega,by simp [hL],by simp [hY],?_,?_,by assumption,by simp [w0],by simp [w2],by simp [w3],by simp [w4],by simp [w5],by simp [w6],by simp,by simp; omega,by simp [F1,F2,F3,F4,G1,G2,G3,G4,H1,H2,H3,H4,J1,J2,J3,J4,O1,O2,O3,O4,n0a,n0b,n1a,n1b,n2a,n2b,n3a,n3b],by simp [F1,F2,F3,F4,G1,G2,G3,G4,H1,H2,H3,H4,J1,J2,J3,J4,O1,O2,O3,O4,n0a,n0b,n1a,n1b,n2a,n2b,n3a,n3b,hT1],by simp [F1,F2,F3,F4,G1,G2,G3,G4,H1,H2,H3,H4,J1,J2,J3,J4,O1,O2,O3,O4,n0a,n0b,n1a,n1b,n2a,n2b,n3a,n3b,hT4],by simp [F1,F2,F3,F4,G1,G2,G3,G4,H1,H2,H3,H4,J1,J2,J3,J4,O1,O2,O3,O4,n0a,n0b,n1a,n1b,n2a,n2b,n3a,n3b],.inr ⟨t.nx+1,t.ep,t.nx+3,t.ep,rfl,rfl,by omega,by simp,by omega,by simp,by omega,by simp [F1,F2,F3,F4,G1,G2,G3,G4,H1,H2,H3,H4,J1,J2,J3,J4,O1,O2,O3,O4,n0a,n0b,n1a,n1b,n2a,n2b,n3a,n3b,rws,cel],by simp [F1,F2,F3,F4,G1,G2,G3,G4,H1,H2,H3,H4,J1,J2,J3,J4,O1,O2,O3,O4,n0a,n0b,n1a,n1b,n2a,n2b,n3a,n3b,zac]⟩⟩
      ·intro r' hr'
       rcases List.mem_append.mp hr' with hr' | hr'
       ·exact hLr r' hr'
       ·simp at hr'; subst hr'; exact ⟨hr,hrd⟩
      ·intro y' hy'
       rcases List.mem_append.mp hy' with hy' | hy'
       ·exact hYd y' hy'
       ·simp at hy'; subst hy'; exact zq0 (by omega) (by omega)
   ·have hT6:t.S o1=some (.row 1 (rws true L)):=by rw [hfr o1 (by omega) (by omega)]; simp [show (o1=st.nx)=False from eq_false (by omega),hSo1]
    have hT7:t.S o2=some (.row 1 (zac Y)):=by rw [hfr o2 (by omega) (by omega)]; simp [show (o2=st.nx)=False from eq_false (by omega),hSo2]
    obtain ⟨P1,P2,P3,P4⟩:=fr (show o1<t.nx by omega)
    obtain ⟨Q1,Q2,Q3,Q4⟩:=fr (show o2<t.nx by omega)
    have m0a:(o1=0)=False:=eq_false (by omega)
    have m0b:(0=o1)=False:=eq_false (by omega)
    have m1a:(o1=1)=False:=eq_false (by omega)
    have m1b:(1=o1)=False:=eq_false (by omega)
    have m2a:(o1=4)=False:=eq_false (by omega)
    have m2b:(4=o1)=False:=eq_false (by omega)
    have m3a:(o1=5)=False:=eq_false (by omega)
    have m3b:(5=o1)=False:=eq_false (by omega)
    have m4a:(o2=0)=False:=eq_false (by omega)
    have m4b:(0=o2)=False:=eq_false (by omega)
    have m5a:(o2=1)=False:=eq_false (by omega)
    have m5b:(1=o2)=False:=eq_false (by omega)
    have m6a:(o2=4)=False:=eq_false (by omega)
    have m6b:(4=o2)=False:=eq_false (by omega)
    have m7a:(o2=5)=False:=eq_false (by omega)
    have m7b:(5=o2)=False:=eq_false (by omega)
    have m8a:(o1=o3)=False:=eq_false (by omega)
    have m8b:(o3=o1)=False:=eq_false (by omega)
    have m9a:(o2=o3)=False:=eq_false (by omega)
    have m9b:(o3=o2)=False:=eq_false (by omega)
    have m10a:(o1=o2)=False:=eq_false (by omega)
    have m10b:(o2=o1)=False:=eq_false (by omega)
    cases far with
    | true =>
     simp [-getElem?_pos,w0,w2,w3,w4,w5,w6,w7,w8,hT0,hT1,hT4,hT5,hSo3,hx0',hn0,hr,hw,hr1,d1,hr24,na,hT6,hT7,hr24',hr8,hsn1,hL,hY,zcv,F1,F2,F3,F4,G1,G2,G3,G4,H1,H2,H3,H4,J1,J2,J3,J4,O1,O2,O3,O4,n0a,n0b,n1a,n1b,n2a,n2b,n3a,n3b,P1,P2,P3,P4,Q1,Q2,Q3,Q4,m0a,m0b,m1a,m1b,m2a,m2b,m3a,m3b,m4a,m4b,m5a,m5b,m6a,m6b,m7a,m7b,m8a,m8b,m9a,m9b,m10a,m10b]
     refine zan (k-1) (by omega) ⟨i+1,p2,s2,L++[r],Y++[y],.ref (t.nx+1) none t.ep 0 (i+1),.ref (t.nx+3) none t.ep 0 (i+1),by omega,by simp [hL],by simp [hY],?_,?_,by assumption,by simp [w0],by simp [w2],by simp [w3],by simp [w4],by simp [w5],by simp [w6],by simp,by simp; omega,by simp [F1,F2,F3,F4,G1,G2,G3,G4,H1,H2,H3,H4,J1,J2,J3,J4,O1,O2,O3,O4,n0a,n0b,n1a,n1b,n2a,n2b,n3a,n3b,P1,P2,P3,P4,Q1,Q2,Q3,Q4,m0a,m0b,m1a,m1b,m2a,m2b,m3a,m3b,m4a,m4b,m5a,m5b,m6a,m6b,m7a,m7b,m8a,m8b,m9a,m9b,m10a,m10b],by simp [F1,F2,F3,F4,G1,G2,G3,G4,H1,H2,H3,H4,J1,J2,J3,J4,O1,O2,O3,O4,n0a,n0b,n1a,n1b,n2a,n2b,n3a,n3b,P1,P2,P3,P4,Q1,Q2,Q3,Q4,m0a,m0b,m1a,m1b,m2a,m2b,m3a,m3b,m4a,m4b,m5a,m5b,m6a,m6b,m7a,m7b,m8a,m8b,m9a,m9b,m10a,m10b,hT1],by simp [F1,F2,F3,F4,G1,G2,G3,G4,H1,H2,H3,H4,J1,J2,J3,J4,O1,O2,O3,O4,n0a,n0b,n1a,n1b,n2a,n2b,n3a,n3b,P1,P2,P3,P4,Q1,Q2,Q3,Q4,m0a,m0b,m1a,m1b,m2a,m2b,m3a,m3b,m4a,m4b,m5a,m5b,m6a,m6b,m7a,m7b,m8a,m8b,m9a,m9b,m10a,m10b,hT4],by simp [F1,F2,F3,F4,G1,G2,G3,G4,H1,H2,H3,H4,J1,J2,J3,J4,O1,O2,O3,O4,n0a,n0b,n1a,n1b,n2a,n2b,n3a,n3b,P1,P2,P3,P4,Q1,Q2,Q3,Q4,m0a,m0b,m1a,m1b,m2a,m2b,m3a,m3b,m4a,m4b,m5a,m5b,m6a,m6b,m7a,m7b,m8a,m8b,m9a,m9b,m10a,m10b],.inr ⟨t.nx+1,t.ep,t.nx+3,t.ep,rfl,rfl,by omega,by simp,by omega,by simp,by omega,by simp [F1,F2,F3,F4,G1,G2,G3,G4,H1,H2,H3,H4,J1,J2,J3,J4,O1,O2,O3,O4,n0a,n0b,n1a,n1b,n2a,n2b,n3a,n3b,P1,P2,P3,P4,Q1,Q2,Q3,Q4,m0a,m0b,m1a,m1b,m2a,m2b,m3a,m3b,m4a,m4b,m5a,m5b,m6a,m6b,m7a,m7b,m8a,m8b,m9a,m9b,m10a,m10b],by simp [F1,F2,F3,F4,G1,G2,G3,G4,H1,H2,H3,H4,J1,J2,J3,J4,O1,O2,O3,O4,n0a,n0b,n1a,n1b,n2a,n2b,n3a,n3b,P1,P2,P3,P4,Q1,Q2,Q3,Q4,m0a,m0b,m1a,m1b,m2a,m2b,m3a,m3b,m4a,m4b,m5a,m5b,m6a,m6b,m7a,m7b,m8a,m8b,m9a,m9b,m10a,m10b]⟩⟩
     ·intro r' hr'
      rcases List.mem_append.mp hr' with hr' | hr'
      ·exact hLr r' hr'
      ·simp at hr'; subst hr'; exact ⟨hr,hrd⟩
     ·intro y' hy'
      rcases List.mem_append.mp hy' with hy' | hy'
      ·exact hYd y' hy'
      ·simp at hy'; subst hy'; exact hyd
    | false =>
     have hsx:=hrs rfl x0 (List.mem_of_getElem? hx0)
     unfold zuh at hsx
     obtain ⟨q2,d2,_,p3,s3,⟨b4,rfl⟩,hp3,rfl⟩:=zev B p2 s2 hp2 hB 4 (by omega)
     cases b4 with
     | true =>
      simp [-getElem?_pos,w0,w2,w3,w4,w5,w6,w7,w8,hT0,hT1,hT4,hT5,hSo3,hx0',hn0,hr,hw,hr1,d1,hr24,na,hT6,hT7,hr24',hr8,hsn1,hL,hY,zcv,d2,F1,F2,F3,F4,G1,G2,G3,G4,H1,H2,H3,H4,J1,J2,J3,J4,O1,O2,O3,O4,n0a,n0b,n1a,n1b,n2a,n2b,n3a,n3b,P1,P2,P3,P4,Q1,Q2,Q3,Q4,m0a,m0b,m1a,m1b,m2a,m2b,m3a,m3b,m4a,m4b,m5a,m5b,m6a,m6b,m7a,m7b,m8a,m8b,m9a,m9b,m10a,m10b]
      refine zan (k-1) (by omega) ⟨i+1,p3,s3,L++[r],Y++[y],.ref (t.nx+1) none t.ep 0 (i+1),.ref (t.nx+3) none t.ep 0 (i+1),by omega,by simp [hL],by simp [hY],?_,?_,by assumption,by simp [w0],by simp [w2],by simp [w3],by simp [w4],by simp [w5],by simp [w6],by simp,by simp; omega,by simp [F1,F2,F3,F4,G1,G2,G3,G4,H1,H2,H3,H4,J1,J2,J3,J4,O1,O2,O3,O4,n0a,n0b,n1a,n1b,n2a,n2b,n3a,n3b,P1,P2,P3,P4,Q1,Q2,Q3,Q4,m0a,m0b,m1a,m1b,m2a,m2b,m3a,m3b,m4a,m4b,m5a,m5b,m6a,m6b,m7a,m7b,m8a,m8b,m9a,m9b,m10a,m10b],by simp [F1,F2,F3,F4,G1,G2,G3,G4,H1,H2,H3,H4,J1,J2,J3,J4,O1,O2,O3,O4,n0a,n0b,n1a,n1b,n2a,n2b,n3a,n3b,P1,P2,P3,P4,Q1,Q2,Q3,Q4,m0a,m0b,m1a,m1b,m2a,m2b,m3a,m3b,m4a,m4b,m5a,m5b,m6a,m6b,m7a,m7b,m8a,m8b,m9a,m9b,m10a,m10b,hT1],by simp [F1,F2,F3,F4,G1,G2,G3,G4,H1,H2,H3,H4,J1,J2,J3,J4,O1,O2,O3,O4,n0a,n0b,n1a,n1b,n2a,n2b,n3a,n3b,P1,P2,P3,P4,Q1,Q2,Q3,Q4,m0a,m0b,m1a,m1b,m2a,m2b,m3a,m3b,m4a,m4b,m5a,m5b,m6a,m6b,m7a,m7b,m8a,m8b,m9a,m9b,m10a,m10b,hT4],by simp [F1,F2,F3,F4,G1,G2,G3,G4,H1,H2,H3,H4,J1,J2,J3,J4,O1,O2,O3,O4,n0a,n0b,n1a,n1b,n2a,n2b,n3a,n3b,P1,P2,P3,P4,Q1,Q2,Q3,Q4,m0a,m0b,m1a,m1b,m2a,m2b,m3a,m3b,m4a,m4b,m5a,m5b,m6a,m6b,m7a,m7b,m8a,m8b,m9a,m9b,m10a,m10b],.inr ⟨t.nx+1,t.ep,t.nx+3,t.ep,rfl,rfl,by omega,by simp,by omega,by simp,by omega,by simp [F1,F2,F3,F4,G1,G2,G3,G4,H1,H2,H3,H4,J1,J2,J3,J4,O1,O2,O3,O4,n0a,n0b,n1a,n1b,n2a,n2b,n3a,n3b,P1,P2,P3,P4,Q1,Q2,Q3,Q4,m0a,m0b,m1a,m1b,m2a,m2b,m3a,m3b,m4a,m4b,m5a,m5b,m6a,m6b,m7a,m7b,m8a,m8b,m9a,m9b,m10a,m10b],by simp [F1,F2,F3,F4,G1,G2,G3,G4,H1,H2,H3,H4,J1,J2,J3,J4,O1,O2,O3,O4,n0a,n0b,n1a,n1b,n2a,n2b,n3a,n3b,P1,P2,P3,P4,Q1,Q2,Q3,Q4,m0a,m0b,m1a,m1b,m2a,m2b,m3a,m3b,m4a,m4b,m5a,m5b,m6a,m6b,m7a,m7b,m8a,m8b,m9a,m9b,m10a,m10b]⟩⟩
      ·intro r' hr'
       rcases List.mem_append.mp hr' with hr' | hr'
       ·exact hLr r' hr'
       ·simp at hr'; subst hr'; exact ⟨hr,hrd⟩
      ·intro y' hy'
       rcases List.mem_append.mp hy' with hy' | hy'
       ·exact hYd y' hy'
       ·simp at hy'; subst hy'; exact hyd
     | false =>
      obtain ⟨q3,d3,_,p4,s4,⟨a4,rfl,a40,a41⟩,hp4,rfl⟩:=zbn B p3 s3 hp3 hB 5 (by omega)
      have a42:=a41 (by omega)
      have u1:=w64 (x:=x0*2) (by omega) (by omega)
      have u2:=w64 (x:=100*a4) (by omega) (by omega)
      have u3:=w64 (x:=x0*2+100*a4) (by omega) (by omega)
      simp [-getElem?_pos,w0,w2,w3,w4,w5,w6,w7,w8,hT0,hT1,hT4,hT5,hSo3,hx0',hn0,hr,hw,hr1,d1,hr24,na,hT6,hT7,hr24',hr8,hsn1,hL,hY,zcv,d2,d3,u1,u2,u3,F1,F2,F3,F4,G1,G2,G3,G4,H1,H2,H3,H4,J1,J2,J3,J4,O1,O2,O3,O4,n0a,n0b,n1a,n1b,n2a,n2b,n3a,n3b,P1,P2,P3,P4,Q1,Q2,Q3,Q4,m0a,m0b,m1a,m1b,m2a,m2b,m3a,m3b,m4a,m4b,m5a,m5b,m6a,m6b,m7a,m7b,m8a,m8b,m9a,m9b,m10a,m10b]
      refine zan (k-1) (by omega) ⟨i+1,p4,s4,L++[r],Y++[x0*2+100*a4],.ref (t.nx+1) none t.ep 0 (i+1),.ref (t.nx+3) none t.ep 0 (i+1),by omega,by simp [hL],by simp [hY],?_,?_,by assumption,by simp [w0],by simp [w2],by simp [w3],by simp [w4],by simp [w5],by simp [w6],by simp,by simp; omega,by simp [F1,F2,F3,F4,G1,G2,G3,G4,H1,H2,H3,H4,J1,J2,J3,J4,O1,O2,O3,O4,n0a,n0b,n1a,n1b,n2a,n2b,n3a,n3b,P1,P2,P3,P4,Q1,Q2,Q3,Q4,m0a,m0b,m1a,m1b,m2a,m2b,m3a,m3b,m4a,m4b,m5a,m5b,m6a,m6b,m7a,m7b,m8a,m8b,m9a,m9b,m10a,m10b],by simp [F1,F2,F3,F4,G1,G2,G3,G4,H1,H2,H3,H4,J1,J2,J3,J4,O1,O2,O3,O4,n0a,n0b,n1a,n1b,n2a,n2b,n3a,n3b,P1,P2,P3,P4,Q1,Q2,Q3,Q4,m0a,m0b,m1a,m1b,m2a,m2b,m3a,m3b,m4a,m4b,m5a,m5b,m6a,m6b,m7a,m7b,m8a,m8b,m9a,m9b,m10a,m10b,hT1],by simp [F1,F2,F3,F4,G1,G2,G3,G4,H1,H2,H3,H4,J1,J2,J3,J4,O1,O2,O3,O4,n0a,n0b,n1a,n1b,n2a,n2b,n3a,n3b,P1,P2,P3,P4,Q1,Q2,Q3,Q4,m0a,m0b,m1a,m1b,m2a,m2b,m3a,m3b,m4a,m4b,m5a,m5b,m6a,m6b,m7a,m7b,m8a,m8b,m9a,m9b,m10a,m10b,hT4],by simp [F1,F2,F3,F4,G1,G2,G3,G4,H1,H2,H3,H4,J1,J2,J3,J4,O1,O2,O3,O4,n0a,n0b,n1a,n1b,n2a,n2b,n3a,n3b,P1,P2,P3,P4,Q1,Q2,Q3,Q4,m0a,m0b,m1a,m1b,m2a,m2b,m3a,m3b,m4a,m4b,m5a,m5b,m6a,m6b,m7a,m7b,m8a,m8b,m9a,m9b,m10a,m10b],.inr ⟨t.nx+1,t.ep,t.nx+3,t.ep,rfl,rfl,by omega,by simp,by omega,by simp,by omega,by simp [F1,F2,F3,F4,G1,G2,G3,G4,H1,H2,H3,H4,J1,J2,J3,J4,O1,O2,O3,O4,n0a,n0b,n1a,n1b,n2a,n2b,n3a,n3b,P1,P2,P3,P4,Q1,Q2,Q3,Q4,m0a,m0b,m1a,m1b,m2a,m2b,m3a,m3b,m4a,m4b,m5a,m5b,m6a,m6b,m7a,m7b,m8a,m8b,m9a,m9b,m10a,m10b],by simp [F1,F2,F3,F4,G1,G2,G3,G4,H1,H2,H3,H4,J1,J2,J3,J4,O1,O2,O3,O4,n0a,n0b,n1a,n1b,n2a,n2b,n3a,n3b,P1,P2,P3,P4,Q1,Q2,Q3,Q4,m0a,m0b,m1a,m1b,m2a,m2b,m3a,m3b,m4a,m4b,m5a,m5b,m6a,m6b,m7a,m7b,m8a,m8b,m9a,m9b,m10a,m10b]⟩⟩
      ·intro r' hr'
       rcases List.mem_append.mp hr' with hr' | hr'
       ·exact hLr r' hr'
       ·simp at hr'; subst hr'; exact ⟨hr,hrd⟩
      ·intro y' hy'
       rcases List.mem_append.mp hy' with hy' | hy'
       ·exact hYd y' hy'
       ·simp at hy'; subst hy'; exact zq0 (by omega) (by omega)
  ·have him:i=m:=by omega
   subst him
   rcases hx with ⟨rfl,rfl,rfl,rfl⟩ | ⟨o1,e1,o2,e2,rfl,rfl,ho1,ho1x,ho2,ho2x,ho12,hSo1,hSo2⟩
   ·simp at hL; omega
   ·have n0a:(o1=0)=False:=eq_false (by omega)
    have n0b:(0=o1)=False:=eq_false (by omega)
    have n1a:(o1=1)=False:=eq_false (by omega)
    have n1b:(1=o1)=False:=eq_false (by omega)
    have n2a:(o1=4)=False:=eq_false (by omega)
    have n2b:(4=o1)=False:=eq_false (by omega)
    have n3a:(o1=5)=False:=eq_false (by omega)
    have n3b:(5=o1)=False:=eq_false (by omega)
    have n4a:(o2=0)=False:=eq_false (by omega)
    have n4b:(0=o2)=False:=eq_false (by omega)
    have n5a:(o2=1)=False:=eq_false (by omega)
    have n5b:(1=o2)=False:=eq_false (by omega)
    have n6a:(o2=4)=False:=eq_false (by omega)
    have n6b:(4=o2)=False:=eq_false (by omega)
    have n7a:(o2=5)=False:=eq_false (by omega)
    have n7b:(5=o2)=False:=eq_false (by omega)
    have n8a:(o1=o2)=False:=eq_false (by omega)
    have n8b:(o2=o1)=False:=eq_false (by omega)
    have hfin:=ytw hn1 hn3 hm1 hm40 hL hY hLr hYd
    rw [← hns] at hfin
    have hq1:1≤o1:=by omega
    have hq2:1≤o2:=by omega
    simp [-getElem?_pos,zx0,zkm,hq1,hq2,v0,v2,v4,v5,v7,h,hS0,hS1,hS4,hS5,hSo1,hSo2,hnl,hL,hY,n0a,n0b,n1a,n1b,n2a,n2b,n3a,n3b,n4a,n4b,n5a,n5b,n6a,n6b,n7a,n7b,n8a,n8b]
    exact ⟨_,p,s,hfin,hp,rfl⟩
 obtain ⟨r4,h4,v4,p4,s4,⟨b4,rfl⟩,hp4,rfl⟩:=zev B p3 s3 hp3 hB 12 (by omega)
 refine zd3 z7q rfl ?_
 cases b3 with
 | false =>
  obtain ⟨m,hm⟩ : ∃ m:Nat,1+a2=m:=⟨(1+a2).toNat,by omega⟩
  have w2:=w64 (x:=(m:Int)) (by omega) (by omega)
  simp [-getElem?_pos,zst,zkm,h1,h2,h3,h4,hnf,hm,w1,w2,hr0,hr1,hr2,hn4,hcut,ybv,hnl]
  exact key m b4 p4 s4 _ (by omega) (by omega) hp4 (by simp) (by simp) (by simp) (by simp) (by simp) (by simp) (by simp) (by simp) (by simp) (by simp) (by simp) (by simp)
 | true =>
  obtain ⟨r5,h5,v5,p5,s5,⟨a5,rfl,a50,a51⟩,hp5,rfl⟩:=zbn B p3 s3 hp3 hB 40 (by omega)
  have a52:=a51 (by omega)
  obtain ⟨m,hm⟩ : ∃ m:Nat,1+a5=m:=⟨(1+a5).toNat,by omega⟩
  have w2:=w64 (x:=(m:Int)) (by omega) (by omega)
  have w3:=w64 (x:=1+a2) (by omega) (by omega)
  obtain ⟨r6,h6,v6,p6,s6,⟨b6,rfl⟩,hp6,rfl⟩:=zev B p5 s5 hp5 hB 12 (by omega)
  simp [-getElem?_pos,zst,zkm,h1,h2,h3,h5,h6,hnf,hm,w1,w2,w3,hr0,hr1,hr2,hn4,hcut,ybv,hnl]
  exact key m b6 p6 s6 _ (by omega) (by omega) hp6 (by simp) (by simp) (by simp) (by simp) (by simp) (by simp) (by simp) (by simp) (by simp) (by simp) (by simp) (by simp)
theorem yvt (cuts col:List Int) (hcu:cuts.length≤8) (hco:col.length≤40) {st:St} {q1 e1 q2 e2 q3 e3:Nat} {Q:Ex→St→Prop} (v7:st.V 7 = .ref q1 none e1 0 col.length) (v8:st.V 8 = .ref q2 none e2 0 cuts.length) (v9:st.V 9 = .ref q3 none e3 0 0) (v10:st.V 10=iv (0:Nat)) (h1:q1<q3) (h2:q2<q3) (h3:q3<st.nx) (hS1:st.S q1=some (.row 1 (zac col))) (hS2:st.S q2=some (.row 1 (zac cuts))) (hS3:st.S q3=some (.row 1 []))
  (hQ : ∀ (s':St) (q' e':Nat) (bins:List Int),bins.length=col.length→(∀ x∈bins,0≤x∧x≤8)→(∀ k,k≠9→k≠10→s'.V k=st.V k)→s'.V 9 = .ref q' none e' 0 bins.length→q3≤q'→q'<s'.nx→st.nx≤s'.nx→s'.S q'=some (.row 1 (zac bins))→(∀ k,k<q3→s'.S k=st.S k)→Q (.exit 2) s') :
  W (zad T) (RUN T) (.loop zxx) st Q:=by
 refine za0 (fun m s' => ∃ (i q' e':Nat) (bins:List Int),i+m=col.length∧bins.length=i∧(∀ x∈bins,0≤x∧x≤8)∧(∀ k,k≠9→k≠10→s'.V k=st.V k)∧s'.V 9 = .ref q' none e' 0 bins.length∧s'.V 10=iv i∧q3≤q'∧q'<s'.nx∧st.nx≤s'.nx∧s'.S q'=some (.row 1 (zac bins))∧(∀ k,k<q3→s'.S k=st.S k)) ?_ col.length _ ⟨0,q3,e3,[],by omega,rfl,by simp,fun _ _ _=>rfl,by simpa using v9,by simpa using v10,by omega,h3,Nat.le_refl _,by simpa [zac] using hS3,fun _ _=>rfl⟩
 rintro m s' ⟨i,q',e',bins,hi,hb,hbb,hV,v9',v10',hq,hqx,hnx,hSq,hfr⟩
 have v7':s'.V 7 = .ref q1 none e1 0 col.length:=by rw [hV 7 (by decide) (by decide)]; exact v7
 have v8':s'.V 8 = .ref q2 none e2 0 cuts.length:=by rw [hV 8 (by decide) (by decide)]; exact v8
 have hS1':s'.S q1=some (.row 1 (zac col)):=by rw [hfr q1 h1]; exact hS1
 have hS2':s'.S q2=some (.row 1 (zac cuts)):=by rw [hfr q2 h2]; exact hS2
 by_cases h:i<col.length
 ·obtain ⟨x,hx⟩ : ∃ x,col[i]?=some x:=⟨_,List.getElem?_eq_getElem h⟩
  have hx':=zba hx
  have hw:=wS h (by omega:col.length≤9223372036854775807)
  have hr1:zak 8 1=true:=by decide
  have hr8:=zc3 (n:=bins.length+1) (by omega)
  obtain ⟨r2,h4,y,hy,rfl⟩:=yro cuts x (by omega)
  have hsn:=zcv bins (y:Int)
  have a1:=fr hqx
  have a2:=fr (show q1<q' by omega)
  have a3:=fr (show q2<q' by omega)
  have a4:=fr (show q1<s'.nx by omega)
  have a5:=fr (show q2<s'.nx by omega)
  simp [-getElem?_pos,zxx,v7',v8',v9',v10',hS1',hS2',hSq,h,hx',h4,hw,hr1,hr8,hsn,a1,a2,a3,a4,a5]
  refine zan (m-1) (by omega) ⟨i+1,s'.nx+1,s'.ep,bins++[(y:Int)],by omega,by simp [hb],?_,fun k k1 k2 => ?_,by simp,by simp,by omega,by simp,by simp; omega,by simp,fun k k1 => ?_⟩
  ·intro z hz
   rcases List.mem_append.mp hz with hz | hz
   ·exact hbb z hz
   ·simp at hz; subst hz; omega
  ·simp [k1,k2]; exact hV k k1 k2
  ·have b1:(k=s'.nx)=False:=eq_false (by omega)
   have b2:(k=s'.nx+1)=False:=eq_false (by omega)
   have b3:(k=q')=False:=eq_false (by omega)
   simp [b1,b2,b3]
   exact hfr k k1
 ·have hin:i=col.length:=by omega
  simp [-getElem?_pos,zxx,v7',v10',hS1',h]
  exact hQ _ q' e' bins (by omega) hbb (fun k k1 k2=>by simp; exact hV k k1 k2) (by simp [v9']) hq (by simp [hqx]) (by simp [hnx]) (by simp [hSq]) (fun k k1=>by simp; exact hfr k k1)
theorem ybs {t:Ta} (h:zku t=true):1≤t.ns.length∧t.ns.length≤4∧1≤t.rw.length∧t.rw.length≤40∧t.lb.length=t.rw.length∧∀ r∈t.rw,r.length=t.ns.length:=by
 unfold zku at h
 simp only [Bool.and_eq_true,decide_eq_true_eq,List.all_eq_true] at h
 obtain ⟨⟨⟨⟨⟨h1,_⟩,h3⟩,h4⟩,_⟩,h6⟩:=h
 have h1:=za3.mp h1
 have h3:=za3.mp h3
 refine ⟨by omega,by omega,by omega,by omega,by omega,fun r hr => ?_⟩
 have:=h6 r hr
 unfold zgx at this
 simp only [Bool.and_eq_true,decide_eq_true_eq] at this
 omega
def LG (S:Nat→Option Ob) (nx:Nat) (C D:List (List Int)) (x y:PV):Prop:=(x = .e0∧y = .e0∧C=[]∧D=[])∨∃ o e o' e',x = .ref o none e 0 C.length∧y = .ref o' none e' 0 D.length∧2<o∧o<nx∧2<o'∧o'<nx∧o≠o'∧S o=some (.row 1 (rws true C))∧S o'=some (.row 1 (rws true D))
theorem LG.mono {S S':Nat→Option Ob} {nx nx':Nat} {C D:List (List Int)} {x y:PV} (h:LG S nx C D x y) (hn:nx≤nx') (hS : ∀ k,2<k→k<nx→S' k=S k):LG S' nx' C D x y:=by
 rcases h with h | ⟨o,e,o',e',h1,h2,h3,h4,h5,h6,h7,h8,h9⟩
 ·exact .inl h
 ·exact .inr ⟨o,e,o',e',h1,h2,h3,by omega,h5,by omega,h7,by rw [hS o h3 h4]; exact h8,by rw [hS o' h5 h6]; exact h9⟩
def GrR (n m:Nat) (r:List PV×List PV):Prop := ∃ c v:List (List Int),c.length=n∧v.length=n∧(∀ l∈c,l.length≤8)∧(∀ l∈v,l.length=m∧∀ x∈l,0≤x∧x≤8)∧r=([.agg [.own 1 (rws true c),.own 1 (rws true v)]],[])
set_option maxHeartbeats 4000000 in
theorem yrt (q:Bool) (t:Ta) (b:Int) (ht:TaL 1048576 t) (hok:zku t=true) (hb:2≤b∧b≤8) : ∃ r,RUN T zpb [taS q t,iv b]=some r∧GrR t.ns.length t.rw.length r:=by
 have e1:=yrn q t ⟨Nat.le_trans ht.ns (by omega),fun x hx=>Nat.le_trans (ht.ss x hx) (by omega),Nat.le_trans ht.nm (by omega),Nat.le_trans ht.rw (by omega),fun x hx=>Nat.le_trans (ht.rr x hx) (by omega),Nat.le_trans ht.lb (by omega)⟩
 rw [hok] at e1
 obtain ⟨t1,t2,t3,t4,t5,t6⟩:=ybs hok
 have g1:=zbd b 2 8
 rw [za3.mpr (by omega)] at g1
 have hr1:zak 24 1=true:=by decide
 have hr0:zak 8 0=true:=by decide
 have cl:=yrr q t
 simp only [taS] at *
 refine zd3 z7p rfl ?_
 simp [-getElem?_pos,zxy,zxz,-za2,e1,g1]
 refine za0 (fun n st => ∃ (i:Nat) (C D:List (List Int)) (x y:PV),i+n=t.ns.length∧C.length=i∧D.length=i∧(∀ l∈C,l.length≤8)∧(∀ l∈D,l.length=t.rw.length∧∀ x∈l,0≤x∧x≤8)∧st.V 1=iv b∧st.V 2 = .ptr 0 none 0 0 0∧st.V 4 = .ptr 1 none 0 0 0∧st.V 5 = .ptr 2 none 0 0 0∧st.V 6=iv i∧2<st.nx∧LG st.S st.nx C D x y∧st.S 0=some (.box [.sl 1 (zdn t.ns),.v (.string t.nm),.sl 1 (rws q t.rw),.sl 1 (zac t.lb)])∧st.S 1=some (.box [.e0,.e0])∧st.S 2=some (.box [x,y])) ?_ t.ns.length _ ⟨0,[],[],.e0,.e0,by omega,rfl,rfl,by simp,by simp,by simp,by simp,by simp,by simp,by simp,by simp,.inl ⟨rfl,rfl,rfl,rfl⟩,by simp,by simp,by simp⟩
 rintro n st ⟨i,C,D,x,y,hi,hC,hD,hC8,hD8,v1,v2,v4,v5,v6,hnx,hx,hS0,hS1,hS2⟩
 have z1:=fr hnx
 have z2:=fr (show 1<st.nx by omega)
 have z3:=fr (show 0<st.nx by omega)
 by_cases h:i<t.ns.length
 ·have hw:=wS h (by omega:t.ns.length≤9223372036854775807)
  obtain ⟨r1,h1,col,hcol,rfl⟩:=cl i ht h t4 t6
  obtain ⟨r2,h2,cuts,hcu,rfl⟩:=yrq col b (by omega) (by omega) hb
  simp [-getElem?_pos,z1p,-za2,v1,v2,v4,v5,v6,hS0,hS1,hS2,h,h1,h2,hr0,z1,z2,z3]
  refine yvt cuts col hcu (by omega) (q1:=st.nx) (q2:=st.nx+1) (q3:=st.nx+2) (by simp; rfl) (by simp; rfl) (by simp; rfl) (by simp) (by omega) (by omega) (by simp) (by simp) (by simp) (by simp) ?_
  intro s' q' e' bins hbl hbb hV w9 hq hqx hnx' hSq hfr
  simp only at hq hnx'
  have w1:s'.V 1=iv b:=by rw [hV 1 (by decide) (by decide)]; simp [v1]
  have w2:s'.V 2 = .ptr 0 none 0 0 0:=by rw [hV 2 (by decide) (by decide)]; simp [v2]
  have w4:s'.V 4 = .ptr 1 none 0 0 0:=by rw [hV 4 (by decide) (by decide)]; simp [v4]
  have w5:s'.V 5 = .ptr 2 none 0 0 0:=by rw [hV 5 (by decide) (by decide)]; simp [v5]
  have w6:s'.V 6=iv i:=by rw [hV 6 (by decide) (by decide)]; simp [v6]
  obtain ⟨e8,w8⟩ : ∃ e,s'.V 8 = .ref (st.nx+1) none e 0 cuts.length:=⟨_,by rw [hV 8 (by decide) (by decide)]; simp; rfl⟩
  have hT0:s'.S 0=some (.box [.sl 1 (zdn t.ns),.v (.string t.nm),.sl 1 (rws q t.rw),.sl 1 (zac t.lb)]):=by rw [hfr 0 (by omega)]; simp [z1,z2,z3,hS0]
  have hT1:s'.S 1=some (.box [.e0,.e0]):=by rw [hfr 1 (by omega)]; simp [z1,z2,z3,hS1]
  have hT2:s'.S 2=some (.box [x,y]):=by rw [hfr 2 (by omega)]; simp [z1,z2,z3,hS2]
  have hT8:s'.S (st.nx+1)=some (.row 1 (zac cuts)):=by rw [hfr _ (by omega)]; simp
  have hL:LG s'.S s'.nx C D x y:=hx.mono (by omega) (fun k k1 k2=>by
   rw [hfr k (by omega)]
   have b1:(k=st.nx)=False:=eq_false (by omega)
   have b2:(k=st.nx+1)=False:=eq_false (by omega)
   have b3:(k=st.nx+2)=False:=eq_false (by omega)
   simp [b1,b2,b3])
  have hr24:zak 24 (C.length+1)=true:=by simp [zak]; omega
  have hr24':zak 24 (D.length+1)=true:=by simp [zak]; omega
  have s1:=ztg C cuts
  have s2:=ztg D bins
  obtain ⟨p8,hp8⟩ : ∃ p8,p8=st.nx+1:=⟨_,rfl⟩
  rw [← hp8] at w8 hT8
  have hp8q:p8<q':=by omega
  have hp82:2<p8:=by omega
  have hL':LG s'.S p8 C D x y:=by
   rcases hx with hx | ⟨o,e,o',e',k1,k2,k3,k4,k5,k6,k7,k8,k9⟩
   ·exact .inl hx
   ·rcases hL with ⟨l1,_⟩ | ⟨o2,e2,o2',e2',l1,l2,l3,l4,l5,l6,l7,l8,l9⟩
    ·rw [k1] at l1; cases l1
    ·rw [k1] at l1; cases l1
     rw [k2] at l2; cases l2
     exact .inr ⟨o,e,o',e',k1,k2,k3,by omega,k5,by omega,k7,l8,l9⟩
  clear hL hx hfr hV hp8 hS0 hS1 hS2 v1 v2 v4 v5 v6 z1 z2 z3 h1 h2
  have a1:=fr hqx
  have a2:=fr hp8q
  have a3:=fr (show p8<s'.nx by omega)
  have a4:=fr hp82
  have a5:=fr (show 2<q' by omega)
  have a6:=fr (show 2<s'.nx by omega)
  have b1:=fr (show 1<p8 by omega)
  have b2:=fr (show 1<q' by omega)
  have b3:=fr (show 1<s'.nx by omega)
  have b4:=fr (show 0<p8 by omega)
  have b5:=fr (show 0<q' by omega)
  have b6:=fr (show 0<s'.nx by omega)
  have nn1 : ¬ s'.nx=1:=by omega
  have nn2 : ¬ s'.nx+1=q':=by omega
  have na : ∀ a b:Nat,s'.nx+a+b=s'.nx+(a+b):=fun a b=>Nat.add_assoc _ _ _
  have hC8' : ∀ l∈C++[cuts],l.length≤8:=fun l hl=>by
   rcases List.mem_append.mp hl with hl | hl
   ·exact hC8 l hl
   ·simp at hl; subst hl; omega
  have hD8' : ∀ l∈D++[bins],l.length=t.rw.length∧∀ x∈l,0≤x∧x≤8:=fun l hl=>by
   rcases List.mem_append.mp hl with hl | hl
   ·exact hD8 l hl
   ·simp at hl; subst hl; exact ⟨by omega,hbb⟩
  rcases hL' with ⟨rfl,rfl,hC0,hD0⟩ | ⟨o,e,o',e',rfl,rfl,ho,hox,ho',hox',hoo,hSo,hSo'⟩
  ·subst hC0 hD0
   simp [-getElem?_pos,w1,w2,w4,w5,w6,w8,w9,hT0,hT1,hT2,hT8,hSq,hw,hr1,na,a1,a2,a3,a4,a5,a6,b1,b2,b3,b4,b5,b6]
   exact zan (n-1) (by omega) ⟨i+1,[cuts],[bins],.ref (s'.nx+1) none s'.ep 0 1,.ref (s'.nx+3) none s'.ep 0 1,by omega,by simp at hC; simp; omega,by simp at hC; simp; omega,hC8',hD8',by simp [w1],by simp [w2],by simp [w4],by simp [w5],by simp,by first | (simp; done) | (simp; omega),.inr ⟨s'.nx+1,s'.ep,s'.nx+3,s'.ep,rfl,rfl,by omega,by simp,by omega,by simp,by omega,by simp [nn1,nn2,rws,cel],by simp [rws,cel]⟩,by simp [a1,a2,a3,a4,a5,a6,b1,b2,b3,b4,b5,b6,hT0],by simp [a1,a2,a3,a4,a5,a6,b1,b2,b3,b4,b5,b6,hT1],by simp⟩
  ·have c1:=fr ho
   have c2:=fr hox
   have c3:=fr ho'
   have c4:=fr hox'
   have c5:=fr (show o<q' by omega)
   have c6:=fr (show o'<q' by omega)
   have d1:=fr (show o<s'.nx by omega)
   have d2:=fr (show o'<s'.nx by omega)
   have d3:=fr (show 1<o by omega)
   have d4:=fr (show 1<o' by omega)
   have d5:=fr (show 0<o by omega)
   have d6:=fr (show 0<o' by omega)
   have hoo2 : ¬ o'=o:=fun e=>hoo e.symm
   have nn3 : ¬ s'.nx+1=o':=by omega
   simp [-getElem?_pos,w1,w2,w4,w5,w6,w8,w9,hT0,hT1,hT2,hT8,hSq,hSo,hSo',hoo,hoo2,hw,hr1,hr24,hr24',s1,s2,na,a1,a2,a3,a4,a5,a6,b1,b2,b3,b4,b5,b6,c1,c2,c3,c4,c5,c6,d1,d2,d3,d4,d5,d6]
   exact zan (n-1) (by omega) ⟨i+1,C++[cuts],D++[bins],.ref (s'.nx+1) none s'.ep 0 (C.length+1),.ref (s'.nx+3) none s'.ep 0 (D.length+1),by omega,by simp [hC],by simp [hD],hC8',hD8',by simp [w1],by simp [w2],by simp [w4],by simp [w5],by simp,by first | (simp; done) | (simp; omega),.inr ⟨s'.nx+1,s'.ep,s'.nx+3,s'.ep,by simp,by simp,by omega,by simp,by omega,by simp,by omega,by simp [nn1,nn2,nn3],by simp⟩,by simp [a1,a2,a3,a4,a5,a6,b1,b2,b3,b4,b5,b6,c1,c2,c3,c4,c5,c6,d1,d2,d3,d4,d5,d6,hT0],by simp [a1,a2,a3,a4,a5,a6,b1,b2,b3,b4,b5,b6,c1,c2,c3,c4,c5,c6,d1,d2,d3,d4,d5,d6,hT1],by simp⟩
 ·have hin:i=t.ns.length:=by omega
  rcases hx with ⟨rfl,rfl,hC0,hD0⟩ | ⟨o,e,o',e',rfl,rfl,ho,hox,ho',hox',hoo,hSo,hSo'⟩
  ·subst hC0
   simp at hC; omega
  ·have c1:=fr ho
   have c3:=fr ho'
   have d3:=fr (show 1<o by omega)
   have d4:=fr (show 1<o' by omega)
   have d5:=fr (show 0<o by omega)
   have d6:=fr (show 0<o' by omega)
   have hoo2 : ¬ o'=o:=fun e=>hoo e.symm
   simp [-getElem?_pos,z1p,v1,v2,v4,v5,v6,hS0,hS1,hS2,h,hSo,hSo',hoo,hoo2,c1,c3,d3,d4,d5,d6]
   exact ⟨C,D,by omega,by omega,hC8,hD8,rfl⟩
def PGr (v:PV):Prop := ∃ c w:List (List Int),v = .agg [.own 1 (rws true c),.own 1 (rws true w)]∧c.length≤8∧w.length≤8∧(∀ l∈c,l.length≤64)∧∀ l∈w,l.length≤64
def PGs (v:PV):Prop := ∃ c w:List (List Int),v = .agg [.own 1 (rws true c),.own 1 (rws true w)]∧1≤c.length∧c.length≤4∧w.length=c.length∧(∀ l∈c,l.length≤8)∧∃ m:Nat,1≤m∧m≤40∧∀ l∈w,l.length=m∧∀ x∈l,0≤x∧x≤8
theorem yah (B:List Int) (p:Nat) (s:Int) (hp:p≤B.length) (hB:B.length≤9223372036854775807) : ∃ r,RUN T zlo [.bx [.sl 1 (zbe B),iv p,iv s]]=some r∧zfl B PGs r:=by
 refine zd3 z6o rfl ?_
 obtain ⟨r1,h1,v1,p1,s1,⟨t,rfl,ht,hok⟩,hp1,rfl⟩:=yrs B p s hp hB
 obtain ⟨r2,h2,v2,p2,s2,⟨a2,rfl,a20,a21⟩,hp2,rfl⟩:=zbn B p1 s1 hp1 hB 5 (by omega)
 have a22:=a21 (by omega)
 have w1:=w64 (x:=2+a2) (by omega) (by omega)
 obtain ⟨r3,h3,c,w,hc,hw,hc8,hw8,rfl⟩:=yrt true t (2+a2) ⟨Nat.le_trans ht.ns (by omega),fun x hx=>Nat.le_trans (ht.ss x hx) (by omega),Nat.le_trans ht.nm (by omega),Nat.le_trans ht.rw (by omega),fun x hx=>Nat.le_trans (ht.rr x hx) (by omega),Nat.le_trans ht.lb (by omega)⟩ hok (by omega)
 obtain ⟨t1,t2,t3,t4,t5,t6⟩:=ybs hok
 simp only [taO,taS] at h1 h3
 simp [-getElem?_pos,zwc,zwd,h1,h2,h3,w1]
 exact ⟨_,p2,s2,⟨c,w,rfl,by omega,by omega,by omega,hc8,t.rw.length,t3,t4,hw8⟩,hp2,rfl⟩
theorem yru (B:List Int) (p:Nat) (s:Int) (hp:p≤B.length) (hB:B.length≤9223372036854775807) (k:Nat) (hk:k≤64) : ∃ r,RUN T zos [.bx [.sl 1 (zbe B),iv p,iv s],iv k]=some r∧zfl B (PRw k) r:=by
 refine zd3 z6q rfl ?_
 have hr0:zak 8 0=true:=by decide
 have hr1:zak 8 1=true:=by decide
 obtain ⟨r1,h1,v1',p1,s1,⟨far,rfl⟩,hp1,rfl⟩:=zev B p s hp hB 20 (by omega)
 simp [-getElem?_pos,zwf,zwg,hr0,h1]
 refine za0 (fun n st => ∃ (i p o e:Nat) (s:Int) (m:List Int),i+n=k∧m.length=i∧(∀ n∈m,inI n)∧p≤B.length∧st.V 0 = .ptr 0 none 0 0 0∧st.V 1=iv k∧st.V 5 = .ref o none e 0 m.length∧st.V 6=bv far∧st.V 7=iv i∧0<o∧o<st.nx∧st.S 0=some (.box [.sl 1 (zbe B),iv p,iv s])∧st.S o=some (.row 1 (zac m))) ?_ k _ ⟨0,p1,1,0,s1,[],by omega,by simp,by simp,hp1,by simp,by simp,by simp,by simp,by simp,by omega,by simp,by simp,by simp [zac]⟩
 clear hp hp1 h1
 rintro n st ⟨i,p,o,e,s,m,hi,hm,hmi,hp,v0,v1,v5,v6,v7,ho,hox,hS,hSo⟩
 obtain ⟨f1,f2,f3,f4⟩:=fr hox
 obtain ⟨g1,g2,g3,g4⟩:=fr ho
 obtain ⟨z1,z2,z3,z4⟩:=fr (show 0<st.nx by omega)
 have ho1:1≤o:=by omega
 by_cases h:i<k
 ·have hw:=wS h (by omega:k≤9223372036854775807)
  have hr8:=zc3 (n:=m.length+1) (by omega)
  cases far with
  | true =>
   obtain ⟨r2,h2,v2,p2,s2,⟨x,rfl,hx⟩,hp2,rfl⟩:=yp7 B p s hp hB
   have hsn:=zcv m x
   simp [-getElem?_pos,zwe,v0,v1,v5,v6,v7,hS,hSo,h,h2,hr1,hr8,hw,hsn,f1,f2,f3,f4,g1,g2,g3,g4,z1,z2,z3,z4]
   refine zan (n-1) (by omega) ⟨i+1,p2,st.nx+1,st.ep,s2,m++[x],by omega,by simp [hm],?_,hp2,by simp [v0],by simp [v1],by simp,by simp [v6],by simp,by omega,by simp,by simp [f1,f2,f3,f4,g1,g2,g3,g4,z1,z2,z3,z4],by simp⟩
   intro y hy
   rcases List.mem_append.mp hy with hy | hy
   ·exact hmi y hy
   ·simp at hy; subst hy; exact hx
  | false =>
   obtain ⟨r2,h2,v2,p2,s2,⟨x,rfl,x0,x1⟩,hp2,rfl⟩:=zbn B p s hp hB 41 (by omega)
   obtain ⟨r3,h3,v3,p3,s3,⟨y,rfl,y0,y1⟩,hp3,rfl⟩:=zbn B p2 s2 hp2 hB 3 (by omega)
   have x2:=x1 (by omega)
   have y2:=y1 (by omega)
   have w1:=w64 (x:=x-20) (by omega) (by omega)
   have w2:=w64 (x:=100*(x-20)) (by omega) (by omega)
   have w3:=w64 (x:=100*(x-20)+y) (by omega) (by omega)
   have hsn:=zcv m (100*(x-20)+y)
   simp [-getElem?_pos,zwe,v0,v1,v5,v6,v7,hS,hSo,h,h2,h3,w1,w2,w3,hr1,hr8,hw,hsn,f1,f2,f3,f4,g1,g2,g3,g4,z1,z2,z3,z4]
   refine zan (n-1) (by omega) ⟨i+1,p3,st.nx+1,st.ep,s3,m++[100*(x-20)+y],by omega,by simp [hm],?_,hp3,by simp [v0],by simp [v1],by simp,by simp [v6],by simp,by omega,by simp,by simp [f1,f2,f3,f4,g1,g2,g3,g4,z1,z2,z3,z4],by simp⟩
   intro z hz
   rcases List.mem_append.mp hz with hz | hz
   ·exact hmi z hz
   ·simp at hz; subst hz; unfold inI; omega
 ·simp [-getElem?_pos,zwe,v0,v1,v5,v6,v7,hS,hSo,h,ho1,f1,f2,f3,f4,g1,g2,g3,g4]
  exact ⟨_,p,s,⟨m,rfl,by omega,hmi⟩,hp,rfl⟩
theorem zt7 {α:Type} {P:α→Prop} {c:List α} {f:Nat} {x:α} (h : ∀ l∈c,P l) (hx:P x) : ∀ l∈c.set f x,P l:=fun l hl=>by
 rcases List.mem_or_eq_of_mem_set hl with hl | hl
 ·exact h l hl
 ·subst hl; exact hx
theorem ztt {α:Type} {P:α→Prop} {c:List α} {x:α} (h : ∀ l∈c,P l) (hx:P x) : ∀ l∈c++[x],P l:=fun l hl=>by
 rcases List.mem_append.mp hl with hl | hl
 ·exact h l hl
 ·simp at hl; subst hl; exact hx
set_option maxHeartbeats 4000000 in
theorem yrv (B:List Int) (p:Nat) (s:Int) (hp:p≤B.length) (hB:B.length≤9223372036854775807) : ∃ r,RUN T zou [.bx [.sl 1 (zbe B),iv p,iv s]]=some r∧zfl B PGr r:=by
 refine zd3 z6u rfl ?_
 obtain ⟨r1,h1,v1,p1,s1,⟨c,w,rfl,hc1,hc4,hwc,hc8,m,hm1,hm40,hwm⟩,hp1,rfl⟩:=yah B p s hp hB
 obtain ⟨r2,h2,v2,p2,s2,⟨a2,rfl,a20,a21⟩,hp2,rfl⟩:=zbn B p1 s1 hp1 hB c.length (by omega)
 have a22:=a21 (by omega)
 obtain ⟨f,rfl⟩ : ∃ f:Nat,a2=f:=⟨a2.toNat,by omega⟩
 obtain ⟨r3,h3,v3,p3,s3,⟨d,rfl,d0,d1⟩,hp3,rfl⟩:=zbn B p2 s2 hp2 hB 14 (by omega)
 have hf:f<c.length:=by omega
 have hfw:f<w.length:=by omega
 obtain ⟨l,hl⟩ : ∃ l,c[f]?=some l:=⟨_,List.getElem?_eq_getElem hf⟩
 obtain ⟨u,hu⟩ : ∃ u,w[f]?=some u:=⟨_,List.getElem?_eq_getElem hfw⟩
 have hl8:=hc8 l (List.mem_of_getElem? hl)
 obtain ⟨hum,hub⟩:=hwm u (List.mem_of_getElem? hu)
 have hl':=zem (q:=true) hl
 have hu':=zem (q:=true) hu
 simp only [cel,if_true] at hl' hu'
 have cA : ∀ l∈c,l.length≤64:=fun l hl=>by have:=hc8 l hl; omega
 have wA : ∀ l∈w,l.length≤64:=fun l hl=>by have:=(hwm l hl).1; omega
 have hr1:zak 8 1=true:=by decide
 have hr0:zak 8 0=true:=by decide
 have hr5:zak 8 5=true:=by decide
 have hr24:zak 24 1=true:=by decide
 have hr240:zak 24 0=true:=by decide
 have hrl:=zc3 (n:=l.length+1) (by omega)
 have hru:=zc3 (n:=u.length+1) (by omega)
 have hrc:zak 24 (c.length+1)=true:=by simp [zak]; omega
 have hrw:zak 24 (w.length+1)=true:=by simp [zak]; omega
 by_cases e0:d=0
 ·subst e0
  obtain ⟨r4,h4,v4,p4,s4,⟨x,rfl,hx⟩,hp4,rfl⟩:=z2e B p3 s3 hp3 hB
  have hsn:=zcv l x
  have hset:=z1a c f (l++[x])
  simp [-getElem?_pos,zhd,zhe,zbv,zcl,h1,h2,h3,h4,hf,hl',hr1,hrl,hsn,hset]
  exact ⟨_,p4,s4,⟨c.set f (l++[x]),w,rfl,by simp; omega,by omega,zt7 cA (by simp; omega),wA⟩,hp4,rfl⟩
 by_cases e1:d=1
 ·subst e1
  obtain ⟨r4,h4,v4,p4,s4,⟨x,rfl,hx⟩,hp4,rfl⟩:=zgl B p3 s3 hp3 hB [0,1,-1,8,9223372036854775807] (by simp)
  simp only [zac,List.map] at h4
  obtain ⟨y,hy⟩ : ∃ y,u[0]?=some y:=⟨_,List.getElem?_eq_getElem (by omega)⟩
  have hy':=zba hy
  have hu0:0<u.length:=by omega
  have hset0:=yfq u 0 x
  have hset:=z1a w f (u.set 0 x)
  simp [-getElem?_pos,zhd,zhe,zbv,zcl,h1,h2,h3,h4,hf,hfw,hu',hy',hu0,hr5,hset0,hset]
  exact ⟨_,p4,s4,⟨c,w.set f (u.set 0 x),rfl,by omega,by simp; omega,cA,zt7 wA (by simp; omega)⟩,hp4,rfl⟩
 by_cases e2:d=2
 ·subst e2
  have hsn:=zcv u 0
  have hset:=z1a w f (u++[0])
  simp [-getElem?_pos,zhd,zhe,zbv,zcl,h1,h2,h3,hf,hfw,hu',hr1,hru,hsn]
  exact ⟨_,p3,s3,⟨c,w.set f (u++[0]),by rw [← hset],by omega,by simp; omega,cA,zt7 wA (by simp; omega)⟩,hp3,rfl⟩
 by_cases e3:d=3
 ·subst e3
  have hsn:=ztg w [0]
  simp only [zac,List.map] at hsn
  simp [-getElem?_pos,zhd,zhe,h1,h2,h3,hr1,hr24,hrw,hsn]
  exact ⟨_,p3,s3,⟨c,w++[[0]],rfl,by omega,by simp; omega,cA,ztt wA (by simp)⟩,hp3,rfl⟩
 by_cases e4:d=4
 ·subst e4
  have hsn:=ztg c []
  simp only [zac,List.map] at hsn
  simp [-getElem?_pos,zhd,zhe,h1,h2,h3,hr0,hr24,hrc,hsn]
  exact ⟨_,p3,s3,⟨c++[[]],w,rfl,by simp; omega,by omega,ztt cA (by simp),wA⟩,hp3,rfl⟩
 by_cases e5:d=5
 ·subst e5
  simp [-getElem?_pos,zhd,zhe,h1,h2,h3,hr240]
  exact ⟨_,p3,s3,⟨c,[],rfl,by omega,by simp,cA,by simp⟩,hp3,rfl⟩
 by_cases e6:d=6
 ·subst e6
  have w1:=w64 (x:=(l.length:Int)+1) (by omega) (by omega)
  obtain ⟨r4,h4,v4,p4,s4,⟨x,rfl,x0,x1⟩,hp4,rfl⟩:=zbn B p3 s3 hp3 hB ((l.length:Int)+1) (by omega)
  have x2:=x1 (by omega)
  obtain ⟨k,rfl⟩ : ∃ k:Nat,x=k:=⟨x.toNat,by omega⟩
  have hkl:k≤l.length:=by omega
  have hcut:(if k=l.length then zac l else List.take k (zac l))=zac (l.take k):=by
   split
   ·rename_i e; rw [e,List.take_length]
   ·simp [zac,List.map_take]
  have hset:=z1a c f (l.take k)
  simp [-getElem?_pos,zhd,zhe,zbv,zcl,h1,h2,h3,h4,hf,hl',w1,hkl,hcut,hset]
  exact ⟨_,p4,s4,⟨c.set f (l.take k),w,rfl,by simp; omega,by omega,zt7 cA (by simp; omega),wA⟩,hp4,rfl⟩
 ·simp [-getElem?_pos,zhd,zhe,h1,h2,h3,e0,e1,e2,e3,e4,e5,e6]
  exact ⟨_,p3,s3,⟨c,w,rfl,by omega,by omega,cA,wA⟩,hp3,rfl⟩
theorem znf {m:Nat→List Bool} {R:zai} {a b:IC} {st:St} {Q:Ex→St→Prop} (P:St→Prop) (h1:W m R a st (Nx P Q ⟨⟩ ⟨⟩)) (h2 : ∀ s,P s→W m R b s Q):W m R (.seq a b) st Q:=by
 rw [zra]
 refine h1.mono fun e s h => ?_
 cases e with
 | normal =>
  simp only [yct] at h ⊢
  exact h2 s h
 | exit i =>
  simp only [yx9] at h ⊢
  exact h
 | ret =>
  simp only [yxm] at h ⊢
  exact h
theorem zte {m:Nat→List Bool} {R:zai} {a b c:IC} {st:St} {Q:Ex→St→Prop} (h:W m R (.seq (.seq a b) c) st Q):W m R (.seq a (.seq b c)) st Q:=by
 rw [zra,zra] at h
 rw [zra]
 refine h.mono fun e s h => ?_
 cases e with
 | normal =>
  simp only [yct] at h ⊢
  rw [zra]; exact h
 | exit i=>simpa using h
 | ret=>simpa using h
def A0 (B:List Int) (c v:List (List Int)) (m M:Nat) (s:St):Prop := ∃ (p o e:Nat) (sd:Int) (gs:List Int),p≤B.length∧m≤gs.length∧gs.length≤M∧(∀ x∈gs,inI x)∧s.V 2 = .v (.pointer none)∧s.V 3 = .ptr 0 none 0 0 0∧s.V 5 = .ptr 1 none 0 0 0∧s.V 6 = .ptr 2 none 0 0 0∧s.V 7 = .ptr 5 none 0 0 0∧s.V 8=iv m∧s.V 9 = .ref o none e 0 gs.length∧5<o∧o<s.nx∧s.S 0=some (.box [.e0,.e0])∧s.S 1=some (.box [iv 0,iv 0,iv 0,iv 0,iv 0,iv 0,iv 0,.e0])∧s.S 2=some (.box [.sl 1 (zbe B),iv p,iv sd])∧s.S o=some (.row 1 (zac gs))∧s.S 3=some (.row 1 (rws true c))∧s.S 4=some (.row 1 (rws true v))∧s.S 5=some (.box [.ref 3 none 0 0 c.length,.ref 4 none 0 0 v.length])
def A1 (B:List Int) (c v:List (List Int)) (m:Nat) (s:St):Prop := ∃ (p o e:Nat) (sd:Int) (gs:List Int) (q w ew eq:Nat) (k:Cfg),p≤B.length∧gs.length≤m+1∧(∀ x∈gs,inI x)∧k.sg.length≤64∧s.V 2 = .v (.pointer none)∧s.V 3 = .ptr 0 none 0 0 0∧s.V 5 = .ptr 1 none 0 0 0∧s.V 6 = .ptr 2 none 0 0 0∧s.V 7 = .ptr 5 none 0 0 0∧s.V 8=iv m∧s.V 9 = .ref o none e 0 gs.length∧5<o∧o<s.nx∧s.S 0=some (.box [.e0,.e0])∧s.S 1=some (.box [iv 0,iv 0,iv 0,iv 0,iv 0,iv 0,iv 0,.e0])∧s.S 2=some (.box [.sl 1 (zbe B),iv p,iv sd])∧s.S o=some (.row 1 (zac gs))∧s.S 3=some (.row 1 (rws true c))∧s.S 4=some (.row 1 (rws true v))∧s.S 5=some (.box [.ref 3 none 0 0 c.length,.ref 4 none 0 0 v.length])∧s.V 12 = .ptr w none ew 0 0∧o<q∧o<w∧q<s.nx∧w<s.nx∧¬ q=w∧s.S w=some (.box [iv k.ro,iv k.de,iv k.bi,iv k.la,iv k.rw,iv k.nu,iv k.dn,.ref q none eq 0 k.sg.length])∧s.S q=some (.row 1 (zac k.sg))
def A2 (B:List Int) (m:Nat) (s:St):Prop := ∃ (p o e:Nat) (sd:Int) (gs:List Int) (q w ew eq:Nat) (k:Cfg) (c v:List (List Int)) (a b ea eb:Nat),p≤B.length∧gs.length≤m+1∧(∀ x∈gs,inI x)∧k.sg.length≤64∧(c.length≤8∧v.length≤8∧(∀ l∈c,l.length≤64)∧∀ l∈v,l.length≤64)∧s.V 2 = .v (.pointer none)∧s.V 3 = .ptr 0 none 0 0 0∧s.V 5 = .ptr 1 none 0 0 0∧s.V 6 = .ptr 2 none 0 0 0∧s.V 7 = .ptr 5 none 0 0 0∧s.V 8=iv m∧s.V 9 = .ref o none e 0 gs.length∧5<o∧o<s.nx∧s.S 0=some (.box [.e0,.e0])∧s.S 1=some (.box [iv 0,iv 0,iv 0,iv 0,iv 0,iv 0,iv 0,.e0])∧s.S 2=some (.box [.sl 1 (zbe B),iv p,iv sd])∧s.S o=some (.row 1 (zac gs))∧s.V 12 = .ptr w none ew 0 0∧o<q∧o<w∧q<s.nx∧w<s.nx∧¬ q=w∧s.S w=some (.box [iv k.ro,iv k.de,iv k.bi,iv k.la,iv k.rw,iv k.nu,iv k.dn,.ref q none eq 0 k.sg.length])∧s.S q=some (.row 1 (zac k.sg))∧s.S a=some (.row 1 (rws true c))∧s.S b=some (.row 1 (rws true v))∧s.S 5=some (.box [.ref a none ea 0 c.length,.ref b none eb 0 v.length])∧¬ a=b∧a<s.nx∧b<s.nx∧2<a∧2<b∧¬ a=5∧¬ b=5∧¬ a=o∧¬ b=o∧¬ a=q∧¬ b=q∧¬ a=w∧¬ b=w
def yw4 (B:List Int) (r:List PV×List PV):Prop := ∃ (p:Nat) (sd:Int) (c v:List (List Int)) (g:List Int) (k:Cfg),p≤B.length∧(c.length≤8∧v.length≤8∧(∀ l∈c,l.length≤64)∧∀ l∈v,l.length≤64)∧g.length≤64∧(∀ x∈g,inI x)∧k.sg.length≤64∧r=([.bx [.sl 1 (zbe B),iv p,iv sd],.agg [.own 1 (rws true c),.own 1 (rws true v)],.own 1 (zac g),zjv k],[])
set_option maxHeartbeats 8000000 in
theorem yrw (B:List Int) (hB:B.length≤9223372036854775807) : ∃ r,RUN T zoa [.sl 1 (zbe B)]=some r∧yw4 B r:=by
 refine zd3 z5p rfl ?_
 obtain ⟨r0,h0,s0,rfl⟩:=yp8 B hB
 simp only [Int.natCast_zero] at h0
 obtain ⟨r1,h1,w1,p1,s1,⟨c,v,rfl,hc1,hc4,hvc,hc8,m,hm1,hm40,hvm⟩,hp1,rfl⟩:=yah B 0 s0 (by omega) hB
 simp only [Int.natCast_zero] at h1
 have h2:=z1x true c v
 have hrow:zc7 v=m:=by
  cases v with
  | nil=>simp at hvc; omega
  | cons l v=>have:=(hvm l (by simp)).1; simp [zc7]; omega
 rw [hrow] at h2
 obtain ⟨u,hu⟩ : ∃ u,v[0]?=some u:=⟨_,List.getElem?_eq_getElem (by omega)⟩
 obtain ⟨hum,hub⟩:=hvm u (List.mem_of_getElem? hu)
 have hu':=zem (q:=true) hu
 simp only [cel,if_true] at hu'
 have hv0:0<v.length:=by omega
 have hcA : ∀ l∈c,l.length≤64:=fun l hl=>by have:=hc8 l hl; omega
 have hvA : ∀ l∈v,l.length≤64:=fun l hl=>by have:=(hvm l hl).1; omega
 have hr0:zak 8 0=true:=by decide
 have hr1:zak 8 1=true:=by decide
 have hr3:zak 8 3=true:=by decide
 have hr4:zak 8 4=true:=by decide
 clear hrow
 unfold zuy
 refine zte (zte (zte (zte (zte ?_))))
 refine znf (A0 B c v m m) ?_ ?_
 ·simp [-getElem?_pos,hr0,h0,h1,h2]
  refine za0 (fun n s => ∃ (i p o e:Nat) (sd:Int) (gs:List Int),i+n=m∧gs.length=i∧(∀ x∈gs,inI x)∧p≤B.length∧s.V 10=iv i∧s.V 2 = .v (.pointer none)∧s.V 3 = .ptr 0 none 0 0 0∧s.V 5 = .ptr 1 none 0 0 0∧s.V 6 = .ptr 2 none 0 0 0∧s.V 7 = .ptr 5 none 0 0 0∧s.V 8=iv m∧s.V 9 = .ref o none e 0 gs.length∧5<o∧o<s.nx∧s.S 0=some (.box [.e0,.e0])∧s.S 1=some (.box [iv 0,iv 0,iv 0,iv 0,iv 0,iv 0,iv 0,.e0])∧s.S 2=some (.box [.sl 1 (zbe B),iv p,iv sd])∧s.S o=some (.row 1 (zac gs))∧s.S 3=some (.row 1 (rws true c))∧s.S 4=some (.row 1 (rws true v))∧s.S 5=some (.box [.ref 3 none 0 0 c.length,.ref 4 none 0 0 v.length])) ?_ m _ ⟨0,p1,6,0,s1,[],by omega,rfl,by simp,hp1,by simp,by simp,by simp,by simp,by simp,by simp,by simp,by simp,by omega,by simp,by simp,by simp,by simp,by simp [zac],by simp,by simp,by simp⟩
  clear h0 h1 h2 hp1
  rintro n s ⟨i,p,o,e,sd,gs,hi,hgl,hgi,hp,v10,v2,v3,v5,v6,v7,v8,v9,ho,hox,hS0,hS1,hS2,hSo,hS3,hS4,hS5⟩
  have fa:=fr hox
  have fb:=fr ho
  have fc:=fr (by omega:0<o)
  have fd:=fr (by omega:1<o)
  have fe:=fr (by omega:2<o)
  have ff:=fr (by omega:3<o)
  have fg:=fr (by omega:4<o)
  have fy0:=fr (by omega:0<s.nx)
  have fy1:=fr (by omega:1<s.nx)
  have fy2:=fr (by omega:2<s.nx)
  have fy3:=fr (by omega:3<s.nx)
  have fy4:=fr (by omega:4<s.nx)
  have fy5:=fr (by omega:5<s.nx)
  by_cases h:i<m
  ·have hw:=wS h (by omega:m≤9223372036854775807)
   have hr8:=zc3 (n:=gs.length+1) (by omega)
   obtain ⟨r2,h2,w2,p2,s2,⟨x,rfl,x0,x1⟩,hp2,rfl⟩:=zbn B p sd hp hB 41 (by omega)
   obtain ⟨r3,h3,w3,p3,s3,⟨y,rfl,y0',y1'⟩,hp3,rfl⟩:=zbn B p2 s2 hp2 hB 3 (by omega)
   obtain ⟨r4,h4,w4,p4,s4,⟨b4,rfl⟩,hp4,rfl⟩:=zev B p3 s3 hp3 hB 4 (by omega)
   have x2':=x1 (by omega)
   have y2':=y1' (by omega)
   have k1:=w64 (x:=x-20) (by omega) (by omega)
   have k2:=w64 (x:=100*(x-20)) (by omega) (by omega)
   have k3:=w64 (x:=100*(x-20)+y) (by omega) (by omega)
   have hiu:i<u.length:=by omega
   have hiu2:(i:Int)<u.length:=by omega
   cases b4 with
   | true =>
    have hsn:=zcv gs (100*(x-20)+y)
    have hin : ∀ z∈gs++[100*(x-20)+y],inI z:=ztt hgi (by unfold inI; omega)
    simp [-getElem?_pos,zux,zbv,v10,v2,v3,v5,v6,v7,v8,v9,hS0,hS1,hS2,hSo,hS3,hS4,hS5,h,hu',hv0,hiu,hiu2,h2,h3,h4,k1,k2,k3,hw,hr1,hr8,hsn,fa,fb,fc,fd,fe,ff,fg,fy0,fy1,fy2,fy3,fy4,fy5]
    refine zan (n-1) (by omega) ⟨i+1,p4,s.nx+1,s.ep,s4,_,by omega,by simp [hgl],hin,hp4,by simp,?_,?_,?_,?_,?_,?_,by simp,by omega,by simp,?_,?_,?_,by simp,?_,?_,?_⟩ <;> simp [v2,v3,v5,v6,v7,v8,v9,hS0,hS1,hS2,hSo,hS3,hS4,hS5,fa,fb,fc,fd,fe,ff,fg,fy0,fy1,fy2,fy3,fy4,fy5]
   | false =>
    obtain ⟨r5,h5,w5,p5,s5,⟨z,rfl,z0,z1⟩,hp5,rfl⟩:=zbn B p4 s4 hp4 hB 4 (by omega)
    have z2:=z1 (by omega)
    obtain ⟨t,ht⟩ : ∃ t,u[i]?=some t:=⟨_,List.getElem?_eq_getElem hiu⟩
    have ht':=zba ht
    have htb:=hub t (List.mem_of_getElem? ht)
    have k4:=w64 (x:=300*t) (by omega) (by omega)
    have k5:=w64 (x:=300*t-400) (by omega) (by omega)
    have k6:=w64 (x:=50*z) (by omega) (by omega)
    have k7:=w64 (x:=300*t-400+50*z) (by omega) (by omega)
    have hsn:=zcv gs (300*t-400+50*z)
    have hin : ∀ z'∈gs++[300*t-400+50*z],inI z':=ztt hgi (by unfold inI; omega)
    simp [-getElem?_pos,zux,zbv,v10,v2,v3,v5,v6,v7,v8,v9,hS0,hS1,hS2,hSo,hS3,hS4,hS5,h,hu',hv0,hiu,hiu2,ht',h2,h3,h4,h5,k1,k2,k3,k4,k5,k6,k7,hw,hr1,hr8,hsn,fa,fb,fc,fd,fe,ff,fg,fy0,fy1,fy2,fy3,fy4,fy5]
    refine zan (n-1) (by omega) ⟨i+1,p5,s.nx+1,s.ep,s5,_,by omega,by simp [hgl],hin,hp5,by simp,?_,?_,?_,?_,?_,?_,by simp,by omega,by simp,?_,?_,?_,by simp,?_,?_,?_⟩ <;> simp [v2,v3,v5,v6,v7,v8,v9,hS0,hS1,hS2,hSo,hS3,hS4,hS5,fa,fb,fc,fd,fe,ff,fg,fy0,fy1,fy2,fy3,fy4,fy5]
  ·simp [-getElem?_pos,zux,v10,v8,h]
   refine ⟨p,o,e,sd,gs,hp,by omega,by omega,hgi,?_,?_,?_,?_,?_,?_,?_,ho,by simp [hox],?_,?_,?_,?_,?_,?_,?_⟩ <;> simp [v2,v3,v5,v6,v7,v8,v9,hS0,hS1,hS2,hSo,hS3,hS4,hS5]
 clear h0 h1 h2 hp1 hu hum hub hu' hv0
 intro s hs
 refine znf (A0 B c v m m) ?_ ?_
 ·obtain ⟨p,o,e,sd,gs,hp,hg1,hg2,hgi,v2,v3,v5,v6,v7,v8,v9,ho,hox,hS0,hS1,hS2,hSo,hS3,hS4,hS5⟩:=hs
  have fa:=fr hox
  have fb:=fr ho
  have fc:=fr (by omega:0<o)
  have fd:=fr (by omega:1<o)
  have fe:=fr (by omega:2<o)
  have ff:=fr (by omega:3<o)
  have fg:=fr (by omega:4<o)
  have fy0:=fr (by omega:0<s.nx)
  have fy1:=fr (by omega:1<s.nx)
  have fy2:=fr (by omega:2<s.nx)
  have fy3:=fr (by omega:3<s.nx)
  have fy4:=fr (by omega:4<s.nx)
  have fy5:=fr (by omega:5<s.nx)
  obtain ⟨r1,h1,w1,p1,s1,⟨b,rfl⟩,hp1,rfl⟩:=zev B p sd hp hB 12 (by omega)
  cases b with
  | true =>
   obtain ⟨r2,h2,w2,p2,s2,⟨l,rfl,hl,hlI⟩,hp2,rfl⟩:=yru B p1 s1 hp1 hB m (by omega)
   simp [-getElem?_pos,h1,h2,v2,v3,v5,v6,v7,v8,v9,hS0,hS1,hS2,hSo,hS3,hS4,hS5,fa,fb,fc,fd,fe,ff,fg,fy0,fy1,fy2,fy3,fy4,fy5]
   refine ⟨p2,s.nx,s.ep,s2,l,hp2,(by omega),(by omega),hlI,?_,?_,?_,?_,?_,?_,by simp,by omega,by simp,?_,?_,?_,by simp,?_,?_,?_⟩ <;> simp [v2,v3,v5,v6,v7,v8,v9,hS0,hS1,hS2,hSo,hS3,hS4,hS5,fa,fb,fc,fd,fe,ff,fg,fy0,fy1,fy2,fy3,fy4,fy5]
  | false =>
   simp [-getElem?_pos,h1,v2,v3,v5,v6,v7,v8,v9,hS0,hS1,hS2,hSo,hS3,hS4,hS5,fa,fb,fc,fd,fe,ff,fg,fy0,fy1,fy2,fy3,fy4,fy5]
   refine ⟨p1,o,e,s1,gs,hp1,hg1,hg2,hgi,?_,?_,?_,?_,?_,?_,?_,ho,by simp [hox],?_,?_,?_,?_,?_,?_,?_⟩ <;> simp [v2,v3,v5,v6,v7,v8,v9,hS0,hS1,hS2,hSo,hS3,hS4,hS5,fa,fb,fc,fd,fe,ff,fg,fy0,fy1,fy2,fy3,fy4,fy5]
 clear hs s
 intro s hs
 refine znf (A0 B c v m (m+1)) ?_ ?_
 ·obtain ⟨p,o,e,sd,gs,hp,hg1,hg2,hgi,v2,v3,v5,v6,v7,v8,v9,ho,hox,hS0,hS1,hS2,hSo,hS3,hS4,hS5⟩:=hs
  have fa:=fr hox
  have fb:=fr ho
  have fc:=fr (by omega:0<o)
  have fd:=fr (by omega:1<o)
  have fe:=fr (by omega:2<o)
  have ff:=fr (by omega:3<o)
  have fg:=fr (by omega:4<o)
  have fy0:=fr (by omega:0<s.nx)
  have fy1:=fr (by omega:1<s.nx)
  have fy2:=fr (by omega:2<s.nx)
  have fy3:=fr (by omega:3<s.nx)
  have fy4:=fr (by omega:4<s.nx)
  have fy5:=fr (by omega:5<s.nx)
  obtain ⟨r1,h1,w1,p1,s1,⟨b,rfl⟩,hp1,rfl⟩:=zev B p sd hp hB 20 (by omega)
  cases b with
  | true =>
   obtain ⟨r2,h2,w2,p2,s2,⟨x,rfl,hx⟩,hp2,rfl⟩:=zgl B p1 s1 hp1 hB [0,2199023255552,2199023255553] (by simp)
   simp only [zac,List.map] at h2
   have hr8:=zc3 (n:=gs.length+1) (by omega)
   have hsn:=zcv gs x
   have hin : ∀ z∈gs++[x],inI z:=ztt hgi (by simp at hx; unfold inI; omega)
   simp [-getElem?_pos,h1,h2,hr1,hr3,hr8,hsn,v2,v3,v5,v6,v7,v8,v9,hS0,hS1,hS2,hSo,hS3,hS4,hS5,fa,fb,fc,fd,fe,ff,fg,fy0,fy1,fy2,fy3,fy4,fy5]
   refine ⟨p2,s.nx+2,s.ep,s2,_,hp2,(by simp; omega),(by simp; omega),hin,?_,?_,?_,?_,?_,?_,by simp,by omega,by simp,?_,?_,?_,by simp,?_,?_,?_⟩ <;> simp [v2,v3,v5,v6,v7,v8,v9,hS0,hS1,hS2,hSo,hS3,hS4,hS5,fa,fb,fc,fd,fe,ff,fg,fy0,fy1,fy2,fy3,fy4,fy5]
  | false =>
   simp [-getElem?_pos,h1,v2,v3,v5,v6,v7,v8,v9,hS0,hS1,hS2,hSo,hS3,hS4,hS5,fa,fb,fc,fd,fe,ff,fg,fy0,fy1,fy2,fy3,fy4,fy5]
   refine ⟨p1,o,e,s1,gs,hp1,hg1,(by omega),hgi,?_,?_,?_,?_,?_,?_,?_,ho,by simp [hox],?_,?_,?_,?_,?_,?_,?_⟩ <;> simp [v2,v3,v5,v6,v7,v8,v9,hS0,hS1,hS2,hSo,hS3,hS4,hS5,fa,fb,fc,fd,fe,ff,fg,fy0,fy1,fy2,fy3,fy4,fy5]
 clear hs s
 intro s hs
 refine znf (A0 B c v m (m+1)) ?_ ?_
 ·obtain ⟨p,o,e,sd,gs,hp,hg1,hg2,hgi,v2,v3,v5,v6,v7,v8,v9,ho,hox,hS0,hS1,hS2,hSo,hS3,hS4,hS5⟩:=hs
  have fa:=fr hox
  have fb:=fr ho
  have fc:=fr (by omega:0<o)
  have fd:=fr (by omega:1<o)
  have fe:=fr (by omega:2<o)
  have ff:=fr (by omega:3<o)
  have fg:=fr (by omega:4<o)
  have fy0:=fr (by omega:0<s.nx)
  have fy1:=fr (by omega:1<s.nx)
  have fy2:=fr (by omega:2<s.nx)
  have fy3:=fr (by omega:3<s.nx)
  have fy4:=fr (by omega:4<s.nx)
  have fy5:=fr (by omega:5<s.nx)
  obtain ⟨r1,h1,w1,p1,s1,⟨b,rfl⟩,hp1,rfl⟩:=zev B p sd hp hB 20 (by omega)
  have hm0:0<m:=by omega
  cases b with
  | true =>
   obtain ⟨r2,h2,w2,p2,s2,⟨x,rfl,hx⟩,hp2,rfl⟩:=zgl B p1 s1 hp1 hB [2199023255552,2199023255553,-2199023255552,-2199023255553] (by simp)
   simp only [zac,List.map] at h2
   obtain ⟨y,hy⟩ : ∃ y,gs[0]?=some y:=⟨_,List.getElem?_eq_getElem (by omega)⟩
   have hy':=zba hy
   have hg0:0<gs.length:=by omega
   have hset:=yfq gs 0 x
   have hin : ∀ z∈gs.set 0 x,inI z:=zt7 hgi (by simp at hx; unfold inI; omega)
   simp [-getElem?_pos,h1,h2,hm0,hr4,hy',hg0,hset,v2,v3,v5,v6,v7,v8,v9,hS0,hS1,hS2,hSo,hS3,hS4,hS5,fa,fb,fc,fd,fe,ff,fg,fy0,fy1,fy2,fy3,fy4,fy5]
   refine ⟨p2,o,e,s2,gs.set 0 x,hp2,by simp; omega,by simp; omega,hin,?_,?_,?_,?_,?_,?_,?_,ho,by simp; omega,?_,?_,?_,?_,?_,?_,?_⟩ <;> simp [v2,v3,v5,v6,v7,v8,v9,hS0,hS1,hS2,hSo,hS3,hS4,hS5,fa,fb,fc,fd,fe,ff,fg,fy0,fy1,fy2,fy3,fy4,fy5]
  | false =>
   simp [-getElem?_pos,h1,hm0,v2,v3,v5,v6,v7,v8,v9,hS0,hS1,hS2,hSo,hS3,hS4,hS5,fa,fb,fc,fd,fe,ff,fg,fy0,fy1,fy2,fy3,fy4,fy5]
   refine ⟨p1,o,e,s1,gs,hp1,hg1,hg2,hgi,?_,?_,?_,?_,?_,?_,?_,ho,by simp [hox],?_,?_,?_,?_,?_,?_,?_⟩ <;> simp [v2,v3,v5,v6,v7,v8,v9,hS0,hS1,hS2,hSo,hS3,hS4,hS5,fa,fb,fc,fd,fe,ff,fg,fy0,fy1,fy2,fy3,fy4,fy5]
 clear hs s
 intro s hs
 refine znf (A1 B c v m) ?_ ?_
 ·obtain ⟨p,o,e,sd,gs,hp,hg1,hg2,hgi,v2,v3,v5,v6,v7,v8,v9,ho,hox,hS0,hS1,hS2,hSo,hS3,hS4,hS5⟩:=hs
  have fa:=fr hox
  have fb:=fr ho
  have fc:=fr (by omega:0<o)
  have fd:=fr (by omega:1<o)
  have fe:=fr (by omega:2<o)
  have ff:=fr (by omega:3<o)
  have fg:=fr (by omega:4<o)
  have fy0:=fr (by omega:0<s.nx)
  have fy1:=fr (by omega:1<s.nx)
  have fy2:=fr (by omega:2<s.nx)
  have fy3:=fr (by omega:3<s.nx)
  have fy4:=fr (by omega:4<s.nx)
  have fy5:=fr (by omega:5<s.nx)
  obtain ⟨r1,h1,w1,p1,s1,⟨k,rfl,hk⟩,hp1,rfl⟩:=z9r B p sd hp hB
  simp only [zjv] at h1
  simp [-getElem?_pos,h1,v2,v3,v5,v6,v7,v8,v9,hS0,hS1,hS2,hSo,hS3,hS4,hS5,fa,fb,fc,fd,fe,ff,fg,fy0,fy1,fy2,fy3,fy4,fy5]
  refine ⟨p1,o,e,s1,gs,s.nx,s.nx+1,s.ep,s.ep,k,hp1,hg2,hgi,by omega,?_,?_,?_,?_,?_,?_,?_,ho,by simp; omega,?_,?_,?_,?_,?_,?_,?_,by simp,hox,by omega,by simp,by simp,by omega,by simp,by simp⟩ <;> simp [v2,v3,v5,v6,v7,v8,v9,hS0,hS1,hS2,hSo,hS3,hS4,hS5,fa,fb,fc,fd,fe,ff,fg,fy0,fy1,fy2,fy3,fy4,fy5]
 clear hs s
 intro s hs
 refine znf (A1 B c v m) ?_ ?_
 ·obtain ⟨p,o,e,sd,gs,q,w,ew,eq,k,hp,hg2,hgi,hk,v2,v3,v5,v6,v7,v8,v9,ho,hox,hS0,hS1,hS2,hSo,hS3,hS4,hS5,v12,hoq,how,hqx,hwx,hqw,hSw,hSq⟩:=hs
  have fa:=fr hox
  have fb:=fr ho
  have fc:=fr (by omega:0<o)
  have fd:=fr (by omega:1<o)
  have fe:=fr (by omega:2<o)
  have ff:=fr (by omega:3<o)
  have fg:=fr (by omega:4<o)
  have fy0:=fr (by omega:0<s.nx)
  have fy1:=fr (by omega:1<s.nx)
  have fy2:=fr (by omega:2<s.nx)
  have fy3:=fr (by omega:3<s.nx)
  have fy4:=fr (by omega:4<s.nx)
  have fy5:=fr (by omega:5<s.nx)
  have fu:=fr hoq
  have fv:=fr how
  have fw:=fr hqx
  have fx:=fr hwx
  have ft0:=fr (by omega:0<q)
  have ft1:=fr (by omega:1<q)
  have ft2:=fr (by omega:2<q)
  have ft3:=fr (by omega:3<q)
  have ft4:=fr (by omega:4<q)
  have ft5:=fr (by omega:5<q)
  have fr0:=fr (by omega:0<w)
  have fr1:=fr (by omega:1<w)
  have fr2:=fr (by omega:2<w)
  have fr3:=fr (by omega:3<w)
  have fr4:=fr (by omega:4<w)
  have fr5:=fr (by omega:5<w)
  have hwq : ¬ w=q:=fun h=>hqw h.symm
  obtain ⟨r1,h1,w1,p1,s1,⟨b,rfl⟩,hp1,rfl⟩:=zev B p sd hp hB 20 (by omega)
  cases b with
  | true =>
   obtain ⟨r2,h2,w2,p2,s2,⟨k2,rfl,hk2⟩,hp2,rfl⟩:=yqa B p1 s1 hp1 hB
   simp only [zjv] at h2
   simp [-getElem?_pos,h1,h2,v2,v3,v5,v6,v7,v8,v9,hS0,hS1,hS2,hSo,hS3,hS4,hS5,fa,fb,fc,fd,fe,ff,fg,fy0,fy1,fy2,fy3,fy4,fy5,v12,hqw,hSw,hSq,hwq,fu,fv,fw,fx,ft0,ft1,ft2,ft3,ft4,ft5,fr0,fr1,fr2,fr3,fr4,fr5]
   refine ⟨p2,o,e,s2,gs,s.nx,w,ew,s.ep,k2,hp2,hg2,hgi,hk2,?_,?_,?_,?_,?_,?_,?_,ho,by simp; omega,?_,?_,?_,?_,?_,?_,?_,by simp [v12],hox,how,by simp,by simp; omega,by omega,by simp [fa,fb,fc,fd,fe,ff,fg,fy0,fy1,fy2,fy3,fy4,fy5,fu,fv,fw,fx,ft0,ft1,ft2,ft3,ft4,ft5,fr0,fr1,fr2,fr3,fr4,fr5],by simp [fa,fb,fc,fd,fe,ff,fg,fy0,fy1,fy2,fy3,fy4,fy5,fu,fv,fw,fx,ft0,ft1,ft2,ft3,ft4,ft5,fr0,fr1,fr2,fr3,fr4,fr5]⟩ <;> simp [v2,v3,v5,v6,v7,v8,v9,hS0,hS1,hS2,hSo,hS3,hS4,hS5,fa,fb,fc,fd,fe,ff,fg,fy0,fy1,fy2,fy3,fy4,fy5,v12,hqw,hSw,hSq,hwq,fu,fv,fw,fx,ft0,ft1,ft2,ft3,ft4,ft5,fr0,fr1,fr2,fr3,fr4,fr5]
  | false =>
   simp [-getElem?_pos,h1,v2,v3,v5,v6,v7,v8,v9,hS0,hS1,hS2,hSo,hS3,hS4,hS5,fa,fb,fc,fd,fe,ff,fg,fy0,fy1,fy2,fy3,fy4,fy5,v12,hqw,hSw,hSq,hwq,fu,fv,fw,fx,ft0,ft1,ft2,ft3,ft4,ft5,fr0,fr1,fr2,fr3,fr4,fr5]
   refine ⟨p1,o,e,s1,gs,q,w,ew,eq,k,hp1,hg2,hgi,hk,?_,?_,?_,?_,?_,?_,?_,ho,by simp [hox],?_,?_,?_,?_,?_,?_,?_,by simp [v12],hoq,how,by simp [hqx],by simp [hwx],hqw,?_,?_⟩ <;> simp [v2,v3,v5,v6,v7,v8,v9,hS0,hS1,hS2,hSo,hS3,hS4,hS5,fa,fb,fc,fd,fe,ff,fg,fy0,fy1,fy2,fy3,fy4,fy5,v12,hqw,hSw,hSq,hwq,fu,fv,fw,fx,ft0,ft1,ft2,ft3,ft4,ft5,fr0,fr1,fr2,fr3,fr4,fr5]
 clear hs s
 intro s hs
 refine znf (A2 B m) ?_ ?_
 ·obtain ⟨p,o,e,sd,gs,q,w,ew,eq,k,hp,hg2,hgi,hk,v2,v3,v5,v6,v7,v8,v9,ho,hox,hS0,hS1,hS2,hSo,hS3,hS4,hS5,v12,hoq,how,hqx,hwx,hqw,hSw,hSq⟩:=hs
  have fa:=fr hox
  have fb:=fr ho
  have fc:=fr (by omega:0<o)
  have fd:=fr (by omega:1<o)
  have fe:=fr (by omega:2<o)
  have ff:=fr (by omega:3<o)
  have fg:=fr (by omega:4<o)
  have fy0:=fr (by omega:0<s.nx)
  have fy1:=fr (by omega:1<s.nx)
  have fy2:=fr (by omega:2<s.nx)
  have fy3:=fr (by omega:3<s.nx)
  have fy4:=fr (by omega:4<s.nx)
  have fy5:=fr (by omega:5<s.nx)
  have fu:=fr hoq
  have fv:=fr how
  have fw:=fr hqx
  have fx:=fr hwx
  have ft0:=fr (by omega:0<q)
  have ft1:=fr (by omega:1<q)
  have ft2:=fr (by omega:2<q)
  have ft3:=fr (by omega:3<q)
  have ft4:=fr (by omega:4<q)
  have ft5:=fr (by omega:5<q)
  have fr0:=fr (by omega:0<w)
  have fr1:=fr (by omega:1<w)
  have fr2:=fr (by omega:2<w)
  have fr3:=fr (by omega:3<w)
  have fr4:=fr (by omega:4<w)
  have fr5:=fr (by omega:5<w)
  have hwq : ¬ w=q:=fun h=>hqw h.symm
  obtain ⟨r1,h1,w1,p1,s1,⟨b,rfl⟩,hp1,rfl⟩:=zev B p sd hp hB 20 (by omega)
  cases b with
  | true =>
   obtain ⟨r2,h2,w2,p2,s2,⟨c2,v2',rfl,hgb⟩,hp2,rfl⟩:=yrv B p1 s1 hp1 hB
   simp [-getElem?_pos,h1,h2,v2,v3,v5,v6,v7,v8,v9,hS0,hS1,hS2,hSo,hS3,hS4,hS5,fa,fb,fc,fd,fe,ff,fg,fy0,fy1,fy2,fy3,fy4,fy5,v12,hqw,hSw,hSq,hwq,fu,fv,fw,fx,ft0,ft1,ft2,ft3,ft4,ft5,fr0,fr1,fr2,fr3,fr4,fr5]
   refine ⟨p2,o,e,s2,gs,q,w,ew,eq,k,c2,v2',s.nx,s.nx+1,s.ep,s.ep,hp2,hg2,hgi,hk,hgb,?_,?_,?_,?_,?_,?_,?_,ho,by simp; omega,?_,?_,?_,?_,by simp [v12],hoq,how,by simp; omega,by simp; omega,hqw,?_,?_,by simp [fa,fb,fc,fd,fe,ff,fg,fy0,fy1,fy2,fy3,fy4,fy5,fu,fv,fw,fx,ft0,ft1,ft2,ft3,ft4,ft5,fr0,fr1,fr2,fr3,fr4,fr5],by simp [fa,fb,fc,fd,fe,ff,fg,fy0,fy1,fy2,fy3,fy4,fy5,fu,fv,fw,fx,ft0,ft1,ft2,ft3,ft4,ft5,fr0,fr1,fr2,fr3,fr4,fr5],by simp [fa,fb,fc,fd,fe,ff,fg,fy0,fy1,fy2,fy3,fy4,fy5,fu,fv,fw,fx,ft0,ft1,ft2,ft3,ft4,ft5,fr0,fr1,fr2,fr3,fr4,fr5],by omega,by simp,by simp,by omega,by omega,by omega,by omega,by omega,by omega,by omega,by omega,by omega,by omega⟩ <;> simp [v2,v3,v5,v6,v7,v8,v9,hS0,hS1,hS2,hSo,hS3,hS4,hS5,fa,fb,fc,fd,fe,ff,fg,fy0,fy1,fy2,fy3,fy4,fy5,v12,hqw,hSw,hSq,hwq,fu,fv,fw,fx,ft0,ft1,ft2,ft3,ft4,ft5,fr0,fr1,fr2,fr3,fr4,fr5]
  | false =>
   simp [-getElem?_pos,h1,v2,v3,v5,v6,v7,v8,v9,hS0,hS1,hS2,hSo,hS3,hS4,hS5,fa,fb,fc,fd,fe,ff,fg,fy0,fy1,fy2,fy3,fy4,fy5,v12,hqw,hSw,hSq,hwq,fu,fv,fw,fx,ft0,ft1,ft2,ft3,ft4,ft5,fr0,fr1,fr2,fr3,fr4,fr5]
   refine ⟨p1,o,e,s1,gs,q,w,ew,eq,k,c,v,3,4,0,0,hp1,hg2,hgi,hk,⟨by omega,by omega,hcA,hvA⟩,?_,?_,?_,?_,?_,?_,?_,ho,by simp [hox],?_,?_,?_,?_,by simp [v12],hoq,how,by simp [hqx],by simp [hwx],hqw,?_,?_,?_,?_,?_,by omega,by simp; omega,by simp; omega,by omega,by omega,by omega,by omega,by omega,by omega,by omega,by omega,by omega,by omega⟩ <;> simp [v2,v3,v5,v6,v7,v8,v9,hS0,hS1,hS2,hSo,hS3,hS4,hS5,fa,fb,fc,fd,fe,ff,fg,fy0,fy1,fy2,fy3,fy4,fy5,v12,hqw,hSw,hSq,hwq,fu,fv,fw,fx,ft0,ft1,ft2,ft3,ft4,ft5,fr0,fr1,fr2,fr3,fr4,fr5]
 clear hs s
 intro s hs
 obtain ⟨p,o,e,sd,gs,q,w,ew,eq,k,c,v,a,b,ea,eb,hp,hg2,hgi,hk,hgb,v2,v3,v5,v6,v7,v8,v9,ho,hox,hS0,hS1,hS2,hSo,v12,hoq,how,hqx,hwx,hqw,hSw,hSq,hSa,hSb,hS5,hab,hax,hbx,ha2,hb2,ha5,hb5,hao,hbo,haq,hbq,haw,hbw⟩:=hs
 have fa:=fr hox
 have fb:=fr ho
 have fc:=fr (by omega:0<o)
 have fd:=fr (by omega:1<o)
 have fe:=fr (by omega:2<o)
 have ff:=fr (by omega:3<o)
 have fg:=fr (by omega:4<o)
 have fy0:=fr (by omega:0<s.nx)
 have fy1:=fr (by omega:1<s.nx)
 have fy2:=fr (by omega:2<s.nx)
 have fy3:=fr (by omega:3<s.nx)
 have fy4:=fr (by omega:4<s.nx)
 have fy5:=fr (by omega:5<s.nx)
 have fu:=fr hoq
 have fv:=fr how
 have fw:=fr hqx
 have fx:=fr hwx
 have ft0:=fr (by omega:0<q)
 have ft1:=fr (by omega:1<q)
 have ft2:=fr (by omega:2<q)
 have ft3:=fr (by omega:3<q)
 have ft4:=fr (by omega:4<q)
 have ft5:=fr (by omega:5<q)
 have fr0:=fr (by omega:0<w)
 have fr1:=fr (by omega:1<w)
 have fr2:=fr (by omega:2<w)
 have fr3:=fr (by omega:3<w)
 have fr4:=fr (by omega:4<w)
 have fr5:=fr (by omega:5<w)
 have hwq : ¬ w=q:=fun h=>hqw h.symm
 have hba : ¬ b=a:=fun h=>hab h.symm
 have hoa : ¬ o=a:=fun h=>hao h.symm
 have hob : ¬ o=b:=fun h=>hbo h.symm
 have hqa : ¬ q=a:=fun h=>haq h.symm
 have hqb : ¬ q=b:=fun h=>hbq h.symm
 have hwa : ¬ w=a:=fun h=>haw h.symm
 have hwb : ¬ w=b:=fun h=>hbw h.symm
 have h5a : ¬ 5=a:=fun h=>ha5 h.symm
 have h5b : ¬ 5=b:=fun h=>hb5 h.symm
 have a0:=fr (by omega:0<a)
 have b0:=fr (by omega:0<b)
 have a1:=fr (by omega:1<a)
 have b1:=fr (by omega:1<b)
 have a2:=fr (by omega:2<a)
 have b2:=fr (by omega:2<b)
 simp [-getElem?_pos,zuz,hSa,hSb,hab,ha5,hb5,hao,hbo,haq,hbq,haw,hbw,hba,hoa,hob,hqa,hqb,hwa,hwb,h5a,h5b,a0,a1,a2,b0,b1,b2,v2,v3,v5,v6,v7,v8,v9,hS0,hS1,hS2,hSo,hS5,fa,fb,fc,fd,fe,ff,fg,fy0,fy1,fy2,fy3,fy4,fy5,v12,hqw,hSw,hSq,hwq,fu,fv,fw,fx,ft0,ft1,ft2,ft3,ft4,ft5,fr0,fr1,fr2,fr3,fr4,fr5]
 exact ⟨p,sd,c,v,gs,k,hp,hgb,by omega,hgi,hk,rfl⟩
def zd6:List Sl→Int
 | []=>0
 | x::xs=>x.n+zd6 xs
def zeb:List Sl→Int
 | []=>0
 | x::xs=>x.g+zeb xs
theorem ye3 {a b:Int} (h:(adi a b).2=true):(adi a b).1=a+b:=by
 unfold adi at h ⊢
 split
 ·rfl
 ·rename_i hc; rw [if_neg hc] at h; cases h
theorem yaq {a b:Sl} (h:(za8 a b).2=true):(za8 a b).1.n=a.n+b.n∧(za8 a b).1.g=a.g+b.g:=by
 unfold za8 at h ⊢
 split
 ·rename_i hc
  simp only [Bool.and_eq_true] at hc
  exact ⟨ye3 hc.1,ye3 hc.2⟩
 ·rename_i hc; rw [if_neg hc] at h; cases h
theorem ydi : ∀ (h:List Sl) (s:Sl) (l:List Sl),zbz s h=some l→(l.getLast?.getD s).n=s.n+zd6 h∧(l.getLast?.getD s).g=s.g+zeb h
 | [],s,l,e=>by
  simp only [zbz,Option.some.injEq] at e
  subst e
  simp [zd6,zeb]
 | x::xs,s,l,e=>by
  unfold zbz at e
  split at e
  ·rename_i hp
   obtain ⟨p1,p2⟩:=yaq hp
   simp only [Option.map_eq_some_iff] at e
   obtain ⟨l',h1,rfl⟩:=e
   obtain ⟨q1,q2⟩:=ydi xs _ _ h1
   rw [List.getLast?_cons,Option.getD_some]
   simp only [zd6,zeb]
   omega
  ·cases e
theorem ye9 : ∀ (h:List Sl) (s:Sl) (l:List Sl),zbz s h=some l→∀ (b:Nat) (x:Sl),l[b]?=some x→x.n=s.n+zd6 (h.take (b+1))∧x.g=s.g+zeb (h.take (b+1))
 | [],s,l,e,b,x,hx=>by simp only [zbz,Option.some.injEq] at e; subst e; simp at hx
 | y::ys,s,l,e,b,x,hx=>by
  unfold zbz at e
  split at e
  ·rename_i hp
   obtain ⟨p1,p2⟩:=yaq hp
   simp only [Option.map_eq_some_iff] at e
   obtain ⟨l',h1,rfl⟩:=e
   cases b with
   | zero =>
    simp at hx
    subst hx
    simp [zd6,zeb,p1,p2]
   | succ b =>
    have hx':l'[b]?=some x:=by simpa using hx
    obtain ⟨q1,q2⟩:=ye9 ys _ _ h1 b x hx'
    rw [List.take_succ_cons]
    simp only [zd6,zeb]
    omega
  ·cases e
theorem z3t {f:Int} {all:Sl} {least:Int} {p:Cnd→Prop} {l:List Sl} (hp : ∀ (b:Nat) (x:Sl),l[b]?=some x→(zc6 all x).2=true→p ⟨f,b,x,(zc6 all x).1⟩) : ∀ (k i:Nat) (acc a:List Cnd),i+k=l.length→(∀ x∈acc,p x)→zec f all least i (l.drop i) acc=some a→∀ x∈a,p x
 | 0,i,acc,a,hk,ha,h=>by
  rw [zim acc (by omega)] at h
  cases h
  exact ha
 | k+1,i,acc,a,hk,ha,h=>by
  by_cases hi:i+1<l.length
  ·obtain ⟨x,hx⟩ : ∃ x,l[i]?=some x:=⟨_,List.getElem?_eq_getElem (by omega)⟩
   rw [zrm acc hx hi] at h
   split at h
   ·rename_i hm
    split at h
    ·exact z3t hp k (i+1) _ _ (by omega) (fun y hy=>by
      rcases List.mem_append.mp hy with e | e
      ·exact ha y e
      ·simp only [List.mem_singleton] at e; subst e; exact hp i x hx hm) h
    ·exact z3t hp k (i+1) _ _ (by omega) ha h
   ·cases h
  ·rw [zim acc hi] at h
   cases h
   exact ha
def zz8 (H:List (List Sl)) (x:Cnd):Prop := ∃ (f b:Nat) (h:List Sl),x.f=f∧x.b=b∧H[f]?=some h∧(zbj h).2=true∧(zbj h).1[b]?=some x.a∧(zc6 (zef (zbj h).1) x.a).2=true∧x.z=(zc6 (zef (zbj h).1) x.a).1
theorem yes {least:Int} {H:List (List Sl)} : ∀ (k i:Nat) (acc a:List Cnd),i+k=H.length→(∀ x∈acc,zz8 H x)→zcu least i (H.drop i) acc=some a→∀ x∈a,zz8 H x
 | 0,i,acc,a,hk,ha,h=>by
  rw [List.drop_eq_nil_of_le (by omega),zcu] at h
  cases h
  exact ha
 | k+1,i,acc,a,hk,ha,h=>by
  obtain ⟨l,hx⟩ : ∃ x,H[i]?=some x:=⟨_,List.getElem?_eq_getElem (by omega)⟩
  rw [zre acc hx] at h
  split at h
  ·rename_i hp
   split at h
   ·rename_i a' h'
    have h'':zec i (zef (zbj l).1) least ((0:Nat):Int) ((zbj l).1.drop 0) acc=some a':=by simpa using h'
    exact yes k (i+1) a' a (by omega) (z3t (p:=zz8 H) (fun b x hb hm=>⟨i,b,l,rfl,rfl,hx,hp,hb,hm,rfl⟩) (zbj l).1.length 0 acc a' (by omega) ha h'') h
   ·cases h
  ·cases h
theorem ytq {least:Int} {H:List (List Sl)} : ∀ x∈zdp H least,zz8 H x:=by
 unfold zdp
 cases h:zcu least 0 H [] with
 | none=>simp
 | some a =>
  have h':zcu least ((0:Nat):Int) (H.drop 0) []=some a:=by simpa using h
  exact yes H.length 0 [] a (by omega) (fun x hx=>by cases hx) h'
theorem ya8 {a b:Int} (h:(sbi a b).2=true):(sbi a b).1=a-b:=by
 unfold sbi at h ⊢
 split
 ·rfl
 ·rename_i hc; rw [if_neg hc] at h; cases h
theorem yvb {a b:Sl} (h:(zc6 a b).2=true):(zc6 a b).1.n=a.n-b.n∧(zc6 a b).1.g=a.g-b.g:=by
 unfold zc6 at h ⊢
 split
 ·rename_i hc
  simp only [Bool.and_eq_true] at hc
  exact ⟨ya8 hc.1,ya8 hc.2⟩
 ·rename_i hc; rw [if_neg hc] at h; cases h
theorem yhi {c v:List (List Int)} {g:List Int} {k:Cfg}:(zdb c v g k).2=zd0 c v g k:=by
 unfold zdb
 cases zd0 c v g k <;> rfl
def za1 (s:Sl):Sl:=⟨s.n,-s.g⟩
def zcq (x:Cnd):Cnd:=⟨x.f,x.b,za1 x.a,za1 x.z⟩
def zb7 (g:List Int):List Int:=g.map fun x => -x
def smS (m:Int) (s:Sl):Prop:=0≤s.n∧s.n≤m ∧ -(2199023255552*m)≤s.g∧s.g≤2199023255552*m
theorem z1d {a b:Int} (h1 : -4611686018427387904≤a+b) (h2:a+b≤4611686018427387904):adi a b=(a+b,true):=by unfold adi; rw [if_pos (by omega)]
theorem z0p {a b:Int} (h1 : -4611686018427387904≤a-b) (h2:a-b≤4611686018427387904):sbi a b=(a-b,true):=by unfold sbi; rw [if_pos (by omega)]
theorem z3z {a b:Sl} {m k:Int} (ha:smS m a) (hb:smS k b) (hm:m+k≤1048576):za8 a b=(⟨a.n+b.n,a.g+b.g⟩,true)∧za8 (za1 a) (za1 b)=(za1 ⟨a.n+b.n,a.g+b.g⟩,true)∧smS (m+k) ⟨a.n+b.n,a.g+b.g⟩:=by
 obtain ⟨a1,a2,a3,a4⟩:=ha
 obtain ⟨b1,b2,b3,b4⟩:=hb
 refine ⟨?_,?_,⟨by simp only; omega,by simp only; omega,by simp only; omega,by simp only; omega⟩⟩
 ·unfold za8; rw [z1d (by omega) (by omega),z1d (by omega) (by omega)]; rfl
 ·unfold za8 za1
  simp only
  rw [z1d (by omega) (by omega),z1d (by omega) (by omega)]
  simp; omega
theorem ysl {a b:Sl} {m k:Int} (ha:smS m a) (hb:smS k b) (hm:m+k≤1048576):zc6 a b=(⟨a.n-b.n,a.g-b.g⟩,true)∧zc6 (za1 a) (za1 b)=(za1 ⟨a.n-b.n,a.g-b.g⟩,true):=by
 obtain ⟨a1,a2,a3,a4⟩:=ha
 obtain ⟨b1,b2,b3,b4⟩:=hb
 constructor
 ·unfold zc6; rw [z0p (by omega) (by omega),z0p (by omega) (by omega)]; rfl
 ·unfold zc6 za1
  simp only
  rw [z0p (by omega) (by omega),z0p (by omega) (by omega)]
  simp; omega
theorem z25 {α β:Type} (f:α→β) (l:List α) (i:Int):atI (l.map f) i=(atI l i).map f:=by
 unfold atI; split <;> simp
theorem yto (h:List Sl) (i:Nat) (s:Sl):(h.map za1).set i (za1 s)=(h.set i s).map za1:=by rw [List.map_set]
theorem ygw {b g:List Int} (hg : ∀ x∈g,-2199023255552≤x∧x≤2199023255552) : ∀ (rows:List Int) (h:List Sl) (m:Int),(∀ s∈h,smS m s)→0≤m→m+rows.length≤1048575→zco b (zb7 g) rows (h.map za1)=(zco b g rows h).map (List.map za1)∧∀ h',zco b g rows h=some h'→∀ s∈h',smS (m+rows.length) s
 | [],h,m,hs,h0,hm=>by
  refine ⟨by simp [zco],fun h' e => ?_⟩
  simp only [zco,Option.some.injEq] at e
  subst e
  simpa using hs
 | r::rs,h,m,hs,h0,hm=>by
  simp only [List.length_cons] at hm
  unfold zco
  have e1:atI (zb7 g) r=(atI g r).map fun x => -x:=z25 _ g r
  rw [e1]
  cases hx:atI b r with
  | none=>simp
  | some x =>
   cases hy:atI g r with
   | none=>simp
   | some y =>
    simp only [Option.map_some]
    rw [z25]
    cases hh:atI h x with
    | none=>simp
    | some s =>
     simp only [Option.map_some]
     obtain ⟨_,_,hgm,_⟩:=zfx hy
     obtain ⟨j,rfl,hhm,_⟩:=zfx hh
     have hy2:=hg y (List.mem_of_getElem? hgm)
     have s2:smS 1 ⟨1,y⟩:=⟨by simp,by simp,by simp only; omega,by simp only; omega⟩
     obtain ⟨p1,p2,p3⟩:=z3z (hs s (List.mem_of_getElem? hhm)) s2 (by omega)
     have e2:za1 ⟨1,y⟩=⟨1,-y⟩:=rfl
     rw [e2] at p2
     rw [p1,p2]
     simp only [if_true,Int.toNat_natCast]
     rw [yto]
     have hs' : ∀ t∈h.set j ⟨s.n+1,s.g+y⟩,smS (m+1) t:=fun t ht=>by
      rcases List.mem_or_eq_of_mem_set ht with ht | ht
      ·obtain ⟨a1,a2,a3,a4⟩:=hs t ht
       exact ⟨a1,by omega,by omega,by omega⟩
      ·subst ht; exact p3
     obtain ⟨q1,q2⟩:=ygw hg rs (h.set j ⟨s.n+1,s.g+y⟩) (m+1) hs' (by omega) (by omega)
     refine ⟨q1,fun h' e => ?_⟩
     have:=q2 h' e
     have e3:m+1+(rs.length:Int)=m+((r::rs).length:Int):=by simp; omega
     rw [← e3]; exact this
theorem yur {b g rows:List Int} {k:Int} (hg : ∀ x∈g,-2199023255552≤x∧x≤2199023255552) (hr:rows.length≤1048575):zcb b (zb7 g) rows k=((zcb b g rows k).1.map za1,(zcb b g rows k).2)∧∀ s∈(zcb b g rows k).1,smS rows.length s:=by
 have h0:(List.replicate k.toNat (⟨0,0⟩:Sl)).map za1=List.replicate k.toNat ⟨0,0⟩:=by simp [za1]
 have hz : ∀ s∈List.replicate k.toNat (⟨0,0⟩:Sl),smS 0 s:=fun s hs=>by
  have:=List.eq_of_mem_replicate hs
  subst this
  exact ⟨by simp,by simp,by simp,by simp⟩
 obtain ⟨q1,q2⟩:=ygw (b:=b) hg rows (List.replicate k.toNat ⟨0,0⟩) 0 hz (by omega) (by omega)
 rw [h0] at q1
 unfold zcb
 rw [q1]
 split
 ·cases e:zco b g rows (List.replicate k.toNat ⟨0,0⟩) with
  | none=>simp
  | some h =>
   refine ⟨by simp,fun s hs => ?_⟩
   have:=q2 h e s hs
   rwa [Int.zero_add] at this
 ·simp
theorem yg9 {g rows:List Int} (hg : ∀ x∈g,-2199023255552≤x∧x≤2199023255552) (hr:rows.length≤1048575) : ∀ c v:List (List Int),zbp (zb7 g) rows c v=(zbp g rows c v).map (List.map (List.map za1))∧∀ H,zbp g rows c v=some H→∀ h∈H,∀ s∈h,smS rows.length s
 | [],v=>by simp [zbp]
 | x::c,[]=>by simp [zbp]
 | x::c,y::v=>by
  obtain ⟨p1,p2⟩:=yur (b:=y) (k:=x.length+1) hg hr
  obtain ⟨q1,q2⟩:=yg9 hg hr c v
  unfold zbp
  rw [p1,q1]
  simp only
  split
  ·refine ⟨by cases zbp g rows c v <;> simp,fun H e => ?_⟩
   simp only [Option.map_eq_some_iff] at e
   obtain ⟨H',h1,rfl⟩:=e
   intro h hh
   rcases List.mem_cons.mp hh with hh | hh
   ·subst hh; exact p2
   ·exact q2 H' h1 h hh
  ·simp
theorem yuh {c v:List (List Int)} {g rows:List Int} (hg : ∀ x∈g,-2199023255552≤x∧x≤2199023255552) (hr:rows.length≤1048575):zbi c v (zb7 g) rows=((zbi c v g rows).1.map (List.map za1),(zbi c v g rows).2)∧∀ h∈(zbi c v g rows).1,∀ s∈h,smS rows.length s:=by
 obtain ⟨q1,q2⟩:=yg9 hg hr c v
 unfold zbi
 rw [q1]
 split
 ·cases e:zbp g rows c v with
  | none=>simp
  | some H=>exact ⟨by simp,q2 H e⟩
 ·simp
theorem ye1 {R:Int} (h0:0≤R) : ∀ (h:List Sl) (s:Sl) (m:Int),smS m s→0≤m→(∀ t∈h,smS R t)→m+R*h.length≤1048576→zbz (za1 s) (h.map za1)=(zbz s h).map (List.map za1)∧∀ l,zbz s h=some l→∀ t∈l,smS (m+R*h.length) t
 | [],s,m,hs,hm0,ht,hm=>by
  refine ⟨by simp [zbz],fun l e => ?_⟩
  simp only [zbz,Option.some.injEq] at e
  subst e
  simp
 | x::xs,s,m,hs,hm0,ht,hm=>by
  have hl:R*((x::xs).length:Int)=R+R*xs.length:=by simp [Int.mul_add]; omega
  rw [hl] at hm
  have hnn:0≤R*(xs.length:Int):=Int.mul_nonneg h0 (by omega)
  obtain ⟨p1,p2,p3⟩:=z3z hs (ht x (by simp)) (by omega)
  obtain ⟨q1,q2⟩:=ye1 h0 xs ⟨s.n+x.n,s.g+x.g⟩ (m+R) p3 (by omega) (fun t h=>ht t (by simp [h])) (by omega)
  rw [List.map_cons]
  unfold zbz
  rw [p1,p2]
  simp only [if_true]
  rw [q1]
  refine ⟨by cases zbz ⟨s.n+x.n,s.g+x.g⟩ xs <;> simp,fun l e => ?_⟩
  simp only [Option.map_eq_some_iff] at e
  obtain ⟨l',h1,rfl⟩:=e
  intro t htt
  have e3:m+R*((x::xs).length:Int)=m+R+R*xs.length:=by rw [hl]; omega
  rw [e3]
  rcases List.mem_cons.mp htt with e | e
  ·subst e
   obtain ⟨a1,a2,a3,a4⟩:=p3
   exact ⟨a1,by omega,by omega,by omega⟩
  ·exact q2 l' h1 t e
theorem yvz {R:Int} {h:List Sl} (h0:0≤R) (ht : ∀ t∈h,smS R t) (hm:R*h.length≤1048576):zbj (h.map za1)=((zbj h).1.map za1,(zbj h).2)∧∀ t∈(zbj h).1,smS (R*h.length) t:=by
 have hz:smS 0 (⟨0,0⟩:Sl):=⟨by simp,by simp,by simp,by simp⟩
 obtain ⟨q1,q2⟩:=ye1 h0 h ⟨0,0⟩ 0 hz (by omega) ht (by omega)
 have e0:za1 ⟨0,0⟩=⟨0,0⟩:=rfl
 rw [e0] at q1
 unfold zbj
 rw [q1]
 cases e:zbz ⟨0,0⟩ h with
 | none=>simp
 | some l =>
  refine ⟨by simp,fun t h => ?_⟩
  have:=q2 l e t h
  rwa [Int.zero_add] at this
theorem yww (l:List Sl):zef (l.map za1)=za1 (zef l):=by
 unfold zef
 rw [List.getLast?_map]
 cases l.getLast? <;> rfl
theorem z2m {f:Int} {all:Sl} {least M:Int} (ha:smS M all) (hM:M+M≤1048576) {l:List Sl} (hl : ∀ t∈l,smS M t) : ∀ (k i:Nat) (acc:List Cnd),i+k=l.length→zec f (za1 all) least i ((l.map za1).drop i) (acc.map zcq)=(zec f all least i (l.drop i) acc).map (List.map zcq)
 | 0,i,acc,hk=>by
  rw [zim _ (by simp; omega),zim _ (by omega)]; rfl
 | k+1,i,acc,hk=>by
  by_cases hi:i+1<l.length
  ·obtain ⟨x,hx⟩ : ∃ x,l[i]?=some x:=⟨_,List.getElem?_eq_getElem (by omega)⟩
   have hx2:(l.map za1)[i]?=some (za1 x):=by simp [hx]
   rw [zrm _ hx hi,zrm _ hx2 (by simpa using hi)]
   obtain ⟨p1,p2⟩:=ysl ha (hl x (List.mem_of_getElem? hx)) hM
   rw [p1,p2]
   simp only [if_true]
   have e1:(za1 x).n=x.n:=rfl
   have e2:(za1 ⟨all.n-x.n,all.g-x.g⟩).n=all.n-x.n:=rfl
   rw [e1,e2]
   split
   ·have:=z2m (f:=f) (least:=least) ha hM hl k (i+1) (acc++[⟨f,i,x,⟨all.n-x.n,all.g-x.g⟩⟩]) (by omega)
    rw [List.map_append] at this
    exact this
   ·exact z2m ha hM hl k (i+1) acc (by omega)
  ·rw [zim _ hi,zim _ (by simpa using hi)]; rfl
theorem yb6 {least R:Int} (h0:0≤R) {H:List (List Sl)} (hH : ∀ h∈H,h.length≤8∧∀ t∈h,smS R t) (hR:R*8≤524288) : ∀ (k i:Nat) (acc:List Cnd),i+k=H.length→zcu least i ((H.map (List.map za1)).drop i) (acc.map zcq)=(zcu least i (H.drop i) acc).map (List.map zcq)
 | 0,i,acc,hk=>by
  rw [List.drop_eq_nil_of_le (by simp; omega),List.drop_eq_nil_of_le (by omega),zcu,zcu]; rfl
 | k+1,i,acc,hk=>by
  obtain ⟨l,hx⟩ : ∃ x,H[i]?=some x:=⟨_,List.getElem?_eq_getElem (by omega)⟩
  have hx2:(H.map (List.map za1))[i]?=some (l.map za1):=by simp [hx]
  obtain ⟨hl8,hls⟩:=hH l (List.mem_of_getElem? hx)
  have hRl:R*(l.length:Int)≤R*8:=Int.mul_le_mul_of_nonneg_left (by omega) h0
  obtain ⟨p1,p2⟩:=yvz h0 hls (by omega)
  have hz:smS (R*l.length) (⟨0,0⟩:Sl):=by
   have:0≤R*(l.length:Int):=Int.mul_nonneg h0 (by omega)
   exact ⟨by simp,by simpa using this,by simp; omega,by simp; omega⟩
  have hla:smS (R*l.length) (zef (zbj l).1):=by
   unfold zef
   cases e:(zbj l).1.getLast? with
   | none=>exact hz
   | some t=>exact p2 t (List.mem_of_getLast? e)
  rw [zre _ hx,zre _ hx2,p1,yww]
  simp only
  split
  ·have:=z2m (f:=(i:Int)) (least:=least) hla (by omega) p2 (zbj l).1.length 0 acc (by omega)
   simp only [Int.natCast_zero,List.drop_zero] at this
   rw [this]
   cases zec i (zef (zbj l).1) least 0 (zbj l).1 acc with
   | none=>rfl
   | some a=>exact yb6 h0 hH hR k (i+1) a (by omega)
  ·rfl
theorem yss {least R:Int} (h0:0≤R) {H:List (List Sl)} (hH : ∀ h∈H,h.length≤8∧∀ t∈h,smS R t) (hR:R*8≤524288):zdp (H.map (List.map za1)) least=(zdp H least).map zcq:=by
 have:=yb6 (least:=least) h0 hH hR H.length 0 [] (by omega)
 simp only [Int.natCast_zero,List.drop_zero,List.map_nil] at this
 unfold zdp
 rw [this]
 cases zcu least 0 H [] <;> rfl
theorem yeu (s:Sl) (l:Int):zcc (za1 s) l=zcc s l:=by
 unfold zcc za1 zd9
 simp
theorem z3x (x:Cnd) (l:Int):zbw (zcq x) l=zbw x l:=by
 unfold zbw zcq
 simp only [yeu]
theorem ysa (x y:Cnd) (l:Int):zc5 (zcq x) (zcq y) l=zc5 x y l:=by
 have e:zg7 (zcq x) (zcq y)=zg7 x y:=rfl
 unfold zc5
 rw [z3x,z3x,e]
def smC (x:Cnd):Prop:=smS 524288 x.a∧smS 524288 x.z
theorem ys4 {x:Cnd} (h:smC x) (l:Int):zis (zcq x) l=zis x l:=by
 obtain ⟨p1,p2,_⟩:=z3z h.1 h.2 (by omega)
 unfold zis
 rw [z3x]
 have e1:(zcq x).a=za1 x.a:=rfl
 have e2:(zcq x).z=za1 x.z:=rfl
 rw [e1,e2,p1,p2]
 simp only [yeu]
theorem yej {c:Cfg} (hs : ∀ f,zc0 c f=0) (b:Bd) {x:Cnd} (h:smC x):zcz c b (zcq x)=zcz c b x:=by
 have e1:(zbs c b (zcq x)).2.2=(zbs c b x).2.2:=by
  have a1:(zch (za1 x.a) c.la b).2=(zch x.a c.la b).2:=by unfold zch za1; split <;> rfl
  have a2:(zch (za1 x.z) c.la b).2=(zch x.z c.la b).2:=by unfold zch za1; split <;> rfl
  unfold zbs
  have e1:(zcq x).a=za1 x.a:=rfl
  have e2:(zcq x).z=za1 x.z:=rfl
  rw [e1,e2,a1,a2]
  split <;> rfl
 have ag : ∀ l r,zju 0 l r=true:=fun l r=>by unfold zju; simp
 unfold zcz
 rw [e1,hs,hs,ag,ag,ys4 h]
 rfl
theorem ybu {f:Cnd→Cnd} {p q:Cnd→Bool} : ∀ l:List Cnd,(∀ x∈l,p (f x)=q x)→(l.map f).find? p=(l.find? q).map f
 | [],_=>rfl
 | x::xs,h=>by
  rw [List.map_cons,List.find?_cons,List.find?_cons,h x (by simp)]
  cases q x with
  | true=>rfl
  | false=>exact ybu xs fun y hy=>h y (by simp [hy])
theorem yea {f:Cnd→Cnd} {p q:Cnd→Bool} : ∀ l:List Cnd,(∀ x∈l,p (f x)=q x)→(l.map f).all p=l.all q
 | [],_=>rfl
 | x::xs,h=>by
  rw [List.map_cons,List.all_cons,List.all_cons,h x (by simp),yea xs fun y hy=>h y (by simp [hy])]
theorem yr2 {c:Cfg} (hs : ∀ f,zc0 c f=0) (b:Bd) {l:List Cnd} (hl : ∀ x∈l,smC x):zdo c b (l.map zcq)=(zcq (zdo c b l).1,(zdo c b l).2):=by
 have e1 : ∀ x∈l,zg4 c b (l.map zcq) (zcq x)=zg4 c b l x:=fun x hx=>by
  unfold zg4
  rw [yej hs b (hl x hx)]
  congr 1
  exact yea l fun y hy=>by
   unfold noB
   rw [yej hs b (hl y hy),ysa]
 unfold zdo
 rw [ybu l e1]
 cases l.find? (zg4 c b l) <;> rfl
theorem yb4 {c v:List (List Int)} {g:List Int} {k:Cfg}:zd0 c v (zb7 g) k=zd0 c v g k:=by
 unfold zd0 zb7
 rw [List.length_map,List.all_map]
 congr 2
 funext x
 unfold zgm
 simp only [Function.comp]
 rw [Bool.eq_iff_iff,za3,za3]
 omega
theorem yf4 {m k:Int} {s:Sl} (h:smS m s) (hk:m≤k):smS k s:=by
 obtain ⟨a1,a2,a3,a4⟩:=h
 exact ⟨a1,by omega,by omega,by omega⟩
theorem z23 {R:Int} (h0:0≤R) : ∀ h:List Sl,(∀ t∈h,smS R t)→smS (R*h.length) ⟨zd6 h,zeb h⟩
 | [],_=>⟨by simp [zd6],by simp [zd6],by simp [zeb],by simp [zeb]⟩
 | x::xs,ht=>by
  obtain ⟨a1,a2,a3,a4⟩:=ht x (by simp)
  obtain ⟨b1,b2,b3,b4⟩:=z23 h0 xs fun t h=>ht t (by simp [h])
  have hl:R*((x::xs).length:Int)=R+R*xs.length:=by simp [Int.mul_add]; omega
  rw [hl]
  simp only at b1 b2 b3 b4
  exact ⟨by simp only [zd6]; omega,by simp only [zd6]; omega,by simp only [zeb]; omega,by simp only [zeb]; omega⟩
theorem yde : ∀ (h:List Sl) (k:Nat),zd6 h=zd6 (h.take k)+zd6 (h.drop k)∧zeb h=zeb (h.take k)+zeb (h.drop k)
 | [],k=>by simp [zd6,zeb]
 | x::xs,0=>by simp [zd6,zeb]
 | x::xs,k+1=>by
  have:=yde xs k
  rw [List.take_succ_cons,List.drop_succ_cons]
  simp only [zd6,zeb]
  omega
theorem ysr {least R:Int} (h0:0≤R) {H:List (List Sl)} (hH : ∀ h∈H,h.length≤8∧∀ t∈h,smS R t) (hR:R*8≤524288) : ∀ x∈zdp H least,smC x:=by
 intro x hx
 obtain ⟨f,k,h,e1,e2,e3,e4,e5,e6,e7⟩:=ytq x hx
 obtain ⟨hl8,hls⟩:=hH h (List.mem_of_getElem? e3)
 unfold zbj at e4 e5 e6 e7
 cases ep:zbz ⟨0,0⟩ h with
 | none=>rw [ep] at e4; cases e4
 | some pl =>
  rw [ep] at e5 e6 e7
  simp only at e5 e6 e7
  obtain ⟨p1,p2⟩:=ye9 h _ _ ep k x.a e5
  obtain ⟨m1,m2⟩:=yvb e6
  obtain ⟨q1,q2⟩:=ydi h _ _ ep
  rw [← e7] at m1 m2
  simp only [zef] at m1 m2
  obtain ⟨s1,s2⟩:=yde h (k+1)
  have b1:=z23 h0 (h.take (k+1)) fun t ht=>hls t (List.mem_of_mem_take ht)
  have b2:=z23 h0 (h.drop (k+1)) fun t ht=>hls t (List.mem_of_mem_drop ht)
  have l1:R*((h.take (k+1)).length:Int)≤R*8:=Int.mul_le_mul_of_nonneg_left (by simp; omega) h0
  have l2:R*((h.drop (k+1)).length:Int)≤R*8:=Int.mul_le_mul_of_nonneg_left (by simp; omega) h0
  have c1:=yf4 b1 (by omega:_≤(524288:Int))
  have c2:=yf4 b2 (by omega:_≤(524288:Int))
  obtain ⟨xf,xb,⟨an,ag⟩,⟨zn,zg⟩⟩:=x
  simp only at p1 p2 m1 m2 q1 q2
  have ea:(⟨an,ag⟩:Sl)=⟨zd6 (h.take (k+1)),zeb (h.take (k+1))⟩:=by rw [Sl.mk.injEq]; omega
  have ez:(⟨zn,zg⟩:Sl)=⟨zd6 (h.drop (k+1)),zeb (h.drop (k+1))⟩:=by rw [Sl.mk.injEq]; omega
  exact ⟨by simp only; rw [ea]; exact c1,by simp only; rw [ez]; exact c2⟩
theorem yvx {c v:List (List Int)} {g rows:List Int} {k:Cfg} {b:Bd} (hg : ∀ x∈g,-2199023255552≤x∧x≤2199023255552) (hs : ∀ f,zc0 k f=0) (hr:rows.length≤65536):zb2 c v (zb7 g) k rows b=(zcq (zb2 c v g k rows b).1,(zb2 c v g k rows b).2):=by
 obtain ⟨p1,p2⟩:=yuh (c:=c) (v:=v) (rows:=rows) hg (by omega)
 have hH : ∀ h∈(zbi c v g rows).1,h.length≤8∧∀ t∈h,smS rows.length t:=fun h hh=>⟨(znv c v g rows).2 h hh,p2 h hh⟩
 have hz:zcq zhr=zhr:=rfl
 unfold zb2
 rw [yb4,p1]
 simp only
 rw [yss (by omega) hH (by omega),yr2 hs b (ysr (by omega) hH (by omega))]
 split
 ·split
  ·rfl
  ·rw [hz]
 ·rw [hz]
def z34 (x y:Nd):Prop:=x.f=y.f∧x.c=y.c∧x.l=y.l ∧ -1≤x.v+y.v∧x.v+y.v≤0
theorem yxh {g m:Int} (hm:0<m) : -1≤g.fdiv m+(-g).fdiv m∧g.fdiv m+(-g).fdiv m≤0:=by
 rw [Int.fdiv_eq_ediv_of_nonneg _ (by omega),Int.fdiv_eq_ediv_of_nonneg _ (by omega)]
 have h1:=Int.mul_ediv_add_emod g m
 have h2:=Int.mul_ediv_add_emod (-g) m
 have h3:=Int.emod_nonneg g (by omega:m≠0)
 have h4:=Int.emod_lt_of_pos g hm
 have h5:=Int.emod_nonneg (-g) (by omega:m≠0)
 have h6:=Int.emod_lt_of_pos (-g) hm
 have h7:m*(g / m + -g / m) = -(g % m + -g % m):=by rw [Int.mul_add]; omega
 generalize g / m + -g / m=z at *
 constructor
 ·rcases Int.lt_or_le z (-1) with h | h
  ·have:m*z≤m*(-2):=Int.mul_le_mul_of_nonneg_left (by omega) (by omega)
   omega
  ·exact h
 ·rcases Int.lt_or_le 0 z with h | h
  ·have:m*1≤m*z:=Int.mul_le_mul_of_nonneg_left (by omega) (by omega)
   omega
  ·exact h
theorem yua (s:Sl) (l:Int) : -1≤(zch s l zfn).1+(zch (za1 s) l zfn).1∧(zch s l zfn).1+(zch (za1 s) l zfn).1≤0:=by
 unfold zch
 have e1:(za1 s).n=s.n:=rfl
 have e2:(za1 s).g = -s.g:=rfl
 rw [e1,e2]
 split
 ·rename_i h
  simp only [Bool.and_eq_true] at h
  have hc:=h.1
  unfold zhy at hc
  simp only [Bool.and_eq_true] at hc
  have c1:=za3.mp hc.1
  have c2:=za3.mp hc.2
  have hm:0<s.n+l:=by omega
  have:=yxh (g:=s.g) hm
  unfold fdv
  rw [if_neg (by omega),if_neg (by omega)]
  simp only
  generalize s.g.fdiv (s.n+l)=p at *
  generalize (-s.g).fdiv (s.n+l)=q at *
  unfold zfm zfn
  simp only
  split <;> split <;> (try split) <;> (try split) <;> omega
 ·simp
theorem ysm (g rows:List Int):zgn (zb7 g) rows=za1 (zgn g rows):=by
 unfold zgn za1 zb7
 simp only [Sl.mk.injEq,true_and]
 induction rows with
 | nil=>simp
 | cons r rs ih =>
  have e:(atI (g.map fun x => -x) r).getD 0 = -((atI g r).getD 0):=by
   rw [z25]
   cases atI g r <;> simp
  simp only [List.map_cons,List.sum_cons,ih,e]
  omega
theorem z4h {c v:List (List Int)} {g:List Int} {k:Cfg} (hg : ∀ x∈g,-2199023255552≤x∧x≤2199023255552) (hs : ∀ f,zc0 k f=0) : ∀ (n:Nat) (q:List Pnd) (i:Nat) (out out':List Nd),(∀ x∈q,x.b=zfn∧x.r.length≤65536)→zcf z34 out out'→zcf z34 (zdm c v g k n q i out) (zdm c v (zb7 g) k n q i out')
 | 0,q,i,out,out',hq,ho=>ho
 | n+1,q,i,out,out',hq,ho=>by
  unfold zdm
  cases hx:q[i]? with
  | none=>exact ho
  | some x =>
   obtain ⟨hb,hr⟩:=hq x (List.mem_of_getElem? hx)
   have hp:=yvx (c:=c) (v:=v) (rows:=x.r) (b:=x.b) hg hs hr
   have e1:goes c v (zb7 g) k x=goes c v g k x:=by unfold goes; rw [hp]
   simp only
   rw [e1,hp]
   simp only
   generalize (zb2 c v g k x.r x.b).1=C
   have sd : ∀ (l r:Int),zfa 0 x.b l r=(x.b,x.b):=fun l r=>by unfold zfa; split <;> simp
   have k1:zgf c v k x (zcq C)=zgf c v k x C:=by unfold zgf; rw [hs,hs,sd,sd]; rfl
   have k2:zgc c v k x (zcq C)=zgc c v k x C:=by unfold zgc; rw [hs,hs,sd,sd]; rfl
   have k3:zhk c (zcq C) q.length=zhk c C q.length:=rfl
   rw [k1,k2,k3]
   split
   ·refine z4h hg hs n _ (i+1) _ _ (fun y hy => ?_) (ho.append (.cons ⟨rfl,rfl,rfl,by simp [zhk],by simp [zhk]⟩ .nil))
    rcases List.mem_append.mp hy with hy | hy
    ·exact hq y hy
    ·simp only [List.mem_cons,List.not_mem_nil,or_false] at hy
     rcases hy with rfl | rfl
     ·refine ⟨?_,Nat.le_trans (List.length_filter_le _ _) hr⟩
      unfold zgf; rw [hs,sd]; exact hb
     ·refine ⟨?_,Nat.le_trans (List.length_filter_le _ _) hr⟩
      unfold zgc; rw [hs,sd]; exact hb
   ·refine z4h hg hs n q (i+1) _ _ hq (ho.append (.cons ?_ .nil))
    unfold zde
    rw [ysm,hb]
    have:=yua (zgn g x.r) k.la
    exact ⟨rfl,rfl,rfl,this.1,this.2⟩
theorem yts {c v:List (List Int)} {g:List Int} {k:Cfg} (hk:zd0 c v g k=true) (hs:k.sg=[]):zcf z34 (zdb c v g k).1 (zdb c v (zb7 g) k).1∧(zdb c v (zb7 g) k).2=true:=by
 obtain ⟨h1,_,h3,h4⟩:=zro hk
 have hrr:=z0r h1
 have hs' : ∀ f,zc0 k f=0:=fun f=>by
  unfold zc0
  rw [hs]
  have e1:atI ([]:List Int) f=none:=by unfold atI; split <;> simp
  rw [e1]; rfl
 unfold zdb
 rw [yb4,if_pos hk,if_pos hk]
 have er:zdl (zb7 g)=zdl g:=by unfold zdl zb7; simp
 rw [er]
 refine ⟨z4h h4 hs' 32 [zdl g] 0 [] [] (fun x hx => ?_) .nil,rfl⟩
 simp only [List.mem_singleton] at hx
 subst hx
 exact ⟨rfl,by simp [zdl]; omega⟩
theorem yv5 (cs:List PV) (h:zb1 [.int .u8] cs) : ∃ n:Int,[PV.v (.int .u8 n)]=cs∧True:=by
 simp only [zb1,Shp] at h
 obtain ⟨_,_,rfl,⟨a,rfl,h1⟩,rfl⟩:=h
 exact ⟨a,rfl,trivial⟩
theorem ys5 {c:PV} (h:zk7 false [.sl [.int .u8]] c) : ∃ B:List Int,c = .sl 1 (zbe B)∧B.length≤9223372036854775807:=by
 simp only [zk7,Bool.false_eq_true,if_false,zb1,Shp] at h
 obtain ⟨c',r,e,⟨es,he,h1,h2⟩,hr⟩:=h
 simp only [List.cons.injEq] at e
 obtain ⟨l,hl,hp⟩:=yen (f:=fun n:Int=>[PV.v (.int .u8 n)]) (tys:=[.int .u8]) yv5 h2
 subst hl
 simp [maxLen] at h1
 exact ⟨l,e.1.trans he,by omega⟩
def PGt (r:List PV×List PV):Prop := ∃ (c v:List (List Int)) (g:List Int) (k:Cfg),(c.length≤8∧v.length≤8∧(∀ l∈c,l.length≤64)∧∀ l∈v,l.length≤64)∧g.length≤64∧(∀ x∈g,inI x)∧k.sg.length≤64∧r=([.agg [.own 1 (rws true c),.own 1 (rws true v)],.own 1 (zac g),zjv k],[])
theorem yrx (B:List Int) (hB:B.length≤9223372036854775807) : ∃ r,RUN T zn6 [.sl 1 (zbe B)]=some r∧PGt r:=by
 refine zd3 z5j rfl ?_
 obtain ⟨r1,h1,p,sd,c,v,g,k,hp,hgb,hg,hgi,hk,rfl⟩:=yrw B hB
 simp only [zjv] at h1
 simp [-getElem?_pos,zur,zus,h1]
 exact ⟨c,v,g,k,hgb,hg,hgi,hk,rfl⟩
theorem ysx {g:List Int} {i:Nat} {x:Int} (h:g[i]?=some x):zb7 (g.take (i+1))=zb7 (g.take i)++[-x]:=by
 unfold zb7
 rw [List.take_succ,h]
 simp
theorem zcf.gets {α β:Type} {R:α→β→Prop} : ∀ {a:List α} {b:List β},zcf R a b→a.length=b.length∧∀ (i:Nat) (x:α),a[i]?=some x→∃ y,b[i]?=some y∧R x y
 | _,_,.nil=>⟨rfl,fun i x h=>by simp at h⟩
 | _,_,.cons h t=>⟨by simp [t.gets.1],fun i x hx=>by
  cases i with
  | zero=>simp at hx; subst hx; exact ⟨_,by simp,h⟩
  | succ i=>simp at hx; simpa using t.gets.2 i x hx⟩
set_option maxHeartbeats 4000000 in
theorem yuf (B:List Int) (hB:B.length≤9223372036854775807):RUN T zrq [.sl 1 (zbe B)]=some ([bv true],[]):=by
 have hb:=yp9 (zbe B)
 rw [yy8] at hb
 by_cases c0:(1048576:Int)<B.length
 ·refine zah zqq rfl ?_
  simp [-getElem?_pos,zmk,zml,hb,c0]
 obtain ⟨r,hd,c,v,g,k,⟨hc8,hv8,hcl,hvl⟩,hg,hgi,hk,rfl⟩:=yrx B hB
 have hcl' : ∀ l∈c,l.length≤1048576:=fun l hl=>Nat.le_trans (hcl l hl) (by omega)
 have hvl' : ∀ l∈v,l.length≤1048576:=fun l hl=>Nat.le_trans (hvl l hl) (by omega)
 have a1:=yag true c v g k hcl' hvl' (by omega) (by omega) hgi
 have a2:=yrm true c v g k hcl' hvl' (by omega) (by omega) hgi
 cases ht:zd0 c v g k with
 | false =>
  rw [yhi,ht] at a1 a2
  generalize (zdb c v g k).1=W at *
  simp only [cfS,zjv] at hd a1 a2
  refine zah zqq rfl ?_
  simp [-getElem?_pos,zmk,zml,hb,c0,hd,a1,a2]
 | true =>
  obtain ⟨f1,_,f3,f4⟩:=zro ht
  have hrr:=z0r f1
  rw [yhi,ht] at a1 a2
  by_cases hs:0<k.sg.length
  ·generalize (zdb c v g k).1=W at *
   simp only [cfS,zjv] at hd a1 a2
   refine zah zqq rfl ?_
   simp [-getElem?_pos,zmk,zml,hb,c0,hd,a1,a2,hs]
  ·have hsg:k.sg=[]:=List.eq_nil_of_length_eq_zero (by omega)
   obtain ⟨n1,n2⟩:=yts ht hsg
   have hnl:(zb7 g).length=g.length:=by simp [zb7]
   have a3:=yag true c v (zb7 g) k hcl' hvl' (by omega) (by omega) (fun x hx=>by
    simp only [zb7,List.mem_map] at hx
    obtain ⟨y,hy,rfl⟩:=hx
    have:=f4 y hy
    exact ⟨by omega,by omega⟩)
   rw [n2] at a3
   have hlen:(zdb c v g k).1.length≤32:=by
    unfold zdb
    rw [if_pos ht]
    have:=z2x (c:=c) (v:=v) (g:=g) (cfg:=k) 32 [zdl g] 0 []
    simpa using this
   obtain ⟨m1,m2⟩:=n1.gets
   generalize (zdb c v g k).1=W at *
   generalize (zdb c v (zb7 g) k).1=W2 at *
   have i0:zac []=[]:=rfl
   simp only [cfS,zjv,hsg,i0] at hd a1 a2 a3
   have hr0:=zc3 (n:=0) (by omega)
   have hr1:=zc3 (n:=1) (by omega)
   refine zah zqq rfl ?_
   simp [-getElem?_pos,zmk,zml,hb,c0,hd,a1,a2,i0,hr0]
   refine za0 (fun n st => ∃ i o e:Nat,i+n=g.length∧9<o∧o<st.nx∧st.V 3 = .ptr 4 none 0 0 0∧st.V 4 = .ref 2 none 0 0 g.length∧st.V 5 = .ptr 5 none 0 0 0∧st.V 6 = .ptr 7 none 0 0 0∧st.V 10 = .ref o none e 0 i∧st.V 11=iv i∧st.S 0=some (.row 1 (rws true c))∧st.S 1=some (.row 1 (rws true v))∧st.S 2=some (.row 1 (zac g))∧st.S 3=some (.row 1 [])∧st.S 4=some (.box [.ref 0 none 0 0 c.length,.ref 1 none 0 0 v.length])∧st.S 5=some (.box [iv k.ro,iv k.de,iv k.bi,iv k.la,iv k.rw,iv k.nu,iv k.dn,.ref 3 none 0 0 0])∧st.S 6=some (.row 5 (W.map nd))∧st.S 7=some (.box [.ref 6 none 0 0 W.length])∧st.S o=some (.row 1 (zac (zb7 (g.take i))))) ?_ g.length _ ⟨0,10,0,by simp [zb7,zac]⟩
   rintro n st ⟨i,o,e,hi,ho,hox,v3,v4,v5,v6,v10,v11,S0,S1,S2,S3,S4,S5,S6,S7,So⟩
   have hnt:(zb7 (g.take i)).length=i:=by simp [zb7]; omega
   have q0:=fr (by omega:0<st.nx)
   have q1:=fr (by omega:1<st.nx)
   have q2:=fr (by omega:2<st.nx)
   have q3:=fr (by omega:3<st.nx)
   have q4:=fr (by omega:4<st.nx)
   have q5:=fr (by omega:5<st.nx)
   have q6:=fr (by omega:6<st.nx)
   have q7:=fr (by omega:7<st.nx)
   have qo:=fr hox
   have n0 : ¬ st.nx=0:=by omega
   have p0:=fr (by omega:0<o)
   have p1:=fr (by omega:1<o)
   have p2:=fr (by omega:2<o)
   have p3:=fr (by omega:3<o)
   have p4:=fr (by omega:4<o)
   have p5:=fr (by omega:5<o)
   have p6:=fr (by omega:6<o)
   have p7:=fr (by omega:7<o)
   by_cases hlt:i<g.length
   ·obtain ⟨x,hx⟩ : ∃ x,g[i]?=some x:=⟨_,List.getElem?_eq_getElem hlt⟩
    have hxb:=f4 x (List.mem_of_getElem? hx)
    have hx':=zba hx
    have hw:=wS hlt (by omega:g.length≤9223372036854775807)
    have wn:=w64 (x := -x) (by omega) (by omega)
    have hr8:=zc3 (n:=i+1) (by omega)
    have hsn:=zcv (zb7 (g.take i)) (-x)
    rw [← ysx hx] at hsn
    have hnt2:(zb7 (g.take (i+1))).length=i+1:=by simp [zb7]; omega
    simp [-getElem?_pos,z1g,v3,v4,v5,v6,v10,v11,S0,S1,S2,S3,S4,S5,S6,S7,So,hnt,hlt,hx',hw,wn,hr1,hr8,hsn,q0,q1,q2,q3,q4,q5,q6,q7,qo,p0,p1,p2,p3,p4,p5,p6,p7]
    exact zan (n-1) (by omega) ⟨i+1,st.nx+1,st.ep,by omega,by omega,by simp,by simp [v3],by simp [v4],by simp [v5],by simp [v6],by simp [hnt2],by simp,by simp [S0,q0,p0],by simp [S1,q1,p1,n0],by simp [S2,q2,p2],by simp [S3,q3,p3],by simp [S4,q4,p4],by simp [S5,q5,p5],by simp [S6,q6,p6],by simp [S7,q7,p7],by simp⟩
   ·have hie:i=g.length:=by omega
    subst hie
    rw [List.take_length] at So hnt
    simp [-getElem?_pos,z1g,v3,v4,v5,v6,v10,v11,S0,S1,S2,S3,S4,S5,S6,S7,So,hnt,a3,← m1,q0,q1,q2,q3,q4,q5,q6,q7,qo,p0,p1,p2,p3,p4,p5,p6,p7]
    have hlen2:W2.length≤32:=by omega
    clear v3 v4 v5 v10 S0 S1 S2 S3 S4 S5 So a1 a2 a3 hd
    refine za0 (fun n st => ∃ i o p ep:Nat,i+n=W.length∧7<o∧o<p∧p<st.nx∧st.V 6 = .ptr 7 none 0 0 0∧st.V 12 = .ptr p none ep 0 0∧st.V 14=iv i∧st.S 6=some (.row 5 (W.map nd))∧st.S 7=some (.box [.ref 6 none 0 0 W.length])∧st.S o=some (.row 5 (W2.map nd))∧st.S p=some (.box [.ref o none ep 0 W.length])) ?_ W.length _ ⟨0,st.nx,st.nx+1,st.ep,by simp [v6,S6,S7,q6,q7]; omega⟩
    clear v6 v11 S6 S7 q0 q1 q2 q3 q4 q5 q6 q7 qo p0 p1 p2 p3 p4 p5 p6 p7 n0 ho hox hi
    rintro n st ⟨i,o,p,e,hi,ho,hop,hpx,v6,v12,v14,S6,S7,So,Sp⟩
    have q6:=fr (by omega:6<st.nx)
    have q7:=fr (by omega:7<st.nx)
    have qo:=fr (by omega:o<st.nx)
    have qp:=fr hpx
    have r6:=fr (by omega:6<o)
    have r7:=fr (by omega:7<o)
    have t6:=fr (by omega:6<p)
    have t7:=fr (by omega:7<p)
    have top:=fr hop
    by_cases hlt:i<W.length
    ·obtain ⟨x,hx⟩ : ∃ x,W[i]?=some x:=⟨_,List.getElem?_eq_getElem hlt⟩
     obtain ⟨y,hy,hR⟩:=m2 i x hx
     have hw:=wS hlt (by omega:W.length≤9223372036854775807)
     obtain ⟨xf,xc,xl,xr,xv⟩:=x
     obtain ⟨yf,yc,yl,yr,yv⟩:=y
     obtain ⟨b1,b2,b3,b4,b5⟩:=hR
     simp only at b1 b2 b3 b4 b5
     subst b1 b2 b3
     have wv:=w64 (x:=xv+yv) (by omega) (by omega)
     have hlt2:i<W2.length:=by omega
     have d1 : ¬ 0<xv+yv:=by omega
     have d2 : ¬ xv+yv < -1:=by omega
     have hx':(W.map nd)[i]?=some [iv xf,iv xc,iv xl,iv xr,iv xv]:=by simp [hx,nd]
     have hy':(W2.map nd)[i]?=some [iv xf,iv xc,iv xl,iv yr,iv yv]:=by simp [hy,nd]
     by_cases hf:xf<0
     ·simp [-getElem?_pos,zuk,v6,v12,v14,S6,S7,So,Sp,hlt,hx',hy',← m1,hw,wv,d1,d2,hf,q6,q7,qo,qp,r6,r7,t6,t7,top]
      exact zan (n-1) (by omega) ⟨i+1,o,p,e,by omega,ho,hop,by simp; omega,by simp [v6],by simp [v12],by simp,by simp [S6,q6],by simp [S7,q7],by simp [So,qo],by simp [Sp,qp]⟩
     ·simp [-getElem?_pos,zuk,v6,v12,v14,S6,S7,So,Sp,hlt,hx',hy',← m1,hw,wv,d1,d2,hf,q6,q7,qo,qp,r6,r7,t6,t7,top]
      exact zan (n-1) (by omega) ⟨i+1,o,p,e,by omega,ho,hop,by simp; omega,by simp [v6],by simp [v12],by simp,by simp [S6,q6],by simp [S7,q7],by simp [So,qo],by simp [Sp,qp]⟩
    ·simp [-getElem?_pos,zuk,v6,v12,v14,S6,S7,So,Sp,hlt,q6,q7,qo,qp,r6,r7,t6,t7,top]
inductive SN where
 | mk (f c v:Int) (ks:List SN)
def z4x (q:Bool) (es:List (List PV)):PV:=if q then .own 4 es else .sl 4 es
mutual
def snC (q:Bool):SN→List PV
 | .mk f c v ks=>[iv f,iv c,iv v,z4x q (snL q ks)]
def snL (q:Bool):List SN→List (List PV)
 | []=>[]
 | s::ss=>snC q s::snL q ss
end
theorem yfs (q:Bool) : ∀ ks:List SN,snL q ks=ks.map (snC q)
 | []=>by simp [snL]
 | k::ks=>by simp [snL,yfs q ks]
@[simp] theorem qh6 (q:Bool) (ks:List SN):(snL q ks).length=ks.length:=by rw [yfs]; simp
@[simp] theorem qck (q:Bool) (es:List (List PV)):fz (z4x q es) = .sl 4 es:=by cases q <;> simp [z4x]
theorem yvj {c:Cfg} (h:zcg c=true):1≤c.la∧c.la≤100∧0≤c.de∧c.de≤4:=by
 unfold zcg at h
 simp only [Bool.and_eq_true,za3] at h
 omega
structure GH (c v:List (List Int)) (g:List Int) (cfg:Cfg):Prop where
 tk:zd0 c v g cfg=true
 sg:cfg.sg.length≤1048576
theorem GH.la {c v:List (List Int)} {g:List Int} {cfg:Cfg} (h:GH c v g cfg):1≤cfg.la∧cfg.la≤100∧0≤cfg.de∧cfg.de≤4:=yvj (zro h.tk).2.1
theorem fr2 {x n:Nat} (h:x<n) : ¬ x=n+1+2∧¬ x=n+2+1∧¬ x=n+2+2∧¬ n+1+2=x∧¬ n+2+1=x∧¬ n+2+2=x∧¬ n=x∧¬ n+1=x∧¬ n+2=x∧¬ x=n+2+2+1∧¬ x=n+2+3:=by omega
end Go.Pe
