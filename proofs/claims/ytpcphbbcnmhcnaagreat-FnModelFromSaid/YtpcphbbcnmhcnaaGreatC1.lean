/- What each function answers by the evaluator,and the law; for each answer its own conditions stand ahead of it. -/
import Derived.Test.YtpcphbbcnmhcnaaGreatC0
import Derived.Test.YtpcphbbcnmhcnaaGreatEvB2
import Derived.IntWalk
set_option linter.all false
namespace Go.Pe
open Go
set_option maxHeartbeats 2000000 in
theorem yx5 (b g rows:List Int) (k:Int) (hb:b.length≤1048576) (hg:g.length≤1048576) (hr:rows.length≤1048576) (hgi : ∀ x∈g,inI x):RUN T zrh [.sl 1 (zab b),.sl 1 (zab g),.sl 1 (zab rows),iv k]=some ([.own 2 (zb9 (zc0 b g rows k).1),bv (zc0 b g rows k).2],[]):=by
 refine zaf yd8 rfl ?_
 cases hk:zai k 1 8 with
 | false =>
  have e:=za5 k 1 8
  rw [hk] at e
  have e2:zc0 b g rows k=([],false):=by unfold zc0; rw [hk]; rfl
  rw [e2]
  simp [-getElem?_pos,zux,zuy,-zav,e,zb9]
 | true =>
  have e:=za5 k 1 8
  rw [hk] at e
  have hk':=za2.mp hk
  obtain ⟨kn,rfl⟩ : ∃ n:Nat,k=n:=⟨k.toNat,by omega⟩
  have hro:zaj 16 kn=true:=by simp [zaj]; omega
  have hr0:zaj 16 0=true:=by decide
  obtain ⟨R,hR⟩ : ∃ R,R=zc0 b g rows kn:=⟨_,rfl⟩
  have hR':R=match zcs b g rows (List.replicate kn ⟨0,0⟩) with
   | some h=>(h,true)
   | none=>([],false):=by rw [hR]; unfold zc0; rw [if_pos hk]; first | (simp; done) | (simp; rfl)
  rw [← hR]
  clear hR
  simp [-getElem?_pos,zux,zuy,-zav,e,hro,hr0]
  refine zas (fun n st => ∃ (i:Nat) (h:List Sl),i+n=rows.length∧h.length=kn∧(∀ s∈h,slI s)∧zcs b g (rows.drop i) h=zcs b g rows (List.replicate kn ⟨0,0⟩)∧st.V 0 = .sl 1 (zab b)∧st.V 1 = .sl 1 (zab g)∧st.V 2 = .sl 1 (zab rows)∧st.V 3=iv kn∧st.V 10 = .ref 0 none 0 0 0∧st.V 11 = .ref 1 none 0 0 kn∧st.V 12=iv i∧1<st.nx∧st.S 0=some (.row 2 [])∧st.S 1=some (.row 2 (zb9 h))) ?_ rows.length _ ⟨0,List.replicate kn ⟨0,0⟩,by omega,by simp,?_,by simp,by simp,by simp,by simp,by simp,by simp,by simp,by simp,by simp,by simp,by simp [y42]⟩
  ·rintro n st ⟨i,h,hi,hhl,hhi,hh,v0,v1,v2,v3,v10,v11,v12,hnx,hS0,hS⟩
   obtain ⟨z1,z2,z3,z4⟩:=fr hnx
   obtain ⟨y1,y2,y3,y4⟩:=fr (show 0<st.nx by omega)
   by_cases hlt:i<rows.length
   ·obtain ⟨r,hrr⟩ : ∃ r,rows[i]?=some r:=⟨_,List.getElem?_eq_getElem hlt⟩
    have hr':=za7 hrr
    have hws:=wS hlt (by omega:rows.length≤9223372036854775807)
    have w1:=w64 (x:=(b.length:Int)-1) (by omega) (by omega)
    have w1':=w64 (x:=(g.length:Int)-1) (by omega) (by omega)
    have w2:=w64 (x:=(kn:Int)-1) (by omega) (by omega)
    have e1:=za5 r 0 ((b.length:Int)-1)
    have e1':=za5 r 0 ((g.length:Int)-1)
    rw [zct hrr,zcs] at hh
    cases hbx:atI b r with
    | none =>
     rw [hbx] at hh
     have hn:=zv2 hbx
     have:zai r 0 ((b.length:Int)-1)=false:=by
      cases hw:zai r 0 ((b.length:Int)-1) with
      | false=>rfl
      | true=>have:=za2.mp hw; omega
     rw [this] at e1
     rw [← hh] at hR'
     subst hR'
     simp [-getElem?_pos,zn6,-zav,v0,v1,v2,v3,v10,v11,v12,hS0,hS,hlt,hr',w1,e1,zb9]
    | some x =>
     obtain ⟨rn,rfl,hbr,hbl⟩:=zkb hbx
     cases hgy:atI g rn with
     | none =>
      rw [hbx,hgy] at hh
      have hn:=zv2 hgy
      have:zai rn 0 ((g.length:Int)-1)=false:=by
       cases hw:zai rn 0 ((g.length:Int)-1) with
       | false=>rfl
       | true=>have:=za2.mp hw; omega
      rw [this] at e1'
      rw [show zai rn 0 ((b.length:Int)-1)=true from za2.mpr (by omega)] at e1
      rw [← hh] at hR'
      subst hR'
      simp [-getElem?_pos,zn6,-zav,v0,v1,v2,v3,v10,v11,v12,hS0,hS,hlt,hr',w1,w1',e1,e1',zb9]
     | some y =>
      obtain ⟨rn',hrn,hgr,hgl⟩:=zkb hgy
      have:rn'=rn:=by omega
      subst this
      rw [show zai rn' 0 ((b.length:Int)-1)=true from za2.mpr (by omega)] at e1
      rw [show zai rn' 0 ((g.length:Int)-1)=true from za2.mpr (by omega)] at e1'
      rw [hbx,hgy] at hh
      simp only at hh
      have hb':=za7 hbr
      have hg':=za7 hgr
      have e2:=za5 x 0 ((kn:Int)-1)
      cases hhx:atI h x with
      | none =>
       rw [hhx] at hh
       have hn:=zv2 hhx
       have:zai x 0 ((kn:Int)-1)=false:=by
        cases hw:zai x 0 ((kn:Int)-1) with
        | false=>rfl
        | true=>have:=za2.mp hw; omega
       rw [this] at e2
       simp only at hh
       rw [← hh] at hR'
       subst hR'
       simp [-getElem?_pos,zn6,-zav,v0,v1,v2,v3,v10,v11,v12,hS0,hS,hlt,hr',hb',hbl,w1,w1',w2,e1,e1',e2,zb9]
      | some s =>
       obtain ⟨xn,rfl,hhs,hhl2⟩:=zkb hhx
       have:zai xn 0 ((kn:Int)-1)=true:=za2.mpr (by omega)
       rw [this] at e2
       rw [hhx] at hh
       have hs':=z4v hhs
       have hsi:=hhi s (List.mem_of_getElem? hhs)
       have hyi:=hgi y (List.mem_of_getElem? hgr)
       have hpi:=zwk (b:=⟨1,y⟩) hsi
       have e3:=z5p s ⟨1,y⟩ hsi ⟨by unfold inI; simp,hyi⟩
       simp only [Int.toNat_natCast] at hh
       have hxk:xn<kn:=by omega
       generalize zb7 s ⟨1,y⟩=p at *
       obtain ⟨⟨pn,pg⟩,pb⟩:=p
       simp only [slc] at e3 hh
       cases pb with
       | false =>
        rw [if_neg (by simp)] at hh
        rw [← hh] at hR'
        subst hR'
        simp [-getElem?_pos,zn6,-zav,v0,v1,v2,v3,v10,v11,v12,hS0,hS,hlt,hr',hb',hbl,hg',hgl,hs',hxk,hhl,w1,w1',w2,e1,e1',e2,e3,z1,z2,z3,z4,y1,y2,y3,y4]
        simp [zb9]
       | true =>
        rw [if_pos rfl] at hh
        have hset:=y5g h xn pn pg
        simp [-getElem?_pos,zn6,-zav,v0,v1,v2,v3,v10,v11,v12,hS0,hS,hlt,hr',hb',hbl,hg',hgl,hs',hxk,hhl,w1,w1',w2,e1,e1',e2,e3,hws,hset,z1,z2,z3,z4,y1,y2,y3,y4]
        refine zal (n-1) (by omega) ⟨i+1,h.set xn ⟨pn,pg⟩,by omega,by simp [hhl],fun q hq => ?_,hh,by simp [v0],by simp [v1],by simp [v2],by simp [v3],by simp [v10],by simp [v11],by simp,by simp; omega,by simp [y1,y2,y3,y4,z1,z2,z3,z4,hS0],by simp⟩
        rcases List.mem_or_eq_of_mem_set hq with h' | h'
        ·exact hhi q h'
        ·subst h'; exact hpi
   ·rw [List.drop_eq_nil_of_le (by omega),zcs] at hh
    rw [← hh] at hR'
    subst hR'
    simp [-getElem?_pos,zn6,v2,v11,v12,hS,hlt,hhl]
  ·intro s hs
   have:=List.eq_of_mem_replicate hs
   subst this
   exact ⟨by unfold inI; simp,by unfold inI; simp⟩
def zvx (q:Bool) (l:List Sl):PV:=if q then .own 2 (zb9 l) else .sl 2 (zb9 l)
@[simp] theorem qoy (q:Bool) (l:List Sl):fz (zvx q l) = .sl 2 (zb9 l):=by cases q <;> simp [zvx]
def rss (q:Bool) (H:List (List Sl)):List (List PV):=H.map fun l=>[zvx q l]
@[simp] theorem qo4 (q:Bool) (H:List (List Sl)):(rss q H).length=H.length:=by simp [rss]
theorem y5b {q:Bool} {H:List (List Sl)} {i:Nat} {l:List Sl} (h:H[i]?=some l):(rss q H)[i]?=some [zvx q l]:=by simp [rss,h]
theorem y41 (H:List (List Sl)) (l:List Sl):rss true H++[[.own 2 (zb9 l)]]=rss true (H++[l]):=by simp [rss,zvx]
def zb2 (g rows:List Int):List (List Int)→List (List Int)→Option (List (List Sl))
 | x::c,y::v=>if (zc0 y g rows (x.length+1)).2=true then (zb2 g rows c v).map ((zc0 y g rows (x.length+1)).1 :: ·) else none
 | _,_=>some []
def zcf (c v:List (List Int)) (g rows:List Int):List (List Sl)×Bool:=if zeh c v=true then match zb2 g rows c v with
  | some h=>(h,true)
  | none=>([],false)
 else ([],false)
theorem y2x {g rows:List Int} {c v:List (List Int)} {i:Nat} {x y:List Int} (hx:c[i]?=some x) (hy:v[i]?=some y):zb2 g rows (c.drop i) (v.drop i)=if (zc0 y g rows (x.length+1)).2=true then (zb2 g rows (c.drop (i+1)) (v.drop (i+1))).map ((zc0 y g rows (x.length+1)).1 :: ·) else none:=by
 rw [zct hx,zct hy,zb2]
theorem y7c {g rows:List Int} {v:List (List Int)}:zb2 g rows [] v=some []:=by simp [zb2]
theorem z7l {b g:List Int} : ∀ (rows:List Int) (h h':List Sl),zcs b g rows h=some h'→h'.length=h.length
 | [],h,h',e=>by simp [zcs] at e; subst e; rfl
 | r::rs,h,h',e=>by
  simp only [zcs] at e
  split at e
  ·split at e
   ·split at e
    ·have:=z7l rs _ _ e
     simpa using this
    ·cases e
   ·cases e
  ·cases e
theorem y50 (b g rows:List Int) (k:Int):(zc0 b g rows k).1.length≤8:=by
 unfold zc0
 split
 ·rename_i hk
  have:=za2.mp hk
  cases h:zcs b g rows (List.replicate k.toNat ⟨0,0⟩) with
  | none=>simp
  | some h'=>have:=z7l _ _ _ h; simp at this; simp; omega
 ·simp
theorem yi2 {g rows:List Int} : ∀ (c v:List (List Int)) (H:List (List Sl)),zb2 g rows c v=some H→H.length≤c.length∧∀ l∈H,l.length≤8
 | [],v,H,h=>by simp [zb2] at h; subst h; simp
 | x::c,[],H,h=>by simp [zb2] at h; subst h; simp
 | x::c,y::v,H,h=>by
  simp only [zb2] at h
  split at h
  ·simp only [Option.map_eq_some_iff] at h
   obtain ⟨H',h1,rfl⟩:=h
   obtain ⟨h2,h3⟩:=yi2 c v H' h1
   refine ⟨by simp; omega,fun l hl => ?_⟩
   rcases List.mem_cons.mp hl with e | e
   ·subst e; exact y50 _ _ _ _
   ·exact h3 l e
  ·cases h
theorem zv4 (c v:List (List Int)) (g rows:List Int):(zcf c v g rows).1.length≤c.length∧∀ l∈(zcf c v g rows).1,l.length≤8:=by
 unfold zcf
 split
 ·cases h:zb2 g rows c v with
  | none=>simp
  | some H=>exact yi2 c v H h
 ·simp
theorem yi0 {c v:List (List Int)} (h:zeh c v=true):v.length=c.length∧c.length≤4:=by
 unfold zeh at h
 simp only [Bool.and_eq_true,decide_eq_true_eq] at h
 have:=za2.mp h.1.1.1
 omega
set_option maxHeartbeats 2000000 in
theorem yx6 (q:Bool) (c v:List (List Int)) (g rows:List Int) (hc : ∀ l∈c,l.length≤1048576) (hv : ∀ l∈v,l.length≤1048576) (hg:g.length≤1048576) (hr:rows.length≤1048576) (hgi : ∀ x∈g,inI x):RUN T zra [.agg [.sl 1 (rws q c),.sl 1 (rws q v)],.sl 1 (zab g),.sl 1 (zab rows)]=some ([.own 1 (rss true (zcf c v g rows).1),bv (zcf c v g rows).2],[]):=by
 refine zaf ydy rfl ?_
 have e:=ye4 q c v (fun l hl=>Nat.le_trans (hc l hl) (by omega)) (fun l hl=>Nat.le_trans (hv l hl) (by omega))
 cases hk:zeh c v with
 | false =>
  rw [hk] at e
  have e2:zcf c v g rows=([],false):=by unfold zcf; rw [hk]; rfl
  rw [e2]
  have hr0:zaj 24 0=true:=by decide
  simp [-getElem?_pos,zus,zut,e,hr0,rss]
 | true =>
  rw [hk] at e
  obtain ⟨hvc,hc4⟩:=yi0 hk
  obtain ⟨R,hR⟩ : ∃ R,R=zcf c v g rows:=⟨_,rfl⟩
  have hR':R=match zb2 g rows c v with
   | some h=>(h,true)
   | none=>([],false):=by rw [hR]; unfold zcf; exact if_pos hk
  rw [← hR]
  clear hR
  have hr0:zaj 24 0=true:=by decide
  have hr1:zaj 24 1=true:=by decide
  simp [-getElem?_pos,zus,zut,e,hr0]
  refine zas (fun n st => ∃ (i o e:Nat) (H:List (List Sl)),i+n=c.length∧H.length=i∧zb2 g rows c v=(zb2 g rows (c.drop i) (v.drop i)).map (H ++ ·)∧st.V 1 = .sl 1 (zab g)∧st.V 2 = .sl 1 (zab rows)∧st.V 3 = .ptr 0 none 0 0 0∧st.V 8 = .ref o none e 0 H.length∧st.V 9=iv i∧0<o∧o<st.nx∧st.S 0=some (.box [.sl 1 (rws q c),.sl 1 (rws q v)])∧st.S o=some (.row 1 (rss true H))) ?_ c.length _ ⟨0,1,0,[],by simp [rss]⟩
  rintro n st ⟨i,o,ep,H,hi,hH,hL,v1,v2,v3,v8,v9,ho,hox,hS,hSo⟩
  obtain ⟨x1,x2,x3,x4⟩:=fr hox
  obtain ⟨g1,g2,g3,g4⟩:=fr ho
  obtain ⟨z1,z2,z3,z4⟩:=fr (show 0<st.nx by omega)
  by_cases hlt:i<c.length
  ·obtain ⟨x,hx⟩ : ∃ x,c[i]?=some x:=⟨_,List.getElem?_eq_getElem hlt⟩
   obtain ⟨y,hy⟩ : ∃ y,v[i]?=some y:=⟨_,List.getElem?_eq_getElem (by omega)⟩
   have hx':=ze6 (q:=q) hx
   have hy':=ze6 (q:=q) hy
   have hiv:i<v.length:=by omega
   have hxl:=hc x (List.mem_of_getElem? hx)
   have hws:=wS hlt (by omega:c.length≤9223372036854775807)
   have hwl:=w64 (x:=(x.length:Int)+1) (by omega) (by omega)
   have hh:=yx5 y g rows (x.length+1) (hv y (List.mem_of_getElem? hy)) hg hr hgi
   have hr24:zaj 24 (H.length+1)=true:=by simp [zaj]; omega
   rw [y2x hx hy] at hL
   generalize zc0 y g rows (x.length+1)=p at *
   obtain ⟨ph,pb⟩:=p
   simp only at hh hL
   cases pb with
   | false =>
    rw [if_neg (by simp)] at hL
    rw [hL] at hR'
    subst hR'
    simp [-getElem?_pos,z1g,v1,v2,v3,v8,v9,hr0,hS,hSo,hlt,hiv,hx',hy',hwl,hh,rss,x1,x2,x3,x4,g1,g2,g3,g4,z1,z2,z3,z4]
   | true =>
    rw [if_pos rfl] at hL
    have hsn:=y41 H ph
    simp [-getElem?_pos,z1g,v1,v2,v3,v8,v9,hr0,hS,hSo,hlt,hiv,hx',hy',hwl,hws,hh,hr1,hr24,hsn,x1,x2,x3,x4,g1,g2,g3,g4,z1,z2,z3,z4]
    exact zal (n-1) (by omega) ⟨i+1,st.nx+2,st.ep,H++[ph],by omega,by simp [hH],by rw [hL]; cases zb2 g rows (c.drop (i+1)) (v.drop (i+1)) <;> simp,by simp [v1],by simp [v2],by simp [v3],by simp,by simp,by omega,by simp,by simp [x1,x2,x3,x4,g1,g2,g3,g4,z1,z2,z3,z4,hS],by simp⟩
  ·have h0:c.drop i=[]:=List.drop_eq_nil_of_le (by omega)
   rw [h0,y7c] at hL
   rw [hL] at hR'
   simp only [Option.map_some,List.append_nil] at hR'
   subst hR'
   simp [-getElem?_pos,z1g,v3,v8,v9,hS,hSo,hlt]
def yjy (k:Int) (n:Nat):List Sl:=(List.range n).map fun (i:Nat)=>⟨k+2*(i:Int),k+2*(i:Int)+1⟩
@[simp] theorem qed (k:Int) (n:Nat):(yjy k n).length=n:=by simp [yjy]
structure Fr where
 w:Wd
 d:Int
def frc (f:Fr):List PV:=[bv f.w.n,uv f.w.h,uv f.w.l,iv f.d]
def frB (f:Fr):Bool:=wok f.w && zai f.d 1 1000000
def zf9:Fr:=⟨zca,0⟩
def zkf (w:Wd) (d:Int):Fr×Bool:=if frB ⟨w,d⟩=true then (⟨w,d⟩,true) else (zf9,false)
theorem z21 (f:Fr):RUN T zjo [.agg (frc f)]=some ([bv (frB f)],[]):=by
 refine zaf yep rfl ?_
 have e1:=zsk f.w
 have e2:=za5 f.d 1 1000000
 unfold frB
 generalize wok f.w=x at *
 generalize zai f.d 1 1000000=y at *
 simp only [wd] at e1
 cases x <;> simp [z2p,z2q,-zav,frc,e1,e2]
theorem yx7 (a d:Int) (ha:inI a):RUN T zrp [iv a,iv d]=some ([.agg (frc (zkf (zjb a a) d).1),bv (zkf (zjb a a) d).2],[]):=by
 refine zaf yen rfl ?_
 have e1:=yxw a a ha ha
 have e2:=z21 ⟨zjb a a,d⟩
 unfold zkf
 generalize zjb a a=m at *
 generalize frB ⟨m,d⟩=x at *
 simp only [wd,frc] at e1 e2
 cases x <;> simp [z2n,z2o,frc,zf9,zca,e1,e2]
def frI (f:Fr):Prop:=wfU f.w∧inI f.d
theorem zvl:wfU zca:=⟨by decide,by decide,by decide,by decide⟩
theorem ymf (w:Wd) (k:Int) (h:wfU w):wfU (zev w k).1:=by
 unfold zev
 split
 ·rename_i hc
  refine z7g ?_ (by omega)
  obtain ⟨h0,h1,h2,h3⟩:=h
  exact Int.mul_nonneg (by unfold mag; omega) (by omega)
 ·exact zvl
def zcx (a b:Fr):Wd×Wd×Bool:=if (frB a && frB b)=true then ((zev a.w b.d).1,(zev b.w a.d).1,(zev a.w b.d).2 && (zev b.w a.d).2) else (zca,zca,false)
theorem y8i (a b:Fr) (ha:wfU a.w) (hb:wfU b.w):wfU (zcx a b).1∧wfU (zcx a b).2.1:=by
 unfold zcx
 split
 ·exact ⟨ymf _ _ ha,ymf _ _ hb⟩
 ·exact ⟨zvl,zvl⟩
theorem y6e {a b:Fr} (h:(zcx a b).2.2=true):(1≤a.d∧a.d≤1000000)∧1≤b.d∧b.d≤1000000:=by
 unfold zcx at h
 split at h
 ·rename_i hc
  simp only [frB,Bool.and_eq_true] at hc
  exact ⟨za2.mp hc.1.2,za2.mp hc.2.2⟩
 ·cases h
theorem yfe (a b:Fr) (ha:frI a) (hb:frI b):RUN T zng [.agg (frc a),.agg (frc b)]=some ([.agg (wd (zcx a b).1),.agg (wd (zcx a b).2.1),bv (zcx a b).2.2],[]):=by
 refine zaf yel rfl ?_
 have e1:=z21 a
 have e2:=z21 b
 have e3:=yfb a.w b.d ha.1 hb.2
 have e4:=yfb b.w a.d hb.1 ha.2
 unfold zcx
 generalize zev a.w b.d=x at *
 generalize zev b.w a.d=y at *
 generalize frB a=p at *
 generalize frB b=q at *
 obtain ⟨⟨an,ah,al⟩,ad⟩:=a
 obtain ⟨⟨bn,bh,bl⟩,bd⟩:=b
 obtain ⟨x,xb⟩:=x
 obtain ⟨y,yb⟩:=y
 simp only [frc,wd] at e1 e2 e3 e4 ⊢
 cases p <;> cases q <;> cases xb <;> simp [z2j,z2k,e1,e2,e3,e4,zca]
def zjf (a b:Fr):Int×Bool:=if (zcx a b).2.2=true then (z32 (zcx a b).1 (zcx a b).2.1,true) else (0,false)
theorem yff (a b:Fr) (ha:frI a) (hb:frI b):RUN T znf [.agg (frc a),.agg (frc b)]=some ([iv (zjf a b).1,bv (zjf a b).2],[]):=by
 refine zaf yeg rfl ?_
 have e1:=yfe a b ha hb
 have e2:=yxy (zcx a b).1 (zcx a b).2.1
 unfold zjf
 generalize zcx a b=r at *
 obtain ⟨x,y,o⟩:=r
 simp only at e2 ⊢
 generalize z32 x y=z at *
 simp only [frc,wd] at e1 e2 ⊢
 cases o <;> simp [z2f,z2g,e1,e2]
def zof (a b:Fr):Fr×Bool:=if (zcx a b).2.2=true then (if (zeu (zcx a b).1 (zcx a b).2.1).2=true then zkf (zeu (zcx a b).1 (zcx a b).2.1).1 (a.d*b.d) else (zf9,false)) else (zf9,false)
theorem y1w {a b:Int} (h:(1≤a∧a≤1000000)∧1≤b∧b≤1000000):IntKind.i64.wrap (a*b)=a*b:=by
 have h1:a*b≤1000000*1000000:=Int.mul_le_mul h.1.2 h.2.2 (by omega) (by decide)
 have h2:0≤a*b:=Int.mul_nonneg (by omega) (by omega)
 exact w64 (by omega) (by omega)
theorem yx8 (a b:Fr) (ha:frI a) (hb:frI b):RUN T zrn [.agg (frc a),.agg (frc b)]=some ([.agg (frc (zof a b).1),bv (zof a b).2],[]):=by
 refine zaf yek rfl ?_
 have e1:=yfe a b ha hb
 obtain ⟨w1,w2⟩:=y8i a b ha.1 hb.1
 have e2:=yxx (zcx a b).1 (zcx a b).2.1 w1 w2
 have hok := @y6e a b
 have e3:=z21 ⟨(zeu (zcx a b).1 (zcx a b).2.1).1,a.d*b.d⟩
 unfold zof zkf
 generalize zcx a b=r at *
 obtain ⟨x,y,o⟩:=r
 simp only at e2 e3 hok ⊢
 generalize zeu x y=s at *
 obtain ⟨s,so⟩:=s
 simp only at e2 e3 ⊢
 cases o with
 | false =>
  simp only [frc,wd] at e1 ⊢
  simp [zu3,zu4,e1,zf9,zca]
 | true =>
  have hm:=y1w (hok rfl)
  generalize frB ⟨s,a.d*b.d⟩=fo at *
  simp only [frc,wd] at e1 e2 e3 ⊢
  cases so <;> cases fo <;> simp [zu3,zu4,e1,e2,e3,hm,frc,zf9,zca]
structure Cnd where
 f:Int
 b:Int
 a:Sl
 z:Sl
deriving DecidableEq
def cnd (c:Cnd):List PV:=[iv c.f,iv c.b,iv c.a.n,iv c.a.g,iv c.z.n,iv c.z.g]
def zhy (c:Cnd):Prop:=inI c.f∧inI c.b∧slI c.a∧slI c.z
structure Bd where
 lo:Int
 hi:Int
def bnd (b:Bd):List PV:=[iv b.lo,iv b.hi]
def zks (b:Bd):Bool:=decide (b.lo≤b.hi) && zef b.lo && zef b.hi
def zf5 (x lo hi:Int):Int:=if x<lo then lo else if hi<x then hi else x
def zov (n l:Int):Bool:=zai n 0 40 && zai l 1 100
def zfp (s:Sl) (l:Int) (b:Bd):Int×Bool:=if (zov s.n l && zks b)=true then (zf5 (fdv s.g (s.n+l)).1 b.lo b.hi,true) else (0,false)
def zeg (s:Sl) (l:Int):Fr×Bool:=if zov s.n l=true then zkf (zjb s.g s.g) (s.n+l) else (zf9,false)
def zdh (c:Cnd) (l:Int):Fr×Bool:=if ((zeg c.a l).2 && (zeg c.z l).2)=true then zof (zeg c.a l).1 (zeg c.z l).1 else (zf9,false)
theorem yfg (b:Bd):RUN T znc [.agg (bnd b)]=some ([bv (zks b)],[]):=by
 refine zaf yd1 rfl ?_
 have e1:=ye0 b.lo
 have e2:=ye0 b.hi
 unfold zks
 generalize zef b.lo=x at *
 generalize zef b.hi=y at *
 by_cases h:b.lo≤b.hi <;> cases x <;> simp [z1m,z1n,bnd,e1,e2,h]
theorem yfh (x lo hi:Int):RUN T znd [iv x,iv lo,iv hi]=some ([iv (zf5 x lo hi)],[]):=by
 refine zaf yd2 rfl ?_
 unfold zf5
 by_cases h1:x<lo
 ·simp [zuv,zuw,h1]
 ·by_cases h2:hi<x <;> simp [zuv,zuw,h1,h2]
theorem ygs {n l:Int} (h:zov n l=true):IntKind.i64.wrap (n+l)=n+l:=by
 unfold zov at h
 simp only [Bool.and_eq_true] at h
 have h1:=za2.mp h.1
 have h2:=za2.mp h.2
 exact w64 (by omega) (by omega)
theorem z5q (s:Sl) (l:Int) (b:Bd) (hs:slI s):RUN T zla [.agg (slc s),iv l,.agg (bnd b)]=some ([iv (zfp s l b).1,bv (zfp s l b).2],[]):=by
 refine zaf yc6 rfl ?_
 have e1:=za5 s.n 0 40
 have e1':=za5 l 1 100
 have e2:=yfg b
 have e3:=z5h s.g (s.n+l) hs.2
 have e4:=yfh (fdv s.g (s.n+l)).1 b.lo b.hi
 have hw := @ygs s.n l
 unfold zfp
 unfold zov at *
 generalize zai s.n 0 40=x at *
 generalize zai l 1 100=x' at *
 generalize zks b=y at *
 generalize fdv s.g (s.n+l)=q at *
 obtain ⟨q,qo⟩:=q
 simp only [bnd] at e2
 cases x with
 | false=>simp [zsd,zse,-zav,slc,bnd,e1]
 | true =>
  cases x' with
  | false=>simp [zsd,zse,-zav,slc,bnd,e1,e1']
  | true =>
   have hw:=hw rfl
   cases y <;> simp [zsd,zse,-zav,slc,bnd,e1,e1',e2,e3,e4,hw]
theorem yx9 (c:Cnd) (h:zhy c):RUN T zrm [.agg (cnd c)]=some ([.agg (slc (zb7 c.a c.z).1),bv (zb7 c.a c.z).2],[]):=by
 refine zaf yei rfl ?_
 have e1:=z5p c.a c.z h.2.2.1 h.2.2.2
 generalize zb7 c.a c.z=p at *
 obtain ⟨⟨pn,pg⟩,pb⟩:=p
 simp only [slc] at e1 ⊢
 simp [z2h,z2i,cnd,e1]
theorem z5r (s:Sl) (l:Int) (hs:slI s):RUN T zlg [.agg (slc s),iv l]=some ([.agg (frc (zeg s l).1),bv (zeg s l).2],[]):=by
 refine zaf yej rfl ?_
 have e1:=za5 s.n 0 40
 have e1':=za5 l 1 100
 have e2:=yx7 s.g (s.n+l) hs.2
 have hw := @ygs s.n l
 unfold zeg
 unfold zov at *
 generalize zai s.n 0 40=x at *
 generalize zai l 1 100=x' at *
 generalize zkf (zjb s.g s.g) (s.n+l)=f at *
 obtain ⟨⟨fw,fd⟩,fb⟩:=f
 simp only [frc] at e2 ⊢
 cases x with
 | false=>simp [zsh,zsi,-zav,slc,e1,zf9,zca]
 | true =>
  cases x' with
  | false=>simp [zsh,zsi,-zav,slc,e1,e1',zf9,zca]
  | true =>
   have hw:=hw rfl
   simp [zsh,zsi,-zav,slc,e1,e1',e2,hw]
theorem ygx (w:Wd) (d:Int) (hw:wfU w):frI (zkf w d).1:=by
 unfold zkf
 split
 ·rename_i h
  simp only [frB,Bool.and_eq_true] at h
  have:=za2.mp h.2
  exact ⟨hw,by unfold inI; simp only; omega⟩
 ·exact ⟨zvl,by unfold inI zf9; simp⟩
theorem z3c:frI zf9:=⟨zvl,by unfold inI zf9; simp⟩
theorem z51 (s:Sl) (l:Int) (hs:slI s):frI (zeg s l).1:=by
 unfold zeg
 split
 ·exact ygx _ _ (y6i hs.2 hs.2)
 ·exact z3c
theorem y4g (a b:Fr):frI (zof a b).1:=by
 unfold zof
 split
 ·split
  ·exact ygx _ _ (y5u _ _)
  ·exact z3c
 ·exact z3c
theorem z8x (c:Cnd) (l:Int):frI (zdh c l).1:=by
 unfold zdh
 split
 ·exact y4g _ _
 ·exact z3c
theorem z5s (c:Cnd) (l:Int) (h:zhy c):RUN T zlf [.agg (cnd c),iv l]=some ([.agg (frc (zdh c l).1),bv (zdh c l).2],[]):=by
 refine zaf yef rfl ?_
 have e1:=z5r c.a l h.2.2.1
 have e2:=z5r c.z l h.2.2.2
 have e3:=yx8 (zeg c.a l).1 (zeg c.z l).1 (z51 _ _ h.2.2.1) (z51 _ _ h.2.2.2)
 unfold zdh
 generalize zeg c.a l=p at *
 generalize zeg c.z l=q at *
 obtain ⟨p,pb⟩:=p
 obtain ⟨q,qb⟩:=q
 simp only at e1 e2 e3 ⊢
 generalize zof p q=r at *
 obtain ⟨r,rb⟩:=r
 simp only [frc,slc] at e1 e2 e3 ⊢
 cases pb <;> cases qb <;> simp [z2d,z2e,cnd,e1,e2,e3,zf9,zca]
abbrev cfS (c:Cfg):PV := .agg [iv c.ro,iv c.de,iv c.bi,iv c.la,iv c.rw,iv c.nu,iv c.dn,.sl 1 (zab c.sg)]
def zcz (c:Cfg) (b:Bd) (x:Cnd):Int×Int×Bool:=if ((zfp x.a c.la b).2 && (zfp x.z c.la b).2)=true then ((zfp x.a c.la b).1,(zfp x.z c.la b).1,true) else (0,0,false)
def zhi (c:Cfg) (f:Int):Int:=(atI c.sg f).getD 0
def z3k (s l r:Int):Bool:=if s=1 then decide (l≤r) else if s = -1 then decide (r≤l) else true
def z3v (x:Cnd) (l:Int):Bool:=(zdh x l).2 && ((zb7 x.a x.z).2 && ((zeg (zb7 x.a x.z).1 l).2 && ((zjf (zdh x l).1 (zeg (zb7 x.a x.z).1 l).1).2 && decide (0<(zjf (zdh x l).1 (zeg (zb7 x.a x.z).1 l).1).1))))
def z4b (a b:Cnd):Bool:=decide (a.f<b.f) || (decide (a.f=b.f) && decide (a.b<b.b))
def zmc (a b:Cnd) (l:Int):Bool:=(zdh a l).2 && ((zdh b l).2 && ((zjf (zdh a l).1 (zdh b l).1).2 && (decide (0<(zjf (zdh a l).1 (zdh b l).1).1) || (decide ((zjf (zdh a l).1 (zdh b l).1).1=0) && z4b a b))))
theorem yfi (c:Cfg) (b:Bd) (x:Cnd) (h:zhy x):RUN T zm4 [cfS c,.agg (bnd b),.agg (cnd x)]=some ([iv (zcz c b x).1,iv (zcz c b x).2.1,bv (zcz c b x).2.2],[]):=by
 have e1:=z5q x.a c.la b h.2.2.1
 have e2:=z5q x.z c.la b h.2.2.2
 unfold zcz
 generalize zfp x.a c.la b=p at *
 generalize zfp x.z c.la b=q at *
 obtain ⟨p,pb⟩:=p
 obtain ⟨q,qb⟩:=q
 simp only [slc,bnd] at e1 e2 ⊢
 refine zaf yc9 rfl ?_
 cases pb <;> cases qb <;> simp [z0b,z0c,cnd,e1,e2]
theorem yfj (c:Cfg) (f:Int) (hl:c.sg.length≤9223372036854775807):RUN T zm5 [cfS c,iv f]=some ([iv (zhi c f)],[]):=by
 refine zaf ydb rfl ?_
 have hw:=w64 (x:=(c.sg.length:Int)-1) (by omega) (by omega)
 have e1:=za5 f 0 ((c.sg.length:Int)-1)
 unfold zhi
 cases hs:atI c.sg f with
 | none =>
  have hn:=zv2 hs
  have:zai f 0 ((c.sg.length:Int)-1)=false:=by
   cases hw:zai f 0 ((c.sg.length:Int)-1) with
   | false=>rfl
   | true=>have:=za2.mp hw; omega
  rw [this] at e1
  simp [zun,zuo,-zav,e1,hw]
 | some x =>
  obtain ⟨j,rfl,hj,hjl⟩:=zkb hs
  rw [show zai j 0 ((c.sg.length:Int)-1)=true from za2.mpr (by omega)] at e1
  have hj':=za7 hj
  simp [-getElem?_pos,zun,zuo,-zav,e1,hw,hj',hjl]
theorem yya (s l r:Int):RUN T zrj [iv s,iv l,iv r]=some ([bv (z3k s l r)],[]):=by
 refine zaf yed rfl ?_
 unfold z3k
 by_cases h1:s=1
 ·by_cases h3:l≤r <;> simp [zuz,zu0,h1,h3]
 ·by_cases h2:s = -1 <;> simp [zuz,zu0,h1,h2]
theorem yyb (x:Cnd) (l:Int) (h:zhy x):RUN T zrk [.agg (cnd x),iv l]=some ([bv (z3v x l)],[]):=by
 refine zaf yee rfl ?_
 have hp:=zwk (b:=x.z) h.2.2.1
 have e1:=z5s x l h
 have e2:=yx9 x h
 have e3:=z5r (zb7 x.a x.z).1 l hp
 have e4:=yff (zdh x l).1 (zeg (zb7 x.a x.z).1 l).1 (z8x _ _) (z51 _ _ hp)
 unfold z3v
 generalize zdh x l=g at *
 generalize zb7 x.a x.z=p at *
 obtain ⟨p,pb⟩:=p
 simp only at e2 e3 e4 ⊢
 generalize zeg p l=q at *
 obtain ⟨g,gb⟩:=g
 obtain ⟨q,qb⟩:=q
 simp only at e1 e3 e4 ⊢
 generalize zjf g q=m at *
 obtain ⟨m,mb⟩:=m
 simp only [frc,slc,cnd] at e1 e2 e3 e4 ⊢
 cases gb <;> cases pb <;> cases qb <;> cases mb <;> simp [z2b,z2c,e1,e2,e3,e4]
theorem yyc (a b:Cnd):RUN T zrl [.agg (cnd a),.agg (cnd b)]=some ([bv (z4b a b)],[]):=by
 refine zaf yeh rfl ?_
 unfold z4b
 by_cases h1:a.f<b.f
 ·simp [zu1,zu2,cnd,h1]
 ·by_cases h2:a.f=b.f <;> simp [zu1,zu2,cnd,h1,h2]
theorem yyd (a b:Cnd) (l:Int) (ha:zhy a) (hb:zhy b):RUN T zld [.agg (cnd a),.agg (cnd b),iv l]=some ([bv (zmc a b l)],[]):=by
 have e1:=z5s a l ha
 have e2:=z5s b l hb
 have e3:=yff (zdh a l).1 (zdh b l).1 (z8x _ _) (z8x _ _)
 have e4:=yyc a b
 unfold zmc
 generalize zdh a l=g at *
 generalize zdh b l=q at *
 generalize z4b a b=le at *
 obtain ⟨g,gb⟩:=g
 obtain ⟨q,qb⟩:=q
 simp only at e1 e2 e3 ⊢
 generalize zjf g q=m at *
 obtain ⟨m,mb⟩:=m
 simp only [frc,cnd] at e1 e2 e3 e4 ⊢
 refine zaf yea rfl ?_
 cases gb <;> cases qb <;> cases mb <;> by_cases h1:0<m <;> by_cases h2:m=0 <;> simp [z12,z13,e1,e2,e3,e4,h1,h2]
def zhn (c:Cfg) (b:Bd) (x:Cnd):Bool:=zbm c && ((zcz c b x).2.2 && (decide (c.rw≤x.a.n) && (decide (c.rw≤x.z.n) && (z3k (zhi c x.f) (zcz c b x).1 (zcz c b x).2.1 && z3v x c.la))))
theorem yye (c:Cfg) (b:Bd) (x:Cnd) (h:zhy x) (hl:c.sg.length≤9223372036854775807):RUN T zjn [cfS c,.agg (bnd b),.agg (cnd x)]=some ([bv (zhn c b x)],[]):=by
 have e1:=yfi c b x h
 have e2:=zva c hl
 have e3:=yfj c x.f hl
 have e5:=yyb x c.la h
 unfold zhn
 generalize zcz c b x=p at *
 obtain ⟨p1,p2,pb⟩:=p
 have e4:=yya (zhi c x.f) p1 p2
 simp only at e1 ⊢
 generalize zhi c x.f=s at *
 generalize z3k s p1 p2=ab at *
 generalize z3v x c.la=ib at *
 generalize zbm c=cb at *
 simp only [cnd,bnd] at e1 e5 ⊢
 refine zaf yd9 rfl ?_
 cases cb <;> cases pb <;> by_cases h1:c.rw≤x.a.n <;> by_cases h2:c.rw≤x.z.n <;> cases ab <;> simp [z1y,z1z,e1,e2,e3,e4,e5,h1,h2]
def zep (l:List Cnd):List (List PV):=l.map cnd
@[simp] theorem qs4 (l:List Cnd):(zep l).length=l.length:=by simp [zep]
theorem yg4 {l:List Cnd} {i:Nat} {x:Cnd} (h:l[i]?=some x):(zep l)[i]?=some (cnd x):=by simp [zep,h]
def noB (c:Cfg) (b:Bd) (x y:Cnd):Bool := !zhn c b y || !zmc y x c.la
def zs6 (c:Cfg) (b:Bd) (l:List Cnd) (x:Cnd):Bool:=zhn c b x && l.all (noB c b x)
def ztj:Cnd:=⟨0,0,⟨0,0⟩,⟨0,0⟩⟩
def zg7 (c:Cfg) (b:Bd) (l:List Cnd):Cnd×Bool:=match l.find? (zs6 c b l) with
 | some x=>(x,true)
 | none=>(ztj,false)
set_option maxHeartbeats 1000000 in
theorem yyf (c:Cfg) (b:Bd) (l:List Cnd) (hl:l.length≤1048576) (hc:c.sg.length≤1048576) (hi : ∀ x∈l,zhy x):RUN T zrb [cfS c,.agg (bnd b),.sl 6 (zep l)]=some ([.agg (cnd (zg7 c b l).1),bv (zg7 c b l).2],[]):=by
 have eM : ∀ x∈l,RUN T zjn [cfS c,.agg (bnd b),.agg (cnd x)]=some ([bv (zhn c b x)],[]):=fun x hx=>yye c b x (hi x hx) (by omega)
 have eB : ∀ x∈l,∀ y∈l,RUN T zld [.agg (cnd x),.agg (cnd y),iv c.la]=some ([bv (zmc x y c.la)],[]):=fun x hx y hy=>yyd x y c.la (hi x hx) (hi y hy)
 obtain ⟨R,hR⟩ : ∃ R,R=zg7 c b l:=⟨_,rfl⟩
 unfold zg7 at hR
 rw [show zg7 c b l=R by rw [hR]; rfl]
 simp only [bnd] at eM ⊢
 refine zaf ydz rfl ?_
 simp [-getElem?_pos,z1h,z1i]
 refine zas (fun n st => ∃ i:Nat,i+n=l.length∧(l.drop i).find? (zs6 c b l)=l.find? (zs6 c b l)∧st.V 2 = .sl 6 (zep l)∧st.V 3 = .ptr 0 none 0 0 0∧st.V 4 = .ptr 1 none 0 0 0∧st.V 6 = .ptr 2 none 0 0 0∧st.V 8=iv i∧st.S 0=some (.box [iv c.ro,iv c.de,iv c.bi,iv c.la,iv c.rw,iv c.nu,iv c.dn,.sl 1 (zab c.sg)])∧st.S 1=some (.box [iv b.lo,iv b.hi])∧st.S 2=some (.box [iv 0,iv 0,iv 0,iv 0,iv 0,iv 0])) ?_ l.length _ ⟨0,by simp⟩
 rintro n st ⟨i,hin,hf,v2,v3,v4,v6,v8,hS0,hS1,hS2⟩
 by_cases h:i<l.length
 ·obtain ⟨x,hx⟩ : ∃ x,l[i]?=some x:=⟨_,List.getElem?_eq_getElem h⟩
  have hx':=yg4 hx
  have hxm:=List.mem_of_getElem? hx
  have hws:=wS h (by omega:l.length≤9223372036854775807)
  rw [zct hx,List.find?_cons] at hf
  have e1:=eM x hxm
  simp only [cnd] at e1
  have eB' : ∀ y∈l,RUN T zld [.agg [iv y.f,iv y.b,iv y.a.n,iv y.a.g,iv y.z.n,iv y.z.g],.agg [iv x.f,iv x.b,iv x.a.n,iv x.a.g,iv x.z.n,iv x.z.g],iv c.la]=some ([bv (zmc y x c.la)],[]):=fun y hy=>eB y hy x hxm
  have eM' : ∀ y∈l,RUN T zjn [cfS c,.agg [iv b.lo,iv b.hi],.agg [iv y.f,iv y.b,iv y.a.n,iv y.a.g,iv y.z.n,iv y.z.g]]=some ([bv (zhn c b y)],[]):=fun y hy=>eM y hy
  clear eM eB
  obtain ⟨kb0,hkb⟩ : ∃ k,k=zs6 c b l x:=⟨_,rfl⟩
  rw [← hkb] at hf
  have hkb2:kb0=(zhn c b x && (l.drop 0).all (noB c b x)):=by rw [hkb]; rfl
  clear hkb
  generalize hmx:zhn c b x=mx at *
  simp [-getElem?_pos,z5d,v2,v3,v4,v6,v8,hS0,hS1,hS2,h,hx',cnd,e1]
  refine zas (fun n' s => ∃ (j:Nat) (k:Bool),j+n'=l.length∧(k && (l.drop j).all (noB c b x))=kb0∧s.V 2 = .sl 6 (zep l)∧s.V 3 = .ptr 0 none 0 0 0∧s.V 4 = .ptr 1 none 0 0 0∧s.V 6 = .ptr 2 none 0 0 0∧s.V 8=iv i∧s.V 9=bv k∧s.V 10=iv j∧s.S 0=some (.box [iv c.ro,iv c.de,iv c.bi,iv c.la,iv c.rw,iv c.nu,iv c.dn,.sl 1 (zab c.sg)])∧s.S 1=some (.box [iv b.lo,iv b.hi])∧s.S 2=some (.box [iv 0,iv 0,iv 0,iv 0,iv 0,iv 0])) ?_ l.length _ ⟨0,mx,by omega,hkb2.symm,by simp [v2],by simp [v3],by simp [v4],by simp [v6],by simp [v8],by simp,by simp,by simp [hS0],by simp [hS1],by simp [hS2]⟩
  clear v2 v3 v4 v6 v8 hS0 hS1 hS2
  rintro n' s ⟨j,k,hj,hk,v2,v3,v4,v6,v8,v9,v10,hS0,hS1,hS2⟩
  by_cases hjl:j<l.length
  ·cases k with
   | true =>
    obtain ⟨y,hy⟩ : ∃ y,l[j]?=some y:=⟨_,List.getElem?_eq_getElem hjl⟩
    have hy':=yg4 hy
    have hym:=List.mem_of_getElem? hy
    have hwj:=wS hjl (by omega:l.length≤9223372036854775807)
    have e2:=eM' y hym
    have e3:=eB' y hym
    rw [zct hy,List.all_cons] at hk
    have hno:noB c b x y=(!zhn c b y || !zmc y x c.la):=rfl
    rw [hno] at hk
    clear eM' eB' e1 hno
    generalize zhn c b y=my at *
    generalize zmc y x c.la=by' at *
    cases my <;> cases by' <;> simp [-getElem?_pos,zuu,v2,v3,v4,v6,v8,hS0,hS1,hS2,v9,v10,hjl,h,hx',hy',cnd,e2,e3,hwj]
    all_goals first
     | exact zal (n'-1) (by omega) ⟨j+1,true,by omega,(by simpa using hk),by simp [v2],by simp [v3],by simp [v4],by simp [v6],by simp [v8],by simp,by simp,by simp [hS0],by simp [hS1],by simp [hS2]⟩
     | exact zal (n'-1) (by omega) ⟨j+1,false,by omega,(by simpa using hk),by simp [v2],by simp [v3],by simp [v4],by simp [v6],by simp [v8],by simp,by simp,by simp [hS0],by simp [hS1],by simp [hS2]⟩
   | false =>
    have hk0:kb0=false:=by rw [← hk]; rfl
    subst hk0
    simp only at hf
    simp [-getElem?_pos,zuu,v2,v3,v4,v6,v8,hS0,hS1,hS2,v9,v10,hjl,hws]
    exact zal (n-1) (by omega) ⟨i+1,by omega,hf,by simp [v2],by simp [v3],by simp [v4],by simp [v6],by simp,by simp [hS0],by simp [hS1],by simp [hS2]⟩
  ·rw [List.drop_eq_nil_of_le (by omega)] at hk
   simp only [List.all_nil,Bool.and_true] at hk
   subst hk
   cases k with
   | true =>
    simp only at hf
    rw [← hf] at hR
    simp only at hR
    subst hR
    simp [-getElem?_pos,zuu,v2,v3,v4,v6,v8,hS0,hS1,hS2,v9,v10,hjl,h,hx',cnd]
   | false =>
    simp only at hf
    simp [-getElem?_pos,zuu,v2,v3,v4,v6,v8,hS0,hS1,hS2,v9,v10,hjl,hws]
    exact zal (n-1) (by omega) ⟨i+1,by omega,hf,by simp [v2],by simp [v3],by simp [v4],by simp [v6],by simp,by simp [hS0],by simp [hS1],by simp [hS2]⟩
 ·rw [List.drop_eq_nil_of_le (by omega)] at hf
  rw [← hf] at hR
  simp only [List.find?_nil] at hR
  subst hR
  simp [-getElem?_pos,z5d,v2,v6,v8,hS2,h,ztj,cnd]
def ze2 (a b:Sl):Sl×Bool:=if ((sbi a.n b.n).2 && (sbi a.g b.g).2)=true then (⟨(sbi a.n b.n).1,(sbi a.g b.g).1⟩,true) else (⟨0,0⟩,false)
theorem yge {a b:Int}:inI (sbi a b).1:=by
 unfold sbi inI
 split
 ·rename_i h; simpa using h
 ·simp
theorem y2m (a b:Sl):slI (ze2 a b).1:=by
 unfold ze2
 split
 ·exact ⟨yge,yge⟩
 ·unfold slI inI; simp
def zdo (s:Sl):List Sl→Option (List Sl)
 | []=>some []
 | x::xs=>if (zb7 s x).2=true then (zdo (zb7 s x).1 xs).map ((zb7 s x).1 :: ·) else none
def zcp (h:List Sl):List Sl×Bool:=match zdo ⟨0,0⟩ h with
 | some l=>(l,true)
 | none=>([],false)
theorem yf9 : ∀ (h:List Sl) (s:Sl) (l:List Sl),slI s→zdo s h=some l→l.length=h.length∧∀ x∈l,slI x
 | [],s,l,_,e=>by simp [zdo] at e; subst e; simp
 | x::xs,s,l,hs,e=>by
  simp only [zdo] at e
  split at e
  ·simp only [Option.map_eq_some_iff] at e
   obtain ⟨l',h1,rfl⟩:=e
   have hp:=zwk (b:=x) hs
   obtain ⟨h2,h3⟩:=yf9 xs _ _ hp h1
   refine ⟨by simp [h2],fun y hy => ?_⟩
   rcases List.mem_cons.mp hy with e | e
   ·subst e; exact hp
   ·exact h3 y e
  ·cases e
theorem z60:slI ⟨0,0⟩:=⟨by unfold inI; simp,by unfold inI; simp⟩
theorem yka (h:List Sl):(zcp h).1.length≤h.length∧(∀ x∈(zcp h).1,slI x)∧((zcp h).2=true→(zcp h).1.length=h.length):=by
 unfold zcp
 cases e:zdo ⟨0,0⟩ h with
 | none=>simp
 | some l =>
  obtain ⟨h1,h2⟩:=yf9 h _ l z60 e
  exact ⟨by simp [h1],h2,fun _=>h1⟩
def zfr (f:Int) (all:Sl) (least:Int):Int→List Sl→List Cnd→Option (List Cnd)
 | b,x::y::xs,acc=>if (ze2 all x).2=true then zfr f all least (b+1) (y::xs) (if least≤x.n∧least≤(ze2 all x).1.n then acc++[⟨f,b,x,(ze2 all x).1⟩] else acc) else none
 | _,_,acc=>some acc
def zh9 (l:List Sl):Sl:=l.getLast?.getD ⟨0,0⟩
def zex (least:Int):Int→List (List Sl)→List Cnd→Option (List Cnd)
 | _,[],acc=>some acc
 | f,h::hs,acc=>if (zcp h).2=true then match zfr f (zh9 (zcp h).1) least 0 (zcp h).1 acc with
  | some a=>zex least (f+1) hs a
  | none=>none
  else none
def zf0 (H:List (List Sl)) (least:Int):List Cnd:=(zex least 0 H []).getD []
theorem z8s {f:Int} {all:Sl} {least:Int} {l:List Sl} {i:Nat} {x:Sl} (acc:List Cnd) (hx:l[i]?=some x) (hi:i+1<l.length):zfr f all least i (l.drop i) acc=if (ze2 all x).2=true then zfr f all least (i+1:Nat) (l.drop (i+1)) (if least≤x.n∧least≤(ze2 all x).1.n then acc++[⟨f,i,x,(ze2 all x).1⟩] else acc) else none:=by
 rw [zct hx,zct (List.getElem?_eq_getElem hi),zfr]
 simp
theorem zv1 {f:Int} {all:Sl} {least:Int} {l:List Sl} {i:Nat} (acc:List Cnd) (hi : ¬ i+1<l.length):zfr f all least i (l.drop i) acc=some acc:=by
 match h:l.drop i with
 | []=>rw [zfr]; simp
 | [x]=>rw [zfr]; simp
 | x::y::xs =>
  have:=congrArg List.length h
  simp at this; omega
theorem y00 {l:List Sl} {x:Sl} (h:l[l.length-1]?=some x):zh9 l=x:=by
 unfold zh9; rw [List.getLast?_eq_getElem?,h]; rfl
def zs4 (H:List (List Sl)) (x:Cnd):Prop := ∃ (f b:Nat) (h:List Sl),x.f=f∧x.b=b∧H[f]?=some h∧b+1<h.length∧slI x.a∧slI x.z
theorem z72 {f:Int} {all:Sl} {least:Int} {p:Cnd→Prop} {l:List Sl} (hl : ∀ x∈l,slI x) (hp : ∀ (b:Nat) (x z:Sl),b+1<l.length→slI x→slI z→p ⟨f,b,x,z⟩) : ∀ (k i:Nat) (acc a:List Cnd),i+k=l.length→(∀ x∈acc,p x)→zfr f all least i (l.drop i) acc=some a→a.length≤acc.length+k∧∀ x∈a,p x
 | 0,i,acc,a,hk,ha,h=>by
  rw [zv1 acc (by omega)] at h
  cases h
  exact ⟨by omega,ha⟩
 | k+1,i,acc,a,hk,ha,h=>by
  by_cases hi:i+1<l.length
  ·obtain ⟨x,hx⟩ : ∃ x,l[i]?=some x:=⟨_,List.getElem?_eq_getElem (by omega)⟩
   rw [z8s acc hx hi] at h
   have hxi:=hl x (List.mem_of_getElem? hx)
   split at h
   ·split at h
    ·obtain ⟨h1,h2⟩:=z72 hl hp k (i+1) _ _ (by omega) (fun y hy=>by
      rcases List.mem_append.mp hy with e | e
      ·exact ha y e
      ·simp only [List.mem_singleton] at e; subst e; exact hp i x _ hi hxi (y2m _ _)) h
     exact ⟨by simp at h1; omega,h2⟩
    ·obtain ⟨h1,h2⟩:=z72 hl hp k (i+1) _ _ (by omega) ha h
     exact ⟨by omega,h2⟩
   ·cases h
  ·rw [zv1 acc hi] at h
   cases h
   exact ⟨by omega,ha⟩
theorem z77 {least:Int} {H:List (List Sl)} {i:Nat} {h:List Sl} (acc:List Cnd) (hx:H[i]?=some h):zex least i (H.drop i) acc=if (zcp h).2=true then match zfr i (zh9 (zcp h).1) least 0 (zcp h).1 acc with
  | some a=>zex least (i+1:Nat) (H.drop (i+1)) a
  | none=>none
  else none:=by
 rw [zct hx,zex]
 simp
theorem yi9 {least:Int} {H:List (List Sl)} {m:Nat} (hm : ∀ l∈H,l.length≤m) : ∀ (k i:Nat) (acc a:List Cnd),i+k=H.length→(∀ x∈acc,zs4 H x)→zex least i (H.drop i) acc=some a→a.length≤acc.length+m*k∧∀ x∈a,zs4 H x
 | 0,i,acc,a,hk,ha,h=>by
  rw [List.drop_eq_nil_of_le (by omega),zex] at h
  cases h
  exact ⟨by omega,ha⟩
 | k+1,i,acc,a,hk,ha,h=>by
  obtain ⟨l,hx⟩ : ∃ x,H[i]?=some x:=⟨_,List.getElem?_eq_getElem (by omega)⟩
  rw [z77 acc hx] at h
  obtain ⟨p1,p2,p3⟩:=yka l
  split at h
  ·rename_i hp
   split at h
   ·rename_i a' h'
    have h'':zfr i (zh9 (zcp l).1) least ((0:Nat):Int) ((zcp l).1.drop 0) acc=some a':=by simpa using h'
    obtain ⟨q1,q2⟩:=z72 (p:=zs4 H) p2 (fun b x z hb hx' hz'=>⟨i,b,l,rfl,rfl,hx,by omega,hx',hz'⟩) (zcp l).1.length 0 acc a' (by omega) ha h''
    obtain ⟨r1,r2⟩:=yi9 hm k (i+1) a' a (by omega) q2 h
    have:=hm l (List.mem_of_getElem? hx)
    refine ⟨?_,r2⟩
    rw [Nat.mul_add]
    omega
   ·cases h
  ·cases h
theorem yil {least:Int} {H:List (List Sl)} {m:Nat} (hm : ∀ l∈H,l.length≤m):(zf0 H least).length≤m*H.length∧∀ x∈zf0 H least,zs4 H x:=by
 unfold zf0
 cases h:zex least 0 H [] with
 | none=>simp
 | some a =>
  have h':zex least ((0:Nat):Int) (H.drop 0) []=some a:=by simpa using h
  obtain ⟨h1,h2⟩:=yi9 hm H.length 0 [] a (by omega) (fun x hx=>by cases hx) h'
  exact ⟨by simpa using h1,h2⟩
theorem yj7 {H:List (List Sl)} {x:Cnd} (hH:H.length≤1048576) (hl : ∀ l∈H,l.length≤1048576) (h:zs4 H x):zhy x:=by
 obtain ⟨f,b,l,h1,h2,h3,h4,h5,h6⟩:=h
 have:=(List.getElem?_eq_some_iff.mp h3).1
 have:=hl l (List.mem_of_getElem? h3)
 exact ⟨by unfold inI; omega,by unfold inI; omega,h5,h6⟩
theorem yk4 {c:Cfg} {b:Bd} {l:List Cnd} (h:(zg7 c b l).2=true):(zg7 c b l).1∈l∧zhn c b (zg7 c b l).1=true∧∀ y∈l,zhn c b y=true→zmc y (zg7 c b l).1 c.la=false:=by
 unfold zg7 at h ⊢
 cases e:l.find? (zs6 c b l) with
 | none=>rw [e] at h; cases h
 | some x =>
  simp only
  have h1:=List.mem_of_find?_eq_some e
  have h2:=List.find?_some e
  unfold zs6 at h2
  simp only [Bool.and_eq_true] at h2
  refine ⟨h1,h2.1,fun y hy hm => ?_⟩
  have:=List.all_eq_true.mp h2.2 y hy
  unfold noB at this
  rw [hm] at this
  simpa using this
theorem y4l : ∀ x y:Nat,2*(x &&& y)+(x ^^^ y)=x+y:=by
 intro x
 induction x using Nat.strongRecOn with
 | _ x ih =>
  intro y
  by_cases hx:x=0
  ·subst hx; simp
  ·have h1:=ih (x / 2) (by omega) (y / 2)
   have h2:(x &&& y) / 2=x / 2 &&& y / 2:=by rw [Nat.and_div_two]
   have h3:(x ^^^ y) / 2=x / 2 ^^^ y / 2:=by rw [Nat.xor_div_two]
   have h4:(x &&& y) % 2=1↔x % 2=1∧y % 2=1:=Nat.and_mod_two_eq_one
   have h5:(x ^^^ y) % 2=1↔¬ (x % 2=1↔y % 2=1):=Nat.xor_mod_two_eq_one
   omega
def zcr (a:Int):Nat:=(a % 18446744073709551616).toNat
theorem z4q {a:Int} (h:inI a):(zcr a:Int)=if a<0 then a+18446744073709551616 else a:=by
 unfold inI at h
 unfold zcr
 split <;> omega
theorem z3j (a:Int):zcr a<18446744073709551616:=by
 unfold zcr; omega
theorem z83 {n:Nat} (h:n<18446744073709551616):IntKind.i64.wrap n=if n<9223372036854775808 then (n:Int) else n-18446744073709551616:=by
 split
 ·exact w64 (by omega) (by omega)
 ·simp [IntKind.wrap,IntKind.signed,IntKind.bits]
  omega
theorem y5p (x y:Nat) (hx:x<18446744073709551616) (hy:y<18446744073709551616):(9223372036854775808≤(x &&& y)↔9223372036854775808≤x∧9223372036854775808≤y)∧(9223372036854775808≤(x ^^^ y)↔¬ (9223372036854775808≤x↔9223372036854775808≤y)):=by
 have h1:(x &&& y) >>> 63=x >>> 63 &&& y >>> 63:=Nat.shiftRight_and_distrib
 have h2:(x ^^^ y) >>> 63=x >>> 63 ^^^ y >>> 63:=Nat.shiftRight_xor_distrib
 rw [Nat.shiftRight_eq_div_pow,Nat.shiftRight_eq_div_pow,Nat.shiftRight_eq_div_pow] at h1 h2
 have hx':x / 2 ^ 63=0∨x / 2 ^ 63=1:=by omega
 have hy':y / 2 ^ 63=0∨y / 2 ^ 63=1:=by omega
 rcases hx' with e1 | e1 <;> rcases hy' with e2 | e2 <;> rw [e1,e2] at h1 h2 <;> simp at h1 h2 <;> omega
theorem yhl {x y:Nat} (hx:x<18446744073709551616):(x &&& y)<18446744073709551616:=Nat.lt_of_le_of_lt Nat.and_le_left hx
theorem y3u {x y:Nat} (hx:x<18446744073709551616) (hy:y<18446744073709551616):(x ^^^ y)<18446744073709551616:=Nat.xor_lt_two_pow (n:=64) hx hy
theorem y4d {a b:Int} (ha:inI a) (hb:inI b):2*IntKind.i64.wrap ((zcr a &&& zcr b:Nat):Int)+IntKind.i64.wrap ((zcr a ^^^ zcr b:Nat):Int)=a+b:=by
 have la:=z3j a
 have lb:=z3j b
 have ea:=z4q ha
 have eb:=z4q hb
 obtain ⟨t1,t2⟩:=y5p _ _ la lb
 have hs:=y4l (zcr a) (zcr b)
 rw [z83 (yhl la),z83 (y3u la lb)]
 unfold inI at ha hb
 generalize zcr a &&& zcr b=p at *
 generalize zcr a ^^^ zcr b=q at *
 split at ea <;> split at eb <;> split <;> split <;> omega
theorem y45 {a b:Int} (ha:inI a) (hb:inI b):inI (IntKind.i64.wrap ((zcr a &&& zcr b:Nat):Int))∧(IntKind.i64.wrap ((zcr a &&& zcr b:Nat):Int) % 2=1↔a % 2=1∧b % 2=1):=by
 have la:=z3j a
 have lb:=z3j b
 have ea:=z4q ha
 have eb:=z4q hb
 have h4:(zcr a &&& zcr b) % 2=1↔zcr a % 2=1∧zcr b % 2=1:=Nat.and_mod_two_eq_one
 have hl:=yhl (y:=zcr b) la
 rw [z83 hl]
 unfold inI at *
 generalize zcr a &&& zcr b=p at *
 split at ea <;> split at eb <;> split <;> omega
def zio (a b:Int):Int:=(a+b) / 2
theorem yyg (a b:Int) (ha:inI a) (hb:inI b):RUN T zrd [iv a,iv b]=some ([iv (zio a b)],[]):=by
 refine zaf yd3 rfl ?_
 have h:=y4d ha hb
 obtain ⟨h1,_⟩:=y45 ha hb
 unfold zcr at h h1
 unfold inI at ha hb h1
 have hb64:IntKind.i64.bits=64:=rfl
 simp [z1o,z1p,hb64]
 rw [Int.fdiv_eq_ediv_of_nonneg _ (by omega)]
 unfold zio
 generalize IntKind.i64.wrap (((a % 18446744073709551616).toNat &&& (b % 18446744073709551616).toNat:Nat):Int)=p at *
 generalize IntKind.i64.wrap (((a % 18446744073709551616).toNat ^^^ (b % 18446744073709551616).toNat:Nat):Int)=q at *
 rw [w64 (by omega) (by omega)]
 omega
def ziq (s:Int) (b:Bd) (l r:Int):Bd×Bd:=if zks b=true then (if s=1 then (⟨b.lo,zf5 (zio l r) b.lo b.hi⟩,⟨zf5 (zio l r) b.lo b.hi,b.hi⟩) else if s = -1 then (⟨zf5 (zio l r) b.lo b.hi,b.hi⟩,⟨b.lo,zf5 (zio l r) b.lo b.hi⟩) else (b,b)) else (b,b)
theorem yyh (s:Int) (b:Bd) (l r:Int) (hl:inI l) (hr:inI r):RUN T zqx [iv s,.agg (bnd b),iv l,iv r]=some ([.agg (bnd (ziq s b l r).1),.agg (bnd (ziq s b l r).2)],[]):=by
 have e1:=yfg b
 have e2:=yyg l r hl hr
 have e3:=yfh (zio l r) b.lo b.hi
 refine zaf yda rfl ?_
 unfold ziq
 generalize zks b=q at *
 generalize zf5 (zio l r) b.lo b.hi=m at *
 obtain ⟨lo,hi⟩:=b
 simp only [bnd] at *
 cases q with
 | false=>simp [zsf,zsg,e1]
 | true =>
  by_cases h1:s=1
  ·simp [zsf,zsg,e1,e2,e3,h1]
  ·by_cases h2:s = -1 <;> simp [zsf,zsg,e1,e2,e3,h1,h2]
theorem y60 (m:List Sl) (x:Sl):zb9 m++[[iv x.n,iv x.g]]=zb9 (m++[x]):=by simp [zb9,slc]
theorem y7r {s x:Sl} {h:List Sl} {i:Nat} (hx:h[i]?=some x):zdo s (h.drop i)=if (zb7 s x).2=true then (zdo (zb7 s x).1 (h.drop (i+1))).map ((zb7 s x).1 :: ·) else none:=by
 rw [zct hx,zdo]
set_option maxHeartbeats 1000000 in
theorem yyi (h:List Sl) (hl:h.length≤1048576) (hi : ∀ x∈h,slI x):RUN T zri [.sl 2 (zb9 h)]=some ([.own 2 (zb9 (zcp h).1),bv (zcp h).2],[]):=by
 obtain ⟨R,hR⟩ : ∃ R,R=zcp h:=⟨_,rfl⟩
 have hR':R=match zdo ⟨0,0⟩ h with
  | some l=>(l,true)
  | none=>([],false):=by rw [hR]; rfl
 rw [← hR]
 clear hR
 have hr0:zaj 16 0=true:=by decide
 have hr1:zaj 16 1=true:=by decide
 refine zaf yeb rfl ?_
 simp [-getElem?_pos,z17,z18,hr0]
 refine zas (fun n st => ∃ (i o e:Nat) (m:List Sl) (s:Sl),i+n=h.length∧m.length=i∧slI s∧zdo ⟨0,0⟩ h=(zdo s (h.drop i)).map (m ++ ·)∧st.V 0 = .sl 2 (zb9 h)∧st.V 4 = .ref o none e 0 m.length∧st.V 5 = .ptr 1 none 0 0 0∧st.V 6=iv i∧¬ o=1∧o<st.nx∧1<st.nx∧st.S o=some (.row 2 (zb9 m))∧st.S 1=some (.box [iv s.n,iv s.g])) ?_ h.length _ ⟨0,0,0,[],⟨0,0⟩,by omega,rfl,z60,by simp,by simp,by simp,by simp,by simp,by simp,by simp,by simp,by simp [zb9],by simp⟩
 rintro n st ⟨i,o,ep,m,s,hin,hm,hs,hp,v0,v4,v5,v6,ho1,hox,h1x,hSo,hS1⟩
 obtain ⟨x1,x2,x3,x4⟩:=fr hox
 obtain ⟨z1,z2,z3,z4⟩:=fr h1x
 obtain ⟨a1,a2,a3,a4⟩:=fr (show o<st.nx+1 by omega)
 obtain ⟨c1,c2,c3,c4⟩:=fr (show 1<st.nx+1 by omega)
 have ho2 : ¬ 1=o:=fun e=>ho1 e.symm
 have hn0 : ¬ st.nx=0:=by omega
 have hn1 : ¬ 1=st.nx+1:=by omega
 by_cases hlt:i<h.length
 ·obtain ⟨x,hx⟩ : ∃ x,h[i]?=some x:=⟨_,List.getElem?_eq_getElem hlt⟩
  have hx':=z4v hx
  have hws:=wS hlt (by omega:h.length≤9223372036854775807)
  have hr16:zaj 16 (m.length+1)=true:=by simp [zaj]; omega
  have e1:=z5p s x hs (hi x (List.mem_of_getElem? hx))
  have hpi:=zwk (b:=x) hs
  rw [y7r hx] at hp
  generalize zb7 s x=p at *
  obtain ⟨⟨pn,pg⟩,pb⟩:=p
  simp only [slc] at e1 hp hpi
  cases pb with
  | false =>
   rw [if_neg (by simp)] at hp
   rw [hp] at hR'
   subst hR'
   simp [-getElem?_pos,z16,v0,v4,v5,v6,hlt,hx',hSo,hS1,hr0,e1,ho1,ho2,hn0,x1,x2,x3,x4,z1,z2,z3,z4,a1,a2,a3,a4,c1,c2,c3,c4]
   simp [zb9]
  | true =>
   rw [if_pos rfl] at hp
   have hsn:=y60 m ⟨pn,pg⟩
   simp only at hsn
   simp [-getElem?_pos,z16,v0,v4,v5,v6,hlt,hx',hSo,hS1,hr1,hr16,hws,hsn,e1,ho1,ho2,hn0,x1,x2,x3,x4,z1,z2,z3,z4,a1,a2,a3,a4,c1,c2,c3,c4]
   exact zal (n-1) (by omega) ⟨i+1,st.nx+2,st.ep,m++[⟨pn,pg⟩],⟨pn,pg⟩,by omega,by simp [hm],hpi,by rw [hp]; cases zdo ⟨pn,pg⟩ (h.drop (i+1)) <;> simp,by simp [v0],by simp,by simp [v5],by simp,by omega,by simp,by simp <;> omega,by simp [hn0],by simp [hn0,ho1,ho2]⟩
 ·rw [List.drop_eq_nil_of_le (by omega),zdo] at hp
  simp only [Option.map_some,List.append_nil] at hp
  rw [hp] at hR'
  subst hR'
  simp [-getElem?_pos,z16,v0,v4,v6,hlt,hSo]
theorem y4u (m:List Cnd) (x:Cnd):zep m++[[iv x.f,iv x.b,iv x.a.n,iv x.a.g,iv x.z.n,iv x.z.g]]=zep (m++[x]):=by simp [zep,cnd]
set_option maxHeartbeats 4000000 in
set_option maxRecDepth 4000 in
theorem yyj (q:Bool) (H:List (List Sl)) (least:Int) (hH:H.length≤16) (hl : ∀ l∈H,l.length≤16) (hi : ∀ l∈H,∀ x∈l,slI x):RUN T zrc [.sl 1 (rss q H),iv least]=some ([.own 6 (zep (zf0 H least))],[]):=by
 obtain ⟨R,hR⟩ : ∃ R,R=zf0 H least:=⟨_,rfl⟩
 have hR':R=(zex least 0 H []).getD []:=hR
 rw [← hR]
 clear hR
 have hr0:zaj 48 0=true:=by decide
 have hr1:zaj 48 1=true:=by decide
 refine zaf yd0 rfl ?_
 simp [-getElem?_pos,z1k,z1l,hr0]
 refine zas (fun n st => ∃ (i o e:Nat) (acc:List Cnd),i+n=H.length∧acc.length≤16*i∧zex least i (H.drop i) acc=zex least 0 H []∧st.V 1=iv least∧st.V 5 = .ref o none e 0 acc.length∧st.V 0 = .sl 1 (rss q H)∧st.V 6=iv i∧o<st.nx∧st.S o=some (.row 6 (zep acc))) ?_ H.length _ ⟨0,0,0,[],by omega,by simp,by simp,by simp,by simp,by simp,by simp,by simp,by simp [zep]⟩
 rintro n st ⟨i,o,ep,acc,hin,hacc,hF,v1,v5,v0,v6,hox,hSo⟩
 obtain ⟨x1,x2,x3,x4⟩:=fr hox
 by_cases hlt:i<H.length
 ·obtain ⟨l,hx⟩ : ∃ x,H[i]?=some x:=⟨_,List.getElem?_eq_getElem hlt⟩
  have hx':=y5b (q:=q) hx
  have hlm:=List.mem_of_getElem? hx
  have hws:=wS hlt (by omega:H.length≤9223372036854775807)
  have hll:=hl l hlm
  have e1:=yyi l (by omega) (hi l hlm)
  obtain ⟨p1,p2,p3⟩:=yka l
  rw [z77 acc hx] at hF
  generalize zcp l=p at *
  obtain ⟨sums,pb⟩:=p
  simp only at e1 p1 p2 p3 hF
  cases pb with
  | false =>
   rw [if_neg (by simp)] at hF
   rw [← hF] at hR'
   subst hR'
   simp [-getElem?_pos,z1j,v0,v1,v5,v6,hlt,hx',hSo,e1,hr0,x1,x2,x3,x4]
   simp [zep]
  | true =>
   rw [if_pos rfl] at hF
   have p3:=p3 rfl
   simp [-getElem?_pos,z1j,v0,v1,v5,v6,hlt,hx',hSo,e1,hr0,x1,x2,x3,x4]
   obtain ⟨tgt,htgt⟩ : ∃ t,t=zfr i (zh9 sums) least 0 sums acc:=⟨_,rfl⟩
   rw [← htgt] at hF
   obtain ⟨p,hpe⟩ : ∃ p,p=st.nx:=⟨_,rfl⟩
   refine zas (fun n' s => ∃ (b o' e':Nat) (acc':List Cnd),b+n'=sums.length∧acc'.length≤16*i+b∧zfr i (zh9 sums) least b (sums.drop b) acc'=tgt∧s.V 0 = .sl 1 (rss q H)∧s.V 1=iv least∧s.V 5 = .ref o' none e' 0 acc'.length∧s.V 6=iv i∧s.V 7 = .ref p none st.ep 0 sums.length∧s.V 9=iv b∧¬ o'=p∧o'<s.nx∧p<s.nx∧s.S o'=some (.row 6 (zep acc'))∧s.S p=some (.row 2 (zb9 sums))) ?_ sums.length _ ⟨0,o,ep,acc,by omega,by omega,by rw [htgt]; simp,by simp [v0],by simp [v1],by simp [v5],by simp [v6],by simp [hpe],by simp,by omega,by simp; omega,by simp; omega,by simp [x1,x2,x3,x4,hSo],by simp [hpe]⟩
   clear v0 v1 v5 v6 hox hSo x1 x2 x3 x4
   generalize st.ep=ep2
   rintro n' s ⟨b,o',e',acc',hbn,hacc',hB,v0,v1,v5,v6,v7,v9,hop,hox,hpx,hSo,hSp⟩
   obtain ⟨x1,x2,x3,x4⟩:=fr hox
   obtain ⟨z1,z2,z3,z4⟩:=fr hpx
   obtain ⟨a1,a2,a3,a4⟩:=fr (show o'<s.nx+1 by omega)
   obtain ⟨c1,c2,c3,c4⟩:=fr (show p<s.nx+1 by omega)
   have hpo : ¬ p=o':=fun e=>hop e.symm
   by_cases hb:b+1<sums.length
   ·obtain ⟨x,hx⟩ : ∃ x,sums[b]?=some x:=⟨_,List.getElem?_eq_getElem (by omega)⟩
    obtain ⟨y,hy⟩ : ∃ x,sums[sums.length-1]?=some x:=⟨_,List.getElem?_eq_getElem (by omega)⟩
    have hxs:=z4v hx
    have hys:=z4v hy
    have hly:=y00 hy
    have w1:IntKind.i64.wrap ((sums.length:Int)-1)=((sums.length-1:Nat):Int):=by rw [w64 (by omega) (by omega)]; omega
    have w2:=w64 (x:=(b:Int)+1) (by omega) (by omega)
    have k1:(b:Int)+1<(sums.length:Int):=by omega
    have k2:b<sums.length:=by omega
    have k3:sums.length-1<sums.length:=by omega
    have hr48:zaj 48 (acc'.length+1)=true:=by simp [zaj]; omega
    have e2:=z5i y.n x.n (p2 y (List.mem_of_getElem? hy)).1 (p2 x (List.mem_of_getElem? hx)).1
    have e3:=z5i y.g x.g (p2 y (List.mem_of_getElem? hy)).2 (p2 x (List.mem_of_getElem? hx)).2
    rw [z8s acc' hx hb,hly] at hB
    unfold ze2 at hB
    generalize sbi y.n x.n=d at *
    generalize sbi y.g x.g=d' at *
    obtain ⟨dn,db⟩:=d
    obtain ⟨dg,db'⟩:=d'
    simp only at e2 e3 hB
    obtain ⟨dd,hdd⟩ : ∃ dd,dd=(db && db'):=⟨_,rfl⟩
    rw [← hdd] at hB
    cases dd with
    | false =>
     simp only [Bool.false_eq_true,if_false] at hB
     rw [← hB] at hF
     simp only at hF
     rw [← hF] at hR'
     simp only [Option.getD_none] at hR'
     subst hR'
     cases db with
     | false =>
      simp [-getElem?_pos,zn5,v0,v1,v5,v6,v7,v9,hSo,hSp,hxs,hys,w1,w2,k1,k2,k3,e2,e3,hr0,hop,hpo,x1,x2,x3,x4,z1,z2,z3,z4,a1,a2,a3,a4,c1,c2,c3,c4]
      simp [zep]
     | true =>
      have hd2:db'=false:=by simpa using hdd.symm
      subst hd2
      simp [-getElem?_pos,zn5,v0,v1,v5,v6,v7,v9,hSo,hSp,hxs,hys,w1,w2,k1,k2,k3,e2,e3,hr0,hop,hpo,x1,x2,x3,x4,z1,z2,z3,z4,a1,a2,a3,a4,c1,c2,c3,c4]
      simp [zep]
    | true =>
     obtain ⟨hd1,hd2⟩:db=true∧db'=true:=by simpa using hdd.symm
     subst hd1 hd2
     simp only [if_true] at hB
     by_cases g1:least≤x.n
     ·by_cases g2:least≤dn
      ·rw [if_pos ⟨g1,g2⟩] at hB
       have hsn:=y4u acc' ⟨i,b,x,⟨dn,dg⟩⟩
       simp only at hsn
       simp [-getElem?_pos,zn5,v0,v1,v5,v6,v7,v9,hSo,hSp,hxs,hys,w1,w2,k1,k2,k3,e2,e3,hr0,hop,hpo,x1,x2,x3,x4,z1,z2,z3,z4,a1,a2,a3,a4,c1,c2,c3,c4,g1,g2,hr1,hr48,hsn]
       refine zal (n'-1) (by omega) ⟨b+1,s.nx+2,s.ep,acc'++[⟨i,b,x,⟨dn,dg⟩⟩],by omega,by simp; omega,by rw [hly]; exact hB,by simp [v0],by simp [v1],by simp,by simp [v6],by simp [v7],by simp,by omega,by simp,by simp; omega,by simp,by simp [hop,hpo,x1,x2,x3,x4,z1,z2,z3,z4,hSp]⟩
      ·rw [if_neg (fun h=>g2 h.2)] at hB
       simp [-getElem?_pos,zn5,v0,v1,v5,v6,v7,v9,hSo,hSp,hxs,hys,w1,w2,k1,k2,k3,e2,e3,hr0,hop,hpo,x1,x2,x3,x4,z1,z2,z3,z4,a1,a2,a3,a4,c1,c2,c3,c4,g1,g2]
       refine zal (n'-1) (by omega) ⟨b+1,o',e',acc',by omega,by omega,by rw [hly]; exact hB,by simp [v0],by simp [v1],by simp [v5],by simp [v6],by simp [v7],by simp,hop,by simp; omega,by simp; omega,by simp [x1,x2,x3,x4,hSo],by simp [z1,z2,z3,z4,hSp]⟩
     ·rw [if_neg (fun h=>g1 h.1)] at hB
      simp [-getElem?_pos,zn5,v0,v1,v5,v6,v7,v9,hSo,hSp,hxs,hys,w1,w2,k1,k2,k3,e2,e3,hr0,hop,hpo,x1,x2,x3,x4,z1,z2,z3,z4,a1,a2,a3,a4,c1,c2,c3,c4,g1]
      refine zal (n'-1) (by omega) ⟨b+1,o',e',acc',by omega,by omega,by rw [hly]; exact hB,by simp [v0],by simp [v1],by simp [v5],by simp [v6],by simp [v7],by simp,hop,by simp; omega,by simp; omega,by simp [x1,x2,x3,x4,hSo],by simp [z1,z2,z3,z4,hSp]⟩
   ·rw [zv1 acc' hb] at hB
    rw [← hB] at hF
    simp only at hF
    have w1:IntKind.i64.wrap ((sums.length:Int)-1)=(sums.length:Int)-1:=w64 (by omega) (by omega)
    have w2:=w64 (x:=(b:Int)+1) (by omega) (by omega)
    have k1 : ¬ (b:Int)+1<(sums.length:Int):=by omega
    simp [-getElem?_pos,zn5,v6,v7,v9,hSp,w2,k1,hws]
    exact zal (n-1) (by omega) ⟨i+1,o',e',acc',by omega,by omega,hF,by simp [v1],by simp [v5],by simp [v0],by simp,by simp [hox],by simp [hSo]⟩
 ·rw [List.drop_eq_nil_of_le (by omega),zex] at hF
  rw [← hF] at hR'
  simp only [Option.getD_some] at hR'
  subst hR'
  simp [-getElem?_pos,z1j,v0,v5,v6,hlt,hSo]
def zbi (c v:List (List Int)) (g:List Int) (cfg:Cfg) (rows:List Int) (b:Bd):Cnd×Bool:=if zhv c v g cfg=true then (if (zcf c v g rows).2=true then zg7 cfg b (zf0 (zcf c v g rows).1 cfg.rw) else (ztj,false)) else (ztj,false)
theorem ym0 {b g:List Int} : ∀ (rows:List Int) (h h':List Sl),(∀ x∈h,slI x)→zcs b g rows h=some h'→∀ x∈h',slI x
 | [],h,h',hh,e=>by simp [zcs] at e; subst e; exact hh
 | r::rs,h,h',hh,e=>by
  simp only [zcs] at e
  split at e
  ·split at e
   ·rename_i s hs
    split at e
    ·refine ym0 rs _ _ (fun x hx => ?_) e
     rcases List.mem_or_eq_of_mem_set hx with h1 | h1
     ·exact hh x h1
     ·subst h1
      obtain ⟨_,_,h3,_⟩:=zkb hs
      exact zwk (hh _ (List.mem_of_getElem? h3))
    ·cases e
   ·cases e
  ·cases e
theorem y0n (b g rows:List Int) (k:Int) : ∀ x∈(zc0 b g rows k).1,slI x:=by
 unfold zc0
 split
 ·cases h:zcs b g rows (List.replicate k.toNat ⟨0,0⟩) with
  | none=>simp
  | some h'=>exact ym0 _ _ _ (fun x hx=>by rw [List.eq_of_mem_replicate hx]; exact z60) h
 ·simp
theorem yh7 {g rows:List Int} : ∀ (c v:List (List Int)) (H:List (List Sl)),zb2 g rows c v=some H→∀ l∈H,∀ x∈l,slI x
 | [],v,H,h=>by simp [zb2] at h; subst h; simp
 | x::c,[],H,h=>by simp [zb2] at h; subst h; simp
 | x::c,y::v,H,h=>by
  simp only [zb2] at h
  split at h
  ·simp only [Option.map_eq_some_iff] at h
   obtain ⟨H',h1,rfl⟩:=h
   intro l hl
   rcases List.mem_cons.mp hl with e | e
   ·subst e; exact y0n _ _ _ _
   ·exact yh7 c v H' h1 l e
  ·cases h
theorem y0a (c v:List (List Int)) (g rows:List Int) : ∀ l∈(zcf c v g rows).1,∀ x∈l,slI x:=by
 unfold zcf
 split
 ·cases h:zb2 g rows c v with
  | none=>simp
  | some H=>exact yh7 c v H h
 ·simp
theorem z7b (c v:List (List Int)) (g rows:List Int):(zcf c v g rows).1.length≤4:=by
 by_cases h:zeh c v=true
 ·have:=(zv4 c v g rows).1
  have:=yi0 h
  omega
 ·unfold zcf
  rw [if_neg h]; simp
theorem y2w (c v:List (List Int)) (g rows:List Int) (least:Int):(zf0 (zcf c v g rows).1 least).length≤1048576∧∀ x∈zf0 (zcf c v g rows).1 least,zhy x:=by
 have h1:=z7b c v g rows
 have h2:=(zv4 c v g rows).2
 obtain ⟨h3,h4⟩:=yil (least:=least) h2
 exact ⟨by omega,fun x hx=>yj7 (by omega) (fun l hl=>Nat.le_trans (h2 l hl) (by omega)) (h4 x hx)⟩
set_option maxHeartbeats 1000000 in
theorem yyk (q:Bool) (c v:List (List Int)) (g:List Int) (cfg:Cfg) (rows:List Int) (b:Bd) (hc : ∀ l∈c,l.length≤1048576) (hv : ∀ l∈v,l.length≤1048576) (hg:g.length≤1048576) (hr:rows.length≤1048576) (hs:cfg.sg.length≤1048576) (hgi : ∀ x∈g,inI x):RUN T zqu [.agg [.sl 1 (rws q c),.sl 1 (rws q v)],.sl 1 (zab g),cfS cfg,.sl 1 (zab rows),.agg (bnd b)]=some ([.agg (cnd (zbi c v g cfg rows b).1),bv (zbi c v g cfg rows b).2],[]):=by
 have e1:=ye5 q c v g cfg (fun l hl=>Nat.le_trans (hc l hl) (by omega)) (fun l hl=>Nat.le_trans (hv l hl) (by omega)) (by omega) (by omega)
 have e2:=yx6 q c v g rows hc hv hg hr hgi
 obtain ⟨f1,f2⟩:=y2w c v g rows cfg.rw
 have e3:=yyj true (zcf c v g rows).1 cfg.rw (by have:=z7b c v g rows; omega) (fun l hl=>by have:=(zv4 c v g rows).2 l hl; omega) (y0a c v g rows)
 have e4:=yyf cfg b (zf0 (zcf c v g rows).1 cfg.rw) f1 hs f2
 unfold zbi
 simp only [zfg,bnd] at e1 e4
 generalize zhv c v g cfg=t at *
 generalize zcf c v g rows=H at *
 obtain ⟨H,hb⟩:=H
 simp only at e2 e3 e4 ⊢
 generalize zg7 cfg b (zf0 H cfg.rw)=r at *
 generalize zf0 H cfg.rw=L at *
 obtain ⟨r,rb⟩:=r
 simp only [cnd] at e4 ⊢
 refine zaf yc5 rfl ?_
 cases t with
 | false=>simp [-getElem?_pos,zsb,zsc,bnd,e1,ztj]
 | true =>
  cases hb with
  | false=>simp [-getElem?_pos,zsb,zsc,bnd,e1,e2,ztj]
  | true =>
   simp [-getElem?_pos,zsb,zsc,bnd,e1,e2,e3,e4]
def zew (g:List Int) (rows:List Int):Sl:=⟨rows.length,(rows.map fun r=>(atI g r).getD 0).sum⟩
def zky (bins:List Int) (b r:Int):Bool:=match atI bins r with
 | some x=>decide (x≤b)
 | none=>false
def zvh (bins:List Int) (b r:Int):Bool:=match atI bins r with
 | some x => !decide (x≤b)
 | none=>false
def zc4 (bins rows:List Int) (b:Int):List Int:=rows.filter (zky bins b)
def zfv (bins rows:List Int) (b:Int):List Int:=rows.filter (zvh bins b)
structure Pnd where
 r:List Int
 b:Bd
 l:Int
def zl7 (c v:List (List Int)) (cfg:Cfg) (x:Pnd) (k:Cnd):Pnd:=⟨zc4 ((atI v k.f).getD []) x.r k.b,(ziq (zhi cfg k.f) x.b (zcz cfg x.b k).1 (zcz cfg x.b k).2.1).1,x.l+1⟩
def zl2 (c v:List (List Int)) (cfg:Cfg) (x:Pnd) (k:Cnd):Pnd:=⟨zfv ((atI v k.f).getD []) x.r k.b,(ziq (zhi cfg k.f) x.b (zcz cfg x.b k).1 (zcz cfg x.b k).2.1).2,x.l+1⟩
def zga (g:List Int) (cfg:Cfg) (x:Pnd):Nd:=⟨-1,0,0,0,(zfp (zew g x.r) cfg.la x.b).1⟩
def zsm (c:List (List Int)) (k:Cnd) (n:Nat):Nd:=⟨k.f,(atI ((atI c k.f).getD []) k.b).getD 0,n,n+1,0⟩
def goes (c v:List (List Int)) (g:List Int) (cfg:Cfg) (x:Pnd):Bool:=decide (x.l<cfg.de) && (zbi c v g cfg x.r x.b).2
def zdv (c v:List (List Int)) (g:List Int) (cfg:Cfg):Nat→List Pnd→Nat→List Nd→List Nd
 | 0,_,_,out=>out
 | n+1,q,i,out=>match q[i]? with
  | none=>out
  | some x=>if goes c v g cfg x=true then zdv c v g cfg n (q++[zl7 c v cfg x (zbi c v g cfg x.r x.b).1,zl2 c v cfg x (zbi c v g cfg x.r x.b).1]) (i+1) (out++[zsm c (zbi c v g cfg x.r x.b).1 q.length]) else zdv c v g cfg n q (i+1) (out++[zga g cfg x])
def zwd:Bd:=⟨-1099511627776,1099511627776⟩
def zf1 (g:List Int):Pnd:=⟨(List.range g.length).map fun (i:Nat)=>(i:Int),zwd,0⟩
def zc3 (c v:List (List Int)) (g:List Int) (cfg:Cfg):List Nd×Bool:=if zhv c v g cfg=true then (zdv c v g cfg 32 [zf1 g] 0 [],true) else ([],false)
def pot (d:Int) (x:Pnd):Nat:=2 ^ (d+1-x.l).toNat-1
def zjg (d:Int) (l:List Pnd):Nat:=(l.map (pot d)).sum
theorem z39 (d:Int) (x:Pnd) (l:List Pnd):zjg d (x::l)=pot d x+zjg d l:=by simp [zjg]
theorem yzh (d:Int) (l m:List Pnd):zjg d (l++m)=zjg d l+zjg d m:=by simp [zjg]
theorem y6q {d:Int} {x:Pnd} (h:x.l≤d):1≤pot d x:=by
 unfold pot
 obtain ⟨k,hk⟩ : ∃ k,(d+1-x.l).toNat=k+1:=⟨(d-x.l).toNat,by omega⟩
 rw [hk,Nat.pow_succ]
 have:=Nat.one_le_two_pow (n:=k)
 omega
theorem y3c {d:Int} {x y z:Pnd} (h:x.l<d) (hy:y.l=x.l+1) (hz:z.l=x.l+1):pot d x=pot d y+pot d z+1:=by
 unfold pot
 rw [hy,hz]
 obtain ⟨k,hk⟩ : ∃ k,(d+1-x.l).toNat=k+1:=⟨(d-x.l).toNat,by omega⟩
 have hk2:(d+1-(x.l+1)).toNat=k:=by omega
 rw [hk,hk2,Nat.pow_succ]
 have:=Nat.one_le_two_pow (n:=k)
 omega
def zwp (n:Nat) (d:Int) (x:Pnd):Prop:=(∀ r∈x.r,0≤r∧r<n)∧x.r.length≤n∧0≤x.l∧x.l≤d
theorem yir {bins rows:List Int} {b r:Int}:(r∈zc4 bins rows b→r∈rows)∧(r∈zfv bins rows b→r∈rows):=⟨fun h=>(List.mem_filter.mp h).1,fun h=>(List.mem_filter.mp h).1⟩
theorem y5r {n:Nat} {c v:List (List Int)} {cfg:Cfg} {x:Pnd} {k:Cnd} (h:zwp n cfg.de x) (hl:x.l<cfg.de):zwp n cfg.de (zl7 c v cfg x k)∧zwp n cfg.de (zl2 c v cfg x k):=by
 obtain ⟨h1,h2,h3,h4⟩:=h
 refine ⟨⟨fun r hr=>h1 r (yir.1 hr),Nat.le_trans (List.length_filter_le _ _) h2,?_,?_⟩,⟨fun r hr=>h1 r (yir.2 hr),Nat.le_trans (List.length_filter_le _ _) h2,?_,?_⟩⟩
 ·show 0≤x.l+1; omega
 ·show x.l+1≤cfg.de; omega
 ·show 0≤x.l+1; omega
 ·show x.l+1≤cfg.de; omega
theorem z33 {c v:List (List Int)} {g:List Int} {cfg:Cfg} (h:zhv c v g cfg=true):zeh c v=true∧zbm cfg=true∧g.length=ze9 v∧(∀ x∈g,-2199023255552≤x∧x≤2199023255552):=by
 unfold zhv at h
 simp only [Bool.and_eq_true,decide_eq_true_eq] at h
 exact ⟨h.1.1.1,h.1.1.2,by omega,fun x hx=>za2.mp (List.all_eq_true.mp h.2 x hx)⟩
theorem y70 {c v:List (List Int)} (h:zeh c v=true):1≤ze9 v∧ze9 v≤40:=by
 unfold zeh at h
 simp only [Bool.and_eq_true] at h
 have:=za2.mp h.1.2
 omega
theorem yms {cfg:Cfg} (h:zbm cfg=true):(0≤cfg.de∧cfg.de≤4)∧cfg.sg.length≤4∧(1≤cfg.la∧cfg.la≤100):=by
 unfold zbm at h
 simp only [Bool.and_eq_true,decide_eq_true_eq] at h
 have h1:=za2.mp h.1.1.1.1.1.1.1.2
 have h2:=za2.mp h.1.1.1.1.1.2
 omega
theorem yh8 {c v:List (List Int)} {g:List Int} {cfg:Cfg} {rows:List Int} {b:Bd} (h:(zbi c v g cfg rows b).2=true):zs4 (zcf c v g rows).1 (zbi c v g cfg rows b).1∧(zcf c v g rows).2=true:=by
 unfold zbi at h ⊢
 split
 ·rename_i h1
  rw [if_pos h1] at h
  split
  ·rename_i h2
   rw [if_pos h2] at h
   obtain ⟨h3,_,_⟩:=yk4 h
   exact ⟨(yil (zv4 c v g rows).2).2 _ h3,h2⟩
  ·rename_i h2
   rw [if_neg h2] at h; cases h
 ·rename_i h1
  rw [if_neg h1] at h; cases h
theorem yyl:RUN T zqt []=some ([.agg (bnd zwd)],[]):=by
 refine zaf yc4 rfl ?_
 simp [zz5,zz6,bnd,zwd]
def upl (n:Nat):List Int:=(List.range n).map fun (i:Nat)=>(i:Int)
theorem y33 (n:Nat):upl n++[(n:Int)]=upl (n+1):=by simp [upl,List.range_succ]
@[simp] theorem qqm (n:Nat):(upl n).length=n:=by simp [upl]
@[simp] theorem qkp:upl 0=[]:=rfl
theorem yym (n:Nat) (h2:n≤40):RUN T zqs [iv n]=some ([.own 1 (zab (upl n))],[]):=by
 have hr0:zaj 8 0=true:=by decide
 have hr1:zaj 8 1=true:=by decide
 refine zaf yc3 rfl ?_
 simp [-getElem?_pos,zz3,zz4,hr0]
 refine zas (fun k st => ∃ (i o e:Nat),i+k=n∧st.V 0=iv n∧st.V 3 = .ref o none e 0 i∧st.V 4=iv i∧o<st.nx∧st.S o=some (.row 1 (zab (upl i)))) ?_ n _ ⟨0,0,0,by omega,by simp⟩
 rintro k st ⟨i,o,ep,hi,v0,v3,v4,hox,hSo⟩
 obtain ⟨x1,x2,x3,x4⟩:=fr hox
 have h3:(n:Int)≤40:=by omega
 by_cases hlt:i<n
 ·have hws:=wS hlt (by omega:n≤9223372036854775807)
  have hr8:=zcb (n:=i+1) (by omega)
  have hsn:zab (upl i)++[[iv (i:Int)]]=zab (upl (i+1)):=by rw [zb8,y33]
  simp [-getElem?_pos,z5b,v0,v3,v4,hSo,hlt,h3,hws,hr1,hr8,hsn,x1,x2,x3,x4]
  exact zal (k-1) (by omega) ⟨i+1,st.nx+1,st.ep,by omega,by simp [v0],by simp,by simp,by simp,by simp⟩
 ·have hin:i=n:=by omega
  subst hin
  simp [-getElem?_pos,z5b,v0,v3,v4,hSo,hlt]
def zf8 (g rows:List Int) (i:Nat):Int:=((rows.take i).map fun r=>(atI g r).getD 0).sum
theorem y4a {g rows:List Int} {i:Nat} {r x:Int} (hr:rows[i]?=some r) (hx:atI g r=some x):zf8 g rows (i+1)=zf8 g rows i+x:=by
 unfold zf8
 rw [List.take_succ,hr]
 simp [hx]
theorem z7d {g rows:List Int} (hg : ∀ x∈g,-2199023255552≤x∧x≤2199023255552) : ∀ i:Nat,i≤rows.length → -2199023255552*(i:Int)≤zf8 g rows i∧zf8 g rows i≤2199023255552*(i:Int)
 | 0,_=>by simp [zf8]
 | i+1,h=>by
  have ih:=z7d (rows:=rows) hg i (by omega)
  obtain ⟨r,hr⟩ : ∃ r,rows[i]?=some r:=⟨_,List.getElem?_eq_getElem (by omega)⟩
  have e:zf8 g rows (i+1)=zf8 g rows i+(atI g r).getD 0:=by
   unfold zf8
   rw [List.take_succ,hr]
   simp
  rw [e]
  cases hx:atI g r with
  | none=>simp only [Option.getD_none]; omega
  | some x =>
   obtain ⟨_,_,h3,_⟩:=zkb hx
   have:=hg x (List.mem_of_getElem? h3)
   simp only [Option.getD_some]; omega
theorem ymi (g rows:List Int):zew g rows=⟨rows.length,zf8 g rows rows.length⟩:=by simp [zew,zf8]
theorem y6k {g rows:List Int} (hg : ∀ x∈g,-2199023255552≤x∧x≤2199023255552) (hl:rows.length≤1048576):slI (zew g rows):=by
 rw [ymi]
 have:=z7d (rows:=rows) hg rows.length (by omega)
 exact ⟨by unfold inI; simp only; omega,by unfold inI; simp only; omega⟩
theorem yyn (g rows:List Int) (hg : ∀ x∈g,-2199023255552≤x∧x≤2199023255552) (hr : ∀ r∈rows,0≤r∧r<g.length) (hl:rows.length≤1048576):RUN T zqv [.sl 1 (zab g),.sl 1 (zab rows)]=some ([.agg (slc (zew g rows))],[]):=by
 rw [ymi]
 refine zaf yc7 rfl ?_
 simp [-getElem?_pos,zz7,zz8]
 refine zas (fun k st => ∃ i:Nat,i+k=rows.length∧st.V 0 = .sl 1 (zab g)∧st.V 1 = .sl 1 (zab rows)∧st.V 4 = .ptr 0 none 0 0 0∧st.V 5 = .ptr 1 none 0 0 0∧st.V 6=iv i∧1<st.nx∧st.S 1=some (.box [iv i,iv (zf8 g rows i)])∧st.S 0=some (.box [iv 0,iv 0])) ?_ rows.length _ ⟨0,by omega,by simp,by simp,by simp,by simp,by simp,by simp,by simp [zf8],by simp⟩
 rintro k st ⟨i,hi,v0,v1,v4,v5,v6,h1x,hS1,hS0⟩
 obtain ⟨z1,z2,z3,z4⟩:=fr h1x
 by_cases hlt:i<rows.length
 ·obtain ⟨r,hrr⟩ : ∃ r,rows[i]?=some r:=⟨_,List.getElem?_eq_getElem hlt⟩
  obtain ⟨r0,r1⟩:=hr r (List.mem_of_getElem? hrr)
  obtain ⟨rn,rfl⟩ : ∃ n:Nat,r=n:=⟨r.toNat,by omega⟩
  obtain ⟨x,hx⟩ : ∃ x,g[rn]?=some x:=⟨_,List.getElem?_eq_getElem (by omega)⟩
  have hrn:rn<g.length:=by omega
  have hr':=za7 hrr
  have hx':=za7 hx
  have hws:=wS hlt (by omega:rows.length≤9223372036854775807)
  have hs:=y4a (g:=g) hrr (x:=x) (by unfold atI; rw [if_pos r0]; simpa using hx)
  have b1:=z7d (rows:=rows) hg (i+1) (by omega)
  rw [hs] at b1
  have hw:=w64 (x:=zf8 g rows i+x) (by omega) (by omega)
  simp [-getElem?_pos,z5c,v0,v1,v4,v5,v6,hS1,hS0,hlt,hr',hx',hrn,hw,hws,z1,z2,z3,z4]
  exact zal (k-1) (by omega) ⟨i+1,by omega,by simp [v0],by simp [v1],by simp [v4],by simp [v5],by simp,by simp [h1x],by simp [hs],by simp [hS0]⟩
 ·have hin:i=rows.length:=by omega
  subst hin
  simp [-getElem?_pos,z5c,v1,v4,v5,v6,hS1,hS0,slc]
set_option maxHeartbeats 1000000 in
theorem yyo (bins rows:List Int) (b:Int) (hb:bins.length≤1048576) (hl:rows.length≤1048576):RUN T zqw [.sl 1 (zab bins),.sl 1 (zab rows),iv b]=some ([.own 1 (zab (zc4 bins rows b)),.own 1 (zab (zfv bins rows b))],[]):=by
 have hr0:zaj 8 0=true:=by decide
 have hr1:zaj 8 1=true:=by decide
 have w1:=w64 (x:=(bins.length:Int)-1) (by omega) (by omega)
 refine zaf yc8 rfl ?_
 simp [-getElem?_pos,zz9,z0a,hr0]
 refine zas (fun k st => ∃ (i o e p e2:Nat) (m l:List Int),i+k=rows.length∧m.length≤i∧l.length≤i∧m++(rows.drop i).filter (zky bins b)=zc4 bins rows b∧l++(rows.drop i).filter (zvh bins b)=zfv bins rows b∧st.V 0 = .sl 1 (zab bins)∧st.V 1 = .sl 1 (zab rows)∧st.V 2=iv b∧st.V 8 = .ref o none e 0 m.length∧st.V 9 = .ref p none e2 0 l.length∧st.V 10=iv i∧¬ o=p∧o<st.nx∧p<st.nx∧st.S o=some (.row 1 (zab m))∧st.S p=some (.row 1 (zab l))) ?_ rows.length _ ⟨0,0,0,1,0,[],[],by omega,by simp,by simp,by simp [zc4],by simp [zfv],by simp⟩
 rintro k st ⟨i,o,e,p,e2,m,l,hi,hml,hll,hm,hl2,v0,v1,v2,v8,v9,v10,hop,hox,hpx,hSo,hSp⟩
 obtain ⟨x1,x2,x3,x4⟩:=fr hox
 obtain ⟨z1,z2,z3,z4⟩:=fr hpx
 have hpo : ¬ p=o:=fun e=>hop e.symm
 by_cases hlt:i<rows.length
 ·obtain ⟨r,hrr⟩ : ∃ r,rows[i]?=some r:=⟨_,List.getElem?_eq_getElem hlt⟩
  have hr':=za7 hrr
  have hws:=wS hlt (by omega:rows.length≤9223372036854775807)
  have e1:=za5 r 0 ((bins.length:Int)-1)
  rw [zct hrr,List.filter_cons] at hm hl2
  have hB:zky bins b r=match atI bins r with
   | some x=>decide (x≤b)
   | none=>false:=rfl
  have hC:zvh bins b r=match atI bins r with
   | some x => !decide (x≤b)
   | none=>false:=rfl
  have r1:=zcb (n:=m.length+1) (by omega)
  have r2:=zcb (n:=l.length+1) (by omega)
  have s1:=zb8 m r
  have s2:=zb8 l r
  cases hx:atI bins r with
  | none =>
   have hn:=zv2 hx
   rw [show zai r 0 ((bins.length:Int)-1)=false from by
    cases hw:zai r 0 ((bins.length:Int)-1) with
    | false=>rfl
    | true=>have:=za2.mp hw; omega] at e1
   rw [hx] at hB hC
   rw [hB] at hm
   rw [hC] at hl2
   simp [-getElem?_pos,zum,-zav,v0,v1,v2,v8,v9,v10,hSo,hSp,hlt,hr',hws,w1,e1]
   exact zal (k-1) (by omega) ⟨i+1,o,e,p,e2,m,l,by omega,by omega,by omega,by simpa using hm,by simpa using hl2,by simp [v0],by simp [v1],by simp [v2],by simp [v8],by simp [v9],by simp,hop,by simp [hox],by simp [hpx],by simp [hSo],by simp [hSp]⟩
  | some x =>
   obtain ⟨rn,rfl,hbr,hbl⟩:=zkb hx
   rw [show zai rn 0 ((bins.length:Int)-1)=true from za2.mpr (by omega)] at e1
   rw [hx] at hB hC
   rw [hB] at hm
   rw [hC] at hl2
   have hb':=za7 hbr
   by_cases hc:x≤b
   ·have d1:decide (x≤b)=true:=decide_eq_true hc
    simp only [d1,if_true,Bool.not_true,Bool.false_eq_true,if_false] at hm hl2
    simp [-getElem?_pos,zum,-zav,v0,v1,v2,v8,v9,v10,hSo,hSp,hlt,hr',hws,w1,e1,hb',hbl,hc,hr1,r1,s1,hop,hpo,x1,x2,x3,x4,z1,z2,z3,z4]
    exact zal (k-1) (by omega) ⟨i+1,st.nx+1,st.ep,p,e2,m++[(rn:Int)],l,by omega,by simp; omega,by omega,by simpa using hm,hl2,by simp [v0],by simp [v1],by simp [v2],by simp,by simp [v9],by simp,by omega,by simp,by simp; omega,by simp,by simp [hop,hpo,x1,x2,x3,x4,z1,z2,z3,z4,hSp]⟩
   ·have d1:decide (x≤b)=false:=decide_eq_false hc
    simp only [d1,if_true,Bool.not_false,Bool.false_eq_true,if_false] at hm hl2
    simp [-getElem?_pos,zum,-zav,v0,v1,v2,v8,v9,v10,hSo,hSp,hlt,hr',hws,w1,e1,hb',hbl,hc,hr1,r2,s2,hop,hpo,x1,x2,x3,x4,z1,z2,z3,z4]
    exact zal (k-1) (by omega) ⟨i+1,o,e,st.nx+1,st.ep,m,l++[(rn:Int)],by omega,by omega,by simp; omega,hm,by simpa using hl2,by simp [v0],by simp [v1],by simp [v2],by simp [v8],by simp,by simp,by omega,by simp; omega,by simp,by simp [hop,hpo,x1,x2,x3,x4,z1,z2,z3,z4,hSo],by simp⟩
 ·rw [List.drop_eq_nil_of_le (by omega)] at hm hl2
  simp only [List.filter_nil,List.append_nil] at hm hl2
  subst hm hl2
  simp [-getElem?_pos,zum,v1,v8,v9,v10,hSo,hSp,hlt,hop,hpo]
def pnd (x:Pnd):List PV:=[.own 1 (zab x.r),iv x.b.lo,iv x.b.hi,iv x.l]
def zis (l:List Pnd):List (List PV):=l.map pnd
@[simp] theorem qpw (l:List Pnd):(zis l).length=l.length:=by simp [zis]
theorem ykb {l:List Pnd} {i:Nat} {x:Pnd} (h:l[i]?=some x):(zis l)[i]?=some [.own 1 (zab x.r),iv x.b.lo,iv x.b.hi,iv x.l]:=by simp [zis,h,pnd]
theorem y27 {l:List Pnd} {i:Nat} {x:Pnd} (h:l[i]?=some x):zbo (zis l) i 0=some (1,zab x.r):=by simp [zbo,ykb h]
theorem y3e (l:List Pnd) (x y:Pnd):zis l++[[.own 1 (zab x.r),iv x.b.lo,iv x.b.hi,iv x.l],[.own 1 (zab y.r),iv y.b.lo,iv y.b.hi,iv y.l]]=zis (l++[x,y]):=by simp [zis,pnd]
theorem z24 {α:Type} {l:List α} {i:Nat} {x:α} (h:l[i]?=some x):atI l (i:Int)=some x:=by
 unfold atI
 rw [if_pos (by omega)]
 simpa using h
theorem y6a {b g rows:List Int} {k:Int} (h:(zc0 b g rows k).2=true):((zc0 b g rows k).1.length:Int)=k:=by
 unfold zc0 at h ⊢
 split
 ·rename_i hk
  rw [if_pos hk] at h
  have hk':=za2.mp hk
  cases e:zcs b g rows (List.replicate k.toNat ⟨0,0⟩) with
  | none=>rw [e] at h; cases h
  | some h'=>have:=z7l _ _ _ e; simp at this; simp only; omega
 ·rename_i hk
  rw [if_neg hk] at h; cases h
theorem yjt {g rows:List Int} : ∀ (c v:List (List Int)) (H:List (List Sl)) (f:Nat) (h:List Sl),zb2 g rows c v=some H→H[f]?=some h→∃ x y,c[f]?=some x∧v[f]?=some y∧h.length=x.length+1
 | [],v,H,f,h,e,hf=>by simp [zb2] at e; subst e; simp at hf
 | x::c,[],H,f,h,e,hf=>by simp [zb2] at e; subst e; simp at hf
 | x::c,y::v,H,f,h,e,hf=>by
  simp only [zb2] at e
  split at e
  ·rename_i hp
   simp only [Option.map_eq_some_iff] at e
   obtain ⟨H',h1,rfl⟩:=e
   cases f with
   | zero =>
    simp at hf
    subst hf
    have:=y6a hp
    exact ⟨x,y,rfl,rfl,by omega⟩
   | succ f =>
    simp at hf
    obtain ⟨x',y',h2,h3,h4⟩:=yjt c v H' f h h1 hf
    exact ⟨x',y',by simpa using h2,by simpa using h3,h4⟩
  ·cases e
theorem y0j {c v:List (List Int)} {g rows:List Int} {f:Nat} {h:List Sl} (hb:(zcf c v g rows).2=true) (hf:(zcf c v g rows).1[f]?=some h) : ∃ x y,c[f]?=some x∧v[f]?=some y∧h.length=x.length+1:=by
 unfold zcf at hb hf
 split at hb
 ·rename_i hg
  rw [if_pos hg] at hf
  cases e:zb2 g rows c v with
  | none=>rw [e] at hb; cases hb
  | some H=>rw [e] at hf; exact yjt c v H f h e hf
 ·cases hb
theorem y0f {c v:List (List Int)} {g:List Int} {cfg:Cfg} {rows:List Int} {b:Bd} (h:(zbi c v g cfg rows b).2=true) : ∃ (f k:Nat) (x y:List Int) (z:Int),(zbi c v g cfg rows b).1.f=f∧(zbi c v g cfg rows b).1.b=k∧c[f]?=some x∧v[f]?=some y∧x[k]?=some z∧zhy (zbi c v g cfg rows b).1:=by
 obtain ⟨h1,h2⟩:=yh8 h
 have hI:=yj7 (by have:=z7b c v g rows; omega) (fun l hl=>Nat.le_trans ((zv4 c v g rows).2 l hl) (by omega)) h1
 obtain ⟨f,k,l,e1,e2,e3,e4,_,_⟩:=h1
 obtain ⟨x,y,hx,hy,hl⟩:=y0j h2 e3
 exact ⟨f,k,x,y,x[k]'(by omega),e1,e2,hx,hy,List.getElem?_eq_getElem (by omega),hI⟩
theorem y1b {x lo hi:Int} (h:lo≤hi):lo≤zf5 x lo hi∧zf5 x lo hi≤hi:=by
 unfold zf5
 split
 ·omega
 ·split <;> omega
theorem y72 {b:Bd} (h:zks b=true):b.lo≤b.hi ∧ -1099511627776≤b.lo∧b.hi≤1099511627776:=by
 unfold zks at h
 simp only [Bool.and_eq_true,decide_eq_true_eq] at h
 have h1:=h.1.2
 have h2:=h.2
 unfold zef at h1 h2
 have:=za2.mp h1
 have:=za2.mp h2
 omega
theorem ymn (s:Sl) (l:Int) (b:Bd) : -1099511627776≤(zfp s l b).1∧(zfp s l b).1≤1099511627776:=by
 unfold zfp
 split
 ·rename_i h
  simp only [Bool.and_eq_true] at h
  obtain ⟨h1,h2,h3⟩:=y72 h.2
  have:=y1b (x:=(fdv s.g (s.n+l)).1) h1
  simp only; omega
 ·simp
theorem yfv (c:Cfg) (b:Bd) (x:Cnd):inI (zcz c b x).1∧inI (zcz c b x).2.1:=by
 have h1:=ymn x.a c.la b
 have h2:=ymn x.z c.la b
 unfold zcz inI
 split
 ·simp only; omega
 ·simp
def NC (S:Nat→Option Ob) (nx oq:Nat) (m:List Nd) (x:PV):Prop:=(x = .e0∧m=[])∨∃ o e,x = .ref o none e 0 m.length∧5<o∧o<nx∧¬ o=oq∧S o=some (.row 5 (m.map nd))
theorem ymj {c v:List (List Int)} {g:List Int} {cfg:Cfg} {n:Nat} {q:List Pnd} {i:Nat} {out:List Nd} (h:q[i]?=none):zdv c v g cfg n q i out=out:=by
 cases n with
 | zero=>rfl
 | succ n=>rw [zdv,h]
theorem yim {c v:List (List Int)} {g:List Int} {cfg:Cfg} {n:Nat} {q:List Pnd} {i:Nat} {out:List Nd} {x:Pnd} (h:q[i]?=some x) (hg:goes c v g cfg x=false):zdv c v g cfg (n+1) q i out=zdv c v g cfg n q (i+1) (out++[zga g cfg x]):=by
 rw [zdv,h]; simp [hg]
theorem yho {c v:List (List Int)} {g:List Int} {cfg:Cfg} {n:Nat} {q:List Pnd} {i:Nat} {out:List Nd} {x:Pnd} (h:q[i]?=some x) (hg:goes c v g cfg x=true):zdv c v g cfg (n+1) q i out=zdv c v g cfg n (q++[zl7 c v cfg x (zbi c v g cfg x.r x.b).1,zl2 c v cfg x (zbi c v g cfg x.r x.b).1]) (i+1) (out++[zsm c (zbi c v g cfg x.r x.b).1 q.length]):=by
 rw [zdv,h]; simp [hg]
structure GI (c v:List (List Int)) (g:List Int) (cfg:Cfg) (n:Nat) (q:List Pnd) (i:Nat) (out:List Nd):Prop where
 n1:i+n=32
 le:i≤q.length
 ql:q.length≤2*i+1
 ol:out.length=i
 po:zjg cfg.de (q.drop i)≤n
 ok : ∀ x∈q,zwp g.length cfg.de x
 go:zdv c v g cfg n q i out=zdv c v g cfg 32 [zf1 g] 0 []
theorem GI.leaf {c v:List (List Int)} {g:List Int} {cfg:Cfg} {n:Nat} {q:List Pnd} {i:Nat} {out:List Nd} {x:Pnd} (h:GI c v g cfg n q i out) (hx:q[i]?=some x) (hg:goes c v g cfg x=false):1≤n∧GI c v g cfg (n-1) q (i+1) (out++[zga g cfg x]):=by
 have hp:=h.po
 rw [zct hx,z39] at hp
 have:=y6q (h.ok x (List.mem_of_getElem? hx)).2.2.2
 have hlt:=(List.getElem?_eq_some_iff.mp hx).1
 obtain ⟨m,rfl⟩ : ∃ m,n=m+1:=⟨n-1,by omega⟩
 have:=h.n1
 have:=h.ql
 exact ⟨by omega,by simp; omega,by omega,by omega,by simp [h.ol],by simp; omega,h.ok,by rw [← h.go,yim hx hg]; rfl⟩
theorem GI.cut {c v:List (List Int)} {g:List Int} {cfg:Cfg} {n:Nat} {q:List Pnd} {i:Nat} {out:List Nd} {x:Pnd} (h:GI c v g cfg n q i out) (hx:q[i]?=some x) (hg:goes c v g cfg x=true):1≤n∧GI c v g cfg (n-1) (q++[zl7 c v cfg x (zbi c v g cfg x.r x.b).1,zl2 c v cfg x (zbi c v g cfg x.r x.b).1]) (i+1) (out++[zsm c (zbi c v g cfg x.r x.b).1 q.length]):=by
 have hp:=h.po
 have hlt:=(List.getElem?_eq_some_iff.mp hx).1
 have hxo:=h.ok x (List.mem_of_getElem? hx)
 rw [zct hx,z39] at hp
 have hlv:x.l<cfg.de:=by
  unfold goes at hg
  simp only [Bool.and_eq_true,decide_eq_true_eq] at hg
  exact hg.1
 have hk:=y3c (y:=zl7 c v cfg x (zbi c v g cfg x.r x.b).1) (z:=zl2 c v cfg x (zbi c v g cfg x.r x.b).1) hlv rfl rfl
 obtain ⟨m,rfl⟩ : ∃ m,n=m+1:=⟨n-1,by omega⟩
 have:=h.n1
 have:=h.ql
 obtain ⟨ko1,ko2⟩:=y5r (c:=c) (v:=v) (k:=(zbi c v g cfg x.r x.b).1) hxo hlv
 refine ⟨by omega,by simp; omega,by simp; omega,by simp; omega,by simp [h.ol],?_,fun y hy => ?_,by rw [← h.go,yho hx hg]; rfl⟩
 ·rw [List.drop_append_of_le_length (by omega),yzh,z39,z39]
  have:zjg cfg.de ([]:List Pnd)=0:=rfl
  simp only [Nat.add_sub_cancel]
  omega
 ·rcases List.mem_append.mp hy with e | e
  ·exact h.ok y e
  ·simp only [List.mem_cons,List.not_mem_nil,or_false] at e
   rcases e with e | e
   ·subst e; exact ko1
   ·subst e; exact ko2
theorem GI.start {c v:List (List Int)} {g:List Int} {cfg:Cfg} (h:zhv c v g cfg=true):GI c v g cfg 32 [zf1 g] 0 []:=by
 obtain ⟨h1,h2,h3,h4⟩:=z33 h
 obtain ⟨d1,d2⟩:=(yms h2).1
 refine ⟨rfl,by simp,by simp,rfl,?_,fun x hx => ?_,rfl⟩
 ·simp only [List.drop_zero,zjg,List.map_cons,List.map_nil,List.sum_cons,List.sum_nil,pot,zf1]
  have:(cfg.de+1-0).toNat≤5:=by omega
  have:=Nat.pow_le_pow_right (n:=2) (by omega) this
  omega
 ·simp only [List.mem_singleton] at hx
  subst hx
  refine ⟨fun r hr => ?_,by simp [zf1],by simp [zf1],d1⟩
  simp only [zf1,List.mem_map,List.mem_range] at hr
  obtain ⟨j,hj,rfl⟩:=hr
  omega
set_option maxHeartbeats 8000000 in
set_option maxRecDepth 8000 in
theorem yyp (q:Bool) (c v:List (List Int)) (g:List Int) (cfg:Cfg) (hc : ∀ l∈c,l.length≤1048576) (hv : ∀ l∈v,l.length≤1048576) (hg:g.length≤1048576) (hs:cfg.sg.length≤1048576) (hgi : ∀ x∈g,inI x):RUN T zp5 [.agg [.sl 1 (rws q c),.sl 1 (rws q v)],.sl 1 (zab g),cfS cfg]=some ([.agg [.own 5 ((zc3 c v g cfg).1.map nd)],bv (zc3 c v g cfg).2],[]):=by
 have e1:=ye5 q c v g cfg (fun l hl=>Nat.le_trans (hc l hl) (by omega)) (fun l hl=>Nat.le_trans (hv l hl) (by omega)) (by omega) (by omega)
 simp only [zfg] at e1
 cases ht:zhv c v g cfg with
 | false =>
  rw [ht] at e1
  have hR:zc3 c v g cfg=([],false):=by unfold zc3; rw [ht]; rfl
  rw [hR]
  refine zaf z5f rfl ?_
  simp [-getElem?_pos,zt8,zt9,e1]
 | true =>
  rw [ht] at e1
  have hR:zc3 c v g cfg=(zdv c v g cfg 32 [zf1 g] 0 [],true):=by unfold zc3; rw [if_pos ht]
  rw [hR]
  obtain ⟨R,hR'⟩ : ∃ R,R=zdv c v g cfg 32 [zf1 g] 0 []:=⟨_,rfl⟩
  rw [← hR']
  obtain ⟨t1,t2,t3,t4⟩:=z33 ht
  obtain ⟨t5,t6⟩:=y70 t1
  have e3:=yym g.length (by omega)
  have e4:=yyl
  have hr48:zaj 48 1=true:=by decide
  have hG:=GI.start ht
  have hroot:zis [zf1 g]=[[.own 1 (zab (upl g.length)),iv zwd.lo,iv zwd.hi,iv 0]]:=by simp [zis,pnd,zf1,upl]
  simp only [bnd] at e4
  refine zaf z5f rfl ?_
  simp [-getElem?_pos,zt8,zt9,e1,e3,e4,hr48]
  refine zas (fun n st => ∃ (i o e:Nat) (Q:List Pnd) (out:List Nd) (x:PV),GI c v g cfg n Q i out∧st.V 1 = .sl 1 (zab g)∧st.V 3 = .ptr 0 none 0 0 0∧st.V 5 = .ptr 1 none 0 0 0∧st.V 6 = .ptr 2 none 0 0 0∧st.V 8 = .ptr 3 none 0 0 0∧st.V 9 = .ref o none e 0 Q.length∧st.V 10=iv i∧4<o∧o<st.nx∧3<st.nx∧st.S 0=some (.box [.sl 1 (rws q c),.sl 1 (rws q v)])∧st.S 1=some (.box [iv cfg.ro,iv cfg.de,iv cfg.bi,iv cfg.la,iv cfg.rw,iv cfg.nu,iv cfg.dn,.sl 1 (zab cfg.sg)])∧st.S 2=some (.box [.e0])∧st.S 3=some (.box [x])∧st.S o=some (.row 4 (zis Q))∧NC st.S st.nx o out x) ?_ 32 _ ⟨0,5,0,[zf1 g],[],.e0,hG,?_⟩
  ·rintro n st ⟨i,o,ep,Q,out,x,hG,v1,v3,v5,v6,v8,v9,v10,ho3,hox,h3x,hS0,hS1,hS2,hS3,hSo,hN⟩
   obtain ⟨Fa01,Fa02,Fa03,Fa04⟩:=fr (show 0<st.nx by omega)
   obtain ⟨Fb01,Fb02,Fb03,Fb04⟩:=fr (show 1<st.nx by omega)
   obtain ⟨Fc01,Fc02,Fc03,Fc04⟩:=fr (show 2<st.nx by omega)
   obtain ⟨Fd01,Fd02,Fd03,Fd04⟩:=fr (show 3<st.nx by omega)
   obtain ⟨Fo01,Fo02,Fo03,Fo04⟩:=fr (show o<st.nx by omega)
   have N0a:(o=0)=False:=eq_false (by omega)
   have N0b:(0=o)=False:=eq_false (by omega)
   have N1a:(o=1)=False:=eq_false (by omega)
   have N1b:(1=o)=False:=eq_false (by omega)
   have N2a:(o=2)=False:=eq_false (by omega)
   have N2b:(2=o)=False:=eq_false (by omega)
   have N3a:(o=3)=False:=eq_false (by omega)
   have N3b:(3=o)=False:=eq_false (by omega)
   have y0:(st.nx=0)=False:=eq_false (by omega)
   have y1:(st.nx=1)=False:=eq_false (by omega)
   have y2:(st.nx=2)=False:=eq_false (by omega)
   have y3:(st.nx=3)=False:=eq_false (by omega)
   have y4:(st.nx=4)=False:=eq_false (by omega)
   have y5:(st.nx=5)=False:=eq_false (by omega)
   have na : ∀ a b:Nat,st.nx+a+b=st.nx+(a+b):=fun a b=>Nat.add_assoc _ _ _
   by_cases hlt:i<Q.length
   ·obtain ⟨p,hp⟩ : ∃ p,Q[i]?=some p:=⟨_,List.getElem?_eq_getElem hlt⟩
    have hp':=ykb hp
    have hps:=y27 hp
    have hpo:=hG.ok p (List.mem_of_getElem? hp)
    obtain ⟨p1,p2,p3,p4⟩:=hpo
    have hn1:=hG.n1
    have hql:=hG.ql
    have hws:=wS hlt (by omega:Q.length≤9223372036854775807)
    have f1:=yyk q c v g cfg p.r p.b hc hv hg (by omega) hs hgi
    have f2:=yyn g p.r t4 p1 (by omega)
    have f3:=z5q (zew g p.r) cfg.la p.b (y6k t4 (by omega))
    have hr40:zaj 40 1=true:=by decide
    have hr41:zaj 40 (out.length+1)=true:=by have:=hG.ol; simp [zaj]; omega
    have hsn:=zvi out (zga g cfg p)
    simp only [zga] at hsn
    simp only [bnd] at f1 f3
    obtain ⟨K,hK⟩ : ∃ K,K=zbi c v g cfg p.r p.b:=⟨_,rfl⟩
    obtain ⟨G,hGg⟩ : ∃ G,G=goes c v g cfg p:=⟨_,rfl⟩
    have hG2:G=(decide (p.l<cfg.de) && K.2):=by rw [hGg,hK]; rfl
    cases G with
    | false =>
     obtain ⟨m1,hG'⟩:=hG.leaf hp hGg.symm
     rw [← hK] at f1
     simp only [slc] at f2 f3
     by_cases hlv:p.l<cfg.de
     ·have hK2:K.2=false:=by simpa [hlv] using hG2.symm
      obtain ⟨K,Kb⟩:=K
      simp only at hK2 f1
      subst hK2
      simp only [cnd] at f1
      have hge : ¬ cfg.de≤p.l:=by omega
      rcases hN with ⟨rfl,rfl⟩ | ⟨w,ew,rfl,hw5,hwx,hwo,hSw⟩
      ·simp [-getElem?_pos,zj2,v1,v3,v5,v6,v8,v9,v10,hS0,hS1,hS2,hS3,hSo,hlt,hp',hps,hge,f1,f2,f3,hws,hr40,Fa01,Fa02,Fa03,Fa04,Fb01,Fb02,Fb03,Fb04,Fc01,Fc02,Fc03,Fc04,Fd01,Fd02,Fd03,Fd04,Fo01,Fo02,Fo03,Fo04,N0a,N0b,N1a,N1b,N2a,N2b,N3a,N3b,y0,y1,y2,y3,y4,y5,na]
       refine zal (n-1) (by omega) ⟨i+1,o,ep,Q,[zga g cfg p],.ref (st.nx+3) none st.ep 0 1,hG',by simp [v1],by simp [v3],by simp [v5],by simp [v6],by simp [v8],by simp [v9],by simp,ho3,(by simp <;> omega),by simp <;> omega,by simp [Fa01,Fa02,Fa03,Fa04,Fb01,Fb02,Fb03,Fb04,Fc01,Fc02,Fc03,Fc04,Fd01,Fd02,Fd03,Fd04,Fo01,Fo02,Fo03,Fo04,N0a,N0b,N1a,N1b,N2a,N2b,N3a,N3b,y0,y1,y2,y3,y4,y5,na,hS0],by simp [Fa01,Fa02,Fa03,Fa04,Fb01,Fb02,Fb03,Fb04,Fc01,Fc02,Fc03,Fc04,Fd01,Fd02,Fd03,Fd04,Fo01,Fo02,Fo03,Fo04,N0a,N0b,N1a,N1b,N2a,N2b,N3a,N3b,y0,y1,y2,y3,y4,y5,na,hS1],by simp [Fa01,Fa02,Fa03,Fa04,Fb01,Fb02,Fb03,Fb04,Fc01,Fc02,Fc03,Fc04,Fd01,Fd02,Fd03,Fd04,Fo01,Fo02,Fo03,Fo04,N0a,N0b,N1a,N1b,N2a,N2b,N3a,N3b,y0,y1,y2,y3,y4,y5,na,hS2],by simp [Fa01,Fa02,Fa03,Fa04,Fb01,Fb02,Fb03,Fb04,Fc01,Fc02,Fc03,Fc04,Fd01,Fd02,Fd03,Fd04,Fo01,Fo02,Fo03,Fo04,N0a,N0b,N1a,N1b,N2a,N2b,N3a,N3b,y0,y1,y2,y3,y4,y5,na],by simp [Fa01,Fa02,Fa03,Fa04,Fb01,Fb02,Fb03,Fb04,Fc01,Fc02,Fc03,Fc04,Fd01,Fd02,Fd03,Fd04,Fo01,Fo02,Fo03,Fo04,N0a,N0b,N1a,N1b,N2a,N2b,N3a,N3b,y0,y1,y2,y3,y4,y5,na,hSo],.inr ⟨st.nx+3,st.ep,by simp,by omega,by simp <;> omega,by omega,by simp [nd,zga,y0,y1,y2,y3,y4,y5]⟩⟩
      ·obtain ⟨Fw01,Fw02,Fw03,Fw04⟩:=fr (show w<st.nx by omega)
       have M0a:(w=0)=False:=eq_false (by omega)
       have M0b:(0=w)=False:=eq_false (by omega)
       have M1a:(w=1)=False:=eq_false (by omega)
       have M1b:(1=w)=False:=eq_false (by omega)
       have M2a:(w=2)=False:=eq_false (by omega)
       have M2b:(2=w)=False:=eq_false (by omega)
       have M3a:(w=3)=False:=eq_false (by omega)
       have M3b:(3=w)=False:=eq_false (by omega)
       have M4a:(w=o)=False:=eq_false (by omega)
       have M4b:(o=w)=False:=eq_false (by omega)
       simp [-getElem?_pos,zj2,v1,v3,v5,v6,v8,v9,v10,hS0,hS1,hS2,hS3,hSo,hSw,hlt,hp',hps,hge,f1,f2,f3,hws,hr40,hr41,hsn,Fa01,Fa02,Fa03,Fa04,Fb01,Fb02,Fb03,Fb04,Fc01,Fc02,Fc03,Fc04,Fd01,Fd02,Fd03,Fd04,Fo01,Fo02,Fo03,Fo04,N0a,N0b,N1a,N1b,N2a,N2b,N3a,N3b,y0,y1,y2,y3,y4,y5,na,Fw01,Fw02,Fw03,Fw04,M0a,M0b,M1a,M1b,M2a,M2b,M3a,M3b,M4a,M4b]
       refine zal (n-1) (by omega) ⟨i+1,o,ep,Q,out++[zga g cfg p],.ref (st.nx+3) none st.ep 0 (out.length+1),hG',by simp [v1],by simp [v3],by simp [v5],by simp [v6],by simp [v8],by simp [v9],by simp,ho3,(by simp <;> omega),by simp <;> omega,by simp [Fa01,Fa02,Fa03,Fa04,Fb01,Fb02,Fb03,Fb04,Fc01,Fc02,Fc03,Fc04,Fd01,Fd02,Fd03,Fd04,Fo01,Fo02,Fo03,Fo04,N0a,N0b,N1a,N1b,N2a,N2b,N3a,N3b,y0,y1,y2,y3,y4,y5,na,Fw01,Fw02,Fw03,Fw04,M0a,M0b,M1a,M1b,M2a,M2b,M3a,M3b,M4a,M4b,hS0],by simp [Fa01,Fa02,Fa03,Fa04,Fb01,Fb02,Fb03,Fb04,Fc01,Fc02,Fc03,Fc04,Fd01,Fd02,Fd03,Fd04,Fo01,Fo02,Fo03,Fo04,N0a,N0b,N1a,N1b,N2a,N2b,N3a,N3b,y0,y1,y2,y3,y4,y5,na,Fw01,Fw02,Fw03,Fw04,M0a,M0b,M1a,M1b,M2a,M2b,M3a,M3b,M4a,M4b,hS1],by simp [Fa01,Fa02,Fa03,Fa04,Fb01,Fb02,Fb03,Fb04,Fc01,Fc02,Fc03,Fc04,Fd01,Fd02,Fd03,Fd04,Fo01,Fo02,Fo03,Fo04,N0a,N0b,N1a,N1b,N2a,N2b,N3a,N3b,y0,y1,y2,y3,y4,y5,na,Fw01,Fw02,Fw03,Fw04,M0a,M0b,M1a,M1b,M2a,M2b,M3a,M3b,M4a,M4b,hS2],by simp [Fa01,Fa02,Fa03,Fa04,Fb01,Fb02,Fb03,Fb04,Fc01,Fc02,Fc03,Fc04,Fd01,Fd02,Fd03,Fd04,Fo01,Fo02,Fo03,Fo04,N0a,N0b,N1a,N1b,N2a,N2b,N3a,N3b,y0,y1,y2,y3,y4,y5,na,Fw01,Fw02,Fw03,Fw04,M0a,M0b,M1a,M1b,M2a,M2b,M3a,M3b,M4a,M4b],by simp [Fa01,Fa02,Fa03,Fa04,Fb01,Fb02,Fb03,Fb04,Fc01,Fc02,Fc03,Fc04,Fd01,Fd02,Fd03,Fd04,Fo01,Fo02,Fo03,Fo04,N0a,N0b,N1a,N1b,N2a,N2b,N3a,N3b,y0,y1,y2,y3,y4,y5,na,Fw01,Fw02,Fw03,Fw04,M0a,M0b,M1a,M1b,M2a,M2b,M3a,M3b,M4a,M4b,hSo],.inr ⟨st.nx+3,st.ep,by simp,by omega,by simp <;> omega,by omega,by simp [nd,zga,y0,y1,y2,y3,y4,y5]⟩⟩
     ·obtain ⟨K,Kb⟩:=K
      simp only [cnd] at f1
      have hge:cfg.de≤p.l:=by omega
      rcases hN with ⟨rfl,rfl⟩ | ⟨w,ew,rfl,hw5,hwx,hwo,hSw⟩
      ·simp [-getElem?_pos,zj2,v1,v3,v5,v6,v8,v9,v10,hS0,hS1,hS2,hS3,hSo,hlt,hp',hps,hge,f1,f2,f3,hws,hr40,Fa01,Fa02,Fa03,Fa04,Fb01,Fb02,Fb03,Fb04,Fc01,Fc02,Fc03,Fc04,Fd01,Fd02,Fd03,Fd04,Fo01,Fo02,Fo03,Fo04,N0a,N0b,N1a,N1b,N2a,N2b,N3a,N3b,y0,y1,y2,y3,y4,y5,na]
       refine zal (n-1) (by omega) ⟨i+1,o,ep,Q,[zga g cfg p],.ref (st.nx+3) none st.ep 0 1,hG',by simp [v1],by simp [v3],by simp [v5],by simp [v6],by simp [v8],by simp [v9],by simp,ho3,(by simp <;> omega),by simp <;> omega,by simp [Fa01,Fa02,Fa03,Fa04,Fb01,Fb02,Fb03,Fb04,Fc01,Fc02,Fc03,Fc04,Fd01,Fd02,Fd03,Fd04,Fo01,Fo02,Fo03,Fo04,N0a,N0b,N1a,N1b,N2a,N2b,N3a,N3b,y0,y1,y2,y3,y4,y5,na,hS0],by simp [Fa01,Fa02,Fa03,Fa04,Fb01,Fb02,Fb03,Fb04,Fc01,Fc02,Fc03,Fc04,Fd01,Fd02,Fd03,Fd04,Fo01,Fo02,Fo03,Fo04,N0a,N0b,N1a,N1b,N2a,N2b,N3a,N3b,y0,y1,y2,y3,y4,y5,na,hS1],by simp [Fa01,Fa02,Fa03,Fa04,Fb01,Fb02,Fb03,Fb04,Fc01,Fc02,Fc03,Fc04,Fd01,Fd02,Fd03,Fd04,Fo01,Fo02,Fo03,Fo04,N0a,N0b,N1a,N1b,N2a,N2b,N3a,N3b,y0,y1,y2,y3,y4,y5,na,hS2],by simp [Fa01,Fa02,Fa03,Fa04,Fb01,Fb02,Fb03,Fb04,Fc01,Fc02,Fc03,Fc04,Fd01,Fd02,Fd03,Fd04,Fo01,Fo02,Fo03,Fo04,N0a,N0b,N1a,N1b,N2a,N2b,N3a,N3b,y0,y1,y2,y3,y4,y5,na],by simp [Fa01,Fa02,Fa03,Fa04,Fb01,Fb02,Fb03,Fb04,Fc01,Fc02,Fc03,Fc04,Fd01,Fd02,Fd03,Fd04,Fo01,Fo02,Fo03,Fo04,N0a,N0b,N1a,N1b,N2a,N2b,N3a,N3b,y0,y1,y2,y3,y4,y5,na,hSo],.inr ⟨st.nx+3,st.ep,by simp,by omega,by simp <;> omega,by omega,by simp [nd,zga,y0,y1,y2,y3,y4,y5]⟩⟩
      ·obtain ⟨Fw01,Fw02,Fw03,Fw04⟩:=fr (show w<st.nx by omega)
       have M0a:(w=0)=False:=eq_false (by omega)
       have M0b:(0=w)=False:=eq_false (by omega)
       have M1a:(w=1)=False:=eq_false (by omega)
       have M1b:(1=w)=False:=eq_false (by omega)
       have M2a:(w=2)=False:=eq_false (by omega)
       have M2b:(2=w)=False:=eq_false (by omega)
       have M3a:(w=3)=False:=eq_false (by omega)
       have M3b:(3=w)=False:=eq_false (by omega)
       have M4a:(w=o)=False:=eq_false (by omega)
       have M4b:(o=w)=False:=eq_false (by omega)
       simp [-getElem?_pos,zj2,v1,v3,v5,v6,v8,v9,v10,hS0,hS1,hS2,hS3,hSo,hSw,hlt,hp',hps,hge,f1,f2,f3,hws,hr40,hr41,hsn,Fa01,Fa02,Fa03,Fa04,Fb01,Fb02,Fb03,Fb04,Fc01,Fc02,Fc03,Fc04,Fd01,Fd02,Fd03,Fd04,Fo01,Fo02,Fo03,Fo04,N0a,N0b,N1a,N1b,N2a,N2b,N3a,N3b,y0,y1,y2,y3,y4,y5,na,Fw01,Fw02,Fw03,Fw04,M0a,M0b,M1a,M1b,M2a,M2b,M3a,M3b,M4a,M4b]
       refine zal (n-1) (by omega) ⟨i+1,o,ep,Q,out++[zga g cfg p],.ref (st.nx+3) none st.ep 0 (out.length+1),hG',by simp [v1],by simp [v3],by simp [v5],by simp [v6],by simp [v8],by simp [v9],by simp,ho3,(by simp <;> omega),by simp <;> omega,by simp [Fa01,Fa02,Fa03,Fa04,Fb01,Fb02,Fb03,Fb04,Fc01,Fc02,Fc03,Fc04,Fd01,Fd02,Fd03,Fd04,Fo01,Fo02,Fo03,Fo04,N0a,N0b,N1a,N1b,N2a,N2b,N3a,N3b,y0,y1,y2,y3,y4,y5,na,Fw01,Fw02,Fw03,Fw04,M0a,M0b,M1a,M1b,M2a,M2b,M3a,M3b,M4a,M4b,hS0],by simp [Fa01,Fa02,Fa03,Fa04,Fb01,Fb02,Fb03,Fb04,Fc01,Fc02,Fc03,Fc04,Fd01,Fd02,Fd03,Fd04,Fo01,Fo02,Fo03,Fo04,N0a,N0b,N1a,N1b,N2a,N2b,N3a,N3b,y0,y1,y2,y3,y4,y5,na,Fw01,Fw02,Fw03,Fw04,M0a,M0b,M1a,M1b,M2a,M2b,M3a,M3b,M4a,M4b,hS1],by simp [Fa01,Fa02,Fa03,Fa04,Fb01,Fb02,Fb03,Fb04,Fc01,Fc02,Fc03,Fc04,Fd01,Fd02,Fd03,Fd04,Fo01,Fo02,Fo03,Fo04,N0a,N0b,N1a,N1b,N2a,N2b,N3a,N3b,y0,y1,y2,y3,y4,y5,na,Fw01,Fw02,Fw03,Fw04,M0a,M0b,M1a,M1b,M2a,M2b,M3a,M3b,M4a,M4b,hS2],by simp [Fa01,Fa02,Fa03,Fa04,Fb01,Fb02,Fb03,Fb04,Fc01,Fc02,Fc03,Fc04,Fd01,Fd02,Fd03,Fd04,Fo01,Fo02,Fo03,Fo04,N0a,N0b,N1a,N1b,N2a,N2b,N3a,N3b,y0,y1,y2,y3,y4,y5,na,Fw01,Fw02,Fw03,Fw04,M0a,M0b,M1a,M1b,M2a,M2b,M3a,M3b,M4a,M4b],by simp [Fa01,Fa02,Fa03,Fa04,Fb01,Fb02,Fb03,Fb04,Fc01,Fc02,Fc03,Fc04,Fd01,Fd02,Fd03,Fd04,Fo01,Fo02,Fo03,Fo04,N0a,N0b,N1a,N1b,N2a,N2b,N3a,N3b,y0,y1,y2,y3,y4,y5,na,Fw01,Fw02,Fw03,Fw04,M0a,M0b,M1a,M1b,M2a,M2b,M3a,M3b,M4a,M4b,hSo],.inr ⟨st.nx+3,st.ep,by simp,by omega,by simp <;> omega,by omega,by simp [nd,zga,y0,y1,y2,y3,y4,y5]⟩⟩
    | true =>
     obtain ⟨m1,hG'⟩:=hG.cut hp hGg.symm
     have t7:=yms t2
     have hlv:p.l<cfg.de:=by
      have h9:=hG2.symm
      simp only [Bool.and_eq_true,decide_eq_true_eq] at h9
      exact h9.1
     have hK2:K.2=true:=by
      have h9:=hG2.symm
      simp only [Bool.and_eq_true,decide_eq_true_eq] at h9
      exact h9.2
     obtain ⟨kf,kb,X,Y,z,k1,k2,hX,hY,hz,kI⟩:=y0f (c:=c) (v:=v) (g:=g) (cfg:=cfg) (rows:=p.r) (b:=p.b) (by rw [← hK]; exact hK2)
     rw [← hK] at f1 hG' k1 k2 kI
     obtain ⟨⟨kf',kb',ka,kz⟩,Kb⟩:=K
     simp only at hK2 k1 k2 kI f1 hG'
     subst hK2 k1 k2
     have hfc:=(List.getElem?_eq_some_iff.mp hX).1
     have hfv:=(List.getElem?_eq_some_iff.mp hY).1
     have hbx:=(List.getElem?_eq_some_iff.mp hz).1
     have hX':=ze6 (q:=q) hX
     have hY':=ze6 (q:=q) hY
     have hz':=za7 hz
     have f4:=yfi cfg p.b ⟨kf,kb,ka,kz⟩ kI
     have f5:=yfj cfg kf (by omega)
     have f6:=yyh (zhi cfg kf) p.b (zcz cfg p.b ⟨kf,kb,ka,kz⟩).1 (zcz cfg p.b ⟨kf,kb,ka,kz⟩).2.1 (yfv _ _ _).1 (yfv _ _ _).2
     have f7:=yyo Y p.r kb (hv Y (List.mem_of_getElem? hY)) (by omega)
     have hkl:zl7 c v cfg p ⟨kf,kb,ka,kz⟩=⟨zc4 Y p.r kb,(ziq (zhi cfg kf) p.b (zcz cfg p.b ⟨kf,kb,ka,kz⟩).1 (zcz cfg p.b ⟨kf,kb,ka,kz⟩).2.1).1,p.l+1⟩:=by
      unfold zl7
      simp only [z24 hY,Option.getD_some]
     have hkr:zl2 c v cfg p ⟨kf,kb,ka,kz⟩=⟨zfv Y p.r kb,(ziq (zhi cfg kf) p.b (zcz cfg p.b ⟨kf,kb,ka,kz⟩).1 (zcz cfg p.b ⟨kf,kb,ka,kz⟩).2.1).2,p.l+1⟩:=by
      unfold zl2
      simp only [z24 hY,Option.getD_some]
     have hcn:zsm c ⟨kf,kb,ka,kz⟩ Q.length=⟨kf,z,Q.length,Q.length+1,0⟩:=by
      unfold zsm
      simp only [z24 hX,Option.getD_some,z24 hz]
     rw [hkl,hkr,hcn] at hG'
     clear hkl hkr hcn
     generalize zcz cfg p.b ⟨kf,kb,ka,kz⟩=sv at *
     obtain ⟨sl,sr,sb⟩:=sv
     simp only at f4 f6 hG'
     generalize zhi cfg kf=sg at *
     generalize ziq sg p.b sl sr=bb at *
     obtain ⟨⟨ll,lh⟩,⟨rl,rh⟩⟩:=bb
     generalize zc4 Y p.r kb=L1 at *
     generalize zfv Y p.r kb=R1 at *
     simp only [bnd,cnd] at f1 f4 f6 hG'
     have hQ:=y3e Q ⟨L1,⟨ll,lh⟩,p.l+1⟩ ⟨R1,⟨rl,rh⟩,p.l+1⟩
     have hsn2:=zvi out ⟨kf,z,Q.length,Q.length+1,0⟩
     simp only at hQ hsn2
     have wl:=w64 (x:=p.l+1) (by omega) (by omega)
     have wq:=w64 (x:=(Q.length:Int)+1) (by omega) (by omega)
     have hge : ¬ cfg.de≤p.l:=by omega
     have hr482:zaj 48 2=true:=by decide
     have hr483:zaj 48 (Q.length+2)=true:=by simp [zaj]; omega
     rcases hN with ⟨rfl,rfl⟩ | ⟨w,ew,rfl,hw5,hwx,hwo,hSw⟩
     ·simp [-getElem?_pos,zj2,v1,v3,v5,v6,v8,v9,v10,hS0,hS1,hS2,hS3,hSo,hlt,hp',hps,hge,f1,f4,f5,f6,f7,hX',hY',hz',hfc,hfv,hbx,wl,wq,hr482,hr483,hQ,hws,hr40,Fa01,Fa02,Fa03,Fa04,Fb01,Fb02,Fb03,Fb04,Fc01,Fc02,Fc03,Fc04,Fd01,Fd02,Fd03,Fd04,Fo01,Fo02,Fo03,Fo04,N0a,N0b,N1a,N1b,N2a,N2b,N3a,N3b,y0,y1,y2,y3,y4,y5,na]
      refine zal (n-1) (by omega) ⟨i+1,st.nx+9,st.ep,(Q++[⟨L1,⟨ll,lh⟩,p.l+1⟩,⟨R1,⟨rl,rh⟩,p.l+1⟩]),[⟨kf,z,Q.length,Q.length+1,0⟩],.ref (st.nx+7) none st.ep 0 1,hG',by simp [v1],by simp [v3],by simp [v5],by simp [v6],by simp [v8],by simp,by simp,by omega,by simp,by simp <;> omega,by simp [Fa01,Fa02,Fa03,Fa04,Fb01,Fb02,Fb03,Fb04,Fc01,Fc02,Fc03,Fc04,Fd01,Fd02,Fd03,Fd04,Fo01,Fo02,Fo03,Fo04,N0a,N0b,N1a,N1b,N2a,N2b,N3a,N3b,y0,y1,y2,y3,y4,y5,na,hS0],by simp [Fa01,Fa02,Fa03,Fa04,Fb01,Fb02,Fb03,Fb04,Fc01,Fc02,Fc03,Fc04,Fd01,Fd02,Fd03,Fd04,Fo01,Fo02,Fo03,Fo04,N0a,N0b,N1a,N1b,N2a,N2b,N3a,N3b,y0,y1,y2,y3,y4,y5,na,hS1],by simp [Fa01,Fa02,Fa03,Fa04,Fb01,Fb02,Fb03,Fb04,Fc01,Fc02,Fc03,Fc04,Fd01,Fd02,Fd03,Fd04,Fo01,Fo02,Fo03,Fo04,N0a,N0b,N1a,N1b,N2a,N2b,N3a,N3b,y0,y1,y2,y3,y4,y5,na,hS2],by simp [Fa01,Fa02,Fa03,Fa04,Fb01,Fb02,Fb03,Fb04,Fc01,Fc02,Fc03,Fc04,Fd01,Fd02,Fd03,Fd04,Fo01,Fo02,Fo03,Fo04,N0a,N0b,N1a,N1b,N2a,N2b,N3a,N3b,y0,y1,y2,y3,y4,y5,na],by simp [Fa01,Fa02,Fa03,Fa04,Fb01,Fb02,Fb03,Fb04,Fc01,Fc02,Fc03,Fc04,Fd01,Fd02,Fd03,Fd04,Fo01,Fo02,Fo03,Fo04,N0a,N0b,N1a,N1b,N2a,N2b,N3a,N3b,y0,y1,y2,y3,y4,y5,na],.inr ⟨st.nx+7,st.ep,by simp,by omega,by simp,by simp,by simp [nd,Fo03,Fo04,Fo01,Fo02,y0,y1,y2,y3,y4,y5]⟩⟩
     ·obtain ⟨Fw01,Fw02,Fw03,Fw04⟩:=fr (show w<st.nx by omega)
      have M0a:(w=0)=False:=eq_false (by omega)
      have M0b:(0=w)=False:=eq_false (by omega)
      have M1a:(w=1)=False:=eq_false (by omega)
      have M1b:(1=w)=False:=eq_false (by omega)
      have M2a:(w=2)=False:=eq_false (by omega)
      have M2b:(2=w)=False:=eq_false (by omega)
      have M3a:(w=3)=False:=eq_false (by omega)
      have M3b:(3=w)=False:=eq_false (by omega)
      have M4a:(w=o)=False:=eq_false (by omega)
      have M4b:(o=w)=False:=eq_false (by omega)
      simp [-getElem?_pos,zj2,v1,v3,v5,v6,v8,v9,v10,hS0,hS1,hS2,hS3,hSo,hSw,hlt,hp',hps,hge,f1,f4,f5,f6,f7,hX',hY',hz',hfc,hfv,hbx,wl,wq,hr482,hr483,hQ,hws,hr40,hr41,hsn2,Fa01,Fa02,Fa03,Fa04,Fb01,Fb02,Fb03,Fb04,Fc01,Fc02,Fc03,Fc04,Fd01,Fd02,Fd03,Fd04,Fo01,Fo02,Fo03,Fo04,N0a,N0b,N1a,N1b,N2a,N2b,N3a,N3b,y0,y1,y2,y3,y4,y5,na,Fw01,Fw02,Fw03,Fw04,M0a,M0b,M1a,M1b,M2a,M2b,M3a,M3b,M4a,M4b]
      refine zal (n-1) (by omega) ⟨i+1,st.nx+9,st.ep,(Q++[⟨L1,⟨ll,lh⟩,p.l+1⟩,⟨R1,⟨rl,rh⟩,p.l+1⟩]),(out++[⟨kf,z,Q.length,Q.length+1,0⟩]),.ref (st.nx+7) none st.ep 0 (out.length+1),hG',by simp [v1],by simp [v3],by simp [v5],by simp [v6],by simp [v8],by simp,by simp,by omega,by simp,by simp <;> omega,by simp [Fa01,Fa02,Fa03,Fa04,Fb01,Fb02,Fb03,Fb04,Fc01,Fc02,Fc03,Fc04,Fd01,Fd02,Fd03,Fd04,Fo01,Fo02,Fo03,Fo04,N0a,N0b,N1a,N1b,N2a,N2b,N3a,N3b,y0,y1,y2,y3,y4,y5,na,Fw01,Fw02,Fw03,Fw04,M0a,M0b,M1a,M1b,M2a,M2b,M3a,M3b,M4a,M4b,hS0],by simp [Fa01,Fa02,Fa03,Fa04,Fb01,Fb02,Fb03,Fb04,Fc01,Fc02,Fc03,Fc04,Fd01,Fd02,Fd03,Fd04,Fo01,Fo02,Fo03,Fo04,N0a,N0b,N1a,N1b,N2a,N2b,N3a,N3b,y0,y1,y2,y3,y4,y5,na,Fw01,Fw02,Fw03,Fw04,M0a,M0b,M1a,M1b,M2a,M2b,M3a,M3b,M4a,M4b,hS1],by simp [Fa01,Fa02,Fa03,Fa04,Fb01,Fb02,Fb03,Fb04,Fc01,Fc02,Fc03,Fc04,Fd01,Fd02,Fd03,Fd04,Fo01,Fo02,Fo03,Fo04,N0a,N0b,N1a,N1b,N2a,N2b,N3a,N3b,y0,y1,y2,y3,y4,y5,na,Fw01,Fw02,Fw03,Fw04,M0a,M0b,M1a,M1b,M2a,M2b,M3a,M3b,M4a,M4b,hS2],by simp [Fa01,Fa02,Fa03,Fa04,Fb01,Fb02,Fb03,Fb04,Fc01,Fc02,Fc03,Fc04,Fd01,Fd02,Fd03,Fd04,Fo01,Fo02,Fo03,Fo04,N0a,N0b,N1a,N1b,N2a,N2b,N3a,N3b,y0,y1,y2,y3,y4,y5,na,Fw01,Fw02,Fw03,Fw04,M0a,M0b,M1a,M1b,M2a,M2b,M3a,M3b,M4a,M4b],by simp [Fa01,Fa02,Fa03,Fa04,Fb01,Fb02,Fb03,Fb04,Fc01,Fc02,Fc03,Fc04,Fd01,Fd02,Fd03,Fd04,Fo01,Fo02,Fo03,Fo04,N0a,N0b,N1a,N1b,N2a,N2b,N3a,N3b,y0,y1,y2,y3,y4,y5,na,Fw01,Fw02,Fw03,Fw04,M0a,M0b,M1a,M1b,M2a,M2b,M3a,M3b,M4a,M4b],.inr ⟨st.nx+7,st.ep,by simp,by omega,by simp,by simp,by simp [nd,Fo03,Fo04,Fo01,Fo02,y0,y1,y2,y3,y4,y5]⟩⟩
   ·have hiq:i=Q.length:=by have:=hG.le; omega
    have hgo:=hG.go
    rw [ymj (List.getElem?_eq_none (by omega)),← hR'] at hgo
    subst hgo
    have hol:=hG.ol
    rcases hN with ⟨rfl,rfl⟩ | ⟨w,ew,rfl,hw5,hwx,hwo,hSw⟩
    ·simp [-getElem?_pos,zj2,v1,v3,v5,v6,v8,v9,v10,hS0,hS1,hS2,hS3,hSo,hlt,Fa01,Fa02,Fa03,Fa04,Fb01,Fb02,Fb03,Fb04,Fc01,Fc02,Fc03,Fc04,Fd01,Fd02,Fd03,Fd04,Fo01,Fo02,Fo03,Fo04,N0a,N0b,N1a,N1b,N2a,N2b,N3a,N3b,y0,y1,y2,y3,y4,y5,na]
    ·obtain ⟨Fw01,Fw02,Fw03,Fw04⟩:=fr (show w<st.nx by omega)
     have M0a:(w=0)=False:=eq_false (by omega)
     have M0b:(0=w)=False:=eq_false (by omega)
     have M1a:(w=1)=False:=eq_false (by omega)
     have M1b:(1=w)=False:=eq_false (by omega)
     have M2a:(w=2)=False:=eq_false (by omega)
     have M2b:(2=w)=False:=eq_false (by omega)
     have M3a:(w=3)=False:=eq_false (by omega)
     have M3b:(3=w)=False:=eq_false (by omega)
     have M4a:(w=o)=False:=eq_false (by omega)
     have M4b:(o=w)=False:=eq_false (by omega)
     simp [-getElem?_pos,zj2,v1,v3,v5,v6,v8,v9,v10,hS0,hS1,hS2,hS3,hSo,hSw,hlt,Fa01,Fa02,Fa03,Fa04,Fb01,Fb02,Fb03,Fb04,Fc01,Fc02,Fc03,Fc04,Fd01,Fd02,Fd03,Fd04,Fo01,Fo02,Fo03,Fo04,N0a,N0b,N1a,N1b,N2a,N2b,N3a,N3b,y0,y1,y2,y3,y4,y5,na,Fw01,Fw02,Fw03,Fw04,M0a,M0b,M1a,M1b,M2a,M2b,M3a,M3b,M4a,M4b]
  ·refine ⟨by simp,by simp,by simp,by simp,by simp,by simp,by simp,by simp,by simp,by simp,by simp,by simp,by simp,by simp,by simp [hroot],.inl ⟨rfl,rfl⟩⟩
theorem z6d {c v:List (List Int)} {g:List Int} {cfg:Cfg} : ∀ (n:Nat) (q:List Pnd) (i:Nat) (out:List Nd),(zdv c v g cfg n q i out).length≤out.length+n
 | 0,q,i,out=>by simp [zdv]
 | n+1,q,i,out=>by
  rw [zdv]
  split
  ·omega
  ·split
   ·refine Nat.le_trans (z6d n _ _ _) ?_
    simp; omega
   ·refine Nat.le_trans (z6d n _ _ _) ?_
    simp; omega
theorem ykd (c v:List (List Int)) (g:List Int) (cfg:Cfg):(zc3 c v g cfg).1.length≤32:=by
 unfold zc3
 split
 ·have:=z6d (c:=c) (v:=v) (g:=g) (cfg:=cfg) 32 [zf1 g] 0 []
  simpa using this
 ·simp
theorem yyq {q:Bool} {f:Nat} {cs:List PV} {p:List Int→Bool} (M:List (List Int)) (hl:M.length≤9223372036854775807) (hm:zad T f=[]) (hp : ∀ t∈M,RUN T f [.sl 1 (zab t),.fptr cs 0]=some ([bv (p t)],[])) :
  RUN T zq4 [.sl 1 (rws q M),.fn f [.fptr cs 0]]=some ([iv (zgf p M)],[]):=by
 refine zaf ydo rfl ?_
 simp [z01,z02]
 refine zas (fun n st => ∃ i:Nat,i+n=M.length∧st.V 0 = .sl 1 (rws q M)∧st.V 1 = .fn f [.fptr cs 0]∧st.V 8=iv i∧st.V 7=iv M.length∧∀ (j:Nat) (x:List Int),j<i→M[j]?=some x→p x=false) ?_ M.length _ ⟨0,by simp⟩
 rintro n st ⟨i,hi,h0,h1,h8,h7,hj⟩
 simp [z97,h0,h1,h8,h7]
 refine zao (fun h => ?_) (fun h => ?_)
 ·simp at h
  obtain ⟨x,hx⟩ : ∃ x,M[i]?=some x:=⟨_,List.getElem?_eq_getElem h⟩
  have hw:=wS h hl
  have hx':=ze6 (q:=q) hx
  have hpx:=hp x (List.mem_of_getElem? hx)
  simp [-getElem?_pos,h0,h1,h8,h7,hx',hw,hm,hpx,h]
  refine zao (fun b0 => ?_) (fun b0 => ?_) <;> (try simp at b0) <;> simp [-getElem?_pos,b0,h0,h1,h8,h7,hx',hw]
  all_goals first
   | exact (zou hx b0 hj).symm
   | exact zal (n-1) (by omega) ⟨i+1,by omega,by simp [h0],by simp [h1],by simp,by simp [h7],zwm hj hx b0⟩
 ·simp at h
  simp [h]
  exact (ztk fun j x hl hx=>hj j x (by omega) hx).symm
theorem yyr {q:Bool} {f:Nat} {cs:List PV} {p:List Int→Bool} (M:List (List Int)) (hl:M.length≤9223372036854775807) (hm:zad T f=[]) (hp : ∀ t∈M,RUN T f [.sl 1 (zab t),.fptr cs 0]=some ([bv (p t)],[])) :
  RUN T zqf [.sl 1 (rws q M),.fn f [.fptr cs 0]]=some ([bv (M.any p)],[]):=by
 refine zaf ycf rfl ?_
 have e:=yyq (q:=q) M hl hm hp
 simp [zy4,zy5,e,z40]
def zd6 (n:Nat) (r:List Int):Bool:=decide ((r.length:Int)=n) && r.all za8
def zbh (t:Ta):Bool:=zai t.ns.length 1 4 && zd8 (t.ns++[t.nm]) && zai t.rw.length 1 40 && decide ((t.lb.length:Int)=t.rw.length) && t.lb.all za8 && t.rw.all (zd6 t.ns.length)
theorem yf1 {L:List ByteArray} {x:ByteArray} {i:Nat} (h:i<L.length):nmB (L++[x]) i=nmB L i:=by
 obtain ⟨y,hy⟩ : ∃ y,L[i]?=some y:=⟨_,List.getElem?_eq_getElem h⟩
 have hy2:(L++[x])[i]?=some y:=by rw [List.getElem?_append_left h]; exact hy
 rw [zsl hy,zsl hy2,List.take_append_of_le_length (by omega)]
theorem y7e {L:List ByteArray} {x:ByteArray}:nmB (L++[x]) L.length=(zdk x && !zfb L x):=by
 rw [zsl (x:=x) (by simp)]
 simp
theorem y28 (L:List ByteArray) (x:ByteArray):zd8 (L++[x])=(zd8 L && (zdk x && !zfb L x)):=by
 unfold zd8
 rw [show (L++[x]).length=L.length+1 by simp,List.range_succ,List.all_append]
 simp only [List.all_cons,List.all_nil,Bool.and_true]
 rw [y7e]
 congr 1
 rw [Bool.eq_iff_iff,List.all_eq_true,List.all_eq_true]
 constructor
 ·intro h j hj; rw [← yf1 (x:=x) (List.mem_range.mp hj)]; exact h j hj
 ·intro h j hj; rw [yf1 (List.mem_range.mp hj)]; exact h j hj
theorem yl4 (l:List ByteArray):zb5 (zaw l)=true:=by
 induction l with
 | nil=>rfl
 | cons x l ih=>simpa [zaw,zb5] using ih
theorem z8t (l:List Int):zb5 (zab l)=true:=by
 induction l with
 | nil=>rfl
 | cons x l ih=>simpa [zab,zb5] using ih
theorem y8o (l:List Nd):zb5 (l.map nd)=true:=by
 induction l with
 | nil=>rfl
 | cons x l ih=>simpa [nd,zb5] using ih
theorem yfk (l:List ByteArray) (hl:l.length≤1048576):RUN T zmk [.sl 1 (zaw l)]=some ([.own 1 (zaw l)],[]) :=
 z57 ya7 (yl4 l) (by simp [zaj]; omega)
theorem yys (l:List Int) (hl:l.length≤1048576):RUN T zpo [.sl 1 (zab l)]=some ([.own 1 (zab l)],[]) :=
 z57 ya8 (z8t l) (by simp [zaj]; omega)
theorem yyt (l:List Nd) (hl:l.length≤1048576):RUN T zq5 [.sl 5 (l.map nd)]=some ([.own 5 (l.map nd)],[]) :=
 z57 ydp (y8o l) (by simp [zaj]; omega)
theorem yyu (q:Bool) (t:Ta) (r:List Int) (hr:r.length≤9223372036854775807):RUN T zmw [.sl 1 (zab r),.fptr [.sl 1 (zaw t.ns),.v (.string t.nm),.sl 1 (rws q t.rw),.sl 1 (zab t.lb)] 0]=some ([bv (!zd6 t.ns.length r)],[]):=by
 have e:=ye2 r hr
 unfold zd6
 generalize r.all za8=a at *
 refine zaf ycg rfl ?_
 rcases Classical.propComplete ((r.length:Int)=t.ns.length) with h | h <;> cases a <;> simp [-getElem?_pos,zy6,zy7,e,h]
theorem y0l (l:List ByteArray) (x:ByteArray):zaw l++[[.v (.string x)]]=zaw (l++[x]):=by simp [zaw]
set_option maxHeartbeats 2000000 in
theorem yyv (q:Bool) (t:Ta) (ht:TaL 1048576 t):RUN T zpm [taS q t]=some ([bv (zbh t)],[]):=by
 have h0:=yfk t.ns ht.ns
 have h1:=yfa (t.ns++[t.nm]) (by have:=ht.ns; simp; omega) (fun x hx=>by
  rcases List.mem_append.mp hx with e | e
  ·exact Nat.le_trans (ht.ss x e) (by omega)
  ·simp at e; subst e; exact Nat.le_trans ht.nm (by omega))
 have h2:=ye2 t.lb (Nat.le_trans ht.lb (by omega))
 have h3:=yyr (q:=q) (f:=zmw) (cs:=[.sl 1 (zaw t.ns),.v (.string t.nm),.sl 1 (rws q t.rw),.sl 1 (zab t.lb)]) (p:=fun r => !zd6 t.ns.length r) t.rw (Nat.le_trans ht.rw (by omega)) (by simp) (fun r hr=>yyu q t r (Nat.le_trans (ht.rr r hr) (by omega)))
 have e3:(!(t.rw.any fun r => !zd6 t.ns.length r))=t.rw.all (zd6 t.ns.length):=by simp [List.any_eq_not_all_not]
 have g1:=ze4 t.ns.length 1 4
 have g2:=ze4 t.rw.length 1 40
 have hsn:=y0l t.ns t.nm
 have hns:=ht.ns
 have hr1:zaj 16 1=true:=by decide
 have hr2:zaj 16 (t.ns.length+1)=true:=by simp [zaj]; omega
 unfold zbh
 rw [← e3]
 clear e3
 generalize zd8 (t.ns++[t.nm])=a1 at *
 generalize t.lb.all za8=a2 at *
 generalize (t.rw.any fun r => !zd6 t.ns.length r)=a3 at *
 generalize zai t.ns.length 1 4=b1 at *
 generalize zai t.rw.length 1 40=b2 at *
 refine zaf ya5 rfl ?_
 cases b1 with
 | false=>simp [-getElem?_pos,zjw,zjx,-zdn,g1,g2,h0,h1,h2,h3,hsn,hr1,hr2]
 | true =>
 cases a1 with
 | false=>simp [-getElem?_pos,zjw,zjx,-zdn,g1,g2,h0,h1,h2,h3,hsn,hr1,hr2]
 | true =>
 cases b2 with
 | false=>simp [-getElem?_pos,zjw,zjx,-zdn,g1,g2,h0,h1,h2,h3,hsn,hr1,hr2]
 | true =>
 rcases Classical.propComplete ((t.lb.length:Int)=t.rw.length) with h | h
 ·cases a2 with
  | false=>simp [-getElem?_pos,zjw,zjx,-zdn,g1,g2,h0,h1,h2,h3,hsn,hr1,hr2,h]
  | true=>cases a3 <;> simp [-getElem?_pos,zjw,zjx,-zdn,g1,g2,h0,h1,h2,h3,hsn,hr1,hr2,h]
 ·simp [-getElem?_pos,zjw,zjx,-zdn,g1,g2,h0,h1,h2,h3,hsn,hr1,hr2,h]
abbrev taB (q:Bool) (t:Ta):List PV:=[.sl 1 (zaw t.ns),.v (.string t.nm),.sl 1 (rws q t.rw),.sl 1 (zab t.lb)]
theorem y5o (q:Bool) (t:Ta) (ht:TaL 9223372036854775807 t) {Q:Ex→St→Prop} {st:St} (h1:st.V 1 = .ptr 0 none 0 0 0) (h3:st.V 3=iv t.ns.length) (h4:st.V 4=iv (0:Nat)) (hS:st.S 0=some (.box (taB q t)))
  (hr:zd8 t.ns=false→∀ s:St,s.V 2=bv false→Q .ret s) (he:zd8 t.ns=true→∀ s:St,s.V 1 = .ptr 0 none 0 0 0→s.V 3=iv t.ns.length→s.S 0=some (.box (taB q t))→Q (.exit 0) s):W (zad T) (RUN T) (.loop zrs) st Q:=by
 refine zas (fun n st => ∃ i:Nat,i+n=t.ns.length∧(∀ j,j<i→nmB t.ns j=true)∧st.V 1 = .ptr 0 none 0 0 0∧st.V 3=iv t.ns.length∧st.V 4=iv i∧st.S 0=some (.box (taB q t))) ?_ t.ns.length _ ⟨0,by omega,fun _ h=>by omega,h1,h3,h4,hS⟩
 clear h1 h3 h4 hS
 rintro n st ⟨i,hi,hj,v1,v3,v4,hS⟩
 by_cases h:i<t.ns.length
 ·obtain ⟨x,hx⟩ : ∃ x,t.ns[i]?=some x:=⟨_,List.getElem?_eq_getElem h⟩
  have hx':=zii hx
  have hw:=wS h ht.ns
  have hml:=ht.ns
  have hN:=z5j x (ht.ss x (List.mem_of_getElem? hx))
  have hC:=z5k (t.ns.take i) x (by simp; omega)
  have hc:=zsl hx
  have hil:i≤t.ns.length:=by omega
  cases a1:zdk x with
  | false =>
   rw [a1] at hN hc
   simp [-getElem?_pos,zrs,v1,v3,v4,hS,hx',h,hw,hN]
   exact hr (zg6 h (by rw [hc]; rfl)) _ (by simp)
  | true =>
   rw [a1] at hN hc
   cases a2:zfb (t.ns.take i) x with
   | true =>
    rw [a2] at hC hc
    simp [-getElem?_pos,zrs,v1,v3,v4,hS,hx',h,hw,hN,hC,hil,ztl]
    exact hr (zg6 h (by rw [hc]; rfl)) _ (by simp)
   | false =>
    rw [a2] at hC hc
    simp [-getElem?_pos,zrs,v1,v3,v4,hS,hx',h,hw,hN,hC,hil,ztl]
    exact zal (n-1) (by omega) ⟨i+1,by omega,zeq hj (by rw [hc]; rfl),by simp [v1],by simp [v3],by simp,by simp [hS]⟩
 ·simp [-getElem?_pos,zrs,v3,v4,h]
  exact he (zom fun j hj'=>hj j (by omega)) _ (by simp [v1]) (by simp [v3]) (by simp [hS])
theorem yzo (q:Bool) (t:Ta) (ht:TaL 9223372036854775807 t) {r:List Int} {j:Nat} (hj:t.rw[j]?=some r) (hl:r.length=t.ns.length) {Q:Ex→St→Prop} {st:St} (h1:st.V 1 = .ptr 0 none 0 0 0) (h3:st.V 3=iv t.ns.length) (h5:st.V 5=iv j) (h6:st.V 6=iv (0:Nat)) (hS:st.S 0=some (.box (taB q t)))
  (hr:r.all za8=false→∀ s:St,s.V 2=bv false→Q .ret s) (he:r.all za8=true→∀ s:St,s.V 1 = .ptr 0 none 0 0 0→s.V 3=iv t.ns.length→s.V 5=iv j→s.S 0=some (.box (taB q t))→Q (.exit 4) s):W (zad T) (RUN T) (.loop zts) st Q:=by
 have hj':=ze6 (q:=q) hj
 have hjl:=(List.getElem?_eq_some_iff.mp hj).1
 refine zas (fun n st => ∃ i:Nat,i+n=r.length∧(∀ (k:Nat) (x:Int),k<i→r[k]?=some x→za8 x=true)∧st.V 1 = .ptr 0 none 0 0 0∧st.V 3=iv t.ns.length∧st.V 5=iv j∧st.V 6=iv i∧st.S 0=some (.box (taB q t))) ?_ r.length _ ⟨0,by omega,fun _ _ h=>by omega,h1,h3,h5,h6,hS⟩
 clear h1 h3 h5 h6 hS
 rintro n st ⟨i,hi,hk,v1,v3,v5,v6,hS⟩
 by_cases h:i<t.ns.length
 ·obtain ⟨x,hx⟩ : ∃ x,r[i]?=some x:=⟨_,List.getElem?_eq_getElem (by omega)⟩
  have hx':=za7 hx
  have hw:=wS h ht.ns
  have hir:i<r.length:=by omega
  have hD:=zoa x
  cases a1:za8 x with
  | false =>
   rw [a1] at hD
   simp [-getElem?_pos,zts,-zoa,v1,v3,v5,v6,hS,hj',hjl,hir,hx',h,hw,hD]
   exact hr (ztn hx a1) _ (by simp)
  | true =>
   rw [a1] at hD
   simp [-getElem?_pos,zts,-zoa,v1,v3,v5,v6,hS,hj',hjl,hir,hx',h,hw,hD]
   exact zal (n-1) (by omega) ⟨i+1,by omega,zgo (P:=fun _ x=>za8 x=true) hk hx a1,by simp [v1],by simp [v3],by simp [v5],by simp,by simp [hS]⟩
 ·simp [-getElem?_pos,zts,v3,v6,h]
  exact he (zs2 fun k a h1 h2=>hk k a (by omega) h2) _ (by simp [v1]) (by simp [v3]) (by simp [v5]) (by simp [hS])
theorem yha {M:List (List Int)} {p:List Int→Bool} {j:Nat} {a:List Int} (h1:M[j]?=some a) (h2:p a=false):M.all p=false:=by
 cases e:M.all p with
 | false=>rfl
 | true=>rw [List.all_eq_true.mp e a (List.mem_of_getElem? h1)] at h2; cases h2
theorem y43 {M:List (List Int)} {p:List Int→Bool} (h : ∀ (j:Nat) (a:List Int),j<M.length→M[j]?=some a→p a=true):M.all p=true:=by
 rw [List.all_eq_true]
 intro x hx
 obtain ⟨j,hj⟩:=List.getElem?_of_mem hx
 exact h j x (List.getElem?_eq_some_iff.mp hj).1 hj
set_option maxHeartbeats 1000000 in
theorem y1m (q:Bool) (t:Ta) (ht:TaL 9223372036854775807 t) (hyl:t.lb.length=t.rw.length) {Q:Ex→St→Prop} {st:St} (h1:st.V 1 = .ptr 0 none 0 0 0) (h3:st.V 3=iv t.ns.length) (h5:st.V 5=iv (0:Nat)) (hS:st.S 0=some (.box (taB q t)))
  (hr:(t.lb.all za8 && t.rw.all (zd6 t.ns.length))=false→∀ s:St,s.V 2=bv false→Q .ret s) (he:(t.lb.all za8 && t.rw.all (zd6 t.ns.length))=true→∀ s:St,Q (.exit 2) s):W (zad T) (RUN T) (.loop zrt) st Q:=by
 refine zas (fun n st => ∃ i:Nat,i+n=t.rw.length∧(∀ (k:Nat) (x:Int),k<i→t.lb[k]?=some x→za8 x=true)∧(∀ (k:Nat) (x:List Int),k<i→t.rw[k]?=some x→zd6 t.ns.length x=true)∧st.V 1 = .ptr 0 none 0 0 0∧st.V 3=iv t.ns.length∧st.V 5=iv i∧st.S 0=some (.box (taB q t))) ?_ t.rw.length _ ⟨0,by omega,fun _ _ h=>by omega,fun _ _ h=>by omega,h1,h3,h5,hS⟩
 clear h1 h3 h5 hS
 rintro n st ⟨i,hi,hk,hk2,v1,v3,v5,hS⟩
 by_cases h:i<t.rw.length
 ·obtain ⟨r,hx⟩ : ∃ x,t.rw[i]?=some x:=⟨_,List.getElem?_eq_getElem h⟩
  obtain ⟨y,hy⟩ : ∃ x,t.lb[i]?=some x:=⟨_,List.getElem?_eq_getElem (by omega)⟩
  have hx':=ze6 (q:=q) hx
  have hy':=za7 hy
  have hw:=wS h ht.rw
  have hil:i<t.lb.length:=by omega
  have hD:=zoa y
  have hrb:zd6 t.ns.length r=(decide ((r.length:Int)=t.ns.length) && r.all za8):=rfl
  rcases Classical.propComplete ((r.length:Int)=t.ns.length) with e1 | e1
  ·cases a1:za8 y with
   | false =>
    rw [a1] at hD
    simp [-getElem?_pos,zrt,-zoa,v1,v3,v5,hS,hx',hy',h,hil,hD,e1]
    exact hr (by rw [ztn hy a1]; rfl) _ (by simp)
   | true =>
    rw [a1] at hD
    have e2:(r.length:Int)=t.ns.length:=by rw [e1]; trivial
    simp [-getElem?_pos,zrt,-zoa,v1,v3,v5,hS,hx',hy',h,hil,hD,e1]
    refine yzo q t ht hx (by omega) (by simp [v1]) (by simp [v3]) (by simp [v5]) (by simp) (by simp [hS]) (fun no s h2 => ?_) (fun ok s w1 w3 w5 wS => ?_)
    ·simp
     refine hr ?_ _ (by simp [h2])
     rw [yha hx (by rw [hrb,no]; simp)]; simp
    ·simp [-getElem?_pos,w1,w3,w5,wS,hw]
     exact zal (n-1) (by omega) ⟨i+1,by omega,zgo (P:=fun _ x=>za8 x=true) hk hy a1,(fun k x h1 h2=>by
      rcases Nat.lt_or_ge k i with h3 | h3
      ·exact hk2 k x h3 h2
      ·have:k=i:=by omega
       subst this
       rw [hx] at h2; cases h2
       rw [hrb,ok,decide_eq_true e2]; rfl),by simp [w1],by simp [w3],by simp,by simp [wS]⟩
  ·simp [-getElem?_pos,zrt,-zoa,v1,v3,v5,hS,hx',hy',h,hil,e1]
   refine hr ?_ _ (by simp)
   rw [yha hx (by rw [hrb]; simp [e1])]; simp
 ·simp [-getElem?_pos,zrt,v1,v5,hS,h]
  exact he (by rw [zs2 fun k a h1 h2=>hk k a (by omega) h2,y43 fun k a h1 h2=>hk2 k a (by omega) h2]; rfl) _
set_option maxHeartbeats 2000000 in
theorem z22 (q:Bool) (t:Ta) (ht:TaL 9223372036854775807 t):RUN T zjj [taS q t]=some ([bv (zbh t)],[]):=by
 have g1:=za5 t.ns.length 1 4
 have g2:=za5 t.rw.length 1 40
 have g3:=z5j t.nm ht.nm
 have g4:=z5k t.ns t.nm ht.ns
 have mod:zbh t=(zai t.ns.length 1 4 && (zd8 t.ns && (zdk t.nm && !zfb t.ns t.nm)) && zai t.rw.length 1 40 && decide ((t.lb.length:Int)=t.rw.length) && t.lb.all za8 && t.rw.all (zd6 t.ns.length)):=by
  unfold zbh
  rw [y28]
 rw [mod]
 clear mod
 generalize zai t.ns.length 1 4=b1 at *
 generalize zai t.rw.length 1 40=b2 at *
 generalize zdk t.nm=b3 at *
 generalize zfb t.ns t.nm=b4 at *
 obtain ⟨R,hR⟩ : ∃ R,R=(b1 && (zd8 t.ns && (b3 && !b4)) && b2 && decide ((t.lb.length:Int)=t.rw.length) && t.lb.all za8 && t.rw.all (zd6 t.ns.length)):=⟨_,rfl⟩
 rw [← hR]
 refine zaf yah rfl ?_
 cases b1 with
 | false =>
  have hR:R=false:=by rw [hR]; simp
  subst hR
  simp [-getElem?_pos,zjq,zjr,-zav,g1]
 | true =>
 cases b3 with
 | false =>
  have hR:R=false:=by rw [hR]; simp
  subst hR
  simp [-getElem?_pos,zjq,zjr,-zav,g1,g3]
 | true =>
 cases b4 with
 | true =>
  have hR:R=false:=by rw [hR]; simp
  subst hR
  simp [-getElem?_pos,zjq,zjr,-zav,g1,g3,g4]
 | false =>
 cases b2 with
 | false =>
  have hR:R=false:=by rw [hR]; simp
  subst hR
  simp [-getElem?_pos,zjq,zjr,-zav,g1,g2,g3,g4]
 | true =>
 by_cases e2:(t.lb.length:Int)=t.rw.length
 ·have e1:((t.lb.length:Int)=t.rw.length)=True:=eq_true e2
  rw [decide_eq_true e2] at hR
  simp [-getElem?_pos,zjq,zjr,-zav,g1,g2,g3,g4,e1]
  refine y5o q t ht (by simp) (by simp) (by simp) (by simp) (fun no s h2 => ?_) (fun ok s u1 u3 uS => ?_)
  ·have hR:R=false:=by rw [hR,no]; simp
   simp [h2,hR]
  ·simp [-getElem?_pos,u1,u3,uS]
   refine y1m q t ht (by omega) (by simp [u1]) (by simp [u3]) (by simp) (by simp [uS]) (fun no s h2 => ?_) (fun ok2 s => ?_)
   ·have hR:R=false:=by rw [hR,ok]; generalize t.lb.all za8=a at *; generalize t.rw.all (zd6 t.ns.length)=b at *; cases a <;> cases b <;> first | rfl | cases no
    simp [h2,hR]
   ·have hR:R=true:=by rw [hR,ok]; generalize t.lb.all za8=a at *; generalize t.rw.all (zd6 t.ns.length)=b at *; cases a <;> cases b <;> first | rfl | cases ok2
    simp [hR]
 ·have e1:((t.lb.length:Int)=t.rw.length)=False:=eq_false e2
  have hR:R=false:=by rw [hR,decide_eq_false e2]; simp
  subst hR
  simp [-getElem?_pos,zjq,zjr,-zav,g1,g2,g3,g4,e1]
theorem yyw (t:List Nd) (hl:t.length≤1048576):RUN T zqg [.agg [.sl 5 (t.map nd)]]=some ([.agg [.own 5 (t.map nd)]],[]):=by
 have e:=yyt t hl
 refine zaf yci rfl ?_
 simp [-getElem?_pos,zza,zzb,e]
theorem yfl (t:List Nd) (hl:t.length≤1048576):RUN T zmy [.agg [.sl 5 (t.map nd)]]=some ([.agg [.own 5 (t.map nd)]],[]):=by
 have h0:zaj 40 0=true:=by decide
 have h1:zaj 40 t.length=true:=by simp [zaj]; omega
 have h2:=ykt t
 refine zaf yck rfl ?_
 simp [-getElem?_pos,zze,zzf,h0,h1,h2]
theorem yyx (q:Bool) (M:List (List Nd)) (hl:M.length≤1048576) (ht : ∀ t∈M,t.length≤1048576):RUN T zpp [.sl 1 (trs q M)]=some ([.own 1 (trs true M)],[]):=by
 have hr0:zaj 24 0=true:=by decide
 have hr1:zaj 24 1=true:=by decide
 refine zaf ya9 rfl ?_
 simp [-getElem?_pos,zxn,zxo,hr0]
 refine zas (fun n st => ∃ (i o e:Nat),i+n=M.length∧st.V 3 = .ref o none e 0 i∧st.V 7 = .sl 1 (trs q M)∧st.V 8=iv M.length∧st.V 9=iv i∧o<st.nx∧st.S o=some (.row 1 (trs true (M.take i)))) ?_ M.length _ ⟨0,0,0,by omega,by simp,by simp,by simp,by simp,by simp,by simp [trs]⟩
 rintro n st ⟨i,o,ep,hi,v3,v7,v8,v9,hox,hSo⟩
 obtain ⟨x1,x2,x3,x4⟩:=fr hox
 have na : ∀ a b:Nat,st.nx+a+b=st.nx+(a+b):=fun a b=>Nat.add_assoc _ _ _
 by_cases h:i<M.length
 ·obtain ⟨t,hx⟩ : ∃ t,M[i]?=some t:=⟨_,List.getElem?_eq_getElem h⟩
  have hx':=zj7 (q:=q) hx
  have hw:=wS h (by omega:M.length≤9223372036854775807)
  have e1:=yyw t (ht t (List.mem_of_getElem? hx))
  have hr24:zaj 24 (i+1)=true:=by simp [zaj]; omega
  have hsn:trs true (M.take i)++[[.own 5 (t.map nd)]]=trs true (M.take (i+1)):=by rw [z8c,List.take_succ,hx]; rfl
  have hml:(M.take i).length=i:=by simp; omega
  simp [-getElem?_pos,z42,v3,v7,v8,v9,hSo,h,hx',hw,e1,hr1,hr24,hsn,hml,x1,x2,x3,x4,na]
  exact zal (n-1) (by omega) ⟨i+1,st.nx+3,st.ep,by omega,by simp; omega,by simp [v7],by simp [v8],by simp,by simp,by simp⟩
 ·have e:i=M.length:=by omega
  subst e
  rw [List.take_length] at hSo
  simp [-getElem?_pos,z42,v3,v8,v9,hSo,h]
theorem yfm (q:Bool) (M:List (List Nd)) (hl:M.length≤1048576) (ht : ∀ t∈M,t.length≤1048576):RUN T zmm [.sl 1 (trs q M)]=some ([.own 1 (trs true M)],[]):=by
 have hr0:zaj 24 0=true:=by decide
 have hr1:zaj 24 1=true:=by decide
 refine zaf ybb rfl ?_
 simp [-getElem?_pos,zxr,zxs,hr0]
 refine zas (fun n st => ∃ (i o e:Nat),i+n=M.length∧st.V 0 = .sl 1 (trs q M)∧st.V 3 = .ref o none e 0 i∧st.V 4=iv i∧o<st.nx∧st.S o=some (.row 1 (trs true (M.take i)))) ?_ M.length _ ⟨0,0,0,by omega,by simp,by simp,by simp,by simp,by simp [trs]⟩
 rintro n st ⟨i,o,ep,hi,v0,v3,v4,hox,hSo⟩
 obtain ⟨x1,x2,x3,x4⟩:=fr hox
 have na : ∀ a b:Nat,st.nx+a+b=st.nx+(a+b):=fun a b=>Nat.add_assoc _ _ _
 by_cases h:i<M.length
 ·obtain ⟨t,hx⟩ : ∃ t,M[i]?=some t:=⟨_,List.getElem?_eq_getElem h⟩
  have hx':=zj7 (q:=q) hx
  have hw:=wS h (by omega:M.length≤9223372036854775807)
  have e1:=yfl t (ht t (List.mem_of_getElem? hx))
  have hr24:zaj 24 (i+1)=true:=by simp [zaj]; omega
  have hsn:trs true (M.take i)++[[.own 5 (t.map nd)]]=trs true (M.take (i+1)):=by rw [z8c,List.take_succ,hx]; rfl
  have hml:(M.take i).length=i:=by simp; omega
  simp [-getElem?_pos,z43,v0,v3,v4,hSo,h,hx',hw,e1,hr1,hr24,hsn,hml,x1,x2,x3,x4,na]
  exact zal (n-1) (by omega) ⟨i+1,st.nx+2,st.ep,by omega,by simp [v0],by simp; omega,by simp,by simp,by simp⟩
 ·have e:i=M.length:=by omega
  subst e
  rw [List.take_length] at hSo
  simp [-getElem?_pos,z43,v0,v3,v4,hSo,h]
def zkx (t:Ta) (c:Cfg) (s:Sta):Mo:=⟨t.ns,c.sg,(zbs t.lb).1,s.ts⟩
def noM:Mo:=⟨[],[],0,[]⟩
def zde (t:Ta) (c:Cfg) (s:Sta):Mo×Bool:=if (zbh t && zbm c && zd0 (zkx t c s))=true then (zkx t c s,true) else (noM,false)
theorem z7u {t:Ta} {c:Cfg} {s:Sta} (ht:TaL 1048576 t) (hc:c.sg.length≤1048576) (hs:zly 1048576 s):MoL 1048576 (zkx t c s):=⟨ht.ns,ht.ss,hc,hs.ts,hs.tl⟩
set_option maxHeartbeats 2000000 in
theorem yfn (p q:Bool) (t:Ta) (c:Cfg) (s:Sta) (ht:TaL 1048576 t) (hc:c.sg.length≤1048576) (hs:zly 1048576 s) (hi : ∀ x∈t.lb,inI x):RUN T zmh [taS p t,zfg c,stS q s]=some ([moO (zde t c s).1,bv (zde t c s).2],[]):=by
 have e1:=yyv p t ht
 have e2:=ywy c (Nat.le_trans hc (by omega))
 have e3:=yxa t.lb (Nat.le_trans ht.lb (by omega)) hi
 have e4:=yfk t.ns ht.ns
 have e5:=yys c.sg hc
 have e6:=yyx q s.ts hs.ts hs.tl
 have hL:=z7u ht hc hs
 have e7:=z5l true (zkx t c s) ⟨Nat.le_trans hL.ns (by omega),fun x hx=>Nat.le_trans (hL.ss x hx) (by omega),Nat.le_trans hL.ix (by omega),Nat.le_trans hL.ts (by omega),fun x hx=>Nat.le_trans (hL.tl x hx) (by omega)⟩
 unfold zde
 generalize zd0 (zkx t c s)=b3 at *
 generalize zbh t=b1 at *
 generalize zbm c=b2 at *
 simp only [zkx,noM,zfg] at *
 generalize zbs t.lb=bs at *
 obtain ⟨bs,bb⟩:=bs
 simp only at e3 e7 ⊢
 have zs:zaw []=[]:=rfl
 have zi:zab []=[]:=rfl
 have zt:trs true []=[]:=rfl
 refine zaf yak rfl ?_
 cases b1 with
 | false=>simp [-getElem?_pos,znn,zno,e1,zs,zi,zt]
 | true =>
 cases b2 with
 | false=>simp [-getElem?_pos,znn,zno,e1,e2,zs,zi,zt]
 | true =>
 cases b3 with
 | false =>
  simp [-getElem?_pos,znn,zno,e1,e2,e3,e4,e5,e6,e7,zs,zi,zt]
 | true=>simp [-getElem?_pos,znn,zno,e1,e2,e3,e4,e5,e6,e7]
set_option maxHeartbeats 2000000 in
theorem yyy (p q:Bool) (t:Ta) (c:Cfg) (s:Sta) (ht:TaL 1048576 t) (hc:c.sg.length≤1048576) (hs:zly 1048576 s) (hi : ∀ x∈t.lb,inI x):RUN T zo7 [taS p t,zfg c,stS q s]=some ([moO (zde t c s).1,bv (zde t c s).2],[]):=by
 have e1:=z22 p t ⟨Nat.le_trans ht.ns (by omega),fun x hx=>Nat.le_trans (ht.ss x hx) (by omega),Nat.le_trans ht.nm (by omega),Nat.le_trans ht.rw (by omega),fun x hx=>Nat.le_trans (ht.rr x hx) (by omega),Nat.le_trans ht.lb (by omega)⟩
 have e2:=zva c (Nat.le_trans hc (by omega))
 have e3:=ye6 t.lb (Nat.le_trans ht.lb (by omega)) hi
 have e6:=yfm q s.ts hs.ts hs.tl
 have hL:=z7u ht hc hs
 have e7:=yxu true (zkx t c s) ⟨Nat.le_trans hL.ns (by omega),fun x hx=>Nat.le_trans (hL.ss x hx) (by omega),Nat.le_trans hL.ix (by omega),Nat.le_trans hL.ts (by omega),fun x hx=>Nat.le_trans (hL.tl x hx) (by omega)⟩
 have h0:zaj 16 0=true:=by decide
 have h1:zaj 16 t.ns.length=true:=by have:=ht.ns; simp [zaj]; omega
 have h2:zaj 8 0=true:=by decide
 have h3:=zcb (n:=c.sg.length) (by omega)
 have a1:=yl4 t.ns
 have a2:=z8t c.sg
 unfold zde
 generalize zd0 (zkx t c s)=b3 at *
 generalize zbh t=b1 at *
 generalize zbm c=b2 at *
 simp only [zkx,noM,zfg] at *
 generalize zbs t.lb=bs at *
 obtain ⟨bs,bb⟩:=bs
 simp only at e3 e7 ⊢
 have zs:zaw []=[]:=rfl
 have zi:zab []=[]:=rfl
 have zt:trs true []=[]:=rfl
 refine zaf yal rfl ?_
 cases b1 with
 | false=>simp [-getElem?_pos,znp,znq,e1,zs,zi,zt]
 | true =>
 cases b2 with
 | false=>simp [-getElem?_pos,znp,znq,e1,e2,zs,zi,zt]
 | true =>
 cases b3 with
 | false =>
  simp [-getElem?_pos,znp,znq,e1,e2,e3,e6,e7,h0,h1,h2,h3,a1,a2,zs,zi,zt]
 | true=>simp [-getElem?_pos,znp,znq,e1,e2,e3,e6,e7,h0,h1,h2,h3,a1,a2]
theorem yjn {t:Ta} {c:Cfg} {s:Sta} (ht:TaL 1048576 t) (hc:c.sg.length≤1048576) (hs:zly 1048576 s) (hl:zmg s.ts≤1048576):MoL 1048576 (zde t c s).1∧zmg (zde t c s).1.ts≤1048576:=by
 unfold zde
 split
 ·exact ⟨z7u ht hc hs,hl⟩
 ·exact ⟨⟨by simp [noM],by simp [noM],by simp [noM],by simp [noM],by simp [noM]⟩,by simp [noM,zmg]⟩
def zhg (c:Cfg) (x:Nd):Nd:=if x.f = -1 then ⟨x.f,x.c,x.l,x.r,(shr x.v c).1⟩ else x
def zkj (c:Cfg) (x:Nd):Bool := !decide (x.f = -1) || (shr x.v c).2
def zim (c:Cfg) (t:List Nd):List Nd×Bool:=if t.all (zkj c)=true then (t.map (zhg c),true) else ([],false)
def zwe (c:Cfg) (t C:List Nd) (p:Nat→Prop):Prop:=C.length=t.length∧∀ (j:Nat) (x:Nd),t[j]?=some x→(p j→C[j]?=some (zhg c x))∧(¬ p j→C[j]?=some x)
theorem y3a {c:Cfg} {t C:List Nd} {p:Nat→Prop} (h:zwe c t C p) (hp : ∀ (j:Nat) (x:Nd),t[j]?=some x→x.f = -1→p j):C=t.map (zhg c):=by
 refine List.ext_getElem? fun j => ?_
 rcases Nat.lt_or_ge j t.length with hj | hj
 ·obtain ⟨x,hx⟩ : ∃ x,t[j]?=some x:=⟨_,List.getElem?_eq_getElem hj⟩
  obtain ⟨h1,h2⟩:=h.2 j x hx
  rw [List.getElem?_map,hx,Option.map_some]
  rcases Classical.em (p j) with hpj | hpj
  ·exact h1 hpj
  ·rw [h2 hpj]
   by_cases hf:x.f = -1
   ·exact absurd (hp j x hx hf) hpj
   ·unfold zhg; rw [if_neg hf]
 ·rw [List.getElem?_eq_none (by rw [h.1]; omega),List.getElem?_eq_none (by simpa using hj)]
theorem y7l {c:Cfg} {t C:List Nd} {p:Nat→Prop} {i:Nat} {x:Nd} (h:zwe c t C p) (hx:t[i]?=some x) (hf:x.f = -1):zwe c t (C.set i ⟨x.f,x.c,x.l,x.r,(shr x.v c).1⟩) (fun j=>p j∨j=i):=by
 refine ⟨by rw [List.length_set,h.1],fun j y hy => ?_⟩
 obtain ⟨h1,h2⟩:=h.2 j y hy
 have hi:=(List.getElem?_eq_some_iff.mp hx).1
 by_cases e:j=i
 ·subst e
  rw [hx] at hy; cases hy
  refine ⟨fun _ => ?_,fun hn=>absurd (.inr rfl) hn⟩
  rw [List.getElem?_set_self (by rw [h.1]; exact hi)]
  unfold zhg; rw [if_pos hf]
 ·rw [List.getElem?_set_ne (fun h=>e h.symm)]
  exact ⟨fun hp=>h1 (hp.resolve_right e),fun hn=>h2 fun hp=>hn (.inl hp)⟩
theorem yzw {c:Cfg} {t C:List Nd} {p:Nat→Prop} {i:Nat} {x:Nd} (h:zwe c t C p) (hx:t[i]?=some x) : ∃ v,C[i]?=some ⟨x.f,x.c,x.l,x.r,v⟩:=by
 obtain ⟨h1,h2⟩:=h.2 i x hx
 rcases Classical.em (p i) with hp | hp
 ·rw [h1 hp]
  unfold zhg
  split
  ·exact ⟨_,rfl⟩
  ·exact ⟨x.v,rfl⟩
 ·exact ⟨x.v,h2 hp⟩
theorem y3p {c:Cfg} {t:List Nd} {i:Nat} {x:Nd} (hx:t[i]?=some x) (hf:x.f = -1) (hs:(shr x.v c).2=false):t.all (zkj c)=false:=by
 cases e:t.all (zkj c) with
 | false=>rfl
 | true =>
  have:=List.all_eq_true.mp e x (List.mem_of_getElem? hx)
  unfold zkj at this
  rw [hs,decide_eq_true hf] at this
  cases this
theorem y46 {c:Cfg} {t:List Nd} (h : ∀ (j:Nat) (x:Nd),t[j]?=some x→x.f = -1→(shr x.v c).2=true):t.all (zkj c)=true:=by
 rw [List.all_eq_true]
 intro x hx
 obtain ⟨j,hj⟩:=List.getElem?_of_mem hx
 unfold zkj
 by_cases hf:x.f = -1
 ·rw [h j x hj hf]; simp
 ·rw [decide_eq_false hf]; rfl
set_option maxHeartbeats 2000000 in
theorem yyz (t:List Nd) (c:Cfg) (hl:t.length≤1048576) (hc:c.sg.length≤1048576):RUN T zp6 [.agg [.sl 5 (t.map nd)],zfg c]=some ([.agg [.own 5 ((zim c t).1.map nd)],bv (zim c t).2],[]):=by
 have e1:=yfl t hl
 obtain ⟨R,hR⟩ : ∃ R,R=zim c t:=⟨_,rfl⟩
 have hR':R=if t.all (zkj c)=true then (t.map (zhg c),true) else ([],false):=hR
 rw [← hR]
 clear hR
 simp only [zfg]
 refine zaf yb1 rfl ?_
 simp [-getElem?_pos,zyk,zyl,e1]
 refine zas (fun n st => ∃ (i:Nat) (C:List Nd),i+n=t.length∧zwe c t C (fun j=>j<i)∧(∀ (j:Nat) (x:Nd),j<i→t[j]?=some x→(x.f = -1→(shr x.v c).2=true))∧st.V 2 = .ptr 0 none 0 0 0∧st.V 3 = .ptr 1 none 0 0 0∧st.V 4 = .ptr 2 none 0 0 0∧st.V 6 = .ptr 4 none 0 0 0∧st.V 7=iv i∧4<st.nx∧st.S 0=some (.box [.sl 5 (t.map nd)])∧st.S 1=some (.box [iv c.ro,iv c.de,iv c.bi,iv c.la,iv c.rw,iv c.nu,iv c.dn,.sl 1 (zab c.sg)])∧st.S 2=some (.box [.e0])∧st.S 4=some (.box [.ref 3 none 0 0 t.length])∧st.S 3=some (.row 5 (C.map nd))) ?_ t.length _ ⟨0,t,by omega,⟨rfl,fun j x hx=>⟨fun h=>by omega,fun _=>hx⟩⟩,fun j x h=>by omega,by simp,by simp,by simp,by simp,by simp,by simp,by simp,by simp,by simp,by simp,by simp⟩
 rintro n st ⟨i,C,hi,hC,hok,v2,v3,v4,v6,v7,h4x,hS0,hS1,hS2,hS4,hS3⟩
 obtain ⟨z1,z2,z3,z4⟩:=fr h4x
 by_cases h:i<t.length
 ·obtain ⟨x,hx⟩ : ∃ x,t[i]?=some x:=⟨_,List.getElem?_eq_getElem h⟩
  have hx':=z6u hx
  have hw:=wS h (by omega:t.length≤9223372036854775807)
  have f1:=yw1 x.v c (by omega)
  obtain ⟨v,hv⟩:=yzw hC hx
  have hv':=z6u hv
  have hCl:i<C.length:=by rw [hC.1]; exact h
  simp only [zfg] at f1
  rcases Classical.propComplete (x.f = -1) with hf | hf
  ·have hf':x.f = -1:=by rw [hf]; trivial
   have hset:=zs5 C i x.f x.c x.l x.r (shr x.v c).1
   have hI:=y7l hC hx hf'
   cases hb:(shr x.v c).2 with
   | false =>
    rw [y3p hx hf' hb,if_neg (by simp)] at hR'
    subst hR'
    rw [hb] at f1
    simp [-getElem?_pos,zua,v2,v3,v4,v6,v7,hS0,hS1,hS2,hS4,hS3,h,hx',hf,f1]
   | true =>
    have hok2:=zgo (P:=fun _ x=>x.f = -1→(shr x.v c).2=true) hok hx (fun _=>hb)
    rw [hb] at f1
    simp [-getElem?_pos,zua,v2,v3,v4,v6,v7,hS0,hS1,hS2,hS4,hS3,h,hx',hw,hf,f1,hv',hCl,hC.1,hset]
    exact zal (n-1) (by omega) ⟨i+1,_,by omega,⟨hI.1,fun j y hy=>⟨fun hj=>(hI.2 j y hy).1 (by omega),fun hj=>(hI.2 j y hy).2 (by omega)⟩⟩,hok2,by simp [v2],by simp [v3],by simp [v4],by simp [v6],by simp,by simp [h4x],by simp [hS0],by simp [hS1],by simp [hS2],by simp [hS4],by simp⟩
  ·have hf' : ¬ x.f = -1:=by rw [hf]; exact id
   have hok2:=zgo (P:=fun _ x=>x.f = -1→(shr x.v c).2=true) hok hx (fun h=>absurd h hf')
   simp [-getElem?_pos,zua,v2,v3,v4,v6,v7,hS0,hS1,hS2,hS4,hS3,h,hx',hw,hf]
   refine zal (n-1) (by omega) ⟨i+1,C,by omega,⟨hC.1,fun j y hy=>⟨fun hj => ?_,fun hj=>(hC.2 j y hy).2 (by omega)⟩⟩,hok2,by simp [v2],by simp [v3],by simp [v4],by simp [v6],by simp,by simp [h4x],by simp [hS0],by simp [hS1],by simp [hS2],by simp [hS4],by simp [hS3]⟩
   by_cases e:j=i
   ·subst e
    rw [hx] at hy; cases hy
    rw [(hC.2 j x hx).2 (by omega)]
    unfold zhg; rw [if_neg hf']
   ·exact (hC.2 j y hy).1 (by omega)
 ·have hall:=y3a hC (fun j x hx _=>by have:=(List.getElem?_eq_some_iff.mp hx).1; omega)
  rw [y46 (fun j x hx hf=>hok j x (by have:=(List.getElem?_eq_some_iff.mp hx).1; omega) hx hf),if_pos rfl,← hall] at hR'
  have hCl:=hC.1
  subst hR'
  simp [-getElem?_pos,zua,v2,v4,v6,v7,hS0,hS2,hS4,hS3,h,hCl]
theorem y5n (c:Cfg) (t:List Nd):(zim c t).1.length≤t.length:=by
 unfold zim
 split
 ·simp
 ·simp
def zfm (t:Ta):Sta×Bool:=if zbh t=true then (⟨List.replicate t.lb.length (zbs t.lb).1,[]⟩,true) else (⟨[],[]⟩,false)
theorem yzy (b:Int) (i:Nat):zab (List.replicate i b)++[[iv b]]=zab (List.replicate (i+1) b):=by
 rw [List.replicate_succ']; simp [zab]
set_option maxHeartbeats 2000000 in
theorem yy0 (q:Bool) (t:Ta) (ht:TaL 1048576 t) (hi : ∀ x∈t.lb,inI x):RUN T zpv [taS q t]=some ([stO (zfm t).1,bv (zfm t).2],[]):=by
 have e1:=z22 q t ⟨Nat.le_trans ht.ns (by omega),fun x hx=>Nat.le_trans (ht.ss x hx) (by omega),Nat.le_trans ht.nm (by omega),Nat.le_trans ht.rw (by omega),fun x hx=>Nat.le_trans (ht.rr x hx) (by omega),Nat.le_trans ht.lb (by omega)⟩
 have e3:=ye6 t.lb (Nat.le_trans ht.lb (by omega)) hi
 have hlb:=ht.lb
 unfold zfm
 generalize zbh t=b1 at *
 generalize zbs t.lb=bs at *
 obtain ⟨bs,bb⟩:=bs
 simp only at e3 ⊢
 have hr1:zaj 8 1=true:=by decide
 have zi:zab []=[]:=rfl
 have zt:trs true []=[]:=rfl
 refine zaf ybj rfl ?_
 cases b1 with
 | false=>simp [-getElem?_pos,zt4,zt5,e1,zi,zt]
 | true =>
  simp [-getElem?_pos,zt4,zt5,e1,e3]
  refine zas (fun n st => ∃ (i:Nat) (x:PV),i+n=t.lb.length∧st.V 1 = .ptr 0 none 0 0 0∧st.V 2 = .ptr 1 none 0 0 0∧st.V 5=iv bs∧st.V 4 = .ptr 2 none 0 0 0∧st.V 7=iv i∧2<st.nx∧LC st.S st.nx 2 (List.replicate i bs) x∧st.S 0=some (.box [.sl 1 (zaw t.ns),.v (.string t.nm),.sl 1 (rws q t.rw),.sl 1 (zab t.lb)])∧st.S 1=some (.box [.e0,.e0])∧st.S 2=some (.box [x,.e0])) ?_ t.lb.length _ ⟨0,.e0,by omega,by simp,by simp,by simp,by simp,by simp,by simp,.inl ⟨rfl,rfl⟩,by simp,by simp,by simp⟩
  rintro n st ⟨i,x,hin,v1,v2,v5,v4,v7,hnx,hx,hS0,hS1,hS2⟩
  have z1:=fr hnx
  have z2:=fr (by omega:1<st.nx)
  have nz0 : ¬ st.nx=0:=by omega
  have z3:=fr (by omega:0<st.nx)
  by_cases h:i<t.lb.length
  ·have hw:=wS h (by omega:t.lb.length≤9223372036854775807)
   have hsn:=yzy bs i
   rcases hx with ⟨rfl,hm⟩ | ⟨o,e,rfl,ho,hox,hSo⟩
   ·have hi0:i=0:=by cases i with | zero=>rfl | succ n=>simp [List.replicate_succ] at hm
    subst hi0
    simp [-getElem?_pos,zt3,v1,v2,v4,v5,v7,hS0,hS1,hS2,z1,z2,z3,h,hw,hr1]
    exact zal (n-1) (by omega) ⟨1,_,by omega,by simp [v1],by simp [v2],by simp [v5],by simp [v4],by simp,by simp; omega,.inr ⟨st.nx+1,st.ep,rfl,by omega,by simp,by
     have n2 : ¬ st.nx+1=2:=by omega
     simp [n2,zab]⟩,by simp [z1,z2,z3,hS0],by simp [z1,z2,nz0,hS1],by simp⟩
   ·have hr8:=zcb (n:=i+1) (by omega)
    have y1:=fr hox
    have y2:=fr ho
    have y3:=fr (by omega:1<o)
    have y4:=fr (by omega:0<o)
    rw [List.length_replicate] at *
    have hil:(zab (List.replicate i bs)).length=i:=by simp [zab]
    generalize zab (List.replicate i bs)=A at *
    simp [-getElem?_pos,zt3,v1,v2,v4,v5,v7,hS0,hS1,hS2,hSo,z1,z2,z3,y1,y2,y3,y4,h,hw,hr8,hsn,hil]
    exact zal (n-1) (by omega) ⟨i+1,.ref (st.nx+1) none st.ep 0 (i+1),by omega,by simp [v1],by simp [v2],by simp [v5],by simp [v4],by simp,by simp; omega,.inr ⟨st.nx+1,st.ep,by simp,by omega,by simp,by
     have n2 : ¬ st.nx+1=2:=by omega
     simp [n2]⟩,by simp [z1,z2,z3,y1,y2,y3,y4,hS0],by simp [z1,z2,nz0,y1,y2,y3,hS1],by simp⟩
  ·have e:i=t.lb.length:=by omega
   subst e
   rcases hx with ⟨rfl,hm⟩ | ⟨o,e,rfl,ho,hox,hSo⟩
   ·rw [hm]
    simp [-getElem?_pos,zt3,v1,v2,v4,v5,v7,hS0,hS1,hS2,h,zi,zt]
   ·have y2:=fr ho
    have y3:=fr (by omega:1<o)
    rw [List.length_replicate] at *
    simp [-getElem?_pos,zt3,v1,v2,v4,v5,v7,hS0,hS1,hS2,hSo,y2,y3,h,zt]
def PDc (v:PV):Prop := ∃ n,v=iv n∧za8 n=true
theorem zto {n:Int} (h1 : -2147483647≤n) (h2:n≤2147483647):za8 n=true:=by
 unfold za8; exact za2.mpr ⟨h1,h2⟩
theorem yfo (B:List Int) (p:Nat) (s:Int) (hp:p≤B.length) (hB:B.length≤9223372036854775807) : ∃ r,RUN T zm1 [.bx [.sl 1 (zbl B),iv p,iv s]]=some r∧zfl B PDc r:=by
 refine zfe ycz rfl ?_
 have hr5:zaj 8 5=true:=by decide
 obtain ⟨r1,h1,v1,p1,s1,⟨b1,rfl⟩,hp1,rfl⟩:=zfj B p s hp hB 20 (by omega)
 cases b1 with
 | true =>
  obtain ⟨r2,h2,v2,p2,s2,⟨a2,rfl,hm⟩,hp2,rfl⟩:=zfk B p1 s1 hp1 hB [2147483647,-2147483647,1,-1,1000000000] (by simp)
  simp only [zab,List.map] at h2
  simp [-getElem?_pos,zr9,zsa,hr5,h1,h2]
  refine ⟨_,p2,s2,⟨a2,rfl,?_⟩,hp2,rfl⟩
  simp at hm
  exact zto (by omega) (by omega)
 | false =>
  obtain ⟨r2,h2,v2,p2,s2,⟨b2,rfl⟩,hp2,rfl⟩:=zfj B p1 s1 hp1 hB 2 (by omega)
  cases b2 with
  | true =>
   obtain ⟨r3,h3,v3,p3,s3,⟨a3,rfl,a30,a31⟩,hp3,rfl⟩:=zbf B p2 s2 hp2 hB 9 (by omega)
   have a32:=a31 (by omega)
   have w1:=w64 (x:=a3-4) (by omega) (by omega)
   have w2:=w64 (x:=1000*(a3-4)) (by omega) (by omega)
   simp [-getElem?_pos,zr9,zsa,h1,h2,h3,w1,w2]
   exact ⟨_,p3,s3,⟨_,rfl,zto (by omega) (by omega)⟩,hp3,rfl⟩
  | false =>
   obtain ⟨r3,h3,v3,p3,s3,⟨a3,rfl,a30,a31⟩,hp3,rfl⟩:=zbf B p2 s2 hp2 hB 41 (by omega)
   have a32:=a31 (by omega)
   have w1:=w64 (x:=a3-20) (by omega) (by omega)
   have w2:=w64 (x:=250*(a3-20)) (by omega) (by omega)
   simp [-getElem?_pos,zr9,zsa,h1,h2,h3,w1,w2]
   exact ⟨_,p3,s3,⟨_,rfl,zto (by omega) (by omega)⟩,hp3,rfl⟩
theorem ylb (l:List Int):(zfx l).length=l.length:=by
 unfold zfx
 rw [y6p]; simp
theorem yl8 (x:Int) (l:List Int) : ∀ k:Nat,(∀ j,pos x l k≤j→j<k→x<l.getD j 0)∧(pos x l k=0∨l.getD (pos x l k-1) 0≤x)
 | 0=>by
  refine ⟨fun j _ h=>by omega,.inl ?_⟩
  simp only [pos]
 | k+1=>by
  obtain ⟨h1,h2⟩:=yl8 x l k
  rw [z8y]
  by_cases hc:x<l.getD k 0
  ·rw [if_pos hc]
   refine ⟨fun j hj hk => ?_,h2⟩
   by_cases hjk:j=k
   ·subst hjk; exact hc
   ·exact h1 j hj (by omega)
  ·rw [if_neg hc]
   refine ⟨fun j hj hk=>by omega,.inr ?_⟩
   simp only [Nat.add_sub_cancel]
   omega
def srt (l:List Int):Prop:=l.Pairwise fun a b=>a≤b
theorem zs8 {l:List Int} (h:srt l) {i j:Nat} {a b:Int} (hij:i≤j) (ha:l[i]?=some a) (hb:l[j]?=some b):a≤b:=by
 by_cases e:i=j
 ·subst e; rw [ha] at hb; cases hb; exact Int.le_refl _
 ·obtain ⟨hi,rfl⟩:=List.getElem?_eq_some_iff.mp ha
  obtain ⟨hj,rfl⟩:=List.getElem?_eq_some_iff.mp hb
  exact List.pairwise_iff_getElem.mp h i j hi hj (by omega)
theorem y4q {l:List Int} (h:srt l) (x:Int):srt (ins l x):=by
 obtain ⟨P,hP⟩:=zdy.ex x l l.length
 rw [z3f hP]
 have hp:pos x l l.length=P:=by unfold zdy at hP; exact hP
 obtain ⟨h1,h2⟩:=yl8 x l l.length
 rw [hp] at h1 h2
 have hle:=z50 x l l.length
 rw [hp] at hle
 unfold srt
 rw [List.pairwise_append]
 refine ⟨h.sublist (List.take_sublist _ _),?_,?_⟩
 ·rw [List.pairwise_cons]
  refine ⟨fun b hb => ?_,h.sublist (List.drop_sublist _ _)⟩
  obtain ⟨j,hj⟩:=List.getElem?_of_mem hb
  rw [List.getElem?_drop] at hj
  have hlt:=(List.getElem?_eq_some_iff.mp hj).1
  have:=h1 (P+j) (by omega) hlt
  rw [List.getD,hj,Option.getD_some] at this
  omega
 ·intro a ha b hb
  obtain ⟨i,hi⟩:=List.getElem?_of_mem ha
  have hi2:i<P:=by
   have:=(List.getElem?_eq_some_iff.mp hi).1
   simp at this; omega
  rw [List.getElem?_take_of_lt hi2] at hi
  have hax:a≤x:=by
   rcases h2 with h2 | h2
   ·omega
   ·obtain ⟨y,hy⟩ : ∃ y,l[P-1]?=some y:=⟨_,List.getElem?_eq_getElem (by omega)⟩
    rw [List.getD,hy,Option.getD_some] at h2
    have:=zs8 h (by omega:i≤P-1) hi hy
    omega
  rcases List.mem_cons.mp hb with rfl | hb
  ·exact hax
  ·obtain ⟨j,hj⟩:=List.getElem?_of_mem hb
   rw [List.getElem?_drop] at hj
   exact zs8 h (by omega:i≤P+j) hi hj
theorem y7h (l:List Int) (x:Int):(ins l x).Perm (x::l):=by
 obtain ⟨P,hP⟩:=zdy.ex x l l.length
 rw [z3f hP]
 have:=List.perm_middle (a:=x) (l₁:=l.take P) (l₂:=l.drop P)
 rwa [List.take_append_drop] at this
theorem z4n : ∀ (l a:List Int),srt a→srt (l.foldl ins a)∧(l.foldl ins a).Perm (a++l)
 | [],a,h=>⟨h,by simp⟩
 | x::l,a,h=>by
  obtain ⟨h1,h2⟩:=z4n l (ins a x) (y4q h x)
  refine ⟨h1,h2.trans ?_⟩
  refine ((y7h a x).append_right l).trans ?_
  exact List.perm_middle.symm
theorem ykn {a:List Int} {i:Nat} {x:Int} (h:a[i]?=some x):Lib.compactUpTo a.toArray (i+1)=if (i=0∨¬ a[i-1]?=some x) then Lib.compactUpTo a.toArray i++[x] else Lib.compactUpTo a.toArray i:=by
 have hx:a.toArray[i]! = x:=by simp [h]
 have hlt:=(List.getElem?_eq_some_iff.mp h).1
 unfold Lib.compactUpTo
 rw [List.range_succ,List.filter_append,List.map_append]
 have hk:Lib.keeps a.toArray i=decide (i=0∨¬ a[i-1]?=some x):=by
  unfold Lib.keeps
  by_cases h0:i=0
  ·simp [h0]
  ·obtain ⟨y,hy⟩ : ∃ y,a[i-1]?=some y:=⟨_,List.getElem?_eq_getElem (by omega)⟩
   have hy':a.toArray[i-1]! = y:=by simp [hy]
   rw [hx,hy',hy]
   simp only [h0,false_or,Option.some.injEq]
   congr 1
   simp only [ne_eq,eq_comm]
 simp only [List.filter_cons,List.filter_nil,hk]
 by_cases hc:i=0∨¬ a[i-1]?=some x
 ·simp only [hc,decide_true,if_true,List.map_cons,List.map_nil,hx]
 ·simp only [hc,decide_false,if_false,Bool.false_eq_true,List.map_nil,List.append_nil]
set_option maxHeartbeats 1000000 in
theorem yy1 (l:List Int) (hl:l.length≤1048576):RUN T zq6 [.sl 1 (zab l)]=some ([.own 1 (zab (Lib.compact (zfx l)))],[]):=by
 have e1:=yfd l hl
 have hsl:=ylb l
 generalize zfx l=a at *
 have hr0:zaj 8 0=true:=by decide
 have hr1:zaj 8 1=true:=by decide
 refine zaf ydr rfl ?_
 simp [-getElem?_pos,z06,z07,hr0,e1]
 refine zas (fun n st => ∃ (i o e q e2:Nat) (m:List Int),i+n=l.length∧m=Lib.compactUpTo a.toArray i∧m.length≤i∧st.V 3 = .ref o none e 0 m.length∧st.V 4 = .ref q none e2 0 a.length∧st.V 5=iv i∧¬ o=q∧o<st.nx∧q<st.nx∧st.S o=some (.row 1 (zab m))∧st.S q=some (.row 1 (zab a))) ?_ l.length _ ⟨0,0,0,1,0,[],by omega,rfl,by simp,by simp,by simp,by simp,by omega,by simp,by simp,by simp [zab],by simp⟩
 rintro n st ⟨i,o,e,q,e2,m,hi,hmm,hm,v3,v4,v5,hoq,hox,hqx,hSo,hSq⟩
 obtain ⟨x1,x2,x3,x4⟩:=fr hox
 obtain ⟨z1,z2,z3,z4⟩:=fr hqx
 have hqo : ¬ q=o:=fun e=>hoq e.symm
 by_cases h:i<a.length
 ·obtain ⟨x,hx⟩ : ∃ x,a[i]?=some x:=⟨_,List.getElem?_eq_getElem h⟩
  have hx':=za7 hx
  have hw:=wS h (by omega:a.length≤9223372036854775807)
  have hr8:=zcb (n:=m.length+1) (by omega)
  have hsn:=zb8 m x
  have hcs:=ykn hx
  rw [← hmm] at hcs
  by_cases h0:i=0
  ·subst h0
   rw [if_pos (.inl rfl)] at hcs
   simp [-getElem?_pos,zup,v3,v4,v5,hSo,hSq,h,hx',hw,hr1,hr8,hsn,hoq,hqo,x1,x2,x3,x4,z1,z2,z3,z4]
   exact zal (n-1) (by omega) ⟨1,st.nx+1,st.ep,q,e2,m++[x],by omega,hcs.symm,by rw [List.length_append]; simp only [List.length_cons,List.length_nil]; omega,by simp,by simp [v4],by simp,by omega,by simp,by simp; omega,by simp,by simp [hoq,hqo,x1,x2,x3,x4,z1,z2,z3,z4,hSq]⟩
  ·obtain ⟨y,hy⟩ : ∃ x,a[i-1]?=some x:=⟨_,List.getElem?_eq_getElem (by omega)⟩
   have hy':=za7 hy
   have w1:IntKind.i64.wrap ((i:Int)-1)=((i-1:Nat):Int):=by rw [w64 (by omega) (by omega)]; omega
   have hil:i-1<a.length:=by omega
   rw [hy] at hcs
   by_cases hxy:x=y
   ·subst hxy
    rw [if_neg (by simp [h0])] at hcs
    simp [-getElem?_pos,zup,v3,v4,v5,hSo,hSq,h,h0,hil,hx',hy',hw,w1,hoq,hqo,x1,x2,x3,x4,z1,z2,z3,z4]
    exact zal (n-1) (by omega) ⟨i+1,o,e,q,e2,m,by omega,hcs.symm,by omega,by simp [v3],by simp [v4],by simp,hoq,by simp [hox],by simp [hqx],by simp [hSo],by simp [hSq]⟩
   ·rw [if_pos (.inr (fun e=>hxy (by cases e; rfl)))] at hcs
    simp [-getElem?_pos,zup,v3,v4,v5,hSo,hSq,h,h0,hil,hx',hy',hw,w1,hxy,hr1,hr8,hsn,hoq,hqo,x1,x2,x3,x4,z1,z2,z3,z4]
    exact zal (n-1) (by omega) ⟨i+1,st.nx+1,st.ep,q,e2,m++[x],by omega,hcs.symm,by simp; omega,by simp,by simp [v4],by simp,by omega,by simp,by simp; omega,by simp,by simp [hoq,hqo,x1,x2,x3,x4,z1,z2,z3,z4,hSq]⟩
 ·have hia:i=a.length:=by omega
  have hR:Lib.compact a=m:=by rw [hmm,hia]; rfl
  rw [hR]
  simp [-getElem?_pos,zup,v3,v4,v5,hSo,hSq,h]
def zf2 (c:List Int) (v:Int):Nat:=(c.filter fun x=>decide (x<v)).length
def zcm (t:Ta) (f:Nat):List Int:=t.rw.map fun r=>r.getD f 0
def zil (a:List Int) (b k:Nat):Nat:=a.length*k / b
def zlx (a:List Int) (b k:Nat):List Int:=if 1≤zil a b k∧a.getD (zil a b k-1) 0≠a.getD (a.length-1) 0 then [a.getD (zil a b k-1) 0] else []
def zfa (a:List Int) (b:Nat):Nat→List Int
 | 0=>[]
 | k+1=>zfa a b k++zlx a b (k+1)
def zc8 (l:List Int) (b:Int):List Int:=if (zai b 2 8 && zai l.length 1 40)=true then Lib.compact (zfa (zfx l) b.toNat (b.toNat-1)) else []
def zlu (t:Ta) (b:Int) (f:Nat):List Int:=(zcm t f).map fun v=>(zf2 (zc8 (zcm t f) b) v:Int)
def zby (t:Ta) (b:Int):List (List Int):=if (zbh t && zai b 2 8)=true then (List.range t.ns.length).map fun f=>zc8 (zcm t f) b else []
def zbv (t:Ta) (b:Int):List (List Int):=if (zbh t && zai b 2 8)=true then (List.range t.ns.length).map (zlu t b) else []
theorem yh6 (l:List Int):(Lib.compact l).length≤l.length:=by
 unfold Lib.compact Lib.compactUpTo
 rw [List.length_map]
 exact Nat.le_trans (List.length_filter_le _ _) (by simp)
theorem ygt {a:List Int} (ha:srt a) : ∀ i:Nat,i≤a.length→(Lib.compactUpTo a.toArray i).Pairwise (fun x y=>x<y)∧∀ y,y∈Lib.compactUpTo a.toArray i↔∃ j,j<i∧a[j]?=some y
 | 0,_=>by
  refine ⟨List.Pairwise.nil,fun y => ?_⟩
  constructor
  ·intro h; exact absurd h (by simp [Lib.compactUpTo])
  ·rintro ⟨j,h,_⟩; omega
 | i+1,hi=>by
  obtain ⟨h1,h2⟩:=ygt ha i (by omega)
  obtain ⟨x,hx⟩ : ∃ x,a[i]?=some x:=⟨_,List.getElem?_eq_getElem (by omega)⟩
  rw [ykn hx]
  by_cases hc:i=0∨¬ a[i-1]?=some x
  ·rw [if_pos hc]
   refine ⟨?_,fun y => ?_⟩
   ·rw [List.pairwise_append]
    refine ⟨h1,by simp,fun y hy z hz => ?_⟩
    simp only [List.mem_singleton] at hz
    subst hz
    obtain ⟨j,hj,hjy⟩:=(h2 y).mp hy
    rcases hc with hc | hc
    ·omega
    ·obtain ⟨w,hw⟩ : ∃ w,a[i-1]?=some w:=⟨_,List.getElem?_eq_getElem (by omega)⟩
     have e1:=zs8 ha (by omega:j≤i-1) hjy hw
     have e2:=zs8 ha (by omega:i-1≤i) hw hx
     have e3:w≠z:=fun e=>hc (by rw [hw,e])
     omega
   ·rw [List.mem_append,List.mem_singleton,h2 y]
    constructor
    ·rintro (⟨j,hj,e⟩ | rfl)
     ·exact ⟨j,by omega,e⟩
     ·exact ⟨i,by omega,hx⟩
    ·rintro ⟨j,hj,e⟩
     by_cases hji:j<i
     ·exact .inl ⟨j,hji,e⟩
     ·obtain rfl:j=i:=by omega
      rw [hx] at e; cases e
      exact .inr rfl
  ·rw [if_neg hc]
   refine ⟨h1,fun y => ?_⟩
   rw [h2 y]
   constructor
   ·rintro ⟨j,hj,e⟩; exact ⟨j,by omega,e⟩
   ·rintro ⟨j,hj,e⟩
    by_cases hji:j<i
    ·exact ⟨j,hji,e⟩
    ·obtain rfl:j=i:=by omega
     rw [hx] at e; cases e
     have hc1 : ¬ j=0:=fun h=>hc (.inl h)
     have hc2:a[j-1]?=some x:=Classical.byContradiction fun h=>hc (.inr h)
     exact ⟨j-1,by omega,hc2⟩
theorem zhf {t:Ta} (h:zbh t=true):1≤t.ns.length∧t.ns.length≤4∧1≤t.rw.length∧t.rw.length≤40∧t.lb.length=t.rw.length∧∀ r∈t.rw,r.length=t.ns.length:=by
 unfold zbh at h
 simp only [Bool.and_eq_true,decide_eq_true_eq,List.all_eq_true] at h
 obtain ⟨⟨⟨⟨⟨h1,_⟩,h3⟩,h4⟩,_⟩,h6⟩:=h
 have h1:=za2.mp h1
 have h3:=za2.mp h3
 refine ⟨by omega,by omega,by omega,by omega,by omega,fun r hr => ?_⟩
 have:=h6 r hr
 unfold zd6 at this
 simp only [Bool.and_eq_true,decide_eq_true_eq] at this
 omega
theorem z7c (l:List Int):srt (zfx l):=(z4n l [] List.Pairwise.nil).1
theorem y0z {l:List Int} (h:srt l):zfx l=l:=by
 have h2:=(z4n l [] List.Pairwise.nil).2
 refine List.Perm.eq_of_pairwise (le:=fun a b=>a≤b) (fun a b _ _ h1 h2=>by omega) (z7c l) h ?_
 rw [List.nil_append] at h2
 exact h2
theorem y18 {l:List Int} {x:Int}:x∈zfx l↔x∈l:=by
 have h2:=(z4n l [] List.Pairwise.nil).2
 rw [List.nil_append] at h2
 exact h2.mem_iff
theorem y8r (a:List Int) (b k:Nat):(zlx a b k).length≤1:=by unfold zlx; split <;> simp
theorem ygj (a:List Int) (b:Nat) : ∀ k,(zfa a b k).length≤k
 | 0=>by simp [zfa]
 | k+1=>by
  have:=ygj a b k
  have:=y8r a b (k+1)
  simp only [zfa,List.length_append]; omega
theorem y7a {a:List Int} {b k:Nat} (hk:k≤b):zil a b k≤a.length:=by
 unfold zil
 exact Nat.div_le_of_le_mul (by rw [Nat.mul_comm b]; exact Nat.mul_le_mul_left _ hk)
theorem yl9 {a:List Int} {b k:Nat}:zil a b k≤zil a b (k+1):=Nat.div_le_div_right (Nat.mul_le_mul_left _ (Nat.le_succ k))
theorem yme {a:List Int} {b k:Nat} (hk:k≤b) {x:Int} (h:x∈zlx a b k) : ∃ j,j+1=zil a b k∧a[j]?=some x:=by
 unfold zlx at h
 split at h
 ·rename_i hc
  simp only [List.mem_singleton] at h
  have:=y7a (a:=a) hk
  refine ⟨zil a b k-1,by omega,?_⟩
  rw [h,List.getD_eq_getElem?_getD,List.getElem?_eq_getElem (by omega)]
  rfl
 ·simp at h
theorem z8h {a:List Int} {b:Nat} : ∀ k,k≤b→∀ x∈zfa a b k,∃ j,j<zil a b k∧a[j]?=some x
 | 0,_,x,h=>by simp [zfa] at h
 | k+1,hk,x,h=>by
  rw [zfa] at h
  rcases List.mem_append.mp h with h | h
  ·obtain ⟨j,h1,h2⟩:=z8h k (by omega) x h
   exact ⟨j,Nat.lt_of_lt_of_le h1 yl9,h2⟩
  ·obtain ⟨j,h1,h2⟩:=yme hk h
   exact ⟨j,by omega,h2⟩
theorem z6t {a:List Int} {b:Nat} (ha:srt a) : ∀ k,k≤b→srt (zfa a b k)
 | 0,_=>by unfold zfa; exact List.Pairwise.nil
 | k+1,hk=>by
  rw [zfa]
  unfold srt
  rw [List.pairwise_append]
  refine ⟨z6t ha k (by omega),?_,fun x hx y hy => ?_⟩
  ·unfold zlx; split <;> simp
  ·obtain ⟨i,h1,h2⟩:=z8h k (by omega) x hx
   obtain ⟨j,h3,h4⟩:=yme hk hy
   have:=yl9 (a:=a) (b:=b) (k:=k)
   exact zs8 ha (by omega) h2 h4
theorem z7z (l:List Int) (b:Int):(zc8 l b).Pairwise (fun x y=>x<y)∧(∀ x∈zc8 l b,x∈l)∧(zc8 l b).length≤7:=by
 unfold zc8
 split
 ·rename_i hc
  simp only [Bool.and_eq_true] at hc
  have hb:=za2.mp hc.1
  have hs:=z6t (z7c l) (b:=b.toNat) (b.toNat-1) (by omega)
  obtain ⟨h1,h2⟩:=ygt hs _ (Nat.le_refl _)
  refine ⟨h1,fun x hx => ?_,?_⟩
  ·obtain ⟨j,_,hj⟩:=(h2 x).mp hx
   obtain ⟨i,_,hi⟩:=z8h (a:=zfx l) (b:=b.toNat) (b.toNat-1) (by omega) x (List.mem_of_getElem? hj)
   exact y18.mp (List.mem_of_getElem? hi)
  ·have:=yh6 (zfa (zfx l) b.toNat (b.toNat-1))
   have:=ygj (zfx l) b.toNat (b.toNat-1)
   omega
 ·exact ⟨List.Pairwise.nil,by simp,by simp⟩
theorem ymp : ∀ {l:List Int},l.Pairwise (fun x y=>x<y)→adj (fun a b=>decide (b≤a)) l=false
 | [],_=>rfl
 | [x],_=>rfl
 | a::b::r,h=>by
  obtain ⟨h1,h2⟩:=List.pairwise_cons.mp h
  have:=h1 b (by simp)
  rw [adj,ymp h2]
  simp; omega
theorem y0w {t:Ta} {f:Nat} (h:zbh t=true) (hf:f<t.ns.length) : ∀ x∈zcm t f,za8 x=true:=by
 intro x hx
 obtain ⟨r,hr,rfl⟩:=List.mem_map.mp hx
 unfold zbh at h
 simp only [Bool.and_eq_true,List.all_eq_true] at h
 have h6:=h.2 r hr
 unfold zd6 at h6
 simp only [Bool.and_eq_true,decide_eq_true_eq,List.all_eq_true] at h6
 refine h6.2 _ ?_
 rw [List.getD_eq_getElem?_getD,List.getElem?_eq_getElem (by omega)]
 exact List.getElem_mem _
theorem y8n {t:Ta} {f:Nat} (h:zbh t=true) (hf:f<t.ns.length) (b:Int):zh2 (zc8 (zcm t f) b)=true:=by
 obtain ⟨h1,h2,h3⟩:=z7z (zcm t f) b
 unfold zh2
 rw [ymp h1,List.all_eq_true.mpr fun x hx=>y0w h hf x (h2 x hx),decide_eq_true (by omega)]
 rfl
theorem yj8 {t:Ta} {b:Int} (h:zbh t=true) (hb:zai b 2 8=true) {f:Nat} (hf:f<t.ns.length):(zby t b)[f]?=some (zc8 (zcm t f) b)∧(zbv t b)[f]?=some (zlu t b f):=by
 have hc:(zbh t && zai b 2 8)=true:=by rw [h,hb]; rfl
 unfold zby zbv
 rw [if_pos hc,if_pos hc,List.getElem?_map,List.getElem?_map,List.getElem?_range hf]
 exact ⟨rfl,rfl⟩
theorem yjm {t:Ta} {b:Int} (h:zbh t=true) (hb:zai b 2 8=true):(zby t b).length=t.ns.length∧(zbv t b).length=t.ns.length:=by
 have hc:(zbh t && zai b 2 8)=true:=by rw [h,hb]; rfl
 unfold zby zbv
 rw [if_pos hc,if_pos hc]
 simp
theorem yhu {t:Ta} {b:Int} (h:zbh t=true) (hb:zai b 2 8=true):ze9 (zbv t b)=t.rw.length:=by
 have h1:=(yj8 h hb (f:=0) (by have:=(zhf h).1; omega)).2
 cases e:zbv t b with
 | nil=>rw [e] at h1; cases h1
 | cons x l =>
  rw [e] at h1
  simp only [List.getElem?_cons_zero,Option.some.injEq] at h1
  rw [h1]
  simp [ze9,zlu,zcm]
theorem y1t {t:Ta} {b:Int} (h:zbh t=true) (hb:zai b 2 8=true):zeh (zby t b) (zbv t b)=true:=by
 obtain ⟨t1,t2,t3,t4,t5,t6⟩:=zhf h
 obtain ⟨l1,l2⟩:=yjm h hb
 have hr:=yhu h hb
 unfold zeh
 rw [l1,l2,hr,za2.mpr (by omega),za2.mpr (by omega),decide_eq_true rfl,zom fun f hf => ?_]
 ·rfl
 ·obtain ⟨g1,g2⟩:=yj8 h hb hf
  unfold zij
  rw [g1,g2,hr]
  simp only
  rw [y8n h hf,decide_eq_true (by simp [zlu,zcm]),List.all_eq_true.mpr fun x hx => ?_]
  ·rfl
  ·obtain ⟨v,_,rfl⟩:=List.mem_map.mp hx
   have:zf2 (zc8 (zcm t f) b) v≤(zc8 (zcm t f) b).length:=List.length_filter_le _ _
   exact za2.mpr (by omega)
theorem y7k {t:Ta} {b:Int}:(∀ l∈zby t b,l.length≤7)∧∀ l∈zbv t b,l.length=t.rw.length:=by
 unfold zby zbv
 split
 ·refine ⟨fun l hl => ?_,fun l hl => ?_⟩
  ·obtain ⟨f,_,rfl⟩:=List.mem_map.mp hl
   exact (z7z _ _).2.2
  ·obtain ⟨f,_,rfl⟩:=List.mem_map.mp hl
   simp [zlu,zcm]
 ·exact ⟨by simp,by simp⟩
theorem y3d (c:List Int) (v x:Int):zf2 (c++[x]) v=zf2 c v+if x<v then 1 else 0:=by
 unfold zf2
 rw [List.filter_append,List.length_append]
 by_cases h:x<v <;> simp [h]
theorem z55 {α:Type} {l:List α} {i:Nat} {x:α} (h:l[i]?=some x):l.take (i+1)=l.take i++[x]:=by
 rw [List.take_add_one,h]; rfl
theorem yy2 (c:List Int) (v:Int) (hc:c.length≤1048576):RUN T zql [.sl 1 (zab c),iv v]=some ([iv (zf2 c v)],[]):=by
 refine zaf yco rfl ?_
 simp [-getElem?_pos,zzj,zzk]
 refine zas (fun n st => ∃ i m:Nat,i+n=c.length∧m≤i∧m=zf2 (c.take i) v∧st.V 0 = .sl 1 (zab c)∧st.V 1=iv v∧st.V 5=iv m∧st.V 6=iv i) ?_ c.length _ ⟨0,0,by omega,by omega,by simp [zf2],by simp,by simp,by simp,by simp⟩
 rintro n st ⟨i,m,hi,hm,hmv,v0,v1,v5,v6⟩
 by_cases h:i<c.length
 ·obtain ⟨x,hx⟩ : ∃ x,c[i]?=some x:=⟨_,List.getElem?_eq_getElem h⟩
  have hx':=za7 hx
  have hw:=wS h (by omega:c.length≤9223372036854775807)
  have hw2:=w64 (x:=(m:Int)+1) (by omega) (by omega)
  have hs:=y3d (c.take i) v x
  rw [← z55 hx,← hmv] at hs
  by_cases hl:x<v
  ·rw [if_pos hl] at hs
   simp [-getElem?_pos,zzi,v0,v1,v5,v6,h,hx',hw,hw2,hl]
   exact zal (n-1) (by omega) ⟨i+1,m+1,by omega,by omega,hs.symm,by simp [v0],by simp [v1],by simp,by simp⟩
  ·rw [if_neg hl] at hs
   simp [-getElem?_pos,zzi,v0,v1,v5,v6,h,hx',hw,hl]
   exact zal (n-1) (by omega) ⟨i+1,m,by omega,by omega,hs.symm,by simp [v0],by simp [v1],by simp [v5],by simp⟩
 ·rw [List.take_of_length_le (by omega)] at hmv
  rw [← hmv]
  simp [-getElem?_pos,zzi,v0,v5,v6,h]
set_option maxHeartbeats 1000000 in
theorem yy3 (l:List Int) (b:Int) (hl:l.length≤1048576):RUN T zqk [.sl 1 (zab l),iv b]=some ([.own 1 (zab (zc8 l b))],[]):=by
 have e1:=yfd l hl
 have hsl:=ylb l
 have hss:=z7c l
 have hr0:zaj 8 0=true:=by decide
 have hr1:zaj 8 1=true:=by decide
 have g1:=za5 b 2 8
 have g2:=za5 l.length 1 40
 cases c1:zai b 2 8 with
 | false =>
  have hv:zc8 l b=[]:=by unfold zc8; rw [c1]; rfl
  rw [hv]
  rw [c1] at g1
  refine zaf z2z rfl ?_
  simp [-getElem?_pos,zr7,zr8,-zav,g1,hr0]
 | true =>
 cases c2:zai l.length 1 40 with
 | false =>
  have hv:zc8 l b=[]:=by unfold zc8; rw [c1,c2]; rfl
  rw [hv]
  rw [c1] at g1
  rw [c2] at g2
  refine zaf z2z rfl ?_
  simp [-getElem?_pos,zr7,zr8,-zav,g1,g2,hr0]
 | true =>
 have hv:zc8 l b=Lib.compact (zfa (zfx l) b.toNat (b.toNat-1)):=by unfold zc8; rw [c1,c2]; rfl
 rw [hv]
 rw [c1] at g1
 rw [c2] at g2
 have hb:=za2.mp c1
 have h12:=za2.mp c2
 have h1:1≤l.length:=by omega
 have h2:l.length≤40:=by omega
 clear c1 c2 h12 hv
 generalize zfx l=a at *
 obtain ⟨bn,rfl⟩ : ∃ n:Nat,b=n:=⟨b.toNat,by omega⟩
 rw [Int.toNat_natCast]
 refine zaf z2z rfl ?_
 simp [-getElem?_pos,zr7,zr8,-zav,g1,g2,hr0,e1]
 refine zas (fun n st => ∃ (i o e:Nat) (m:List Int),1≤i∧i+n=bn∧m.length<i∧m=zfa a bn (i-1)∧st.V 1=iv bn∧st.V 5=iv l.length∧st.V 6 = .ref 0 none 0 0 a.length∧st.V 7 = .ref o none e 0 m.length∧st.V 8=iv i∧0<o∧o<st.nx∧st.S o=some (.row 1 (zab m))∧st.S 0=some (.row 1 (zab a))) ?_ (bn-1) _ ⟨1,1,0,[],by omega,by omega,by simp,rfl,by simp,by simp,by simp,by simp,by simp,by simp,by simp,by simp [zab],by simp⟩
 rintro n st ⟨i,o,e,m,hi1,hi,hm,hmp,v1,v5,v6,v7,v8,ho,hox,hSo,hS0⟩
 obtain ⟨x1,x2,x3,x4⟩:=fr hox
 obtain ⟨g1,g2,g3,g4⟩:=fr ho
 obtain ⟨z1,z2,z3,z4⟩:=fr (show 0<st.nx by omega)
 by_cases h:i<bn
 ·have hw:=wS h (by omega:bn≤9223372036854775807)
  have hb0 : ¬ bn=0:=by omega
  have hq:(l.length:Int)*i≤40*8:=Int.mul_le_mul (by omega) (by omega) (by omega) (by omega)
  have hq0:0≤(l.length:Int)*i:=Int.mul_nonneg (by omega) (by omega)
  have w1:=w64 (x:=(l.length:Int)*i) (by omega) (by omega)
  obtain ⟨k,hkk⟩ : ∃ k:Nat,k=l.length*i / bn:=⟨_,rfl⟩
  have hk:((l.length:Int)*i).tdiv bn=k:=by
   rw [Int.tdiv_eq_ediv_of_nonneg hq0,hkk]
   push_cast
   rfl
  have hcs:zfa a bn i=m++zlx a bn i:=by
   obtain ⟨j,rfl⟩ : ∃ j,i=j+1:=⟨i-1,by omega⟩
   rw [hmp]; rfl
  unfold zlx zil at hcs
  rw [hsl,← hkk] at hcs
  have hkl:k≤l.length:=by
   have h3:((l.length:Int)*i).tdiv bn≤l.length:=by
    rw [Int.tdiv_eq_ediv_of_nonneg hq0]
    refine Int.ediv_le_of_le_mul (by omega) ?_
    exact Int.mul_le_mul_of_nonneg_left (by omega) (by omega)
   omega
  have w2:=w64 (x:=(k:Int)) (by omega) (by omega)
  by_cases hk1:1≤k
  ·obtain ⟨x,hx⟩ : ∃ x,a[k-1]?=some x:=⟨_,List.getElem?_eq_getElem (by omega)⟩
   obtain ⟨y,hy⟩ : ∃ x,a[a.length-1]?=some x:=⟨_,List.getElem?_eq_getElem (by omega)⟩
   have hx':=za7 hx
   have hy':=za7 hy
   rw [hsl] at hy'
   have w3:IntKind.i64.wrap ((k:Int)-1)=((k-1:Nat):Int):=by rw [w64 (by omega) (by omega)]; omega
   have w4:IntKind.i64.wrap ((l.length:Int)-1)=((l.length-1:Nat):Int):=by rw [w64 (by omega) (by omega)]; omega
   have c1:k-1<l.length:=by omega
   have c2:l.length-1<l.length:=by omega
   have hk1':(1:Int)≤k:=by omega
   have hr8:=zcb (n:=m.length+1) (by omega)
   have hsn:=zb8 m x
   have gx:a.getD (k-1) 0=x:=by rw [List.getD_eq_getElem?_getD,hx]; rfl
   have gy:a.getD (l.length-1) 0=y:=by rw [← hsl,List.getD_eq_getElem?_getD,hy]; rfl
   rw [gx,gy] at hcs
   have hle:=zs8 hss (by omega:k-1≤a.length-1) hx hy
   by_cases hxy:x<y
   ·rw [if_pos ⟨hk1,by omega⟩] at hcs
    simp [-getElem?_pos,zuh,v1,v5,v6,v7,v8,hSo,hS0,h,hw,hb0,w1,w2,w3,w4,hk,hk1,hk1',hx',hy',hsl,c1,c2,hxy,hr1,hr8,hsn,g1,g2,g3,g4,x1,x2,x3,x4,z1,z2,z3,z4]
    exact zal (n-1) (by omega) ⟨i+1,st.nx+1,st.ep,m++[x],by omega,by omega,by simp; omega,hcs.symm,by simp [v1],by simp [v5],by simp [v6,hsl],by simp,by simp,by omega,by simp,by simp,by simp [g1,g2,g3,g4,x1,x2,x3,x4,z1,z2,z3,z4,hS0]⟩
   ·rw [if_neg (by omega),List.append_nil] at hcs
    simp [-getElem?_pos,zuh,v1,v5,v6,v7,v8,hSo,hS0,h,hw,hb0,w1,w2,w3,w4,hk,hk1,hk1',hx',hy',hsl,c1,c2,hxy,g1,g2,g3,g4,x1,x2,x3,x4,z1,z2,z3,z4]
    exact zal (n-1) (by omega) ⟨i+1,o,e,m,by omega,by omega,by omega,hcs.symm,by simp [v1],by simp [v5],by simp [v6,hsl],by simp [v7],by simp,ho,by simp [hox],by simp [hSo],by simp [hS0]⟩
  ·have hk0:k=0:=by omega
   rw [if_neg (by omega),List.append_nil] at hcs
   rw [hk0] at hk w2
   clear hkk hkl
   subst hk0
   simp [-getElem?_pos,zuh,v1,v5,v6,v7,v8,hSo,hS0,h,hw,hb0,w1,w2,hk]
   exact zal (n-1) (by omega) ⟨i+1,o,e,m,by omega,by omega,by omega,hcs.symm,by simp [v1],by simp [v5],by simp [v6],by simp [v7],by simp,ho,by simp [hox],by simp [hSo],by simp [hS0]⟩
 ·have h3:=yy1 m (by omega)
  have hib:i=bn:=by omega
  have hsm:=z6t (b:=bn) hss (bn-1) (by omega)
  have hm2:m=zfa a bn (bn-1):=by rw [hmp,hib]
  rw [← hm2] at hsm
  rw [y0z hsm] at h3
  rw [← hm2]
  have hmm:(Lib.compact m).length≤m.length:=yh6 m
  generalize Lib.compact m=z at *
  simp [-getElem?_pos,zuh,v1,v7,v8,hSo,h,h3]
set_option maxHeartbeats 1000000 in
theorem yy4 (q:Bool) (t:Ta) (f:Nat) (ht:TaL 1048576 t) (hf:f<t.ns.length) (h40:t.rw.length≤40) (hr : ∀ r∈t.rw,r.length=t.ns.length):RUN T zqj [taS q t,iv f]=some ([.own 1 (zab (zcm t f))],[]):=by
 have hr0:zaj 8 0=true:=by decide
 have hr1:zaj 8 1=true:=by decide
 have hns:=ht.ns
 have g1:=za5 f 0 ((t.ns.length:Int)-1)
 rw [za2.mpr (by omega)] at g1
 have w1:=w64 (x:=(t.ns.length:Int)-1) (by omega) (by omega)
 refine zaf ycn rfl ?_
 simp [-getElem?_pos,zzg,zzh,hr0]
 refine zas (fun n st => ∃ (i o e:Nat) (m:List Int),i+n=t.rw.length∧m=(t.rw.take i).map (fun r=>r.getD f 0)∧m.length=i∧st.V 1=iv f∧st.V 2 = .ptr 0 none 0 0 0∧st.V 5 = .ref o none e 0 m.length∧st.V 6=iv i∧0<o∧o<st.nx∧st.S o=some (.row 1 (zab m))∧st.S 0=some (.box (taB q t))) ?_ t.rw.length _ ⟨0,1,0,[],by omega,rfl,rfl,by simp,by simp,by simp,by simp,by simp,by simp,by simp [zab],by simp⟩
 rintro n st ⟨i,o,e,m,hi,hmv,hm,v1,v2,v5,v6,ho,hox,hSo,hS0⟩
 obtain ⟨x1,x2,x3,x4⟩:=fr hox
 obtain ⟨g1',g2,g3,g4⟩:=fr ho
 obtain ⟨z1,z2,z3,z4⟩:=fr (show 0<st.nx by omega)
 by_cases h:i<t.rw.length
 ·obtain ⟨r,hx⟩ : ∃ x,t.rw[i]?=some x:=⟨_,List.getElem?_eq_getElem h⟩
  have hx':=ze6 (q:=q) hx
  have hrl:=hr r (List.mem_of_getElem? hx)
  obtain ⟨y,hy⟩ : ∃ x,r[f]?=some x:=⟨_,List.getElem?_eq_getElem (by omega)⟩
  have hy':=za7 hy
  have hfr:f<r.length:=by omega
  have hw:=wS h (by omega:t.rw.length≤9223372036854775807)
  have hr8:=zcb (n:=m.length+1) (by omega)
  have hsn:=zb8 m y
  have hmn:m++[y]=(t.rw.take (i+1)).map (fun r=>r.getD f 0):=by
   rw [z55 hx,List.map_append,← hmv,List.map_singleton,List.getD_eq_getElem?_getD,hy]; rfl
  simp [-getElem?_pos,z5a,-zav,v1,v2,v5,v6,hSo,hS0,h,hx',hy',hfr,g1,w1,hw,hr1,hr8,hsn,g1',g2,g3,g4,x1,x2,x3,x4,z1,z2,z3,z4]
  exact zal (n-1) (by omega) ⟨i+1,st.nx+1,st.ep,m++[y],by omega,hmn,by simp [hm],by simp [v1],by simp [v2],by simp,by simp,by omega,by simp,by simp,by simp [g1',g2,g3,g4,x1,x2,x3,x4,z1,z2,z3,z4,hS0]⟩
 ·rw [List.take_of_length_le (by omega)] at hmv
  have hcv:zcm t f=m:=hmv.symm
  rw [hcv]
  simp [-getElem?_pos,z5a,-zav,v1,v2,v5,v6,hSo,hS0,h]
theorem y02 (cuts col:List Int) (hcu:cuts.length≤8) (hco:col.length≤40) {st:St} {q1 e1 q2 e2 q3 e3:Nat} {Q:Ex→St→Prop} (v7:st.V 7 = .ref q1 none e1 0 col.length) (v8:st.V 8 = .ref q2 none e2 0 cuts.length) (v9:st.V 9 = .ref q3 none e3 0 0) (v10:st.V 10=iv (0:Nat)) (h1:q1<q3) (h2:q2<q3) (h3:q3<st.nx) (hS1:st.S q1=some (.row 1 (zab col))) (hS2:st.S q2=some (.row 1 (zab cuts))) (hS3:st.S q3=some (.row 1 []))
  (hQ : ∀ (s':St) (q' e':Nat) (bins:List Int),bins.length=col.length→bins=col.map (fun v=>(zf2 cuts v:Int))→(∀ k,k≠9→k≠10→s'.V k=st.V k)→s'.V 9 = .ref q' none e' 0 bins.length→q3≤q'→q'<s'.nx→st.nx≤s'.nx→s'.S q'=some (.row 1 (zab bins))→(∀ k,k<q3→s'.S k=st.S k)→Q (.exit 2) s') :
  W (zad T) (RUN T) (.loop zxx) st Q:=by
 refine zas (fun m s' => ∃ (i q' e':Nat) (bins:List Int),i+m=col.length∧bins.length=i∧bins=(col.take i).map (fun v=>(zf2 cuts v:Int))∧(∀ k,k≠9→k≠10→s'.V k=st.V k)∧s'.V 9 = .ref q' none e' 0 bins.length∧s'.V 10=iv i∧q3≤q'∧q'<s'.nx∧st.nx≤s'.nx∧s'.S q'=some (.row 1 (zab bins))∧(∀ k,k<q3→s'.S k=st.S k)) ?_ col.length _ ⟨0,q3,e3,[],by omega,rfl,rfl,fun _ _ _=>rfl,by simpa using v9,by simpa using v10,by omega,h3,Nat.le_refl _,by simpa [zab] using hS3,fun _ _=>rfl⟩
 rintro m s' ⟨i,q',e',bins,hi,hb,hbb,hV,v9',v10',hq,hqx,hnx,hSq,hfr⟩
 have v7':s'.V 7 = .ref q1 none e1 0 col.length:=by rw [hV 7 (by decide) (by decide)]; exact v7
 have v8':s'.V 8 = .ref q2 none e2 0 cuts.length:=by rw [hV 8 (by decide) (by decide)]; exact v8
 have hS1':s'.S q1=some (.row 1 (zab col)):=by rw [hfr q1 h1]; exact hS1
 have hS2':s'.S q2=some (.row 1 (zab cuts)):=by rw [hfr q2 h2]; exact hS2
 by_cases h:i<col.length
 ·obtain ⟨x,hx⟩ : ∃ x,col[i]?=some x:=⟨_,List.getElem?_eq_getElem h⟩
  have hx':=za7 hx
  have hw:=wS h (by omega:col.length≤9223372036854775807)
  have hr1:zaj 8 1=true:=by decide
  have hr8:=zcb (n:=bins.length+1) (by omega)
  have h4:=yy2 cuts x (by omega)
  have hbn:bins++[(zf2 cuts x:Int)]=(col.take (i+1)).map (fun v=>(zf2 cuts v:Int)):=by rw [z55 hx,List.map_append,← hbb]; rfl
  generalize zf2 cuts x=y at *
  have hsn:=zb8 bins (y:Int)
  have a1:=fr hqx
  have a2:=fr (show q1<q' by omega)
  have a3:=fr (show q2<q' by omega)
  have a4:=fr (show q1<s'.nx by omega)
  have a5:=fr (show q2<s'.nx by omega)
  simp [-getElem?_pos,zxx,v7',v8',v9',v10',hS1',hS2',hSq,h,hx',h4,hw,hr1,hr8,hsn,a1,a2,a3,a4,a5]
  refine zal (m-1) (by omega) ⟨i+1,s'.nx+1,s'.ep,bins++[(y:Int)],by omega,by simp [hb],hbn,fun k k1 k2 => ?_,by simp,by simp,by omega,by simp,by simp; omega,by simp,fun k k1 => ?_⟩
  ·simp [k1,k2]; exact hV k k1 k2
  ·have b1:(k=s'.nx)=False:=eq_false (by omega)
   have b2:(k=s'.nx+1)=False:=eq_false (by omega)
   have b3:(k=q')=False:=eq_false (by omega)
   simp [b1,b2,b3]
   exact hfr k k1
 ·have hin:i=col.length:=by omega
  simp [-getElem?_pos,zxx,v7',v10',hS1',h]
  exact hQ _ q' e' bins (by omega) (by rw [hbb,List.take_of_length_le (by omega)]) (fun k k1 k2=>by simp; exact hV k k1 k2) (by simp [v9']) hq (by simp [hqx]) (by simp [hnx]) (by simp [hSq]) (fun k k1=>by simp; exact hfr k k1)
def LG (S:Nat→Option Ob) (nx:Nat) (C D:List (List Int)) (x y:PV):Prop:=(x = .e0∧y = .e0∧C=[]∧D=[])∨∃ o e o' e',x = .ref o none e 0 C.length∧y = .ref o' none e' 0 D.length∧2<o∧o<nx∧2<o'∧o'<nx∧o≠o'∧S o=some (.row 1 (rws true C))∧S o'=some (.row 1 (rws true D))
theorem LG.mono {S S':Nat→Option Ob} {nx nx':Nat} {C D:List (List Int)} {x y:PV} (h:LG S nx C D x y) (hn:nx≤nx') (hS : ∀ k,2<k→k<nx→S' k=S k):LG S' nx' C D x y:=by
 rcases h with h | ⟨o,e,o',e',h1,h2,h3,h4,h5,h6,h7,h8,h9⟩
 ·exact .inl h
 ·exact .inr ⟨o,e,o',e',h1,h2,h3,by omega,h5,by omega,h7,by rw [hS o h3 h4]; exact h8,by rw [hS o' h5 h6]; exact h9⟩
set_option maxHeartbeats 4000000 in
theorem yfp (q:Bool) (t:Ta) (b:Int) (ht:TaL 1048576 t):RUN T zmo [taS q t,iv b]=some ([.agg [.own 1 (rws true (zby t b)),.own 1 (rws true (zbv t b))]],[]):=by
 have e1:=z22 q t ⟨Nat.le_trans ht.ns (by omega),fun x hx=>Nat.le_trans (ht.ss x hx) (by omega),Nat.le_trans ht.nm (by omega),Nat.le_trans ht.rw (by omega),fun x hx=>Nat.le_trans (ht.rr x hx) (by omega),Nat.le_trans ht.lb (by omega)⟩
 have g1:=za5 b 2 8
 cases hok:zbh t with
 | false =>
  have hC:zby t b=[]:=by unfold zby; rw [hok]; rfl
  have hW:zbv t b=[]:=by unfold zbv; rw [hok]; rfl
  rw [hC,hW]
  rw [hok] at e1
  simp only [taS] at *
  refine zaf z2y rfl ?_
  simp [-getElem?_pos,zr1,zr2,-zav,e1,show rws true []=[] from rfl]
 | true =>
 cases hbi:zai b 2 8 with
 | false =>
  have hC:zby t b=[]:=by unfold zby; rw [hbi,Bool.and_false]; rfl
  have hW:zbv t b=[]:=by unfold zbv; rw [hbi,Bool.and_false]; rfl
  rw [hC,hW]
  rw [hok] at e1
  rw [hbi] at g1
  simp only [taS] at *
  refine zaf z2y rfl ?_
  simp [-getElem?_pos,zr1,zr2,-zav,e1,g1,show rws true []=[] from rfl]
 | true =>
 have hb:=za2.mp hbi
 rw [hok] at e1
 rw [hbi] at g1
 obtain ⟨t1,t2,t3,t4,t5,t6⟩:=zhf hok
 have hgC:zby t b=(List.range t.ns.length).map fun f=>zc8 (zcm t f) b:=by unfold zby; rw [hok,hbi]; rfl
 have hgW:zbv t b=(List.range t.ns.length).map (zlu t b):=by unfold zbv; rw [hok,hbi]; rfl
 rw [hgC,hgW]
 have hr1:zaj 24 1=true:=by decide
 have hr0:zaj 8 0=true:=by decide
 have cl:=yy4 q t
 simp only [taS] at *
 refine zaf z2y rfl ?_
 simp [-getElem?_pos,zr1,zr2,-zav,e1,g1]
 refine zas (fun n st => ∃ (i:Nat) (C D:List (List Int)) (x y:PV),i+n=t.ns.length∧C.length=i∧D.length=i∧C=(List.range i).map (fun f=>zc8 (zcm t f) b)∧D=(List.range i).map (zlu t b)∧st.V 1=iv b∧st.V 2 = .ptr 0 none 0 0 0∧st.V 4 = .ptr 1 none 0 0 0∧st.V 5 = .ptr 2 none 0 0 0∧st.V 6=iv i∧2<st.nx∧LG st.S st.nx C D x y∧st.S 0=some (.box [.sl 1 (zaw t.ns),.v (.string t.nm),.sl 1 (rws q t.rw),.sl 1 (zab t.lb)])∧st.S 1=some (.box [.e0,.e0])∧st.S 2=some (.box [x,y])) ?_ t.ns.length _ ⟨0,[],[],.e0,.e0,by omega,rfl,rfl,rfl,rfl,by simp,by simp,by simp,by simp,by simp,by simp,.inl ⟨rfl,rfl,rfl,rfl⟩,by simp,by simp,by simp⟩
 rintro n st ⟨i,C,D,x,y,hi,hC,hD,hC8,hD8,v1,v2,v4,v5,v6,hnx,hx,hS0,hS1,hS2⟩
 have z1:=fr hnx
 have z2:=fr (show 1<st.nx by omega)
 have z3:=fr (show 0<st.nx by omega)
 by_cases h:i<t.ns.length
 ·have hw:=wS h (by omega:t.ns.length≤9223372036854775807)
  have h1:=cl i ht h t4 t6
  have hcol:(zcm t i).length=t.rw.length:=by simp [zcm]
  have h2:=yy3 (zcm t i) b (by omega)
  have hcu:(zc8 (zcm t i) b).length≤8:=Nat.le_trans (z7z (zcm t i) b).2.2 (by omega)
  have hCn:C++[zc8 (zcm t i) b]=(List.range (i+1)).map (fun f=>zc8 (zcm t f) b):=by rw [List.range_succ,List.map_append,← hC8]; rfl
  have hDn:D++[(zcm t i).map fun v=>(zf2 (zc8 (zcm t i) b) v:Int)]=(List.range (i+1)).map (zlu t b):=by rw [List.range_succ,List.map_append,← hD8]; rfl
  generalize zc8 (zcm t i) b=cuts at *
  generalize zcm t i=col at *
  simp [-getElem?_pos,z47,-zav,v1,v2,v4,v5,v6,hS0,hS1,hS2,h,h1,h2,hr0,z1,z2,z3]
  refine y02 cuts col hcu (by omega) (q1:=st.nx) (q2:=st.nx+1) (q3:=st.nx+2) (by simp; rfl) (by simp; rfl) (by simp; rfl) (by simp) (by omega) (by omega) (by simp) (by simp) (by simp) (by simp) ?_
  intro s' q' e' bins hbl hbb hV w9 hq hqx hnx' hSq hfr
  simp only at hq hnx'
  have w1:s'.V 1=iv b:=by rw [hV 1 (by decide) (by decide)]; simp [v1]
  have w2:s'.V 2 = .ptr 0 none 0 0 0:=by rw [hV 2 (by decide) (by decide)]; simp [v2]
  have w4:s'.V 4 = .ptr 1 none 0 0 0:=by rw [hV 4 (by decide) (by decide)]; simp [v4]
  have w5:s'.V 5 = .ptr 2 none 0 0 0:=by rw [hV 5 (by decide) (by decide)]; simp [v5]
  have w6:s'.V 6=iv i:=by rw [hV 6 (by decide) (by decide)]; simp [v6]
  obtain ⟨e8,w8⟩ : ∃ e,s'.V 8 = .ref (st.nx+1) none e 0 cuts.length:=⟨_,by rw [hV 8 (by decide) (by decide)]; simp; rfl⟩
  have hT0:s'.S 0=some (.box [.sl 1 (zaw t.ns),.v (.string t.nm),.sl 1 (rws q t.rw),.sl 1 (zab t.lb)]):=by rw [hfr 0 (by omega)]; simp [z1,z2,z3,hS0]
  have hT1:s'.S 1=some (.box [.e0,.e0]):=by rw [hfr 1 (by omega)]; simp [z1,z2,z3,hS1]
  have hT2:s'.S 2=some (.box [x,y]):=by rw [hfr 2 (by omega)]; simp [z1,z2,z3,hS2]
  have hT8:s'.S (st.nx+1)=some (.row 1 (zab cuts)):=by rw [hfr _ (by omega)]; simp
  have hL:LG s'.S s'.nx C D x y:=hx.mono (by omega) (fun k k1 k2=>by
   rw [hfr k (by omega)]
   have b1:(k=st.nx)=False:=eq_false (by omega)
   have b2:(k=st.nx+1)=False:=eq_false (by omega)
   have b3:(k=st.nx+2)=False:=eq_false (by omega)
   simp [b1,b2,b3])
  have hr24:zaj 24 (C.length+1)=true:=by simp [zaj]; omega
  have hr24':zaj 24 (D.length+1)=true:=by simp [zaj]; omega
  have s1:=z4k C cuts
  have s2:=z4k D bins
  obtain ⟨p8,hp8⟩ : ∃ p8,p8=st.nx+1:=⟨_,rfl⟩
  rw [← hp8] at w8 hT8
  have hp8q:p8<q':=by omega
  have hp82:2<p8:=by omega
  have hL':LG s'.S p8 C D x y:=by
   rcases hx with hx | ⟨o,e,o',e',k1,k2,k3,k4,k5,k6,k7,k8,k9⟩
   ·exact .inl hx
   ·rcases hL with ⟨l1,_⟩ | ⟨o2,e2,o2',e2',l1,l2,l3,l4,l5,l6,l7,l8,l9⟩
    ·rw [k1] at l1; cases l1
    ·rw [k1] at l1; cases l1
     rw [k2] at l2; cases l2
     exact .inr ⟨o,e,o',e',k1,k2,k3,by omega,k5,by omega,k7,l8,l9⟩
  clear hL hx hfr hV hp8 hS0 hS1 hS2 v1 v2 v4 v5 v6 z1 z2 z3 h1 h2
  have a1:=fr hqx
  have a2:=fr hp8q
  have a3:=fr (show p8<s'.nx by omega)
  have a4:=fr hp82
  have a5:=fr (show 2<q' by omega)
  have a6:=fr (show 2<s'.nx by omega)
  have b1:=fr (show 1<p8 by omega)
  have b2:=fr (show 1<q' by omega)
  have b3:=fr (show 1<s'.nx by omega)
  have b4:=fr (show 0<p8 by omega)
  have b5:=fr (show 0<q' by omega)
  have b6:=fr (show 0<s'.nx by omega)
  have nn1 : ¬ s'.nx=1:=by omega
  have nn2 : ¬ s'.nx+1=q':=by omega
  have na : ∀ a b:Nat,s'.nx+a+b=s'.nx+(a+b):=fun a b=>Nat.add_assoc _ _ _
  rw [← hbb] at hDn
  rcases hL' with ⟨rfl,rfl,hC0,hD0⟩ | ⟨o,e,o',e',rfl,rfl,ho,hox,ho',hox',hoo,hSo,hSo'⟩
  ·subst hC0 hD0
   simp only [List.nil_append] at hCn hDn
   simp [-getElem?_pos,w1,w2,w4,w5,w6,w8,w9,hT0,hT1,hT2,hT8,hSq,hw,hr1,na,a1,a2,a3,a4,a5,a6,b1,b2,b3,b4,b5,b6]
   exact zal (n-1) (by omega) ⟨i+1,[cuts],[bins],.ref (s'.nx+1) none s'.ep 0 1,.ref (s'.nx+3) none s'.ep 0 1,by omega,by simp at hC; simp; omega,by simp at hC; simp; omega,hCn,hDn,by simp [w1],by simp [w2],by simp [w4],by simp [w5],by simp,by first | (simp; done) | (simp; omega),.inr ⟨s'.nx+1,s'.ep,s'.nx+3,s'.ep,rfl,rfl,by omega,by simp,by omega,by simp,by omega,by simp [nn1,nn2,rws,cel],by simp [rws,cel]⟩,by simp [a1,a2,a3,a4,a5,a6,b1,b2,b3,b4,b5,b6,hT0],by simp [a1,a2,a3,a4,a5,a6,b1,b2,b3,b4,b5,b6,hT1],by simp⟩
  ·have c1:=fr ho
   have c2:=fr hox
   have c3:=fr ho'
   have c4:=fr hox'
   have c5:=fr (show o<q' by omega)
   have c6:=fr (show o'<q' by omega)
   have d1:=fr (show o<s'.nx by omega)
   have d2:=fr (show o'<s'.nx by omega)
   have d3:=fr (show 1<o by omega)
   have d4:=fr (show 1<o' by omega)
   have d5:=fr (show 0<o by omega)
   have d6:=fr (show 0<o' by omega)
   have hoo2 : ¬ o'=o:=fun e=>hoo e.symm
   have nn3 : ¬ s'.nx+1=o':=by omega
   simp [-getElem?_pos,w1,w2,w4,w5,w6,w8,w9,hT0,hT1,hT2,hT8,hSq,hSo,hSo',hoo,hoo2,hw,hr1,hr24,hr24',s1,s2,na,a1,a2,a3,a4,a5,a6,b1,b2,b3,b4,b5,b6,c1,c2,c3,c4,c5,c6,d1,d2,d3,d4,d5,d6]
   exact zal (n-1) (by omega) ⟨i+1,C++[cuts],D++[bins],.ref (s'.nx+1) none s'.ep 0 (C.length+1),.ref (s'.nx+3) none s'.ep 0 (D.length+1),by omega,by simp [hC],by simp [hD],hCn,hDn,by simp [w1],by simp [w2],by simp [w4],by simp [w5],by simp,by first | (simp; done) | (simp; omega),.inr ⟨s'.nx+1,s'.ep,s'.nx+3,s'.ep,by simp,by simp,by omega,by simp,by omega,by simp,by omega,by simp [nn1,nn2,nn3],by simp⟩,by simp [a1,a2,a3,a4,a5,a6,b1,b2,b3,b4,b5,b6,c1,c2,c3,c4,c5,c6,d1,d2,d3,d4,d5,d6,hT0],by simp [a1,a2,a3,a4,a5,a6,b1,b2,b3,b4,b5,b6,c1,c2,c3,c4,c5,c6,d1,d2,d3,d4,d5,d6,hT1],by simp⟩
 ·have hin:i=t.ns.length:=by omega
  rcases hx with ⟨rfl,rfl,hC0,hD0⟩ | ⟨o,e,o',e',rfl,rfl,ho,hox,ho',hox',hoo,hSo,hSo'⟩
  ·subst hC0
   simp at hC; omega
  ·have c1:=fr ho
   have c3:=fr ho'
   have d3:=fr (show 1<o by omega)
   have d4:=fr (show 1<o' by omega)
   have d5:=fr (show 0<o by omega)
   have d6:=fr (show 0<o' by omega)
   have hoo2 : ¬ o'=o:=fun e=>hoo e.symm
   simp [-getElem?_pos,z47,v1,v2,v4,v5,v6,hS0,hS1,hS2,h,hSo,hSo',hoo,hoo2,c1,c3,d3,d4,d5,d6]
   rw [hC8,hD8,hin]
   exact ⟨rfl,rfl⟩
def zvq (x:Int):Prop := -1500≤x∧x≤1500
theorem y3z (B:List Int) (hB:B.length≤9223372036854775807) (far:Bool) (n:Nat) (hn:n≤3) {st:St} {p o e:Nat} {s:Int} {Q:Ex→St→Prop} (hp:p≤B.length) (v0:st.V 0 = .ptr 0 none 0 0 0) (v3:st.V 3=iv n) (v6:st.V 6=bv far) (v8:st.V 8 = .ref o none e 0 0) (v9:st.V 9=iv (0:Nat)) (ho:0<o) (hox:o<st.nx) (hS0:st.S 0=some (.box [.sl 1 (zbl B),iv p,iv s])) (hSo:st.S o=some (.row 1 []))
  (hQ : ∀ (s':St) (p' o' e':Nat) (sd:Int) (r:List Int),r.length=n→(∀ x∈r,za8 x=true)→(far=false→∀ x∈r,zvq x)→p'≤B.length→(∀ k,k≠8→k≠9→k≠10→s'.V k=st.V k)→s'.V 8 = .ref o' none e' 0 n→o≤o'→o'<s'.nx→st.nx≤s'.nx→s'.ep=st.ep→s'.S o'=some (.row 1 (zab r))→s'.S 0=some (.box [.sl 1 (zbl B),iv p',iv sd])→(∀ k,k≠0→k<o→s'.S k=st.S k)→Q (.exit 2) s') :
  W (zad T) (RUN T) (.loop zub) st Q:=by
 refine zas (fun m s' => ∃ (i p' o' e':Nat) (sd:Int) (r:List Int),i+m=n∧r.length=i∧(∀ x∈r,za8 x=true)∧(far=false→∀ x∈r,zvq x)∧p'≤B.length∧(∀ k,k≠8→k≠9→k≠10→s'.V k=st.V k)∧s'.V 8 = .ref o' none e' 0 r.length∧s'.V 9=iv i∧o≤o'∧o'<s'.nx∧st.nx≤s'.nx∧s'.ep=st.ep∧s'.S o'=some (.row 1 (zab r))∧s'.S 0=some (.box [.sl 1 (zbl B),iv p',iv sd])∧(∀ k,k≠0→k<o→s'.S k=st.S k)) ?_ n _ ⟨0,p,o,e,s,[],by omega,rfl,by simp,by simp,hp,fun _ _ _ _=>rfl,by simpa using v8,by simpa using v9,by omega,hox,Nat.le_refl _,rfl,by simpa [zab] using hSo,hS0,fun _ _ _=>rfl⟩
 rintro m s' ⟨i,p',o',e',sd,r,hi,hr,hrd,hrs,hp',hV,v8',v9',hoo,hox',hnx,hep,hSo',hS0',hfr⟩
 have v0':s'.V 0 = .ptr 0 none 0 0 0:=by rw [hV 0 (by decide) (by decide) (by decide)]; exact v0
 have v3':s'.V 3=iv n:=by rw [hV 3 (by decide) (by decide) (by decide)]; exact v3
 have v6':s'.V 6=bv far:=by rw [hV 6 (by decide) (by decide) (by decide)]; exact v6
 obtain ⟨x1,x2,x3,x4⟩:=fr hox'
 obtain ⟨g1,g2,g3,g4⟩:=fr (show 0<o' by omega)
 obtain ⟨z1,z2,z3,z4⟩:=fr (show 0<s'.nx by omega)
 by_cases h:i<n
 ·have hw:=wS h (by omega:n≤9223372036854775807)
  have hr1:zaj 8 1=true:=by decide
  have hr8:=zcb (n:=r.length+1) (by omega)
  obtain ⟨r1,h1,w1,p1,s1,⟨a1,rfl,had⟩,hp1,rfl⟩:=yfo B p' sd hp' hB
  cases far with
  | true =>
   have hsn:=zb8 r a1
   simp [-getElem?_pos,zub,v0',v3',v6',v8',v9',hSo',hS0',h,h1,hw,hr1,hr8,hsn,g1,g2,g3,g4,x1,x2,x3,x4,z1,z2,z3,z4]
   refine zal (m-1) (by omega) ⟨i+1,p1,s'.nx+1,s'.ep,s1,r++[a1],by omega,by simp [hr],?_,fun h=>(by cases h),hp1,fun k k1 k2 k3 => ?_,by simp,by simp,by omega,by simp,by simp; omega,by simp [hep],by simp,by simp [g1,g2,g3,g4,x1,x2,x3,x4,z1,z2,z3,z4],fun k k1 k2 => ?_⟩
   ·intro x hx
    rcases List.mem_append.mp hx with hx | hx
    ·exact hrd x hx
    ·simp at hx; subst hx; exact had
   ·simp [k1,k2,k3]; exact hV k k1 k2 k3
   ·have e1:(k=s'.nx)=False:=eq_false (by omega)
    have e2:(k=s'.nx+1)=False:=eq_false (by omega)
    have e3:(k=o')=False:=eq_false (by omega)
    have e4:(k=0)=False:=eq_false k1
    simp [e1,e2,e3,e4]
    exact hfr k k1 k2
  | false =>
   obtain ⟨r2,h2,w2,p2,s2,⟨a2,rfl,a20,a21⟩,hp2,rfl⟩:=zbf B p1 s1 hp1 hB 7 (by omega)
   have a22:=a21 (by omega)
   have u1:=w64 (x:=a2-3) (by omega) (by omega)
   have u2:=w64 (x:=500*(a2-3)) (by omega) (by omega)
   have hsn:=zb8 r (500*(a2-3))
   simp [-getElem?_pos,zub,v0',v3',v6',v8',v9',hSo',hS0',h,h1,h2,hw,u1,u2,hr1,hr8,hsn,g1,g2,g3,g4,x1,x2,x3,x4,z1,z2,z3,z4]
   refine zal (m-1) (by omega) ⟨i+1,p2,s'.nx+1,s'.ep,s2,r++[500*(a2-3)],by omega,by simp [hr],?_,?_,hp2,fun k k1 k2 k3 => ?_,by simp,by simp,by omega,by simp,by simp; omega,by simp [hep],by simp,by simp [g1,g2,g3,g4,x1,x2,x3,x4,z1,z2,z3,z4],fun k k1 k2 => ?_⟩
   ·intro x hx
    rcases List.mem_append.mp hx with hx | hx
    ·exact hrd x hx
    ·simp at hx; subst hx; exact zto (by omega) (by omega)
   ·intro _ x hx
    rcases List.mem_append.mp hx with hx | hx
    ·exact hrs rfl x hx
    ·simp at hx; subst hx; unfold zvq; omega
   ·simp [k1,k2,k3]; exact hV k k1 k2 k3
   ·have e1:(k=s'.nx)=False:=eq_false (by omega)
    have e2:(k=s'.nx+1)=False:=eq_false (by omega)
    have e3:(k=o')=False:=eq_false (by omega)
    have e4:(k=0)=False:=eq_false k1
    simp [e1,e2,e3,e4]
    exact hfr k k1 k2
 ·have hin:i=n:=by omega
  subst hin
  simp [-getElem?_pos,zub,v3',v9',h]
  exact hQ _ p' o' e' sd r hr hrd hrs hp' (fun k k1 k2 k3=>by simp; exact hV k k1 k2 k3) (by simp [v8',hr]) hoo (by simp [hox']) (by simp [hnx]) (by simp [hep]) (by simp [hSo']) (by simp [hS0']) (fun k k1 k2=>by simp; exact hfr k k1 k2)
def PTa (v:PV):Prop := ∃ t:Ta,v=taO t∧TaL 64 t∧zbh t=true
def nm4:List ByteArray:=[bs [97],bs [98],bs [99,50],bs [100]]
theorem y7g {n:Nat} (h1:1≤n) (h3:n≤3):zd8 (nm4.take n++[bs [121]])=true:=by
 have h:n=1∨n=2∨n=3:=by omega
 rcases h with rfl | rfl | rfl <;> decide +kernel
theorem y69 {n m:Nat} {L:List (List Int)} {Y:List Int} (h1:1≤n) (h3:n≤3) (m1:1≤m) (m2:m≤40) (hL:L.length=m) (hY:Y.length=m) (hr : ∀ r∈L,r.length=n∧∀ x∈r,za8 x=true) (hy : ∀ y∈Y,za8 y=true):PTa (taO ⟨nm4.take n,bs [121],L,Y⟩):=by
 have hnl:(nm4.take n).length=n:=by simp [nm4]; omega
 have hsz:(bs [121]).size=1:=rfl
 refine ⟨_,rfl,⟨by simp only [hnl]; omega,fun x hx => ?_,by simp only [hsz]; omega,by simp only [hL]; omega,fun r hr'=>by have:=(hr r hr').1; omega,by simp only [hY]; omega⟩,?_⟩
 ·have hm:=List.mem_of_mem_take hx
  simp only [nm4,List.mem_cons,List.not_mem_nil,or_false] at hm
  rcases hm with rfl | rfl | rfl | rfl <;> decide
 ·unfold zbh
  simp only [hnl,hL,hY]
  rw [za2.mpr (by omega),y7g h1 h3,za2.mpr (by omega)]
  have e1:Y.all za8=true:=by rw [List.all_eq_true]; exact hy
  have e2:L.all (zd6 n)=true:=by
   rw [List.all_eq_true]
   intro r hr'
   unfold zd6
   rw [decide_eq_true (by have:=(hr r hr').1; omega:(r.length:Int)=n),List.all_eq_true.mpr (hr r hr').2]; rfl
  rw [e1,e2]; simp
set_option maxHeartbeats 4000000 in
set_option maxRecDepth 8000 in
theorem yfq (B:List Int) (p:Nat) (s:Int) (hp:p≤B.length) (hB:B.length≤9223372036854775807) : ∃ r,RUN T zmt [.bx [.sl 1 (zbl B),iv p,iv s]]=some r∧zfl B PTa r:=by
 have hr0:zaj 16 0=true:=by decide
 have hr1:zaj 16 4=true:=by decide
 obtain ⟨r1,h1,v1,p1,s1,⟨a1,rfl,a10,a11⟩,hp1,rfl⟩:=zbf B p s hp hB 3 (by omega)
 have a12:=a11 (by omega)
 obtain ⟨n,hnf⟩ : ∃ n:Nat,1+a1=n:=⟨(1+a1).toNat,by omega⟩
 have w1:=w64 (x:=(n:Int)) (by omega) (by omega)
 have hr2:zaj 16 n=true:=by simp [zaj]; omega
 have hn3:n≤3:=by omega
 have hn4:n≤4:=by omega
 have hn1:1≤n:=by omega
 obtain ⟨ns,hns⟩ : ∃ ns,ns=nm4.take n:=⟨_,rfl⟩
 have hcut:(if n=4 then [[PV.v (Value.string (bs [97]))],[PV.v (Value.string (bs [98]))],[PV.v (Value.string (bs [99,50]))],[PV.v (Value.string (bs [100]))]] else List.take n [[PV.v (Value.string (bs [97]))],[PV.v (Value.string (bs [98]))],[PV.v (Value.string (bs [99,50]))],[PV.v (Value.string (bs [100]))]])=zaw ns:=by
  subst hns
  have h:n=1∨n=2∨n=3:=by omega
  rcases h with h | h | h <;> subst h <;> rfl
 have hnl:ns.length=n:=by subst hns; simp [nm4]; omega
 obtain ⟨r2,h2,v2,p2,s2,⟨a2,rfl,a20,a21⟩,hp2,rfl⟩:=zbf B p1 s1 hp1 hB 9 (by omega)
 have a22:=a21 (by omega)
 obtain ⟨r3,h3,v3,p3,s3,⟨b3,rfl⟩,hp3,rfl⟩:=zfj B p2 s2 hp2 hB 10 (by omega)
 have key : ∀ (m:Nat) (far:Bool) (p:Nat) (s:Int) (st:St),1≤m→m≤40→p≤B.length→st.V 0 = .ptr 0 none 0 0 0→st.V 2 = .ptr 1 none 0 0 0→st.V 3=iv n→st.V 4 = .ptr 5 none 0 0 0→st.V 5=iv m→st.V 6=bv far→st.V 7=iv (0:Nat)→5<st.nx→st.S 0=some (.box [.sl 1 (zbl B),iv p,iv s])→st.S 1=some (.box [.e0,.v (.string (bs [])),.e0,.e0])→st.S 4=some (.row 1 (zaw ns))→st.S 5=some (.box [.ref 4 none 0 0 n,.v (.string (bs [121])),.e0,.e0]) →
   W (zad T) (RUN T) (.loop zyx) st (Bl 0 (Nx (fun s=>W (zad T) (RUN T) (.seq (.reg [oE 83 (.load true 4 (.V 4)),oN (.store [1,0,1,1] (.V 2) (.E 83))]) .ret) s (zjh zlo 1 (zfl B PTa) ⟨⟩ ⟨⟩)) (zjh zlo 1 (zfl B PTa) ⟨⟩ ⟨⟩) ⟨⟩ ⟨⟩) ⟨⟩):=by
  clear h1 h2 h3 hp1 hp2 hp3 hp
  intro m far p s st hm1 hm40 hp v0 v2 v3 v4 v5 v6 v7 h5x hS0 hS1 hS4 hS5
  refine zas (fun k st => ∃ (i p:Nat) (s:Int) (L:List (List Int)) (Y:List Int) (xR xY:PV),i+k=m∧L.length=i∧Y.length=i∧(∀ r∈L,r.length=n∧∀ x∈r,za8 x=true)∧(∀ y∈Y,za8 y=true)∧p≤B.length∧st.V 0 = .ptr 0 none 0 0 0∧st.V 2 = .ptr 1 none 0 0 0∧st.V 3=iv n∧st.V 4 = .ptr 5 none 0 0 0∧st.V 5=iv m∧st.V 6=bv far∧st.V 7=iv i∧5<st.nx∧st.S 0=some (.box [.sl 1 (zbl B),iv p,iv s])∧st.S 1=some (.box [.e0,.v (.string (bs [])),.e0,.e0])∧st.S 4=some (.row 1 (zaw ns))∧st.S 5=some (.box [.ref 4 none 0 0 n,.v (.string (bs [121])),xR,xY])∧((L=[]∧Y=[]∧xR = .e0∧xY = .e0)∨∃ o1 e1 o2 e2,xR = .ref o1 none e1 0 i∧xY = .ref o2 none e2 0 i∧5<o1∧o1<st.nx∧5<o2∧o2<st.nx∧¬ o1=o2∧st.S o1=some (.row 1 (rws true L))∧st.S o2=some (.row 1 (zab Y)))) ?_ m _ ⟨0,p,s,[],[],.e0,.e0,by omega,rfl,rfl,by simp,by simp,hp,v0,v2,v3,v4,v5,v6,v7,h5x,hS0,hS1,hS4,hS5,.inl ⟨rfl,rfl,rfl,rfl⟩⟩
  clear v0 v2 v3 v4 v5 v6 v7 h5x hS0 hS1 hS4 hS5 hp
  rintro k st ⟨i,p,s,L,Y,xR,xY,hi,hL,hY,hLr,hYd,hp,v0,v2,v3,v4,v5,v6,v7,h5x,hS0,hS1,hS4,hS5,hx⟩
  obtain ⟨f1,f2,f3,f4⟩:=fr (show 0<st.nx by omega)
  obtain ⟨g1,g2,g3,g4⟩:=fr (show 1<st.nx by omega)
  obtain ⟨h1,h2,h3,h4⟩:=fr (show 4<st.nx by omega)
  obtain ⟨j1,j2,j3,j4⟩:=fr (show 5<st.nx by omega)
  by_cases h:i<m
  ·have hw:=wS h (by omega:m≤9223372036854775807)
   have hr1:zaj 8 1=true:=by decide
   have hr00:zaj 8 0=true:=by decide
   simp [-getElem?_pos,zyx,v5,v7,h,hr00]
   refine y3z (o:=st.nx) (e:=st.ep) (p:=p) (s:=s) B hB far n (by omega) hp (by simp [v0]) (by simp [v3]) (by simp [v6]) (by simp) (by simp) (by omega) (by simp) (by simp [f1,f2,f3,f4,g1,g2,g3,g4,h1,h2,h3,h4,j1,j2,j3,j4,hS0]) (by simp) ?_
   intro t p1 o3 e3 s1 r hr hrd hrs hp1 hV w8 ho3 ho3x hnx hep hSo3 hT0 hfr
   simp only at ho3 hnx hep
   have w0:t.V 0 = .ptr 0 none 0 0 0:=by rw [hV 0 (by decide) (by decide) (by decide)]; simp [v0]
   have w2:t.V 2 = .ptr 1 none 0 0 0:=by rw [hV 2 (by decide) (by decide) (by decide)]; simp [v2]
   have w3:t.V 3=iv n:=by rw [hV 3 (by decide) (by decide) (by decide)]; simp [v3]
   have w4:t.V 4 = .ptr 5 none 0 0 0:=by rw [hV 4 (by decide) (by decide) (by decide)]; simp [v4]
   have w5:t.V 5=iv m:=by rw [hV 5 (by decide) (by decide) (by decide)]; simp [v5]
   have w6:t.V 6=bv far:=by rw [hV 6 (by decide) (by decide) (by decide)]; simp [v6]
   have w7:t.V 7=iv i:=by rw [hV 7 (by decide) (by decide) (by decide)]; simp [v7]
   have hT1:t.S 1=some (.box [.e0,.v (.string (bs [])),.e0,.e0]):=by rw [hfr 1 (by omega) (by omega)]; simp [f1,f2,f3,f4,g1,g2,g3,g4,h1,h2,h3,h4,j1,j2,j3,j4,hS1]
   have hT4:t.S 4=some (.row 1 (zaw ns)):=by rw [hfr 4 (by omega) (by omega)]; simp [f1,f2,f3,f4,g1,g2,g3,g4,h1,h2,h3,h4,j1,j2,j3,j4,hS4]
   have hT5:t.S 5=some (.box [.ref 4 none 0 0 n,.v (.string (bs [121])),xR,xY]):=by rw [hfr 5 (by omega) (by omega)]; simp [f1,f2,f3,f4,g1,g2,g3,g4,h1,h2,h3,h4,j1,j2,j3,j4,hS5]
   obtain ⟨x0,hx0⟩ : ∃ x,r[0]?=some x:=⟨_,List.getElem?_eq_getElem (by omega)⟩
   have hx0':=za7 hx0
   obtain ⟨q1,d1,_,p2,s2,⟨y,rfl,hyd⟩,hp2,rfl⟩:=yfo B p1 s1 hp1 hB
   have hr24:zaj 24 1=true:=by decide
   have hr24':zaj 24 (i+1)=true:=by simp [zaj]; omega
   have hr8:=zcb (n:=i+1) (by omega)
   have hsn1:=z4k L r
   have hn0:(0:Nat)<n:=by omega
   have na : ∀ a b:Nat,t.nx+a+b=t.nx+(a+b):=fun a b=>Nat.add_assoc _ _ _
   obtain ⟨F1,F2,F3,F4⟩:=fr (show 0<t.nx by omega)
   obtain ⟨G1,G2,G3,G4⟩:=fr (show 1<t.nx by omega)
   obtain ⟨H1,H2,H3,H4⟩:=fr (show 4<t.nx by omega)
   obtain ⟨J1,J2,J3,J4⟩:=fr (show 5<t.nx by omega)
   obtain ⟨O1,O2,O3,O4⟩:=fr (show o3<t.nx by omega)
   have n0a:(o3=0)=False:=eq_false (by omega)
   have n0b:(0=o3)=False:=eq_false (by omega)
   have n1a:(o3=1)=False:=eq_false (by omega)
   have n1b:(1=o3)=False:=eq_false (by omega)
   have n2a:(o3=4)=False:=eq_false (by omega)
   have n2b:(4=o3)=False:=eq_false (by omega)
   have n3a:(o3=5)=False:=eq_false (by omega)
   have n3b:(5=o3)=False:=eq_false (by omega)
   rcases hx with ⟨rfl,rfl,rfl,rfl⟩ | ⟨o1,e1,o2,e2,rfl,rfl,ho1,ho1x,ho2,ho2x,ho12,hSo1,hSo2⟩
   ·have hi0:i=0:=by simpa using hL.symm
    subst hi0
    cases far with
    | true =>
     simp [-getElem?_pos,w0,w2,w3,w4,w5,w6,w7,w8,hT0,hT1,hT4,hT5,hSo3,hx0',hn0,hr,hw,hr1,d1,hr24,na,F1,F2,F3,F4,G1,G2,G3,G4,H1,H2,H3,H4,J1,J2,J3,J4,O1,O2,O3,O4,n0a,n0b,n1a,n1b,n2a,n2b,n3a,n3b]
     refine zal (k-1) (by omega) ⟨0+1,p2,s2,[]++[r],[]++[y],.ref (t.nx+1) none t.ep 0 (0+1),.ref (t.nx+3) none t.ep 0 (0+1),by omega,by simp [hL],by simp [hY],?_,?_,by assumption,by simp [w0],by simp [w2],by simp [w3],by simp [w4],by simp [w5],by simp [w6],by simp,by simp; omega,by simp [F1,F2,F3,F4,G1,G2,G3,G4,H1,H2,H3,H4,J1,J2,J3,J4,O1,O2,O3,O4,n0a,n0b,n1a,n1b,n2a,n2b,n3a,n3b],by simp [F1,F2,F3,F4,G1,G2,G3,G4,H1,H2,H3,H4,J1,J2,J3,J4,O1,O2,O3,O4,n0a,n0b,n1a,n1b,n2a,n2b,n3a,n3b,hT1],by simp [F1,F2,F3,F4,G1,G2,G3,G4,H1,H2,H3,H4,J1,J2,J3,J4,O1,O2,O3,O4,n0a,n0b,n1a,n1b,n2a,n2b,n3a,n3b,hT4],by simp [F1,F2,F3,F4,G1,G2,G3,G4,H1,H2,H3,H4,J1,J2,J3,J4,O1,O2,O3,O4,n0a,n0b,n1a,n1b,n2a,n2b,n3a,n3b],.inr ⟨t.nx+1,t.ep,t.nx+3,t.ep,rfl,rfl,by omega,by simp,by omega,by simp,by omega,by simp [F1,F2,F3,F4,G1,G2,G3,G4,H1,H2,H3,H4,J1,J2,J3,J4,O1,O2,O3,O4,n0a,n0b,n1a,n1b,n2a,n2b,n3a,n3b,rws,cel],by simp [F1,F2,F3,F4,G1,G2,G3,G4,H1,H2,H3,H4,J1,J2,J3,J4,O1,O2,O3,O4,n0a,n0b,n1a,n1b,n2a,n2b,n3a,n3b,zab]⟩⟩
     ·intro r' hr'
      rcases List.mem_append.mp hr' with hr' | hr'
      ·exact hLr r' hr'
      ·simp at hr'; subst hr'; exact ⟨hr,hrd⟩
     ·intro y' hy'
      rcases List.mem_append.mp hy' with hy' | hy'
      ·exact hYd y' hy'
      ·simp at hy'; subst hy'; exact hyd
    | false =>
     have hsx:=hrs rfl x0 (List.mem_of_getElem? hx0)
     unfold zvq at hsx
     obtain ⟨q2,d2,_,p3,s3,⟨b4,rfl⟩,hp3,rfl⟩:=zfj B p2 s2 hp2 hB 4 (by omega)
     cases b4 with
     | true =>
      simp [-getElem?_pos,w0,w2,w3,w4,w5,w6,w7,w8,hT0,hT1,hT4,hT5,hSo3,hx0',hn0,hr,hw,hr1,d1,hr24,na,d2,F1,F2,F3,F4,G1,G2,G3,G4,H1,H2,H3,H4,J1,J2,J3,J4,O1,O2,O3,O4,n0a,n0b,n1a,n1b,n2a,n2b,n3a,n3b]
      refine zal (k-1) (by omega) ⟨0+1,p3,s3,[]++[r],[]++[y],.ref (t.nx+1) none t.ep 0 (0+1),.ref (t.nx+3) none t.ep 0 (0+1),by omega,by simp [hL],by simp [hY],?_,?_,by assumption,by simp [w0],by simp [w2],by simp [w3],by simp [w4],by simp [w5],by simp [w6],by simp,by simp; omega,by simp [F1,F2,F3,F4,G1,G2,G3,G4,H1,H2,H3,H4,J1,J2,J3,J4,O1,O2,O3,O4,n0a,n0b,n1a,n1b,n2a,n2b,n3a,n3b],by simp [F1,F2,F3,F4,G1,G2,G3,G4,H1,H2,H3,H4,J1,J2,J3,J4,O1,O2,O3,O4,n0a,n0b,n1a,n1b,n2a,n2b,n3a,n3b,hT1],by simp [F1,F2,F3,F4,G1,G2,G3,G4,H1,H2,H3,H4,J1,J2,J3,J4,O1,O2,O3,O4,n0a,n0b,n1a,n1b,n2a,n2b,n3a,n3b,hT4],by simp [F1,F2,F3,F4,G1,G2,G3,G4,H1,H2,H3,H4,J1,J2,J3,J4,O1,O2,O3,O4,n0a,n0b,n1a,n1b,n2a,n2b,n3a,n3b],.inr ⟨t.nx+1,t.ep,t.nx+3,t.ep,rfl,rfl,by omega,by simp,by omega,by simp,by omega,by simp [F1,F2,F3,F4,G1,G2,G3,G4,H1,H2,H3,H4,J1,J2,J3,J4,O1,O2,O3,O4,n0a,n0b,n1a,n1b,n2a,n2b,n3a,n3b,rws,cel],by simp [F1,F2,F3,F4,G1,G2,G3,G4,H1,H2,H3,H4,J1,J2,J3,J4,O1,O2,O3,O4,n0a,n0b,n1a,n1b,n2a,n2b,n3a,n3b,zab]⟩⟩
      ·intro r' hr'
       rcases List.mem_append.mp hr' with hr' | hr'
       ·exact hLr r' hr'
       ·simp at hr'; subst hr'; exact ⟨hr,hrd⟩
      ·intro y' hy'
       rcases List.mem_append.mp hy' with hy' | hy'
       ·exact hYd y' hy'
       ·simp at hy'; subst hy'; exact hyd
     | false =>
      obtain ⟨q3,d3,_,p4,s4,⟨a4,rfl,a40,a41⟩,hp4,rfl⟩:=zbf B p3 s3 hp3 hB 5 (by omega)
      have a42:=a41 (by omega)
      have u1:=w64 (x:=x0*2) (by omega) (by omega)
      have u2:=w64 (x:=100*a4) (by omega) (by omega)
      have u3:=w64 (x:=x0*2+100*a4) (by omega) (by omega)
      simp [-getElem?_pos,w0,w2,w3,w4,w5,w6,w7,w8,hT0,hT1,hT4,hT5,hSo3,hx0',hn0,hr,hw,hr1,d1,hr24,na,d2,d3,u1,u2,u3,F1,F2,F3,F4,G1,G2,G3,G4,H1,H2,H3,H4,J1,J2,J3,J4,O1,O2,O3,O4,n0a,n0b,n1a,n1b,n2a,n2b,n3a,n3b]
      refine zal (k-1) (by omega) ⟨0+1,p4,s4,[]++[r],[]++[x0*2+100*a4],.ref (t.nx+1) none t.ep 0 (0+1),.ref (t.nx+3) none t.ep 0 (0+1),by omega,by simp [hL],by simp [hY],?_,?_,by assumption,by simp [w0],by simp [w2],by simp [w3],by simp [w4],by simp [w5],by simp [w6],by simp,by simp; omega,by simp [F1,F2,F3,F4,G1,G2,G3,G4,H1,H2,H3,H4,J1,J2,J3,J4,O1,O2,O3,O4,n0a,n0b,n1a,n1b,n2a,n2b,n3a,n3b],by simp [F1,F2,F3,F4,G1,G2,G3,G4,H1,H2,H3,H4,J1,J2,J3,J4,O1,O2,O3,O4,n0a,n0b,n1a,n1b,n2a,n2b,n3a,n3b,hT1],by simp [F1,F2,F3,F4,G1,G2,G3,G4,H1,H2,H3,H4,J1,J2,J3,J4,O1,O2,O3,O4,n0a,n0b,n1a,n1b,n2a,n2b,n3a,n3b,hT4],by simp [F1,F2,F3,F4,G1,G2,G3,G4,H1,H2,H3,H4,J1,J2,J3,J4,O1,O2,O3,O4,n0a,n0b,n1a,n1b,n2a,n2b,n3a,n3b],.inr ⟨t.nx+1,t.ep,t.nx+3,t.ep,rfl,rfl,by omega,by simp,by omega,by simp,by omega,by simp [F1,F2,F3,F4,G1,G2,G3,G4,H1,H2,H3,H4,J1,J2,J3,J4,O1,O2,O3,O4,n0a,n0b,n1a,n1b,n2a,n2b,n3a,n3b,rws,cel],by simp [F1,F2,F3,F4,G1,G2,G3,G4,H1,H2,H3,H4,J1,J2,J3,J4,O1,O2,O3,O4,n0a,n0b,n1a,n1b,n2a,n2b,n3a,n3b,zab]⟩⟩
      ·intro r' hr'
       rcases List.mem_append.mp hr' with hr' | hr'
       ·exact hLr r' hr'
       ·simp at hr'; subst hr'; exact ⟨hr,hrd⟩
      ·intro y' hy'
       rcases List.mem_append.mp hy' with hy' | hy'
       ·exact hYd y' hy'
       ·simp at hy'; subst hy'; exact zto (by omega) (by omega)
   ·have hT6:t.S o1=some (.row 1 (rws true L)):=by rw [hfr o1 (by omega) (by omega)]; simp [show (o1=st.nx)=False from eq_false (by omega),hSo1]
    have hT7:t.S o2=some (.row 1 (zab Y)):=by rw [hfr o2 (by omega) (by omega)]; simp [show (o2=st.nx)=False from eq_false (by omega),hSo2]
    obtain ⟨P1,P2,P3,P4⟩:=fr (show o1<t.nx by omega)
    obtain ⟨Q1,Q2,Q3,Q4⟩:=fr (show o2<t.nx by omega)
    have m0a:(o1=0)=False:=eq_false (by omega)
    have m0b:(0=o1)=False:=eq_false (by omega)
    have m1a:(o1=1)=False:=eq_false (by omega)
    have m1b:(1=o1)=False:=eq_false (by omega)
    have m2a:(o1=4)=False:=eq_false (by omega)
    have m2b:(4=o1)=False:=eq_false (by omega)
    have m3a:(o1=5)=False:=eq_false (by omega)
    have m3b:(5=o1)=False:=eq_false (by omega)
    have m4a:(o2=0)=False:=eq_false (by omega)
    have m4b:(0=o2)=False:=eq_false (by omega)
    have m5a:(o2=1)=False:=eq_false (by omega)
    have m5b:(1=o2)=False:=eq_false (by omega)
    have m6a:(o2=4)=False:=eq_false (by omega)
    have m6b:(4=o2)=False:=eq_false (by omega)
    have m7a:(o2=5)=False:=eq_false (by omega)
    have m7b:(5=o2)=False:=eq_false (by omega)
    have m8a:(o1=o3)=False:=eq_false (by omega)
    have m8b:(o3=o1)=False:=eq_false (by omega)
    have m9a:(o2=o3)=False:=eq_false (by omega)
    have m9b:(o3=o2)=False:=eq_false (by omega)
    have m10a:(o1=o2)=False:=eq_false (by omega)
    have m10b:(o2=o1)=False:=eq_false (by omega)
    cases far with
    | true =>
     simp [-getElem?_pos,w0,w2,w3,w4,w5,w6,w7,w8,hT0,hT1,hT4,hT5,hSo3,hx0',hn0,hr,hw,hr1,d1,hr24,na,hT6,hT7,hr24',hr8,hsn1,hL,hY,zb8,F1,F2,F3,F4,G1,G2,G3,G4,H1,H2,H3,H4,J1,J2,J3,J4,O1,O2,O3,O4,n0a,n0b,n1a,n1b,n2a,n2b,n3a,n3b,P1,P2,P3,P4,Q1,Q2,Q3,Q4,m0a,m0b,m1a,m1b,m2a,m2b,m3a,m3b,m4a,m4b,m5a,m5b,m6a,m6b,m7a,m7b,m8a,m8b,m9a,m9b,m10a,m10b]
     refine zal (k-1) (by omega) ⟨i+1,p2,s2,L++[r],Y++[y],.ref (t.nx+1) none t.ep 0 (i+1),.ref (t.nx+3) none t.ep 0 (i+1),by omega,by simp [hL],by simp [hY],?_,?_,by assumption,by simp [w0],by simp [w2],by simp [w3],by simp [w4],by simp [w5],by simp [w6],by simp,by simp; omega,by simp [F1,F2,F3,F4,G1,G2,G3,G4,H1,H2,H3,H4,J1,J2,J3,J4,O1,O2,O3,O4,n0a,n0b,n1a,n1b,n2a,n2b,n3a,n3b,P1,P2,P3,P4,Q1,Q2,Q3,Q4,m0a,m0b,m1a,m1b,m2a,m2b,m3a,m3b,m4a,m4b,m5a,m5b,m6a,m6b,m7a,m7b,m8a,m8b,m9a,m9b,m10a,m10b],by simp [F1,F2,F3,F4,G1,G2,G3,G4,H1,H2,H3,H4,J1,J2,J3,J4,O1,O2,O3,O4,n0a,n0b,n1a,n1b,n2a,n2b,n3a,n3b,P1,P2,P3,P4,Q1,Q2,Q3,Q4,m0a,m0b,m1a,m1b,m2a,m2b,m3a,m3b,m4a,m4b,m5a,m5b,m6a,m6b,m7a,m7b,m8a,m8b,m9a,m9b,m10a,m10b,hT1],by simp [F1,F2,F3,F4,G1,G2,G3,G4,H1,H2,H3,H4,J1,J2,J3,J4,O1,O2,O3,O4,n0a,n0b,n1a,n1b,n2a,n2b,n3a,n3b,P1,P2,P3,P4,Q1,Q2,Q3,Q4,m0a,m0b,m1a,m1b,m2a,m2b,m3a,m3b,m4a,m4b,m5a,m5b,m6a,m6b,m7a,m7b,m8a,m8b,m9a,m9b,m10a,m10b,hT4],by simp [F1,F2,F3,F4,G1,G2,G3,G4,H1,H2,H3,H4,J1,J2,J3,J4,O1,O2,O3,O4,n0a,n0b,n1a,n1b,n2a,n2b,n3a,n3b,P1,P2,P3,P4,Q1,Q2,Q3,Q4,m0a,m0b,m1a,m1b,m2a,m2b,m3a,m3b,m4a,m4b,m5a,m5b,m6a,m6b,m7a,m7b,m8a,m8b,m9a,m9b,m10a,m10b],.inr ⟨t.nx+1,t.ep,t.nx+3,t.ep,rfl,rfl,by omega,by simp,by omega,by simp,by omega,by simp [F1,F2,F3,F4,G1,G2,G3,G4,H1,H2,H3,H4,J1,J2,J3,J4,O1,O2,O3,O4,n0a,n0b,n1a,n1b,n2a,n2b,n3a,n3b,P1,P2,P3,P4,Q1,Q2,Q3,Q4,m0a,m0b,m1a,m1b,m2a,m2b,m3a,m3b,m4a,m4b,m5a,m5b,m6a,m6b,m7a,m7b,m8a,m8b,m9a,m9b,m10a,m10b],by simp [F1,F2,F3,F4,G1,G2,G3,G4,H1,H2,H3,H4,J1,J2,J3,J4,O1,O2,O3,O4,n0a,n0b,n1a,n1b,n2a,n2b,n3a,n3b,P1,P2,P3,P4,Q1,Q2,Q3,Q4,m0a,m0b,m1a,m1b,m2a,m2b,m3a,m3b,m4a,m4b,m5a,m5b,m6a,m6b,m7a,m7b,m8a,m8b,m9a,m9b,m10a,m10b]⟩⟩
     ·intro r' hr'
      rcases List.mem_append.mp hr' with hr' | hr'
      ·exact hLr r' hr'
      ·simp at hr'; subst hr'; exact ⟨hr,hrd⟩
     ·intro y' hy'
      rcases List.mem_append.mp hy' with hy' | hy'
      ·exact hYd y' hy'
      ·simp at hy'; subst hy'; exact hyd
    | false =>
     have hsx:=hrs rfl x0 (List.mem_of_getElem? hx0)
     unfold zvq at hsx
     obtain ⟨q2,d2,_,p3,s3,⟨b4,rfl⟩,hp3,rfl⟩:=zfj B p2 s2 hp2 hB 4 (by omega)
     cases b4 with
     | true =>
      simp [-getElem?_pos,w0,w2,w3,w4,w5,w6,w7,w8,hT0,hT1,hT4,hT5,hSo3,hx0',hn0,hr,hw,hr1,d1,hr24,na,hT6,hT7,hr24',hr8,hsn1,hL,hY,zb8,d2,F1,F2,F3,F4,G1,G2,G3,G4,H1,H2,H3,H4,J1,J2,J3,J4,O1,O2,O3,O4,n0a,n0b,n1a,n1b,n2a,n2b,n3a,n3b,P1,P2,P3,P4,Q1,Q2,Q3,Q4,m0a,m0b,m1a,m1b,m2a,m2b,m3a,m3b,m4a,m4b,m5a,m5b,m6a,m6b,m7a,m7b,m8a,m8b,m9a,m9b,m10a,m10b]
      refine zal (k-1) (by omega) ⟨i+1,p3,s3,L++[r],Y++[y],.ref (t.nx+1) none t.ep 0 (i+1),.ref (t.nx+3) none t.ep 0 (i+1),by omega,by simp [hL],by simp [hY],?_,?_,by assumption,by simp [w0],by simp [w2],by simp [w3],by simp [w4],by simp [w5],by simp [w6],by simp,by simp; omega,by simp [F1,F2,F3,F4,G1,G2,G3,G4,H1,H2,H3,H4,J1,J2,J3,J4,O1,O2,O3,O4,n0a,n0b,n1a,n1b,n2a,n2b,n3a,n3b,P1,P2,P3,P4,Q1,Q2,Q3,Q4,m0a,m0b,m1a,m1b,m2a,m2b,m3a,m3b,m4a,m4b,m5a,m5b,m6a,m6b,m7a,m7b,m8a,m8b,m9a,m9b,m10a,m10b],by simp [F1,F2,F3,F4,G1,G2,G3,G4,H1,H2,H3,H4,J1,J2,J3,J4,O1,O2,O3,O4,n0a,n0b,n1a,n1b,n2a,n2b,n3a,n3b,P1,P2,P3,P4,Q1,Q2,Q3,Q4,m0a,m0b,m1a,m1b,m2a,m2b,m3a,m3b,m4a,m4b,m5a,m5b,m6a,m6b,m7a,m7b,m8a,m8b,m9a,m9b,m10a,m10b,hT1],by simp [F1,F2,F3,F4,G1,G2,G3,G4,H1,H2,H3,H4,J1,J2,J3,J4,O1,O2,O3,O4,n0a,n0b,n1a,n1b,n2a,n2b,n3a,n3b,P1,P2,P3,P4,Q1,Q2,Q3,Q4,m0a,m0b,m1a,m1b,m2a,m2b,m3a,m3b,m4a,m4b,m5a,m5b,m6a,m6b,m7a,m7b,m8a,m8b,m9a,m9b,m10a,m10b,hT4],by simp [F1,F2,F3,F4,G1,G2,G3,G4,H1,H2,H3,H4,J1,J2,J3,J4,O1,O2,O3,O4,n0a,n0b,n1a,n1b,n2a,n2b,n3a,n3b,P1,P2,P3,P4,Q1,Q2,Q3,Q4,m0a,m0b,m1a,m1b,m2a,m2b,m3a,m3b,m4a,m4b,m5a,m5b,m6a,m6b,m7a,m7b,m8a,m8b,m9a,m9b,m10a,m10b],.inr ⟨t.nx+1,t.ep,t.nx+3,t.ep,rfl,rfl,by omega,by simp,by omega,by simp,by omega,by simp [F1,F2,F3,F4,G1,G2,G3,G4,H1,H2,H3,H4,J1,J2,J3,J4,O1,O2,O3,O4,n0a,n0b,n1a,n1b,n2a,n2b,n3a,n3b,P1,P2,P3,P4,Q1,Q2,Q3,Q4,m0a,m0b,m1a,m1b,m2a,m2b,m3a,m3b,m4a,m4b,m5a,m5b,m6a,m6b,m7a,m7b,m8a,m8b,m9a,m9b,m10a,m10b],by simp [F1,F2,F3,F4,G1,G2,G3,G4,H1,H2,H3,H4,J1,J2,J3,J4,O1,O2,O3,O4,n0a,n0b,n1a,n1b,n2a,n2b,n3a,n3b,P1,P2,P3,P4,Q1,Q2,Q3,Q4,m0a,m0b,m1a,m1b,m2a,m2b,m3a,m3b,m4a,m4b,m5a,m5b,m6a,m6b,m7a,m7b,m8a,m8b,m9a,m9b,m10a,m10b]⟩⟩
      ·intro r' hr'
       rcases List.mem_append.mp hr' with hr' | hr'
       ·exact hLr r' hr'
       ·simp at hr'; subst hr'; exact ⟨hr,hrd⟩
      ·intro y' hy'
       rcases List.mem_append.mp hy' with hy' | hy'
       ·exact hYd y' hy'
       ·simp at hy'; subst hy'; exact hyd
     | false =>
      obtain ⟨q3,d3,_,p4,s4,⟨a4,rfl,a40,a41⟩,hp4,rfl⟩:=zbf B p3 s3 hp3 hB 5 (by omega)
      have a42:=a41 (by omega)
      have u1:=w64 (x:=x0*2) (by omega) (by omega)
      have u2:=w64 (x:=100*a4) (by omega) (by omega)
      have u3:=w64 (x:=x0*2+100*a4) (by omega) (by omega)
      simp [-getElem?_pos,w0,w2,w3,w4,w5,w6,w7,w8,hT0,hT1,hT4,hT5,hSo3,hx0',hn0,hr,hw,hr1,d1,hr24,na,hT6,hT7,hr24',hr8,hsn1,hL,hY,zb8,d2,d3,u1,u2,u3,F1,F2,F3,F4,G1,G2,G3,G4,H1,H2,H3,H4,J1,J2,J3,J4,O1,O2,O3,O4,n0a,n0b,n1a,n1b,n2a,n2b,n3a,n3b,P1,P2,P3,P4,Q1,Q2,Q3,Q4,m0a,m0b,m1a,m1b,m2a,m2b,m3a,m3b,m4a,m4b,m5a,m5b,m6a,m6b,m7a,m7b,m8a,m8b,m9a,m9b,m10a,m10b]
      refine zal (k-1) (by omega) ⟨i+1,p4,s4,L++[r],Y++[x0*2+100*a4],.ref (t.nx+1) none t.ep 0 (i+1),.ref (t.nx+3) none t.ep 0 (i+1),by omega,by simp [hL],by simp [hY],?_,?_,by assumption,by simp [w0],by simp [w2],by simp [w3],by simp [w4],by simp [w5],by simp [w6],by simp,by simp; omega,by simp [F1,F2,F3,F4,G1,G2,G3,G4,H1,H2,H3,H4,J1,J2,J3,J4,O1,O2,O3,O4,n0a,n0b,n1a,n1b,n2a,n2b,n3a,n3b,P1,P2,P3,P4,Q1,Q2,Q3,Q4,m0a,m0b,m1a,m1b,m2a,m2b,m3a,m3b,m4a,m4b,m5a,m5b,m6a,m6b,m7a,m7b,m8a,m8b,m9a,m9b,m10a,m10b],by simp [F1,F2,F3,F4,G1,G2,G3,G4,H1,H2,H3,H4,J1,J2,J3,J4,O1,O2,O3,O4,n0a,n0b,n1a,n1b,n2a,n2b,n3a,n3b,P1,P2,P3,P4,Q1,Q2,Q3,Q4,m0a,m0b,m1a,m1b,m2a,m2b,m3a,m3b,m4a,m4b,m5a,m5b,m6a,m6b,m7a,m7b,m8a,m8b,m9a,m9b,m10a,m10b,hT1],by simp [F1,F2,F3,F4,G1,G2,G3,G4,H1,H2,H3,H4,J1,J2,J3,J4,O1,O2,O3,O4,n0a,n0b,n1a,n1b,n2a,n2b,n3a,n3b,P1,P2,P3,P4,Q1,Q2,Q3,Q4,m0a,m0b,m1a,m1b,m2a,m2b,m3a,m3b,m4a,m4b,m5a,m5b,m6a,m6b,m7a,m7b,m8a,m8b,m9a,m9b,m10a,m10b,hT4],by simp [F1,F2,F3,F4,G1,G2,G3,G4,H1,H2,H3,H4,J1,J2,J3,J4,O1,O2,O3,O4,n0a,n0b,n1a,n1b,n2a,n2b,n3a,n3b,P1,P2,P3,P4,Q1,Q2,Q3,Q4,m0a,m0b,m1a,m1b,m2a,m2b,m3a,m3b,m4a,m4b,m5a,m5b,m6a,m6b,m7a,m7b,m8a,m8b,m9a,m9b,m10a,m10b],.inr ⟨t.nx+1,t.ep,t.nx+3,t.ep,rfl,rfl,by omega,by simp,by omega,by simp,by omega,by simp [F1,F2,F3,F4,G1,G2,G3,G4,H1,H2,H3,H4,J1,J2,J3,J4,O1,O2,O3,O4,n0a,n0b,n1a,n1b,n2a,n2b,n3a,n3b,P1,P2,P3,P4,Q1,Q2,Q3,Q4,m0a,m0b,m1a,m1b,m2a,m2b,m3a,m3b,m4a,m4b,m5a,m5b,m6a,m6b,m7a,m7b,m8a,m8b,m9a,m9b,m10a,m10b],by simp [F1,F2,F3,F4,G1,G2,G3,G4,H1,H2,H3,H4,J1,J2,J3,J4,O1,O2,O3,O4,n0a,n0b,n1a,n1b,n2a,n2b,n3a,n3b,P1,P2,P3,P4,Q1,Q2,Q3,Q4,m0a,m0b,m1a,m1b,m2a,m2b,m3a,m3b,m4a,m4b,m5a,m5b,m6a,m6b,m7a,m7b,m8a,m8b,m9a,m9b,m10a,m10b]⟩⟩
      ·intro r' hr'
       rcases List.mem_append.mp hr' with hr' | hr'
       ·exact hLr r' hr'
       ·simp at hr'; subst hr'; exact ⟨hr,hrd⟩
      ·intro y' hy'
       rcases List.mem_append.mp hy' with hy' | hy'
       ·exact hYd y' hy'
       ·simp at hy'; subst hy'; exact zto (by omega) (by omega)
  ·have him:i=m:=by omega
   subst him
   rcases hx with ⟨rfl,rfl,rfl,rfl⟩ | ⟨o1,e1,o2,e2,rfl,rfl,ho1,ho1x,ho2,ho2x,ho12,hSo1,hSo2⟩
   ·simp at hL; omega
   ·have n0a:(o1=0)=False:=eq_false (by omega)
    have n0b:(0=o1)=False:=eq_false (by omega)
    have n1a:(o1=1)=False:=eq_false (by omega)
    have n1b:(1=o1)=False:=eq_false (by omega)
    have n2a:(o1=4)=False:=eq_false (by omega)
    have n2b:(4=o1)=False:=eq_false (by omega)
    have n3a:(o1=5)=False:=eq_false (by omega)
    have n3b:(5=o1)=False:=eq_false (by omega)
    have n4a:(o2=0)=False:=eq_false (by omega)
    have n4b:(0=o2)=False:=eq_false (by omega)
    have n5a:(o2=1)=False:=eq_false (by omega)
    have n5b:(1=o2)=False:=eq_false (by omega)
    have n6a:(o2=4)=False:=eq_false (by omega)
    have n6b:(4=o2)=False:=eq_false (by omega)
    have n7a:(o2=5)=False:=eq_false (by omega)
    have n7b:(5=o2)=False:=eq_false (by omega)
    have n8a:(o1=o2)=False:=eq_false (by omega)
    have n8b:(o2=o1)=False:=eq_false (by omega)
    have hfin:=y69 hn1 hn3 hm1 hm40 hL hY hLr hYd
    rw [← hns] at hfin
    have hq1:1≤o1:=by omega
    have hq2:1≤o2:=by omega
    simp [-getElem?_pos,zyx,zlo,hq1,hq2,v0,v2,v4,v5,v7,h,hS0,hS1,hS4,hS5,hSo1,hSo2,hnl,hL,hY,n0a,n0b,n1a,n1b,n2a,n2b,n3a,n3b,n4a,n4b,n5a,n5b,n6a,n6b,n7a,n7b,n8a,n8b]
    exact ⟨_,p,s,hfin,hp,rfl⟩
 obtain ⟨r4,h4,v4,p4,s4,⟨b4,rfl⟩,hp4,rfl⟩:=zfj B p3 s3 hp3 hB 12 (by omega)
 refine zfe yb8 rfl ?_
 cases b3 with
 | false =>
  obtain ⟨m,hm⟩ : ∃ m:Nat,1+a2=m:=⟨(1+a2).toNat,by omega⟩
  have w2:=w64 (x:=(m:Int)) (by omega) (by omega)
  simp [-getElem?_pos,zuc,zlo,h1,h2,h3,h4,hnf,hm,w1,w2,hr0,hr1,hr2,hn4,hcut,yfw,hnl]
  exact key m b4 p4 s4 _ (by omega) (by omega) hp4 (by simp) (by simp) (by simp) (by simp) (by simp) (by simp) (by simp) (by simp) (by simp) (by simp) (by simp) (by simp)
 | true =>
  obtain ⟨r5,h5,v5,p5,s5,⟨a5,rfl,a50,a51⟩,hp5,rfl⟩:=zbf B p3 s3 hp3 hB 40 (by omega)
  have a52:=a51 (by omega)
  obtain ⟨m,hm⟩ : ∃ m:Nat,1+a5=m:=⟨(1+a5).toNat,by omega⟩
  have w2:=w64 (x:=(m:Int)) (by omega) (by omega)
  have w3:=w64 (x:=1+a2) (by omega) (by omega)
  obtain ⟨r6,h6,v6,p6,s6,⟨b6,rfl⟩,hp6,rfl⟩:=zfj B p5 s5 hp5 hB 12 (by omega)
  simp [-getElem?_pos,zuc,zlo,h1,h2,h3,h5,h6,hnf,hm,w1,w2,w3,hr0,hr1,hr2,hn4,hcut,yfw,hnl]
  exact key m b6 p6 s6 _ (by omega) (by omega) hp6 (by simp) (by simp) (by simp) (by simp) (by simp) (by simp) (by simp) (by simp) (by simp) (by simp) (by simp) (by simp)
theorem zvm {α:Type} {P:α→Prop} {c:List α} {f:Nat} {x:α} (h : ∀ l∈c,P l) (hx:P x) : ∀ l∈c.set f x,P l:=fun l hl=>by
 rcases List.mem_or_eq_of_mem_set hl with hl | hl
 ·exact h l hl
 ·subst hl; exact hx
theorem z3t {α:Type} {P:α→Prop} {c:List α} {x:α} (h : ∀ l∈c,P l) (hx:P x) : ∀ l∈c++[x],P l:=fun l hl=>by
 rcases List.mem_append.mp hl with hl | hl
 ·exact h l hl
 ·simp at hl; subst hl; exact hx
def zek:List Sl→Int
 | []=>0
 | x::xs=>x.n+zek xs
def zel:List Sl→Int
 | []=>0
 | x::xs=>x.g+zel xs
theorem z7t : ∀ {l:List Sl} {i:Nat} {s t:Sl},l[i]?=some s→zek (l.set i t)=zek l-s.n+t.n∧zel (l.set i t)=zel l-s.g+t.g
 | [],i,s,t,h=>by simp at h
 | x::xs,0,s,t,h=>by
  simp at h; subst h
  simp only [List.set_cons_zero,zek,zel]; omega
 | x::xs,i+1,s,t,h=>by
  have h':xs[i]?=some s:=by simpa using h
  have:=z7t (t:=t) h'
  simp only [List.set_cons_succ,zek,zel]; omega
theorem ym2 (n:Nat):zek (List.replicate n ⟨0,0⟩)=0∧zel (List.replicate n ⟨0,0⟩)=0:=by
 induction n with
 | zero=>exact ⟨rfl,rfl⟩
 | succ n ih=>simp only [List.replicate_succ,zek,zel]; omega
theorem yju {a b:Int} (h:(adi a b).2=true):(adi a b).1=a+b:=by
 unfold adi at h ⊢
 split
 ·rfl
 ·rename_i hc; rw [if_neg hc] at h; cases h
theorem z36 {a b:Sl} (h:(zb7 a b).2=true):(zb7 a b).1.n=a.n+b.n∧(zb7 a b).1.g=a.g+b.g:=by
 unfold zb7 at h ⊢
 split
 ·rename_i hc
  simp only [Bool.and_eq_true] at hc
  exact ⟨yju hc.1,yju hc.2⟩
 ·rename_i hc; rw [if_neg hc] at h; cases h
def zgj (g rows:List Int):Int:=(rows.map fun r=>(atI g r).getD 0).sum
theorem z4t (g:List Int) (r:Int) (rs:List Int):zgj g (r::rs)=(atI g r).getD 0+zgj g rs:=by simp [zgj]
theorem yhb {b g:List Int} : ∀ (rows:List Int) (h h':List Sl),zcs b g rows h=some h'→zek h'=zek h+rows.length∧zel h'=zel h+zgj g rows
 | [],h,h',e=>by
  simp only [zcs,Option.some.injEq] at e
  subst e
  simp [zgj]
 | r::rs,h,h',e=>by
  unfold zcs at e
  cases hx:atI b r with
  | none=>rw [hx] at e; cases e
  | some x =>
   cases hy:atI g r with
   | none=>rw [hx,hy] at e; cases e
   | some y =>
    rw [hx,hy] at e
    simp only at e
    cases hs:atI h x with
    | none=>rw [hs] at e; cases e
    | some s =>
     rw [hs] at e
     simp only at e
     split at e
     ·rename_i hp
      obtain ⟨p1,p2⟩:=z36 hp
      obtain ⟨e1,e2⟩:=yhb rs _ _ e
      obtain ⟨j,rfl,hjs,_⟩:=zkb hs
      rw [Int.toNat_natCast] at e1 e2
      obtain ⟨q1,q2⟩:=z7t (t:=(zb7 s ⟨1,y⟩).1) hjs
      simp only [z4t,hy,Option.getD_some,List.length_cons]
      simp only at p1 p2
      omega
     ·cases e
theorem ylz : ∀ (h:List Sl) (s:Sl) (l:List Sl),zdo s h=some l→(l.getLast?.getD s).n=s.n+zek h∧(l.getLast?.getD s).g=s.g+zel h
 | [],s,l,e=>by
  simp only [zdo,Option.some.injEq] at e
  subst e
  simp [zek,zel]
 | x::xs,s,l,e=>by
  unfold zdo at e
  split at e
  ·rename_i hp
   obtain ⟨p1,p2⟩:=z36 hp
   simp only [Option.map_eq_some_iff] at e
   obtain ⟨l',h1,rfl⟩:=e
   obtain ⟨q1,q2⟩:=ylz xs _ _ h1
   rw [List.getLast?_cons,Option.getD_some]
   simp only [zek,zel]
   omega
  ·cases e
theorem y7z {b g rows:List Int} {k:Int} (h:(zc0 b g rows k).2=true):zek (zc0 b g rows k).1=rows.length∧zel (zc0 b g rows k).1=zgj g rows:=by
 unfold zc0 at h ⊢
 split at h
 ·rename_i hc
  rw [if_pos hc]
  cases e:zcs b g rows (List.replicate k.toNat ⟨0,0⟩) with
  | none=>rw [e] at h; cases h
  | some h' =>
   obtain ⟨h1,h2⟩:=yhb rows _ _ e
   obtain ⟨h3,h4⟩:=ym2 k.toNat
   simp only
   omega
 ·cases h
theorem ymy : ∀ (h:List Sl) (s:Sl) (l:List Sl),zdo s h=some l→∀ (b:Nat) (x:Sl),l[b]?=some x→x.n=s.n+zek (h.take (b+1))∧x.g=s.g+zel (h.take (b+1))
 | [],s,l,e,b,x,hx=>by simp only [zdo,Option.some.injEq] at e; subst e; simp at hx
 | y::ys,s,l,e,b,x,hx=>by
  unfold zdo at e
  split at e
  ·rename_i hp
   obtain ⟨p1,p2⟩:=z36 hp
   simp only [Option.map_eq_some_iff] at e
   obtain ⟨l',h1,rfl⟩:=e
   cases b with
   | zero =>
    simp at hx
    subst hx
    simp [zek,zel,p1,p2]
   | succ b =>
    have hx':l'[b]?=some x:=by simpa using hx
    obtain ⟨q1,q2⟩:=ymy ys _ _ h1 b x hx'
    rw [List.take_succ_cons]
    simp only [zek,zel]
    omega
  ·cases e
theorem yh9 {bins g:List Int} : ∀ (rows:List Int) (h h':List Sl),zcs bins g rows h=some h'→∀ b:Nat,zek (h'.take (b+1))=zek (h.take (b+1))+(zc4 bins rows b).length∧zel (h'.take (b+1))=zel (h.take (b+1))+zgj g (zc4 bins rows b)
 | [],h,h',e,b=>by
  simp only [zcs,Option.some.injEq] at e
  subst e
  simp [zgj,zc4]
 | r::rs,h,h',e,b=>by
  unfold zcs at e
  cases hx:atI bins r with
  | none=>rw [hx] at e; cases e
  | some x =>
   cases hy:atI g r with
   | none=>rw [hx,hy] at e; cases e
   | some y =>
    rw [hx,hy] at e
    simp only at e
    cases hs:atI h x with
    | none=>rw [hs] at e; cases e
    | some s =>
     rw [hs] at e
     simp only at e
     split at e
     ·rename_i hp
      obtain ⟨p1,p2⟩:=z36 hp
      obtain ⟨e1,e2⟩:=yh9 rs _ _ e b
      obtain ⟨j,rfl,hjs,_⟩:=zkb hs
      rw [Int.toNat_natCast,List.take_set] at e1 e2
      simp only at p1 p2
      have hB:zky bins b r=decide ((j:Int)≤b):=by unfold zky; rw [hx]
      by_cases hjb:j≤b
      ·have hB':zky bins b r=true:=by rw [hB]; simpa using hjb
       have hk:(h.take (b+1))[j]?=some s:=by rw [List.getElem?_take_of_lt (by omega)]; exact hjs
       obtain ⟨q1,q2⟩:=z7t (t:=(zb7 s ⟨1,y⟩).1) hk
       have hf:zc4 bins (r::rs) b=r::zc4 bins rs b:=by unfold zc4; rw [List.filter_cons,if_pos hB']
       rw [hf,z4t,hy,Option.getD_some,List.length_cons]
       omega
      ·have hB' : ¬ zky bins b r=true:=by rw [hB]; simpa using hjb
       have hf:zc4 bins (r::rs) b=zc4 bins rs b:=by unfold zc4; rw [List.filter_cons,if_neg hB']
       rw [List.set_eq_of_length_le (by simp; omega)] at e1 e2
       rw [hf]
       exact ⟨e1,e2⟩
     ·cases e
theorem yln {bins g:List Int} : ∀ (rows:List Int) (h h':List Sl),zcs bins g rows h=some h'→∀ r∈rows,∃ x,atI bins r=some x
 | [],h,h',e,r,hr=>by cases hr
 | r0::rs,h,h',e,r,hr=>by
  unfold zcs at e
  split at e
  ·rename_i x y hx hy
   split at e
   ·split at e
    ·rcases List.mem_cons.mp hr with rfl | hr
     ·exact ⟨x,hx⟩
     ·exact yln rs _ _ e r hr
    ·cases e
   ·cases e
  ·cases e
theorem yhi {bins g:List Int} {b:Int} : ∀ rows:List Int,(∀ r∈rows,∃ x,atI bins r=some x)→(zc4 bins rows b).length+(zfv bins rows b).length=rows.length∧zgj g (zc4 bins rows b)+zgj g (zfv bins rows b)=zgj g rows
 | [],_=>by simp [zc4,zfv,zgj]
 | r::rs,h=>by
  obtain ⟨x,hx⟩:=h r (by simp)
  obtain ⟨h1,h2⟩:=yhi (b:=b) (g:=g) rs (fun r hr=>h r (by simp [hr]))
  have hB:zky bins b r=decide (x≤b):=by unfold zky; rw [hx]
  have hC:zvh bins b r = !decide (x≤b):=by unfold zvh; rw [hx]
  unfold zc4 zfv at *
  rw [List.filter_cons,List.filter_cons,hB,hC]
  by_cases hxb:x≤b
  ·simp only [decide_eq_true hxb,Bool.not_true,Bool.false_eq_true,if_true,if_false,z4t,List.length_cons]
   omega
  ·simp only [decide_eq_false hxb,Bool.not_false,Bool.false_eq_true,if_true,if_false,z4t,List.length_cons]
   omega
theorem z6o {f:Int} {all:Sl} {least:Int} {p:Cnd→Prop} {l:List Sl} (hp : ∀ (b:Nat) (x:Sl),l[b]?=some x→(ze2 all x).2=true→p ⟨f,b,x,(ze2 all x).1⟩) : ∀ (k i:Nat) (acc a:List Cnd),i+k=l.length→(∀ x∈acc,p x)→zfr f all least i (l.drop i) acc=some a→∀ x∈a,p x
 | 0,i,acc,a,hk,ha,h=>by
  rw [zv1 acc (by omega)] at h
  cases h
  exact ha
 | k+1,i,acc,a,hk,ha,h=>by
  by_cases hi:i+1<l.length
  ·obtain ⟨x,hx⟩ : ∃ x,l[i]?=some x:=⟨_,List.getElem?_eq_getElem (by omega)⟩
   rw [z8s acc hx hi] at h
   split at h
   ·rename_i hm
    split at h
    ·exact z6o hp k (i+1) _ _ (by omega) (fun y hy=>by
      rcases List.mem_append.mp hy with e | e
      ·exact ha y e
      ·simp only [List.mem_singleton] at e; subst e; exact hp i x hx hm) h
    ·exact z6o hp k (i+1) _ _ (by omega) ha h
   ·cases h
  ·rw [zv1 acc hi] at h
   cases h
   exact ha
def z3q (H:List (List Sl)) (x:Cnd):Prop := ∃ (f b:Nat) (h:List Sl),x.f=f∧x.b=b∧H[f]?=some h∧(zcp h).2=true∧(zcp h).1[b]?=some x.a∧(ze2 (zh9 (zcp h).1) x.a).2=true∧x.z=(ze2 (zh9 (zcp h).1) x.a).1
theorem yh1 {least:Int} {H:List (List Sl)} : ∀ (k i:Nat) (acc a:List Cnd),i+k=H.length→(∀ x∈acc,z3q H x)→zex least i (H.drop i) acc=some a→∀ x∈a,z3q H x
 | 0,i,acc,a,hk,ha,h=>by
  rw [List.drop_eq_nil_of_le (by omega),zex] at h
  cases h
  exact ha
 | k+1,i,acc,a,hk,ha,h=>by
  obtain ⟨l,hx⟩ : ∃ x,H[i]?=some x:=⟨_,List.getElem?_eq_getElem (by omega)⟩
  rw [z77 acc hx] at h
  split at h
  ·rename_i hp
   split at h
   ·rename_i a' h'
    have h'':zfr i (zh9 (zcp l).1) least ((0:Nat):Int) ((zcp l).1.drop 0) acc=some a':=by simpa using h'
    exact yh1 k (i+1) a' a (by omega) (z6o (p:=z3q H) (fun b x hb hm=>⟨i,b,l,rfl,rfl,hx,hp,hb,hm,rfl⟩) (zcp l).1.length 0 acc a' (by omega) ha h'') h
   ·cases h
  ·cases h
theorem y53 {least:Int} {H:List (List Sl)} : ∀ x∈zf0 H least,z3q H x:=by
 unfold zf0
 cases h:zex least 0 H [] with
 | none=>simp
 | some a =>
  have h':zex least ((0:Nat):Int) (H.drop 0) []=some a:=by simpa using h
  exact yh1 H.length 0 [] a (by omega) (fun x hx=>by cases hx) h'
theorem yhd {a b:Int} (h:(sbi a b).2=true):(sbi a b).1=a-b:=by
 unfold sbi at h ⊢
 split
 ·rfl
 ·rename_i hc; rw [if_neg hc] at h; cases h
theorem y5d {a b:Sl} (h:(ze2 a b).2=true):(ze2 a b).1.n=a.n-b.n∧(ze2 a b).1.g=a.g-b.g:=by
 unfold ze2 at h ⊢
 split
 ·rename_i hc
  simp only [Bool.and_eq_true] at hc
  exact ⟨yhd hc.1,yhd hc.2⟩
 ·rename_i hc; rw [if_neg hc] at h; cases h
theorem yj2 {g rows:List Int} : ∀ (c v:List (List Int)) (H:List (List Sl)) (f:Nat) (h:List Sl),zb2 g rows c v=some H→H[f]?=some h→∃ x y:List Int,v[f]?=some y∧(zc0 y g rows (x.length+1:Nat)).2=true∧h=(zc0 y g rows (x.length+1:Nat)).1
 | [],v,H,f,h,e,hf=>by simp [zb2] at e; subst e; simp at hf
 | x::c,[],H,f,h,e,hf=>by simp [zb2] at e; subst e; simp at hf
 | x::c,y::v,H,f,h,e,hf=>by
  simp only [zb2] at e
  split at e
  ·rename_i hp
   simp only [Option.map_eq_some_iff] at e
   obtain ⟨H',h1,rfl⟩:=e
   cases f with
   | zero =>
    simp at hf
    exact ⟨x,y,rfl,by simpa using hp,by rw [← hf]; simp⟩
   | succ f =>
    simp at hf
    obtain ⟨x',y',h2,h3⟩:=yj2 c v H' f h h1 hf
    exact ⟨x',y',by simpa using h2,h3⟩
  ·cases e
theorem y5h {c v:List (List Int)} {g:List Int} {cfg:Cfg} {rows:List Int} {b:Bd} (h:(zbi c v g cfg rows b).2=true) : ∃ (f k:Nat) (y:List Int),(zbi c v g cfg rows b).1.f=f∧(zbi c v g cfg rows b).1.b=k∧v[f]?=some y∧zew g (zc4 y rows k)=(zbi c v g cfg rows b).1.a∧zew g (zfv y rows k)=(zbi c v g cfg rows b).1.z:=by
 obtain ⟨h1,h2⟩:=yh8 h
 have hc:(zbi c v g cfg rows b).1∈zf0 (zcf c v g rows).1 cfg.rw:=by
  unfold zbi at h ⊢
  split
  ·rename_i e1
   rw [if_pos e1,if_pos h2] at h
   exact (yk4 h).1
  ·rename_i e1
   rw [if_neg e1] at h; cases h
 obtain ⟨f,k,l,e1,e2,e3,e4,e5,e6,e7⟩:=y53 _ hc
 have hN : ∃ H,zb2 g rows c v=some H∧(zcf c v g rows).1=H:=by
  unfold zcf at h2 ⊢
  split at h2
  ·rename_i hg
   rw [if_pos hg]
   cases e:zb2 g rows c v with
   | none=>rw [e] at h2; cases h2
   | some H=>exact ⟨H,rfl,rfl⟩
  ·cases h2
 obtain ⟨H,hH,hH2⟩:=hN
 rw [hH2] at e3
 obtain ⟨x,y,hy,hok,rfl⟩:=yj2 c v H f l hH e3
 generalize (zbi c v g cfg rows b).1=C at *
 obtain ⟨Cf,Cb,Ca,Cz⟩:=C
 simp only at e1 e2 e5 e6 e7 ⊢
 refine ⟨f,k,y,e1,e2,hy,?_⟩
 have ⟨hs1,hs2⟩:=y7z hok
 unfold zc0 at hok e4 e5 e6 e7 hs1 hs2
 split at hok
 ·rename_i hw
  rw [if_pos hw] at e4 e5 e6 e7 hs1 hs2
  cases eh:zcs y g rows (List.replicate (((x.length+1:Nat):Int)).toNat ⟨0,0⟩) with
  | none=>rw [eh] at hok; cases hok
  | some hh =>
   rw [eh] at e4 e5 e6 e7 hs1 hs2
   simp only at e4 e5 e6 e7 hs1 hs2
   obtain ⟨t1,t2⟩:=yh9 rows _ _ eh k
   rw [List.take_replicate] at t1 t2
   obtain ⟨z1,z2⟩:=ym2 (min (k+1) (((x.length+1:Nat):Int)).toNat)
   rw [z1] at t1
   rw [z2] at t2
   have hval:=yln rows _ _ eh
   obtain ⟨a1,a2⟩:=yhi (g:=g) (b:=(k:Int)) rows hval
   unfold zcp at e4 e5 e6 e7
   cases ep:zdo ⟨0,0⟩ hh with
   | none=>rw [ep] at e4; cases e4
   | some pl =>
    rw [ep] at e5 e6 e7
    simp only at e5 e6 e7
    obtain ⟨p1,p2⟩:=ymy hh _ _ ep k Ca e5
    obtain ⟨m1,m2⟩:=y5d e6
    obtain ⟨q1,q2⟩:=ylz hh _ _ ep
    rw [← e7] at m1 m2
    simp only [zh9] at m1 m2
    obtain ⟨an,ag⟩:=Ca
    obtain ⟨zn,zg⟩:=Cz
    simp only at p1 p2 q1 q2 m1 m2
    unfold zew
    have g1 : ∀ r:List Int,(r.map fun r=>(atI g r).getD 0).sum=zgj g r:=fun r=>rfl
    rw [g1,g1]
    simp only [Sl.mk.injEq]
    omega
 ·cases hok
theorem y7t (cs:List PV) (h:zb1 [.int .u8] cs) : ∃ n:Int,[PV.v (.int .u8 n)]=cs∧True:=by
 simp only [zb1,Shp] at h
 obtain ⟨_,_,rfl,⟨a,rfl,h1⟩,rfl⟩:=h
 exact ⟨a,rfl,trivial⟩
theorem y1c {c:PV} (h:zma false [.sl [.int .u8]] c) : ∃ B:List Int,c = .sl 1 (zbl B)∧B.length≤9223372036854775807:=by
 simp only [zma,Bool.false_eq_true,if_false,zb1,Shp] at h
 obtain ⟨c',r,e,⟨es,he,h1,h2⟩,hr⟩:=h
 simp only [List.cons.injEq] at e
 obtain ⟨l,hl,hp⟩:=ygn (f:=fun n:Int=>[PV.v (.int .u8 n)]) (tys:=[.int .u8]) y7t h2
 subst hl
 simp [maxLen] at h1
 exact ⟨l,e.1.trans he,by omega⟩
inductive SN where
 | mk (f c v:Int) (ks:List SN)
def z7o (q:Bool) (es:List (List PV)):PV:=if q then .own 4 es else .sl 4 es
mutual
def snC (q:Bool):SN→List PV
 | .mk f c v ks=>[iv f,iv c,iv v,z7o q (snL q ks)]
def snL (q:Bool):List SN→List (List PV)
 | []=>[]
 | s::ss=>snC q s::snL q ss
end
theorem ykg (q:Bool) : ∀ ks:List SN,snL q ks=ks.map (snC q)
 | []=>by simp [snL]
 | k::ks=>by simp [snL,ykg q ks]
@[simp] theorem qfs (q:Bool) (ks:List SN):(snL q ks).length=ks.length:=by rw [ykg]; simp
@[simp] theorem qqg (q:Bool) (es:List (List PV)):fz (z7o q es) = .sl 4 es:=by cases q <;> simp [z7o]
theorem y15 {c:Cfg} (h:zbm c=true):1≤c.la∧c.la≤100∧0≤c.de∧c.de≤4:=by
 unfold zbm at h
 simp only [Bool.and_eq_true,za2] at h
 omega
def yjo (v:List (List Int)) (g rows:List Int) (f k:Nat):Cnd:=⟨f,k,zew g (zc4 (v.getD f []) rows k),zew g (zfv (v.getD f []) rows k)⟩
def NI (S:Nat→Option Ob) (nx k:Nat) (m:List Int) (x:PV):Prop:=(x = .e0∧m=[])∨∃ o e,x = .ref o none e 0 m.length∧k<o∧o<nx∧S o=some (.row 1 (zab m))
theorem NI.up {S S':Nat→Option Ob} {nx nx' k:Nat} {l:List Int} {Y:PV} (h:NI S nx k l Y) (hn:nx≤nx') (hS : ∀ o e n,Y = .ref o none e 0 n→k<o→o<nx→S' o=S o):NI S' nx' k l Y:=by
 rcases h with h | ⟨o,e,h1,h2,h3,h4⟩
 ·exact .inl h
 ·exact .inr ⟨o,e,h1,h2,by omega,by rw [hS o e _ h1 h2 h3]; exact h4⟩
structure GH (c v:List (List Int)) (g:List Int) (cfg:Cfg):Prop where
 tk:zhv c v g cfg=true
 sg:cfg.sg.length≤1048576
theorem GH.la {c v:List (List Int)} {g:List Int} {cfg:Cfg} (h:GH c v g cfg):1≤cfg.la∧cfg.la≤100∧0≤cfg.de∧cfg.de≤4:=y15 (z33 h.tk).2.1
def WB (v:List (List Int)) (g rows:List Int) (la:Int) (S:Nat→Option Ob) (nx:Nat) (acc:Option Cnd) (B:List PV) (fd:PV):Prop:=(acc=none∧B=[iv 0,iv 0,.e0,.e0,bv false,uv 0,uv 0,iv 0]∧fd=bv false)∨∃ (f k o e p e':Nat),acc=some (yjo v g rows f k)∧B=[iv f,iv k,.ref o none e 0 (zc4 (v.getD f []) rows k).length,.ref p none e' 0 (zfv (v.getD f []) rows k).length]++frc (zdh (yjo v g rows f k) la).1∧fd=bv true∧4<o∧o<nx∧4<p∧p<nx∧¬ o=p∧S o=some (.row 1 (zab (zc4 (v.getD f []) rows k)))∧S p=some (.row 1 (zab (zfv (v.getD f []) rows k)))
theorem WB.up {v:List (List Int)} {g rows:List Int} {la:Int} {S S':Nat→Option Ob} {nx nx':Nat} {acc:Option Cnd} {B:List PV} {fd:PV} (h:WB v g rows la S nx acc B fd) (hn:nx≤nx') (hS : ∀ o,4<o→o<nx→S' o=S o):WB v g rows la S' nx' acc B fd:=by
 rcases h with h | ⟨f,k,o,e,p,e',h1,h2,h3,h4,h5,h6,h7,h8,h9,h10⟩
 ·exact .inl h
 ·exact .inr ⟨f,k,o,e,p,e',h1,h2,h3,h4,by omega,h6,by omega,h8,by rw [hS o h4 h5]; exact h9,by rw [hS p h6 h7]; exact h10⟩
theorem NC.up {S S':Nat→Option Ob} {nx nx' oq oq':Nat} {m:List Nd} {x:PV} (h:NC S nx oq m x) (hn:nx≤nx') (ho:oq'=oq∨nx≤oq') (hS : ∀ p,5<p→p<nx→¬ p=oq→S' p=S p):NC S' nx' oq' m x:=by
 rcases h with h | ⟨p,e,h1,h2,h3,h4,h5⟩
 ·exact .inl h
 ·exact .inr ⟨p,e,h1,h2,by omega,by omega,by rw [hS p h2 h3 h4]; exact h5⟩
def okP (g:List Int) (cfg:Cfg) (x:Pnd):Prop:=zwp g.length cfg.de x∧zks x.b=true
def Str (c v:List (List Int)) (g:List Int) (cfg:Cfg) (Q:List Pnd) (F:List Nd) (j:Nat):Prop := ∃ (x:Pnd) (L:Nat),Q[j]?=some x∧okP g cfg x∧F[j]?=some (if goes c v g cfg x=true then zsm c (zbi c v g cfg x.r x.b).1 L else zga g cfg x)∧(goes c v g cfg x=true→j<L∧Q[L]?=some (zl7 c v cfg x (zbi c v g cfg x.r x.b).1)∧Q[L+1]?=some (zl2 c v cfg x (zbi c v g cfg x.r x.b).1))
theorem z4f {α:Type} {l m:List α} {i:Nat} {x:α} (h:l[i]?=some x):(l++m)[i]?=some x:=by
 rw [List.getElem?_append_left (List.getElem?_eq_some_iff.mp h).1]; exact h
theorem Str.up {c v:List (List Int)} {g:List Int} {cfg:Cfg} {Q R:List Pnd} {F E:List Nd} {j:Nat} (h:Str c v g cfg Q F j):Str c v g cfg (Q++R) (F++E) j:=by
 obtain ⟨x,L,h1,h2,h3,h4⟩:=h
 exact ⟨x,L,z4f h1,h2,z4f h3,fun hg=>⟨(h4 hg).1,z4f (h4 hg).2.1,z4f (h4 hg).2.2⟩⟩
def inR (R x:Int):Prop := -R≤x∧x≤R
def bdR (R:Int) (b:Bd):Prop:=b.lo≤R ∧ -R≤b.hi
theorem z69 {a m R:Int} (hm:0<m) (h1 : -(R*m)≤a) (h2:a≤R*m):inR R (a.fdiv m):=by
 rw [Int.fdiv_eq_ediv_of_nonneg _ (by omega)]
 exact ⟨(Int.le_ediv_iff_mul_le hm).mpr (by rw [Int.neg_mul]; exact h1),Int.ediv_le_of_le_mul hm h2⟩
theorem zg3 {R:Int} (h:0≤R):inR R 0:=⟨by omega,h⟩
theorem yhk {R x:Int} {b:Bd} (h:inR R x) (hb:bdR R b):inR R (zf5 x b.lo b.hi):=by
 unfold zf5 inR bdR at *
 split
 ·omega
 ·split <;> omega
theorem yzp {R:Int} {g:List Int} (hR:0≤R) (hg : ∀ x∈g,inR R x) (r:Int):inR R ((atI g r).getD 0):=by
 unfold atI
 split
 ·cases h:g[r.toNat]? with
  | none=>exact zg3 hR
  | some x=>exact hg x (List.mem_of_getElem? h)
 ·exact zg3 hR
theorem yip {R:Int} {g:List Int} (hR:0≤R) (hg : ∀ x∈g,inR R x) : ∀ rows:List Int,-(R*rows.length)≤(zew g rows).g∧(zew g rows).g≤R*rows.length
 | []=>by simp [zew]
 | r::rs=>by
  have ih:=yip hR hg rs
  have h1:=yzp hR hg r
  have e:R*((r::rs).length:Int)=R*rs.length+R:=by
   simp only [List.length_cons]; push_cast; rw [Int.mul_add,Int.mul_one]
  rw [e]
  unfold inR at h1
  simp only [zew,List.map_cons,List.sum_cons] at *
  omega
theorem z8m {R:Int} {g:List Int} (hR:0≤R) (hg : ∀ x∈g,inR R x) (rows:List Int) (l:Int) {b:Bd} (hb:bdR R b):inR R (zfp (zew g rows) l b).1:=by
 unfold zfp
 split
 ·rename_i hc
  simp only [Bool.and_eq_true] at hc
  have h1:=hc.1
  unfold zov at h1
  simp only [Bool.and_eq_true] at h1
  have hn:=za2.mp h1.1
  have hl:=za2.mp h1.2
  refine yhk ?_ hb
  unfold fdv
  split
  ·exact zg3 hR
  ·obtain ⟨s1,s2⟩:=yip hR hg rows
   have e:(zew g rows).n=rows.length:=rfl
   rw [e]
   have hm:R*rows.length≤R*(rows.length+l):=Int.mul_le_mul_of_nonneg_left (by omega) hR
   exact z69 (by omega) (by omega) (by omega)
 ·exact zg3 hR
theorem y2h {R:Int} {c v:List (List Int)} {g rows:List Int} {cfg:Cfg} {b:Bd} (hR:0≤R) (hg : ∀ x∈g,inR R x) (hb:bdR R b) (h:(zbi c v g cfg rows b).2=true):inR R (zcz cfg b (zbi c v g cfg rows b).1).1∧inR R (zcz cfg b (zbi c v g cfg rows b).1).2.1:=by
 obtain ⟨f,k,y,_,_,_,ha,hz⟩:=y5h h
 unfold zcz
 rw [← ha,← hz]
 split
 ·exact ⟨z8m hR hg _ _ hb,z8m hR hg _ _ hb⟩
 ·exact ⟨zg3 hR,zg3 hR⟩
theorem y4x {R s l r:Int} {b:Bd} (hb:bdR R b) (hl:inR R l) (hr:inR R r):bdR R (ziq s b l r).1∧bdR R (ziq s b l r).2:=by
 have hh:inR R (zio l r):=by unfold zio inR at *; omega
 have hm:=yhk hh hb
 unfold ziq
 generalize zf5 (zio l r) b.lo b.hi=m at *
 unfold inR bdR at *
 split
 ·split
  ·simp only; omega
  ·split <;> simp only <;> omega
 ·simp only; omega
theorem z8d {R:Int} {c v:List (List Int)} {g:List Int} {cfg:Cfg} (hR:0≤R) (hg : ∀ x∈g,inR R x) : ∀ (n:Nat) (q:List Pnd) (i:Nat) (out:List Nd),(∀ x∈q,bdR R x.b)→(∀ x∈out,inR R x.v)→∀ x∈zdv c v g cfg n q i out,inR R x.v
 | 0,q,i,out,_,ho=>ho
 | n+1,q,i,out,hq,ho=>by
  cases hx:q[i]? with
  | none=>rw [ymj hx]; exact ho
  | some x =>
   have hb:=hq x (List.mem_of_getElem? hx)
   cases hgo:goes c v g cfg x with
   | false =>
    rw [yim hx hgo]
    refine z8d hR hg n _ _ _ hq fun y hy => ?_
    rcases List.mem_append.mp hy with hy | hy
    ·exact ho y hy
    ·simp only [List.mem_singleton] at hy
     subst hy
     exact z8m hR hg _ _ hb
   | true =>
    rw [yho hx hgo]
    have hp:(zbi c v g cfg x.r x.b).2=true:=by
     unfold goes at hgo
     simp only [Bool.and_eq_true] at hgo
     exact hgo.2
    obtain ⟨s1,s2⟩:=y2h hR hg hb hp
    obtain ⟨k1,k2⟩:=y4x (s:=zhi cfg (zbi c v g cfg x.r x.b).1.f) hb s1 s2
    refine z8d hR hg n _ _ _ (fun y hy => ?_) fun y hy => ?_
    ·rcases List.mem_append.mp hy with hy | hy
     ·exact hq y hy
     ·simp only [List.mem_cons,List.not_mem_nil,or_false] at hy
      rcases hy with rfl | rfl
      ·exact k1
      ·exact k2
    ·rcases List.mem_append.mp hy with hy | hy
     ·exact ho y hy
     ·simp only [List.mem_singleton] at hy
      subst hy
      exact zg3 hR
theorem yk5 {R:Int} {c v:List (List Int)} {g:List Int} {cfg:Cfg} (hR:0≤R) (hg : ∀ x∈g,inR R x) : ∀ x∈(zc3 c v g cfg).1,inR R x.v:=by
 unfold zc3
 split
 ·show ∀ x∈zdv c v g cfg 32 [zf1 g] 0 [],inR R x.v
  refine z8d hR hg 32 _ _ _ (fun x hx => ?_) (fun x hx=>by cases hx)
  simp only [List.mem_singleton] at hx
  subst hx
  exact ⟨by show -1099511627776≤R; omega,by show -R≤1099511627776; omega⟩
 ·simp
theorem y2i {R v:Int} {c:Cfg} (hR:0≤R) (h:inR R v):inR R (shr v c).1:=by
 unfold shr
 split
 ·rename_i hc
  simp only [Bool.and_eq_true] at hc
  obtain ⟨_,_,_,_,_,hd,hn,_⟩:=zs9 hc.1
  obtain ⟨h1,h2⟩:=h
  have a1:v*c.nu≤R*c.nu:=Int.mul_le_mul_of_nonneg_right h2 (by omega)
  have a2:R*c.nu≤R*c.dn:=Int.mul_le_mul_of_nonneg_left (by omega) hR
  have a3 : -R*c.nu≤v*c.nu:=Int.mul_le_mul_of_nonneg_right h1 (by omega)
  rw [Int.neg_mul] at a3
  exact z69 (by omega) (by omega) (by omega)
 ·exact zg3 hR
theorem yki {R:Int} {c:Cfg} {t:List Nd} (hR:0≤R) (h : ∀ x∈t,inR R x.v) : ∀ x∈(zim c t).1,inR R x.v:=by
 unfold zim
 split
 ·intro x hx
  obtain ⟨y,hy,rfl⟩:=List.mem_map.mp hx
  unfold zhg
  split
  ·exact y2i hR (h y hy)
  ·exact h y hy
 ·simp
theorem ylf {R:Int} {t:List Nd} (hR:0≤R) (h : ∀ x∈t,inR R x.v) (row:List Int):inR R (evt t row):=by
 unfold evt
 split
 ·exact zg3 hR
 ·cases e:t[(rto t row).toNat]? with
  | none=>exact zg3 hR
  | some x=>exact h x (List.mem_of_getElem? e)
def noS:Sta:=⟨[],[]⟩
def zhe (tr:List Nd):List Int→List (List Int)→Option (List Int)
 | p::ps,r::rs=>if (adi p (evt tr r)).2=true then (zhe tr ps rs).map ((adi p (evt tr r)).1 :: ·) else none
 | _,_=>some []
def zwl (t:Ta) (c v:List (List Int)) (cfg:Cfg) (s:Sta):List Nd×Bool:=if ((zdq t.lb s.sm).2 && (zc3 c v (zdq t.lb s.sm).1 cfg).2)=true then zim cfg (zc3 c v (zdq t.lb s.sm).1 cfg).1 else ([],false)
def zsy (t:Ta) (tr:List Nd) (s:Sta):Sta×Bool:=match zhe tr s.sm t.rw with
 | some p=>(⟨p,s.ts++[tr]⟩,true)
 | none=>(noS,false)
def z4p (t:Ta) (c v:List (List Int)) (cfg:Cfg) (s:Sta):Sta×Bool:=if (zwl t c v cfg s).2=true then zsy t (zwl t c v cfg s).1 s else (noS,false)
def zip (t:Ta) (c v:List (List Int)) (cfg:Cfg) (s:Sta):Sta×Bool:=if zbh t=true∧c=zby t cfg.bi∧v=zbv t cfg.bi then z4p t c v cfg s else (noS,false)
def rnd (t:Ta) (cfg:Cfg) (s:Sta):Sta×Bool:=zip t (zby t cfg.bi) (zbv t cfg.bi) cfg s
def zl6 (t:Ta) (cfg:Cfg):Nat→Option Sta
 | 0=>some (zfm t).1
 | n+1=>(zl6 t cfg n).bind fun s=>if (rnd t cfg s).2=true then some (rnd t cfg s).1 else none
def zcl (t:Ta) (cfg:Cfg):Sta×Bool:=if (zbh t && zbm cfg)=true then match zl6 t cfg cfg.ro.toNat with
 | some s=>(s,true)
 | none=>(noS,false)
 else (noS,false)
theorem ykp {tr:List Nd} : ∀ {ps:List Int} {rs:List (List Int)},ps.length=rs.length→(∀ p∈ps,∀ r∈rs,(adi p (evt tr r)).2=true)→∃ q,zhe tr ps rs=some q∧q.length=ps.length∧∀ (i:Nat) (p:Int) (r:List Int),ps[i]?=some p→rs[i]?=some r→q[i]?=some (p+evt tr r)
 | [],[],_,_=>⟨[],rfl,rfl,by simp⟩
 | p::ps,r::rs,hl,h=>by
  have h1:=h p (by simp) r (by simp)
  obtain ⟨q,h2,h3,h4⟩:=ykp (ps:=ps) (rs:=rs) (by simpa using hl) (fun p hp r hr=>h p (by simp [hp]) r (by simp [hr]))
  refine ⟨(adi p (evt tr r)).1::q,by rw [zhe,if_pos h1,h2]; rfl,by simp [h3],fun i p' r' e1 e2 => ?_⟩
  cases i with
  | zero =>
   simp at e1 e2
   subst e1 e2
   unfold adi at h1 ⊢
   split at h1
   ·rename_i hc; rw [if_pos hc]; rfl
   ·cases h1
  | succ i=>simpa using h4 i p' r' (by simpa using e1) (by simpa using e2)
structure StI (t:Ta) (n:Nat) (s:Sta):Prop where
 l:s.sm.length=t.lb.length
 k:s.ts.length=n
 r : ∀ (i:Nat) (y p:Int),t.lb[i]?=some y→s.sm[i]?=some p→inR (4294967296*2 ^ n) (y-p)
theorem z4r {t:Ta} (h:zbh t=true) : ∀ y∈t.lb,inR 2147483647 y:=by
 unfold zbh at h
 simp only [Bool.and_eq_true,List.all_eq_true] at h
 intro y hy
 have:=h.1.2 y hy
 unfold za8 at this
 exact za2.mp this
theorem yhn {R:Int} : ∀ {l:List Int} {a b:Int},(∀ y∈l,inR R y)→zfz a l=some b→a-R*l.length≤b∧b≤a+R*l.length
 | [],a,b,_,h=>by simp [zfz] at h; simp; omega
 | x::xs,a,b,hl,h=>by
  rw [zfz] at h
  split at h
  ·rename_i hc
   have h1:=yhn (fun y hy=>hl y (by simp [hy])) h
   have h2:=hl x (by simp)
   have e:R*((x::xs).length:Int)=R*xs.length+R:=by
    simp only [List.length_cons]; push_cast; rw [Int.mul_add,Int.mul_one]
   rw [e]
   have e2:(adi a x).1=a+x:=by
    unfold adi at hc ⊢
    split at hc
    ·rename_i hd; rw [if_pos hd]
    ·cases hc
   rw [e2] at h1
   unfold inR at h2
   omega
  ·cases h
theorem yzt {t:Ta} (h:zbh t=true):inR 2147483647 (zbs t.lb).1:=by
 obtain ⟨t1,t2,t3,t4,t5,t6⟩:=zhf h
 unfold zbs
 cases e:zfz 0 t.lb with
 | none=>exact zg3 (by omega)
 | some b =>
  have:=yhn (z4r h) e
  simp only
  unfold fdv
  split
  ·exact zg3 (by omega)
  ·exact z69 (by omega) (by omega) (by omega)
theorem StI.new {t:Ta} (h:zbh t=true):StI t 0 (zfm t).1:=by
 have hb:=yzt h
 unfold zfm
 rw [if_pos h]
 refine ⟨by simp,rfl,fun i y p h1 h2 => ?_⟩
 simp only at h2
 have hy:=z4r h y (List.mem_of_getElem? h1)
 have hp:p=(zbs t.lb).1:=by
  have:=List.mem_of_getElem? h2
  exact (List.mem_replicate.mp this).2
 subst hp
 unfold inR at *
 omega
theorem y8d {t:Ta} {n:Nat} {s:Sta} (H:StI t n s) (hn:n≤8):(zdq t.lb s.sm).2=true∧(zdq t.lb s.sm).1.length=t.lb.length∧∀ x∈(zdq t.lb s.sm).1,inR (4294967296*2 ^ n) x:=by
 have hp:(2:Int) ^ n≤256:=by
  have h1:=Nat.pow_le_pow_right (n:=2) (by omega) hn
  have h2:(2:Int) ^ n=((2 ^ n:Nat):Int):=by push_cast; rfl
  omega
 have key : ∀ (l m:List Int),l.length=m.length→(∀ (i:Nat) (y p:Int),l[i]?=some y→m[i]?=some p→inR (4294967296*2 ^ n) (y-p))→∃ r,res l m=some r∧r.length=l.length∧∀ x∈r,inR (4294967296*2 ^ n) x:=by
  intro l
  induction l with
  | nil=>intro m hl _; exact ⟨[],yf6 m,rfl,by simp⟩
  | cons y l ih =>
   intro m hl hr
   cases m with
   | nil=>simp at hl
   | cons p m =>
    obtain ⟨r,h1,h2,h3⟩:=ih m (by simpa using hl) (fun i y p e1 e2=>hr (i+1) y p (by simpa using e1) (by simpa using e2))
    have h0:=hr 0 y p rfl rfl
    have hs:sbi y p=(y-p,true):=by
     unfold sbi
     rw [if_pos]
     unfold inR at h0
     omega
    refine ⟨(y-p)::r,by rw [res,hs]; simp [h1],by simp [h2],fun x hx => ?_⟩
    rcases List.mem_cons.mp hx with rfl | hx
    ·exact h0
    ·exact h3 x hx
 obtain ⟨r,h1,h2,h3⟩:=key t.lb s.sm H.l.symm H.r
 unfold zdq
 rw [if_pos H.l.symm,h1]
 exact ⟨rfl,h2,h3⟩
end Go.Pe
