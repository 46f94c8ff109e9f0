/- What each function answers by the evaluator,and the law; for each answer its own conditions stand ahead of it. -/
import Derived.Test.YtadpenaldhkjcaaGreatC1
import Derived.Test.YtadpenaldhkjcaaGreatEvB2
import Derived.IntWalk
set_option linter.all false
namespace Go.Pe
open Go
theorem yx9 (c v:List (List Int)) (g:List Int) (cfg:Cfg):LnN 9223372036854775807 (zep c v g cfg).1∧szN (zep c v g cfg).1≤30:=by
 unfold zep
 split
 ·rename_i h
  refine ⟨z6i _ _,?_⟩
  have h1:=z69 (c:=c) (v:=v) (g:=g) (cfg:=cfg) cfg.de.toNat (zbl g)
  have h2:=yju (zhi h).2.1
  have h3:2 ^ (cfg.de.toNat+1)≤2 ^ 5:=Nat.pow_le_pow_right (by omega) (by omega)
  simp only
  omega
 ·exact ⟨.mk (by simp) (by simp),by simp [szN,szK]⟩
theorem ykl {c v:List (List Int)} {g:List Int} {cfg:Cfg} (h:GH c v g cfg):zjs g.length cfg.de (zbl g)∧zc3 (zbl g).b=true∧(cfg.de-(zbl g).l).toNat=cfg.de.toNat:=by
 have hl:=h.la
 refine ⟨⟨fun r hr => ?_,by simp [zbl],by simp [zbl],by simp only [zbl]; omega⟩,?_,by simp [zbl]⟩
 ·simp only [zbl,List.mem_map,List.mem_range] at hr
  obtain ⟨i,hi,rfl⟩:=hr
  omega
 ·simp only [zbl]; decide
theorem yvn (q:Bool) (c v:List (List Int)) (g:List Int) (cfg:Cfg) (hc : ∀ l∈c,l.length≤1048576) (hv : ∀ l∈v,l.length≤1048576) (hg:g.length≤1048576) (hs:cfg.sg.length≤1048576):RUN T zo1 [.agg [.sl 1 (rws q c),.sl 1 (rws q v)],.sl 1 (zac g),cfS cfg]=some ([.agg (snC true (zep c v g cfg).1),bv (zep c v g cfg).2],[]):=by
 have e1:=z3z q c v g cfg (fun l hl=>Nat.le_trans (hc l hl) (by omega)) (fun l hl=>Nat.le_trans (hv l hl) (by omega)) (by omega) (by omega)
 simp only [zf4] at e1
 cases ht:zd7 c v g cfg with
 | false =>
  rw [ht] at e1
  have hR:zep c v g cfg=(.mk 0 0 0 [],false):=by unfold zep; rw [ht]; rfl
  rw [hR]
  simp only [snC,snL,zgi,if_true]
  refine zag z3r rfl ?_
  simp [-getElem?_pos,zsu,zsv,e1]
 | true =>
  rw [ht] at e1
  have H:GH c v g cfg:=⟨ht,hs⟩
  have hR:zep c v g cfg=(zds c v g cfg cfg.de.toNat (zbl g),true):=by unfold zep; rw [if_pos ht]
  rw [hR]
  obtain ⟨r1,r2,r3⟩:=ykl H
  obtain ⟨t1,t2,t3,t4⟩:=zhi ht
  obtain ⟨t5,t6⟩:=z1s t1
  have e2:=yvm q H _ (zbl g) r1 r2 r3
  have e3:=ycz (zcl v) t5 t6
  have e4:=ycy
  have e5:=z1l q c v
  have hroot:(zbl g).r=upl (zcl v):=by rw [← t3]; rfl
  have hul:(upl (zcl v)).length=zcl v:=by simp [upl]
  simp only [zu6,hroot,bnd,cfS] at e2 e4
  generalize zds c v g cfg cfg.de.toNat (zbl g)=S at *
  obtain ⟨sf,sc,sv,sk⟩:=S
  generalize upl (zcl v)=U at *
  simp only [snC,zgi,if_true,zbl] at e2 ⊢
  refine zag z3r rfl ?_
  simp [-getElem?_pos,zsu,zsv,e1,e2,e3,e4,e5,hul]
mutual
def snE:SN→SN→Bool
 | .mk f c v ks,.mk f' c' v' ks'=>decide (f=f') && (decide (c=c') && (decide (v=v') && zfv ks ks'))
def zfv:List SN→List SN→Bool
 | [],[]=>true
 | a::as,b::bs=>snE a b && zfv as bs
 | _,_=>false
end
theorem yel : ∀ {as bs:List SN},zfv as bs=true→as.length=bs.length
 | [],[],_=>rfl
 | a::as,b::bs,h=>by simp only [zfv,Bool.and_eq_true] at h; simp [yel h.2]
 | [],b::bs,h=>by simp [zfv] at h
 | a::as,[],h=>by simp [zfv] at h
theorem yd1 : ∀ {as bs:List SN},as.length=bs.length→(∀ (i:Nat) (a b:SN),as[i]?=some a→bs[i]?=some b→snE a b=true)→zfv as bs=true
 | [],[],_,_=>rfl
 | a::as,b::bs,h,k=>by
  simp only [zfv,Bool.and_eq_true]
  exact ⟨k 0 a b rfl rfl,yd1 (by simpa using h) fun i x y hx hy=>k (i+1) x y (by simpa using hx) (by simpa using hy)⟩
 | [],b::bs,h,_=>by simp at h
 | a::as,[],h,_=>by simp at h
theorem yh7 : ∀ {as bs:List SN} {i:Nat} {a b:SN},as[i]?=some a→bs[i]?=some b→snE a b=false→zfv as bs=false
 | [],_,i,_,_,h,_,_=>by simp at h
 | _::_,[],i,_,_,_,h,_=>by simp at h
 | x::as,y::bs,0,a,b,h1,h2,h=>by
  simp at h1 h2; subst h1 h2
  simp [zfv,h]
 | x::as,y::bs,i+1,a,b,h1,h2,h=>by
  simp only [zfv]
  rw [yh7 (by simpa using h1) (by simpa using h2) h,Bool.and_false]
theorem yxb {as bs:List SN} (h:as.length≠bs.length):zfv as bs=false:=by
 cases e:zfv as bs with
 | false=>rfl
 | true=>exact absurd (yel e) h
theorem ywi (p q:Bool) (ks ks':List SN) (hl:ks.length≤9223372036854775807) (h : ∀ a∈ks,∀ b∈ks',RUN T zik [.agg (snA p a),.agg (snA q b)]=some ([bv (snE a b)],[])):RUN T zpg [.sl 4 (snL p ks),.sl 4 (snL q ks'),.fn zik []]=some ([bv (zfv ks ks')],[]):=by
 by_cases c4:ks.length=ks'.length
 case neg =>
  have c4' : ¬ (ks.length:Int)=ks'.length:=by omega
  rw [yxb c4]
  refine zag z3u rfl ?_
  simp [-getElem?_pos,ztk,ztl,c4,c4']
 refine zag z3u rfl ?_
 simp [-getElem?_pos,ztk,ztl,c4]
 refine za4 (fun m st => ∃ i:Nat,i+m=ks.length∧st.V 1 = .sl 4 (snL q ks')∧st.V 2 = .fn zik []∧st.V 15 = .sl 4 (snL p ks)∧st.V 16=iv ks.length∧st.V 17=iv i∧∀ (j:Nat) (a b:SN),j<i→ks[j]?=some a→ks'[j]?=some b→snE a b=true) ?_ ks.length _ ⟨0,by omega,by simp,by simp,by simp,by simp [c4],by simp,fun j a b hj=>absurd hj (Nat.not_lt_zero _)⟩
 rintro m st ⟨i,hi,v1,v2,v15,v16,v17,hj⟩
 by_cases hlt:i<ks.length
 ·obtain ⟨a,ha⟩ : ∃ a,ks[i]?=some a:=⟨_,List.getElem?_eq_getElem hlt⟩
  obtain ⟨b,hb⟩ : ∃ b,ks'[i]?=some b:=⟨_,List.getElem?_eq_getElem (by omega)⟩
  have hlt':i<ks'.length:=by omega
  have hx1:=yew (q:=p) ha
  have hx2:=yew (q:=q) hb
  have hw:=wS hlt hl
  have e:=h a (List.mem_of_getElem? ha) b (List.mem_of_getElem? hb)
  have hno:=fun h=>yh7 ha hb h
  have hj':snE a b=true→∀ (j:Nat) (a b:SN),j<i+1→ks[j]?=some a→ks'[j]?=some b→snE a b=true:=fun h j a' b' h1 h2 h3=>by
   by_cases hji:j<i
   ·exact hj j a' b' hji h2 h3
   ·obtain rfl:j=i:=by omega
    rw [ha] at h2; rw [hb] at h3
    cases h2; cases h3
    exact h
  generalize snE a b=E at *
  obtain ⟨f1,c1,v1',k1⟩:=a
  obtain ⟨f2,c2,w2,k2⟩:=b
  simp only [snC] at hx1 hx2
  simp only [snA] at e
  cases E with
  | true =>
   simp [-getElem?_pos,zxp,v1,v2,v15,v16,v17,hlt,hlt',hx1,hx2,hw,e]
   exact zam (m-1) (by omega) ⟨i+1,by omega,by simp [v1],by simp [v2],by simp [v15],by simp [v16],by simp,hj' rfl⟩
  | false =>
   rw [hno rfl]
   simp [-getElem?_pos,zxp,v1,v2,v15,v16,v17,hlt,hlt',hx1,hx2,hw,e]
 ·rw [yd1 c4 (fun j a b h1 h2=>hj j a b (by have:=(List.getElem?_eq_some_iff.mp h1).1; omega) h1 h2)]
  simp [-getElem?_pos,zxp,v1,v2,v15,v16,v17,hlt]
theorem yga : ∀ (n:Nat) (a b:SN) (p q:Bool),szN a<n→LnN 9223372036854775807 a→LnN 9223372036854775807 b→RUN T zik [.agg (snA p a),.agg (snA q b)]=some ([bv (snE a b)],[])
 | 0,a,b,p,q,h,_,_=>by omega
 | n+1,.mk f c v ks,.mk f' c' v' ks',p,q,h,hL,hL'=>by
  have hz:szN (.mk f c v ks)=szK ks:=by simp [szN]
  cases hL with
  | mk hl ht =>
  cases hL' with
  | mk hl' ht' =>
  have e:=ywi p q ks ks' hl (fun a ha b hb=>yga n a b p q (by have:=ye0 ha; omega) (ht a ha) (ht' b hb))
  simp only [snE,snA]
  by_cases c1:f=f'
  case neg =>
   refine zag zue rfl ?_
   simp [-getElem?_pos,znb,znc,c1]
  by_cases c2:c=c'
  case neg =>
   refine zag zue rfl ?_
   simp [-getElem?_pos,znb,znc,c1,c2]
  by_cases c3:v=v'
  case neg =>
   refine zag zue rfl ?_
   simp [-getElem?_pos,znb,znc,c1,c2,c3]
  subst c1 c2 c3
  simp only [decide_true,Bool.true_and]
  refine zag zue rfl ?_
  simp [-getElem?_pos,znb,znc,e]
def zgy:Nat→List SN→Nat→List Nd→List Nd
 | 0,_,_,out=>out
 | n+1,q,i,out=>match q[i]? with
  | none=>out
  | some (.mk f c v ks)=>match ks with
   | a::b::_=>if 31<q.length+2 then [] else zgy n (q++[a,b]) (i+1) (out++[⟨f,c,q.length,q.length+1,v⟩])
   | _=>zgy n q (i+1) (out++[⟨-1,0,0,0,v⟩])
def zvf (s:SN):List Nd:=zgy 32 [s] 0 []
theorem yip {n:Nat} {q:List SN} {i:Nat} {out:List Nd} (h:q[i]?=none):zgy n q i out=out:=by
 cases n with
 | zero=>rfl
 | succ n=>rw [zgy,h]
theorem yfk {n:Nat} {q:List SN} {i:Nat} {out:List Nd} {f c v:Int} {ks:List SN} (h:q[i]?=some (.mk f c v ks)) (hk:ks.length<2):zgy (n+1) q i out=zgy n q (i+1) (out++[⟨-1,0,0,0,v⟩]):=by
 rw [zgy,h]
 match ks,hk with
 | [],_=>rfl
 | [a],_=>rfl
theorem yij {n:Nat} {q:List SN} {i:Nat} {out:List Nd} {f c v:Int} {a b:SN} {ks:List SN} (h:q[i]?=some (.mk f c v (a::b::ks))):zgy (n+1) q i out=if 31<q.length+2 then [] else zgy n (q++[a,b]) (i+1) (out++[⟨f,c,q.length,q.length+1,v⟩]):=by
 rw [zgy,h]
theorem fr2 {x n:Nat} (h:x<n) : ¬ x=n+1+2∧¬ x=n+2+1∧¬ x=n+2+2∧¬ n+1+2=x∧¬ n+2+1=x∧¬ n+2+2=x∧¬ n=x∧¬ n+1=x∧¬ n+2=x∧¬ x=n+2+2+1∧¬ x=n+2+3:=by omega
theorem NC.up {S S':Nat→Option Ob} {nx nx' oq oq':Nat} {m:List Nd} {x:PV} (h:NC S nx oq m x) (hn:nx≤nx') (ho:oq'=oq∨nx≤oq') (hS : ∀ p,5<p→p<nx→¬ p=oq→S' p=S p):NC S' nx' oq' m x:=by
 rcases h with h | ⟨p,e,h1,h2,h3,h4,h5⟩
 ·exact .inl h
 ·exact .inr ⟨p,e,h1,h2,by omega,by omega,by rw [hS p h2 h3 h4]; exact h5⟩
set_option maxHeartbeats 2000000 in
theorem yvo (q:Bool) (s:SN) (hL:LnN 9223372036854775807 s):RUN T zo2 [.agg (snA q s)]=some ([.agg [.own 5 ((zvf s).map nd)]],[]):=by
 obtain ⟨R,hR⟩ : ∃ R,R=zvf s:=⟨_,rfl⟩
 rw [← hR]
 unfold zvf at hR
 have hq1:(List.map (snA q) [s])=[snA q s]:=rfl
 have hr1:zak 48 1=true:=by decide
 have hr2:zak 48 2=true:=by decide
 have hr3:zak 40 1=true:=by decide
 obtain ⟨sf,sc,sv,sk⟩:=s
 simp only [snA] at hq1
 simp only [snA]
 refine zag z75 rfl ?_
 simp [-getElem?_pos,zv8,zv9,hr1]
 refine za4 (fun n st => ∃ (i o e:Nat) (Q:List SN) (out:List Nd) (x:PV),i+n=32∧Q.length≤31∧i≤Q.length∧out.length=i∧(∀ y∈Q,LnN 9223372036854775807 y)∧zgy n Q i out=R∧st.V 2 = .ptr 1 none 0 0 0∧st.V 3 = .ref o none e 0 Q.length∧st.V 4 = .ptr 3 none 0 0 0∧st.V 5=iv i∧1<o∧¬ o=3∧o<st.nx∧3<st.nx∧st.S 1=some (.box [.e0])∧st.S 3=some (.box [x])∧st.S o=some (.rowF 4 (Q.map (snA q)))∧NC st.S st.nx o out x) ?_ 32 _ ⟨0,2,0,[.mk sf sc sv sk],[],.e0,by omega,by simp,by simp,rfl,by simpa using hL,hR.symm,by simp,by simp,by simp,by simp,by omega,by omega,by simp,by simp,by simp,by simp,by simp [snA],.inl ⟨rfl,rfl⟩⟩
 rintro n st ⟨i,o,e,Q,out,x,hin,hQ,hiQ,hol,hLn,hfl,v2,v3,v4,v5,ho1,ho3,hox,h3x,S1,S3,So,hN⟩
 have q0:=fr (by omega:0<st.nx)
 have q1:=fr (by omega:1<st.nx)
 have q2:=fr (by omega:2<st.nx)
 have q3:=fr h3x
 have qo:=fr hox
 have o1 : ¬ o=1:=by omega
 have y1:=fr2 (by omega:1<st.nx)
 have y2:=fr2 (by omega:2<st.nx)
 have y3:=fr2 h3x
 have yo:=fr2 hox
 have n1 : ¬ st.nx=1:=by omega
 have n0 : ¬ st.nx=0:=by omega
 have n2 : ¬ st.nx=2:=by omega
 have n3 : ¬ st.nx=3:=by omega
 have m1 : ¬ st.nx+1=3:=by omega
 have m2 : ¬ st.nx+2=3:=by omega
 have o1' : ¬ 1=o:=by omega
 have o3' : ¬ 3=o:=fun h=>ho3 h.symm
 by_cases hlt:i<Q.length
 ·obtain ⟨y,hy⟩ : ∃ y,Q[i]?=some y:=⟨_,List.getElem?_eq_getElem hlt⟩
  obtain ⟨m,rfl⟩ : ∃ m,n=m+1:=⟨n-1,by omega⟩
  have hy':(Q.map (snA q))[i]?=some (snA q y):=by simp [hy]
  have hw:=wS hlt (by omega:Q.length≤9223372036854775807)
  have hLy:=hLn y (List.mem_of_getElem? hy)
  obtain ⟨f,c,v,ks⟩:=y
  simp only [snA] at hy'
  have z1:zak 40 (out.length+1)=true:=by simp [zak]; omega
  by_cases hk:ks.length<2
  ·have hk':(ks.length:Int)<2:=by omega
   rw [yfk hy hk] at hfl
   have hsn:out.map nd++[[iv (-1),iv 0,iv 0,iv 0,iv v]]=(out++[(⟨-1,0,0,0,v⟩:Nd)]).map nd:=by simp [nd]
   rcases hN with ⟨rfl,rfl⟩ | ⟨p,e',rfl,hp5,hpx,hpo,hSp⟩
   ·simp [-getElem?_pos,zjf,v2,v3,v4,v5,S1,S3,So,hlt,hy',hw,q0,q1,q2,q3,n1,n2,n3,m1,m2,qo,o1,o1',o3',ho3,hk,hk',hr3]
    exact zam m (by omega) ⟨i+1,o,e,Q,[⟨-1,0,0,0,v⟩],.ref (st.nx+2) none st.ep 0 1,by omega,hQ,by omega,by simp at hol ⊢; omega,hLn,by simpa using hfl,by simp [v2],by simp [v3],by simp [v4],by simp,ho1,ho3,by simp; omega,by simp; omega,by simp [S1,q0,q1,q2,q3,n1,n2,n3,m1,m2,o1'],by simp,by simp [So,qo,ho3,n1,n2,n3],(.inr ⟨st.nx+2,st.ep,by simp,by omega,by simp,by omega,by simp [nd,n1,n2,n3]⟩)⟩
   ·have yp:=fr2 hpx
    have hpx':=fr hpx
    have hp5':=fr hp5
    have hp3 : ¬ p=3:=by omega
    have hp3' : ¬ 3=p:=by omega
    have hp1 : ¬ p=1:=by omega
    have hp1' : ¬ 1=p:=by omega
    have hpo' : ¬ o=p:=fun h=>hpo h.symm
    simp [-getElem?_pos,zjf,v2,v3,v4,v5,S1,S3,So,hlt,hy',hw,q0,q1,q2,q3,n1,n2,n3,m1,m2,qo,o1,o1',o3',ho3,hk,hk',hr3,z1,hsn,hSp,hp5',hp3,hp3',hpx',hpo,hpo',hp1,hp1']
    exact zam m (by omega) ⟨i+1,o,e,Q,(out++[⟨-1,0,0,0,v⟩]),.ref (st.nx+2) none st.ep 0 (out.length+1),by omega,hQ,by omega,by simp at hol ⊢; omega,hLn,by simpa using hfl,by simp [v2],by simp [v3],by simp [v4],by simp,ho1,ho3,by simp; omega,by simp; omega,by simp [S1,q0,q1,q2,q3,n1,n2,n3,m1,m2,o1',hp1'],by simp,by simp [So,qo,ho3,hpo',n1,n2,n3],(.inr ⟨st.nx+2,st.ep,by simp,by omega,by simp,by omega,by simp [n1,n2,n3]⟩)⟩
  ·have hk' : ¬ (ks.length:Int)<2:=by omega
   obtain ⟨a,b,r,rfl⟩ : ∃ a b r,ks=a::b::r:=by
    match ks,hk with
    | a::b::r,_=>exact ⟨a,b,r,rfl⟩
    | [],h=>exact absurd (by simp) h
    | [a],h=>exact absurd (by simp) h
   have hLab:LnN 9223372036854775807 a∧LnN 9223372036854775807 b:=by
    cases hLy with
    | mk _ ht=>exact ⟨ht a (by simp),ht b (by simp)⟩
   rw [yij hy] at hfl
   have ha0:(snL q (a::b::r))[0]?=some (snC q a):=by simp [snL]
   have hb0:(snL q (a::b::r))[1]?=some (snC q b):=by simp [snL]
   have hkl:(snL q (a::b::r)).length=r.length+2:=by simp
   have hz2:zak 48 (Q.length+2)=true:=by simp [zak]; omega
   have hQs:Q.map (snA q)++[snA q a,snA q b]=(Q++[a,b]).map (snA q):=by simp
   have hln2 : ∀ y∈Q++[a,b],LnN 9223372036854775807 y:=fun y hy=>by
    rcases List.mem_append.mp hy with h | h
    ·exact hLn y h
    ·simp only [List.mem_cons,List.not_mem_nil,or_false] at h
     rcases h with rfl | rfl
     ·exact hLab.1
     ·exact hLab.2
   have wq:=w64 (x:=(Q.length:Int)+1) (by omega) (by omega)
   have hsn:out.map nd++[[iv f,iv c,iv Q.length,iv (Q.length+1),iv v]]=(out++[(⟨f,c,Q.length,Q.length+1,v⟩:Nd)]).map nd:=by simp [nd]
   generalize snL q (a::b::r)=K at *
   obtain ⟨a1,a2,a3,a4⟩:=a
   obtain ⟨b1,b2,b3,b4⟩:=b
   simp only [snC] at ha0 hb0
   simp only [snA] at hQs
   have hK0:0<K.length:=by omega
   have hK1:1<K.length:=by omega
   have hKn : ¬ (K.length:Int)<2:=by omega
   by_cases h31:31<Q.length+2
   ·have h31':(31:Int)<Q.length+2:=by omega
    rw [if_pos h31] at hfl
    subst hfl
    rcases hN with ⟨rfl,rfl⟩ | ⟨p,e',rfl,hp5,hpx,hpo,hSp⟩
    ·simp [-getElem?_pos,zjf,v2,v3,v4,v5,S1,S3,So,hlt,hy',hw,q0,q1,q2,q3,n1,n2,n3,m1,m2,y1,y2,y3,yo,qo,o1,o1',o3',ho3,ha0,hb0,hK0,hK1,hKn,hr2,hr3,hz2,hQs,wq,h31,h31']
    ·have yp:=fr2 hpx
     have hpx':=fr hpx
     have hp5':=fr hp5
     have hp3 : ¬ p=3:=by omega
     have hp3' : ¬ 3=p:=by omega
     have hp1 : ¬ p=1:=by omega
     have hp1' : ¬ 1=p:=by omega
     have hpo' : ¬ o=p:=fun h=>hpo h.symm
     simp [-getElem?_pos,zjf,v2,v3,v4,v5,S1,S3,So,hlt,hy',hw,q0,q1,q2,q3,n1,n2,n3,m1,m2,y1,y2,y3,yo,qo,o1,o1',o3',ho3,ha0,hb0,hK0,hK1,hKn,hr2,hr3,hz2,hQs,wq,h31,h31',z1,hsn,hSp,hp5',hp3,hp3',hpx',hpo,hpo',hp1,hp1',yp]
   ·rw [if_neg h31] at hfl
    have h31' : ¬ (31:Int)<Q.length+2:=by omega
    rcases hN with ⟨rfl,rfl⟩ | ⟨p,e',rfl,hp5,hpx,hpo,hSp⟩
    ·simp [-getElem?_pos,zjf,v2,v3,v4,v5,S1,S3,So,hlt,hy',hw,q0,q1,q2,q3,n1,n2,n3,m1,m2,y1,y2,y3,yo,qo,o1,o1',o3',ho3,ha0,hb0,hK0,hK1,hKn,hr2,hr3,hz2,hQs,wq,h31,h31']
     exact zam m (by omega) ⟨i+1,st.nx+2+2,st.ep,Q++[.mk a1 a2 a3 a4,.mk b1 b2 b3 b4],[⟨f,c,Q.length,Q.length+1,v⟩],.ref (st.nx+2) none st.ep 0 1,by omega,by simp; omega,by simp; omega,by simp at hol ⊢; omega,hln2,by simpa using hfl,by simp [v2],by simp,by simp [v4],by simp,by omega,by omega,by simp,by simp <;> omega,by simp [S1,n0,q0,q1,q2,q3,n1,n2,n3,m1,m2,y1,o1'],by simp [n0,y1,y2,y3,ho3,o3'],by simp,(.inr ⟨st.nx+2,st.ep,by simp,by omega,by simp,by omega,by simp [nd,n0,n1,n2,n3,m1,m2,yo]⟩)⟩
    ·have yp:=fr2 hpx
     have hpx':=fr hpx
     have hp5':=fr hp5
     have hp3 : ¬ p=3:=by omega
     have hp3' : ¬ 3=p:=by omega
     have hp1 : ¬ p=1:=by omega
     have hp1' : ¬ 1=p:=by omega
     have hpo' : ¬ o=p:=fun h=>hpo h.symm
     simp [-getElem?_pos,zjf,v2,v3,v4,v5,S1,S3,So,hlt,hy',hw,q0,q1,q2,q3,n1,n2,n3,m1,m2,y1,y2,y3,yo,qo,o1,o1',o3',ho3,ha0,hb0,hK0,hK1,hKn,hr2,hr3,hz2,hQs,wq,h31,h31',z1,hsn,hSp,hp5',hp3,hp3',hpx',hpo,hpo',hp1,hp1',yp]
     exact zam m (by omega) ⟨i+1,st.nx+2+2,st.ep,Q++[.mk a1 a2 a3 a4,.mk b1 b2 b3 b4],(out++[⟨f,c,Q.length,Q.length+1,v⟩]),.ref (st.nx+2) none st.ep 0 (out.length+1),by omega,by simp; omega,by simp; omega,by simp [hol],hln2,by simpa using hfl,by simp [v2],by simp,by simp [v4],by simp,by omega,by omega,by simp,by simp <;> omega,by simp [S1,n0,q0,q1,q2,q3,n1,n2,n3,m1,m2,y1,o1',hp1',hp3,yp],by simp [n0,y1,y2,y3,ho3,o3',hp1',hp3,yp],by simp,(.inr ⟨st.nx+2,st.ep,by simp,by omega,by simp,by omega,by simp [nd,n0,n1,n2,n3,m1,m2,yo,hp1',hp3,yp]⟩)⟩
 ·have hie:i=Q.length:=by omega
  have hnone:Q[i]?=none:=List.getElem?_eq_none (by omega)
  rw [yip hnone] at hfl
  subst hfl
  rcases hN with ⟨rfl,rfl⟩ | ⟨p,e',rfl,hp5,hpx,hpo,hSp⟩
  ·simp [-getElem?_pos,zjf,v2,v3,v4,v5,S1,S3,So,hlt]
  ·have hp3 : ¬ p=3:=by omega
   have hp1 : ¬ p=1:=by omega
   simp [-getElem?_pos,zjf,v2,v3,v4,v5,S1,S3,So,hlt,hSp,hp3,hp1]
theorem yfh {b g:List Int} (hg : ∀ x∈g,-2199023255552≤x∧x≤2199023255552) : ∀ (rows:List Int) (h:List Sl) (m:Int),(∀ s∈h,smS m s)→0≤m→m+rows.length≤1048575→(∀ r∈rows,∃ (x:Nat) (y:Int),atI b r=some (x:Int)∧x<h.length∧atI g r=some y)→∃ h',zb3 b g rows h=some h'∧h'.length=h.length
 | [],h,m,_,_,_,_=>⟨h,rfl,rfl⟩
 | r::rs,h,m,hs,h0,hm,hv=>by
  obtain ⟨x,y,e1,e2,e3⟩:=hv r (by simp)
  obtain ⟨s,e4⟩ : ∃ s,h[x]?=some s:=⟨_,List.getElem?_eq_getElem e2⟩
  have e5:atI h (x:Int)=some s:=by unfold atI; simp [e4]
  have hy : -2199023255552≤y∧y≤2199023255552:=by
   obtain ⟨j,_,k2,_⟩:=ze0 e3
   exact hg y (List.mem_of_getElem? k2)
  simp only [List.length_cons] at hm
  obtain ⟨p1,_,p3⟩:=z25 (a:=s) (b:=⟨1,y⟩) (hs s (List.mem_of_getElem? e4)) (k:=1) (by unfold smS; simp only; omega) (by omega)
  unfold zb3
  simp only [e1,e3,e5,p1,if_true,Int.toNat_natCast]
  obtain ⟨h',q1,q2⟩:=yfh hg rs (h.set x ⟨s.n+1,s.g+y⟩) (m+1) (fun t ht=>by
   rcases List.mem_or_eq_of_mem_set ht with h | h
   ·exact yc2 (hs t h) (by omega)
   ·rw [h]; exact p3) (by omega) (by omega) (fun r' hr'=>by
   obtain ⟨x',y',f1,f2,f3⟩:=hv r' (by simp [hr'])
   exact ⟨x',y',f1,by simpa using f2,f3⟩)
  exact ⟨h',q1,by simpa using q2⟩
theorem yfl {R:Int} (h0:0≤R) : ∀ (h:List Sl) (s:Sl) (m:Int),smS m s→(∀ t∈h,smS R t)→m+R*h.length≤1048576→∃ l,zc4 s h=some l∧l.length=h.length
 | [],s,m,_,_,_=>⟨[],rfl,rfl⟩
 | y::ys,s,m,hs,ht,hm=>by
  have e:R*((y::ys).length:Int)=R+R*(ys.length:Int):=by simp [Int.mul_add]; omega
  have e2:0≤R*(ys.length:Int):=Int.mul_nonneg h0 (by omega)
  rw [e] at hm
  obtain ⟨p1,_,p3⟩:=z25 hs (ht y (by simp)) (by omega)
  obtain ⟨l,q1,q2⟩:=yfl h0 ys ⟨s.n+y.n,s.g+y.g⟩ (m+R) p3 (fun t h=>ht t (by simp [h])) (by omega)
  refine ⟨⟨s.n+y.n,s.g+y.g⟩::l,?_,by simp [q2]⟩
  unfold zc4
  simp only [p1,if_true,q1,Option.map_some]
structure PH (C:Nat→Cnd) (f:Nat) (h:List Sl):Prop where
 ok:(zcf h).2=true
 ln:(zcf h).1.length=h.length
 at_ : ∀ b:Nat,b<h.length→(zcf h).1[b]?=some (C b).a∧zex (zgh (zcf h).1) (C b).a=((C b).z,true)
 fb : ∀ b:Nat,(C b).f=f∧(C b).b=b
theorem yj3 {f:Nat} {C:Nat→Cnd} {h:List Sl} {least:Int} (H:PH C f h) : ∀ (k i:Nat) (acc:List Cnd),i+k=h.length→∃ a,zfh f (zgh (zcf h).1) least i ((zcf h).1.drop i) acc=some a∧∀ x,x∈a↔x∈acc∨∃ b,i≤b∧b+1<h.length∧x=C b∧least≤(C b).a.n∧least≤(C b).z.n
 | 0,i,acc,hk=>by
  refine ⟨acc,zr2 acc (by rw [H.ln]; omega),fun x=>⟨.inl,fun h => ?_⟩⟩
  rcases h with h | ⟨b,h1,h2,_⟩
  ·exact h
  ·omega
 | k+1,i,acc,hk=>by
  by_cases hi:i+1<h.length
  ·obtain ⟨e1,e2⟩:=H.at_ i (by omega)
   obtain ⟨e3,e4⟩:=H.fb i
   rw [z23 acc e1 (by rw [H.ln]; exact hi),e2]
   simp only [if_true]
   have hC:(⟨(f:Int),(i:Int),(C i).a,(C i).z⟩:Cnd)=C i:=by
    generalize C i=c at *
    obtain ⟨cf,cb,ca,cz⟩:=c
    simp only at e3 e4
    rw [e3,e4]
   rw [hC]
   obtain ⟨a,a1,a2⟩:=yj3 H k (i+1) (if least≤(C i).a.n∧least≤(C i).z.n then acc++[C i] else acc) (by omega)
   refine ⟨a,a1,fun x => ?_⟩
   rw [a2 x]
   by_cases hl:least≤(C i).a.n∧least≤(C i).z.n
   ·rw [if_pos hl]
    constructor
    ·rintro (h | ⟨b,h1,h2⟩)
     ·rcases List.mem_append.mp h with h | h
      ·exact .inl h
      ·simp only [List.mem_singleton] at h
       exact .inr ⟨i,Nat.le_refl _,hi,h,hl⟩
     ·exact .inr ⟨b,by omega,h2⟩
    ·rintro (h | ⟨b,h1,h2,h3,h4⟩)
     ·exact .inl (List.mem_append_left _ h)
     ·by_cases hb:b=i
      ·subst hb
       exact .inl (List.mem_append_right _ (by simp [h3]))
      ·exact .inr ⟨b,by omega,h2,h3,h4⟩
   ·rw [if_neg hl]
    constructor
    ·rintro (h | ⟨b,h1,h2⟩)
     ·exact .inl h
     ·exact .inr ⟨b,by omega,h2⟩
    ·rintro (h | ⟨b,h1,h2,h3,h4⟩)
     ·exact .inl h
     ·by_cases hb:b=i
      ·subst hb; exact absurd h4 hl
      ·exact .inr ⟨b,by omega,h2,h3,h4⟩
  ·refine ⟨acc,zr2 acc (by rw [H.ln]; exact hi),fun x=>⟨.inl,fun h => ?_⟩⟩
   rcases h with h | ⟨b,h1,h2,_⟩
   ·exact h
   ·omega
theorem yen {C:Nat→Nat→Cnd} {Hs:List (List Sl)} {least:Int} (H : ∀ (f:Nat) (h:List Sl),Hs[f]?=some h→PH (C f) f h) : ∀ (k i:Nat) (acc:List Cnd),i+k=Hs.length→∃ a,zed least i (Hs.drop i) acc=some a∧∀ x,x∈a↔x∈acc∨∃ f b h,i≤f∧Hs[f]?=some h∧b+1<h.length∧x=C f b∧least≤(C f b).a.n∧least≤(C f b).z.n
 | 0,i,acc,hk=>by
  rw [List.drop_eq_nil_of_le (by omega),zed]
  refine ⟨acc,rfl,fun x=>⟨.inl,fun h => ?_⟩⟩
  rcases h with h | ⟨f,b,h,h1,h2,_⟩
  ·exact h
  ·have:=(List.getElem?_eq_some_iff.mp h2).1
   omega
 | k+1,i,acc,hk=>by
  obtain ⟨h,hx⟩ : ∃ h,Hs[i]?=some h:=⟨_,List.getElem?_eq_getElem (by omega)⟩
  have P:=H i h hx
  rw [z15 acc hx,P.ok]
  simp only [if_true]
  obtain ⟨a,a1,a2⟩:=yj3 (least:=least) P h.length 0 acc (by omega)
  have a1':zfh (i:Int) (zgh (zcf h).1) least 0 (zcf h).1 acc=some a:=by simpa using a1
  rw [a1']
  simp only
  obtain ⟨a',b1,b2⟩:=yen H k (i+1) a (by omega)
  refine ⟨a',b1,fun x => ?_⟩
  rw [b2 x,a2 x]
  constructor
  ·rintro ((h' | ⟨b,_,h2,h3⟩) | ⟨f,b,h',h1,h2⟩)
   ·exact .inl h'
   ·exact .inr ⟨i,b,h,Nat.le_refl _,hx,h2,h3⟩
   ·exact .inr ⟨f,b,h',by omega,h2⟩
  ·rintro (h' | ⟨f,b,h',h1,h2,h3,h4⟩)
   ·exact .inl (.inl h')
   ·by_cases hf:f=i
    ·subst hf
     rw [hx] at h2; cases h2
     exact .inl (.inr ⟨b,by omega,h3,h4⟩)
    ·exact .inr ⟨f,b,h',by omega,h2,h3,h4⟩
theorem yzx {C:Nat→Nat→Cnd} {Hs:List (List Sl)} {least:Int} (H : ∀ (f:Nat) (h:List Sl),Hs[f]?=some h→PH (C f) f h) (x:Cnd):x∈zer Hs least↔∃ f b h,Hs[f]?=some h∧b+1<h.length∧x=C f b∧least≤(C f b).a.n∧least≤(C f b).z.n:=by
 obtain ⟨a,a1,a2⟩:=yen (least:=least) H Hs.length 0 [] (by omega)
 have a1':zed least 0 Hs []=some a:=by simpa using a1
 unfold zer
 rw [a1',Option.getD_some,a2 x]
 constructor
 ·rintro (h | ⟨f,b,h,_,h2⟩)
  ·cases h
  ·exact ⟨f,b,h,h2⟩
 ·rintro ⟨f,b,h,h2⟩
  exact .inr ⟨f,b,h,Nat.zero_le _,h2⟩
theorem GH.val {c v:List (List Int)} {g:List Int} {cfg:Cfg} (h:GH c v g cfg) {f:Nat} {a y:List Int} (ha:c[f]?=some a) (hy:v[f]?=some y):y.length=g.length∧a.length≤7∧∀ x∈y,0≤x∧x≤a.length:=by
 obtain ⟨h1,_,h3,_⟩:=zhi h.tk
 obtain ⟨a',y',e1,e2,e3,e4,e5⟩:=ykp h1 (List.getElem?_eq_some_iff.mp ha).1
 rw [ha] at e1; rw [hy] at e2
 cases e1; cases e2
 exact ⟨by omega,e4,e5⟩
theorem z14 {c v:List (List Int)} {g rows:List Int} {cfg:Cfg} (H:GH c v g cfg) (hr : ∀ r∈rows,0≤r∧r<g.length) (hl:rows.length≤40) {f:Nat} {a y:List Int} (ha:c[f]?=some a) (hy:v[f]?=some y):(zb8 y g rows (a.length+1)).2=true∧(zb8 y g rows (a.length+1)).1.length=a.length+1∧PH (za8 v g rows f) f (zb8 y g rows (a.length+1)).1:=by
 obtain ⟨v1,v2,v3⟩:=H.val ha hy
 have hyd:v.getD f []=y:=by simp [hy]
 have hval : ∀ r∈rows,∃ z,atI y r=some z:=fun r hr'=>by
  obtain ⟨r0,r1⟩:=hr r hr'
  obtain ⟨rn,rfl⟩ : ∃ rn:Nat,r=rn:=⟨r.toNat,by omega⟩
  exact ⟨y[rn]'(by omega),zhx (List.getElem?_eq_getElem (by omega))⟩
 have hval2 : ∀ r∈rows,∃ (x:Nat) (z:Int),atI y r=some (x:Int)∧x<(List.replicate (a.length+1) (⟨0,0⟩:Sl)).length∧atI g r=some z:=fun r hr'=>by
  obtain ⟨r0,r1⟩:=hr r hr'
  obtain ⟨rn,rfl⟩ : ∃ rn:Nat,r=rn:=⟨r.toNat,by omega⟩
  obtain ⟨x,hx⟩ : ∃ x,y[rn]?=some x:=⟨_,List.getElem?_eq_getElem (by omega)⟩
  obtain ⟨x0,x1⟩:=v3 x (List.mem_of_getElem? hx)
  obtain ⟨xn,rfl⟩ : ∃ xn:Nat,x=xn:=⟨x.toNat,by omega⟩
  obtain ⟨z,hz⟩ : ∃ z,g[rn]?=some z:=⟨_,List.getElem?_eq_getElem (by omega)⟩
  exact ⟨xn,z,zhx hx,by simp; omega,zhx hz⟩
 have hz : ∀ s∈List.replicate (a.length+1) (⟨0,0⟩:Sl),smS 0 s:=fun s hs=>by
  rw [List.eq_of_mem_replicate hs]
  unfold smS; simp
 obtain ⟨h,h1,h2⟩:=yfh H.gb rows (List.replicate (a.length+1) ⟨0,0⟩) 0 hz (by omega) (by omega) hval2
 have hsm:=(ykm (b:=y) H.gb rows (List.replicate (a.length+1) ⟨0,0⟩) 0 hz (by omega) (by omega)).2 h h1
 rw [List.length_replicate] at h2
 have hR:zb8 y g rows (a.length+1)=(h,true):=by
  unfold zb8
  rw [if_pos (zax.mpr (by omega))]
  have:((a.length:Int)+1).toNat=a.length+1:=by omega
  rw [this,h1]
 rw [hR]
 have hsm' : ∀ t∈h,smS 40 t:=fun t ht=>yc2 (hsm t ht) (by omega)
 obtain ⟨l,p1,p2⟩:=yfl (R:=40) (by omega) h ⟨0,0⟩ 0 (by unfold smS; simp) hsm' (by omega)
 have hP:zcf h=(l,true):=by unfold zcf; rw [p1]
 have hat : ∀ b:Nat,b<h.length→l[b]?=some (zat g (zaz y rows b)):=fun b hb=>by
  obtain ⟨x,hx⟩ : ∃ x,l[b]?=some x:=⟨_,List.getElem?_eq_getElem (by omega)⟩
  obtain ⟨q1,q2⟩:=yec h _ _ p1 b x hx
  obtain ⟨t1,t2⟩:=yha rows _ _ h1 b
  rw [List.take_replicate] at t1 t2
  obtain ⟨z1,z2⟩:=yc1 (min (b+1) (a.length+1))
  rw [z1] at t1
  rw [z2] at t2
  rw [hx]
  obtain ⟨xn,xg⟩:=x
  simp only at q1 q2
  unfold zat
  have g1 : ∀ r:List Int,(r.map fun r=>(atI g r).getD 0).sum=zf0 g r:=fun r=>rfl
  rw [g1]
  simp only [Option.some.injEq,Sl.mk.injEq]
  omega
 have hlast:zgh l=zat g rows:=by
  obtain ⟨q1,q2⟩:=yc7 h _ _ p1
  obtain ⟨t1,t2⟩:=yfa rows _ _ h1
  obtain ⟨z1,z2⟩:=yc1 (a.length+1)
  rw [z1] at t1
  rw [z2] at t2
  unfold zgh
  generalize l.getLast?.getD ⟨0,0⟩=x at *
  obtain ⟨xn,xg⟩:=x
  simp only at q1 q2
  unfold zat
  have g1 : ∀ r:List Int,(r.map fun r=>(atI g r).getD 0).sum=zf0 g r:=fun r=>rfl
  rw [g1]
  simp only [Sl.mk.injEq]
  omega
 refine ⟨rfl,h2,⟨by rw [hP],by rw [hP]; exact p2,fun b hb => ?_,fun b=>⟨rfl,rfl⟩⟩⟩
 simp only [hP,hlast,za8,hyd]
 refine ⟨hat b hb,?_⟩
 have gA:=zjx (rows:=zaz y rows b) H.gb (Nat.le_trans (List.length_filter_le _ _) hl)
 have gW:=zjx (rows:=rows) H.gb hl
 rw [(y0b (z2e gW) (z2e gA) (by omega)).1]
 obtain ⟨a1,a2⟩:=z48 (g:=g) (b:=(b:Int)) rows hval
 unfold zat
 have g1 : ∀ r:List Int,(r.map fun r=>(atI g r).getD 0).sum=zf0 g r:=fun r=>rfl
 rw [g1,g1,g1]
 simp only [Prod.mk.injEq,Sl.mk.injEq,and_true]
 omega
theorem yir {g rows:List Int} : ∀ (c v:List (List Int)),v.length=c.length→(∀ (f:Nat) (a y:List Int),c[f]?=some a→v[f]?=some y→(zb8 y g rows (a.length+1)).2=true)→∃ Hs,zcg g rows c v=some Hs∧Hs.length=c.length∧∀ (f:Nat) (a y:List Int),c[f]?=some a→v[f]?=some y→Hs[f]?=some (zb8 y g rows (a.length+1)).1
 | [],v,_,_=>⟨[],by cases v <;> rfl,rfl,fun f a y h=>by simp at h⟩
 | x::c,[],h,_=>by simp at h
 | x::c,y::v,h,k=>by
  obtain ⟨Hs,e1,e2,e3⟩:=yir c v (by simpa using h) (fun f a b h1 h2=>k (f+1) a b (by simpa using h1) (by simpa using h2))
  have k0:=k 0 x y rfl rfl
  refine ⟨(zb8 y g rows (x.length+1)).1::Hs,?_,by simp [e2],fun f a b h1 h2 => ?_⟩
  ·simp only [zcg]
   rw [if_pos k0,e1]
   rfl
  ·cases f with
   | zero=>simp at h1 h2; subst h1 h2; simp
   | succ f=>simp at h1 h2; simpa using e3 f a b h1 h2
theorem yxk {c v:List (List Int)} {g rows:List Int} {cfg:Cfg} (H:GH c v g cfg) (hr : ∀ r∈rows,0≤r∧r<g.length) (hl:rows.length≤40) (b:Bd) : ∃ C:List Cnd,za2 c v g cfg rows b=zdb cfg b C∧∀ x,x∈C↔∃ f k,f<c.length∧k<(c.getD f []).length∧x=za8 v g rows f k∧cfg.rw≤(za8 v g rows f k).a.n∧cfg.rw≤(za8 v g rows f k).z.n:=by
 obtain ⟨t1,_,_,_⟩:=zhi H.tk
 have hlen:=(zrp t1).1
 obtain ⟨Hs,e1,e2,e3⟩:=yir (g:=g) (rows:=rows) c v hlen (fun f a y ha hy=>(z14 H hr hl ha hy).1)
 have hN:zb1 c v g rows=(Hs,true):=by unfold zb1; rw [if_pos t1,e1]
 have hPH : ∀ (f:Nat) (h:List Sl),Hs[f]?=some h→PH (za8 v g rows f) f h:=fun f h hf=>by
  have hfl:=(List.getElem?_eq_some_iff.mp hf).1
  obtain ⟨a,ha⟩ : ∃ a,c[f]?=some a:=⟨_,List.getElem?_eq_getElem (by omega)⟩
  obtain ⟨y,hy⟩ : ∃ y,v[f]?=some y:=⟨_,List.getElem?_eq_getElem (by omega)⟩
  have:=e3 f a y ha hy
  rw [hf] at this
  cases this
  exact (z14 H hr hl ha hy).2.2
 refine ⟨zer Hs cfg.rw,?_,fun x => ?_⟩
 ·unfold za2
  rw [if_pos H.tk,hN]
  rfl
 ·rw [yzx hPH x]
  constructor
  ·rintro ⟨f,k,h,h1,h2,h3⟩
   have hfl:=(List.getElem?_eq_some_iff.mp h1).1
   obtain ⟨a,ha⟩ : ∃ a,c[f]?=some a:=⟨_,List.getElem?_eq_getElem (by omega)⟩
   obtain ⟨y,hy⟩ : ∃ y,v[f]?=some y:=⟨_,List.getElem?_eq_getElem (by omega)⟩
   have:=e3 f a y ha hy
   rw [h1] at this
   cases this
   have hln:=(z14 H hr hl ha hy).2.1
   refine ⟨f,k,by omega,?_,h3⟩
   simp [ha]; omega
  ·rintro ⟨f,k,h1,h2,h3⟩
   obtain ⟨a,ha⟩ : ∃ a,c[f]?=some a:=⟨_,List.getElem?_eq_getElem (by omega)⟩
   obtain ⟨y,hy⟩ : ∃ y,v[f]?=some y:=⟨_,List.getElem?_eq_getElem (by omega)⟩
   have hln:=(z14 H hr hl ha hy).2.1
   refine ⟨f,k,_,e3 f a y ha hy,?_,h3⟩
   simp [ha] at h2
   omega
theorem yey {c:Cfg} {b:Bd} {x:Cnd} (h:zbj c b x=true):c.rw≤x.a.n∧c.rw≤x.z.n:=by
 unfold zbj at h
 simp only [Bool.and_eq_true,decide_eq_true_eq] at h
 exact ⟨h.2.2.1,h.2.2.2.1⟩
theorem yib {x y:Cnd} {l:Int} (xa:gS x.a) (xz:gS x.z) (ya:gS y.a) (yz:gS y.z) (h1:1≤l) (h2:l≤100):zcd x y l=true↔ovr l x y:=by
 refine ⟨ygf,fun h => ?_⟩
 obtain ⟨_,a1,a2⟩:=z5f xa xz h1 h2
 obtain ⟨_,b1,b2⟩:=z5f ya yz h1 h2
 have hc:=yjo a2 b2 (by omega) (by omega) (by omega) (by omega)
 obtain ⟨_,_,e⟩:=yee (a2.I (by omega)) (b2.I (by omega)) hc
 unfold zcd
 rw [a1,b1,hc,e]
 unfold ovr at h
 generalize zbf (zav x l).1.w*(zav y l).1.d=X at *
 generalize zbf (zav y l).1.w*(zav x l).1.d=Y at *
 simp only [Bool.true_and,Bool.or_eq_true,Bool.and_eq_true,decide_eq_true_eq]
 unfold zb5
 rcases h with h | ⟨h,h3⟩
 ·left
  rw [if_neg (by omega),if_pos h]
  omega
 ·right
  exact ⟨by rw [if_neg (by omega),if_neg (by omega)],h3⟩
def mxI (cfg:Cfg) (b:Bd) (C:Nat→Nat→Cnd) (P:Nat→Nat→Prop) (acc:Option Cnd):Prop:=(∀ f k,P f k→zbj cfg b (C f k)=true→∃ x,acc=some x∧¬ ovr cfg.la (C f k) x)∧∀ x,acc=some x→zbj cfg b x=true∧∃ f k,P f k∧x=C f k
theorem mxI.stp {cfg:Cfg} {b:Bd} {C:Nat→Nat→Cnd} {P Q:Nat→Nat→Prop} {acc:Option Cnd} {f k:Nat} (h:mxI cfg b C P acc) (hQ : ∀ f' k',Q f' k'↔P f' k'∨(f'=f∧k'=k)) (hg : ∀ f' k',Q f' k'→gS (C f' k').a∧gS (C f' k').z) (h1:1≤cfg.la) (h2:cfg.la≤100):mxI cfg b C Q (zj0 cfg b acc (C f k)):=by
 obtain ⟨i1,i2⟩:=h
 have hfk:Q f k:=(hQ f k).mpr (.inr ⟨rfl,rfl⟩)
 unfold zj0
 cases hm:zbj cfg b (C f k) with
 | false =>
  rw [if_neg (by simp)]
  refine ⟨fun f' k' hq hm' => ?_,fun x hx => ?_⟩
  ·rcases (hQ f' k').mp hq with hp | ⟨rfl,rfl⟩
   ·exact i1 f' k' hp hm'
   ·rw [hm] at hm'; cases hm'
  ·obtain ⟨m,f',k',hp,e⟩:=i2 x hx
   exact ⟨m,f',k',(hQ f' k').mpr (.inl hp),e⟩
 | true =>
  rw [if_pos rfl]
  cases acc with
  | none =>
   refine ⟨fun f' k' hq hm' => ?_,fun x hx => ?_⟩
   ·rcases (hQ f' k').mp hq with hp | ⟨rfl,rfl⟩
    ·obtain ⟨x,hx,_⟩:=i1 f' k' hp hm'
     cases hx
    ·exact ⟨_,rfl,z68 _ _⟩
   ·cases hx
    exact ⟨hm,f,k,hfk,rfl⟩
  | some x =>
   obtain ⟨mx,f0,k0,hp0,e0⟩:=i2 x rfl
   have hq0:Q f0 k0:=(hQ f0 k0).mpr (.inl hp0)
   have hbo:zcd (C f k) x cfg.la=true↔ovr cfg.la (C f k) x:=by
    rw [e0]
    exact yib (hg f k hfk).1 (hg f k hfk).2 (hg f0 k0 hq0).1 (hg f0 k0 hq0).2 h1 h2
   simp only
   cases hb:zcd (C f k) x cfg.la with
   | true =>
    rw [if_pos rfl]
    refine ⟨fun f' k' hq hm' => ?_,fun y hy => ?_⟩
    ·rcases (hQ f' k').mp hq with hp | ⟨rfl,rfl⟩
     ·obtain ⟨x',hx',hn⟩:=i1 f' k' hp hm'
      cases hx'
      exact ⟨_,rfl,fun ho=>hn (ye9 (z2a hm') (z2a hm) (z2a mx) ho (hbo.mp hb))⟩
     ·exact ⟨_,rfl,z68 _ _⟩
    ·cases hy
     exact ⟨hm,f,k,hfk,rfl⟩
   | false =>
    rw [if_neg (by simp)]
    refine ⟨fun f' k' hq hm' => ?_,fun y hy => ?_⟩
    ·rcases (hQ f' k').mp hq with hp | ⟨rfl,rfl⟩
     ·exact i1 f' k' hp hm'
     ·exact ⟨_,rfl,fun ho=>by rw [hbo.mpr ho] at hb; cases hb⟩
    ·cases hy
     exact ⟨mx,f0,k0,hq0,e0⟩
theorem y26 {cfg:Cfg} {b:Bd} {C:Nat→Nat→Cnd} {P:Nat→Nat→Prop} (h : ∀ f k,¬ P f k):mxI cfg b C P none:=⟨fun f k hp=>absurd hp (h f k),fun x hx=>by cases hx⟩
theorem mxI.iff {cfg:Cfg} {b:Bd} {C:Nat→Nat→Cnd} {P Q:Nat→Nat→Prop} {acc:Option Cnd} (h:mxI cfg b C P acc) (hQ : ∀ f k,Q f k↔P f k):mxI cfg b C Q acc:=⟨fun f k hq=>h.1 f k ((hQ f k).mp hq),fun x hx=>by
 obtain ⟨m,f,k,hp,e⟩:=h.2 x hx
 exact ⟨m,f,k,(hQ f k).mpr hp,e⟩⟩
theorem yh5 {c v:List (List Int)} {g:List Int} {cfg:Cfg} (H:GH c v g cfg) {x:Pnd} (hx:zjs g.length cfg.de x) (hb:zc3 x.b=true):ze8 c v g cfg x.r x.b c.length=if (za2 c v g cfg x.r x.b).2=true then some (za2 c v g cfg x.r x.b).1 else none:=by
 have hgl:=H.gl
 have hr40:x.r.length≤40:=by have:=hx.2.1; omega
 have hla:=H.la
 have hgS : ∀ f k,f<c.length→gS (za8 v g x.r f k).a∧gS (za8 v g x.r f k).z:=fun f k hf=>(H.may hx hb (k:=k) hf).2
 have hF : ∀ (f:Nat) (acc:Option Cnd),f<c.length→mxI cfg x.b (za8 v g x.r) (fun f' k'=>(f'<c.length∧k'<(c.getD f' []).length)∧f'<f) acc→∀ n,n≤(c.getD f []).length→mxI cfg x.b (za8 v g x.r) (fun f' k'=>(f'<c.length∧k'<(c.getD f' []).length)∧(f'<f∨(f'=f∧k'<n))) (zgp v g cfg x.r x.b f acc n):=by
  intro f acc hf h0 n
  induction n with
  | zero=>intro _; exact h0.iff fun f' k'=>by omega
  | succ n ih =>
   intro hn
   rw [zvl]
   refine (ih (by omega)).stp (fun f' k' => ?_) (fun f' k' hq=>hgS f' k' hq.1.1) hla.1 hla.2.1
   constructor
   ·rintro ⟨h1,h2⟩
    by_cases e:f'=f∧k'=n
    ·exact .inr e
    ·exact .inl ⟨h1,by omega⟩
   ·rintro (⟨h1,h2⟩ | ⟨rfl,rfl⟩)
    ·exact ⟨h1,by omega⟩
    ·exact ⟨⟨hf,by omega⟩,by omega⟩
 have hG : ∀ m,m≤c.length→mxI cfg x.b (za8 v g x.r) (fun f' k'=>(f'<c.length∧k'<(c.getD f' []).length)∧f'<m) (ze8 c v g cfg x.r x.b m):=by
  intro m
  induction m with
  | zero=>intro _; exact y26 fun f k h=>by omega
  | succ m ih =>
   intro hm
   rw [z6f]
   refine (hF m _ (by omega) (ih (by omega)) _ (Nat.le_refl _)).iff fun f' k' => ?_
   constructor
   ·rintro ⟨h1,h2⟩
    refine ⟨h1,?_⟩
    by_cases e:f'=m
    ·subst e; exact .inr ⟨rfl,h1.2⟩
    ·exact .inl (by omega)
   ·rintro ⟨h1,h2⟩
    exact ⟨h1,by omega⟩
 obtain ⟨m1,m2⟩:=hG c.length (Nat.le_refl _)
 obtain ⟨L,hL,hLm⟩:=yxk H hx.1 hr40 x.b
 rw [hL]
 generalize ze8 c v g cfg x.r x.b c.length=acc at *
 cases acc with
 | none =>
  have:(zdb cfg x.b L).2=false:=by
   rw [yf4]
   cases ha:L.any (zbj cfg x.b) with
   | false=>rfl
   | true =>
    exfalso
    obtain ⟨y,hy,hm⟩:=List.any_eq_true.mp ha
    obtain ⟨f,k,h1,h2,rfl,_⟩:=(hLm y).mp hy
    obtain ⟨z,hz,_⟩:=m1 f k ⟨⟨h1,h2⟩,h1⟩ hm
    cases hz
  rw [this]; rfl
 | some y =>
  obtain ⟨my,f,k,⟨⟨h1,h2⟩,_⟩,e⟩:=m2 y rfl
  have hyL:y∈L:=(hLm y).mpr ⟨f,k,h1,h2,e,by rw [← e]; exact (yey my).1,by rw [← e]; exact (yey my).2⟩
  have hany:(zdb cfg x.b L).2=true:=by
   rw [yf4]
   exact List.any_eq_true.mpr ⟨y,hyL,my⟩
  rw [if_pos hany]
  obtain ⟨n1,n2,n3⟩:=z60 hany
  generalize (zdb cfg x.b L).1=z at *
  obtain ⟨f2,k2,h3,h4,e2,_⟩:=(hLm z).mp n1
  have g1:=hgS f k h1
  have g2:=hgS f2 k2 h3
  have o1 : ¬ ovr cfg.la y z:=fun ho=>by
   have:=n3 y hyL my
   rw [(yib (by rw [e]; exact g1.1) (by rw [e]; exact g1.2) (by rw [e2]; exact g2.1) (by rw [e2]; exact g2.2) hla.1 hla.2.1).mpr ho] at this
   cases this
  have o2 : ¬ ovr cfg.la z y:=by
   obtain ⟨w,hw,hn⟩:=m1 f2 k2 ⟨⟨h3,h4⟩,h3⟩ (by rw [← e2]; exact n2)
   cases hw
   rw [e2]; exact hn
  by_cases hfk:f=f2∧k=k2
  ·obtain ⟨rfl,rfl⟩:=hfk
   rw [e,e2]
  ·exfalso
   have hles:zf2 y z=true∨zf2 z y=true:=by
    rw [z2x,z2x,e,e2]
    simp only [za8]
    omega
   unfold ovr at o1 o2
   rcases hles with hl | hl
   ·rw [hl] at o1
    simp only [and_true] at o1
    omega
   ·rw [hl] at o2
    simp only [and_true] at o2
    omega
def zgo (c v:List (List Int)) (g:List Int) (cfg:Cfg) (x:Pnd):SN:=zds c v g cfg (cfg.de-x.l).toNat x
def okP (g:List Int) (cfg:Cfg) (x:Pnd):Prop:=zjs g.length cfg.de x∧zc3 x.b=true
theorem okP.kid {c v:List (List Int)} {g:List Int} {cfg:Cfg} {x:Pnd} (h:okP g cfg x) (hl:x.l<cfg.de) (k:Cnd):okP g cfg (zc6 c v cfg x k)∧okP g cfg (zda c v cfg x k):=by
 obtain ⟨h1,h2⟩:=z13 (c:=c) (v:=v) (k:=k) h.1 hl
 exact ⟨⟨h1,by unfold zc6; exact (z2v h.2).1⟩,⟨h2,by unfold zda; exact (z2v h.2).2⟩⟩
theorem z59 {c v:List (List Int)} {g:List Int} {cfg:Cfg} {x:Pnd} (h:goes c v g cfg x=true):x.l<cfg.de∧(za2 c v g cfg x.r x.b).2=true:=by
 unfold goes at h
 simpa using h
theorem yc3 {c v:List (List Int)} {g:List Int} {cfg:Cfg} (H:GH c v g cfg) {x:Pnd} (hx:okP g cfg x) (hg:goes c v g cfg x=false):zgo c v g cfg x = .mk (-1) 0 (zvc g cfg x) []:=by
 unfold zgo
 cases hn:(cfg.de-x.l).toNat with
 | zero=>rfl
 | succ N =>
  have hp:(za2 c v g cfg x.r x.b).2=false:=by
   unfold goes at hg
   rw [decide_eq_true (show x.l<cfg.de by omega)] at hg
   simpa using hg
  unfold zds
  rw [yh5 H hx.1 hx.2,hp]
  rfl
theorem ydu {c v:List (List Int)} {g:List Int} {cfg:Cfg} (H:GH c v g cfg) {x:Pnd} (hx:okP g cfg x) (hg:goes c v g cfg x=true):zgo c v g cfg x = .mk (za2 c v g cfg x.r x.b).1.f ((atI ((atI c (za2 c v g cfg x.r x.b).1.f).getD []) (za2 c v g cfg x.r x.b).1.b).getD 0) 0 [zgo c v g cfg (zc6 c v cfg x (za2 c v g cfg x.r x.b).1),zgo c v g cfg (zda c v cfg x (za2 c v g cfg x.r x.b).1)]:=by
 obtain ⟨h1,h2⟩:=z59 hg
 obtain ⟨N,hN⟩ : ∃ N,(cfg.de-x.l).toNat=N+1:=⟨(cfg.de-x.l).toNat-1,by omega⟩
 have e1:(cfg.de-(zc6 c v cfg x (za2 c v g cfg x.r x.b).1).l).toNat=N:=by unfold zc6; simp only; omega
 have e2:(cfg.de-(zda c v cfg x (za2 c v g cfg x.r x.b).1).l).toNat=N:=by unfold zda; simp only; omega
 unfold zgo
 rw [e1,e2,hN]
 rw [zds,yh5 H hx.1 hx.2,h2]
 rfl
theorem z51 {c v:List (List Int)} {g:List Int} {cfg:Cfg} (H:GH c v g cfg) : ∀ (n:Nat) (q:List Pnd) (i:Nat) (out:List Nd),(∀ x∈q,okP g cfg x)→i≤q.length→i+zee cfg.de (q.drop i)≤31→zgy n (q.map (zgo c v g cfg)) i out=zcb c v g cfg n q i out
 | 0,q,i,out,_,_,_=>rfl
 | n+1,q,i,out,hq,hi,hp=>by
  cases hx:q[i]? with
  | none =>
   have hx':(q.map (zgo c v g cfg))[i]?=none:=by simp [hx]
   rw [yip hx',zcb,hx]
  | some x =>
   have hxo:=hq x (List.mem_of_getElem? hx)
   have hlt:=(List.getElem?_eq_some_iff.mp hx).1
   have hx':(q.map (zgo c v g cfg))[i]?=some (zgo c v g cfg x):=by simp [hx]
   rw [zeo hx,zgk] at hp
   have hpos:=zn2 (d:=cfg.de) (x:=x) hxo.1.2.2.2
   cases hg:goes c v g cfg x with
   | false =>
    rw [yc3 H hxo hg] at hx'
    rw [yfk hx' (by simp),zcb,hx]
    simp only [hg,Bool.false_eq_true,if_false]
    exact z51 H n q (i+1) _ hq (by omega) (by omega)
   | true =>
    obtain ⟨h1,_⟩:=z59 hg
    have hk:=z5i (y:=zc6 c v cfg x (za2 c v g cfg x.r x.b).1) (z:=zda c v cfg x (za2 c v g cfg x.r x.b).1) h1 rfl rfl
    obtain ⟨ok1,ok2⟩:=hxo.kid (c:=c) (v:=v) h1 (za2 c v g cfg x.r x.b).1
    have hp1:=zn2 (d:=cfg.de) ok1.1.2.2.2
    have hp2:=zn2 (d:=cfg.de) ok2.1.2.2.2
    have hrest:(q.drop (i+1)).length≤zee cfg.de (q.drop (i+1)):=by
     have key : ∀ l:List Pnd,(∀ x∈l,x.l≤cfg.de)→l.length≤zee cfg.de l:=by
      intro l
      induction l with
      | nil=>simp
      | cons a l ih =>
       intro h
       rw [zgk,List.length_cons]
       have:=zn2 (h a (by simp))
       have:=ih (fun x hx=>h x (by simp [hx]))
       omega
     exact key _ fun x hx=>(hq x (List.mem_of_mem_drop hx)).1.2.2.2
    rw [List.length_drop] at hrest
    rw [ydu H hxo hg] at hx'
    rw [yij hx',zcb,hx]
    simp only [hg,if_true,List.length_map]
    rw [if_neg (by omega)]
    have e:=z51 H n (q++[zc6 c v cfg x (za2 c v g cfg x.r x.b).1,zda c v cfg x (za2 c v g cfg x.r x.b).1]) (i+1) (out++[zfz c (za2 c v g cfg x.r x.b).1 q.length]) (fun y hy=>by
     rcases List.mem_append.mp hy with h | h
     ·exact hq y h
     ·simp only [List.mem_cons,List.not_mem_nil,or_false] at h
      rcases h with rfl | rfl
      ·exact ok1
      ·exact ok2) (by simp; omega) (by
     rw [List.drop_append_of_le_length (by omega),z42,zgk,zgk]
     simp only [zee,List.map_nil,List.sum_nil]
     simp only [zee] at hp
     omega)
    rw [← e,List.map_append]
    rfl
def Str (c v:List (List Int)) (g:List Int) (cfg:Cfg) (Q:List Pnd) (F:List Nd) (j:Nat):Prop := ∃ (x:Pnd) (L:Nat),Q[j]?=some x∧okP g cfg x∧F[j]?=some (if goes c v g cfg x=true then zfz c (za2 c v g cfg x.r x.b).1 L else zcv g cfg x)∧(goes c v g cfg x=true→j<L∧Q[L]?=some (zc6 c v cfg x (za2 c v g cfg x.r x.b).1)∧Q[L+1]?=some (zda c v cfg x (za2 c v g cfg x.r x.b).1))
theorem zuz {α:Type} {l m:List α} {i:Nat} {x:α} (h:l[i]?=some x):(l++m)[i]?=some x:=by
 rw [List.getElem?_append_left (List.getElem?_eq_some_iff.mp h).1]; exact h
theorem Str.up {c v:List (List Int)} {g:List Int} {cfg:Cfg} {Q R:List Pnd} {F E:List Nd} {j:Nat} (h:Str c v g cfg Q F j):Str c v g cfg (Q++R) (F++E) j:=by
 obtain ⟨x,L,h1,h2,h3,h4⟩:=h
 exact ⟨x,L,zuz h1,h2,zuz h3,fun hg=>⟨(h4 hg).1,zuz (h4 hg).2.1,zuz (h4 hg).2.2⟩⟩
theorem z4r {c v:List (List Int)} {g:List Int} {cfg:Cfg} : ∀ (n:Nat) (q:List Pnd) (i:Nat) (out:List Nd),(∀ x∈q,okP g cfg x)→i≤q.length→out.length=i→zee cfg.de (q.drop i)≤n→(∀ j,j<i→Str c v g cfg q out j)→∃ R:List Pnd,(zcb c v g cfg n q i out).length=(q++R).length∧∀ j,j<(q++R).length→Str c v g cfg (q++R) (zcb c v g cfg n q i out) j
 | 0,q,i,out,hq,hi,ho,hp,hs=>by
  have:q.length≤i:=by
   cases hx:q[i]? with
   | none=>exact List.getElem?_eq_none_iff.mp hx
   | some x =>
    rw [zeo hx,zgk] at hp
    have:=zn2 (d:=cfg.de) (hq x (List.mem_of_getElem? hx)).1.2.2.2
    omega
  refine ⟨[],?_,fun j hj => ?_⟩
  ·simp only [zcb,List.append_nil]; omega
  ·simp only [zcb,List.append_nil] at hj ⊢
   exact hs j (by omega)
 | n+1,q,i,out,hq,hi,ho,hp,hs=>by
  cases hx:q[i]? with
  | none =>
   have:q.length≤i:=List.getElem?_eq_none_iff.mp hx
   refine ⟨[],?_,fun j hj => ?_⟩
   ·rw [zcb,hx]; simp only [List.append_nil]; omega
   ·rw [zcb,hx]
    simp only [List.append_nil] at hj ⊢
    exact hs j (by omega)
  | some x =>
   have hxo:=hq x (List.mem_of_getElem? hx)
   have hlt:=(List.getElem?_eq_some_iff.mp hx).1
   rw [zeo hx,zgk] at hp
   have hpos:=zn2 (d:=cfg.de) (x:=x) hxo.1.2.2.2
   cases hg:goes c v g cfg x with
   | false =>
    rw [zcb,hx]
    simp only [hg,Bool.false_eq_true,if_false]
    refine z4r n q (i+1) _ hq (by omega) (by simp [ho]) (by omega) (fun j hj => ?_)
    by_cases hji:j<i
    ·have:=(hs j hji).up (R:=[]) (E:=[zcv g cfg x])
     simpa using this
    ·obtain rfl:j=i:=by omega
     refine ⟨x,0,hx,hxo,?_,fun h=>by rw [hg] at h; cases h⟩
     rw [List.getElem?_append_right (by omega),ho]
     simp [hg]
   | true =>
    obtain ⟨h1,_⟩:=z59 hg
    have hk:=z5i (y:=zc6 c v cfg x (za2 c v g cfg x.r x.b).1) (z:=zda c v cfg x (za2 c v g cfg x.r x.b).1) h1 rfl rfl
    obtain ⟨ok1,ok2⟩:=hxo.kid (c:=c) (v:=v) h1 (za2 c v g cfg x.r x.b).1
    rw [zcb,hx]
    simp only [hg,if_true]
    obtain ⟨R,r1,r2⟩:=z4r n (q++[zc6 c v cfg x (za2 c v g cfg x.r x.b).1,zda c v cfg x (za2 c v g cfg x.r x.b).1]) (i+1) (out++[zfz c (za2 c v g cfg x.r x.b).1 q.length]) (fun y hy=>by
     rcases List.mem_append.mp hy with h | h
     ·exact hq y h
     ·simp only [List.mem_cons,List.not_mem_nil,or_false] at h
      rcases h with rfl | rfl
      ·exact ok1
      ·exact ok2) (by simp; omega) (by simp [ho]) (by
     rw [List.drop_append_of_le_length (by omega),z42,zgk,zgk]
     simp only [zee,List.map_nil,List.sum_nil]
     simp only [zee] at hp
     omega) (fun j hj=>by
     by_cases hji:j<i
     ·exact (hs j hji).up
     ·obtain rfl:j=i:=by omega
      refine ⟨x,q.length,zuz hx,hxo,?_,fun _=>⟨hlt,?_,?_⟩⟩
      ·rw [List.getElem?_append_right (by omega),ho]
       simp [hg]
      ·rw [List.getElem?_append_right (by omega)]; simp
      ·rw [List.getElem?_append_right (by omega)]; simp)
    rw [List.append_assoc] at r1 r2
    exact ⟨_,r1,r2⟩
def zh4 (t:List Nd):Nat→Nat→SN
 | 0,_ => .mk 0 0 0 []
 | n+1,i=>match t[i]? with
  | none => .mk 0 0 0 []
  | some x=>if (zai x.l (i+1) ((t.length:Int)-1) && zai x.r (i+1) ((t.length:Int)-1))=true then .mk x.f x.c x.v [zh4 t n x.l.toNat,zh4 t n x.r.toNat] else .mk (-1) 0 x.v []
theorem z62 {c v:List (List Int)} {g:List Int} {cfg:Cfg} (H:GH c v g cfg) {Q:List Pnd} {F:List Nd} (hl:F.length=Q.length) (hs : ∀ j,j<Q.length→Str c v g cfg Q F j) : ∀ (n j:Nat) (x:Pnd),Q[j]?=some x→F.length≤j+n→zh4 F n j=zgo c v g cfg x
 | 0,j,x,hx,hn=>by
  have:=(List.getElem?_eq_some_iff.mp hx).1
  omega
 | n+1,j,x,hx,hn=>by
  have hlt:=(List.getElem?_eq_some_iff.mp hx).1
  obtain ⟨x',L,h1,h2,h3,h4⟩:=hs j hlt
  rw [hx] at h1; cases h1
  rw [zh4,h3]
  cases hg:goes c v g cfg x with
  | false =>
   simp only [Bool.false_eq_true,if_false]
   rw [yc3 H h2 hg]
   have:zai (zcv g cfg x).l ((j:Int)+1) ((F.length:Int)-1)=false:=by
    cases hw:zai (zcv g cfg x).l ((j:Int)+1) ((F.length:Int)-1) with
    | false=>rfl
    | true =>
     have:=zax.mp hw
     simp only [zcv] at this
     omega
   rw [this]
   rfl
  | true =>
   obtain ⟨k1,k2,k3⟩:=h4 hg
   have hL:=(List.getElem?_eq_some_iff.mp k3).1
   simp only [if_true]
   rw [ydu H h2 hg]
   have e1:=z62 H hl hs n L _ k2 (by omega)
   have e2:=z62 H hl hs n (L+1) _ k3 (by omega)
   have w1:zai (zfz c (za2 c v g cfg x.r x.b).1 L).l ((j:Int)+1) ((F.length:Int)-1)=true:=zax.mpr (by simp only [zfz]; omega)
   have w2:zai (zfz c (za2 c v g cfg x.r x.b).1 L).r ((j:Int)+1) ((F.length:Int)-1)=true:=zax.mpr (by simp only [zfz]; omega)
   rw [w1,w2]
   simp only [Bool.and_self,if_true,zfz,Int.toNat_natCast]
   have e3:((L:Int)+1).toNat=L+1:=by omega
   rw [e3,e1,e2]
set_option maxHeartbeats 2000000 in
theorem z4i (t:List Nd) (hl:t.length≤1048576) : ∀ (n i:Nat),i<t.length→t.length≤i+n→RUN T zkq [.agg [.sl 5 (t.map nd)],iv i]=some ([.agg (snC true (zh4 t n i))],[])
 | 0,i,hi,hn=>by omega
 | n+1,i,hi,hn=>by
  obtain ⟨x,hx⟩ : ∃ x,t[i]?=some x:=⟨_,List.getElem?_eq_getElem hi⟩
  have hx':(t.map nd)[i]?=some (nd x):=by simp [hx]
  have e1:=zdr x.l ((i:Int)+1) ((t.length:Int)-1)
  have e2:=zdr x.r ((i:Int)+1) ((t.length:Int)-1)
  have w1:=w64 (x:=(i:Int)+1) (by omega) (by omega)
  have w2:=w64 (x:=(t.length:Int)-1) (by omega) (by omega)
  have hr2:zak 48 2=true:=by decide
  rw [zh4,hx]
  dsimp only
  simp only [nd] at hx'
  by_cases c1:zai x.l ((i:Int)+1) ((t.length:Int)-1)=true
  case neg =>
   have c1':zai x.l ((i:Int)+1) ((t.length:Int)-1)=false:=by simpa using c1
   rw [c1'] at e1 ⊢
   simp only [Bool.false_and,Bool.false_eq_true,if_false,snC,snL,zgi,if_true]
   refine zag z1k rfl ?_
   simp [-getElem?_pos,zq3,zq4,-zck,hx',hi,e1,w1,w2]
  by_cases c2:zai x.r ((i:Int)+1) ((t.length:Int)-1)=true
  case neg =>
   have c2':zai x.r ((i:Int)+1) ((t.length:Int)-1)=false:=by simpa using c2
   rw [c1] at e1
   rw [c1,c2']
   rw [c2'] at e2
   simp only [Bool.and_false,Bool.false_eq_true,if_false,snC,snL,zgi,if_true]
   refine zag z1k rfl ?_
   simp [-getElem?_pos,zq3,zq4,-zck,hx',hi,e1,e2,w1,w2]
  rw [c1] at e1
  rw [c2] at e2
  rw [c1,c2]
  have b1:=zax.mp c1
  have b2:=zax.mp c2
  obtain ⟨f,c,l,r,v⟩:=x
  simp only at *
  obtain ⟨ln,rfl⟩ : ∃ ln:Nat,l=ln:=⟨l.toNat,by omega⟩
  obtain ⟨rn,rfl⟩ : ∃ rn:Nat,r=rn:=⟨r.toNat,by omega⟩
  have i1:=z4i t hl n ln (by omega) (by omega)
  have i2:=z4i t hl n rn (by omega) (by omega)
  simp only [Bool.and_self,if_true,Int.toNat_natCast]
  generalize zh4 t n ln=S1 at *
  generalize zh4 t n rn=S2 at *
  obtain ⟨f1,c1',v1,k1⟩:=S1
  obtain ⟨f2,c2',v2,k2⟩:=S2
  simp only [snC,snL,zgi,if_true] at *
  refine zag z1k rfl ?_
  simp [-getElem?_pos,zq3,zq4,-zck,hx',hi,e1,e2,w1,w2,i1,i2,hr2]
theorem yvp (t:List Nd) (hl:t.length≤1048576) (h0:0<t.length):RUN T zo3 [.agg [.sl 5 (t.map nd)]]=some ([.agg (snC true (zh4 t t.length 0))],[]):=by
 have e:=z4i t hl t.length 0 h0 (by omega)
 have h0' : ¬ t.length=0:=by omega
 have h1' : ¬ (t.length:Int)=0:=by omega
 have h2 : ¬ t=[]:=fun h=>by rw [h] at h0; simp at h0
 simp only [Int.natCast_zero] at e
 generalize zh4 t t.length 0=S at *
 obtain ⟨f1,c1',v1,k1⟩:=S
 simp only [snC,zgi,if_true] at *
 refine zag z76 rfl ?_
 simp [-getElem?_pos,zwa,zwb,e,h0',h1',h2]
mutual
theorem yg4 : ∀ s:SN,snE s s=true
 | .mk f c v ks=>by simp [snE,yfu ks]
theorem yfu : ∀ ks:List SN,zfv ks ks=true
 | []=>rfl
 | k::ks=>by simp [zfv,yg4 k,yfu ks]
end
theorem yvq (B:List Int) (hB:B.length≤9223372036854775807) : ∃ r,RUN T zo0 [.sl 1 (zbo B)]=some r∧PGt r:=by
 refine zd9 z74 rfl ?_
 obtain ⟨r,hd,c,v,g,k,hgb,hg,hgi,hk,rfl⟩:=yvl B hB
 simp only [zkh] at hd
 simp [-getElem?_pos,zv6,zv7,hd]
 exact ⟨c,v,g,k,hgb,hg,hgi,hk,rfl⟩
theorem yym {c v:List (List Int)} {g:List Int} {cfg:Cfg} (H:GH c v g cfg):zvf (zep c v g cfg).1=(zc8 c v g cfg).1∧zh4 (zc8 c v g cfg).1 (zc8 c v g cfg).1.length 0=(zep c v g cfg).1∧0<(zc8 c v g cfg).1.length:=by
 obtain ⟨r1,r2,r3⟩:=ykl H
 have hok : ∀ x∈[zbl g],okP g cfg x:=fun x hx=>by
  simp only [List.mem_singleton] at hx; subst hx; exact ⟨r1,r2⟩
 have hde:=H.la
 have hpot:zee cfg.de [zbl g]≤31:=by
  rw [zgk]
  simp only [zee,List.map_nil,List.sum_nil,pot,zbl]
  have:(cfg.de+1-0).toNat≤5:=by omega
  have:=Nat.pow_le_pow_right (n:=2) (by omega) this
  omega
 have e1:(zep c v g cfg).1=zgo c v g cfg (zbl g):=by
  unfold zep zgo
  rw [if_pos H.tk,r3]
 have e2:(zc8 c v g cfg).1=zcb c v g cfg 32 [zbl g] 0 []:=by
  unfold zc8
  rw [if_pos H.tk]
 rw [e1,e2]
 obtain ⟨R,s1,s2⟩:=z4r (c:=c) (v:=v) 32 [zbl g] 0 [] hok (by simp) rfl (by simpa using Nat.le_trans hpot (by omega)) (fun j hj=>absurd hj (Nat.not_lt_zero _))
 refine ⟨?_,?_,?_⟩
 ·have:=z51 H 32 [zbl g] 0 [] hok (by simp) (by simpa using hpot)
  simpa [zvf] using this
 ·exact z62 H s1 s2 _ 0 (zbl g) (by simp) (by omega)
 ·rw [s1]; simp
set_option maxHeartbeats 4000000 in
set_option maxRecDepth 4000 in
theorem yzc (B:List Int) (hB:B.length≤9223372036854775807):RUN T zsm [.sl 1 (zbo B)]=some ([bv true],[]):=by
 have hb:=yt2 (zbo B)
 rw [ywl] at hb
 by_cases c0:(1048576:Int)<B.length
 ·refine zag zud rfl ?_
  simp [-getElem?_pos,zqp,zqq,hb,c0]
 obtain ⟨r,hd,c,v,g,k,⟨hc8,hv8,hcl,hvl⟩,hg,hgi,hk,rfl⟩:=yvq B hB
 have hcl' : ∀ l∈c,l.length≤1048576:=fun l hl=>Nat.le_trans (hcl l hl) (by omega)
 have hvl' : ∀ l∈v,l.length≤1048576:=fun l hl=>Nat.le_trans (hvl l hl) (by omega)
 have a0:=yvn true c v g k hcl' hvl' (by omega) (by omega)
 have a1:=yu9 true c v g k hcl' hvl' (by omega) (by omega) hgi
 have a2:=yva true c v g k hcl' hvl' (by omega) (by omega) hgi
 have hlen:=yye c v g k
 obtain ⟨z1,z2⟩:=yx9 c v g k
 have hok1:(zc8 c v g k).2=zd7 c v g k:=y01
 have hok2:(zep c v g k).2=zd7 c v g k:=by
  unfold zep
  cases zd7 c v g k <;> rfl
 rw [hok2] at a0
 rw [hok1] at a1 a2
 have a3:=yvo true (zep c v g k).1 z1
 cases ht:zd7 c v g k with
 | false =>
  rw [ht] at a0 a1 a2
  generalize (zc8 c v g k).1=W at *
  generalize (zep c v g k).1=S at *
  obtain ⟨f1,c1,v1,k1⟩:=S
  simp only [cfS,zkh,snC,zgi,if_true] at hd a0 a1 a2
  refine zag zud rfl ?_
  simp [-getElem?_pos,zqp,zqq,hb,c0,hd,a0,a1,a2]
 | true =>
  rw [ht] at a0 a1 a2
  obtain ⟨t1,t2,t3⟩:=yym ⟨ht,by omega⟩
  rw [t1] at a3
  have a5:=yvp (zc8 c v g k).1 (by omega) t3
  rw [t2] at a5
  have a6:=yga (szN (zep c v g k).1+1) _ _ true true (by omega) z1 z1
  rw [yg4] at a6
  generalize (zc8 c v g k).1=W at *
  generalize (zep c v g k).1=S at *
  have a4:=yt3 W W (by omega) (by omega)
  rw [decide_eq_true rfl] at a4
  obtain ⟨f1,c1,v1,k1⟩:=S
  simp only [cfS,zkh,snC,snA,zgi,if_true] at hd a0 a1 a2 a3 a5 a6
  refine zag zud rfl ?_
  simp [-getElem?_pos,zqp,zqq,hb,c0,hd,a0,a1,a2,a3,a4,a5,a6]
end Go.Pe
