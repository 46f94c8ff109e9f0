/- What each function answers by the evaluator,and the law; for each answer its own conditions stand ahead of it. -/
import Derived.Test.YtadpenaldhkjcaaGreatC0
import Derived.Test.YtadpenaldhkjcaaGreatEvB2
import Derived.IntWalk
set_option linter.all false
namespace Go.Pe
open Go
set_option maxHeartbeats 1000000 in
theorem yn2 (q:Bool) (t:Ta) (ht:TaL 9223372036854775807 t) (hyl:t.lb.length=t.rw.length) {Q:Ex→St→Prop} {st:St} (h1:st.V 1 = .ptr 0 none 0 0 0) (h3:st.V 3=iv t.ns.length) (h5:st.V 5=iv (0:Nat)) (hS:st.S 0=some (.box (taB q t)))
  (hr:(t.lb.all zba && t.rw.all (zf5 t.ns.length))=false→∀ s:St,s.V 2=bv false→Q .ret s) (he:(t.lb.all zba && t.rw.all (zf5 t.ns.length))=true→∀ s:St,Q (.exit 2) s):W (zae T) (RUN T) (.loop zoe) st Q:=by
 refine za3 (fun n st => ∃ i:Nat,i+n=t.rw.length∧(∀ (k:Nat) (x:Int),k<i→t.lb[k]?=some x→zba x=true)∧(∀ (k:Nat) (x:List Int),k<i→t.rw[k]?=some x→zf5 t.ns.length x=true)∧st.V 1 = .ptr 0 none 0 0 0∧st.V 3=iv t.ns.length∧st.V 5=iv i∧st.S 0=some (.box (taB q t))) ?_ t.rw.length _ ⟨0,by omega,fun _ _ h=>by omega,fun _ _ h=>by omega,h1,h3,h5,hS⟩
 clear h1 h3 h5 hS
 rintro n st ⟨i,hi,hk,hk2,v1,v3,v5,hS⟩
 by_cases h:i<t.rw.length
 ·obtain ⟨r,hx⟩ : ∃ x,t.rw[i]?=some x:=⟨_,List.getElem?_eq_getElem h⟩
  obtain ⟨y,hy⟩ : ∃ x,t.lb[i]?=some x:=⟨_,List.getElem?_eq_getElem (by omega)⟩
  have hx':=ze4 (q:=q) hx
  have hy':=zbj hy
  have hw:=wS h ht.rw
  have hil:i<t.lb.length:=by omega
  have hD:=zlg y
  have hrb:zf5 t.ns.length r=(decide ((r.length:Int)=t.ns.length) && r.all zba):=rfl
  rcases Classical.propComplete ((r.length:Int)=t.ns.length) with e1 | e1
  ·cases a1:zba y with
   | false =>
    rw [a1] at hD
    simp [-getElem?_pos,zoe,-zlg,v1,v3,v5,hS,hx',hy',h,hil,hD,e1]
    exact hr (by rw [zrt hy a1]; rfl) _ (by simp)
   | true =>
    rw [a1] at hD
    have e2:(r.length:Int)=t.ns.length:=by rw [e1]; trivial
    simp [-getElem?_pos,zoe,-zlg,v1,v3,v5,hS,hx',hy',h,hil,hD,e1]
    refine yoa q t ht hx (by omega) (by simp [v1]) (by simp [v3]) (by simp [v5]) (by simp) (by simp [hS]) (fun no s h2 => ?_) (fun ok s w1 w3 w5 wS => ?_)
    ·simp
     refine hr ?_ _ (by simp [h2])
     rw [z7v hx (by rw [hrb,no]; simp)]; simp
    ·simp [-getElem?_pos,w1,w3,w5,wS,hw]
     exact zaq (n-1) (by omega) ⟨i+1,by omega,zoo (P:=fun _ x=>zba x=true) hk hy a1,(fun k x h1 h2=>by
      rcases Nat.lt_or_ge k i with h3 | h3
      ·exact hk2 k x h3 h2
      ·have:k=i:=by omega
       subst this
       rw [hx] at h2; cases h2
       rw [hrb,ok,decide_eq_true e2]; rfl),by simp [w1],by simp [w3],by simp,by simp [wS]⟩
  ·simp [-getElem?_pos,zoe,-zlg,v1,v3,v5,hS,hx',hy',h,hil,e1]
   refine hr ?_ _ (by simp)
   rw [z7v hx (by rw [hrb]; simp [e1])]; simp
 ·simp [-getElem?_pos,zoe,v1,v5,hS,h]
  exact he (by rw [zqw fun k a h1 h2=>hk k a (by omega) h2,ypr fun k a h1 h2=>hk2 k a (by omega) h2]; rfl) _
set_option maxHeartbeats 2000000 in
theorem yix (q:Bool) (t:Ta) (ht:TaL 9223372036854775807 t):RUN T zns [taS q t]=some ([bv (zjq t)],[]):=by
 have g1:=zbs t.ns.length 1 4
 have g2:=zbs t.rw.length 1 40
 have g3:=z4d t.nm ht.nm
 have g4:=z4e t.ns t.nm ht.ns
 have mod:zjq t=(zak t.ns.length 1 4 && (zio t.ns && (zem t.nm && !zgc t.ns t.nm)) && zak t.rw.length 1 40 && decide ((t.lb.length:Int)=t.rw.length) && t.lb.all zba && t.rw.all (zf5 t.ns.length)):=by
  unfold zjq
  rw [yqx]
 rw [mod]
 clear mod
 generalize zak t.ns.length 1 4=b1 at *
 generalize zak t.rw.length 1 40=b2 at *
 generalize zem t.nm=b3 at *
 generalize zgc t.ns t.nm=b4 at *
 obtain ⟨R,hR⟩ : ∃ R,R=(b1 && (zio t.ns && (b3 && !b4)) && b2 && decide ((t.lb.length:Int)=t.rw.length) && t.lb.all zba && t.rw.all (zf5 t.ns.length)):=⟨_,rfl⟩
 rw [← hR]
 refine zal z3e rfl ?_
 cases b1 with
 | false =>
  have hR:R=false:=by rw [hR]; simp
  subst hR
  simp [-getElem?_pos,zh8,zh9,-zbd,g1]
 | true =>
 cases b3 with
 | false =>
  have hR:R=false:=by rw [hR]; simp
  subst hR
  simp [-getElem?_pos,zh8,zh9,-zbd,g1,g3]
 | true =>
 cases b4 with
 | true =>
  have hR:R=false:=by rw [hR]; simp
  subst hR
  simp [-getElem?_pos,zh8,zh9,-zbd,g1,g3,g4]
 | false =>
 cases b2 with
 | false =>
  have hR:R=false:=by rw [hR]; simp
  subst hR
  simp [-getElem?_pos,zh8,zh9,-zbd,g1,g2,g3,g4]
 | true =>
 by_cases e2:(t.lb.length:Int)=t.rw.length
 ·have e1:((t.lb.length:Int)=t.rw.length)=True:=eq_true e2
  rw [decide_eq_true e2] at hR
  simp [-getElem?_pos,zh8,zh9,-zbd,g1,g2,g3,g4,e1]
  refine ypp q t ht (by simp) (by simp) (by simp) (by simp) (fun no s h2 => ?_) (fun ok s u1 u3 uS => ?_)
  ·have hR:R=false:=by rw [hR,no]; simp
   simp [h2,hR]
  ·simp [-getElem?_pos,u1,u3,uS]
   refine yn2 q t ht (by omega) (by simp [u1]) (by simp [u3]) (by simp) (by simp [uS]) (fun no s h2 => ?_) (fun ok2 s => ?_)
   ·have hR:R=false:=by rw [hR,ok]; generalize t.lb.all zba=a at *; generalize t.rw.all (zf5 t.ns.length)=b at *; cases a <;> cases b <;> first | rfl | cases no
    simp [h2,hR]
   ·have hR:R=true:=by rw [hR,ok]; generalize t.lb.all zba=a at *; generalize t.rw.all (zf5 t.ns.length)=b at *; cases a <;> cases b <;> first | rfl | cases ok2
    simp [hR]
 ·have e1:((t.lb.length:Int)=t.rw.length)=False:=eq_false e2
  have hR:R=false:=by rw [hR,decide_eq_false e2]; simp
  subst hR
  simp [-getElem?_pos,zh8,zh9,-zbd,g1,g2,g3,g4,e1]
def PDc (v:PV):Prop := ∃ n,v=iv n∧zba n=true
theorem zov {n:Int} (h1 : -2147483647≤n) (h2:n≤2147483647):zba n=true:=by
 unfold zba; exact za6.mpr ⟨h1,h2⟩
theorem zx9 (B:List Int) (p:Nat) (s:Int) (hp:p≤B.length) (hB:B.length≤9223372036854775807) : ∃ r,RUN T zi9 [.bx [.sl 1 (za8 B),iv p,iv s]]=some r∧zex B PDc r:=by
 refine zdi z23 rfl ?_
 have hr5:zan 8 5=true:=by decide
 obtain ⟨r1,h1,v1,p1,s1,⟨b1,rfl⟩,hp1,rfl⟩:=zd4 B p s hp hB 20 (by omega)
 cases b1 with
 | true =>
  obtain ⟨r2,h2,v2,p2,s2,⟨a2,rfl,hm⟩,hp2,rfl⟩:=zfz B p1 s1 hp1 hB [2147483647,-2147483647,1,-1,1000000000] (by simp)
  simp only [zac,List.map] at h2
  simp [-getElem?_pos,zob,zoc,hr5,h1,h2]
  refine ⟨_,p2,s2,⟨a2,rfl,?_⟩,hp2,rfl⟩
  simp at hm
  exact zov (by omega) (by omega)
 | false =>
  obtain ⟨r2,h2,v2,p2,s2,⟨b2,rfl⟩,hp2,rfl⟩:=zd4 B p1 s1 hp1 hB 2 (by omega)
  cases b2 with
  | true =>
   obtain ⟨r3,h3,v3,p3,s3,⟨a3,rfl,a30,a31⟩,hp3,rfl⟩:=zbe B p2 s2 hp2 hB 9 (by omega)
   have a32:=a31 (by omega)
   have w1:=w64 (x:=a3-4) (by omega) (by omega)
   have w2:=w64 (x:=1000*(a3-4)) (by omega) (by omega)
   simp [-getElem?_pos,zob,zoc,h1,h2,h3,w1,w2]
   exact ⟨_,p3,s3,⟨_,rfl,zov (by omega) (by omega)⟩,hp3,rfl⟩
  | false =>
   obtain ⟨r3,h3,v3,p3,s3,⟨a3,rfl,a30,a31⟩,hp3,rfl⟩:=zbe B p2 s2 hp2 hB 41 (by omega)
   have a32:=a31 (by omega)
   have w1:=w64 (x:=a3-20) (by omega) (by omega)
   have w2:=w64 (x:=250*(a3-20)) (by omega) (by omega)
   simp [-getElem?_pos,zob,zoc,h1,h2,h3,w1,w2]
   exact ⟨_,p3,s3,⟨_,rfl,zov (by omega) (by omega)⟩,hp3,rfl⟩
theorem yiy (c:List Int) (v:Int) (hc:c.length≤1048576) : ∃ r,RUN T znv [.sl 1 (zac c),iv v]=some r∧∃ n:Nat,n≤c.length∧r=([iv n],[]):=by
 refine zdi z3h rfl ?_
 simp [-getElem?_pos,zvh,zvi]
 refine za3 (fun n st => ∃ i m:Nat,i+n=c.length∧m≤i∧st.V 0 = .sl 1 (zac c)∧st.V 1=iv v∧st.V 5=iv m∧st.V 6=iv i) ?_ c.length _ ⟨0,0,by omega,by omega,by simp,by simp,by simp,by simp⟩
 rintro n st ⟨i,m,hi,hm,v0,v1,v5,v6⟩
 by_cases h:i<c.length
 ·obtain ⟨x,hx⟩ : ∃ x,c[i]?=some x:=⟨_,List.getElem?_eq_getElem h⟩
  have hx':=zbj hx
  have hw:=wS h (by omega:c.length≤9223372036854775807)
  have hw2:=w64 (x:=(m:Int)+1) (by omega) (by omega)
  by_cases hl:x<v
  ·simp [-getElem?_pos,zvg,v0,v1,v5,v6,h,hx',hw,hw2,hl]
   exact zaq (n-1) (by omega) ⟨i+1,m+1,by omega,by omega,by simp [v0],by simp [v1],by simp,by simp⟩
  ·simp [-getElem?_pos,zvg,v0,v1,v5,v6,h,hx',hw,hl]
   exact zaq (n-1) (by omega) ⟨i+1,m,by omega,by omega,by simp [v0],by simp [v1],by simp [v5],by simp⟩
 ·simp [-getElem?_pos,zvg,v0,v5,v6,h]
  exact ⟨m,by omega,rfl⟩
theorem yax (l:List Int):(zo0 l).length=l.length:=by
 unfold zo0
 rw [yjv]; simp
theorem yiz (l:List Int) (hl:l.length≤1048576) : ∃ r,RUN T znz [.sl 1 (zac l)]=some r∧∃ m:List Int,m.length≤l.length∧r=([.own 1 (zac m)],[]):=by
 have e1:=z4j l hl
 have hsl:=yax l
 generalize zo0 l=a at *
 have hr0:zan 8 0=true:=by decide
 have hr1:zan 8 1=true:=by decide
 refine zdi z3x rfl ?_
 simp [-getElem?_pos,zv2,zv3,hr0,e1]
 refine za3 (fun n st => ∃ (i o e q e2:Nat) (m:List Int),i+n=l.length∧m.length≤i∧st.V 3 = .ref o none e 0 m.length∧st.V 4 = .ref q none e2 0 a.length∧st.V 5=iv i∧¬ o=q∧o<st.nx∧q<st.nx∧st.S o=some (.row 1 (zac m))∧st.S q=some (.row 1 (zac a))) ?_ l.length _ ⟨0,0,0,1,0,[],by omega,by simp,by simp,by simp,by simp,by omega,by simp,by simp,by simp [zac],by simp⟩
 rintro n st ⟨i,o,e,q,e2,m,hi,hm,v3,v4,v5,hoq,hox,hqx,hSo,hSq⟩
 obtain ⟨x1,x2,x3,x4⟩:=fr hox
 obtain ⟨z1,z2,z3,z4⟩:=fr hqx
 have hqo : ¬ q=o:=fun e=>hoq e.symm
 by_cases h:i<a.length
 ·obtain ⟨x,hx⟩ : ∃ x,a[i]?=some x:=⟨_,List.getElem?_eq_getElem h⟩
  have hx':=zbj hx
  have hw:=wS h (by omega:a.length≤9223372036854775807)
  have hr8:=zdc (n:=m.length+1) (by omega)
  have hsn:=zc0 m x
  have key : ∀ K:St→Prop,True:=fun _=>trivial
  by_cases h0:i=0
  ·subst h0
   simp [-getElem?_pos,zqm,v3,v4,v5,hSo,hSq,h,hx',hw,hr1,hr8,hsn,hoq,hqo,x1,x2,x3,x4,z1,z2,z3,z4]
   exact zaq (n-1) (by omega) ⟨1,st.nx+1,st.ep,q,e2,m++[x],by omega,by rw [List.length_append]; simp only [List.length_cons,List.length_nil]; omega,by simp,by simp [v4],by simp,by omega,by simp,by simp; omega,by simp,by simp [hoq,hqo,x1,x2,x3,x4,z1,z2,z3,z4,hSq]⟩
  ·obtain ⟨y,hy⟩ : ∃ x,a[i-1]?=some x:=⟨_,List.getElem?_eq_getElem (by omega)⟩
   have hy':=zbj hy
   have w1:IntKind.i64.wrap ((i:Int)-1)=((i-1:Nat):Int):=by rw [w64 (by omega) (by omega)]; omega
   have hil:i-1<a.length:=by omega
   by_cases hxy:x=y
   ·have hxy2 : ¬ ¬ x=y:=fun h=>h hxy
    subst hxy
    simp [-getElem?_pos,zqm,v3,v4,v5,hSo,hSq,h,h0,hil,hx',hy',hw,w1,hoq,hqo,x1,x2,x3,x4,z1,z2,z3,z4]
    exact zaq (n-1) (by omega) ⟨i+1,o,e,q,e2,m,by omega,by omega,by simp [v3],by simp [v4],by simp,hoq,by simp [hox],by simp [hqx],by simp [hSo],by simp [hSq]⟩
   ·simp [-getElem?_pos,zqm,v3,v4,v5,hSo,hSq,h,h0,hil,hx',hy',hw,w1,hxy,hr1,hr8,hsn,hoq,hqo,x1,x2,x3,x4,z1,z2,z3,z4]
    exact zaq (n-1) (by omega) ⟨i+1,st.nx+1,st.ep,q,e2,m++[x],by omega,by simp; omega,by simp,by simp [v4],by simp,by omega,by simp,by simp; omega,by simp,by simp [hoq,hqo,x1,x2,x3,x4,z1,z2,z3,z4,hSq]⟩
 ·simp [-getElem?_pos,zqm,v3,v4,v5,hSo,hSq,h]
  exact ⟨m,by omega,rfl⟩
set_option maxHeartbeats 1000000 in
theorem yi0 (l:List Int) (b:Int) (h1:1≤l.length) (h2:l.length≤40) (hb:2≤b∧b≤8) : ∃ r,RUN T znu [.sl 1 (zac l),iv b]=some r∧∃ m:List Int,m.length≤8∧r=([.own 1 (zac m)],[]):=by
 have e1:=z4j l (by omega)
 have hsl:=yax l
 generalize zo0 l=a at *
 have hr0:zan 8 0=true:=by decide
 have hr1:zan 8 1=true:=by decide
 have g1:=zbs b 2 8
 have g2:=zbs l.length 1 40
 rw [za6.mpr (by omega)] at g1
 rw [za6.mpr (by omega)] at g2
 obtain ⟨bn,rfl⟩ : ∃ n:Nat,b=n:=⟨b.toNat,by omega⟩
 refine zdi z3g rfl ?_
 simp [-getElem?_pos,zve,zvf,-zbd,g1,g2,hr0,e1]
 refine za3 (fun n st => ∃ (i o e:Nat) (m:List Int),1≤i∧i+n=bn∧m.length<i∧st.V 1=iv bn∧st.V 5=iv l.length∧st.V 6 = .ref 0 none 0 0 a.length∧st.V 7 = .ref o none e 0 m.length∧st.V 8=iv i∧0<o∧o<st.nx∧st.S o=some (.row 1 (zac m))∧st.S 0=some (.row 1 (zac a))) ?_ (bn-1) _ ⟨1,1,0,[],by omega,by omega,by simp,by simp,by simp,by simp,by simp,by simp,by simp,by simp,by simp [zac],by simp⟩
 rintro n st ⟨i,o,e,m,hi1,hi,hm,v1,v5,v6,v7,v8,ho,hox,hSo,hS0⟩
 obtain ⟨x1,x2,x3,x4⟩:=fr hox
 obtain ⟨g1,g2,g3,g4⟩:=fr ho
 obtain ⟨z1,z2,z3,z4⟩:=fr (show 0<st.nx by omega)
 by_cases h:i<bn
 ·have hw:=wS h (by omega:bn≤9223372036854775807)
  have hb0 : ¬ bn=0:=by omega
  have hq:(l.length:Int)*i≤40*8:=Int.mul_le_mul (by omega) (by omega) (by omega) (by omega)
  have hq0:0≤(l.length:Int)*i:=Int.mul_nonneg (by omega) (by omega)
  have w1:=w64 (x:=(l.length:Int)*i) (by omega) (by omega)
  obtain ⟨k,hk⟩ : ∃ k:Nat,((l.length:Int)*i).tdiv bn=k:=by
   refine ⟨(((l.length:Int)*i).tdiv bn).toNat,?_⟩
   have:=Int.tdiv_nonneg hq0 (show (0:Int)≤bn by omega)
   omega
  have hkl:k≤l.length:=by
   have h3:((l.length:Int)*i).tdiv bn≤l.length:=by
    rw [Int.tdiv_eq_ediv_of_nonneg hq0]
    refine Int.ediv_le_of_le_mul (by omega) ?_
    exact Int.mul_le_mul_of_nonneg_left (by omega) (by omega)
   omega
  have w2:=w64 (x:=(k:Int)) (by omega) (by omega)
  by_cases hk1:1≤k
  ·obtain ⟨x,hx⟩ : ∃ x,a[k-1]?=some x:=⟨_,List.getElem?_eq_getElem (by omega)⟩
   obtain ⟨y,hy⟩ : ∃ x,a[a.length-1]?=some x:=⟨_,List.getElem?_eq_getElem (by omega)⟩
   have hx':=zbj hx
   have hy':=zbj hy
   rw [hsl] at hy'
   have w3:IntKind.i64.wrap ((k:Int)-1)=((k-1:Nat):Int):=by rw [w64 (by omega) (by omega)]; omega
   have w4:IntKind.i64.wrap ((l.length:Int)-1)=((l.length-1:Nat):Int):=by rw [w64 (by omega) (by omega)]; omega
   have c1:k-1<l.length:=by omega
   have c2:l.length-1<l.length:=by omega
   have hk1':(1:Int)≤k:=by omega
   have hr8:=zdc (n:=m.length+1) (by omega)
   have hsn:=zc0 m x
   by_cases hxy:x<y
   ·simp [-getElem?_pos,zql,v1,v5,v6,v7,v8,hSo,hS0,h,hw,hb0,w1,w2,w3,w4,hk,hk1,hk1',hx',hy',hsl,c1,c2,hxy,hr1,hr8,hsn,g1,g2,g3,g4,x1,x2,x3,x4,z1,z2,z3,z4]
    exact zaq (n-1) (by omega) ⟨i+1,st.nx+1,st.ep,m++[x],by omega,by omega,by simp; omega,by simp [v1],by simp [v5],by simp [v6,hsl],by simp,by simp,by omega,by simp,by simp,by simp [g1,g2,g3,g4,x1,x2,x3,x4,z1,z2,z3,z4,hS0]⟩
   ·simp [-getElem?_pos,zql,v1,v5,v6,v7,v8,hSo,hS0,h,hw,hb0,w1,w2,w3,w4,hk,hk1,hk1',hx',hy',hsl,c1,c2,hxy,g1,g2,g3,g4,x1,x2,x3,x4,z1,z2,z3,z4]
    exact zaq (n-1) (by omega) ⟨i+1,o,e,m,by omega,by omega,by omega,by simp [v1],by simp [v5],by simp [v6,hsl],by simp [v7],by simp,ho,by simp [hox],by simp [hSo],by simp [hS0]⟩
  ·have hk0:k=0:=by omega
   subst hk0
   simp [-getElem?_pos,zql,v1,v5,v6,v7,v8,hSo,hS0,h,hw,hb0,w1,w2,hk]
   exact zaq (n-1) (by omega) ⟨i+1,o,e,m,by omega,by omega,by omega,by simp [v1],by simp [v5],by simp [v6],by simp [v7],by simp,ho,by simp [hox],by simp [hSo],by simp [hS0]⟩
 ·obtain ⟨r2,h3,m',hm',rfl⟩:=yiz m (by omega)
  simp [-getElem?_pos,zql,v1,v7,v8,hSo,h,h3]
  exact ⟨m',by omega,rfl⟩
set_option maxHeartbeats 1000000 in
theorem yi1 (q:Bool) (t:Ta) (f:Nat) (ht:TaL 1048576 t) (hf:f<t.ns.length) (h40:t.rw.length≤40) (hr : ∀ r∈t.rw,r.length=t.ns.length) : ∃ r,RUN T znt [taS q t,iv f]=some r∧∃ m:List Int,m.length=t.rw.length∧r=([.own 1 (zac m)],[]):=by
 have hr0:zan 8 0=true:=by decide
 have hr1:zan 8 1=true:=by decide
 have hns:=ht.ns
 have g1:=zbs f 0 ((t.ns.length:Int)-1)
 rw [za6.mpr (by omega)] at g1
 have w1:=w64 (x:=(t.ns.length:Int)-1) (by omega) (by omega)
 refine zdi z3f rfl ?_
 simp [-getElem?_pos,zvc,zvd,hr0]
 refine za3 (fun n st => ∃ (i o e:Nat) (m:List Int),i+n=t.rw.length∧m.length=i∧st.V 1=iv f∧st.V 2 = .ptr 0 none 0 0 0∧st.V 5 = .ref o none e 0 m.length∧st.V 6=iv i∧0<o∧o<st.nx∧st.S o=some (.row 1 (zac m))∧st.S 0=some (.box (taB q t))) ?_ t.rw.length _ ⟨0,1,0,[],by omega,rfl,by simp,by simp,by simp,by simp,by simp,by simp,by simp [zac],by simp⟩
 rintro n st ⟨i,o,e,m,hi,hm,v1,v2,v5,v6,ho,hox,hSo,hS0⟩
 obtain ⟨x1,x2,x3,x4⟩:=fr hox
 obtain ⟨g1',g2,g3,g4⟩:=fr ho
 obtain ⟨z1,z2,z3,z4⟩:=fr (show 0<st.nx by omega)
 by_cases h:i<t.rw.length
 ·obtain ⟨r,hx⟩ : ∃ x,t.rw[i]?=some x:=⟨_,List.getElem?_eq_getElem h⟩
  have hx':=ze4 (q:=q) hx
  have hrl:=hr r (List.mem_of_getElem? hx)
  obtain ⟨y,hy⟩ : ∃ x,r[f]?=some x:=⟨_,List.getElem?_eq_getElem (by omega)⟩
  have hy':=zbj hy
  have hfr:f<r.length:=by omega
  have hw:=wS h (by omega:t.rw.length≤9223372036854775807)
  have hr8:=zdc (n:=m.length+1) (by omega)
  have hsn:=zc0 m y
  simp [-getElem?_pos,zxr,-zbd,v1,v2,v5,v6,hSo,hS0,h,hx',hy',hfr,g1,w1,hw,hr1,hr8,hsn,g1',g2,g3,g4,x1,x2,x3,x4,z1,z2,z3,z4]
  exact zaq (n-1) (by omega) ⟨i+1,st.nx+1,st.ep,m++[y],by omega,by simp [hm],by simp [v1],by simp [v2],by simp,by simp,by omega,by simp,by simp,by simp [g1',g2,g3,g4,x1,x2,x3,x4,z1,z2,z3,z4,hS0]⟩
 ·simp [-getElem?_pos,zxr,-zbd,v1,v2,v5,v6,hSo,hS0,h]
  exact ⟨m,by omega,rfl⟩
def zri (x:Int):Prop := -1500≤x∧x≤1500
theorem ynb (B:List Int) (hB:B.length≤9223372036854775807) (far:Bool) (n:Nat) (hn:n≤3) {st:St} {p o e:Nat} {s:Int} {Q:Ex→St→Prop} (hp:p≤B.length) (v0:st.V 0 = .ptr 0 none 0 0 0) (v3:st.V 3=iv n) (v6:st.V 6=bv far) (v8:st.V 8 = .ref o none e 0 0) (v9:st.V 9=iv (0:Nat)) (ho:0<o) (hox:o<st.nx) (hS0:st.S 0=some (.box [.sl 1 (za8 B),iv p,iv s])) (hSo:st.S o=some (.row 1 []))
  (hQ : ∀ (s':St) (p' o' e':Nat) (sd:Int) (r:List Int),r.length=n→(∀ x∈r,zba x=true)→(far=false→∀ x∈r,zri x)→p'≤B.length→(∀ k,k≠8→k≠9→k≠10→s'.V k=st.V k)→s'.V 8 = .ref o' none e' 0 n→o≤o'→o'<s'.nx→st.nx≤s'.nx→s'.ep=st.ep→s'.S o'=some (.row 1 (zac r))→s'.S 0=some (.box [.sl 1 (za8 B),iv p',iv sd])→(∀ k,k≠0→k<o→s'.S k=st.S k)→Q (.exit 2) s') :
  W (zae T) (RUN T) (.loop zqe) st Q:=by
 refine za3 (fun m s' => ∃ (i p' o' e':Nat) (sd:Int) (r:List Int),i+m=n∧r.length=i∧(∀ x∈r,zba x=true)∧(far=false→∀ x∈r,zri x)∧p'≤B.length∧(∀ k,k≠8→k≠9→k≠10→s'.V k=st.V k)∧s'.V 8 = .ref o' none e' 0 r.length∧s'.V 9=iv i∧o≤o'∧o'<s'.nx∧st.nx≤s'.nx∧s'.ep=st.ep∧s'.S o'=some (.row 1 (zac r))∧s'.S 0=some (.box [.sl 1 (za8 B),iv p',iv sd])∧(∀ k,k≠0→k<o→s'.S k=st.S k)) ?_ n _ ⟨0,p,o,e,s,[],by omega,rfl,by simp,by simp,hp,fun _ _ _ _=>rfl,by simpa using v8,by simpa using v9,by omega,hox,Nat.le_refl _,rfl,by simpa [zac] using hSo,hS0,fun _ _ _=>rfl⟩
 rintro m s' ⟨i,p',o',e',sd,r,hi,hr,hrd,hrs,hp',hV,v8',v9',hoo,hox',hnx,hep,hSo',hS0',hfr⟩
 have v0':s'.V 0 = .ptr 0 none 0 0 0:=by rw [hV 0 (by decide) (by decide) (by decide)]; exact v0
 have v3':s'.V 3=iv n:=by rw [hV 3 (by decide) (by decide) (by decide)]; exact v3
 have v6':s'.V 6=bv far:=by rw [hV 6 (by decide) (by decide) (by decide)]; exact v6
 obtain ⟨x1,x2,x3,x4⟩:=fr hox'
 obtain ⟨g1,g2,g3,g4⟩:=fr (show 0<o' by omega)
 obtain ⟨z1,z2,z3,z4⟩:=fr (show 0<s'.nx by omega)
 by_cases h:i<n
 ·have hw:=wS h (by omega:n≤9223372036854775807)
  have hr1:zan 8 1=true:=by decide
  have hr8:=zdc (n:=r.length+1) (by omega)
  obtain ⟨r1,h1,w1,p1,s1,⟨a1,rfl,had⟩,hp1,rfl⟩:=zx9 B p' sd hp' hB
  cases far with
  | true =>
   have hsn:=zc0 r a1
   simp [-getElem?_pos,zqe,v0',v3',v6',v8',v9',hSo',hS0',h,h1,hw,hr1,hr8,hsn,g1,g2,g3,g4,x1,x2,x3,x4,z1,z2,z3,z4]
   refine zaq (m-1) (by omega) ⟨i+1,p1,s'.nx+1,s'.ep,s1,r++[a1],by omega,by simp [hr],?_,fun h=>(by cases h),hp1,fun k k1 k2 k3 => ?_,by simp,by simp,by omega,by simp,by simp; omega,by simp [hep],by simp,by simp [g1,g2,g3,g4,x1,x2,x3,x4,z1,z2,z3,z4],fun k k1 k2 => ?_⟩
   ·intro x hx
    rcases List.mem_append.mp hx with hx | hx
    ·exact hrd x hx
    ·simp at hx; subst hx; exact had
   ·simp [k1,k2,k3]; exact hV k k1 k2 k3
   ·have e1:(k=s'.nx)=False:=eq_false (by omega)
    have e2:(k=s'.nx+1)=False:=eq_false (by omega)
    have e3:(k=o')=False:=eq_false (by omega)
    have e4:(k=0)=False:=eq_false k1
    simp [e1,e2,e3,e4]
    exact hfr k k1 k2
  | false =>
   obtain ⟨r2,h2,w2,p2,s2,⟨a2,rfl,a20,a21⟩,hp2,rfl⟩:=zbe B p1 s1 hp1 hB 7 (by omega)
   have a22:=a21 (by omega)
   have u1:=w64 (x:=a2-3) (by omega) (by omega)
   have u2:=w64 (x:=500*(a2-3)) (by omega) (by omega)
   have hsn:=zc0 r (500*(a2-3))
   simp [-getElem?_pos,zqe,v0',v3',v6',v8',v9',hSo',hS0',h,h1,h2,hw,u1,u2,hr1,hr8,hsn,g1,g2,g3,g4,x1,x2,x3,x4,z1,z2,z3,z4]
   refine zaq (m-1) (by omega) ⟨i+1,p2,s'.nx+1,s'.ep,s2,r++[500*(a2-3)],by omega,by simp [hr],?_,?_,hp2,fun k k1 k2 k3 => ?_,by simp,by simp,by omega,by simp,by simp; omega,by simp [hep],by simp,by simp [g1,g2,g3,g4,x1,x2,x3,x4,z1,z2,z3,z4],fun k k1 k2 => ?_⟩
   ·intro x hx
    rcases List.mem_append.mp hx with hx | hx
    ·exact hrd x hx
    ·simp at hx; subst hx; exact zov (by omega) (by omega)
   ·intro _ x hx
    rcases List.mem_append.mp hx with hx | hx
    ·exact hrs rfl x hx
    ·simp at hx; subst hx; unfold zri; omega
   ·simp [k1,k2,k3]; exact hV k k1 k2 k3
   ·have e1:(k=s'.nx)=False:=eq_false (by omega)
    have e2:(k=s'.nx+1)=False:=eq_false (by omega)
    have e3:(k=o')=False:=eq_false (by omega)
    have e4:(k=0)=False:=eq_false k1
    simp [e1,e2,e3,e4]
    exact hfr k k1 k2
 ·have hin:i=n:=by omega
  subst hin
  simp [-getElem?_pos,zqe,v3',v9',h]
  exact hQ _ p' o' e' sd r hr hrd hrs hp' (fun k k1 k2 k3=>by simp; exact hV k k1 k2 k3) (by simp [v8',hr]) hoo (by simp [hox']) (by simp [hnx]) (by simp [hep]) (by simp [hSo']) (by simp [hS0']) (fun k k1 k2=>by simp; exact hfr k k1 k2)
def PTa (v:PV):Prop := ∃ t:Ta,v=taO t∧TaL 64 t∧zjq t=true
def nm4:List ByteArray:=[bs [97],bs [98],bs [99,50],bs [100]]
theorem yom {n:Nat} (h1:1≤n) (h3:n≤3):zio (nm4.take n++[bs [121]])=true:=by
 have h:n=1∨n=2∨n=3:=by omega
 rcases h with rfl | rfl | rfl <;> decide +kernel
theorem yqn {n m:Nat} {L:List (List Int)} {Y:List Int} (h1:1≤n) (h3:n≤3) (m1:1≤m) (m2:m≤40) (hL:L.length=m) (hY:Y.length=m) (hr : ∀ r∈L,r.length=n∧∀ x∈r,zba x=true) (hy : ∀ y∈Y,zba y=true):PTa (taO ⟨nm4.take n,bs [121],L,Y⟩):=by
 have hnl:(nm4.take n).length=n:=by simp [nm4]; omega
 have hsz:(bs [121]).size=1:=rfl
 refine ⟨_,rfl,⟨by simp only [hnl]; omega,fun x hx => ?_,by simp only [hsz]; omega,by simp only [hL]; omega,fun r hr'=>by have:=(hr r hr').1; omega,by simp only [hY]; omega⟩,?_⟩
 ·have hm:=List.mem_of_mem_take hx
  simp only [nm4,List.mem_cons,List.not_mem_nil,or_false] at hm
  rcases hm with rfl | rfl | rfl | rfl <;> decide
 ·unfold zjq
  simp only [hnl,hL,hY]
  rw [za6.mpr (by omega),yom h1 h3,za6.mpr (by omega)]
  have e1:Y.all zba=true:=by rw [List.all_eq_true]; exact hy
  have e2:L.all (zf5 n)=true:=by
   rw [List.all_eq_true]
   intro r hr'
   unfold zf5
   rw [decide_eq_true (by have:=(hr r hr').1; omega:(r.length:Int)=n),List.all_eq_true.mpr (hr r hr').2]; rfl
  rw [e1,e2]; simp
set_option maxHeartbeats 4000000 in
set_option maxRecDepth 8000 in
theorem yi2 (B:List Int) (p:Nat) (s:Int) (hp:p≤B.length) (hB:B.length≤9223372036854775807) : ∃ r,RUN T znm [.bx [.sl 1 (za8 B),iv p,iv s]]=some r∧zex B PTa r:=by
 have hr0:zan 16 0=true:=by decide
 have hr1:zan 16 4=true:=by decide
 obtain ⟨r1,h1,v1,p1,s1,⟨a1,rfl,a10,a11⟩,hp1,rfl⟩:=zbe B p s hp hB 3 (by omega)
 have a12:=a11 (by omega)
 obtain ⟨n,hnf⟩ : ∃ n:Nat,1+a1=n:=⟨(1+a1).toNat,by omega⟩
 have w1:=w64 (x:=(n:Int)) (by omega) (by omega)
 have hr2:zan 16 n=true:=by simp [zan]; omega
 have hn3:n≤3:=by omega
 have hn4:n≤4:=by omega
 have hn1:1≤n:=by omega
 obtain ⟨ns,hns⟩ : ∃ ns,ns=nm4.take n:=⟨_,rfl⟩
 have hcut:(if n=4 then [[PV.v (Value.string (bs [97]))],[PV.v (Value.string (bs [98]))],[PV.v (Value.string (bs [99,50]))],[PV.v (Value.string (bs [100]))]] else List.take n [[PV.v (Value.string (bs [97]))],[PV.v (Value.string (bs [98]))],[PV.v (Value.string (bs [99,50]))],[PV.v (Value.string (bs [100]))]])=zcv ns:=by
  subst hns
  have h:n=1∨n=2∨n=3:=by omega
  rcases h with h | h | h <;> subst h <;> rfl
 have hnl:ns.length=n:=by subst hns; simp [nm4]; omega
 obtain ⟨r2,h2,v2,p2,s2,⟨a2,rfl,a20,a21⟩,hp2,rfl⟩:=zbe B p1 s1 hp1 hB 9 (by omega)
 have a22:=a21 (by omega)
 obtain ⟨r3,h3,v3,p3,s3,⟨b3,rfl⟩,hp3,rfl⟩:=zd4 B p2 s2 hp2 hB 10 (by omega)
 have key : ∀ (m:Nat) (far:Bool) (p:Nat) (s:Int) (st:St),1≤m→m≤40→p≤B.length→st.V 0 = .ptr 0 none 0 0 0→st.V 2 = .ptr 1 none 0 0 0→st.V 3=iv n→st.V 4 = .ptr 5 none 0 0 0→st.V 5=iv m→st.V 6=bv far→st.V 7=iv (0:Nat)→5<st.nx→st.S 0=some (.box [.sl 1 (za8 B),iv p,iv s])→st.S 1=some (.box [.e0,.v (.string (bs [])),.e0,.e0])→st.S 4=some (.row 1 (zcv ns))→st.S 5=some (.box [.ref 4 none 0 0 n,.v (.string (bs [121])),.e0,.e0]) →
   W (zae T) (RUN T) (.loop zuv) st (Bl 0 (Nx (fun s=>W (zae T) (RUN T) (.seq (.reg [oE 83 (.load true 4 (.V 4)),oN (.store [1,0,1,1] (.V 2) (.E 83))]) .ret) s (zhy zjh 1 (zex B PTa) ⟨⟩ ⟨⟩)) (zhy zjh 1 (zex B PTa) ⟨⟩ ⟨⟩) ⟨⟩ ⟨⟩) ⟨⟩):=by
  clear h1 h2 h3 hp1 hp2 hp3 hp
  intro m far p s st hm1 hm40 hp v0 v2 v3 v4 v5 v6 v7 h5x hS0 hS1 hS4 hS5
  refine za3 (fun k st => ∃ (i p:Nat) (s:Int) (L:List (List Int)) (Y:List Int) (xR xY:PV),i+k=m∧L.length=i∧Y.length=i∧(∀ r∈L,r.length=n∧∀ x∈r,zba x=true)∧(∀ y∈Y,zba y=true)∧p≤B.length∧st.V 0 = .ptr 0 none 0 0 0∧st.V 2 = .ptr 1 none 0 0 0∧st.V 3=iv n∧st.V 4 = .ptr 5 none 0 0 0∧st.V 5=iv m∧st.V 6=bv far∧st.V 7=iv i∧5<st.nx∧st.S 0=some (.box [.sl 1 (za8 B),iv p,iv s])∧st.S 1=some (.box [.e0,.v (.string (bs [])),.e0,.e0])∧st.S 4=some (.row 1 (zcv ns))∧st.S 5=some (.box [.ref 4 none 0 0 n,.v (.string (bs [121])),xR,xY])∧((L=[]∧Y=[]∧xR = .e0∧xY = .e0)∨∃ o1 e1 o2 e2,xR = .ref o1 none e1 0 i∧xY = .ref o2 none e2 0 i∧5<o1∧o1<st.nx∧5<o2∧o2<st.nx∧¬ o1=o2∧st.S o1=some (.row 1 (rws true L))∧st.S o2=some (.row 1 (zac Y)))) ?_ m _ ⟨0,p,s,[],[],.e0,.e0,by omega,rfl,rfl,by simp,by simp,hp,v0,v2,v3,v4,v5,v6,v7,h5x,hS0,hS1,hS4,hS5,.inl ⟨rfl,rfl,rfl,rfl⟩⟩
  clear v0 v2 v3 v4 v5 v6 v7 h5x hS0 hS1 hS4 hS5 hp
  rintro k st ⟨i,p,s,L,Y,xR,xY,hi,hL,hY,hLr,hYd,hp,v0,v2,v3,v4,v5,v6,v7,h5x,hS0,hS1,hS4,hS5,hx⟩
  obtain ⟨f1,f2,f3,f4⟩:=fr (show 0<st.nx by omega)
  obtain ⟨g1,g2,g3,g4⟩:=fr (show 1<st.nx by omega)
  obtain ⟨h1,h2,h3,h4⟩:=fr (show 4<st.nx by omega)
  obtain ⟨j1,j2,j3,j4⟩:=fr (show 5<st.nx by omega)
  by_cases h:i<m
  ·have hw:=wS h (by omega:m≤9223372036854775807)
   have hr1:zan 8 1=true:=by decide
   have hr00:zan 8 0=true:=by decide
   simp [-getElem?_pos,zuv,v5,v7,h,hr00]
   refine ynb (o:=st.nx) (e:=st.ep) (p:=p) (s:=s) B hB far n (by omega) hp (by simp [v0]) (by simp [v3]) (by simp [v6]) (by simp) (by simp) (by omega) (by simp) (by simp [f1,f2,f3,f4,g1,g2,g3,g4,h1,h2,h3,h4,j1,j2,j3,j4,hS0]) (by simp) ?_
   intro t p1 o3 e3 s1 r hr hrd hrs hp1 hV w8 ho3 ho3x hnx hep hSo3 hT0 hfr
   simp only at ho3 hnx hep
   have w0:t.V 0 = .ptr 0 none 0 0 0:=by rw [hV 0 (by decide) (by decide) (by decide)]; simp [v0]
   have w2:t.V 2 = .ptr 1 none 0 0 0:=by rw [hV 2 (by decide) (by decide) (by decide)]; simp [v2]
   have w3:t.V 3=iv n:=by rw [hV 3 (by decide) (by decide) (by decide)]; simp [v3]
   have w4:t.V 4 = .ptr 5 none 0 0 0:=by rw [hV 4 (by decide) (by decide) (by decide)]; simp [v4]
   have w5:t.V 5=iv m:=by rw [hV 5 (by decide) (by decide) (by decide)]; simp [v5]
   have w6:t.V 6=bv far:=by rw [hV 6 (by decide) (by decide) (by decide)]; simp [v6]
   have w7:t.V 7=iv i:=by rw [hV 7 (by decide) (by decide) (by decide)]; simp [v7]
   have hT1:t.S 1=some (.box [.e0,.v (.string (bs [])),.e0,.e0]):=by rw [hfr 1 (by omega) (by omega)]; simp [f1,f2,f3,f4,g1,g2,g3,g4,h1,h2,h3,h4,j1,j2,j3,j4,hS1]
   have hT4:t.S 4=some (.row 1 (zcv ns)):=by rw [hfr 4 (by omega) (by omega)]; simp [f1,f2,f3,f4,g1,g2,g3,g4,h1,h2,h3,h4,j1,j2,j3,j4,hS4]
   have hT5:t.S 5=some (.box [.ref 4 none 0 0 n,.v (.string (bs [121])),xR,xY]):=by rw [hfr 5 (by omega) (by omega)]; simp [f1,f2,f3,f4,g1,g2,g3,g4,h1,h2,h3,h4,j1,j2,j3,j4,hS5]
   obtain ⟨x0,hx0⟩ : ∃ x,r[0]?=some x:=⟨_,List.getElem?_eq_getElem (by omega)⟩
   have hx0':=zbj hx0
   obtain ⟨q1,d1,_,p2,s2,⟨y,rfl,hyd⟩,hp2,rfl⟩:=zx9 B p1 s1 hp1 hB
   have hr24:zan 24 1=true:=by decide
   have hr24':zan 24 (i+1)=true:=by simp [zan]; omega
   have hr8:=zdc (n:=i+1) (by omega)
   have hsn1:=zqz L r
   have hn0:(0:Nat)<n:=by omega
   have na : ∀ a b:Nat,t.nx+a+b=t.nx+(a+b):=fun a b=>Nat.add_assoc _ _ _
   obtain ⟨F1,F2,F3,F4⟩:=fr (show 0<t.nx by omega)
   obtain ⟨G1,G2,G3,G4⟩:=fr (show 1<t.nx by omega)
   obtain ⟨H1,H2,H3,H4⟩:=fr (show 4<t.nx by omega)
   obtain ⟨J1,J2,J3,J4⟩:=fr (show 5<t.nx by omega)
   obtain ⟨O1,O2,O3,O4⟩:=fr (show o3<t.nx by omega)
   have n0a:(o3=0)=False:=eq_false (by omega)
   have n0b:(0=o3)=False:=eq_false (by omega)
   have n1a:(o3=1)=False:=eq_false (by omega)
   have n1b:(1=o3)=False:=eq_false (by omega)
   have n2a:(o3=4)=False:=eq_false (by omega)
   have n2b:(4=o3)=False:=eq_false (by omega)
   have n3a:(o3=5)=False:=eq_false (by omega)
   have n3b:(5=o3)=False:=eq_false (by omega)
   rcases hx with ⟨rfl,rfl,rfl,rfl⟩ | ⟨o1,e1,o2,e2,rfl,rfl,ho1,ho1x,ho2,ho2x,ho12,hSo1,hSo2⟩
   ·have hi0:i=0:=by simpa using hL.symm
    subst hi0
    cases far with
    | true =>
     simp [-getElem?_pos,w0,w2,w3,w4,w5,w6,w7,w8,hT0,hT1,hT4,hT5,hSo3,hx0',hn0,hr,hw,hr1,d1,hr24,na,F1,F2,F3,F4,G1,G2,G3,G4,H1,H2,H3,H4,J1,J2,J3,J4,O1,O2,O3,O4,n0a,n0b,n1a,n1b,n2a,n2b,n3a,n3b]
     refine zaq (k-1) (by omega) ⟨0+1,p2,s2,[]++[r],[]++[y],.ref (t.nx+1) none t.ep 0 (0+1),.ref (t.nx+3) none t.ep 0 (0+1),by omega,by simp [hL],by simp [hY],?_,?_,by assumption,by simp [w0],by simp [w2],by simp [w3],by simp [w4],by simp [w5],by simp [w6],by simp,by simp; omega,by simp [F1,F2,F3,F4,G1,G2,G3,G4,H1,H2,H3,H4,J1,J2,J3,J4,O1,O2,O3,O4,n0a,n0b,n1a,n1b,n2a,n2b,n3a,n3b],by simp [F1,F2,F3,F4,G1,G2,G3,G4,H1,H2,H3,H4,J1,J2,J3,J4,O1,O2,O3,O4,n0a,n0b,n1a,n1b,n2a,n2b,n3a,n3b,hT1],by simp [F1,F2,F3,F4,G1,G2,G3,G4,H1,H2,H3,H4,J1,J2,J3,J4,O1,O2,O3,O4,n0a,n0b,n1a,n1b,n2a,n2b,n3a,n3b,hT4],by simp [F1,F2,F3,F4,G1,G2,G3,G4,H1,H2,H3,H4,J1,J2,J3,J4,O1,O2,O3,O4,n0a,n0b,n1a,n1b,n2a,n2b,n3a,n3b],.inr ⟨t.nx+1,t.ep,t.nx+3,t.ep,rfl,rfl,by omega,by simp,by omega,by simp,by omega,by simp [F1,F2,F3,F4,G1,G2,G3,G4,H1,H2,H3,H4,J1,J2,J3,J4,O1,O2,O3,O4,n0a,n0b,n1a,n1b,n2a,n2b,n3a,n3b,rws,cel],by simp [F1,F2,F3,F4,G1,G2,G3,G4,H1,H2,H3,H4,J1,J2,J3,J4,O1,O2,O3,O4,n0a,n0b,n1a,n1b,n2a,n2b,n3a,n3b,zac]⟩⟩
     ·intro r' hr'
      rcases List.mem_append.mp hr' with hr' | hr'
      ·exact hLr r' hr'
      ·simp at hr'; subst hr'; exact ⟨hr,hrd⟩
     ·intro y' hy'
      rcases List.mem_append.mp hy' with hy' | hy'
      ·exact hYd y' hy'
      ·simp at hy'; subst hy'; exact hyd
    | false =>
     have hsx:=hrs rfl x0 (List.mem_of_getElem? hx0)
     unfold zri at hsx
     obtain ⟨q2,d2,_,p3,s3,⟨b4,rfl⟩,hp3,rfl⟩:=zd4 B p2 s2 hp2 hB 4 (by omega)
     cases b4 with
     | true =>
      simp [-getElem?_pos,w0,w2,w3,w4,w5,w6,w7,w8,hT0,hT1,hT4,hT5,hSo3,hx0',hn0,hr,hw,hr1,d1,hr24,na,d2,F1,F2,F3,F4,G1,G2,G3,G4,H1,H2,H3,H4,J1,J2,J3,J4,O1,O2,O3,O4,n0a,n0b,n1a,n1b,n2a,n2b,n3a,n3b]
      refine zaq (k-1) (by omega) ⟨0+1,p3,s3,[]++[r],[]++[y],.ref (t.nx+1) none t.ep 0 (0+1),.ref (t.nx+3) none t.ep 0 (0+1),by omega,by simp [hL],by simp [hY],?_,?_,by assumption,by simp [w0],by simp [w2],by simp [w3],by simp [w4],by simp [w5],by simp [w6],by simp,by simp; omega,by simp [F1,F2,F3,F4,G1,G2,G3,G4,H1,H2,H3,H4,J1,J2,J3,J4,O1,O2,O3,O4,n0a,n0b,n1a,n1b,n2a,n2b,n3a,n3b],by simp [F1,F2,F3,F4,G1,G2,G3,G4,H1,H2,H3,H4,J1,J2,J3,J4,O1,O2,O3,O4,n0a,n0b,n1a,n1b,n2a,n2b,n3a,n3b,hT1],by simp [F1,F2,F3,F4,G1,G2,G3,G4,H1,H2,H3,H4,J1,J2,J3,J4,O1,O2,O3,O4,n0a,n0b,n1a,n1b,n2a,n2b,n3a,n3b,hT4],by simp [F1,F2,F3,F4,G1,G2,G3,G4,H1,H2,H3,H4,J1,J2,J3,J4,O1,O2,O3,O4,n0a,n0b,n1a,n1b,n2a,n2b,n3a,n3b],.inr ⟨t.nx+1,t.ep,t.nx+3,t.ep,rfl,rfl,by omega,by simp,by omega,by simp,by omega,by simp [F1,F2,F3,F4,G1,G2,G3,G4,H1,H2,H3,H4,J1,J2,J3,J4,O1,O2,O3,O4,n0a,n0b,n1a,n1b,n2a,n2b,n3a,n3b,rws,cel],by simp [F1,F2,F3,F4,G1,G2,G3,G4,H1,H2,H3,H4,J1,J2,J3,J4,O1,O2,O3,O4,n0a,n0b,n1a,n1b,n2a,n2b,n3a,n3b,zac]⟩⟩
      ·intro r' hr'
       rcases List.mem_append.mp hr' with hr' | hr'
       ·exact hLr r' hr'
       ·simp at hr'; subst hr'; exact ⟨hr,hrd⟩
      ·intro y' hy'
       rcases List.mem_append.mp hy' with hy' | hy'
       ·exact hYd y' hy'
       ·simp at hy'; subst hy'; exact hyd
     | false =>
      obtain ⟨q3,d3,_,p4,s4,⟨a4,rfl,a40,a41⟩,hp4,rfl⟩:=zbe B p3 s3 hp3 hB 5 (by omega)
      have a42:=a41 (by omega)
      have u1:=w64 (x:=x0*2) (by omega) (by omega)
      have u2:=w64 (x:=100*a4) (by omega) (by omega)
      have u3:=w64 (x:=x0*2+100*a4) (by omega) (by omega)
      simp [-getElem?_pos,w0,w2,w3,w4,w5,w6,w7,w8,hT0,hT1,hT4,hT5,hSo3,hx0',hn0,hr,hw,hr1,d1,hr24,na,d2,d3,u1,u2,u3,F1,F2,F3,F4,G1,G2,G3,G4,H1,H2,H3,H4,J1,J2,J3,J4,O1,O2,O3,O4,n0a,n0b,n1a,n1b,n2a,n2b,n3a,n3b]
      refine zaq (k-1) (by omega) ⟨0+1,p4,s4,[]++[r],[]++[x0*2+100*a4],.ref (t.nx+1) none t.ep 0 (0+1),.ref (t.nx+3) none t.ep 0 (0+1),by omega,by simp [hL],by simp [hY],?_,?_,by assumption,by simp [w0],by simp [w2],by simp [w3],by simp [w4],by simp [w5],by simp [w6],by simp,by simp; omega,by simp [F1,F2,F3,F4,G1,G2,G3,G4,H1,H2,H3,H4,J1,J2,J3,J4,O1,O2,O3,O4,n0a,n0b,n1a,n1b,n2a,n2b,n3a,n3b],by simp [F1,F2,F3,F4,G1,G2,G3,G4,H1,H2,H3,H4,J1,J2,J3,J4,O1,O2,O3,O4,n0a,n0b,n1a,n1b,n2a,n2b,n3a,n3b,hT1],by simp [F1,F2,F3,F4,G1,G2,G3,G4,H1,H2,H3,H4,J1,J2,J3,J4,O1,O2,O3,O4,n0a,n0b,n1a,n1b,n2a,n2b,n3a,n3b,hT4],by simp [F1,F2,F3,F4,G1,G2,G3,G4,H1,H2,H3,H4,J1,J2,J3,J4,O1,O2,O3,O4,n0a,n0b,n1a,n1b,n2a,n2b,n3a,n3b],.inr ⟨t.nx+1,t.ep,t.nx+3,t.ep,rfl,rfl,by omega,by simp,by omega,by simp,by omega,by simp [F1,F2,F3,F4,G1,G2,G3,G4,H1,H2,H3,H4,J1,J2,J3,J4,O1,O2,O3,O4,n0a,n0b,n1a,n1b,n2a,n2b,n3a,n3b,rws,cel],by simp [F1,F2,F3,F4,G1,G2,G3,G4,H1,H2,H3,H4,J1,J2,J3,J4,O1,O2,O3,O4,n0a,n0b,n1a,n1b,n2a,n2b,n3a,n3b,zac]⟩⟩
      ·intro r' hr'
       rcases List.mem_append.mp hr' with hr' | hr'
       ·exact hLr r' hr'
       ·simp at hr'; subst hr'; exact ⟨hr,hrd⟩
      ·intro y' hy'
       rcases List.mem_append.mp hy' with hy' | hy'
       ·exact hYd y' hy'
       ·simp at hy'; subst hy'; exact zov (by omega) (by omega)
   ·have hT6:t.S o1=some (.row 1 (rws true L)):=by rw [hfr o1 (by omega) (by omega)]; simp [show (o1=st.nx)=False from eq_false (by omega),hSo1]
    have hT7:t.S o2=some (.row 1 (zac Y)):=by rw [hfr o2 (by omega) (by omega)]; simp [show (o2=st.nx)=False from eq_false (by omega),hSo2]
    obtain ⟨P1,P2,P3,P4⟩:=fr (show o1<t.nx by omega)
    obtain ⟨Q1,Q2,Q3,Q4⟩:=fr (show o2<t.nx by omega)
    have m0a:(o1=0)=False:=eq_false (by omega)
    have m0b:(0=o1)=False:=eq_false (by omega)
    have m1a:(o1=1)=False:=eq_false (by omega)
    have m1b:(1=o1)=False:=eq_false (by omega)
    have m2a:(o1=4)=False:=eq_false (by omega)
    have m2b:(4=o1)=False:=eq_false (by omega)
    have m3a:(o1=5)=False:=eq_false (by omega)
    have m3b:(5=o1)=False:=eq_false (by omega)
    have m4a:(o2=0)=False:=eq_false (by omega)
    have m4b:(0=o2)=False:=eq_false (by omega)
    have m5a:(o2=1)=False:=eq_false (by omega)
    have m5b:(1=o2)=False:=eq_false (by omega)
    have m6a:(o2=4)=False:=eq_false (by omega)
    have m6b:(4=o2)=False:=eq_false (by omega)
    have m7a:(o2=5)=False:=eq_false (by omega)
    have m7b:(5=o2)=False:=eq_false (by omega)
    have m8a:(o1=o3)=False:=eq_false (by omega)
    have m8b:(o3=o1)=False:=eq_false (by omega)
    have m9a:(o2=o3)=False:=eq_false (by omega)
    have m9b:(o3=o2)=False:=eq_false (by omega)
    have m10a:(o1=o2)=False:=eq_false (by omega)
    have m10b:(o2=o1)=False:=eq_false (by omega)
    cases far with
    | true =>
     simp [-getElem?_pos,w0,w2,w3,w4,w5,w6,w7,w8,hT0,hT1,hT4,hT5,hSo3,hx0',hn0,hr,hw,hr1,d1,hr24,na,hT6,hT7,hr24',hr8,hsn1,hL,hY,zc0,F1,F2,F3,F4,G1,G2,G3,G4,H1,H2,H3,H4,J1,J2,J3,J4,O1,O2,O3,O4,n0a,n0b,n1a,n1b,n2a,n2b,n3a,n3b,P1,P2,P3,P4,Q1,Q2,Q3,Q4,m0a,m0b,m1a,m1b,m2a,m2b,m3a,m3b,m4a,m4b,m5a,m5b,m6a,m6b,m7a,m7b,m8a,m8b,m9a,m9b,m10a,m10b]
     refine zaq (k-1) (by omega) ⟨i+1,p2,s2,L++[r],Y++[y],.ref (t.nx+1) none t.ep 0 (i+1),.ref (t.nx+3) none t.ep 0 (i+1),by omega,by simp [hL],by simp [hY],?_,?_,by assumption,by simp [w0],by simp [w2],by simp [w3],by simp [w4],by simp [w5],by simp [w6],by simp,by simp; omega,by simp [F1,F2,F3,F4,G1,G2,G3,G4,H1,H2,H3,H4,J1,J2,J3,J4,O1,O2,O3,O4,n0a,n0b,n1a,n1b,n2a,n2b,n3a,n3b,P1,P2,P3,P4,Q1,Q2,Q3,Q4,m0a,m0b,m1a,m1b,m2a,m2b,m3a,m3b,m4a,m4b,m5a,m5b,m6a,m6b,m7a,m7b,m8a,m8b,m9a,m9b,m10a,m10b],by simp [F1,F2,F3,F4,G1,G2,G3,G4,H1,H2,H3,H4,J1,J2,J3,J4,O1,O2,O3,O4,n0a,n0b,n1a,n1b,n2a,n2b,n3a,n3b,P1,P2,P3,P4,Q1,Q2,Q3,Q4,m0a,m0b,m1a,m1b,m2a,m2b,m3a,m3b,m4a,m4b,m5a,m5b,m6a,m6b,m7a,m7b,m8a,m8b,m9a,m9b,m10a,m10b,hT1],by simp [F1,F2,F3,F4,G1,G2,G3,G4,H1,H2,H3,H4,J1,J2,J3,J4,O1,O2,O3,O4,n0a,n0b,n1a,n1b,n2a,n2b,n3a,n3b,P1,P2,P3,P4,Q1,Q2,Q3,Q4,m0a,m0b,m1a,m1b,m2a,m2b,m3a,m3b,m4a,m4b,m5a,m5b,m6a,m6b,m7a,m7b,m8a,m8b,m9a,m9b,m10a,m10b,hT4],by simp [F1,F2,F3,F4,G1,G2,G3,G4,H1,H2,H3,H4,J1,J2,J3,J4,O1,O2,O3,O4,n0a,n0b,n1a,n1b,n2a,n2b,n3a,n3b,P1,P2,P3,P4,Q1,Q2,Q3,Q4,m0a,m0b,m1a,m1b,m2a,m2b,m3a,m3b,m4a,m4b,m5a,m5b,m6a,m6b,m7a,m7b,m8a,m8b,m9a,m9b,m10a,m10b],.inr ⟨t.nx+1,t.ep,t.nx+3,t.ep,rfl,rfl,by omega,by simp,by omega,by simp,by omega,by simp [F1,F2,F3,F4,G1,G2,G3,G4,H1,H2,H3,H4,J1,J2,J3,J4,O1,O2,O3,O4,n0a,n0b,n1a,n1b,n2a,n2b,n3a,n3b,P1,P2,P3,P4,Q1,Q2,Q3,Q4,m0a,m0b,m1a,m1b,m2a,m2b,m3a,m3b,m4a,m4b,m5a,m5b,m6a,m6b,m7a,m7b,m8a,m8b,m9a,m9b,m10a,m10b],by simp [F1,F2,F3,F4,G1,G2,G3,G4,H1,H2,H3,H4,J1,J2,J3,J4,O1,O2,O3,O4,n0a,n0b,n1a,n1b,n2a,n2b,n3a,n3b,P1,P2,P3,P4,Q1,Q2,Q3,Q4,m0a,m0b,m1a,m1b,m2a,m2b,m3a,m3b,m4a,m4b,m5a,m5b,m6a,m6b,m7a,m7b,m8a,m8b,m9a,m9b,m10a,m10b]⟩⟩
     ·intro r' hr'
      rcases List.mem_append.mp hr' with hr' | hr'
      ·exact hLr r' hr'
      ·simp at hr'; subst hr'; exact ⟨hr,hrd⟩
     ·intro y' hy'
      rcases List.mem_append.mp hy' with hy' | hy'
      ·exact hYd y' hy'
      ·simp at hy'; subst hy'; exact hyd
    | false =>
     have hsx:=hrs rfl x0 (List.mem_of_getElem? hx0)
     unfold zri at hsx
     obtain ⟨q2,d2,_,p3,s3,⟨b4,rfl⟩,hp3,rfl⟩:=zd4 B p2 s2 hp2 hB 4 (by omega)
     cases b4 with
     | true =>
      simp [-getElem?_pos,w0,w2,w3,w4,w5,w6,w7,w8,hT0,hT1,hT4,hT5,hSo3,hx0',hn0,hr,hw,hr1,d1,hr24,na,hT6,hT7,hr24',hr8,hsn1,hL,hY,zc0,d2,F1,F2,F3,F4,G1,G2,G3,G4,H1,H2,H3,H4,J1,J2,J3,J4,O1,O2,O3,O4,n0a,n0b,n1a,n1b,n2a,n2b,n3a,n3b,P1,P2,P3,P4,Q1,Q2,Q3,Q4,m0a,m0b,m1a,m1b,m2a,m2b,m3a,m3b,m4a,m4b,m5a,m5b,m6a,m6b,m7a,m7b,m8a,m8b,m9a,m9b,m10a,m10b]
      refine zaq (k-1) (by omega) ⟨i+1,p3,s3,L++[r],Y++[y],.ref (t.nx+1) none t.ep 0 (i+1),.ref (t.nx+3) none t.ep 0 (i+1),by omega,by simp [hL],by simp [hY],?_,?_,by assumption,by simp [w0],by simp [w2],by simp [w3],by simp [w4],by simp [w5],by simp [w6],by simp,by simp; omega,by simp [F1,F2,F3,F4,G1,G2,G3,G4,H1,H2,H3,H4,J1,J2,J3,J4,O1,O2,O3,O4,n0a,n0b,n1a,n1b,n2a,n2b,n3a,n3b,P1,P2,P3,P4,Q1,Q2,Q3,Q4,m0a,m0b,m1a,m1b,m2a,m2b,m3a,m3b,m4a,m4b,m5a,m5b,m6a,m6b,m7a,m7b,m8a,m8b,m9a,m9b,m10a,m10b],by simp [F1,F2,F3,F4,G1,G2,G3,G4,H1,H2,H3,H4,J1,J2,J3,J4,O1,O2,O3,O4,n0a,n0b,n1a,n1b,n2a,n2b,n3a,n3b,P1,P2,P3,P4,Q1,Q2,Q3,Q4,m0a,m0b,m1a,m1b,m2a,m2b,m3a,m3b,m4a,m4b,m5a,m5b,m6a,m6b,m7a,m7b,m8a,m8b,m9a,m9b,m10a,m10b,hT1],by simp [F1,F2,F3,F4,G1,G2,G3,G4,H1,H2,H3,H4,J1,J2,J3,J4,O1,O2,O3,O4,n0a,n0b,n1a,n1b,n2a,n2b,n3a,n3b,P1,P2,P3,P4,Q1,Q2,Q3,Q4,m0a,m0b,m1a,m1b,m2a,m2b,m3a,m3b,m4a,m4b,m5a,m5b,m6a,m6b,m7a,m7b,m8a,m8b,m9a,m9b,m10a,m10b,hT4],by simp [F1,F2,F3,F4,G1,G2,G3,G4,H1,H2,H3,H4,J1,J2,J3,J4,O1,O2,O3,O4,n0a,n0b,n1a,n1b,n2a,n2b,n3a,n3b,P1,P2,P3,P4,Q1,Q2,Q3,Q4,m0a,m0b,m1a,m1b,m2a,m2b,m3a,m3b,m4a,m4b,m5a,m5b,m6a,m6b,m7a,m7b,m8a,m8b,m9a,m9b,m10a,m10b],.inr ⟨t.nx+1,t.ep,t.nx+3,t.ep,rfl,rfl,by omega,by simp,by omega,by simp,by omega,by simp [F1,F2,F3,F4,G1,G2,G3,G4,H1,H2,H3,H4,J1,J2,J3,J4,O1,O2,O3,O4,n0a,n0b,n1a,n1b,n2a,n2b,n3a,n3b,P1,P2,P3,P4,Q1,Q2,Q3,Q4,m0a,m0b,m1a,m1b,m2a,m2b,m3a,m3b,m4a,m4b,m5a,m5b,m6a,m6b,m7a,m7b,m8a,m8b,m9a,m9b,m10a,m10b],by simp [F1,F2,F3,F4,G1,G2,G3,G4,H1,H2,H3,H4,J1,J2,J3,J4,O1,O2,O3,O4,n0a,n0b,n1a,n1b,n2a,n2b,n3a,n3b,P1,P2,P3,P4,Q1,Q2,Q3,Q4,m0a,m0b,m1a,m1b,m2a,m2b,m3a,m3b,m4a,m4b,m5a,m5b,m6a,m6b,m7a,m7b,m8a,m8b,m9a,m9b,m10a,m10b]⟩⟩
      ·intro r' hr'
       rcases List.mem_append.mp hr' with hr' | hr'
       ·exact hLr r' hr'
       ·simp at hr'; subst hr'; exact ⟨hr,hrd⟩
      ·intro y' hy'
       rcases List.mem_append.mp hy' with hy' | hy'
       ·exact hYd y' hy'
       ·simp at hy'; subst hy'; exact hyd
     | false =>
      obtain ⟨q3,d3,_,p4,s4,⟨a4,rfl,a40,a41⟩,hp4,rfl⟩:=zbe B p3 s3 hp3 hB 5 (by omega)
      have a42:=a41 (by omega)
      have u1:=w64 (x:=x0*2) (by omega) (by omega)
      have u2:=w64 (x:=100*a4) (by omega) (by omega)
      have u3:=w64 (x:=x0*2+100*a4) (by omega) (by omega)
      simp [-getElem?_pos,w0,w2,w3,w4,w5,w6,w7,w8,hT0,hT1,hT4,hT5,hSo3,hx0',hn0,hr,hw,hr1,d1,hr24,na,hT6,hT7,hr24',hr8,hsn1,hL,hY,zc0,d2,d3,u1,u2,u3,F1,F2,F3,F4,G1,G2,G3,G4,H1,H2,H3,H4,J1,J2,J3,J4,O1,O2,O3,O4,n0a,n0b,n1a,n1b,n2a,n2b,n3a,n3b,P1,P2,P3,P4,Q1,Q2,Q3,Q4,m0a,m0b,m1a,m1b,m2a,m2b,m3a,m3b,m4a,m4b,m5a,m5b,m6a,m6b,m7a,m7b,m8a,m8b,m9a,m9b,m10a,m10b]
      refine zaq (k-1) (by omega) ⟨i+1,p4,s4,L++[r],Y++[x0*2+100*a4],.ref (t.nx+1) none t.ep 0 (i+1),.ref (t.nx+3) none t.ep 0 (i+1),by omega,by simp [hL],by simp [hY],?_,?_,by assumption,by simp [w0],by simp [w2],by simp [w3],by simp [w4],by simp [w5],by simp [w6],by simp,by simp; omega,by simp [F1,F2,F3,F4,G1,G2,G3,G4,H1,H2,H3,H4,J1,J2,J3,J4,O1,O2,O3,O4,n0a,n0b,n1a,n1b,n2a,n2b,n3a,n3b,P1,P2,P3,P4,Q1,Q2,Q3,Q4,m0a,m0b,m1a,m1b,m2a,m2b,m3a,m3b,m4a,m4b,m5a,m5b,m6a,m6b,m7a,m7b,m8a,m8b,m9a,m9b,m10a,m10b],by simp [F1,F2,F3,F4,G1,G2,G3,G4,H1,H2,H3,H4,J1,J2,J3,J4,O1,O2,O3,O4,n0a,n0b,n1a,n1b,n2a,n2b,n3a,n3b,P1,P2,P3,P4,Q1,Q2,Q3,Q4,m0a,m0b,m1a,m1b,m2a,m2b,m3a,m3b,m4a,m4b,m5a,m5b,m6a,m6b,m7a,m7b,m8a,m8b,m9a,m9b,m10a,m10b,hT1],by simp [F1,F2,F3,F4,G1,G2,G3,G4,H1,H2,H3,H4,J1,J2,J3,J4,O1,O2,O3,O4,n0a,n0b,n1a,n1b,n2a,n2b,n3a,n3b,P1,P2,P3,P4,Q1,Q2,Q3,Q4,m0a,m0b,m1a,m1b,m2a,m2b,m3a,m3b,m4a,m4b,m5a,m5b,m6a,m6b,m7a,m7b,m8a,m8b,m9a,m9b,m10a,m10b,hT4],by simp [F1,F2,F3,F4,G1,G2,G3,G4,H1,H2,H3,H4,J1,J2,J3,J4,O1,O2,O3,O4,n0a,n0b,n1a,n1b,n2a,n2b,n3a,n3b,P1,P2,P3,P4,Q1,Q2,Q3,Q4,m0a,m0b,m1a,m1b,m2a,m2b,m3a,m3b,m4a,m4b,m5a,m5b,m6a,m6b,m7a,m7b,m8a,m8b,m9a,m9b,m10a,m10b],.inr ⟨t.nx+1,t.ep,t.nx+3,t.ep,rfl,rfl,by omega,by simp,by omega,by simp,by omega,by simp [F1,F2,F3,F4,G1,G2,G3,G4,H1,H2,H3,H4,J1,J2,J3,J4,O1,O2,O3,O4,n0a,n0b,n1a,n1b,n2a,n2b,n3a,n3b,P1,P2,P3,P4,Q1,Q2,Q3,Q4,m0a,m0b,m1a,m1b,m2a,m2b,m3a,m3b,m4a,m4b,m5a,m5b,m6a,m6b,m7a,m7b,m8a,m8b,m9a,m9b,m10a,m10b],by simp [F1,F2,F3,F4,G1,G2,G3,G4,H1,H2,H3,H4,J1,J2,J3,J4,O1,O2,O3,O4,n0a,n0b,n1a,n1b,n2a,n2b,n3a,n3b,P1,P2,P3,P4,Q1,Q2,Q3,Q4,m0a,m0b,m1a,m1b,m2a,m2b,m3a,m3b,m4a,m4b,m5a,m5b,m6a,m6b,m7a,m7b,m8a,m8b,m9a,m9b,m10a,m10b]⟩⟩
      ·intro r' hr'
       rcases List.mem_append.mp hr' with hr' | hr'
       ·exact hLr r' hr'
       ·simp at hr'; subst hr'; exact ⟨hr,hrd⟩
      ·intro y' hy'
       rcases List.mem_append.mp hy' with hy' | hy'
       ·exact hYd y' hy'
       ·simp at hy'; subst hy'; exact zov (by omega) (by omega)
  ·have him:i=m:=by omega
   subst him
   rcases hx with ⟨rfl,rfl,rfl,rfl⟩ | ⟨o1,e1,o2,e2,rfl,rfl,ho1,ho1x,ho2,ho2x,ho12,hSo1,hSo2⟩
   ·simp at hL; omega
   ·have n0a:(o1=0)=False:=eq_false (by omega)
    have n0b:(0=o1)=False:=eq_false (by omega)
    have n1a:(o1=1)=False:=eq_false (by omega)
    have n1b:(1=o1)=False:=eq_false (by omega)
    have n2a:(o1=4)=False:=eq_false (by omega)
    have n2b:(4=o1)=False:=eq_false (by omega)
    have n3a:(o1=5)=False:=eq_false (by omega)
    have n3b:(5=o1)=False:=eq_false (by omega)
    have n4a:(o2=0)=False:=eq_false (by omega)
    have n4b:(0=o2)=False:=eq_false (by omega)
    have n5a:(o2=1)=False:=eq_false (by omega)
    have n5b:(1=o2)=False:=eq_false (by omega)
    have n6a:(o2=4)=False:=eq_false (by omega)
    have n6b:(4=o2)=False:=eq_false (by omega)
    have n7a:(o2=5)=False:=eq_false (by omega)
    have n7b:(5=o2)=False:=eq_false (by omega)
    have n8a:(o1=o2)=False:=eq_false (by omega)
    have n8b:(o2=o1)=False:=eq_false (by omega)
    have hfin:=yqn hn1 hn3 hm1 hm40 hL hY hLr hYd
    rw [← hns] at hfin
    have hq1:1≤o1:=by omega
    have hq2:1≤o2:=by omega
    simp [-getElem?_pos,zuv,zjh,hq1,hq2,v0,v2,v4,v5,v7,h,hS0,hS1,hS4,hS5,hSo1,hSo2,hnl,hL,hY,n0a,n0b,n1a,n1b,n2a,n2b,n3a,n3b,n4a,n4b,n5a,n5b,n6a,n6b,n7a,n7b,n8a,n8b]
    exact ⟨_,p,s,hfin,hp,rfl⟩
 obtain ⟨r4,h4,v4,p4,s4,⟨b4,rfl⟩,hp4,rfl⟩:=zd4 B p3 s3 hp3 hB 12 (by omega)
 refine zdi z21 rfl ?_
 cases b3 with
 | false =>
  obtain ⟨m,hm⟩ : ∃ m:Nat,1+a2=m:=⟨(1+a2).toNat,by omega⟩
  have w2:=w64 (x:=(m:Int)) (by omega) (by omega)
  simp [-getElem?_pos,zqf,zjh,h1,h2,h3,h4,hnf,hm,w1,w2,hr0,hr1,hr2,hn4,hcut,z5q,hnl]
  exact key m b4 p4 s4 _ (by omega) (by omega) hp4 (by simp) (by simp) (by simp) (by simp) (by simp) (by simp) (by simp) (by simp) (by simp) (by simp) (by simp) (by simp)
 | true =>
  obtain ⟨r5,h5,v5,p5,s5,⟨a5,rfl,a50,a51⟩,hp5,rfl⟩:=zbe B p3 s3 hp3 hB 40 (by omega)
  have a52:=a51 (by omega)
  obtain ⟨m,hm⟩ : ∃ m:Nat,1+a5=m:=⟨(1+a5).toNat,by omega⟩
  have w2:=w64 (x:=(m:Int)) (by omega) (by omega)
  have w3:=w64 (x:=1+a2) (by omega) (by omega)
  obtain ⟨r6,h6,v6,p6,s6,⟨b6,rfl⟩,hp6,rfl⟩:=zd4 B p5 s5 hp5 hB 12 (by omega)
  simp [-getElem?_pos,zqf,zjh,h1,h2,h3,h5,h6,hnf,hm,w1,w2,w3,hr0,hr1,hr2,hn4,hcut,z5q,hnl]
  exact key m b6 p6 s6 _ (by omega) (by omega) hp6 (by simp) (by simp) (by simp) (by simp) (by simp) (by simp) (by simp) (by simp) (by simp) (by simp) (by simp) (by simp)
theorem yjg (cuts col:List Int) (hcu:cuts.length≤8) (hco:col.length≤40) {st:St} {q1 e1 q2 e2 q3 e3:Nat} {Q:Ex→St→Prop} (v7:st.V 7 = .ref q1 none e1 0 col.length) (v8:st.V 8 = .ref q2 none e2 0 cuts.length) (v9:st.V 9 = .ref q3 none e3 0 0) (v10:st.V 10=iv (0:Nat)) (h1:q1<q3) (h2:q2<q3) (h3:q3<st.nx) (hS1:st.S q1=some (.row 1 (zac col))) (hS2:st.S q2=some (.row 1 (zac cuts))) (hS3:st.S q3=some (.row 1 []))
  (hQ : ∀ (s':St) (q' e':Nat) (bins:List Int),bins.length=col.length→(∀ x∈bins,0≤x∧x≤8)→(∀ k,k≠9→k≠10→s'.V k=st.V k)→s'.V 9 = .ref q' none e' 0 bins.length→q3≤q'→q'<s'.nx→st.nx≤s'.nx→s'.S q'=some (.row 1 (zac bins))→(∀ k,k<q3→s'.S k=st.S k)→Q (.exit 2) s') :
  W (zae T) (RUN T) (.loop zus) st Q:=by
 refine za3 (fun m s' => ∃ (i q' e':Nat) (bins:List Int),i+m=col.length∧bins.length=i∧(∀ x∈bins,0≤x∧x≤8)∧(∀ k,k≠9→k≠10→s'.V k=st.V k)∧s'.V 9 = .ref q' none e' 0 bins.length∧s'.V 10=iv i∧q3≤q'∧q'<s'.nx∧st.nx≤s'.nx∧s'.S q'=some (.row 1 (zac bins))∧(∀ k,k<q3→s'.S k=st.S k)) ?_ col.length _ ⟨0,q3,e3,[],by omega,rfl,by simp,fun _ _ _=>rfl,by simpa using v9,by simpa using v10,by omega,h3,Nat.le_refl _,by simpa [zac] using hS3,fun _ _=>rfl⟩
 rintro m s' ⟨i,q',e',bins,hi,hb,hbb,hV,v9',v10',hq,hqx,hnx,hSq,hfr⟩
 have v7':s'.V 7 = .ref q1 none e1 0 col.length:=by rw [hV 7 (by decide) (by decide)]; exact v7
 have v8':s'.V 8 = .ref q2 none e2 0 cuts.length:=by rw [hV 8 (by decide) (by decide)]; exact v8
 have hS1':s'.S q1=some (.row 1 (zac col)):=by rw [hfr q1 h1]; exact hS1
 have hS2':s'.S q2=some (.row 1 (zac cuts)):=by rw [hfr q2 h2]; exact hS2
 by_cases h:i<col.length
 ·obtain ⟨x,hx⟩ : ∃ x,col[i]?=some x:=⟨_,List.getElem?_eq_getElem h⟩
  have hx':=zbj hx
  have hw:=wS h (by omega:col.length≤9223372036854775807)
  have hr1:zan 8 1=true:=by decide
  have hr8:=zdc (n:=bins.length+1) (by omega)
  obtain ⟨r2,h4,y,hy,rfl⟩:=yiy cuts x (by omega)
  have hsn:=zc0 bins (y:Int)
  have a1:=fr hqx
  have a2:=fr (show q1<q' by omega)
  have a3:=fr (show q2<q' by omega)
  have a4:=fr (show q1<s'.nx by omega)
  have a5:=fr (show q2<s'.nx by omega)
  simp [-getElem?_pos,zus,v7',v8',v9',v10',hS1',hS2',hSq,h,hx',h4,hw,hr1,hr8,hsn,a1,a2,a3,a4,a5]
  refine zaq (m-1) (by omega) ⟨i+1,s'.nx+1,s'.ep,bins++[(y:Int)],by omega,by simp [hb],?_,fun k k1 k2 => ?_,by simp,by simp,by omega,by simp,by simp; omega,by simp,fun k k1 => ?_⟩
  ·intro z hz
   rcases List.mem_append.mp hz with hz | hz
   ·exact hbb z hz
   ·simp at hz; subst hz; omega
  ·simp [k1,k2]; exact hV k k1 k2
  ·have b1:(k=s'.nx)=False:=eq_false (by omega)
   have b2:(k=s'.nx+1)=False:=eq_false (by omega)
   have b3:(k=q')=False:=eq_false (by omega)
   simp [b1,b2,b3]
   exact hfr k k1
 ·have hin:i=col.length:=by omega
  simp [-getElem?_pos,zus,v7',v10',hS1',h]
  exact hQ _ q' e' bins (by omega) hbb (fun k k1 k2=>by simp; exact hV k k1 k2) (by simp [v9']) hq (by simp [hqx]) (by simp [hnx]) (by simp [hSq]) (fun k k1=>by simp; exact hfr k k1)
theorem z87 {t:Ta} (h:zjq t=true):1≤t.ns.length∧t.ns.length≤4∧1≤t.rw.length∧t.rw.length≤40∧t.lb.length=t.rw.length∧∀ r∈t.rw,r.length=t.ns.length:=by
 unfold zjq at h
 simp only [Bool.and_eq_true,decide_eq_true_eq,List.all_eq_true] at h
 obtain ⟨⟨⟨⟨⟨h1,_⟩,h3⟩,h4⟩,_⟩,h6⟩:=h
 have h1:=za6.mp h1
 have h3:=za6.mp h3
 refine ⟨by omega,by omega,by omega,by omega,by omega,fun r hr => ?_⟩
 have:=h6 r hr
 unfold zf5 at this
 simp only [Bool.and_eq_true,decide_eq_true_eq] at this
 omega
def LG (S:Nat→Option Ob) (nx:Nat) (C D:List (List Int)) (x y:PV):Prop:=(x = .e0∧y = .e0∧C=[]∧D=[])∨∃ o e o' e',x = .ref o none e 0 C.length∧y = .ref o' none e' 0 D.length∧2<o∧o<nx∧2<o'∧o'<nx∧o≠o'∧S o=some (.row 1 (rws true C))∧S o'=some (.row 1 (rws true D))
theorem LG.mono {S S':Nat→Option Ob} {nx nx':Nat} {C D:List (List Int)} {x y:PV} (h:LG S nx C D x y) (hn:nx≤nx') (hS : ∀ k,2<k→k<nx→S' k=S k):LG S' nx' C D x y:=by
 rcases h with h | ⟨o,e,o',e',h1,h2,h3,h4,h5,h6,h7,h8,h9⟩
 ·exact .inl h
 ·exact .inr ⟨o,e,o',e',h1,h2,h3,by omega,h5,by omega,h7,by rw [hS o h3 h4]; exact h8,by rw [hS o' h5 h6]; exact h9⟩
def GrR (n m:Nat) (r:List PV×List PV):Prop := ∃ c v:List (List Int),c.length=n∧v.length=n∧(∀ l∈c,l.length≤8)∧(∀ l∈v,l.length=m∧∀ x∈l,0≤x∧x≤8)∧r=([.agg [.own 1 (rws true c),.own 1 (rws true v)]],[])
set_option maxHeartbeats 4000000 in
theorem yi3 (q:Bool) (t:Ta) (b:Int) (ht:TaL 1048576 t) (hok:zjq t=true) (hb:2≤b∧b≤8) : ∃ r,RUN T znl [taS q t,iv b]=some r∧GrR t.ns.length t.rw.length r:=by
 have e1:=yix q t ⟨Nat.le_trans ht.ns (by omega),fun x hx=>Nat.le_trans (ht.ss x hx) (by omega),Nat.le_trans ht.nm (by omega),Nat.le_trans ht.rw (by omega),fun x hx=>Nat.le_trans (ht.rr x hx) (by omega),Nat.le_trans ht.lb (by omega)⟩
 rw [hok] at e1
 obtain ⟨t1,t2,t3,t4,t5,t6⟩:=z87 hok
 have g1:=zbs b 2 8
 rw [za6.mpr (by omega)] at g1
 have hr1:zan 24 1=true:=by decide
 have hr0:zan 8 0=true:=by decide
 have cl:=yi1 q t
 simp only [taS] at *
 refine zdi z20 rfl ?_
 simp [-getElem?_pos,zut,zuu,-zbd,e1,g1]
 refine za3 (fun n st => ∃ (i:Nat) (C D:List (List Int)) (x y:PV),i+n=t.ns.length∧C.length=i∧D.length=i∧(∀ l∈C,l.length≤8)∧(∀ l∈D,l.length=t.rw.length∧∀ x∈l,0≤x∧x≤8)∧st.V 1=iv b∧st.V 2 = .ptr 0 none 0 0 0∧st.V 4 = .ptr 1 none 0 0 0∧st.V 5 = .ptr 2 none 0 0 0∧st.V 6=iv i∧2<st.nx∧LG st.S st.nx C D x y∧st.S 0=some (.box [.sl 1 (zcv t.ns),.v (.string t.nm),.sl 1 (rws q t.rw),.sl 1 (zac t.lb)])∧st.S 1=some (.box [.e0,.e0])∧st.S 2=some (.box [x,y])) ?_ t.ns.length _ ⟨0,[],[],.e0,.e0,by omega,rfl,rfl,by simp,by simp,by simp,by simp,by simp,by simp,by simp,by simp,.inl ⟨rfl,rfl,rfl,rfl⟩,by simp,by simp,by simp⟩
 rintro n st ⟨i,C,D,x,y,hi,hC,hD,hC8,hD8,v1,v2,v4,v5,v6,hnx,hx,hS0,hS1,hS2⟩
 have z1:=fr hnx
 have z2:=fr (show 1<st.nx by omega)
 have z3:=fr (show 0<st.nx by omega)
 by_cases h:i<t.ns.length
 ·have hw:=wS h (by omega:t.ns.length≤9223372036854775807)
  obtain ⟨r1,h1,col,hcol,rfl⟩:=cl i ht h t4 t6
  obtain ⟨r2,h2,cuts,hcu,rfl⟩:=yi0 col b (by omega) (by omega) hb
  simp [-getElem?_pos,zxq,-zbd,v1,v2,v4,v5,v6,hS0,hS1,hS2,h,h1,h2,hr0,z1,z2,z3]
  refine yjg cuts col hcu (by omega) (q1:=st.nx) (q2:=st.nx+1) (q3:=st.nx+2) (by simp; rfl) (by simp; rfl) (by simp; rfl) (by simp) (by omega) (by omega) (by simp) (by simp) (by simp) (by simp) ?_
  intro s' q' e' bins hbl hbb hV w9 hq hqx hnx' hSq hfr
  simp only at hq hnx'
  have w1:s'.V 1=iv b:=by rw [hV 1 (by decide) (by decide)]; simp [v1]
  have w2:s'.V 2 = .ptr 0 none 0 0 0:=by rw [hV 2 (by decide) (by decide)]; simp [v2]
  have w4:s'.V 4 = .ptr 1 none 0 0 0:=by rw [hV 4 (by decide) (by decide)]; simp [v4]
  have w5:s'.V 5 = .ptr 2 none 0 0 0:=by rw [hV 5 (by decide) (by decide)]; simp [v5]
  have w6:s'.V 6=iv i:=by rw [hV 6 (by decide) (by decide)]; simp [v6]
  obtain ⟨e8,w8⟩ : ∃ e,s'.V 8 = .ref (st.nx+1) none e 0 cuts.length:=⟨_,by rw [hV 8 (by decide) (by decide)]; simp; rfl⟩
  have hT0:s'.S 0=some (.box [.sl 1 (zcv t.ns),.v (.string t.nm),.sl 1 (rws q t.rw),.sl 1 (zac t.lb)]):=by rw [hfr 0 (by omega)]; simp [z1,z2,z3,hS0]
  have hT1:s'.S 1=some (.box [.e0,.e0]):=by rw [hfr 1 (by omega)]; simp [z1,z2,z3,hS1]
  have hT2:s'.S 2=some (.box [x,y]):=by rw [hfr 2 (by omega)]; simp [z1,z2,z3,hS2]
  have hT8:s'.S (st.nx+1)=some (.row 1 (zac cuts)):=by rw [hfr _ (by omega)]; simp
  have hL:LG s'.S s'.nx C D x y:=hx.mono (by omega) (fun k k1 k2=>by
   rw [hfr k (by omega)]
   have b1:(k=st.nx)=False:=eq_false (by omega)
   have b2:(k=st.nx+1)=False:=eq_false (by omega)
   have b3:(k=st.nx+2)=False:=eq_false (by omega)
   simp [b1,b2,b3])
  have hr24:zan 24 (C.length+1)=true:=by simp [zan]; omega
  have hr24':zan 24 (D.length+1)=true:=by simp [zan]; omega
  have s1:=zqz C cuts
  have s2:=zqz D bins
  obtain ⟨p8,hp8⟩ : ∃ p8,p8=st.nx+1:=⟨_,rfl⟩
  rw [← hp8] at w8 hT8
  have hp8q:p8<q':=by omega
  have hp82:2<p8:=by omega
  have hL':LG s'.S p8 C D x y:=by
   rcases hx with hx | ⟨o,e,o',e',k1,k2,k3,k4,k5,k6,k7,k8,k9⟩
   ·exact .inl hx
   ·rcases hL with ⟨l1,_⟩ | ⟨o2,e2,o2',e2',l1,l2,l3,l4,l5,l6,l7,l8,l9⟩
    ·rw [k1] at l1; cases l1
    ·rw [k1] at l1; cases l1
     rw [k2] at l2; cases l2
     exact .inr ⟨o,e,o',e',k1,k2,k3,by omega,k5,by omega,k7,l8,l9⟩
  clear hL hx hfr hV hp8 hS0 hS1 hS2 v1 v2 v4 v5 v6 z1 z2 z3 h1 h2
  have a1:=fr hqx
  have a2:=fr hp8q
  have a3:=fr (show p8<s'.nx by omega)
  have a4:=fr hp82
  have a5:=fr (show 2<q' by omega)
  have a6:=fr (show 2<s'.nx by omega)
  have b1:=fr (show 1<p8 by omega)
  have b2:=fr (show 1<q' by omega)
  have b3:=fr (show 1<s'.nx by omega)
  have b4:=fr (show 0<p8 by omega)
  have b5:=fr (show 0<q' by omega)
  have b6:=fr (show 0<s'.nx by omega)
  have nn1 : ¬ s'.nx=1:=by omega
  have nn2 : ¬ s'.nx+1=q':=by omega
  have na : ∀ a b:Nat,s'.nx+a+b=s'.nx+(a+b):=fun a b=>Nat.add_assoc _ _ _
  have hC8' : ∀ l∈C++[cuts],l.length≤8:=fun l hl=>by
   rcases List.mem_append.mp hl with hl | hl
   ·exact hC8 l hl
   ·simp at hl; subst hl; omega
  have hD8' : ∀ l∈D++[bins],l.length=t.rw.length∧∀ x∈l,0≤x∧x≤8:=fun l hl=>by
   rcases List.mem_append.mp hl with hl | hl
   ·exact hD8 l hl
   ·simp at hl; subst hl; exact ⟨by omega,hbb⟩
  rcases hL' with ⟨rfl,rfl,hC0,hD0⟩ | ⟨o,e,o',e',rfl,rfl,ho,hox,ho',hox',hoo,hSo,hSo'⟩
  ·subst hC0 hD0
   simp [-getElem?_pos,w1,w2,w4,w5,w6,w8,w9,hT0,hT1,hT2,hT8,hSq,hw,hr1,na,a1,a2,a3,a4,a5,a6,b1,b2,b3,b4,b5,b6]
   exact zaq (n-1) (by omega) ⟨i+1,[cuts],[bins],.ref (s'.nx+1) none s'.ep 0 1,.ref (s'.nx+3) none s'.ep 0 1,by omega,by simp at hC; simp; omega,by simp at hC; simp; omega,hC8',hD8',by simp [w1],by simp [w2],by simp [w4],by simp [w5],by simp,by first | (simp; done) | (simp; omega),.inr ⟨s'.nx+1,s'.ep,s'.nx+3,s'.ep,rfl,rfl,by omega,by simp,by omega,by simp,by omega,by simp [nn1,nn2,rws,cel],by simp [rws,cel]⟩,by simp [a1,a2,a3,a4,a5,a6,b1,b2,b3,b4,b5,b6,hT0],by simp [a1,a2,a3,a4,a5,a6,b1,b2,b3,b4,b5,b6,hT1],by simp⟩
  ·have c1:=fr ho
   have c2:=fr hox
   have c3:=fr ho'
   have c4:=fr hox'
   have c5:=fr (show o<q' by omega)
   have c6:=fr (show o'<q' by omega)
   have d1:=fr (show o<s'.nx by omega)
   have d2:=fr (show o'<s'.nx by omega)
   have d3:=fr (show 1<o by omega)
   have d4:=fr (show 1<o' by omega)
   have d5:=fr (show 0<o by omega)
   have d6:=fr (show 0<o' by omega)
   have hoo2 : ¬ o'=o:=fun e=>hoo e.symm
   have nn3 : ¬ s'.nx+1=o':=by omega
   simp [-getElem?_pos,w1,w2,w4,w5,w6,w8,w9,hT0,hT1,hT2,hT8,hSq,hSo,hSo',hoo,hoo2,hw,hr1,hr24,hr24',s1,s2,na,a1,a2,a3,a4,a5,a6,b1,b2,b3,b4,b5,b6,c1,c2,c3,c4,c5,c6,d1,d2,d3,d4,d5,d6]
   exact zaq (n-1) (by omega) ⟨i+1,C++[cuts],D++[bins],.ref (s'.nx+1) none s'.ep 0 (C.length+1),.ref (s'.nx+3) none s'.ep 0 (D.length+1),by omega,by simp [hC],by simp [hD],hC8',hD8',by simp [w1],by simp [w2],by simp [w4],by simp [w5],by simp,by first | (simp; done) | (simp; omega),.inr ⟨s'.nx+1,s'.ep,s'.nx+3,s'.ep,by simp,by simp,by omega,by simp,by omega,by simp,by omega,by simp [nn1,nn2,nn3],by simp⟩,by simp [a1,a2,a3,a4,a5,a6,b1,b2,b3,b4,b5,b6,c1,c2,c3,c4,c5,c6,d1,d2,d3,d4,d5,d6,hT0],by simp [a1,a2,a3,a4,a5,a6,b1,b2,b3,b4,b5,b6,c1,c2,c3,c4,c5,c6,d1,d2,d3,d4,d5,d6,hT1],by simp⟩
 ·have hin:i=t.ns.length:=by omega
  rcases hx with ⟨rfl,rfl,hC0,hD0⟩ | ⟨o,e,o',e',rfl,rfl,ho,hox,ho',hox',hoo,hSo,hSo'⟩
  ·subst hC0
   simp at hC; omega
  ·have c1:=fr ho
   have c3:=fr ho'
   have d3:=fr (show 1<o by omega)
   have d4:=fr (show 1<o' by omega)
   have d5:=fr (show 0<o by omega)
   have d6:=fr (show 0<o' by omega)
   have hoo2 : ¬ o'=o:=fun e=>hoo e.symm
   simp [-getElem?_pos,zxq,v1,v2,v4,v5,v6,hS0,hS1,hS2,h,hSo,hSo',hoo,hoo2,c1,c3,d3,d4,d5,d6]
   exact ⟨C,D,by omega,by omega,hC8,hD8,rfl⟩
def PGr (v:PV):Prop := ∃ c w:List (List Int),v = .agg [.own 1 (rws true c),.own 1 (rws true w)]∧c.length≤8∧w.length≤8∧(∀ l∈c,l.length≤64)∧∀ l∈w,l.length≤64
def PGs (v:PV):Prop := ∃ c w:List (List Int),v = .agg [.own 1 (rws true c),.own 1 (rws true w)]∧1≤c.length∧c.length≤4∧w.length=c.length∧(∀ l∈c,l.length≤8)∧∃ m:Nat,1≤m∧m≤40∧∀ l∈w,l.length=m∧∀ x∈l,0≤x∧x≤8
theorem z4u (B:List Int) (p:Nat) (s:Int) (hp:p≤B.length) (hB:B.length≤9223372036854775807) : ∃ r,RUN T zj9 [.bx [.sl 1 (za8 B),iv p,iv s]]=some r∧zex B PGs r:=by
 refine zdi z16 rfl ?_
 obtain ⟨r1,h1,v1,p1,s1,⟨t,rfl,ht,hok⟩,hp1,rfl⟩:=yi2 B p s hp hB
 obtain ⟨r2,h2,v2,p2,s2,⟨a2,rfl,a20,a21⟩,hp2,rfl⟩:=zbe B p1 s1 hp1 hB 5 (by omega)
 have a22:=a21 (by omega)
 have w1:=w64 (x:=2+a2) (by omega) (by omega)
 obtain ⟨r3,h3,c,w,hc,hw,hc8,hw8,rfl⟩:=yi3 true t (2+a2) ⟨Nat.le_trans ht.ns (by omega),fun x hx=>Nat.le_trans (ht.ss x hx) (by omega),Nat.le_trans ht.nm (by omega),Nat.le_trans ht.rw (by omega),fun x hx=>Nat.le_trans (ht.rr x hx) (by omega),Nat.le_trans ht.lb (by omega)⟩ hok (by omega)
 obtain ⟨t1,t2,t3,t4,t5,t6⟩:=z87 hok
 simp only [taO,taS] at h1 h3
 simp [-getElem?_pos,zti,ztj,h1,h2,h3,w1]
 exact ⟨_,p2,s2,⟨c,w,rfl,by omega,by omega,by omega,hc8,t.rw.length,t3,t4,hw8⟩,hp2,rfl⟩
theorem yi4 (B:List Int) (p:Nat) (s:Int) (hp:p≤B.length) (hB:B.length≤9223372036854775807) (k:Nat) (hk:k≤64) : ∃ r,RUN T zm5 [.bx [.sl 1 (za8 B),iv p,iv s],iv k]=some r∧zex B (PRw k) r:=by
 refine zdi z18 rfl ?_
 have hr0:zan 8 0=true:=by decide
 have hr1:zan 8 1=true:=by decide
 obtain ⟨r1,h1,v1',p1,s1,⟨far,rfl⟩,hp1,rfl⟩:=zd4 B p s hp hB 20 (by omega)
 simp [-getElem?_pos,ztl,ztm,hr0,h1]
 refine za3 (fun n st => ∃ (i p o e:Nat) (s:Int) (m:List Int),i+n=k∧m.length=i∧(∀ n∈m,inI n)∧p≤B.length∧st.V 0 = .ptr 0 none 0 0 0∧st.V 1=iv k∧st.V 5 = .ref o none e 0 m.length∧st.V 6=bv far∧st.V 7=iv i∧0<o∧o<st.nx∧st.S 0=some (.box [.sl 1 (za8 B),iv p,iv s])∧st.S o=some (.row 1 (zac m))) ?_ k _ ⟨0,p1,1,0,s1,[],by omega,by simp,by simp,hp1,by simp,by simp,by simp,by simp,by simp,by omega,by simp,by simp,by simp [zac]⟩
 clear hp hp1 h1
 rintro n st ⟨i,p,o,e,s,m,hi,hm,hmi,hp,v0,v1,v5,v6,v7,ho,hox,hS,hSo⟩
 obtain ⟨f1,f2,f3,f4⟩:=fr hox
 obtain ⟨g1,g2,g3,g4⟩:=fr ho
 obtain ⟨z1,z2,z3,z4⟩:=fr (show 0<st.nx by omega)
 have ho1:1≤o:=by omega
 by_cases h:i<k
 ·have hw:=wS h (by omega:k≤9223372036854775807)
  have hr8:=zdc (n:=m.length+1) (by omega)
  cases far with
  | true =>
   obtain ⟨r2,h2,v2,p2,s2,⟨x,rfl,hx⟩,hp2,rfl⟩:=yhz B p s hp hB
   have hsn:=zc0 m x
   simp [-getElem?_pos,ztk,v0,v1,v5,v6,v7,hS,hSo,h,h2,hr1,hr8,hw,hsn,f1,f2,f3,f4,g1,g2,g3,g4,z1,z2,z3,z4]
   refine zaq (n-1) (by omega) ⟨i+1,p2,st.nx+1,st.ep,s2,m++[x],by omega,by simp [hm],?_,hp2,by simp [v0],by simp [v1],by simp,by simp [v6],by simp,by omega,by simp,by simp [f1,f2,f3,f4,g1,g2,g3,g4,z1,z2,z3,z4],by simp⟩
   intro y hy
   rcases List.mem_append.mp hy with hy | hy
   ·exact hmi y hy
   ·simp at hy; subst hy; exact hx
  | false =>
   obtain ⟨r2,h2,v2,p2,s2,⟨x,rfl,x0,x1⟩,hp2,rfl⟩:=zbe B p s hp hB 41 (by omega)
   obtain ⟨r3,h3,v3,p3,s3,⟨y,rfl,y0,y1⟩,hp3,rfl⟩:=zbe B p2 s2 hp2 hB 3 (by omega)
   have x2:=x1 (by omega)
   have y2:=y1 (by omega)
   have w1:=w64 (x:=x-20) (by omega) (by omega)
   have w2:=w64 (x:=100*(x-20)) (by omega) (by omega)
   have w3:=w64 (x:=100*(x-20)+y) (by omega) (by omega)
   have hsn:=zc0 m (100*(x-20)+y)
   simp [-getElem?_pos,ztk,v0,v1,v5,v6,v7,hS,hSo,h,h2,h3,w1,w2,w3,hr1,hr8,hw,hsn,f1,f2,f3,f4,g1,g2,g3,g4,z1,z2,z3,z4]
   refine zaq (n-1) (by omega) ⟨i+1,p3,st.nx+1,st.ep,s3,m++[100*(x-20)+y],by omega,by simp [hm],?_,hp3,by simp [v0],by simp [v1],by simp,by simp [v6],by simp,by omega,by simp,by simp [f1,f2,f3,f4,g1,g2,g3,g4,z1,z2,z3,z4],by simp⟩
   intro z hz
   rcases List.mem_append.mp hz with hz | hz
   ·exact hmi z hz
   ·simp at hz; subst hz; unfold inI; omega
 ·simp [-getElem?_pos,ztk,v0,v1,v5,v6,v7,hS,hSo,h,ho1,f1,f2,f3,f4,g1,g2,g3,g4]
  exact ⟨_,p,s,⟨m,rfl,by omega,hmi⟩,hp,rfl⟩
theorem zrl {α:Type} {P:α→Prop} {c:List α} {f:Nat} {x:α} (h : ∀ l∈c,P l) (hx:P x) : ∀ l∈c.set f x,P l:=fun l hl=>by
 rcases List.mem_or_eq_of_mem_set hl with hl | hl
 ·exact h l hl
 ·subst hl; exact hx
theorem zrn {α:Type} {P:α→Prop} {c:List α} {x:α} (h : ∀ l∈c,P l) (hx:P x) : ∀ l∈c++[x],P l:=fun l hl=>by
 rcases List.mem_append.mp hl with hl | hl
 ·exact h l hl
 ·simp at hl; subst hl; exact hx
set_option maxHeartbeats 4000000 in
theorem yi5 (B:List Int) (p:Nat) (s:Int) (hp:p≤B.length) (hB:B.length≤9223372036854775807) : ∃ r,RUN T zm7 [.bx [.sl 1 (za8 B),iv p,iv s]]=some r∧zex B PGr r:=by
 refine zdi z2c rfl ?_
 obtain ⟨r1,h1,v1,p1,s1,⟨c,w,rfl,hc1,hc4,hwc,hc8,m,hm1,hm40,hwm⟩,hp1,rfl⟩:=z4u B p s hp hB
 obtain ⟨r2,h2,v2,p2,s2,⟨a2,rfl,a20,a21⟩,hp2,rfl⟩:=zbe B p1 s1 hp1 hB c.length (by omega)
 have a22:=a21 (by omega)
 obtain ⟨f,rfl⟩ : ∃ f:Nat,a2=f:=⟨a2.toNat,by omega⟩
 obtain ⟨r3,h3,v3,p3,s3,⟨d,rfl,d0,d1⟩,hp3,rfl⟩:=zbe B p2 s2 hp2 hB 14 (by omega)
 have hf:f<c.length:=by omega
 have hfw:f<w.length:=by omega
 obtain ⟨l,hl⟩ : ∃ l,c[f]?=some l:=⟨_,List.getElem?_eq_getElem hf⟩
 obtain ⟨u,hu⟩ : ∃ u,w[f]?=some u:=⟨_,List.getElem?_eq_getElem hfw⟩
 have hl8:=hc8 l (List.mem_of_getElem? hl)
 obtain ⟨hum,hub⟩:=hwm u (List.mem_of_getElem? hu)
 have hl':=ze4 (q:=true) hl
 have hu':=ze4 (q:=true) hu
 simp only [cel,if_true] at hl' hu'
 have cA : ∀ l∈c,l.length≤64:=fun l hl=>by have:=hc8 l hl; omega
 have wA : ∀ l∈w,l.length≤64:=fun l hl=>by have:=(hwm l hl).1; omega
 have hr1:zan 8 1=true:=by decide
 have hr0:zan 8 0=true:=by decide
 have hr5:zan 8 5=true:=by decide
 have hr24:zan 24 1=true:=by decide
 have hr240:zan 24 0=true:=by decide
 have hrl:=zdc (n:=l.length+1) (by omega)
 have hru:=zdc (n:=u.length+1) (by omega)
 have hrc:zan 24 (c.length+1)=true:=by simp [zan]; omega
 have hrw:zan 24 (w.length+1)=true:=by simp [zan]; omega
 by_cases e0:d=0
 ·subst e0
  obtain ⟨r4,h4,v4,p4,s4,⟨x,rfl,hx⟩,hp4,rfl⟩:=zx9 B p3 s3 hp3 hB
  have hsn:=zc0 l x
  have hset:=zw9 c f (l++[x])
  simp [-getElem?_pos,zgn,zgo,zbk,zb1,h1,h2,h3,h4,hf,hl',hr1,hrl,hsn,hset]
  exact ⟨_,p4,s4,⟨c.set f (l++[x]),w,rfl,by simp; omega,by omega,zrl cA (by simp; omega),wA⟩,hp4,rfl⟩
 by_cases e1:d=1
 ·subst e1
  obtain ⟨r4,h4,v4,p4,s4,⟨x,rfl,hx⟩,hp4,rfl⟩:=zfz B p3 s3 hp3 hB [0,1,-1,8,9223372036854775807] (by simp)
  simp only [zac,List.map] at h4
  obtain ⟨y,hy⟩ : ∃ y,u[0]?=some y:=⟨_,List.getElem?_eq_getElem (by omega)⟩
  have hy':=zbj hy
  have hu0:0<u.length:=by omega
  have hset0:=z6z u 0 x
  have hset:=zw9 w f (u.set 0 x)
  simp [-getElem?_pos,zgn,zgo,zbk,zb1,h1,h2,h3,h4,hf,hfw,hu',hy',hu0,hr5,hset0,hset]
  exact ⟨_,p4,s4,⟨c,w.set f (u.set 0 x),rfl,by omega,by simp; omega,cA,zrl wA (by simp; omega)⟩,hp4,rfl⟩
 by_cases e2:d=2
 ·subst e2
  have hsn:=zc0 u 0
  have hset:=zw9 w f (u++[0])
  simp [-getElem?_pos,zgn,zgo,zbk,zb1,h1,h2,h3,hf,hfw,hu',hr1,hru,hsn]
  exact ⟨_,p3,s3,⟨c,w.set f (u++[0]),by rw [← hset],by omega,by simp; omega,cA,zrl wA (by simp; omega)⟩,hp3,rfl⟩
 by_cases e3:d=3
 ·subst e3
  have hsn:=zqz w [0]
  simp only [zac,List.map] at hsn
  simp [-getElem?_pos,zgn,zgo,h1,h2,h3,hr1,hr24,hrw,hsn]
  exact ⟨_,p3,s3,⟨c,w++[[0]],rfl,by omega,by simp; omega,cA,zrn wA (by simp)⟩,hp3,rfl⟩
 by_cases e4:d=4
 ·subst e4
  have hsn:=zqz c []
  simp only [zac,List.map] at hsn
  simp [-getElem?_pos,zgn,zgo,h1,h2,h3,hr0,hr24,hrc,hsn]
  exact ⟨_,p3,s3,⟨c++[[]],w,rfl,by simp; omega,by omega,zrn cA (by simp),wA⟩,hp3,rfl⟩
 by_cases e5:d=5
 ·subst e5
  simp [-getElem?_pos,zgn,zgo,h1,h2,h3,hr240]
  exact ⟨_,p3,s3,⟨c,[],rfl,by omega,by simp,cA,by simp⟩,hp3,rfl⟩
 by_cases e6:d=6
 ·subst e6
  have w1:=w64 (x:=(l.length:Int)+1) (by omega) (by omega)
  obtain ⟨r4,h4,v4,p4,s4,⟨x,rfl,x0,x1⟩,hp4,rfl⟩:=zbe B p3 s3 hp3 hB ((l.length:Int)+1) (by omega)
  have x2:=x1 (by omega)
  obtain ⟨k,rfl⟩ : ∃ k:Nat,x=k:=⟨x.toNat,by omega⟩
  have hkl:k≤l.length:=by omega
  have hcut:(if k=l.length then zac l else List.take k (zac l))=zac (l.take k):=by
   split
   ·rename_i e; rw [e,List.take_length]
   ·simp [zac,List.map_take]
  have hset:=zw9 c f (l.take k)
  simp [-getElem?_pos,zgn,zgo,zbk,zb1,h1,h2,h3,h4,hf,hl',w1,hkl,hcut,hset]
  exact ⟨_,p4,s4,⟨c.set f (l.take k),w,rfl,by simp; omega,by omega,zrl cA (by simp; omega),wA⟩,hp4,rfl⟩
 ·simp [-getElem?_pos,zgn,zgo,h1,h2,h3,e0,e1,e2,e3,e4,e5,e6]
  exact ⟨_,p3,s3,⟨c,w,rfl,by omega,by omega,cA,wA⟩,hp3,rfl⟩
theorem zl1 {m:Nat→List Bool} {R:zaf} {a b:IC} {st:St} {Q:Ex→St→Prop} (P:St→Prop) (h1:W m R a st (Nx P Q ⟨⟩ ⟨⟩)) (h2 : ∀ s,P s→W m R b s Q):W m R (.seq a b) st Q:=by
 rw [zo5]
 refine h1.mono fun e s h => ?_
 cases e with
 | normal =>
  simp only [z8a] at h ⊢
  exact h2 s h
 | exit i =>
  simp only [yk5] at h ⊢
  exact h
 | ret =>
  simp only [yno] at h ⊢
  exact h
theorem zqt {m:Nat→List Bool} {R:zaf} {a b c:IC} {st:St} {Q:Ex→St→Prop} (h:W m R (.seq (.seq a b) c) st Q):W m R (.seq a (.seq b c)) st Q:=by
 rw [zo5,zo5] at h
 rw [zo5]
 refine h.mono fun e s h => ?_
 cases e with
 | normal =>
  simp only [z8a] at h ⊢
  rw [zo5]; exact h
 | exit i=>simpa using h
 | ret=>simpa using h
def A0 (B:List Int) (c v:List (List Int)) (m M:Nat) (s:St):Prop := ∃ (p o e:Nat) (sd:Int) (gs:List Int),p≤B.length∧m≤gs.length∧gs.length≤M∧(∀ x∈gs,inI x)∧s.V 2 = .v (.pointer none)∧s.V 3 = .ptr 0 none 0 0 0∧s.V 5 = .ptr 1 none 0 0 0∧s.V 6 = .ptr 2 none 0 0 0∧s.V 7 = .ptr 5 none 0 0 0∧s.V 8=iv m∧s.V 9 = .ref o none e 0 gs.length∧5<o∧o<s.nx∧s.S 0=some (.box [.e0,.e0])∧s.S 1=some (.box [iv 0,iv 0,iv 0,iv 0,iv 0,iv 0,iv 0,.e0])∧s.S 2=some (.box [.sl 1 (za8 B),iv p,iv sd])∧s.S o=some (.row 1 (zac gs))∧s.S 3=some (.row 1 (rws true c))∧s.S 4=some (.row 1 (rws true v))∧s.S 5=some (.box [.ref 3 none 0 0 c.length,.ref 4 none 0 0 v.length])
def A1 (B:List Int) (c v:List (List Int)) (m:Nat) (s:St):Prop := ∃ (p o e:Nat) (sd:Int) (gs:List Int) (q w ew eq:Nat) (k:Cfg),p≤B.length∧gs.length≤m+1∧(∀ x∈gs,inI x)∧k.sg.length≤64∧s.V 2 = .v (.pointer none)∧s.V 3 = .ptr 0 none 0 0 0∧s.V 5 = .ptr 1 none 0 0 0∧s.V 6 = .ptr 2 none 0 0 0∧s.V 7 = .ptr 5 none 0 0 0∧s.V 8=iv m∧s.V 9 = .ref o none e 0 gs.length∧5<o∧o<s.nx∧s.S 0=some (.box [.e0,.e0])∧s.S 1=some (.box [iv 0,iv 0,iv 0,iv 0,iv 0,iv 0,iv 0,.e0])∧s.S 2=some (.box [.sl 1 (za8 B),iv p,iv sd])∧s.S o=some (.row 1 (zac gs))∧s.S 3=some (.row 1 (rws true c))∧s.S 4=some (.row 1 (rws true v))∧s.S 5=some (.box [.ref 3 none 0 0 c.length,.ref 4 none 0 0 v.length])∧s.V 12 = .ptr w none ew 0 0∧o<q∧o<w∧q<s.nx∧w<s.nx∧¬ q=w∧s.S w=some (.box [iv k.ro,iv k.de,iv k.bi,iv k.la,iv k.rw,iv k.nu,iv k.dn,.ref q none eq 0 k.sg.length])∧s.S q=some (.row 1 (zac k.sg))
def A2 (B:List Int) (m:Nat) (s:St):Prop := ∃ (p o e:Nat) (sd:Int) (gs:List Int) (q w ew eq:Nat) (k:Cfg) (c v:List (List Int)) (a b ea eb:Nat),p≤B.length∧gs.length≤m+1∧(∀ x∈gs,inI x)∧k.sg.length≤64∧(c.length≤8∧v.length≤8∧(∀ l∈c,l.length≤64)∧∀ l∈v,l.length≤64)∧s.V 2 = .v (.pointer none)∧s.V 3 = .ptr 0 none 0 0 0∧s.V 5 = .ptr 1 none 0 0 0∧s.V 6 = .ptr 2 none 0 0 0∧s.V 7 = .ptr 5 none 0 0 0∧s.V 8=iv m∧s.V 9 = .ref o none e 0 gs.length∧5<o∧o<s.nx∧s.S 0=some (.box [.e0,.e0])∧s.S 1=some (.box [iv 0,iv 0,iv 0,iv 0,iv 0,iv 0,iv 0,.e0])∧s.S 2=some (.box [.sl 1 (za8 B),iv p,iv sd])∧s.S o=some (.row 1 (zac gs))∧s.V 12 = .ptr w none ew 0 0∧o<q∧o<w∧q<s.nx∧w<s.nx∧¬ q=w∧s.S w=some (.box [iv k.ro,iv k.de,iv k.bi,iv k.la,iv k.rw,iv k.nu,iv k.dn,.ref q none eq 0 k.sg.length])∧s.S q=some (.row 1 (zac k.sg))∧s.S a=some (.row 1 (rws true c))∧s.S b=some (.row 1 (rws true v))∧s.S 5=some (.box [.ref a none ea 0 c.length,.ref b none eb 0 v.length])∧¬ a=b∧a<s.nx∧b<s.nx∧2<a∧2<b∧¬ a=5∧¬ b=5∧¬ a=o∧¬ b=o∧¬ a=q∧¬ b=q∧¬ a=w∧¬ b=w
def ylp (B:List Int) (r:List PV×List PV):Prop := ∃ (p:Nat) (sd:Int) (c v:List (List Int)) (g:List Int) (k:Cfg),p≤B.length∧(c.length≤8∧v.length≤8∧(∀ l∈c,l.length≤64)∧∀ l∈v,l.length≤64)∧g.length≤64∧(∀ x∈g,inI x)∧k.sg.length≤64∧r=([.bx [.sl 1 (za8 B),iv p,iv sd],.agg [.own 1 (rws true c),.own 1 (rws true v)],.own 1 (zac g),zj1 k],[])
set_option maxHeartbeats 8000000 in
theorem yi6 (B:List Int) (hB:B.length≤9223372036854775807) : ∃ r,RUN T zmo [.sl 1 (za8 B)]=some r∧ylp B r:=by
 refine zdi z1e rfl ?_
 obtain ⟨r0,h0,s0,rfl⟩:=yh0 B hB
 simp only [Int.natCast_zero] at h0
 obtain ⟨r1,h1,w1,p1,s1,⟨c,v,rfl,hc1,hc4,hvc,hc8,m,hm1,hm40,hvm⟩,hp1,rfl⟩:=z4u B 0 s0 (by omega) hB
 simp only [Int.natCast_zero] at h1
 have h2:=zxx true c v
 have hrow:zct v=m:=by
  cases v with
  | nil=>simp at hvc; omega
  | cons l v=>have:=(hvm l (by simp)).1; simp [zct]; omega
 rw [hrow] at h2
 obtain ⟨u,hu⟩ : ∃ u,v[0]?=some u:=⟨_,List.getElem?_eq_getElem (by omega)⟩
 obtain ⟨hum,hub⟩:=hvm u (List.mem_of_getElem? hu)
 have hu':=ze4 (q:=true) hu
 simp only [cel,if_true] at hu'
 have hv0:0<v.length:=by omega
 have hcA : ∀ l∈c,l.length≤64:=fun l hl=>by have:=hc8 l hl; omega
 have hvA : ∀ l∈v,l.length≤64:=fun l hl=>by have:=(hvm l hl).1; omega
 have hr0:zan 8 0=true:=by decide
 have hr1:zan 8 1=true:=by decide
 have hr3:zan 8 3=true:=by decide
 have hr4:zan 8 4=true:=by decide
 clear hrow
 unfold zse
 refine zqt (zqt (zqt (zqt (zqt ?_))))
 refine zl1 (A0 B c v m m) ?_ ?_
 ·simp [-getElem?_pos,hr0,h0,h1,h2]
  refine za3 (fun n s => ∃ (i p o e:Nat) (sd:Int) (gs:List Int),i+n=m∧gs.length=i∧(∀ x∈gs,inI x)∧p≤B.length∧s.V 10=iv i∧s.V 2 = .v (.pointer none)∧s.V 3 = .ptr 0 none 0 0 0∧s.V 5 = .ptr 1 none 0 0 0∧s.V 6 = .ptr 2 none 0 0 0∧s.V 7 = .ptr 5 none 0 0 0∧s.V 8=iv m∧s.V 9 = .ref o none e 0 gs.length∧5<o∧o<s.nx∧s.S 0=some (.box [.e0,.e0])∧s.S 1=some (.box [iv 0,iv 0,iv 0,iv 0,iv 0,iv 0,iv 0,.e0])∧s.S 2=some (.box [.sl 1 (za8 B),iv p,iv sd])∧s.S o=some (.row 1 (zac gs))∧s.S 3=some (.row 1 (rws true c))∧s.S 4=some (.row 1 (rws true v))∧s.S 5=some (.box [.ref 3 none 0 0 c.length,.ref 4 none 0 0 v.length])) ?_ m _ ⟨0,p1,6,0,s1,[],by omega,rfl,by simp,hp1,by simp,by simp,by simp,by simp,by simp,by simp,by simp,by simp,by omega,by simp,by simp,by simp,by simp,by simp [zac],by simp,by simp,by simp⟩
  clear h0 h1 h2 hp1
  rintro n s ⟨i,p,o,e,sd,gs,hi,hgl,hgi,hp,v10,v2,v3,v5,v6,v7,v8,v9,ho,hox,hS0,hS1,hS2,hSo,hS3,hS4,hS5⟩
  have fa:=fr hox
  have fb:=fr ho
  have fc:=fr (by omega:0<o)
  have fd:=fr (by omega:1<o)
  have fe:=fr (by omega:2<o)
  have ff:=fr (by omega:3<o)
  have fg:=fr (by omega:4<o)
  have fy0:=fr (by omega:0<s.nx)
  have fy1:=fr (by omega:1<s.nx)
  have fy2:=fr (by omega:2<s.nx)
  have fy3:=fr (by omega:3<s.nx)
  have fy4:=fr (by omega:4<s.nx)
  have fy5:=fr (by omega:5<s.nx)
  by_cases h:i<m
  ·have hw:=wS h (by omega:m≤9223372036854775807)
   have hr8:=zdc (n:=gs.length+1) (by omega)
   obtain ⟨r2,h2,w2,p2,s2,⟨x,rfl,x0,x1⟩,hp2,rfl⟩:=zbe B p sd hp hB 41 (by omega)
   obtain ⟨r3,h3,w3,p3,s3,⟨y,rfl,y0',y1'⟩,hp3,rfl⟩:=zbe B p2 s2 hp2 hB 3 (by omega)
   obtain ⟨r4,h4,w4,p4,s4,⟨b4,rfl⟩,hp4,rfl⟩:=zd4 B p3 s3 hp3 hB 4 (by omega)
   have x2':=x1 (by omega)
   have y2':=y1' (by omega)
   have k1:=w64 (x:=x-20) (by omega) (by omega)
   have k2:=w64 (x:=100*(x-20)) (by omega) (by omega)
   have k3:=w64 (x:=100*(x-20)+y) (by omega) (by omega)
   have hiu:i<u.length:=by omega
   have hiu2:(i:Int)<u.length:=by omega
   cases b4 with
   | true =>
    have hsn:=zc0 gs (100*(x-20)+y)
    have hin : ∀ z∈gs++[100*(x-20)+y],inI z:=zrn hgi (by unfold inI; omega)
    simp [-getElem?_pos,zsd,zbk,v10,v2,v3,v5,v6,v7,v8,v9,hS0,hS1,hS2,hSo,hS3,hS4,hS5,h,hu',hv0,hiu,hiu2,h2,h3,h4,k1,k2,k3,hw,hr1,hr8,hsn,fa,fb,fc,fd,fe,ff,fg,fy0,fy1,fy2,fy3,fy4,fy5]
    refine zaq (n-1) (by omega) ⟨i+1,p4,s.nx+1,s.ep,s4,_,by omega,by simp [hgl],hin,hp4,by simp,?_,?_,?_,?_,?_,?_,by simp,by omega,by simp,?_,?_,?_,by simp,?_,?_,?_⟩ <;> simp [v2,v3,v5,v6,v7,v8,v9,hS0,hS1,hS2,hSo,hS3,hS4,hS5,fa,fb,fc,fd,fe,ff,fg,fy0,fy1,fy2,fy3,fy4,fy5]
   | false =>
    obtain ⟨r5,h5,w5,p5,s5,⟨z,rfl,z0,z1⟩,hp5,rfl⟩:=zbe B p4 s4 hp4 hB 4 (by omega)
    have z2:=z1 (by omega)
    obtain ⟨t,ht⟩ : ∃ t,u[i]?=some t:=⟨_,List.getElem?_eq_getElem hiu⟩
    have ht':=zbj ht
    have htb:=hub t (List.mem_of_getElem? ht)
    have k4:=w64 (x:=300*t) (by omega) (by omega)
    have k5:=w64 (x:=300*t-400) (by omega) (by omega)
    have k6:=w64 (x:=50*z) (by omega) (by omega)
    have k7:=w64 (x:=300*t-400+50*z) (by omega) (by omega)
    have hsn:=zc0 gs (300*t-400+50*z)
    have hin : ∀ z'∈gs++[300*t-400+50*z],inI z':=zrn hgi (by unfold inI; omega)
    simp [-getElem?_pos,zsd,zbk,v10,v2,v3,v5,v6,v7,v8,v9,hS0,hS1,hS2,hSo,hS3,hS4,hS5,h,hu',hv0,hiu,hiu2,ht',h2,h3,h4,h5,k1,k2,k3,k4,k5,k6,k7,hw,hr1,hr8,hsn,fa,fb,fc,fd,fe,ff,fg,fy0,fy1,fy2,fy3,fy4,fy5]
    refine zaq (n-1) (by omega) ⟨i+1,p5,s.nx+1,s.ep,s5,_,by omega,by simp [hgl],hin,hp5,by simp,?_,?_,?_,?_,?_,?_,by simp,by omega,by simp,?_,?_,?_,by simp,?_,?_,?_⟩ <;> simp [v2,v3,v5,v6,v7,v8,v9,hS0,hS1,hS2,hSo,hS3,hS4,hS5,fa,fb,fc,fd,fe,ff,fg,fy0,fy1,fy2,fy3,fy4,fy5]
  ·simp [-getElem?_pos,zsd,v10,v8,h]
   refine ⟨p,o,e,sd,gs,hp,by omega,by omega,hgi,?_,?_,?_,?_,?_,?_,?_,ho,by simp [hox],?_,?_,?_,?_,?_,?_,?_⟩ <;> simp [v2,v3,v5,v6,v7,v8,v9,hS0,hS1,hS2,hSo,hS3,hS4,hS5]
 clear h0 h1 h2 hp1 hu hum hub hu' hv0
 intro s hs
 refine zl1 (A0 B c v m m) ?_ ?_
 ·obtain ⟨p,o,e,sd,gs,hp,hg1,hg2,hgi,v2,v3,v5,v6,v7,v8,v9,ho,hox,hS0,hS1,hS2,hSo,hS3,hS4,hS5⟩:=hs
  have fa:=fr hox
  have fb:=fr ho
  have fc:=fr (by omega:0<o)
  have fd:=fr (by omega:1<o)
  have fe:=fr (by omega:2<o)
  have ff:=fr (by omega:3<o)
  have fg:=fr (by omega:4<o)
  have fy0:=fr (by omega:0<s.nx)
  have fy1:=fr (by omega:1<s.nx)
  have fy2:=fr (by omega:2<s.nx)
  have fy3:=fr (by omega:3<s.nx)
  have fy4:=fr (by omega:4<s.nx)
  have fy5:=fr (by omega:5<s.nx)
  obtain ⟨r1,h1,w1,p1,s1,⟨b,rfl⟩,hp1,rfl⟩:=zd4 B p sd hp hB 12 (by omega)
  cases b with
  | true =>
   obtain ⟨r2,h2,w2,p2,s2,⟨l,rfl,hl,hlI⟩,hp2,rfl⟩:=yi4 B p1 s1 hp1 hB m (by omega)
   simp [-getElem?_pos,h1,h2,v2,v3,v5,v6,v7,v8,v9,hS0,hS1,hS2,hSo,hS3,hS4,hS5,fa,fb,fc,fd,fe,ff,fg,fy0,fy1,fy2,fy3,fy4,fy5]
   refine ⟨p2,s.nx,s.ep,s2,l,hp2,(by omega),(by omega),hlI,?_,?_,?_,?_,?_,?_,by simp,by omega,by simp,?_,?_,?_,by simp,?_,?_,?_⟩ <;> simp [v2,v3,v5,v6,v7,v8,v9,hS0,hS1,hS2,hSo,hS3,hS4,hS5,fa,fb,fc,fd,fe,ff,fg,fy0,fy1,fy2,fy3,fy4,fy5]
  | false =>
   simp [-getElem?_pos,h1,v2,v3,v5,v6,v7,v8,v9,hS0,hS1,hS2,hSo,hS3,hS4,hS5,fa,fb,fc,fd,fe,ff,fg,fy0,fy1,fy2,fy3,fy4,fy5]
   refine ⟨p1,o,e,s1,gs,hp1,hg1,hg2,hgi,?_,?_,?_,?_,?_,?_,?_,ho,by simp [hox],?_,?_,?_,?_,?_,?_,?_⟩ <;> simp [v2,v3,v5,v6,v7,v8,v9,hS0,hS1,hS2,hSo,hS3,hS4,hS5,fa,fb,fc,fd,fe,ff,fg,fy0,fy1,fy2,fy3,fy4,fy5]
 clear hs s
 intro s hs
 refine zl1 (A0 B c v m (m+1)) ?_ ?_
 ·obtain ⟨p,o,e,sd,gs,hp,hg1,hg2,hgi,v2,v3,v5,v6,v7,v8,v9,ho,hox,hS0,hS1,hS2,hSo,hS3,hS4,hS5⟩:=hs
  have fa:=fr hox
  have fb:=fr ho
  have fc:=fr (by omega:0<o)
  have fd:=fr (by omega:1<o)
  have fe:=fr (by omega:2<o)
  have ff:=fr (by omega:3<o)
  have fg:=fr (by omega:4<o)
  have fy0:=fr (by omega:0<s.nx)
  have fy1:=fr (by omega:1<s.nx)
  have fy2:=fr (by omega:2<s.nx)
  have fy3:=fr (by omega:3<s.nx)
  have fy4:=fr (by omega:4<s.nx)
  have fy5:=fr (by omega:5<s.nx)
  obtain ⟨r1,h1,w1,p1,s1,⟨b,rfl⟩,hp1,rfl⟩:=zd4 B p sd hp hB 20 (by omega)
  cases b with
  | true =>
   obtain ⟨r2,h2,w2,p2,s2,⟨x,rfl,hx⟩,hp2,rfl⟩:=zfz B p1 s1 hp1 hB [0,2199023255552,2199023255553] (by simp)
   simp only [zac,List.map] at h2
   have hr8:=zdc (n:=gs.length+1) (by omega)
   have hsn:=zc0 gs x
   have hin : ∀ z∈gs++[x],inI z:=zrn hgi (by simp at hx; unfold inI; omega)
   simp [-getElem?_pos,h1,h2,hr1,hr3,hr8,hsn,v2,v3,v5,v6,v7,v8,v9,hS0,hS1,hS2,hSo,hS3,hS4,hS5,fa,fb,fc,fd,fe,ff,fg,fy0,fy1,fy2,fy3,fy4,fy5]
   refine ⟨p2,s.nx+2,s.ep,s2,_,hp2,(by simp; omega),(by simp; omega),hin,?_,?_,?_,?_,?_,?_,by simp,by omega,by simp,?_,?_,?_,by simp,?_,?_,?_⟩ <;> simp [v2,v3,v5,v6,v7,v8,v9,hS0,hS1,hS2,hSo,hS3,hS4,hS5,fa,fb,fc,fd,fe,ff,fg,fy0,fy1,fy2,fy3,fy4,fy5]
  | false =>
   simp [-getElem?_pos,h1,v2,v3,v5,v6,v7,v8,v9,hS0,hS1,hS2,hSo,hS3,hS4,hS5,fa,fb,fc,fd,fe,ff,fg,fy0,fy1,fy2,fy3,fy4,fy5]
   refine ⟨p1,o,e,s1,gs,hp1,hg1,(by omega),hgi,?_,?_,?_,?_,?_,?_,?_,ho,by simp [hox],?_,?_,?_,?_,?_,?_,?_⟩ <;> simp [v2,v3,v5,v6,v7,v8,v9,hS0,hS1,hS2,hSo,hS3,hS4,hS5,fa,fb,fc,fd,fe,ff,fg,fy0,fy1,fy2,fy3,fy4,fy5]
 clear hs s
 intro s hs
 refine zl1 (A0 B c v m (m+1)) ?_ ?_
 ·obtain ⟨p,o,e,sd,gs,hp,hg1,hg2,hgi,v2,v3,v5,v6,v7,v8,v9,ho,hox,hS0,hS1,hS2,hSo,hS3,hS4,hS5⟩:=hs
  have fa:=fr hox
  have fb:=fr ho
  have fc:=fr (by omega:0<o)
  have fd:=fr (by omega:1<o)
  have fe:=fr (by omega:2<o)
  have ff:=fr (by omega:3<o)
  have fg:=fr (by omega:4<o)
  have fy0:=fr (by omega:0<s.nx)
  have fy1:=fr (by omega:1<s.nx)
  have fy2:=fr (by omega:2<s.nx)
  have fy3:=fr (by omega:3<s.nx)
  have fy4:=fr (by omega:4<s.nx)
  have fy5:=fr (by omega:5<s.nx)
  obtain ⟨r1,h1,w1,p1,s1,⟨b,rfl⟩,hp1,rfl⟩:=zd4 B p sd hp hB 20 (by omega)
  have hm0:0<m:=by omega
  cases b with
  | true =>
   obtain ⟨r2,h2,w2,p2,s2,⟨x,rfl,hx⟩,hp2,rfl⟩:=zfz B p1 s1 hp1 hB [2199023255552,2199023255553,-2199023255552,-2199023255553] (by simp)
   simp only [zac,List.map] at h2
   obtain ⟨y,hy⟩ : ∃ y,gs[0]?=some y:=⟨_,List.getElem?_eq_getElem (by omega)⟩
   have hy':=zbj hy
   have hg0:0<gs.length:=by omega
   have hset:=z6z gs 0 x
   have hin : ∀ z∈gs.set 0 x,inI z:=zrl hgi (by simp at hx; unfold inI; omega)
   simp [-getElem?_pos,h1,h2,hm0,hr4,hy',hg0,hset,v2,v3,v5,v6,v7,v8,v9,hS0,hS1,hS2,hSo,hS3,hS4,hS5,fa,fb,fc,fd,fe,ff,fg,fy0,fy1,fy2,fy3,fy4,fy5]
   refine ⟨p2,o,e,s2,gs.set 0 x,hp2,by simp; omega,by simp; omega,hin,?_,?_,?_,?_,?_,?_,?_,ho,by simp; omega,?_,?_,?_,?_,?_,?_,?_⟩ <;> simp [v2,v3,v5,v6,v7,v8,v9,hS0,hS1,hS2,hSo,hS3,hS4,hS5,fa,fb,fc,fd,fe,ff,fg,fy0,fy1,fy2,fy3,fy4,fy5]
  | false =>
   simp [-getElem?_pos,h1,hm0,v2,v3,v5,v6,v7,v8,v9,hS0,hS1,hS2,hSo,hS3,hS4,hS5,fa,fb,fc,fd,fe,ff,fg,fy0,fy1,fy2,fy3,fy4,fy5]
   refine ⟨p1,o,e,s1,gs,hp1,hg1,hg2,hgi,?_,?_,?_,?_,?_,?_,?_,ho,by simp [hox],?_,?_,?_,?_,?_,?_,?_⟩ <;> simp [v2,v3,v5,v6,v7,v8,v9,hS0,hS1,hS2,hSo,hS3,hS4,hS5,fa,fb,fc,fd,fe,ff,fg,fy0,fy1,fy2,fy3,fy4,fy5]
 clear hs s
 intro s hs
 refine zl1 (A1 B c v m) ?_ ?_
 ·obtain ⟨p,o,e,sd,gs,hp,hg1,hg2,hgi,v2,v3,v5,v6,v7,v8,v9,ho,hox,hS0,hS1,hS2,hSo,hS3,hS4,hS5⟩:=hs
  have fa:=fr hox
  have fb:=fr ho
  have fc:=fr (by omega:0<o)
  have fd:=fr (by omega:1<o)
  have fe:=fr (by omega:2<o)
  have ff:=fr (by omega:3<o)
  have fg:=fr (by omega:4<o)
  have fy0:=fr (by omega:0<s.nx)
  have fy1:=fr (by omega:1<s.nx)
  have fy2:=fr (by omega:2<s.nx)
  have fy3:=fr (by omega:3<s.nx)
  have fy4:=fr (by omega:4<s.nx)
  have fy5:=fr (by omega:5<s.nx)
  obtain ⟨r1,h1,w1,p1,s1,⟨k,rfl,hk⟩,hp1,rfl⟩:=z4c B p sd hp hB
  simp only [zj1] at h1
  simp [-getElem?_pos,h1,v2,v3,v5,v6,v7,v8,v9,hS0,hS1,hS2,hSo,hS3,hS4,hS5,fa,fb,fc,fd,fe,ff,fg,fy0,fy1,fy2,fy3,fy4,fy5]
  refine ⟨p1,o,e,s1,gs,s.nx,s.nx+1,s.ep,s.ep,k,hp1,hg2,hgi,by omega,?_,?_,?_,?_,?_,?_,?_,ho,by simp; omega,?_,?_,?_,?_,?_,?_,?_,by simp,hox,by omega,by simp,by simp,by omega,by simp,by simp⟩ <;> simp [v2,v3,v5,v6,v7,v8,v9,hS0,hS1,hS2,hSo,hS3,hS4,hS5,fa,fb,fc,fd,fe,ff,fg,fy0,fy1,fy2,fy3,fy4,fy5]
 clear hs s
 intro s hs
 refine zl1 (A1 B c v m) ?_ ?_
 ·obtain ⟨p,o,e,sd,gs,q,w,ew,eq,k,hp,hg2,hgi,hk,v2,v3,v5,v6,v7,v8,v9,ho,hox,hS0,hS1,hS2,hSo,hS3,hS4,hS5,v12,hoq,how,hqx,hwx,hqw,hSw,hSq⟩:=hs
  have fa:=fr hox
  have fb:=fr ho
  have fc:=fr (by omega:0<o)
  have fd:=fr (by omega:1<o)
  have fe:=fr (by omega:2<o)
  have ff:=fr (by omega:3<o)
  have fg:=fr (by omega:4<o)
  have fy0:=fr (by omega:0<s.nx)
  have fy1:=fr (by omega:1<s.nx)
  have fy2:=fr (by omega:2<s.nx)
  have fy3:=fr (by omega:3<s.nx)
  have fy4:=fr (by omega:4<s.nx)
  have fy5:=fr (by omega:5<s.nx)
  have fu:=fr hoq
  have fv:=fr how
  have fw:=fr hqx
  have fx:=fr hwx
  have ft0:=fr (by omega:0<q)
  have ft1:=fr (by omega:1<q)
  have ft2:=fr (by omega:2<q)
  have ft3:=fr (by omega:3<q)
  have ft4:=fr (by omega:4<q)
  have ft5:=fr (by omega:5<q)
  have fr0:=fr (by omega:0<w)
  have fr1:=fr (by omega:1<w)
  have fr2:=fr (by omega:2<w)
  have fr3:=fr (by omega:3<w)
  have fr4:=fr (by omega:4<w)
  have fr5:=fr (by omega:5<w)
  have hwq : ¬ w=q:=fun h=>hqw h.symm
  obtain ⟨r1,h1,w1,p1,s1,⟨b,rfl⟩,hp1,rfl⟩:=zd4 B p sd hp hB 20 (by omega)
  cases b with
  | true =>
   obtain ⟨r2,h2,w2,p2,s2,⟨k2,rfl,hk2⟩,hp2,rfl⟩:=yh3 B p1 s1 hp1 hB
   simp only [zj1] at h2
   simp [-getElem?_pos,h1,h2,v2,v3,v5,v6,v7,v8,v9,hS0,hS1,hS2,hSo,hS3,hS4,hS5,fa,fb,fc,fd,fe,ff,fg,fy0,fy1,fy2,fy3,fy4,fy5,v12,hqw,hSw,hSq,hwq,fu,fv,fw,fx,ft0,ft1,ft2,ft3,ft4,ft5,fr0,fr1,fr2,fr3,fr4,fr5]
   refine ⟨p2,o,e,s2,gs,s.nx,w,ew,s.ep,k2,hp2,hg2,hgi,hk2,?_,?_,?_,?_,?_,?_,?_,ho,by simp; omega,?_,?_,?_,?_,?_,?_,?_,by simp [v12],hox,how,by simp,by simp; omega,by omega,by simp [fa,fb,fc,fd,fe,ff,fg,fy0,fy1,fy2,fy3,fy4,fy5,fu,fv,fw,fx,ft0,ft1,ft2,ft3,ft4,ft5,fr0,fr1,fr2,fr3,fr4,fr5],by simp [fa,fb,fc,fd,fe,ff,fg,fy0,fy1,fy2,fy3,fy4,fy5,fu,fv,fw,fx,ft0,ft1,ft2,ft3,ft4,ft5,fr0,fr1,fr2,fr3,fr4,fr5]⟩ <;> simp [v2,v3,v5,v6,v7,v8,v9,hS0,hS1,hS2,hSo,hS3,hS4,hS5,fa,fb,fc,fd,fe,ff,fg,fy0,fy1,fy2,fy3,fy4,fy5,v12,hqw,hSw,hSq,hwq,fu,fv,fw,fx,ft0,ft1,ft2,ft3,ft4,ft5,fr0,fr1,fr2,fr3,fr4,fr5]
  | false =>
   simp [-getElem?_pos,h1,v2,v3,v5,v6,v7,v8,v9,hS0,hS1,hS2,hSo,hS3,hS4,hS5,fa,fb,fc,fd,fe,ff,fg,fy0,fy1,fy2,fy3,fy4,fy5,v12,hqw,hSw,hSq,hwq,fu,fv,fw,fx,ft0,ft1,ft2,ft3,ft4,ft5,fr0,fr1,fr2,fr3,fr4,fr5]
   refine ⟨p1,o,e,s1,gs,q,w,ew,eq,k,hp1,hg2,hgi,hk,?_,?_,?_,?_,?_,?_,?_,ho,by simp [hox],?_,?_,?_,?_,?_,?_,?_,by simp [v12],hoq,how,by simp [hqx],by simp [hwx],hqw,?_,?_⟩ <;> simp [v2,v3,v5,v6,v7,v8,v9,hS0,hS1,hS2,hSo,hS3,hS4,hS5,fa,fb,fc,fd,fe,ff,fg,fy0,fy1,fy2,fy3,fy4,fy5,v12,hqw,hSw,hSq,hwq,fu,fv,fw,fx,ft0,ft1,ft2,ft3,ft4,ft5,fr0,fr1,fr2,fr3,fr4,fr5]
 clear hs s
 intro s hs
 refine zl1 (A2 B m) ?_ ?_
 ·obtain ⟨p,o,e,sd,gs,q,w,ew,eq,k,hp,hg2,hgi,hk,v2,v3,v5,v6,v7,v8,v9,ho,hox,hS0,hS1,hS2,hSo,hS3,hS4,hS5,v12,hoq,how,hqx,hwx,hqw,hSw,hSq⟩:=hs
  have fa:=fr hox
  have fb:=fr ho
  have fc:=fr (by omega:0<o)
  have fd:=fr (by omega:1<o)
  have fe:=fr (by omega:2<o)
  have ff:=fr (by omega:3<o)
  have fg:=fr (by omega:4<o)
  have fy0:=fr (by omega:0<s.nx)
  have fy1:=fr (by omega:1<s.nx)
  have fy2:=fr (by omega:2<s.nx)
  have fy3:=fr (by omega:3<s.nx)
  have fy4:=fr (by omega:4<s.nx)
  have fy5:=fr (by omega:5<s.nx)
  have fu:=fr hoq
  have fv:=fr how
  have fw:=fr hqx
  have fx:=fr hwx
  have ft0:=fr (by omega:0<q)
  have ft1:=fr (by omega:1<q)
  have ft2:=fr (by omega:2<q)
  have ft3:=fr (by omega:3<q)
  have ft4:=fr (by omega:4<q)
  have ft5:=fr (by omega:5<q)
  have fr0:=fr (by omega:0<w)
  have fr1:=fr (by omega:1<w)
  have fr2:=fr (by omega:2<w)
  have fr3:=fr (by omega:3<w)
  have fr4:=fr (by omega:4<w)
  have fr5:=fr (by omega:5<w)
  have hwq : ¬ w=q:=fun h=>hqw h.symm
  obtain ⟨r1,h1,w1,p1,s1,⟨b,rfl⟩,hp1,rfl⟩:=zd4 B p sd hp hB 20 (by omega)
  cases b with
  | true =>
   obtain ⟨r2,h2,w2,p2,s2,⟨c2,v2',rfl,hgb⟩,hp2,rfl⟩:=yi5 B p1 s1 hp1 hB
   simp [-getElem?_pos,h1,h2,v2,v3,v5,v6,v7,v8,v9,hS0,hS1,hS2,hSo,hS3,hS4,hS5,fa,fb,fc,fd,fe,ff,fg,fy0,fy1,fy2,fy3,fy4,fy5,v12,hqw,hSw,hSq,hwq,fu,fv,fw,fx,ft0,ft1,ft2,ft3,ft4,ft5,fr0,fr1,fr2,fr3,fr4,fr5]
   refine ⟨p2,o,e,s2,gs,q,w,ew,eq,k,c2,v2',s.nx,s.nx+1,s.ep,s.ep,hp2,hg2,hgi,hk,hgb,?_,?_,?_,?_,?_,?_,?_,ho,by simp; omega,?_,?_,?_,?_,by simp [v12],hoq,how,by simp; omega,by simp; omega,hqw,?_,?_,by simp [fa,fb,fc,fd,fe,ff,fg,fy0,fy1,fy2,fy3,fy4,fy5,fu,fv,fw,fx,ft0,ft1,ft2,ft3,ft4,ft5,fr0,fr1,fr2,fr3,fr4,fr5],by simp [fa,fb,fc,fd,fe,ff,fg,fy0,fy1,fy2,fy3,fy4,fy5,fu,fv,fw,fx,ft0,ft1,ft2,ft3,ft4,ft5,fr0,fr1,fr2,fr3,fr4,fr5],by simp [fa,fb,fc,fd,fe,ff,fg,fy0,fy1,fy2,fy3,fy4,fy5,fu,fv,fw,fx,ft0,ft1,ft2,ft3,ft4,ft5,fr0,fr1,fr2,fr3,fr4,fr5],by omega,by simp,by simp,by omega,by omega,by omega,by omega,by omega,by omega,by omega,by omega,by omega,by omega⟩ <;> simp [v2,v3,v5,v6,v7,v8,v9,hS0,hS1,hS2,hSo,hS3,hS4,hS5,fa,fb,fc,fd,fe,ff,fg,fy0,fy1,fy2,fy3,fy4,fy5,v12,hqw,hSw,hSq,hwq,fu,fv,fw,fx,ft0,ft1,ft2,ft3,ft4,ft5,fr0,fr1,fr2,fr3,fr4,fr5]
  | false =>
   simp [-getElem?_pos,h1,v2,v3,v5,v6,v7,v8,v9,hS0,hS1,hS2,hSo,hS3,hS4,hS5,fa,fb,fc,fd,fe,ff,fg,fy0,fy1,fy2,fy3,fy4,fy5,v12,hqw,hSw,hSq,hwq,fu,fv,fw,fx,ft0,ft1,ft2,ft3,ft4,ft5,fr0,fr1,fr2,fr3,fr4,fr5]
   refine ⟨p1,o,e,s1,gs,q,w,ew,eq,k,c,v,3,4,0,0,hp1,hg2,hgi,hk,⟨by omega,by omega,hcA,hvA⟩,?_,?_,?_,?_,?_,?_,?_,ho,by simp [hox],?_,?_,?_,?_,by simp [v12],hoq,how,by simp [hqx],by simp [hwx],hqw,?_,?_,?_,?_,?_,by omega,by simp; omega,by simp; omega,by omega,by omega,by omega,by omega,by omega,by omega,by omega,by omega,by omega,by omega⟩ <;> simp [v2,v3,v5,v6,v7,v8,v9,hS0,hS1,hS2,hSo,hS3,hS4,hS5,fa,fb,fc,fd,fe,ff,fg,fy0,fy1,fy2,fy3,fy4,fy5,v12,hqw,hSw,hSq,hwq,fu,fv,fw,fx,ft0,ft1,ft2,ft3,ft4,ft5,fr0,fr1,fr2,fr3,fr4,fr5]
 clear hs s
 intro s hs
 obtain ⟨p,o,e,sd,gs,q,w,ew,eq,k,c,v,a,b,ea,eb,hp,hg2,hgi,hk,hgb,v2,v3,v5,v6,v7,v8,v9,ho,hox,hS0,hS1,hS2,hSo,v12,hoq,how,hqx,hwx,hqw,hSw,hSq,hSa,hSb,hS5,hab,hax,hbx,ha2,hb2,ha5,hb5,hao,hbo,haq,hbq,haw,hbw⟩:=hs
 have fa:=fr hox
 have fb:=fr ho
 have fc:=fr (by omega:0<o)
 have fd:=fr (by omega:1<o)
 have fe:=fr (by omega:2<o)
 have ff:=fr (by omega:3<o)
 have fg:=fr (by omega:4<o)
 have fy0:=fr (by omega:0<s.nx)
 have fy1:=fr (by omega:1<s.nx)
 have fy2:=fr (by omega:2<s.nx)
 have fy3:=fr (by omega:3<s.nx)
 have fy4:=fr (by omega:4<s.nx)
 have fy5:=fr (by omega:5<s.nx)
 have fu:=fr hoq
 have fv:=fr how
 have fw:=fr hqx
 have fx:=fr hwx
 have ft0:=fr (by omega:0<q)
 have ft1:=fr (by omega:1<q)
 have ft2:=fr (by omega:2<q)
 have ft3:=fr (by omega:3<q)
 have ft4:=fr (by omega:4<q)
 have ft5:=fr (by omega:5<q)
 have fr0:=fr (by omega:0<w)
 have fr1:=fr (by omega:1<w)
 have fr2:=fr (by omega:2<w)
 have fr3:=fr (by omega:3<w)
 have fr4:=fr (by omega:4<w)
 have fr5:=fr (by omega:5<w)
 have hwq : ¬ w=q:=fun h=>hqw h.symm
 have hba : ¬ b=a:=fun h=>hab h.symm
 have hoa : ¬ o=a:=fun h=>hao h.symm
 have hob : ¬ o=b:=fun h=>hbo h.symm
 have hqa : ¬ q=a:=fun h=>haq h.symm
 have hqb : ¬ q=b:=fun h=>hbq h.symm
 have hwa : ¬ w=a:=fun h=>haw h.symm
 have hwb : ¬ w=b:=fun h=>hbw h.symm
 have h5a : ¬ 5=a:=fun h=>ha5 h.symm
 have h5b : ¬ 5=b:=fun h=>hb5 h.symm
 have a0:=fr (by omega:0<a)
 have b0:=fr (by omega:0<b)
 have a1:=fr (by omega:1<a)
 have b1:=fr (by omega:1<b)
 have a2:=fr (by omega:2<a)
 have b2:=fr (by omega:2<b)
 simp [-getElem?_pos,zsf,hSa,hSb,hab,ha5,hb5,hao,hbo,haq,hbq,haw,hbw,hba,hoa,hob,hqa,hqb,hwa,hwb,h5a,h5b,a0,a1,a2,b0,b1,b2,v2,v3,v5,v6,v7,v8,v9,hS0,hS1,hS2,hSo,hS5,fa,fb,fc,fd,fe,ff,fg,fy0,fy1,fy2,fy3,fy4,fy5,v12,hqw,hSw,hSq,hwq,fu,fv,fw,fx,ft0,ft1,ft2,ft3,ft4,ft5,fr0,fr1,fr2,fr3,fr4,fr5]
 exact ⟨p,sd,c,v,gs,k,hp,hgb,by omega,hgi,hk,rfl⟩
theorem yi7 (g rows:List Int) (hg : ∀ x∈g,-2199023255552≤x∧x≤2199023255552) (hr : ∀ r∈rows,0≤r∧r<g.length) (hl:rows.length≤1048576):RUN T zmh [.sl 1 (zac g),.sl 1 (zac rows)]=some ([.agg (slc (zg3 g rows))],[]):=by
 rw [zz4]
 refine zal z05 rfl ?_
 simp [-getElem?_pos,zr3,zr4]
 refine za3 (fun k st => ∃ i:Nat,i+k=rows.length∧st.V 0 = .sl 1 (zac g)∧st.V 1 = .sl 1 (zac rows)∧st.V 4 = .ptr 0 none 0 0 0∧st.V 5 = .ptr 1 none 0 0 0∧st.V 6=iv i∧1<st.nx∧st.S 1=some (.box [iv i,iv (zee g rows i)])∧st.S 0=some (.box [iv 0,iv 0])) ?_ rows.length _ ⟨0,by omega,by simp,by simp,by simp,by simp,by simp,by simp,by simp [zee],by simp⟩
 rintro k st ⟨i,hi,v0,v1,v4,v5,v6,h1x,hS1,hS0⟩
 obtain ⟨z1,z2,z3,z4⟩:=fr h1x
 by_cases hlt:i<rows.length
 ·obtain ⟨r,hrr⟩ : ∃ r,rows[i]?=some r:=⟨_,List.getElem?_eq_getElem hlt⟩
  obtain ⟨r0,r1⟩:=hr r (List.mem_of_getElem? hrr)
  obtain ⟨rn,rfl⟩ : ∃ n:Nat,r=n:=⟨r.toNat,by omega⟩
  obtain ⟨x,hx⟩ : ∃ x,g[rn]?=some x:=⟨_,List.getElem?_eq_getElem (by omega)⟩
  have hrn:rn<g.length:=by omega
  have hr':=zbj hrr
  have hx':=zbj hx
  have hws:=wS hlt (by omega:rows.length≤9223372036854775807)
  have hs:=z5f (g:=g) hrr (x:=x) (by unfold atI; rw [if_pos r0]; simpa using hx)
  have b1:=zw6 (rows:=rows) hg (i+1) (by omega)
  rw [hs] at b1
  have hw:=w64 (x:=zee g rows i+x) (by omega) (by omega)
  simp [-getElem?_pos,zxj,v0,v1,v4,v5,v6,hS1,hS0,hlt,hr',hx',hrn,hw,hws,z1,z2,z3,z4]
  exact zaq (k-1) (by omega) ⟨i+1,by omega,by simp [v0],by simp [v1],by simp [v4],by simp [v5],by simp,by simp [h1x],by simp [hs],by simp [hS0]⟩
 ·have hin:i=rows.length:=by omega
  subst hin
  simp [-getElem?_pos,zxj,v1,v4,v5,v6,hS1,hS0,slc]
structure zjr (a b:Cfg):Prop where
 la:a.la=b.la
 rw:a.rw=b.rw
 de:a.de=b.de
 ok:zbr a=zbr b
 sg : ∀ f,ze3 a f=ze3 b f
theorem zyr {a b:Cfg} (h:zjr a b) (bd:Bd) (x:Cnd):zci a bd x=zci b bd x:=by
 unfold zci; rw [h.la]
theorem yku {a b:Cfg} (h:zjr a b) (bd:Bd) (x:Cnd):zdr a bd x=zdr b bd x:=by
 unfold zdr; rw [zyr h,h.ok,h.la,h.rw,h.sg]
theorem ykd {a b:Cfg} (h:zjr a b) (bd:Bd) (l:List Cnd):zez a bd l=zez b bd l:=by
 have e1:zdr a bd=zdr b bd:=funext fun x=>yku h bd x
 have e2:zjv a bd l=zjv b bd l:=by
  funext x
  unfold zjv
  have e3:noB a bd x=noB b bd x:=by
   funext y
   unfold noB; rw [e1,h.la]
  rw [e1,e3]
 unfold zez
 rw [e2]
theorem z7y {a b:Cfg} (h:zjr a b) (c v:List (List Int)) (g:List Int):zcr c v g a=zcr c v g b:=by
 unfold zcr; rw [h.ok]
theorem z60 {a b:Cfg} (h:zjr a b) (c v:List (List Int)) (g rows:List Int) (bd:Bd):zb9 c v g a rows bd=zb9 c v g b rows bd:=by
 unfold zb9; rw [z7y h,ykd h,h.rw]
theorem z8m {a b:Cfg} (h:zjr a b) (c v:List (List Int)) (g:List Int) : ∀ (n:Nat) (q:List Pnd) (i:Nat) (out:List Nd),zcx c v g a n q i out=zcx c v g b n q i out
 | 0,q,i,out=>rfl
 | n+1,q,i,out=>by
  unfold zcx
  cases q[i]? with
  | none=>rfl
  | some x =>
   have e1:goes c v g a x=goes c v g b x:=by unfold goes; rw [h.de,z60 h]
   have e2 : ∀ k,zhn c v a x k=zhn c v b x k:=fun k=>by unfold zhn; rw [zyr h,h.sg]
   have e3 : ∀ k,zh1 c v a x k=zh1 c v b x k:=fun k=>by unfold zh1; rw [zyr h,h.sg]
   have e4:zej g a x=zej g b x:=by unfold zej; rw [h.la]
   simp only [e1,e2,e3,e4,z60 h,z8m h c v g n]
theorem yjk {a b:Cfg} (h:zjr a b) (c v:List (List Int)) (g:List Int):zeo c v g a=zeo c v g b:=by
 unfold zeo; rw [z7y h,z8m h]
theorem yje {c v:List (List Int)} {g:List Int} {k:Cfg} (h0:k.de=0) (hk:zcr c v g k=true):zeo c v g k=([zrp (zdt (zg3 g (upl g.length)) k.la zht).1],true):=by
 have hg:goes c v g k (zd0 g)=false:=by unfold goes zd0; simp [h0]
 unfold zeo
 rw [if_pos hk]
 unfold zcx
 have e:[zd0 g][0]?=some (zd0 g):=rfl
 rw [e]
 simp only [hg,Bool.false_eq_true,if_false,List.nil_append]
 unfold zcx
 have e2:[zd0 g][0+1]?=none:=rfl
 rw [e2]
 rfl
theorem z8r {c v:List (List Int)} {g:List Int} {k:Cfg}:(zeo c v g k).2=zcr c v g k:=by
 unfold zeo
 cases zcr c v g k <;> rfl
theorem yp2 (k:Cfg):zjr { k with sg:=[] } { k with sg:=[0,0,0,0] }:=by
 refine ⟨rfl,rfl,rfl,?_,fun f => ?_⟩
 ·unfold zbr
  have h1:zak (0:Int) (-1) 1=true:=za6.mpr (by omega)
  simp [h1]
 ·unfold ze3
  have e1:atI ([]:List Int) f=none:=by unfold atI; split <;> simp
  have e2:(atI ([0,0,0,0]:List Int) f).getD 0=0:=by
   cases e:atI ([0,0,0,0]:List Int) f with
   | none=>rfl
   | some x =>
    obtain ⟨j,_,h2,_⟩:=zjj e
    have:=List.mem_of_getElem? h2
    simp at this
    simp [this]
  show (atI ([]:List Int) f).getD 0=(atI ([0,0,0,0]:List Int) f).getD 0
  rw [e1,e2]; rfl
theorem yo3 {c v:List (List Int)} {g:List Int} {k:Cfg} (h:zcr c v g k=true):zcr c v g { k with sg:=[] }=true∧zcr c v g { k with sg:=[0,0,0,0] }=true∧zcr c v g { k with sg:=[0,0,0,0],de:=0 }=true:=by
 have h1:zak (0:Int) (-1) 1=true:=za6.mpr (by omega)
 have h2:zak (0:Int) 0 4=true:=za6.mpr (by omega)
 unfold zcr zbr at *
 simp only [Bool.and_eq_true] at h
 obtain ⟨⟨⟨a1,⟨⟨⟨⟨⟨⟨⟨b1,b2⟩,b3⟩,b4⟩,b5⟩,b6⟩,b7⟩,b8⟩,b9⟩,a3⟩,a4⟩:=h
 simp only [a1,b1,b2,b3,b4,b5,b6,b7,a3,a4,Bool.and_true,Bool.true_and,h2]
 simp [h1]
theorem yo7 (cs:List PV) (h:zbq [.int .u8] cs) : ∃ n:Int,[PV.v (.int .u8 n)]=cs∧True:=by
 simp only [zbq,Shp] at h
 obtain ⟨_,_,rfl,⟨a,rfl,h1⟩,rfl⟩:=h
 exact ⟨a,rfl,trivial⟩
theorem ypu {c:PV} (h:zjw false [.sl [.int .u8]] c) : ∃ B:List Int,c = .sl 1 (za8 B)∧B.length≤9223372036854775807:=by
 simp only [zjw,Bool.false_eq_true,if_false,zbq,Shp] at h
 obtain ⟨c',r,e,⟨es,he,h1,h2⟩,hr⟩:=h
 simp only [List.cons.injEq] at e
 obtain ⟨l,hl,hp⟩:=z7u (f:=fun n:Int=>[PV.v (.int .u8 n)]) (tys:=[.int .u8]) yo7 h2
 subst hl
 simp [maxLen] at h1
 exact ⟨l,e.1.trans he,by omega⟩
def PGt (r:List PV×List PV):Prop := ∃ (c v:List (List Int)) (g:List Int) (k:Cfg),(c.length≤8∧v.length≤8∧(∀ l∈c,l.length≤64)∧∀ l∈v,l.length≤64)∧g.length≤64∧(∀ x∈g,inI x)∧k.sg.length≤64∧r=([.agg [.own 1 (rws true c),.own 1 (rws true v)],.own 1 (zac g),zj1 k],[])
theorem yi8 (B:List Int) (hB:B.length≤9223372036854775807) : ∃ r,RUN T zmi [.sl 1 (za8 B)]=some r∧PGt r:=by
 refine zdi z06 rfl ?_
 obtain ⟨r1,h1,p,sd,c,v,g,k,hp,hgb,hg,hgi,hk,rfl⟩:=yi6 B hB
 simp only [zj1] at h1
 simp [-getElem?_pos,zr5,zr6,h1]
 exact ⟨c,v,g,k,hgb,hg,hgi,hk,rfl⟩
set_option maxHeartbeats 4000000 in
theorem yj2 (B:List Int) (hB:B.length≤9223372036854775807):RUN T zpk [.sl 1 (za8 B)]=some ([bv true],[]):=by
 have hb:=yh1 (za8 B)
 rw [yoh] at hb
 by_cases c0:(1048576:Int)<B.length
 ·refine zal zqn rfl ?_
  simp [-getElem?_pos,zn0,zn1,hb,c0]
 obtain ⟨r,hd,c,v,g,k,⟨hc8,hv8,hcl,hvl⟩,hg,hgi,hk,rfl⟩:=yi8 B hB
 have hcl' : ∀ l∈c,l.length≤1048576:=fun l hl=>Nat.le_trans (hcl l hl) (by omega)
 have hvl' : ∀ l∈v,l.length≤1048576:=fun l hl=>Nat.le_trans (hvl l hl) (by omega)
 have hcm : ∀ l∈c,l.length≤9223372036854775807:=fun l hl=>Nat.le_trans (hcl l hl) (by omega)
 have hvm : ∀ l∈v,l.length≤9223372036854775807:=fun l hl=>Nat.le_trans (hvl l hl) (by omega)
 have t1:=yhy true c v g k hcm hvm (by omega) (by omega)
 have t2:=zxz true c v g k hcm hvm (by omega) (by omega)
 cases ht:zcr c v g k with
 | false =>
  rw [ht] at t1 t2
  simp only [ze1,zj1] at hd t1 t2
  refine zal zqn rfl ?_
  simp [-getElem?_pos,zn0,zn1,hb,c0,hd,t1,t2]
 | true =>
  rw [ht] at t1
  obtain ⟨o1,o2,o3⟩:=yo3 ht
  obtain ⟨f1,_,f3,f4⟩:=zwk ht
  have hrr:=z9n f1
  have hr4:=zdc (n:=4) (by omega)
  have a1:=zx8 true c v g { k with sg:=[] } hcl' hvl' (by omega) (by simp) hgi
  have a2:=zx8 true c v g { k with sg:=[0,0,0,0] } hcl' hvl' (by omega) (by simp) hgi
  have a3:=zx8 true c v g { k with sg:=[0,0,0,0],de:=0 } hcl' hvl' (by omega) (by simp) hgi
  rw [z8r,o1,yjk (yp2 k)] at a1
  rw [z8r,o2] at a2
  rw [yje rfl o3] at a3
  have hul:(upl g.length).length=g.length:=by simp [upl]
  have a4:=yiu g.length (by omega)
  have a5:=yi7 g (upl g.length) f4 (fun r hr=>by
   simp only [upl,List.mem_map,List.mem_range] at hr
   obtain ⟨i,hi,rfl⟩:=hr
   omega) (by omega)
  have a6:=yir
  have a7:=yid (zg3 g (upl g.length)) k.la zht (z6q f4 (by omega))
  have hlen:(zeo c v g { k with sg:=[0,0,0,0] }).1.length≤32:=by
   unfold zeo
   rw [if_pos o2]
   have:=zyg (c:=c) (v:=v) (g:=g) (cfg := { k with sg:=[0,0,0,0] }) 32 [zd0 g] 0 []
   simpa using this
  generalize (zeo c v g { k with sg:=[0,0,0,0] }).1=W at *
  generalize (zdt (zg3 g (upl g.length)) k.la zht)=V at *
  obtain ⟨V,Vb⟩:=V
  simp only at a3 a7
  have a8:=z4a W W (by omega) (by omega)
  have a9:=yh2 V
  have a10:=z4a [zrp V] [zrp V] (by simp) (by simp)
  rw [decide_eq_true rfl] at a8 a10
  have i0:zac []=[]:=rfl
  have i4:zac [0,0,0,0]=[[iv 0],[iv 0],[iv 0],[iv 0]]:=rfl
  generalize upl g.length=U at *
  generalize zg3 g U=SU at *
  simp only [ze1,cfS,zj1,slc,bnd,i0,i4,List.map_cons,List.map_nil] at hd t1 a1 a2 a3 a5 a6 a7 a9 a10
  refine zal zqn rfl ?_
  simp [-getElem?_pos,zn0,zn1,hb,c0,hd,t1,a1,a2,a3,a4,a5,a6,a7,a8,a9,a10,hr4,hul]
inductive SN where
 | mk (f c v:Int) (ks:List SN)
def zym (q:Bool) (es:List (List PV)):PV:=if q then .own 4 es else .sl 4 es
mutual
def snC (q:Bool):SN→List PV
 | .mk f c v ks=>[iv f,iv c,iv v,zym q (snL q ks)]
def snL (q:Bool):List SN→List (List PV)
 | []=>[]
 | s::ss=>snC q s::snL q ss
end
theorem z74 (q:Bool) : ∀ ks:List SN,snL q ks=ks.map (snC q)
 | []=>by simp [snL]
 | k::ks=>by simp [snL,z74 q ks]
@[simp] theorem yze (q:Bool) (ks:List SN):(snL q ks).length=ks.length:=by rw [z74]; simp
@[simp] theorem y3z (q:Bool) (es:List (List PV)):fz (zym q es) = .sl 4 es:=by cases q <;> simp [zym]
theorem yjq {c:Cfg} (h:zbr c=true):1≤c.la∧c.la≤100∧0≤c.de∧c.de≤4:=by
 unfold zbr at h
 simp only [Bool.and_eq_true,za6] at h
 omega
structure GH (c v:List (List Int)) (g:List Int) (cfg:Cfg):Prop where
 tk:zcr c v g cfg=true
 sg:cfg.sg.length≤1048576
theorem GH.la {c v:List (List Int)} {g:List Int} {cfg:Cfg} (h:GH c v g cfg):1≤cfg.la∧cfg.la≤100∧0≤cfg.de∧cfg.de≤4:=yjq (zwk h.tk).2.1
theorem fr2 {x n:Nat} (h:x<n) : ¬ x=n+1+2∧¬ x=n+2+1∧¬ x=n+2+2∧¬ n+1+2=x∧¬ n+2+1=x∧¬ n+2+2=x∧¬ n=x∧¬ n+1=x∧¬ n+2=x∧¬ x=n+2+2+1∧¬ x=n+2+3:=by omega
end Go.Pe
