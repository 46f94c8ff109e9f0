/- What each function answers by the evaluator,and the law; for each answer its own conditions stand ahead of it. -/
import Derived.Test.YtpcphbbcnmhcnaaGreatC1
import Derived.Test.YtpcphbbcnmhcnaaGreatEvB2
import Derived.IntWalk
set_option linter.all false
set_option maxHeartbeats 8000000
set_option maxRecDepth 8000
namespace Go.Pe
open Go
theorem qhf (B:List Int) (hB:B.length<=9223372036854775807) (far:Bool) (n:Nat) (hn:n<=3) {st:St} {p o e:Nat} {s:Int} {Q:Ex->St->Prop} (hp:p<=B.length) (v0:st.V 0 = .ptr 0 none 0 0 0) (v3:st.V 3=iv n) (v6:st.V 6=bv far) (v8:st.V 8 = .ref o none e 0 0) (v9:st.V 9=iv (0:Nat)) (ho:0<o) (hox:o<st.nx) (hS0:st.S 0=some (.box [.sl 1 (zbl B),iv p,iv s])) (hSo:st.S o=some (.row 1 []))
  (hQ : ∀ (s':St) (p' o' e':Nat) (sd:Int) (r:List Int),r.length=n->(∀ x∈r,zbg x=true)->(far=false->∀ x∈r,zzf x)->p'<=B.length->(∀ k,k≠8->k≠9->k≠10->s'.V k=st.V k)->s'.V 8 = .ref o' none e' 0 n->o<=o'->o'<s'.nx->st.nx<=s'.nx->s'.ep=st.ep->s'.S o'=some (.row 1 (zab r))->s'.S 0=some (.box [.sl 1 (zbl B),iv p',iv sd])->(∀ k,k≠0->k<o->s'.S k=st.S k)->Q (.exit 2) s') :
  W (zad T) (RUN T) (.loop zwi) st Q:=by
 refine zao (fun m s' => ∃ (i p' o' e':Nat) (sd:Int) (r:List Int),i+m=n/\r.length=i/\(∀ x∈r,zbg x=true)/\(far=false->∀ x∈r,zzf x)/\p'<=B.length/\(∀ k,k≠8->k≠9->k≠10->s'.V k=st.V k)/\s'.V 8 = .ref o' none e' 0 r.length/\s'.V 9=iv i/\o<=o'/\o'<s'.nx/\st.nx<=s'.nx/\s'.ep=st.ep/\s'.S o'=some (.row 1 (zab r))/\s'.S 0=some (.box [.sl 1 (zbl B),iv p',iv sd])/\(∀ k,k≠0->k<o->s'.S k=st.S k)) ?_ n _ ⟨0,p,o,e,s,[],by omega,rfl,by simp,by simp,hp,fun _ _ _ _=>rfl,by simpa using v8,by simpa using v9,by omega,hox,Nat.le_refl _,rfl,by simpa [zab] using hSo,hS0,fun _ _ _=>rfl⟩;rintro m s' ⟨i,p',o',e',sd,r,hi,hr,hrd,hrs,hp',hV,v8',v9',hoo,hox',hnx,hep,hSo',hS0',hfr⟩;have v0':s'.V 0 = .ptr 0 none 0 0 0:=by rw [hV 0 (by decide) (by decide) (by decide)]; exact v0
 have v3':s'.V 3=iv n:=by rw [hV 3 (by decide) (by decide) (by decide)]; exact v3
 have v6':s'.V 6=bv far:=by rw [hV 6 (by decide) (by decide) (by decide)]; exact v6
 obtain ⟨x1,x2,x3,x4⟩:=fr hox';obtain ⟨g1,g2,g3,g4⟩:=fr (show 0<o' by omega);obtain ⟨z1,z2,z3,z4⟩:=fr (show 0<s'.nx by omega)
 by_cases h:i<n
 ·have hw:=wS h (by omega:n<=9223372036854775807);have hr1:zag 8 1=true:=by decide
  have hr8:=zbx (n:=r.length+1) (by omega);obtain ⟨r1,h1,w1,p1,s1,⟨a1,rfl,had⟩,hp1,rfl⟩:=ya7 B p' sd hp' hB;cases far with
  | true =>
   have hsn:=zbn r a1;simp [-getElem?_pos,zwi,v0',v3',v6',v8',v9',hSo',hS0',h,h1,hw,hr8,hsn,g2,x1];refine zai (m-1) (by omega) ⟨i+1,p1,s'.nx+1,s'.ep,s1,r++[a1],by omega,by simp [hr],?_,fun h=>(by cases h),hp1,fun k k1 k2 k3 => ?_,by simp,by simp,by omega,by simp,by simp; omega,by simp [hep],by simp,by simp [g1,z1,z2],fun k k1 k2 => ?_⟩
   ·intro x hx;rcases bM hx with hx | hx
    ·exact hrd x hx
    ·simp at hx; subst hx; exact had
   ·simp [k1,k2,k3]; exact hV k k1 k2 k3
   ·have e1:(k=s'.nx)=False:=bK (by omega);have e2:(k=s'.nx+1)=False:=bK (by omega);have e3:(k=o')=False:=bK (by omega);have e4:(k=0)=False:=bK k1;simp [e1,e2,e3,e4];exact hfr k k1 k2
  | false =>
   obtain ⟨r2,h2,w2,p2,s2,⟨a2,rfl,a20,a21⟩,hp2,rfl⟩:=zba B p1 s1 hp1 hB 7 (by omega);have a22:=a21 (by omega);have u1:=w64 (x:=a2-3) (by omega) (by omega);have u2:=w64 (x:=500*(a2-3)) (by omega) (by omega);have hsn:=zbn r (500*(a2-3));simp [-getElem?_pos,zwi,v0',v3',v6',v8',v9',hSo',hS0',h,h1,h2,hw,u1,u2,hr8,hsn,g2,x1];refine zai (m-1) (by omega) ⟨i+1,p2,s'.nx+1,s'.ep,s2,r++[500*(a2-3)],by omega,by simp [hr],?_,?_,hp2,fun k k1 k2 k3 => ?_,by simp,by simp,by omega,by simp,by simp; omega,by simp [hep],by simp,by simp [g1,z1,z2],fun k k1 k2 => ?_⟩
   ·intro x hx;rcases bM hx with hx | hx
    ·exact hrd x hx
    ·simp at hx; subst hx; exact zu3 (by omega) (by omega)
   ·intro _ x hx;rcases bM hx with hx | hx
    ·exact hrs rfl x hx
    ·simp at hx; subst hx; unfold zzf; omega
   ·simp [k1,k2,k3]; exact hV k k1 k2 k3
   ·have e1:(k=s'.nx)=False:=bK (by omega);have e2:(k=s'.nx+1)=False:=bK (by omega);have e3:(k=o')=False:=bK (by omega);have e4:(k=0)=False:=bK k1;simp [e1,e2,e3,e4];exact hfr k k1 k2
 ·have hin:i=n:=by omega
  subst hin;simp [-getElem?_pos,zwi,v3',v9'];exact hQ _ p' o' e' sd r hr hrd hrs hp' (fun k k1 k2 k3=>by simp; exact hV k k1 k2 k3) (by simp [v8',hr]) hoo (by simp [hox']) (by simp [hnx]) (by simp [hep]) (by simp [hSo']) (by simp [hS0']) (fun k k1 k2=>by simp; exact hfr k k1 k2)
def PTa (v:PV):Prop := ∃ t:Ta,v=taO t/\TaL 64 t/\zcv t=true
def nm4:List ByteArray:=[bs [97],bs [98],bs [99,50],bs [100]]
theorem qhu {n:Nat} (h1:1<=n) (h3:n<=3):zgq (nm4.take n++[bs [121]])=true:=by
 have h:n=1\/n=2\/n=3:=by omega
 rcases h with rfl | rfl | rfl <;> decide +kernel
theorem qe2 {n m:Nat} {L:List (List Int)} {Y:List Int} (h1:1<=n) (h3:n<=3) (m1:1<=m) (m2:m<=40) (hL:L.length=m) (hY:Y.length=m) (hr : ∀ r∈L,r.length=n/\∀ x∈r,zbg x=true) (hy : ∀ y∈Y,zbg y=true):PTa (taO ⟨nm4.take n,bs [121],L,Y⟩):=by
 have hnl:(nm4.take n).length=n:=by simp [nm4]; omega
 have hsz:(bs [121]).size=1:=rfl;refine ⟨_,rfl,⟨by simp only [hnl]; omega,fun x hx => ?_,by simp only [hsz]; omega,by simp only [hL]; omega,fun r hr'=>by have:=(hr r hr').1; omega,by simp only [hY]; omega⟩,?_⟩
 ·have hm:=List.mem_of_mem_take hx;simp only [nm4,List.mem_cons,List.not_mem_nil,or_false] at hm;rcases hm with rfl | rfl | rfl | rfl <;> decide
 ·unfold zcv;simp only [hnl,hL,hY];rw [zar.mpr (by omega),qhu h1 h3,zar.mpr (by omega)];have e1:Y.all zbg=true:=by rw [List.all_eq_true]; exact hy
  have e2:L.all (zfn n)=true:=by
   rw [List.all_eq_true];intro r hr';unfold zfn;rw [decide_eq_true (by have:=(hr r hr').1; omega:(r.length:Int)=n),List.all_eq_true.mpr (hr r hr').2]; rfl
  rw [e1,e2]; simp
theorem ya9 (B:List Int) (p:Nat) (s:Int) (hp:p<=B.length) (hB:B.length<=9223372036854775807) : ∃ r,RUN T zlw [.bx [.sl 1 (zbl B),iv p,iv s]]=some r/\zf0 B PTa r:=by
 have hr0:zag 16 0=true:=by decide
 have hr1:zag 16 4=true:=by decide
 obtain ⟨r1,h1,v1,p1,s1,⟨a1,rfl,a10,a11⟩,hp1,rfl⟩:=zba B p s hp hB 3 (by omega);have a12:=a11 (by omega);obtain ⟨n,hnf⟩ : ∃ n:Nat,1+a1=n:=⟨(1+a1).toNat,by omega⟩;have w1:=w64 (x:=(n:Int)) (by omega) (by omega);have hr2:zag 16 n=true:=by simp [zag]; omega
 have hn3:n<=3:=by omega
 have hn4:n<=4:=by omega
 have hn1:1<=n:=by omega
 obtain ⟨ns,hns⟩ : ∃ ns,ns=nm4.take n:=⟨_,rfl⟩;have hcut:(if n=4 then [[PV.v (Value.string (bs [97]))],[PV.v (Value.string (bs [98]))],[PV.v (Value.string (bs [99,50]))],[PV.v (Value.string (bs [100]))]] else List.take n [[PV.v (Value.string (bs [97]))],[PV.v (Value.string (bs [98]))],[PV.v (Value.string (bs [99,50]))],[PV.v (Value.string (bs [100]))]])=za6 ns:=by
  subst hns;have h:n=1\/n=2\/n=3:=by omega
  rcases h with h | h | h <;> subst h <;> rfl
 have hnl:ns.length=n:=by subst hns; simp [nm4]; omega
 obtain ⟨r2,h2,v2,p2,s2,⟨a2,rfl,a20,a21⟩,hp2,rfl⟩:=zba B p1 s1 hp1 hB 9 (by omega);have a22:=a21 (by omega);obtain ⟨r3,h3,v3,p3,s3,⟨b3,rfl⟩,hp3,rfl⟩:=zg6 B p2 s2 hp2 hB 10 (by omega);have key : ∀ (m:Nat) (far:Bool) (p:Nat) (s:Int) (st:St),1<=m->m<=40->p<=B.length->st.V 0 = .ptr 0 none 0 0 0->st.V 2 = .ptr 1 none 0 0 0->st.V 3=iv n->st.V 4 = .ptr 5 none 0 0 0->st.V 5=iv m->st.V 6=bv far->st.V 7=iv (0:Nat)->5<st.nx->st.S 0=some (.box [.sl 1 (zbl B),iv p,iv s])->st.S 1=some (.box [.e0,.v (.string (bs [])),.e0,.e0])->st.S 4=some (.row 1 (za6 ns))->st.S 5=some (.box [.ref 4 none 0 0 n,.v (.string (bs [121])),.e0,.e0]) ->
   W (zad T) (RUN T) (.loop z1f) st (Bl 0 (Nx (fun s=>W (zad T) (RUN T) (.seq (.reg [oE 83 (.load true 4 (.V 4)),oN (.store [1,0,1,1] (.V 2) (.E 83))]) .ret) s (zjk zmq 1 (zf0 B PTa) ⟨⟩ ⟨⟩)) (zjk zmq 1 (zf0 B PTa) ⟨⟩ ⟨⟩) ⟨⟩ ⟨⟩) ⟨⟩):=by
  clear h1 h2 h3 hp1 hp2 hp3 hp;intro m far p s st hm1 hm40 hp v0 v2 v3 v4 v5 v6 v7 h5x hS0 hS1 hS4 hS5;refine zao (fun k st => ∃ (i p:Nat) (s:Int) (L:List (List Int)) (Y:List Int) (xR xY:PV),i+k=m/\L.length=i/\Y.length=i/\(∀ r∈L,r.length=n/\∀ x∈r,zbg x=true)/\(∀ y∈Y,zbg y=true)/\p<=B.length/\st.V 0 = .ptr 0 none 0 0 0/\st.V 2 = .ptr 1 none 0 0 0/\st.V 3=iv n/\st.V 4 = .ptr 5 none 0 0 0/\st.V 5=iv m/\st.V 6=bv far/\st.V 7=iv i/\5<st.nx/\st.S 0=some (.box [.sl 1 (zbl B),iv p,iv s])/\st.S 1=some (.box [.e0,.v (.string (bs [])),.e0,.e0])/\st.S 4=some (.row 1 (za6 ns))/\st.S 5=some (.box [.ref 4 none 0 0 n,.v (.string (bs [121])),xR,xY])/\((L=[]/\Y=[]/\xR = .e0/\xY = .e0)\/∃ o1 e1 o2 e2,xR = .ref o1 none e1 0 i/\xY = .ref o2 none e2 0 i/\5<o1/\o1<st.nx/\5<o2/\o2<st.nx/\¬ o1=o2/\st.S o1=some (.row 1 (rws true L))/\st.S o2=some (.row 1 (zab Y)))) ?_ m _ ⟨0,p,s,[],[],.e0,.e0,by omega,rfl,rfl,by simp,by simp,hp,v0,v2,v3,v4,v5,v6,v7,h5x,hS0,hS1,hS4,hS5,.inl ⟨rfl,rfl,rfl,rfl⟩⟩;clear v0 v2 v3 v4 v5 v6 v7 h5x hS0 hS1 hS4 hS5 hp;rintro k st ⟨i,p,s,L,Y,xR,xY,hi,hL,hY,hLr,hYd,hp,v0,v2,v3,v4,v5,v6,v7,h5x,hS0,hS1,hS4,hS5,hx⟩;obtain ⟨f1,f2,f3,f4⟩:=fr (show 0<st.nx by omega);obtain ⟨g1,g2,g3,g4⟩:=fr (show 1<st.nx by omega);obtain ⟨h1,h2,h3,h4⟩:=fr (show 4<st.nx by omega);obtain ⟨j1,j2,j3,j4⟩:=fr (show 5<st.nx by omega)
  by_cases h:i<m
  ·have hw:=wS h (by omega:m<=9223372036854775807);have hr1:zag 8 1=true:=by decide
   have hr00:zag 8 0=true:=by decide
   simp [-getElem?_pos,z1f,v5,v7,h];refine qhf (o:=st.nx) (e:=st.ep) (p:=p) (s:=s) B hB far n (by omega) hp (by simp [v0]) (by simp [v3]) (by simp [v6]) (by simp) (by simp) (by omega) (by simp) (by simp [f1,hS0]) (by simp) ?_;intro t p1 o3 e3 s1 r hr hrd hrs hp1 hV w8 ho3 ho3x hnx hep hSo3 hT0 hfr;simp only at ho3 hnx hep;have w0:t.V 0 = .ptr 0 none 0 0 0:=by rw [hV 0 (by decide) (by decide) (by decide)]; simp [v0]
   have w2:t.V 2 = .ptr 1 none 0 0 0:=by rw [hV 2 (by decide) (by decide) (by decide)]; simp [v2]
   have w3:t.V 3=iv n:=by rw [hV 3 (by decide) (by decide) (by decide)]; simp [v3]
   have w4:t.V 4 = .ptr 5 none 0 0 0:=by rw [hV 4 (by decide) (by decide) (by decide)]; simp [v4]
   have w5:t.V 5=iv m:=by rw [hV 5 (by decide) (by decide) (by decide)]; simp [v5]
   have w6:t.V 6=bv far:=by rw [hV 6 (by decide) (by decide) (by decide)]; simp [v6]
   have w7:t.V 7=iv i:=by rw [hV 7 (by decide) (by decide) (by decide)]; simp [v7]
   have hT1:t.S 1=some (.box [.e0,.v (.string (bs [])),.e0,.e0]):=by rw [hfr 1 (by omega) (by omega)]; simp [g1,hS1]
   have hT4:t.S 4=some (.row 1 (za6 ns)):=by rw [hfr 4 (by omega) (by omega)]; simp [h1,hS4]
   have hT5:t.S 5=some (.box [.ref 4 none 0 0 n,.v (.string (bs [121])),xR,xY]):=by rw [hfr 5 (by omega) (by omega)]; simp [j1,hS5]
   obtain ⟨x0,hx0⟩ : ∃ x,r[0]?=some x:=⟨_,bG (by omega)⟩;have hx0':=zay hx0;obtain ⟨q1,d1,_,p2,s2,⟨y,rfl,hyd⟩,hp2,rfl⟩:=ya7 B p1 s1 hp1 hB;have hr24:zag 24 1=true:=by decide
   have hr24':zag 24 (i+1)=true:=by simp [zag]; omega
   have hr8:=zbx (n:=i+1) (by omega);have hsn1:=zm7 L r;have hn0:(0:Nat)<n:=by omega
   have na : ∀ a b:Nat,t.nx+a+b=t.nx+(a+b):=fun a b=>Nat.add_assoc _ _ _;have Z2:=bI hw <| bI hr1 <| bI d1 <| bI hr24 na
   obtain ⟨F1,F2,F3,F4⟩:=fr (show 0<t.nx by omega);obtain ⟨G1,G2,G3,G4⟩:=fr (show 1<t.nx by omega);obtain ⟨H1,H2,H3,H4⟩:=fr (show 4<t.nx by omega);obtain ⟨J1,J2,J3,J4⟩:=fr (show 5<t.nx by omega);obtain ⟨O1,O2,O3,O4⟩:=fr (show o3<t.nx by omega);have n0a:(o3=0)=False:=bK (by omega);have n0b:(0=o3)=False:=bK (by omega);have n1a:(o3=1)=False:=bK (by omega);have n1b:(1=o3)=False:=bK (by omega);have n2a:(o3=4)=False:=bK (by omega);have n2b:(4=o3)=False:=bK (by omega);have n3a:(o3=5)=False:=bK (by omega);have n3b:(5=o3)=False:=bK (by omega);have Z1:=bI F1 <| bI F2 <| bI F3 <| bI F4 <| bI G1 <| bI G2 <| bI G3 <| bI G4 <| bI H1 <| bI H2 <| bI H3 <| bI H4 <| bI J1 <| bI J2 <| bI J3 <| bI J4 <| bI O1 <| bI O2 <| bI O3 <| bI O4 <| bI n0a <| bI n0b <| bI n1a <| bI n1b <| bI n2a <| bI n2b <| bI n3a n3b
   rcases hx with ⟨rfl,rfl,rfl,rfl⟩ | ⟨o1,e1,o2,e2,rfl,rfl,ho1,ho1x,ho2,ho2x,ho12,hSo1,hSo2⟩
   ·have hi0:i=0:=by simpa using hL.symm
    subst hi0;cases far with
    | true =>
     simp [-getElem?_pos,w0,w4,w6,w7,w8,hT0,hT5,hSo3,hr,Z2,Z1];refine zai (k-1) (by omega) ⟨0+1,p2,s2,[]++[r],[]++[y],.ref (t.nx+1) none t.ep 0 (0+1),.ref (t.nx+3) none t.ep 0 (0+1),by omega,by simp [hL],by simp [hY],?_,?_,by assumption,by simp [w0],by simp [w2],by simp [w3],by simp [w4],by simp [w5],by simp [w6],by simp,by simp; omega,by simp [Z1],by simp [Z1,hT1],by simp [Z1,hT4],by simp,.inr ⟨t.nx+1,t.ep,t.nx+3,t.ep,rfl,rfl,by omega,by simp,by omega,by simp,by omega,by simp [Z1,rws,cel,zab]⟩⟩
     ·intro r' hr';rcases bM hr' with hr' | hr'
      ·exact hLr r' hr'
      ·simp at hr'; subst hr'; exact ⟨hr,hrd⟩
     ·intro y' hy';rcases bM hy' with hy' | hy'
      ·exact hYd y' hy'
      ·simp at hy'; subst hy'; exact hyd
    | false =>
     have hsx:=hrs rfl x0 (bF hx0);unfold zzf at hsx;obtain ⟨q2,d2,_,p3,s3,⟨b4,rfl⟩,hp3,rfl⟩:=zg6 B p2 s2 hp2 hB 4 (by omega);cases b4 with
     | true =>
      simp [-getElem?_pos,w0,w4,w6,w7,w8,hT0,hT5,hSo3,hr,Z2,d2,Z1];refine zai (k-1) (by omega) ⟨0+1,p3,s3,[]++[r],[]++[y],.ref (t.nx+1) none t.ep 0 (0+1),.ref (t.nx+3) none t.ep 0 (0+1),by omega,by simp [hL],by simp [hY],?_,?_,by assumption,by simp [w0],by simp [w2],by simp [w3],by simp [w4],by simp [w5],by simp [w6],by simp,by simp; omega,by simp [Z1],by simp [Z1,hT1],by simp [Z1,hT4],by simp,.inr ⟨t.nx+1,t.ep,t.nx+3,t.ep,rfl,rfl,by omega,by simp,by omega,by simp,by omega,by simp [Z1,rws,cel,zab]⟩⟩
      ·intro r' hr';rcases bM hr' with hr' | hr'
       ·exact hLr r' hr'
       ·simp at hr'; subst hr'; exact ⟨hr,hrd⟩
      ·intro y' hy';rcases bM hy' with hy' | hy'
       ·exact hYd y' hy'
       ·simp at hy'; subst hy'; exact hyd
     | false =>
      obtain ⟨q3,d3,_,p4,s4,⟨a4,rfl,a40,a41⟩,hp4,rfl⟩:=zba B p3 s3 hp3 hB 5 (by omega);have a42:=a41 (by omega);have u1:=w64 (x:=x0*2) (by omega) (by omega);have u2:=w64 (x:=100*a4) (by omega) (by omega);have u3:=w64 (x:=x0*2+100*a4) (by omega) (by omega);simp [-getElem?_pos,w0,w4,w6,w7,w8,hT0,hT5,hSo3,hx0',hn0,hr,Z2,d2,d3,u1,u2,u3,Z1];refine zai (k-1) (by omega) ⟨0+1,p4,s4,[]++[r],[]++[x0*2+100*a4],.ref (t.nx+1) none t.ep 0 (0+1),.ref (t.nx+3) none t.ep 0 (0+1),by omega,by simp [hL],by simp [hY],?_,?_,by assumption,by simp [w0],by simp [w2],by simp [w3],by simp [w4],by simp [w5],by simp [w6],by simp,by simp; omega,by simp [Z1],by simp [Z1,hT1],by simp [Z1,hT4],by simp,.inr ⟨t.nx+1,t.ep,t.nx+3,t.ep,rfl,rfl,by omega,by simp,by omega,by simp,by omega,by simp [Z1,rws,cel,zab]⟩⟩
      ·intro r' hr';rcases bM hr' with hr' | hr'
       ·exact hLr r' hr'
       ·simp at hr'; subst hr'; exact ⟨hr,hrd⟩
      ·intro y' hy';rcases bM hy' with hy' | hy'
       ·exact hYd y' hy'
       ·simp at hy'; subst hy'; exact zu3 (by omega) (by omega)
   ·have hT6:t.S o1=some (.row 1 (rws true L)):=by rw [hfr o1 (by omega) (by omega)]; simp [show (o1=st.nx)=False from bK (by omega),hSo1]
    have hT7:t.S o2=some (.row 1 (zab Y)):=by rw [hfr o2 (by omega) (by omega)]; simp [show (o2=st.nx)=False from bK (by omega),hSo2]
    obtain ⟨P1,P2,P3,P4⟩:=fr (show o1<t.nx by omega);obtain ⟨Q1,Q2,Q3,Q4⟩:=fr (show o2<t.nx by omega);have m0a:(o1=0)=False:=bK (by omega);have m0b:(0=o1)=False:=bK (by omega);have m1a:(o1=1)=False:=bK (by omega);have m1b:(1=o1)=False:=bK (by omega);have m2a:(o1=4)=False:=bK (by omega);have m2b:(4=o1)=False:=bK (by omega);have m3a:(o1=5)=False:=bK (by omega);have m3b:(5=o1)=False:=bK (by omega);have m4a:(o2=0)=False:=bK (by omega);have m4b:(0=o2)=False:=bK (by omega);have m5a:(o2=1)=False:=bK (by omega);have m5b:(1=o2)=False:=bK (by omega);have m6a:(o2=4)=False:=bK (by omega);have m6b:(4=o2)=False:=bK (by omega);have m7a:(o2=5)=False:=bK (by omega);have m7b:(5=o2)=False:=bK (by omega);have m8a:(o1=o3)=False:=bK (by omega);have m8b:(o3=o1)=False:=bK (by omega);have m9a:(o2=o3)=False:=bK (by omega);have m9b:(o3=o2)=False:=bK (by omega);have m10a:(o1=o2)=False:=bK (by omega);have m10b:(o2=o1)=False:=bK (by omega);have Z0:=bI F1 <| bI F2 <| bI F3 <| bI F4 <| bI G1 <| bI G2 <| bI G3 <| bI G4 <| bI H1 <| bI H2 <| bI H3 <| bI H4 <| bI J1 <| bI J2 <| bI J3 <| bI J4 <| bI O1 <| bI O2 <| bI O3 <| bI O4 <| bI n0a <| bI n0b <| bI n1a <| bI n1b <| bI n2a <| bI n2b <| bI n3a <| bI n3b <| bI P1 <| bI P2 <| bI P3 <| bI P4 <| bI Q1 <| bI Q2 <| bI Q3 <| bI Q4 <| bI m0a <| bI m0b <| bI m1a <| bI m1b <| bI m2a <| bI m2b <| bI m3a <| bI m3b <| bI m4a <| bI m4b <| bI m5a <| bI m5b <| bI m6a <| bI m6b <| bI m7a <| bI m7b <| bI m8a <| bI m8b <| bI m9a <| bI m9b <| bI m10a m10b
    cases far with
    | true =>
     simp [-getElem?_pos,w0,w4,w6,w7,w8,hT0,hT5,hSo3,hr,Z2,hT6,hT7,hr24',hr8,hsn1,hL,hY,zbn,Z0];refine zai (k-1) (by omega) ⟨i+1,p2,s2,L++[r],Y++[y],.ref (t.nx+1) none t.ep 0 (i+1),.ref (t.nx+3) none t.ep 0 (i+1),by omega,by simp [hL],by simp [hY],?_,?_,by assumption,by simp [w0],by simp [w2],by simp [w3],by simp [w4],by simp [w5],by simp [w6],by simp,by simp; omega,by simp [Z0],by simp [Z0,hT1],by simp [Z0,hT4],by simp,.inr ⟨t.nx+1,t.ep,t.nx+3,t.ep,rfl,rfl,by omega,by simp,by omega,by simp,by omega,by simp [Z0]⟩⟩
     ·intro r' hr';rcases bM hr' with hr' | hr'
      ·exact hLr r' hr'
      ·simp at hr'; subst hr'; exact ⟨hr,hrd⟩
     ·intro y' hy';rcases bM hy' with hy' | hy'
      ·exact hYd y' hy'
      ·simp at hy'; subst hy'; exact hyd
    | false =>
     have hsx:=hrs rfl x0 (bF hx0);unfold zzf at hsx;obtain ⟨q2,d2,_,p3,s3,⟨b4,rfl⟩,hp3,rfl⟩:=zg6 B p2 s2 hp2 hB 4 (by omega);cases b4 with
     | true =>
      simp [-getElem?_pos,w0,w4,w6,w7,w8,hT0,hT5,hSo3,hr,Z2,hT6,hT7,hr24',hr8,hsn1,hL,hY,zbn,d2,Z0];refine zai (k-1) (by omega) ⟨i+1,p3,s3,L++[r],Y++[y],.ref (t.nx+1) none t.ep 0 (i+1),.ref (t.nx+3) none t.ep 0 (i+1),by omega,by simp [hL],by simp [hY],?_,?_,by assumption,by simp [w0],by simp [w2],by simp [w3],by simp [w4],by simp [w5],by simp [w6],by simp,by simp; omega,by simp [Z0],by simp [Z0,hT1],by simp [Z0,hT4],by simp,.inr ⟨t.nx+1,t.ep,t.nx+3,t.ep,rfl,rfl,by omega,by simp,by omega,by simp,by omega,by simp [Z0]⟩⟩
      ·intro r' hr';rcases bM hr' with hr' | hr'
       ·exact hLr r' hr'
       ·simp at hr'; subst hr'; exact ⟨hr,hrd⟩
      ·intro y' hy';rcases bM hy' with hy' | hy'
       ·exact hYd y' hy'
       ·simp at hy'; subst hy'; exact hyd
     | false =>
      obtain ⟨q3,d3,_,p4,s4,⟨a4,rfl,a40,a41⟩,hp4,rfl⟩:=zba B p3 s3 hp3 hB 5 (by omega);have a42:=a41 (by omega);have u1:=w64 (x:=x0*2) (by omega) (by omega);have u2:=w64 (x:=100*a4) (by omega) (by omega);have u3:=w64 (x:=x0*2+100*a4) (by omega) (by omega);simp [-getElem?_pos,w0,w4,w6,w7,w8,hT0,hT5,hSo3,hx0',hn0,hr,Z2,hT6,hT7,hr24',hr8,hsn1,hL,hY,zbn,d2,d3,u1,u2,u3,Z0];refine zai (k-1) (by omega) ⟨i+1,p4,s4,L++[r],Y++[x0*2+100*a4],.ref (t.nx+1) none t.ep 0 (i+1),.ref (t.nx+3) none t.ep 0 (i+1),by omega,by simp [hL],by simp [hY],?_,?_,by assumption,by simp [w0],by simp [w2],by simp [w3],by simp [w4],by simp [w5],by simp [w6],by simp,by simp; omega,by simp [Z0],by simp [Z0,hT1],by simp [Z0,hT4],by simp,.inr ⟨t.nx+1,t.ep,t.nx+3,t.ep,rfl,rfl,by omega,by simp,by omega,by simp,by omega,by simp [Z0]⟩⟩
      ·intro r' hr';rcases bM hr' with hr' | hr'
       ·exact hLr r' hr'
       ·simp at hr'; subst hr'; exact ⟨hr,hrd⟩
      ·intro y' hy';rcases bM hy' with hy' | hy'
       ·exact hYd y' hy'
       ·simp at hy'; subst hy'; exact zu3 (by omega) (by omega)
  ·have him:i=m:=by omega
   subst him;rcases hx with ⟨rfl,rfl,rfl,rfl⟩ | ⟨o1,e1,o2,e2,rfl,rfl,ho1,ho1x,ho2,ho2x,ho12,hSo1,hSo2⟩
   ·simp at hL; omega
   ·have n0a:(o1=0)=False:=bK (by omega);have n0b:(0=o1)=False:=bK (by omega);have n1a:(o1=1)=False:=bK (by omega);have n1b:(1=o1)=False:=bK (by omega);have n2a:(o1=4)=False:=bK (by omega);have n2b:(4=o1)=False:=bK (by omega);have n3a:(o1=5)=False:=bK (by omega);have n3b:(5=o1)=False:=bK (by omega);have n4a:(o2=0)=False:=bK (by omega);have n4b:(0=o2)=False:=bK (by omega);have n5a:(o2=1)=False:=bK (by omega);have n5b:(1=o2)=False:=bK (by omega);have n6a:(o2=4)=False:=bK (by omega);have n6b:(4=o2)=False:=bK (by omega);have n7a:(o2=5)=False:=bK (by omega);have n7b:(5=o2)=False:=bK (by omega);have n8a:(o1=o2)=False:=bK (by omega);have n8b:(o2=o1)=False:=bK (by omega);have hfin:=qe2 hn1 hn3 hm1 hm40 hL hY hLr hYd;rw [<- hns] at hfin;have hq1:1<=o1:=by omega
    have hq2:1<=o2:=by omega
    simp [-getElem?_pos,z1f,zmq,hq1,hq2,v2,v4,v5,v7,hS0,hS1,hS4,hS5,hSo1,hSo2,hnl,hL,hY,n1a,n2a,n5a,n6a,n8b];exact ⟨_,p,s,hfin,hp,rfl⟩
 obtain ⟨r4,h4,v4,p4,s4,⟨b4,rfl⟩,hp4,rfl⟩:=zg6 B p3 s3 hp3 hB 12 (by omega);refine ze0 rfl rfl ?_;cases b3 with
 | false =>
  obtain ⟨m,hm⟩ : ∃ m:Nat,1+a2=m:=⟨(1+a2).toNat,by omega⟩;have w2:=w64 (x:=(m:Int)) (by omega) (by omega);simp [-getElem?_pos,zwj,zmq,h1,h2,h3,h4,hnf,hm,w1,w2,hr2,hn4,hcut,yn4,hnl];exact key m b4 p4 s4 _ (by omega) (by omega) hp4 (by simp) (by simp) (by simp) (by simp) (by simp) (by simp) (by simp) (by simp) (by simp) (by simp) (by simp) (by simp)
 | true =>
  obtain ⟨r5,h5,v5,p5,s5,⟨a5,rfl,a50,a51⟩,hp5,rfl⟩:=zba B p3 s3 hp3 hB 40 (by omega);have a52:=a51 (by omega);obtain ⟨m,hm⟩ : ∃ m:Nat,1+a5=m:=⟨(1+a5).toNat,by omega⟩;have w2:=w64 (x:=(m:Int)) (by omega) (by omega);have w3:=w64 (x:=1+a2) (by omega) (by omega);obtain ⟨r6,h6,v6,p6,s6,⟨b6,rfl⟩,hp6,rfl⟩:=zg6 B p5 s5 hp5 hB 12 (by omega);simp [-getElem?_pos,zwj,zmq,h1,h2,h3,h5,h6,hnf,hm,w1,w2,w3,hr2,hn4,hcut,yn4,hnl];exact key m b6 p6 s6 _ (by omega) (by omega) hp6 (by simp) (by simp) (by simp) (by simp) (by simp) (by simp) (by simp) (by simp) (by simp) (by simp) (by simp) (by simp)
def PGr (v:PV):Prop := ∃ c w:List (List Int),v = .agg [.own 1 (rws true c),.own 1 (rws true w)]/\c.length<=8/\w.length<=8/\(∀ l∈c,l.length<=64)/\∀ l∈w,l.length<=64
def PGs (v:PV):Prop := ∃ c w:List (List Int),v = .agg [.own 1 (rws true c),.own 1 (rws true w)]/\1<=c.length/\c.length<=4/\w.length=c.length/\(∀ l∈c,l.length<=8)/\∃ m:Nat,1<=m/\m<=40/\∀ l∈w,l.length=m/\∀ x∈l,0<=x/\x<=8
theorem y91 (B:List Int) (p:Nat) (s:Int) (hp:p<=B.length) (hB:B.length<=9223372036854775807) : ∃ r,RUN T zrw [.bx [.sl 1 (zbl B),iv p,iv s]]=some r/\zf0 B PGs r:=by
 refine ze0 rfl rfl ?_;obtain ⟨r1,h1,v1,p1,s1,⟨t,rfl,ht,hok⟩,hp1,rfl⟩:=ya9 B p s hp hB;obtain ⟨r2,h2,v2,p2,s2,⟨a2,rfl,a20,a21⟩,hp2,rfl⟩:=zba B p1 s1 hp1 hB 5 (by omega);have a22:=a21 (by omega);have w1:=w64 (x:=2+a2) (by omega) (by omega);have h3:=ya8 true t (2+a2) ⟨bJ ht.ns (by omega),fun x hx=>bJ (ht.ss x hx) (by omega),bJ ht.nm (by omega),bJ ht.rw (by omega),fun x hx=>bJ (ht.rr x hx) (by omega),bJ ht.lb (by omega)⟩;obtain ⟨t1,t2,t3,t4,t5,t6⟩:=zk9 hok;have hbi:zah (2+a2) 2 8=true:=zar.mpr (by omega);obtain ⟨l1,l2⟩:=yc3 hok hbi;obtain ⟨l3,l4⟩:=yps (t:=t) (b:=2+a2);have l5:=qgz (t:=t) (b:=2+a2);generalize zbq t (2+a2)=c at *;generalize zbr t (2+a2)=w at *;simp only [taO,taS] at h1 h3;simp [-getElem?_pos,z2i,zik,h1,h2,h3,w1];exact ⟨_,p2,s2,⟨c,w,rfl,by omega,by omega,by omega,fun l hl=>bJ (l3 l hl) (by omega),t.rw.length,t3,t4,fun l hl=>⟨l4 l hl,l5 l hl⟩⟩,hp2,rfl⟩
theorem zjw {α:Type} {P:α->Prop} {c:List α} {f:Nat} {x:α} (h : ∀ l∈c,P l) (hx:P x) : ∀ l∈c.set f x,P l:=fun l hl=>by
 rcases List.mem_or_eq_of_mem_set hl with hl | hl
 ·exact h l hl
 ·subst hl; exact hx
theorem zp4 {α:Type} {P:α->Prop} {c:List α} {x:α} (h : ∀ l∈c,P l) (hx:P x) : ∀ l∈c++[x],P l:=fun l hl=>by
 rcases bM hl with hl | hl
 ·exact h l hl
 ·simp at hl; subst hl; exact hx
theorem y92 (B:List Int) (p:Nat) (s:Int) (hp:p<=B.length) (hB:B.length<=9223372036854775807) : ∃ r,RUN T zq7 [.bx [.sl 1 (zbl B),iv p,iv s]]=some r/\zf0 B PGr r:=by
 refine ze0 rfl rfl ?_;obtain ⟨r1,h1,v1,p1,s1,⟨c,w,rfl,hc1,hc4,hwc,hc8,m,hm1,hm40,hwm⟩,hp1,rfl⟩:=y91 B p s hp hB;obtain ⟨r2,h2,v2,p2,s2,⟨a2,rfl,a20,a21⟩,hp2,rfl⟩:=zba B p1 s1 hp1 hB c.length (by omega);have a22:=a21 (by omega);obtain ⟨f,rfl⟩ : ∃ f:Nat,a2=f:=⟨a2.toNat,by omega⟩;obtain ⟨r3,h3,v3,p3,s3,⟨d,rfl,d0,d1⟩,hp3,rfl⟩:=zba B p2 s2 hp2 hB 14 (by omega);have Z0:=bI h1 <| bI h2 h3
 have hf:f<c.length:=by omega
 have hfw:f<w.length:=by omega
 obtain ⟨l,hl⟩ : ∃ l,c[f]?=some l:=⟨_,bG hf⟩;obtain ⟨u,hu⟩ : ∃ u,w[f]?=some u:=⟨_,bG hfw⟩;have hl8:=hc8 l (bF hl);obtain ⟨hum,hub⟩:=hwm u (bF hu);have hl':=zc3 (q:=true) hl;have hu':=zc3 (q:=true) hu;simp only [cel,if_true] at hl' hu';have cA : ∀ l∈c,l.length<=64:=fun l hl=>by have:=hc8 l hl; omega
 have wA : ∀ l∈w,l.length<=64:=fun l hl=>by have:=(hwm l hl).1; omega
 have hr1:zag 8 1=true:=by decide
 have hr0:zag 8 0=true:=by decide
 have hr5:zag 8 5=true:=by decide
 have hr24:zag 24 1=true:=by decide
 have hr240:zag 24 0=true:=by decide
 have hrl:=zbx (n:=l.length+1) (by omega);have hru:=zbx (n:=u.length+1) (by omega);have hrc:zag 24 (c.length+1)=true:=by simp [zag]; omega
 have hrw:zag 24 (w.length+1)=true:=by simp [zag]; omega
 by_cases e0:d=0
 ·subst e0;obtain ⟨r4,h4,v4,p4,s4,⟨x,rfl,hx⟩,hp4,rfl⟩:=ya7 B p3 s3 hp3 hB;have hsn:=zbn l x;have hset:=zpi c f (l++[x]);simp [-getElem?_pos,zij,zik,zbe,zb4,Z0,h4,hf,hl',hrl,hsn,hset];exact ⟨_,p4,s4,⟨c.set f (l++[x]),w,rfl,by simp; omega,by omega,zjw cA (by simp; omega),wA⟩,hp4,rfl⟩
 by_cases e1:d=1
 ·subst e1;obtain ⟨r4,h4,v4,p4,s4,⟨x,rfl,hx⟩,hp4,rfl⟩:=zf2 B p3 s3 hp3 hB [0,1,-1,8,9223372036854775807] (by simp);simp only [zab,List.map] at h4;obtain ⟨y,hy⟩ : ∃ y,u[0]?=some y:=⟨_,bG (by omega)⟩;have hy':=zay hy;have hu0:0<u.length:=by omega
  have hset0:=z7v u 0 x;have hset:=zpi w f (u.set 0 x);simp [-getElem?_pos,zij,zik,zbe,zb4,Z0,h4,hfw,hu',hy',hu0,hset0,hset];exact ⟨_,p4,s4,⟨c,w.set f (u.set 0 x),rfl,by omega,by simp; omega,cA,zjw wA (by simp; omega)⟩,hp4,rfl⟩
 by_cases e2:d=2
 ·subst e2;have hsn:=zbn u 0;have hset:=zpi w f (u++[0]);simp [-getElem?_pos,zij,zik,zbe,zb4,Z0,hfw,hu',hru,hsn];exact ⟨_,p3,s3,⟨c,w.set f (u++[0]),by rw [<- hset],by omega,by simp; omega,cA,zjw wA (by simp; omega)⟩,hp3,rfl⟩
 by_cases e3:d=3
 ·subst e3;have hsn:=zm7 w [0];simp only [zab,List.map] at hsn;simp [-getElem?_pos,zij,zik,Z0,hrw,hsn];exact ⟨_,p3,s3,⟨c,w++[[0]],rfl,by omega,by simp; omega,cA,zp4 wA (by simp)⟩,hp3,rfl⟩
 by_cases e4:d=4
 ·subst e4;have hsn:=zm7 c [];simp only [zab,List.map] at hsn;simp [-getElem?_pos,zij,zik,Z0,hrc,hsn];exact ⟨_,p3,s3,⟨c++[[]],w,rfl,by simp; omega,by omega,zp4 cA (by simp),wA⟩,hp3,rfl⟩
 by_cases e5:d=5
 ·subst e5;simp [-getElem?_pos,zij,zik,Z0];exact ⟨_,p3,s3,⟨c,[],rfl,by omega,by simp,cA,by simp⟩,hp3,rfl⟩
 by_cases e6:d=6
 ·subst e6;have w1:=w64 (x:=(l.length:Int)+1) (by omega) (by omega);obtain ⟨r4,h4,v4,p4,s4,⟨x,rfl,x0,x1⟩,hp4,rfl⟩:=zba B p3 s3 hp3 hB ((l.length:Int)+1) (by omega);have x2:=x1 (by omega);obtain ⟨k,rfl⟩ : ∃ k:Nat,x=k:=⟨x.toNat,by omega⟩;have hkl:k<=l.length:=by omega
  have hcut:(if k=l.length then zab l else List.take k (zab l))=zab (l.take k):=by
   split
   ·rename_i e; rw [e,List.take_length]
   ·simp [zab,List.map_take]
  have hset:=zpi c f (l.take k);simp [-getElem?_pos,zij,zik,zbe,zb4,Z0,h4,hf,hl',w1,hkl,hcut,hset];exact ⟨_,p4,s4,⟨c.set f (l.take k),w,rfl,by simp; omega,by omega,zjw cA (by simp; omega),wA⟩,hp4,rfl⟩
 ·simp [-getElem?_pos,zij,zik,Z0,e0,e1,e2,e3,e4,e5,e6];exact ⟨_,p3,s3,⟨c,w,rfl,by omega,by omega,cA,wA⟩,hp3,rfl⟩
def zfh:List Sl->Int
 | []=>0
 | x::xs=>x.n+zfh xs
def ze8:List Sl->Int
 | []=>0
 | x::xs=>x.g+ze8 xs
theorem yd7 : ∀ {l:List Sl} {i:Nat} {s t:Sl},l[i]?=some s->zfh (l.set i t)=zfh l-s.n+t.n/\ze8 (l.set i t)=ze8 l-s.g+t.g
 | [],i,s,t,h=>by simp at h
 | x::xs,0,s,t,h=>by
  simp at h; subst h;simp only [List.set_cons_zero,zfh,ze8]; omega
 | x::xs,i+1,s,t,h=>by
  have h':xs[i]?=some s:=by simpa using h
  have:=yd7 (t:=t) h';simp only [List.set_cons_succ,zfh,ze8]; omega
theorem yoc (n:Nat):zfh (List.replicate n ⟨0,0⟩)=0/\ze8 (List.replicate n ⟨0,0⟩)=0:=by
 induction n with
 | zero=>exact ⟨rfl,rfl⟩
 | succ n ih=>simp only [List.replicate_succ,zfh,ze8]; omega
theorem yrc {a b:Int} (h:(adi a b).2=true):(adi a b).1=a+b:=by
 unfold adi at h ⊢;split
 ·rfl
 ·rename_i hc; rw [if_neg hc] at h; cases h
theorem z9q {a b:Sl} (h:(zbk a b).2=true):(zbk a b).1.n=a.n+b.n/\(zbk a b).1.g=a.g+b.g:=by
 unfold zbk at h ⊢;split
 ·rename_i hc;simp only [Bool.and_eq_true] at hc;exact ⟨yrc hc.1,yrc hc.2⟩
 ·rename_i hc; rw [if_neg hc] at h; cases h
def zg9 (g rows:List Int):Int:=(rows.map fun r=>(atI g r).getD 0).sum
theorem z8n (g:List Int) (r:Int) (rs:List Int):zg9 g (r::rs)=(atI g r).getD 0+zg9 g rs:=by simp [zg9]
theorem ym7 {b g:List Int} : ∀ (rows:List Int) (h h':List Sl),zco b g rows h=some h'->zfh h'=zfh h+rows.length/\ze8 h'=ze8 h+zg9 g rows
 | [],h,h',e=>by
  simp only [zco,bC] at e;subst e;simp [zg9]
 | r::rs,h,h',e=>by
  unfold zco at e;cases hx:atI b r with
  | none=>rw [hx] at e; cases e
  | some x =>
   cases hy:atI g r with
   | none=>rw [hx,hy] at e; cases e
   | some y =>
    rw [hx,hy] at e;simp only at e;cases hs:atI h x with
    | none=>rw [hs] at e; cases e
    | some s =>
     rw [hs] at e;simp only at e;split at e
     ·rename_i hp;obtain ⟨p1,p2⟩:=z9q hp;obtain ⟨e1,e2⟩:=ym7 rs _ _ e;obtain ⟨j,rfl,hjs,_⟩:=zg4 hs;rw [Int.toNat_natCast] at e1 e2;obtain ⟨q1,q2⟩:=yd7 (t:=(zbk s ⟨1,y⟩).1) hjs;simp only [z8n,hy,Option.getD_some,List.length_cons];simp only at p1 p2;omega
     ·cases e
theorem ypq : ∀ (h:List Sl) (s:Sl) (l:List Sl),zdg s h=some l->(l.getLast?.getD s).n=s.n+zfh h/\(l.getLast?.getD s).g=s.g+ze8 h
 | [],s,l,e=>by
  simp only [zdg,bC] at e;subst e;simp [zfh,ze8]
 | x::xs,s,l,e=>by
  unfold zdg at e;split at e
  ·rename_i hp;obtain ⟨p1,p2⟩:=z9q hp;simp only [bB] at e;obtain ⟨l',h1,rfl⟩:=e;obtain ⟨q1,q2⟩:=ypq xs _ _ h1;rw [List.getLast?_cons,Option.getD_some];simp only [zfh,ze8];omega
  ·cases e
theorem qa8 {b g rows:List Int} {k:Int} (h:(zcm b g rows k).2=true):zfh (zcm b g rows k).1=rows.length/\ze8 (zcm b g rows k).1=zg9 g rows:=by
 unfold zcm at h ⊢;split at h
 ·rename_i hc;rw [if_pos hc];cases e:zco b g rows (List.replicate k.toNat ⟨0,0⟩) with
  | none=>rw [e] at h; cases h
  | some h' =>
   obtain ⟨h1,h2⟩:=ym7 rows _ _ e;obtain ⟨h3,h4⟩:=yoc k.toNat;simp only;omega
 ·cases h
theorem yof : ∀ (h:List Sl) (s:Sl) (l:List Sl),zdg s h=some l->∀ (b:Nat) (x:Sl),l[b]?=some x->x.n=s.n+zfh (h.take (b+1))/\x.g=s.g+ze8 (h.take (b+1))
 | [],s,l,e,b,x,hx=>by simp only [zdg,bC] at e; subst e; simp at hx
 | y::ys,s,l,e,b,x,hx=>by
  unfold zdg at e;split at e
  ·rename_i hp;obtain ⟨p1,p2⟩:=z9q hp;simp only [bB] at e;obtain ⟨l',h1,rfl⟩:=e;cases b with
   | zero =>
    simp at hx;subst hx;simp [zfh,ze8,p1,p2]
   | succ b =>
    have hx':l'[b]?=some x:=by simpa using hx
    obtain ⟨q1,q2⟩:=yof ys _ _ h1 b x hx';rw [List.take_succ_cons];simp only [zfh,ze8];omega
  ·cases e
theorem yr5 {bins g:List Int} : ∀ (rows:List Int) (h h':List Sl),zco bins g rows h=some h'->∀ b:Nat,zfh (h'.take (b+1))=zfh (h.take (b+1))+(zcc bins rows b).length/\ze8 (h'.take (b+1))=ze8 (h.take (b+1))+zg9 g (zcc bins rows b)
 | [],h,h',e,b=>by
  simp only [zco,bC] at e;subst e;simp [zg9,zcc]
 | r::rs,h,h',e,b=>by
  unfold zco at e;cases hx:atI bins r with
  | none=>rw [hx] at e; cases e
  | some x =>
   cases hy:atI g r with
   | none=>rw [hx,hy] at e; cases e
   | some y =>
    rw [hx,hy] at e;simp only at e;cases hs:atI h x with
    | none=>rw [hs] at e; cases e
    | some s =>
     rw [hs] at e;simp only at e;split at e
     ·rename_i hp;obtain ⟨p1,p2⟩:=z9q hp;obtain ⟨e1,e2⟩:=yr5 rs _ _ e b;obtain ⟨j,rfl,hjs,_⟩:=zg4 hs;rw [Int.toNat_natCast,List.take_set] at e1 e2;simp only at p1 p2;have hB:zgv bins b r=decide ((j:Int)<=b):=by unfold zgv; rw [hx]
      by_cases hjb:j<=b
      ·have hB':zgv bins b r=true:=by rw [hB]; simpa using hjb
       have hk:(h.take (b+1))[j]?=some s:=by rw [List.getElem?_take_of_lt (by omega)]; exact hjs
       obtain ⟨q1,q2⟩:=yd7 (t:=(zbk s ⟨1,y⟩).1) hk;have hf:zcc bins (r::rs) b=r::zcc bins rs b:=by unfold zcc; rw [List.filter_cons,if_pos hB']
       rw [hf,z8n,hy,Option.getD_some,List.length_cons];omega
      ·have hB' : ¬ zgv bins b r=true:=by rw [hB]; simpa using hjb
       have hf:zcc bins (r::rs) b=zcc bins rs b:=by unfold zcc; rw [List.filter_cons,if_neg hB']
       rw [List.set_eq_of_length_le (by simp; omega)] at e1 e2;rw [hf];exact ⟨e1,e2⟩
     ·cases e
theorem ypr {bins g:List Int} : ∀ (rows:List Int) (h h':List Sl),zco bins g rows h=some h'->∀ r∈rows,∃ x,atI bins r=some x
 | [],h,h',e,r,hr=>by cases hr
 | r0::rs,h,h',e,r,hr=>by
  unfold zco at e;split at e
  ·rename_i x y hx hy;split at e
   ·split at e
    ·rcases List.mem_cons.mp hr with rfl | hr
     ·exact ⟨x,hx⟩
     ·exact ypr rs _ _ e r hr
    ·cases e
   ·cases e
  ·cases e
theorem ysx {bins g:List Int} {b:Int} : ∀ rows:List Int,(∀ r∈rows,∃ x,atI bins r=some x)->(zcc bins rows b).length+(zdk bins rows b).length=rows.length/\zg9 g (zcc bins rows b)+zg9 g (zdk bins rows b)=zg9 g rows
 | [],_=>by simp [zcc,zdk,zg9]
 | r::rs,h=>by
  obtain ⟨x,hx⟩:=h r (by simp);obtain ⟨h1,h2⟩:=ysx (b:=b) (g:=g) rs (fun r hr=>h r (by simp [hr]));have hB:zgv bins b r=decide (x<=b):=by unfold zgv; rw [hx]
  have hC:zj0 bins b r = !decide (x<=b):=by unfold zj0; rw [hx]
  unfold zcc zdk at *;rw [List.filter_cons,List.filter_cons,hB,hC]
  by_cases hxb:x<=b
  ·simp only [decide_eq_true hxb,Bool.not_true,Bool.false_eq_true,if_true,if_false,z8n,List.length_cons];omega
  ·simp only [decide_eq_false hxb,Bool.not_false,Bool.false_eq_true,if_true,if_false,z8n,List.length_cons];omega
theorem ybe {f:Int} {all:Sl} {least:Int} {p:Cnd->Prop} {l:List Sl} (hp : ∀ (b:Nat) (x:Sl),l[b]?=some x->(zea all x).2=true->p ⟨f,b,x,(zea all x).1⟩) : ∀ (k i:Nat) (acc a:List Cnd),i+k=l.length->(∀ x∈acc,p x)->zfr f all least i (l.drop i) acc=some a->∀ x∈a,p x
 | 0,i,acc,a,hk,ha,h=>by
  rw [zu2 acc (by omega)] at h;cases h;exact ha
 | k+1,i,acc,a,hk,ha,h=>by
  by_cases hi:i+1<l.length
  ·obtain ⟨x,hx⟩ : ∃ x,l[i]?=some x:=⟨_,bG (by omega)⟩;rw [z8v acc hx hi] at h;split at h
   ·rename_i hm;split at h
    ·exact ybe hp k (i+1) _ _ (by omega) (fun y hy=>by
      rcases bM hy with e | e
      ·exact ha y e
      ·simp only [List.mem_singleton] at e; subst e; exact hp i x hx hm) h
    ·exact ybe hp k (i+1) _ _ (by omega) ha h
   ·cases h
  ·rw [zu2 acc hi] at h;cases h;exact ha
def z8t (H:List (List Sl)) (x:Cnd):Prop := ∃ (f b:Nat) (h:List Sl),x.f=f/\x.b=b/\H[f]?=some h/\(zcs h).2=true/\(zcs h).1[b]?=some x.a/\(zea (zha (zcs h).1) x.a).2=true/\x.z=(zea (zha (zcs h).1) x.a).1
theorem yrw {least:Int} {H:List (List Sl)} : ∀ (k i:Nat) (acc a:List Cnd),i+k=H.length->(∀ x∈acc,z8t H x)->zec least i (H.drop i) acc=some a->∀ x∈a,z8t H x
 | 0,i,acc,a,hk,ha,h=>by
  rw [bN (by omega),zec] at h;cases h;exact ha
 | k+1,i,acc,a,hk,ha,h=>by
  obtain ⟨l,hx⟩ : ∃ x,H[i]?=some x:=⟨_,bG (by omega)⟩;rw [z71 acc hx] at h;split at h
  ·rename_i hp;split at h
   ·rename_i a' h';have h'':zfr i (zha (zcs l).1) least ((0:Nat):Int) ((zcs l).1.drop 0) acc=some a':=by simpa using h'
    exact yrw k (i+1) a' a (by omega) (ybe (p:=z8t H) (fun b x hb hm=>⟨i,b,l,rfl,rfl,hx,hp,hb,hm,rfl⟩) (zcs l).1.length 0 acc a' (by omega) ha h'') h
   ·cases h
  ·cases h
theorem qbs {least:Int} {H:List (List Sl)} : ∀ x∈zez H least,z8t H x:=by
 unfold zez;cases h:zec least 0 H [] with
 | none=>simp
 | some a =>
  have h':zec least ((0:Nat):Int) (H.drop 0) []=some a:=by simpa using h
  exact yrw H.length 0 [] a (by omega) (fun x hx=>by cases hx) h'
theorem yuw {a b:Int} (h:(sbi a b).2=true):(sbi a b).1=a-b:=by
 unfold sbi at h ⊢;split
 ·rfl
 ·rename_i hc; rw [if_neg hc] at h; cases h
theorem qfg {a b:Sl} (h:(zea a b).2=true):(zea a b).1.n=a.n-b.n/\(zea a b).1.g=a.g-b.g:=by
 unfold zea at h ⊢;split
 ·rename_i hc;simp only [Bool.and_eq_true] at hc;exact ⟨yuw hc.1,yuw hc.2⟩
 ·rename_i hc; rw [if_neg hc] at h; cases h
theorem ynn {g rows:List Int} : ∀ (c v:List (List Int)) (H:List (List Sl)) (f:Nat) (h:List Sl),zb3 g rows c v=some H->H[f]?=some h->∃ x y:List Int,v[f]?=some y/\(zcm y g rows (x.length+1:Nat)).2=true/\h=(zcm y g rows (x.length+1:Nat)).1
 | [],v,H,f,h,e,hf=>by simp [zb3] at e; subst e; simp at hf
 | x::c,[],H,f,h,e,hf=>by simp [zb3] at e; subst e; simp at hf
 | x::c,y::v,H,f,h,e,hf=>by
  simp only [zb3] at e;split at e
  ·rename_i hp;simp only [bB] at e;obtain ⟨H',h1,rfl⟩:=e;cases f with
   | zero =>
    simp at hf;exact ⟨x,y,rfl,by simpa using hp,by rw [<- hf]; simp⟩
   | succ f =>
    simp at hf;obtain ⟨x',y',h2,h3⟩:=ynn c v H' f h h1 hf;exact ⟨x',y',by simpa using h2,h3⟩
  ·cases e
theorem ytk {c v:List (List Int)} {g:List Int} {cfg:Cfg} {rows:List Int} {b:Bd} (h:(zaw c v g cfg rows b).2=true) : ∃ (f k:Nat) (y:List Int),(zaw c v g cfg rows b).1.f=f/\(zaw c v g cfg rows b).1.b=k/\v[f]?=some y/\zd6 g (zcc y rows k)=(zaw c v g cfg rows b).1.a/\zd6 g (zdk y rows k)=(zaw c v g cfg rows b).1.z:=by
 obtain ⟨h1,h2⟩:=ych h;have hc:(zaw c v g cfg rows b).1∈zez (zbz c v g rows).1 cfg.rw:=by
  unfold zaw at h ⊢;split
  ·rename_i e1;rw [if_pos e1,if_pos h2] at h;exact (ydu h).1
  ·rename_i e1;rw [if_neg e1] at h; cases h
 obtain ⟨f,k,l,e1,e2,e3,e4,e5,e6,e7⟩:=qbs _ hc;have hN : ∃ H,zb3 g rows c v=some H/\(zbz c v g rows).1=H:=by
  unfold zbz at h2 ⊢;split at h2
  ·rename_i hg;rw [if_pos hg];cases e:zb3 g rows c v with
   | none=>rw [e] at h2; cases h2
   | some H=>exact ⟨H,rfl,rfl⟩
  ·cases h2
 obtain ⟨H,hH,hH2⟩:=hN;rw [hH2] at e3;obtain ⟨x,y,hy,hok,rfl⟩:=ynn c v H f l hH e3;generalize (zaw c v g cfg rows b).1=C at *;obtain ⟨Cf,Cb,Ca,Cz⟩:=C;simp only at e1 e2 e5 e6 e7 ⊢;refine ⟨f,k,y,e1,e2,hy,?_⟩;have ⟨hs1,hs2⟩:=qa8 hok;unfold zcm at hok e4 e5 e6 e7 hs1 hs2;split at hok
 ·rename_i hw;rw [if_pos hw] at e4 e5 e6 e7 hs1 hs2;cases eh:zco y g rows (List.replicate (((x.length+1:Nat):Int)).toNat ⟨0,0⟩) with
  | none=>rw [eh] at hok; cases hok
  | some hh =>
   rw [eh] at e4 e5 e6 e7 hs1 hs2;simp only at e4 e5 e6 e7 hs1 hs2;obtain ⟨t1,t2⟩:=yr5 rows _ _ eh k;rw [List.take_replicate] at t1 t2;obtain ⟨z1,z2⟩:=yoc (min (k+1) (((x.length+1:Nat):Int)).toNat);rw [z1] at t1;rw [z2] at t2;have hval:=ypr rows _ _ eh;obtain ⟨a1,a2⟩:=ysx (g:=g) (b:=(k:Int)) rows hval;unfold zcs at e4 e5 e6 e7;cases ep:zdg ⟨0,0⟩ hh with
   | none=>rw [ep] at e4; cases e4
   | some pl =>
    rw [ep] at e5 e6 e7;simp only at e5 e6 e7;obtain ⟨p1,p2⟩:=yof hh _ _ ep k Ca e5;obtain ⟨m1,m2⟩:=qfg e6;obtain ⟨q1,q2⟩:=ypq hh _ _ ep;rw [<- e7] at m1 m2;simp only [zha] at m1 m2;obtain ⟨an,ag⟩:=Ca;obtain ⟨zn,zg⟩:=Cz;simp only at p1 p2 q1 q2 m1 m2;unfold zd6;have g1 : ∀ r:List Int,(r.map fun r=>(atI g r).getD 0).sum=zg9 g r:=fun r=>rfl;rw [g1,g1];simp only [Sl.mk.injEq];omega
 ·cases hok
theorem qh8 {c v:List (List Int)} {g:List Int} {cfg:Cfg} {rows:List Int} {b:Bd} (h:(zaw c v g cfg rows b).2=true):zdm cfg b (zaw c v g cfg rows b).1=true/\(∀ x∈g,-2199023255552<=x/\x<=2199023255552)/\zek (zaw c v g cfg rows b).1:=by
 obtain ⟨h1,h2⟩:=ych h;have hI:=ydq (by have:=zye c v g rows; omega) (fun l hl=>bJ ((zqa c v g rows).2 l hl) (by omega)) h1;refine ⟨?_,?_,hI⟩
 ·unfold zaw at h ⊢;split
  ·rename_i e1;rw [if_pos e1,if_pos h2] at h;exact (ydu h).2.1
  ·rename_i e1;rw [if_neg e1] at h; cases h
 ·unfold zaw at h;split at h
  ·rename_i e1;exact (zmx e1).2.2.2
  ·cases h
theorem qb6 {c v:List (List Int)} {g:List Int} {k:Cfg}:(zb6 c v g k).2=ze9 c v g k:=by
 unfold zb6;cases ze9 c v g k <;> rfl
theorem qgi (cs:List PV) (h:zce [.int .u8] cs) : ∃ n:Int,[PV.v (.int .u8 n)]=cs/\True:=by
 simp only [zce,Shp] at h;obtain ⟨_,_,rfl,⟨a,rfl,h1⟩,rfl⟩:=h;exact ⟨a,rfl,trivial⟩
theorem qft {c:PV} (h:zm6 false [.sl [.int .u8]] c) : ∃ B:List Int,c = .sl 1 (zbl B)/\B.length<=9223372036854775807:=by
 simp only [zm6,Bool.false_eq_true,if_false,zce,Shp] at h;obtain ⟨c',r,e,⟨es,he,h1,h2⟩,hr⟩:=h;simp only [List.cons.injEq] at e;obtain ⟨l,hl,hp⟩:=yuy (f:=fun n:Int=>[PV.v (.int .u8 n)]) (tys:=[.int .u8]) qgi h2;subst hl;simp [maxLen] at h1;exact ⟨l,e.1.trans he,by omega⟩
inductive SN where
 | mk (f c v:Int) (ks:List SN)
def ybq (q:Bool) (es:List (List PV)):PV:=if q then .own 4 es else .sl 4 es
mutual
def snC (q:Bool):SN->List PV
 | .mk f c v ks=>[iv f,iv c,iv v,ybq q (snL q ks)]
def snL (q:Bool):List SN->List (List PV)
 | []=>[]
 | s::ss=>snC q s::snL q ss
end
theorem yow (q:Bool) : ∀ ks:List SN,snL q ks=ks.map (snC q)
 | []=>by simp [snL]
 | k::ks=>by simp [snL,yow q ks]
@[simp] theorem qrt (q:Bool) (ks:List SN):(snL q ks).length=ks.length:=by rw [yow]; simp
@[simp] theorem qtb (q:Bool) (es:List (List PV)):fz (ybq q es) = .sl 4 es:=by cases q <;> simp [ybq]
theorem qij {c:Cfg} (h:zb9 c=true):1<=c.la/\c.la<=100/\0<=c.de/\c.de<=4:=by
 unfold zb9 at h;simp only [Bool.and_eq_true,zar] at h;omega
def yqc (v:List (List Int)) (g rows:List Int) (f k:Nat):Cnd:=⟨f,k,zd6 g (zcc (v.getD f []) rows k),zd6 g (zdk (v.getD f []) rows k)⟩
theorem yue {s:Int} {b:Bd} {l r:Int} (h:zd9 b=true):zd9 (zeo s b l r).1=true/\zd9 (zeo s b l r).2=true:=by
 have hx:b.lo<=zeb (zfi l r) b.lo b.hi/\zeb (zfi l r) b.lo b.hi<=b.hi:=by
  unfold zd9 at h;simp only [Bool.and_eq_true,decide_eq_true_eq] at h;unfold zeb;split
  ·omega
  ·split <;> omega
 unfold zeo;rw [if_pos h];unfold zd9 zda at h;simp only [Bool.and_eq_true,decide_eq_true_eq,zar] at h;generalize zeb (zfi l r) b.lo b.hi=m at *;unfold zd9 zda;split
 ·simp only [Bool.and_eq_true,decide_eq_true_eq,zar]; omega
 ·split
  ·simp only [Bool.and_eq_true,decide_eq_true_eq,zar]; omega
  ·simp only [Bool.and_eq_true,decide_eq_true_eq,zar]; omega
def NI (S:Nat->Option Ob) (nx k:Nat) (m:List Int) (x:PV):Prop:=(x = .e0/\m=[])\/∃ o e,x = .ref o none e 0 m.length/\k<o/\o<nx/\S o=some (.row 1 (zab m))
theorem NI.up {S S':Nat->Option Ob} {nx nx' k:Nat} {l:List Int} {Y:PV} (h:NI S nx k l Y) (hn:nx<=nx') (hS : ∀ o e n,Y = .ref o none e 0 n->k<o->o<nx->S' o=S o):NI S' nx' k l Y:=by
 rcases h with h | ⟨o,e,h1,h2,h3,h4⟩
 ·exact .inl h
 ·exact .inr ⟨o,e,h1,h2,by omega,by rw [hS o e _ h1 h2 h3]; exact h4⟩
structure GH (c v:List (List Int)) (g:List Int) (cfg:Cfg):Prop where
 tk:ze9 c v g cfg=true
 sg:cfg.sg.length<=1048576
theorem GH.la {c v:List (List Int)} {g:List Int} {cfg:Cfg} (h:GH c v g cfg):1<=cfg.la/\cfg.la<=100/\0<=cfg.de/\cfg.de<=4:=qij (zmx h.tk).2.1
def WB (v:List (List Int)) (g rows:List Int) (la:Int) (S:Nat->Option Ob) (nx:Nat) (acc:Option Cnd) (B:List PV) (fd:PV):Prop:=(acc=none/\B=[iv 0,iv 0,.e0,.e0,bv false,uv 0,uv 0,iv 0]/\fd=bv false)\/∃ (f k o e p e':Nat),acc=some (yqc v g rows f k)/\B=[iv f,iv k,.ref o none e 0 (zcc (v.getD f []) rows k).length,.ref p none e' 0 (zdk (v.getD f []) rows k).length]++frc (zcd (yqc v g rows f k) la).1/\fd=bv true/\4<o/\o<nx/\4<p/\p<nx/\¬ o=p/\S o=some (.row 1 (zab (zcc (v.getD f []) rows k)))/\S p=some (.row 1 (zab (zdk (v.getD f []) rows k)))
theorem WB.up {v:List (List Int)} {g rows:List Int} {la:Int} {S S':Nat->Option Ob} {nx nx':Nat} {acc:Option Cnd} {B:List PV} {fd:PV} (h:WB v g rows la S nx acc B fd) (hn:nx<=nx') (hS : ∀ o,4<o->o<nx->S' o=S o):WB v g rows la S' nx' acc B fd:=by
 rcases h with h | ⟨f,k,o,e,p,e',h1,h2,h3,h4,h5,h6,h7,h8,h9,h10⟩
 ·exact .inl h
 ·exact .inr ⟨f,k,o,e,p,e',h1,h2,h3,h4,by omega,h6,by omega,h8,by rw [hS o h4 h5]; exact h9,by rw [hS p h6 h7]; exact h10⟩
theorem NC.up {S S':Nat->Option Ob} {nx nx' oq oq':Nat} {m:List Nd} {x:PV} (h:NC S nx oq m x) (hn:nx<=nx') (ho:oq'=oq\/nx<=oq') (hS : ∀ p,5<p->p<nx->¬ p=oq->S' p=S p):NC S' nx' oq' m x:=by
 rcases h with h | ⟨p,e,h1,h2,h3,h4,h5⟩
 ·exact .inl h
 ·exact .inr ⟨p,e,h1,h2,by omega,by omega,by rw [hS p h2 h3 h4]; exact h5⟩
def okP (g:List Int) (cfg:Cfg) (x:Pnd):Prop:=zzb g.length cfg.de x/\zd9 x.b=true
theorem okP.kid {c v:List (List Int)} {g:List Int} {cfg:Cfg} {x:Pnd} (h:okP g cfg x) (hl:x.l<cfg.de) (k:Cnd):okP g cfg (ze4 c v cfg x k)/\okP g cfg (zew c v cfg x k):=by
 obtain ⟨h1,h2⟩:=ysz (c:=c) (v:=v) (k:=k) h.1 hl;exact ⟨⟨h1,by unfold ze4; exact (yue h.2).1⟩,⟨h2,by unfold zew; exact (yue h.2).2⟩⟩
theorem z8z {c v:List (List Int)} {g:List Int} {cfg:Cfg} {x:Pnd} (h:goes c v g cfg x=true):x.l<cfg.de/\(zaw c v g cfg x.r x.b).2=true:=by
 unfold goes at h;simpa using h
def Str (c v:List (List Int)) (g:List Int) (cfg:Cfg) (Q:List Pnd) (F:List Nd) (j:Nat):Prop := ∃ (x:Pnd) (L:Nat),Q[j]?=some x/\okP g cfg x/\F[j]?=some (if goes c v g cfg x=true then zfq c (zaw c v g cfg x.r x.b).1 L else zcy g cfg x)/\(goes c v g cfg x=true->j<L/\Q[L]?=some (ze4 c v cfg x (zaw c v g cfg x.r x.b).1)/\Q[L+1]?=some (zew c v cfg x (zaw c v g cfg x.r x.b).1))
theorem zyb {α:Type} {l m:List α} {i:Nat} {x:α} (h:l[i]?=some x):(l++m)[i]?=some x:=by
 rw [List.getElem?_append_left (bD h).1]; exact h
theorem Str.up {c v:List (List Int)} {g:List Int} {cfg:Cfg} {Q R:List Pnd} {F E:List Nd} {j:Nat} (h:Str c v g cfg Q F j):Str c v g cfg (Q++R) (F++E) j:=by
 obtain ⟨x,L,h1,h2,h3,h4⟩:=h;exact ⟨x,L,zyb h1,h2,zyb h3,fun hg=>⟨(h4 hg).1,zyb (h4 hg).2.1,zyb (h4 hg).2.2⟩⟩
theorem yd0 {c v:List (List Int)} {g:List Int} {cfg:Cfg} : ∀ (n:Nat) (q:List Pnd) (i:Nat) (out:List Nd),(∀ x∈q,okP g cfg x)->i<=q.length->out.length=i->zd0 cfg.de (q.drop i)<=n->(∀ j,j<i->Str c v g cfg q out j)->∃ R:List Pnd,(zby c v g cfg n q i out).length=(q++R).length/\∀ j,j<(q++R).length->Str c v g cfg (q++R) (zby c v g cfg n q i out) j
 | 0,q,i,out,hq,hi,ho,hp,hs=>by
  have:q.length<=i:=by
   cases hx:q[i]? with
   | none=>exact List.getElem?_eq_none_iff.mp hx
   | some x =>
    rw [zcr hx,zgu] at hp;have:=zyl (d:=cfg.de) (hq x (bF hx)).1.2.2.2;omega
  refine ⟨[],?_,fun j hj => ?_⟩
  ·simp only [zby,List.append_nil]; omega
  ·simp only [zby,List.append_nil] at hj ⊢;exact hs j (by omega)
 | n+1,q,i,out,hq,hi,ho,hp,hs=>by
  cases hx:q[i]? with
  | none =>
   have:q.length<=i:=List.getElem?_eq_none_iff.mp hx;refine ⟨[],?_,fun j hj => ?_⟩
   ·rw [zby,hx]; simp only [List.append_nil]; omega
   ·rw [zby,hx];simp only [List.append_nil] at hj ⊢;exact hs j (by omega)
  | some x =>
   have hxo:=hq x (bF hx);have hlt:=(bD hx).1;rw [zcr hx,zgu] at hp;have hpos:=zyl (d:=cfg.de) (x:=x) hxo.1.2.2.2;cases hg:goes c v g cfg x with
   | false =>
    rw [zby,hx];simp only [hg,Bool.false_eq_true,if_false];refine yd0 n q (i+1) _ hq (by omega) (by simp [ho]) (by omega) (fun j hj => ?_)
    by_cases hji:j<i
    ·have:=(hs j hji).up (R:=[]) (E:=[zcy g cfg x]);simpa using this
    ·obtain rfl:j=i:=by omega
     refine ⟨x,0,hx,hxo,?_,fun h=>by rw [hg] at h; cases h⟩;rw [bO (by omega),ho];simp [hg]
   | true =>
    obtain ⟨h1,_⟩:=z8z hg;have hk:=ybi (y:=ze4 c v cfg x (zaw c v g cfg x.r x.b).1) (z:=zew c v cfg x (zaw c v g cfg x.r x.b).1) h1 rfl rfl;obtain ⟨ok1,ok2⟩:=hxo.kid (c:=c) (v:=v) h1 (zaw c v g cfg x.r x.b).1;rw [zby,hx];simp only [hg,if_true];obtain ⟨R,r1,r2⟩:=yd0 n (q++[ze4 c v cfg x (zaw c v g cfg x.r x.b).1,zew c v cfg x (zaw c v g cfg x.r x.b).1]) (i+1) (out++[zfq c (zaw c v g cfg x.r x.b).1 q.length]) (fun y hy=>by
     rcases bM hy with h | h
     ·exact hq y h
     ·simp only [List.mem_cons,List.not_mem_nil,or_false] at h;rcases h with rfl | rfl
      ·exact ok1
      ·exact ok2) (by simp; omega) (by simp [ho]) (by
     rw [List.drop_append_of_le_length (by omega),z72,zgu,zgu];simp only [zd0,List.map_nil,List.sum_nil];simp only [zd0] at hp;omega) (fun j hj=>by
     by_cases hji:j<i
     ·exact (hs j hji).up
     ·obtain rfl:j=i:=by omega
      refine ⟨x,q.length,zyb hx,hxo,?_,fun _=>⟨hlt,?_,?_⟩⟩
      ·rw [bO (by omega),ho];simp [hg]
      ·rw [bO (by omega)]; simp
      ·rw [bO (by omega)]; simp)
    rw [List.append_assoc] at r1 r2;exact ⟨_,r1,r2⟩
structure zj4 (h:Nd->Nd):Prop where
 f : ∀ x,(h x).f=x.f
 c : ∀ x,(h x).c=x.c
 l : ∀ x,(h x).l=x.l
 r : ∀ x,(h x).r=x.r
theorem qet (c:Cfg):zj4 (zgk c):=by
 refine ⟨?_,?_,?_,?_⟩ <;> intro x <;> unfold zgk <;> split <;> rfl
variable {h:Nd->Nd}
theorem qgf (H:zj4 h) (k:Int) (x:Nd):zf1 k (h x)=zf1 k x:=by
 unfold zf1; rw [H.f,H.l,H.r]
theorem yua (H:zj4 h) (t:List Nd) (k:Int):par (t.map h) k=par t k:=by
 unfold par zg5;rw [List.findIdx?_map];have:zf1 k ∘ h=zf1 k:=funext fun x=>qgf H k x;rw [this]
theorem yop (H:zj4 h) (t:List Nd) : ∀ (n:Nat) (k:Int),anc (t.map h) n k=anc t n k
 | 0,k=>rfl
 | n+1,k=>by rw [zk4,zk4,yua H,yop H t n]
theorem yns (H:zj4 h) (t:List Nd) : ∀ (n:Nat) (k:Int),lev (t.map h) n k=lev t n k
 | 0,k=>rfl
 | n+1,k=>by simp only [lev,yua H,yns H t n]
theorem qbn (H:zj4 h) (t:List Nd) (k:Int):way (t.map h) k=way t k:=by
 unfold way; rw [yop H,List.length_map]
theorem qbo (H:zj4 h) (t:List Nd) (k:Int):zfj (t.map h) k=zfj t k:=by
 unfold zfj; rw [yns H,List.length_map]
theorem yuh (H:zj4 h) (t:List Nd) : ∀ n:Nat,dpt (t.map h) n=dpt t n
 | 0=>rfl
 | n+1=>by simp only [dpt,yuh H t n,qbo H]
theorem qii (H:zj4 h) (t:List Nd):zh2 (t.map h)=zh2 t:=by
 have hb : ∀ (x:Nd) (a b:Int),zg1 (t.map h) (h x) a b=zg1 t x a b:=fun x a b=>by
  unfold zg1;rw [List.getElem?_map];cases t[a.toNat]? with
  | none=>rfl
  | some y=>simp only [Option.map_some,H.f,H.c,H.l,H.r]
 have hw : ∀ i,zg2 (t.map h) i=zg2 t i:=fun i=>by
  unfold zg2;rw [List.getElem?_map,qbn H];cases t[i]? with
  | none=>rfl
  | some x =>
   have:zg1 (t.map h) (h x)=zg1 t x:=funext fun a=>funext fun b=>hb x a b;simp only [Option.map_some,H.f,this]
 unfold zh2;have:zg2 (t.map h)=zg2 t:=funext hw;rw [this,List.length_map]
theorem ypw (H:zj4 h) (hi : ∀ x:Nd,x.f ≠ -1->h x=x) (F:Int) : ∀ (t:List Nd) (i n:Int),(∀ x∈t,x.f = -1->zda x.v=true->zda (h x).v=true)->∀ m,shp F t i n=some m->shp F (t.map h) i n=some m
 | [],i,n,_,m,e=>e
 | x::xs,i,n,hv,m,e=>by
  have ih:=ypw H hi F xs;rw [shp] at e;rw [List.map_cons,shp]
  by_cases hf:x.f = -1
  ·rw [if_pos hf] at e;rw [H.f,if_pos hf];split at e
   ·rename_i hc;rw [if_pos ⟨by rw [H.c,H.l,H.r]; exact hc.1,hv x (by simp) hf hc.2⟩];exact ih _ _ (fun y hy=>hv y (by simp [hy])) m e
   ·cases e
  ·rw [if_neg hf] at e;rw [hi x hf,if_neg hf];split at e
   ·rename_i hc;rw [if_pos hc];exact ih _ _ (fun y hy=>hv y (by simp [hy])) m e
   ·cases e
theorem qih {v:Int} {c:Cfg} (hk:(shr v c).2=true):zda (shr v c).1=true:=by
 unfold shr at hk ⊢;split
 ·rename_i hc;simp only [Bool.and_eq_true] at hc;obtain ⟨_,_,_,_,_,hd,hn,_⟩:=zuz hc.1;have hv:=zar.mp hc.2;refine zar.mpr ?_;simp only;constructor
  ·rw [Int.fdiv_eq_ediv_of_nonneg _ (by omega),Int.le_ediv_iff_mul_le (by omega)]
   by_cases h0:0<=v
   ·have:=Int.mul_nonneg h0 (by omega:0<=c.nu);omega
   ·have a1:v*c.dn<=v*c.nu:=Int.mul_le_mul_of_nonpos_left (by omega) (by omega);have a2 : -1099511627776*c.dn<=v*c.dn:=Int.mul_le_mul_of_nonneg_right hv.1 (by omega);omega
  ·have a0:v*c.nu<=1099511627776*c.dn:=by
    by_cases h0:0<=v
    ·have a1:v*c.nu<=v*c.dn:=Int.mul_le_mul_of_nonneg_left (by omega) h0;have a2:v*c.dn<=1099511627776*c.dn:=Int.mul_le_mul_of_nonneg_right hv.2 (by omega);omega
    ·have a1:v*c.nu<=0:=Int.mul_nonpos_of_nonpos_of_nonneg (by omega) (by omega);omega
   have a3:(v*c.nu).fdiv c.dn*c.dn<=v*c.nu:=by
    rw [Int.fdiv_eq_ediv_of_nonneg _ (by omega),<- Int.le_ediv_iff_mul_le (by omega)];exact Int.le_refl _
   have a4:(v*c.nu).fdiv c.dn*c.dn<=1099511627776*c.dn:=by omega
   exact Int.le_of_mul_le_mul_right a4 (by omega)
 ·rename_i hc; rw [if_neg hc] at hk; cases hk
theorem qh9 {t:List Nd} {c:Cfg} {F:Int} (hk:t.all (zjj c)=true) (ht:zhe t F=true):zhe (t.map (zgk c)) F=true:=by
 have H:=qet c;unfold zhe at ht ⊢;rw [List.length_map,yuh H,qii H];simp only [Bool.and_eq_true] at ht ⊢;obtain ⟨⟨⟨⟨a1,a2⟩,a3⟩,a4⟩,a5⟩:=ht;refine ⟨⟨⟨⟨a1,a2⟩,?_⟩,a4⟩,a5⟩;unfold zg3 at a3 ⊢;cases e:shp F t 0 1 with
 | none=>rw [e] at a3; cases a3
 | some m =>
  rw [e] at a3;rw [ypw H (fun x hx=>by unfold zgk; rw [if_neg hx]) F t 0 1 (fun x hx hf _=>by
   have:=List.all_eq_true.mp hk x hx;unfold zjj at this;simp only [hf,decide_true,Bool.not_true,Bool.false_or] at this;unfold zgk;rw [if_pos hf];exact qih this) m e]
  rw [List.length_map];exact a3
def inR (R x:Int):Prop := -R<=x/\x<=R
def bdR (R:Int) (b:Bd):Prop:=b.lo<=R /\ -R<=b.hi
theorem ybv {a m R:Int} (hm:0<m) (h1 : -(R*m)<=a) (h2:a<=R*m):inR R (a.fdiv m):=by
 rw [Int.fdiv_eq_ediv_of_nonneg _ (by omega)];exact ⟨(Int.le_ediv_iff_mul_le hm).mpr (by rw [Int.neg_mul]; exact h1),Int.ediv_le_of_le_mul hm h2⟩
theorem zh5 {R:Int} (h:0<=R):inR R 0:=⟨by omega,h⟩
theorem ysn {R x:Int} {b:Bd} (h:inR R x) (hb:bdR R b):inR R (zeb x b.lo b.hi):=by
 unfold zeb inR bdR at *;split
 ·omega
 ·split <;> omega
theorem qbj {R:Int} {g:List Int} (hR:0<=R) (hg : ∀ x∈g,inR R x) (r:Int):inR R ((atI g r).getD 0):=by
 unfold atI;split
 ·cases h:g[r.toNat]? with
  | none=>exact zh5 hR
  | some x=>exact hg x (bF h)
 ·exact zh5 hR
theorem yor {R:Int} {g:List Int} (hR:0<=R) (hg : ∀ x∈g,inR R x) : ∀ rows:List Int,-(R*rows.length)<=(zd6 g rows).g/\(zd6 g rows).g<=R*rows.length
 | []=>by simp [zd6]
 | r::rs=>by
  have ih:=yor hR hg rs;have h1:=qbj hR hg r;have e:R*((r::rs).length:Int)=R*rs.length+R:=by
   simp only [List.length_cons]; push_cast; rw [Int.mul_add,Int.mul_one]
  rw [e];unfold inR at h1;simp only [zd6,List.map_cons,List.sum_cons] at *;omega
theorem yew {R:Int} {g:List Int} (hR:0<=R) (hg : ∀ x∈g,inR R x) (rows:List Int) (l:Int) {b:Bd} (hb:bdR R b):inR R (zen (zd6 g rows) l b).1:=by
 unfold zen;split
 ·rename_i hc;simp only [Bool.and_eq_true] at hc;have h1:=hc.1;unfold zi9 at h1;simp only [Bool.and_eq_true] at h1;have hn:=zar.mp h1.1;have hl:=zar.mp h1.2;refine ysn ?_ hb;unfold fdv;split
  ·exact zh5 hR
  ·obtain ⟨s1,s2⟩:=yor hR hg rows;have e:(zd6 g rows).n=rows.length:=rfl;rw [e];have hm:R*rows.length<=R*(rows.length+l):=Int.mul_le_mul_of_nonneg_left (by omega) hR;exact ybv (by omega) (by omega) (by omega)
 ·exact zh5 hR
theorem qfz {R:Int} {c v:List (List Int)} {g rows:List Int} {cfg:Cfg} {b:Bd} (hR:0<=R) (hg : ∀ x∈g,inR R x) (hb:bdR R b) (h:(zaw c v g cfg rows b).2=true):inR R (zbw cfg b (zaw c v g cfg rows b).1).1/\inR R (zbw cfg b (zaw c v g cfg rows b).1).2.1:=by
 obtain ⟨f,k,y,_,_,_,ha,hz⟩:=ytk h;unfold zbw;rw [<- ha,<- hz];split
 ·exact ⟨yew hR hg _ _ hb,yew hR hg _ _ hb⟩
 ·exact ⟨zh5 hR,zh5 hR⟩
theorem qd3 {R s l r:Int} {b:Bd} (hb:bdR R b) (hl:inR R l) (hr:inR R r):bdR R (zeo s b l r).1/\bdR R (zeo s b l r).2:=by
 have hh:inR R (zfi l r):=by unfold zfi inR at *; omega
 have hm:=ysn hh hb;unfold zeo;generalize zeb (zfi l r) b.lo b.hi=m at *;unfold inR bdR at *;split
 ·split
  ·simp only; omega
  ·split <;> simp only <;> omega
 ·simp only; omega
theorem yeb {R:Int} {c v:List (List Int)} {g:List Int} {cfg:Cfg} (hR:0<=R) (hg : ∀ x∈g,inR R x) : ∀ (n:Nat) (q:List Pnd) (i:Nat) (out:List Nd),(∀ x∈q,bdR R x.b)->(∀ x∈out,inR R x.v)->∀ x∈zby c v g cfg n q i out,inR R x.v
 | 0,q,i,out,_,ho=>ho
 | n+1,q,i,out,hq,ho=>by
  cases hx:q[i]? with
  | none=>rw [ybx hx]; exact ho
  | some x =>
   have hb:=hq x (bF hx);cases hgo:goes c v g cfg x with
   | false =>
    rw [ydc hx hgo];refine yeb hR hg n _ _ _ hq fun y hy => ?_;rcases bM hy with hy | hy
    ·exact ho y hy
    ·simp only [List.mem_singleton] at hy;subst hy;exact yew hR hg _ _ hb
   | true =>
    rw [yco hx hgo];have hp:(zaw c v g cfg x.r x.b).2=true:=by
     unfold goes at hgo;simp only [Bool.and_eq_true] at hgo;exact hgo.2
    obtain ⟨s1,s2⟩:=qfz hR hg hb hp;obtain ⟨k1,k2⟩:=qd3 (s:=zej cfg (zaw c v g cfg x.r x.b).1.f) hb s1 s2;refine yeb hR hg n _ _ _ (fun y hy => ?_) fun y hy => ?_
    ·rcases bM hy with hy | hy
     ·exact hq y hy
     ·simp only [List.mem_cons,List.not_mem_nil,or_false] at hy;rcases hy with rfl | rfl
      ·exact k1
      ·exact k2
    ·rcases bM hy with hy | hy
     ·exact ho y hy
     ·simp only [List.mem_singleton] at hy;subst hy;exact zh5 hR
theorem qdt {R:Int} {c v:List (List Int)} {g:List Int} {cfg:Cfg} (hR:0<=R) (hg : ∀ x∈g,inR R x) : ∀ x∈(zb6 c v g cfg).1,inR R x.v:=by
 unfold zb6;split
 ·show ∀ x∈zby c v g cfg 32 [zcn g] 0 [],inR R x.v;refine yeb hR hg 32 _ _ _ (fun x hx => ?_) (fun x hx=>by cases hx);simp only [List.mem_singleton] at hx;subst hx;exact ⟨by show -1099511627776<=R; omega,by show -R<=1099511627776; omega⟩
 ·simp
theorem qc0 {R v:Int} {c:Cfg} (hR:0<=R) (h:inR R v):inR R (shr v c).1:=by
 unfold shr;split
 ·rename_i hc;simp only [Bool.and_eq_true] at hc;obtain ⟨_,_,_,_,_,hd,hn,_⟩:=zuz hc.1;obtain ⟨h1,h2⟩:=h;have a1:v*c.nu<=R*c.nu:=Int.mul_le_mul_of_nonneg_right h2 (by omega);have a2:R*c.nu<=R*c.dn:=Int.mul_le_mul_of_nonneg_left (by omega) hR;have a3 : -R*c.nu<=v*c.nu:=Int.mul_le_mul_of_nonneg_right h1 (by omega);rw [Int.neg_mul] at a3;exact ybv (by omega) (by omega) (by omega)
 ·exact zh5 hR
theorem yui {R:Int} {c:Cfg} {t:List Nd} (hR:0<=R) (h : ∀ x∈t,inR R x.v) : ∀ x∈(zgf c t).1,inR R x.v:=by
 unfold zgf;split
 ·intro x hx;obtain ⟨y,hy,rfl⟩:=List.mem_map.mp hx;unfold zgk;split
  ·exact qc0 hR (h y hy)
  ·exact h y hy
 ·simp
theorem yt4 {R:Int} {t:List Nd} (hR:0<=R) (h : ∀ x∈t,inR R x.v) (row:List Int):inR R (evt t row):=by
 unfold evt;split
 ·exact zh5 hR
 ·cases e:t[(rto t row).toNat]? with
  | none=>exact zh5 hR
  | some x=>exact h x (bF e)
def noS:Sta:=⟨[],[]⟩
def zcw (tr:List Nd):List Int->List (List Int)->Option (List Int)
 | p::ps,r::rs=>if (adi p (evt tr r)).2=true then (zcw tr ps rs).map ((adi p (evt tr r)).1 :: ·) else none
 | _,_=>some []
def zhc (t:Ta) (c v:List (List Int)) (cfg:Cfg) (s:Sta):List Nd×Bool:=if ((zel t.lb s.sm).2 && (zb6 c v (zel t.lb s.sm).1 cfg).2)=true then zgf cfg (zb6 c v (zel t.lb s.sm).1 cfg).1 else ([],false)
def zh8 (t:Ta) (tr:List Nd) (s:Sta):Sta×Bool:=match zcw tr s.sm t.rw with
 | some p=>(⟨p,s.ts++[tr]⟩,true)
 | none=>(noS,false)
def zmz (t:Ta) (c v:List (List Int)) (cfg:Cfg) (s:Sta):Sta×Bool:=if (zhc t c v cfg s).2=true then zh8 t (zhc t c v cfg s).1 s else (noS,false)
def zcq (t:Ta) (c v:List (List Int)) (cfg:Cfg) (s:Sta):Sta×Bool:=if zcv t=true/\c=zbq t cfg.bi/\v=zbr t cfg.bi then zmz t c v cfg s else (noS,false)
theorem ys8 {tr:List Nd} : ∀ {ps:List Int} {rs:List (List Int)} {q:List Int},ps.length=rs.length->zcw tr ps rs=some q->q.length=ps.length/\∀ (i:Nat) (p:Int) (r:List Int),ps[i]?=some p->rs[i]?=some r->q[i]?=some (p+evt tr r)/\inI (p+evt tr r)
 | [],[],q,_,h=>by simp [zcw] at h; subst h; simp
 | p::ps,r::rs,q,hl,h=>by
  rw [zcw] at h;split at h
  ·rename_i h1;simp only [bB] at h;obtain ⟨q',h2,rfl⟩:=h;obtain ⟨h3,h4⟩:=ys8 (by simpa using hl) h2;refine ⟨by simp [h3],fun i p' r' e1 e2 => ?_⟩;cases i with
   | zero =>
    simp at e1 e2;subst e1 e2;unfold adi at h1 ⊢;split at h1
    ·rename_i hc; rw [if_pos hc]; exact ⟨rfl,hc⟩
    ·cases h1
   | succ i=>simpa using h4 i p' r' (by simpa using e1) (by simpa using e2)
  ·cases h
structure StI (t:Ta) (n:Nat) (s:Sta):Prop where
 l:s.sm.length=t.lb.length
 k:s.ts.length=n
 r : ∀ (i:Nat) (y p:Int),t.lb[i]?=some y->s.sm[i]?=some p->inR (4294967296*2 ^ n) (y-p)
theorem ynu {t:Ta} (h:zcv t=true) : ∀ y∈t.lb,inR 2147483647 y:=by
 unfold zcv at h;simp only [Bool.and_eq_true,List.all_eq_true] at h;intro y hy;have:=h.1.2 y hy;unfold zbg at this;exact zar.mp this
theorem ypa {R:Int} : ∀ {l:List Int} {a b:Int},(∀ y∈l,inR R y)->zjn a l=some b->a-R*l.length<=b/\b<=a+R*l.length
 | [],a,b,_,h=>by simp [zjn] at h; simp; omega
 | x::xs,a,b,hl,h=>by
  rw [zjn] at h;split at h
  ·rename_i hc;have h1:=ypa (fun y hy=>hl y (by simp [hy])) h;have h2:=hl x (by simp);have e:R*((x::xs).length:Int)=R*xs.length+R:=by
    simp only [List.length_cons]; push_cast; rw [Int.mul_add,Int.mul_one]
   rw [e];have e2:(adi a x).1=a+x:=by
    unfold adi at hc ⊢;split at hc
    ·rename_i hd; rw [if_pos hd]
    ·cases hc
   rw [e2] at h1;unfold inR at h2;omega
  ·cases h
theorem ysv {t:Ta} (h:zcv t=true):inR 2147483647 (zdc t.lb).1:=by
 obtain ⟨t1,t2,t3,t4,t5,t6⟩:=zk9 h;unfold zdc;cases e:zjn 0 t.lb with
 | none=>exact zh5 (by omega)
 | some b =>
  have:=ypa (ynu h) e;simp only;unfold fdv;split
  ·exact zh5 (by omega)
  ·exact ybv (by omega) (by omega) (by omega)
theorem StI.new {t:Ta} (h:zcv t=true):StI t 0 (zh7 t).1:=by
 have hb:=ysv h;unfold zh7;rw [if_pos h];refine ⟨by simp,rfl,fun i y p h1 h2 => ?_⟩;simp only at h2;have hy:=ynu h y (bF h1);have hp:p=(zdc t.lb).1:=by
  have:=bF h2;exact (List.mem_replicate.mp this).2
 subst hp;unfold inR at *;omega
theorem y93 (c:List Int) (v:Int) (hc:c.length<=1048576):RUN T zrz [.sl 1 (zab c),iv v]=some ([iv (zdu c v)],[]):=by
 refine zae rfl rfl ?_;simp [-getElem?_pos,z2p,zvz];refine zao (fun n st => ∃ i m:Nat,i+n=c.length/\m<=i/\m=zdu (c.take i) v/\st.V 8 = .sl 1 (zab c)/\st.V 1=iv v/\st.V 5=iv m/\st.V 10=iv i/\st.V 9=iv c.length) ?_ c.length _ ⟨0,0,by omega,by omega,by simp [zdu]⟩;rintro n st ⟨i,m,hi,hm,hmv,v8,v1,v5,v10,v9⟩
 by_cases h:i<c.length
 ·obtain ⟨x,hx⟩ : ∃ x,c[i]?=some x:=⟨_,bG h⟩;have hx':=zay hx;have hw:=wS h (by omega:c.length<=9223372036854775807);have hw2:=w64 (x:=(m:Int)+1) (by omega) (by omega);have hs:=ynm (c.take i) v x;rw [<- zu1 hx,<- hmv] at hs
  by_cases hl:x<v
  ·rw [if_pos hl] at hs;simp [-getElem?_pos,z2o,v8,v1,v5,v10,v9,h,hx',hw,hw2,hl];exact zai (n-1) (by omega) ⟨i+1,m+1,by omega,by omega,hs.symm,by simp [v8,v1,v9]⟩
  ·rw [if_neg hl] at hs;simp [-getElem?_pos,z2o,v8,v1,v10,v9,h,hx',hw,hl];exact zai (n-1) (by omega) ⟨i+1,m,by omega,by omega,hs.symm,by simp [v8,v1,v5,v9]⟩
 ·rw [List.take_of_length_le (by omega)] at hmv;rw [<- hmv];simp [-getElem?_pos,z2o,v5,v10,v9,h]
theorem y94 (l:List Int) (b:Int) (hl:l.length<=1048576):RUN T zry [.sl 1 (zab l),iv b]=some ([.own 1 (zab (zb5 l b))],[]):=by
 have e1:=y9w l hl;have hsl:=z9r l;have hss:=z83 l;have hr0:zag 8 0=true:=by decide
 have hr1:zag 8 1=true:=by decide
 have g1:=zc0 b 2 8;have g2:=zc0 l.length 1 40;cases c1:zah b 2 8 with
 | false =>
  have hv:zb5 l b=[]:=by unfold zb5; rw [c1]; rfl
  rw [hv];rw [c1] at g1;refine zae rfl rfl ?_;simp [-getElem?_pos,-zbm,zt8,z1z,g1]
 | true =>
 cases c2:zah l.length 1 40 with
 | false =>
  have hv:zb5 l b=[]:=by unfold zb5; rw [c1,c2]; rfl
  rw [hv];rw [c1] at g1;rw [c2] at g2;refine zae rfl rfl ?_;simp [-getElem?_pos,-zbm,zt8,z1z,g1,g2]
 | true =>
 have hv:zb5 l b=Lib.compact (zet (zef l) b.toNat (b.toNat-1)):=by unfold zb5; rw [c1,c2]; rfl
 rw [hv];rw [c1] at g1;rw [c2] at g2;have hb:=zar.mp c1;have h12:=zar.mp c2;have h1:1<=l.length:=by omega
 have h2:l.length<=40:=by omega
 clear c1 c2 h12 hv;generalize zef l=a at *;obtain ⟨bn,rfl⟩ : ∃ n:Nat,b=n:=⟨b.toNat,by omega⟩;rw [Int.toNat_natCast];refine zae rfl rfl ?_;simp [-getElem?_pos,-zbm,zt8,z1z,g1,g2,e1];refine zao (fun n st => ∃ (i o e:Nat) (m:List Int),1<=i/\i+n=bn/\m.length<i/\m=zet a bn (i-1)/\st.V 1=iv bn/\st.V 0 = .sl 1 (zab l)/\st.V 6 = .ref 1 none 0 0 a.length/\st.V 5 = .ref o none e 0 m.length/\st.V 7=iv i/\¬ o=1/\o<st.nx/\1<st.nx/\st.S o=some (.row 1 (zab m))/\st.S 1=some (.row 1 (zab a))) ?_ (bn-1) _ ⟨1,0,0,[],by omega,by omega,by simp,rfl,by simp,by simp,by simp,by simp,by simp,by omega,by simp [zab]⟩;rintro n st ⟨i,o,e,m,hi1,hi,hm,hmp,v1,v0,v6,v5,v7,ho,hox,h1x,hSo,hS1⟩;obtain ⟨x1,x2,x3,x4⟩:=fr hox;have g1:(o=1)=False:=bK ho;have g2:(1=o)=False:=bK (fun e=>ho e.symm);obtain ⟨z1,z2,z3,z4⟩:=fr h1x
 by_cases h:i<bn
 ·have hw:=wS h (by omega:bn<=9223372036854775807);have hb0 : ¬ bn=0:=by omega
  have hq:(l.length:Int)*i<=40*8:=Int.mul_le_mul (by omega) (by omega) (by omega) (by omega);have hq0:0<=(l.length:Int)*i:=Int.mul_nonneg (by omega) (by omega);have w1:=w64 (x:=(l.length:Int)*i) (by omega) (by omega);obtain ⟨k,hkk⟩ : ∃ k:Nat,k=l.length*i / bn:=⟨_,rfl⟩;have hk:((l.length:Int)*i).tdiv bn=k:=by
   rw [Int.tdiv_eq_ediv_of_nonneg hq0,hkk]
   push_cast
   rfl
  have hcs:zet a bn i=m++zj6 a bn i:=by
   obtain ⟨j,rfl⟩ : ∃ j,i=j+1:=⟨i-1,by omega⟩;rw [hmp]; rfl
  unfold zj6 zhv at hcs;rw [hsl,<- hkk] at hcs;have hkl:k<=l.length:=by
   have h3:((l.length:Int)*i).tdiv bn<=l.length:=by
    rw [Int.tdiv_eq_ediv_of_nonneg hq0];refine Int.ediv_le_of_le_mul (by omega) ?_;exact Int.mul_le_mul_of_nonneg_left (by omega) (by omega)
   omega
  have w2:=w64 (x:=(k:Int)) (by omega) (by omega)
  by_cases hk1:1<=k
  ·obtain ⟨x,hx⟩ : ∃ x,a[k-1]?=some x:=⟨_,bG (by omega)⟩;obtain ⟨y,hy⟩ : ∃ x,a[a.length-1]?=some x:=⟨_,bG (by omega)⟩;have hx':=zay hx;have hy':=zay hy;rw [hsl] at hy';have w3:IntKind.i64.wrap ((k:Int)-1)=((k-1:Nat):Int):=by rw [w64 (by omega) (by omega)]; omega
   have w4:IntKind.i64.wrap ((l.length:Int)-1)=((l.length-1:Nat):Int):=by rw [w64 (by omega) (by omega)]; omega
   have c1:k-1<l.length:=by omega
   have c2:l.length-1<l.length:=by omega
   have hk1':(1:Int)<=k:=by omega
   have hr8:=zbx (n:=m.length+1) (by omega);have hsn:=zbn m x;have gx:a.getD (k-1) 0=x:=by rw [List.getD_eq_getElem?_getD,hx]; rfl
   have gy:a.getD (l.length-1) 0=y:=by rw [<- hsl,List.getD_eq_getElem?_getD,hy]; rfl
   rw [gx,gy] at hcs;have hle:=zpp hss (by omega:k-1<=a.length-1) hx hy
   by_cases hxy:x=y
   ·have hxy2 : ¬ ¬ x=y:=fun h=>h hxy;rw [if_neg (fun h=>h.2 hxy),List.append_nil] at hcs;subst hxy;simp [-getElem?_pos,zwp,v1,v0,v6,v7,hS1,h,hw,hb0,w1,w2,w3,w4,hk,hk1',hx',hy',hsl,c1,c2];exact zai (n-1) (by omega) ⟨i+1,o,e,m,by omega,by omega,by omega,hcs.symm,by simp [v1],by simp [v0],by simp [v6,hsl],by simp [v5],by simp,ho,by simp [hox,h1x,hSo,hS1]⟩
   ·rw [if_pos ⟨hk1,hxy⟩] at hcs;simp [-getElem?_pos,zwp,v1,v0,v6,v5,v7,hSo,hS1,h,hw,hb0,w1,w2,w3,w4,hk,hk1',hx',hy',hsl,c1,c2,hxy,hr8,hsn,x1];exact zai (n-1) (by omega) ⟨i+1,st.nx+1,st.ep,m++[x],by omega,by omega,by simp; omega,hcs.symm,by simp [v1],by simp [v0],by simp [v6,hsl],by simp,by simp,by simp; omega,by simp,by first | (simp; done) | (simp; omega),by first | (simp; done) | (simp; omega),by simp [g2,z1,hS1,show ¬ st.nx=0 by omega]⟩
  ·have hk0:k=0:=by omega
   rw [if_neg (by omega),List.append_nil] at hcs;rw [hk0] at hk w2;clear hkk hkl;subst hk0;simp [-getElem?_pos,zwp,v1,v0,v7,h,hw,hb0,w1,hk];exact zai (n-1) (by omega) ⟨i+1,o,e,m,by omega,by omega,by omega,hcs.symm,by simp [v1],by simp [v0],by simp [v6],by simp [v5],by simp,ho,by simp [hox,h1x,hSo,hS1]⟩
 ·have hib:i=bn:=by omega
  have hm2:m=zet a bn (bn-1):=by rw [hmp,hib]
  have h3:=y9v m (by omega);rw [<- hm2];generalize Lib.compact m=z at *;simp [-getElem?_pos,zwp,v1,v5,v7,hSo,h,h3]
theorem y95 (q:Bool) (t:Ta) (f:Nat) (ht:TaL 1048576 t) (hf:f<t.ns.length) (h40:t.rw.length<=40) (hr : ∀ r∈t.rw,r.length=t.ns.length):RUN T zrx [taS q t,iv f]=some ([.own 1 (zab (zb0 t f))],[]):=by
 have hr0:zag 8 0=true:=by decide
 have hr1:zag 8 1=true:=by decide
 have hns:=ht.ns;have g1:=zc0 f 0 ((t.ns.length:Int)-1);rw [zar.mpr (by omega)] at g1;have w1:=w64 (x:=(t.ns.length:Int)-1) (by omega) (by omega);refine zae rfl rfl ?_;simp [-getElem?_pos,-zbm,z2m,z1z,g1,w1];refine zao (fun n st => ∃ (i o e:Nat) (m:List Int),i+n=t.rw.length/\m=(t.rw.take i).map (fun r=>r.getD f 0)/\m.length=i/\st.V 1=iv f/\st.V 19 = .sl 1 (rws q t.rw)/\st.V 20=iv t.rw.length/\st.V 5 = .ref o none e 0 m.length/\st.V 21=iv i/\0<o/\o<st.nx/\st.S o=some (.row 1 (zab m))) ?_ t.rw.length _ ⟨0,1,0,[],by omega,rfl,rfl,by simp [zab]⟩;rintro n st ⟨i,o,e,m,hi,hmv,hm,v1,v19,v20,v5,v21,ho,hox,hSo⟩;obtain ⟨x1,x2,x3,x4⟩:=fr hox
 by_cases h:i<t.rw.length
 ·obtain ⟨r,hx⟩ : ∃ x,t.rw[i]?=some x:=⟨_,bG h⟩;have hx':=zc3 (q:=q) hx;have hrl:=hr r (bF hx);obtain ⟨y,hy⟩ : ∃ x,r[f]?=some x:=⟨_,bG (by omega)⟩;have hy':=zay hy;have hfr:f<r.length:=by omega
  have hw:=wS h (by omega:t.rw.length<=9223372036854775807);have hr8:=zbx (n:=m.length+1) (by omega);have hsn:=zbn m y;have hmn:m++[y]=(t.rw.take (i+1)).map (fun r=>r.getD f 0):=by
   rw [zu1 hx,List.map_append,<- hmv,List.map_singleton,List.getD_eq_getElem?_getD,hy]; rfl
  simp [-getElem?_pos,z96,v1,v19,v20,v5,v21,hSo,h,hx',hy',hfr,hw,hr8,hsn,x1];exact zai (n-1) (by omega) ⟨i+1,st.nx+1,st.ep,m++[y],by omega,hmn,by simp [hm],by simp [v1],by simp [v19],by simp [v20],by simp,by simp,by omega,by simp⟩
 ·rw [List.take_of_length_le (by omega)] at hmv;have hcv:zb0 t f=m:=hmv.symm;rw [hcv];simp [-getElem?_pos,z96,v20,v5,v21,hSo,h]
open Classical in
theorem y96 (l m:List Int) (hl:l.length<=9223372036854775807):RUN T zl6 [.sl 1 (zab l),.sl 1 (zab m)]=some ([bv (decide (l=m))],[]):=by
 have h:=y7w l m hl;refine zae rfl rfl ?_;simp [-getElem?_pos,z4g,zvz,h]
open Classical in
theorem y97 (p q:Bool) (L M:List (List Int)) (hl:L.length<=9223372036854775807) (hll : ∀ l∈L,l.length<=9223372036854775807):RUN T zso [.sl 1 (rws p L),.sl 1 (rws q M),.fn zl6 []]=some ([bv (decide (L=M))],[]):=by
 refine zae rfl rfl ?_;rcases bL ((L.length:Int)=M.length) with hlm | hlm
 case inr =>
  simp [-getElem?_pos,zw3,zzw,hlm,z9w hlm]
 simp [-getElem?_pos,zw3,zzw,hlm];have hlen:L.length=M.length:=by simp at hlm; omega
 refine zao (fun n st => ∃ i:Nat,i+n=L.length/\(∀ j,j<i->L[j]?=M[j]?)/\st.V 1 = .sl 1 (rws q M)/\st.V 2 = .fn zl6 []/\st.V 15 = .sl 1 (rws p L)/\st.V 16=iv L.length/\st.V 17=iv i) ?_ L.length _ ⟨0,by simp [hlen]⟩;rintro n st ⟨i,hi,hj,v1,v2,v15,v16,v17⟩;simp [yft,v16,v17];refine zau (fun h => ?_) (fun h => ?_)
 ·simp at h;obtain ⟨x,hx⟩ : ∃ x,L[i]?=some x:=⟨_,bG h⟩;obtain ⟨y,hy⟩ : ∃ y,M[i]?=some y:=⟨_,bG (by omega)⟩;have hx':=zc3 (q:=p) hx;have hy':=zc3 (q:=q) hy;have hw:=wS h hl;have him:i<M.length:=by omega
  have hs:=y96 x y (hll x (bF hx));have z:=fr (by omega:st.nx<st.nx+1)
  by_cases e:x=y
  ·rw [decide_eq_true e] at hs;simp [-getElem?_pos,v1,v2,v15,v17,hx',hy',h,hw,hs];exact zai (n-1) (by omega) ⟨i+1,by omega,zh4 hj (by rw [hx,hy,e]),by simp [v1,v2,v15,v16]⟩
  ·rw [decide_eq_false e] at hs;simp [-getElem?_pos,v1,v2,v15,v17,hx',hy',h,hs,z8i hx hy e]
 ·simp at h;simp [z88 hlen h hj]
open Classical in
theorem ymu (p q:Bool) (L M:List (List Int)) (hl:L.length<=9223372036854775807) (hll : ∀ l∈L,l.length<=9223372036854775807):RUN T znt [.sl 1 (rws p L),.sl 1 (rws q M)]=some ([bv (decide (L=M))],[]):=by
 have h:=y97 p q L M hl hll;refine zae rfl rfl ?_;simp [-getElem?_pos,z2k,zvz,h]
open Classical in
theorem y98 (p q:Bool) (c v c' v':List (List Int)) (hc:c.length<=9223372036854775807) (hcl : ∀ l∈c,l.length<=9223372036854775807) (hv:v.length<=9223372036854775807) (hvl : ∀ l∈v,l.length<=9223372036854775807):RUN T zq8 [.agg [.sl 1 (rws p c),.sl 1 (rws p v)],.agg [.sl 1 (rws q c'),.sl 1 (rws q v')]]=some ([bv (decide (c=c') && decide (v=v'))],[]):=by
 have h1:=ymu p q c c' hc hcl;have h2:=ymu p q v v' hv hvl;generalize decide (c=c')=b1 at *;generalize decide (v=v')=b2 at *;refine zae rfl rfl ?_;cases b1 <;> simp [-getElem?_pos,z0u,zvz,h1,h2]
open Classical in
theorem ymv (p q:Bool) (L M:List (List Int)) (hl:L.length<=9223372036854775807) (hll : ∀ l∈L,l.length<=9223372036854775807):RUN T znx [.sl 1 (rws p L),.sl 1 (rws q M)]=some ([bv (decide (L=M))],[]):=by
 refine zae rfl rfl ?_;rcases bL ((L.length:Int)=M.length) with hlm | hlm
 case inr =>
  simp [-getElem?_pos,zwx,zvz,hlm,z9w hlm]
 simp [-getElem?_pos,zwx,zvz,hlm];have hlen:L.length=M.length:=by simp at hlm; omega
 refine zao (fun n st => ∃ i:Nat,i+n=L.length/\(∀ j,j<i->L[j]?=M[j]?)/\st.V 0 = .sl 1 (rws p L)/\st.V 1 = .sl 1 (rws q M)/\st.V 5=iv i) ?_ L.length _ ⟨0,by simp [hlen]⟩;rintro n st ⟨i,hi,hj,v0,v1,v5⟩;simp [yfk,v0,v5];refine zau (fun h => ?_) (fun h => ?_)
 ·simp at h;obtain ⟨x,hx⟩ : ∃ x,L[i]?=some x:=⟨_,bG h⟩;obtain ⟨y,hy⟩ : ∃ y,M[i]?=some y:=⟨_,bG (by omega)⟩;have hx':=zc3 (q:=p) hx;have hy':=zc3 (q:=q) hy;have hw:=wS h hl;have him:i<M.length:=by omega
  have hs:=y7v x y (hll x (bF hx))
  by_cases e:x=y
  ·rw [decide_eq_true e] at hs;simp [-getElem?_pos,v0,v1,v5,hx',hy',h,hw,hs];exact zai (n-1) (by omega) ⟨i+1,by omega,zh4 hj (by rw [hx,hy,e]),by simp [v0,v1]⟩
  ·rw [decide_eq_false e] at hs;simp [-getElem?_pos,v0,v1,v5,hx',hy',h,hs,z8i hx hy e]
 ·simp at h;simp [z88 hlen h hj]
open Classical in
theorem y99 (p q:Bool) (c v c' v':List (List Int)) (hc:c.length<=9223372036854775807) (hcl : ∀ l∈c,l.length<=9223372036854775807) (hv:v.length<=9223372036854775807) (hvl : ∀ l∈v,l.length<=9223372036854775807):RUN T zrd [.agg [.sl 1 (rws p c),.sl 1 (rws p v)],.agg [.sl 1 (rws q c'),.sl 1 (rws q v')]]=some ([bv (decide (c=c') && decide (v=v'))],[]):=by
 have h1:=ymv p q c c' hc hcl;have h2:=ymv p q v v' hv hvl;generalize decide (c=c')=b1 at *;generalize decide (v=v')=b2 at *;refine zae rfl rfl ?_;cases b1 <;> simp [-getElem?_pos,z00,zvz,h1,h2]
theorem qfh (cuts col:List Int) (hcu:cuts.length<=8) (hco:col.length<=40) {st:St} {q1 e1 q2 e2 q3 e3:Nat} {Q:Ex->St->Prop} (v35:st.V 35 = .ref q1 none e1 0 col.length) (v36:st.V 36=iv col.length) (v37:st.V 37=iv (0:Nat)) (v9:st.V 9 = .ref q2 none e2 0 cuts.length) (v8:st.V 8 = .ref q3 none e3 0 0) (h13:q1≠q3) (h23:q2≠q3) (h1:q1<st.nx) (h2:q2<st.nx) (h3:q3<st.nx) (hS1:st.S q1=some (.row 1 (zab col))) (hS2:st.S q2=some (.row 1 (zab cuts))) (hS3:st.S q3=some (.row 1 []))
  (hQ : ∀ (s':St) (q' e':Nat) (bins:List Int),bins=col.map (fun v=>(zdu cuts v:Int))->(∀ k,k≠8->k≠11->k≠37->s'.V k=st.V k)->s'.V 8 = .ref q' none e' 0 bins.length->(q'=q3\/st.nx<=q')->q'<s'.nx->st.nx<=s'.nx->s'.S q'=some (.row 1 (zab bins))->(∀ k,k<st.nx->k≠q3->s'.S k=st.S k)->Q (.exit 2) s') :
  W (zad T) (RUN T) (.loop z0w) st Q:=by
 refine zao (fun m s' => ∃ (i q' e':Nat) (bins:List Int),i+m=col.length/\bins.length=i/\bins=(col.take i).map (fun v=>(zdu cuts v:Int))/\(∀ k,k≠8->k≠11->k≠37->s'.V k=st.V k)/\s'.V 8 = .ref q' none e' 0 bins.length/\s'.V 37=iv i/\(q'=q3\/st.nx<=q')/\q'<s'.nx/\st.nx<=s'.nx/\s'.S q'=some (.row 1 (zab bins))/\(∀ k,k<st.nx->k≠q3->s'.S k=st.S k)) ?_ col.length _ ⟨0,q3,e3,[],by omega,rfl,rfl,fun _ _ _ _=>rfl,by simpa using v8,by simpa using v37,.inl rfl,h3,Nat.le_refl _,by simpa [zab] using hS3,fun _ _ _=>rfl⟩;rintro m s' ⟨i,q',e',bins,hi,hb,hbb,hV,v8',v37',hq,hqx,hnx,hSq,hfr⟩;have v35':s'.V 35 = .ref q1 none e1 0 col.length:=by rw [hV 35 (by decide) (by decide) (by decide)]; exact v35
 have v36':s'.V 36=iv col.length:=by rw [hV 36 (by decide) (by decide) (by decide)]; exact v36
 have v9':s'.V 9 = .ref q2 none e2 0 cuts.length:=by rw [hV 9 (by decide) (by decide) (by decide)]; exact v9
 have hS1':s'.S q1=some (.row 1 (zab col)):=by rw [hfr q1 h1 h13]; exact hS1
 have hS2':s'.S q2=some (.row 1 (zab cuts)):=by rw [hfr q2 h2 h23]; exact hS2
 by_cases h:i<col.length
 ·obtain ⟨x,hx⟩ : ∃ x,col[i]?=some x:=⟨_,bG h⟩;have hx':=zay hx;have hw:=wS h (by omega:col.length<=9223372036854775807);have hr1:zag 8 1=true:=by decide
  have hr8:=zbx (n:=bins.length+1) (by omega);have h4:=y93 cuts x (by omega);have hbn:bins++[(zdu cuts x:Int)]=(col.take (i+1)).map (fun v=>(zdu cuts v:Int)):=by rw [zu1 hx,List.map_append,<- hbb]; rfl
  generalize zdu cuts x=y at *;have hsn:=zbn bins (y:Int);have a1:=fr hqx;have a2:(q1=q')=False/\(q'=q1)=False/\(q2=q')=False/\(q'=q2)=False:=⟨bK (by omega),bK (by omega),bK (by omega),bK (by omega)⟩;have a4:=fr (show q1<s'.nx by omega);have a5:=fr (show q2<s'.nx by omega);simp [-getElem?_pos,z0w,v35',v36',v37',v9',v8',hS1',hS2',hSq,h,hx',h4,hw,hr8,hsn,a1];refine zai (m-1) (by omega) ⟨i+1,s'.nx+1,s'.ep,bins++[(y:Int)],by omega,by simp [hb],hbn,fun k k1 k2 k3 => ?_,by simp,by simp,.inr (by omega),by simp,by simp; omega,by simp,fun k k1 k2 => ?_⟩
  ·simp [k1,k2,k3]; exact hV k k1 k2 k3
  ·have b1:(k=s'.nx)=False:=bK (by omega);have b2:(k=s'.nx+1)=False:=bK (by omega);have b3:(k=q')=False:=bK (by omega);simp [b1,b2,b3];exact hfr k k1 k2
 ·have hin:i=col.length:=by omega
  simp [-getElem?_pos,z0w,v36',v37',h];exact hQ _ q' e' bins (by rw [hbb,List.take_of_length_le (by omega)]) (fun k k1 k2 k3=>by simp; exact hV k k1 k2 k3) (by simp [v8']) hq (by simp [hqx]) (by simp [hnx]) (by simp [hSq]) (fun k k1 k2=>by simp; exact hfr k k1 k2)
theorem qaa (q:Bool) (t:Ta) (b:Int) (ht:TaL 1048576 t):RUN T zq9 [taS q t,iv b]=some ([.agg [.own 1 (rws true (zbq t b)),.own 1 (rws true (zbr t b))]],[]):=by
 have e1:=ymr q t ht;have g1:=zc0 b 2 8;cases hok:zcv t with
 | false =>
  have hC:zbq t b=[]:=by unfold zbq; rw [hok]; rfl
  have hW:zbr t b=[]:=by unfold zbr; rw [hok]; rfl
  rw [hC,hW];rw [hok] at e1;simp only [taS] at *;refine zae rfl rfl ?_;simp [-getElem?_pos,-zbm,zt2,ztz,e1,show rws true []=[] from rfl]
 | true =>
 cases hbi:zah b 2 8 with
 | false =>
  have hC:zbq t b=[]:=by unfold zbq; rw [hbi,Bool.and_false]; rfl
  have hW:zbr t b=[]:=by unfold zbr; rw [hbi,Bool.and_false]; rfl
  rw [hC,hW];rw [hok] at e1;rw [hbi] at g1;simp only [taS] at *;refine zae rfl rfl ?_;simp [-getElem?_pos,-zbm,zt2,ztz,e1,g1,show rws true []=[] from rfl]
 | true =>
 have hb:=zar.mp hbi;rw [hok] at e1;rw [hbi] at g1;obtain ⟨t1,t2,t3,t4,t5,t6⟩:=zk9 hok;have hgC:zbq t b=(List.range t.ns.length).map fun f=>zb5 (zb0 t f) b:=by unfold zbq; rw [hok,hbi]; rfl
 have hgW:zbr t b=(List.range t.ns.length).map (zmw t b):=by unfold zbr; rw [hok,hbi]; rfl
 rw [hgC,hgW];have hr1:zag 24 1=true:=by decide
 have hr0:zag 8 0=true:=by decide
 have cl:=y95 q t;simp only [taS] at *;refine zae rfl rfl ?_;simp [-getElem?_pos,-zbm,zt2,ztz,e1,g1];refine zao (fun n st => ∃ (i:Nat) (C D:List (List Int)) (x y:PV),i+n=t.ns.length/\C.length=i/\D.length=i/\C=(List.range i).map (fun f=>zb5 (zb0 t f) b)/\D=(List.range i).map (zmw t b)/\st.V 1=iv b/\st.V 2 = .ptr 0 none 0 0 0/\st.V 4 = .ptr 1 none 0 0 0/\st.V 5 = .ptr 2 none 0 0 0/\st.V 25=iv i/\st.V 24=iv t.ns.length/\2<st.nx/\LG st.S st.nx C D x y/\st.S 0=some (.box [.sl 1 (za6 t.ns),.v (.string t.nm),.sl 1 (rws q t.rw),.sl 1 (zab t.lb)])/\st.S 1=some (.box [.e0,.e0])/\st.S 2=some (.box [x,y])) ?_ t.ns.length _ ⟨0,[],[],.e0,.e0,by omega,rfl,rfl,rfl,rfl,by simp,by simp,by simp,by simp,by simp,by simp,by simp,.inl ⟨rfl,rfl,rfl,rfl⟩,by simp⟩;rintro n st ⟨i,C,D,x,y,hi,hC,hD,hC8,hD8,v1,v2,v4,v5,v25,v24,hnx,hx,hS0,hS1,hS2⟩;have z1:=fr hnx;have z2:=fr (show 1<st.nx by omega);have z3:=fr (show 0<st.nx by omega)
 by_cases h:i<t.ns.length
 ·have hw:=wS h (by omega:t.ns.length<=9223372036854775807);have h1:=cl i ht h t4 t6;have hcol:(zb0 t i).length=t.rw.length:=by simp [zb0]
  have h2:=y94 (zb0 t i) b (by omega);have hcu:(zb5 (zb0 t i) b).length<=8:=bJ (z77 (zb0 t i) b).2.2 (by omega);have hCn:C++[zb5 (zb0 t i) b]=(List.range (i+1)).map (fun f=>zb5 (zb0 t f) b):=by rw [List.range_succ,List.map_append,<- hC8]; rfl
  have hDn:D++[(zb0 t i).map fun v=>(zdu (zb5 (zb0 t i) b) v:Int)]=(List.range (i+1)).map (zmw t b):=by rw [List.range_succ,List.map_append,<- hD8]; rfl
  generalize zb5 (zb0 t i) b=cuts at *;generalize zb0 t i=col at *;simp [-getElem?_pos,z91,v1,v2,v25,v24,hS0,h,h1,h2];refine qfh cuts col hcu (by omega) (q1:=st.nx) (q2:=st.nx+2) (q3:=st.nx+1) (by simp; rfl) (by simp) (by simp) (by simp; rfl) (by simp; rfl) (by omega) (by omega) (by first | (simp; done) | (simp; omega)) (by first | (simp; done) | (simp; omega)) (by first | (simp; done) | (simp; omega)) (by simp) (by simp) (by simp) ?_;intro s' q' e' bins hbb hV w8 hq hqx hnx' hSq hfr;simp only at hq hnx';have hbl:bins.length=col.length:=by rw [hbb]; simp
  have w1:s'.V 1=iv b:=by rw [hV 1 (by decide) (by decide) (by decide)]; simp [v1]
  have w2:s'.V 2 = .ptr 0 none 0 0 0:=by rw [hV 2 (by decide) (by decide) (by decide)]; simp [v2]
  have w4:s'.V 4 = .ptr 1 none 0 0 0:=by rw [hV 4 (by decide) (by decide) (by decide)]; simp [v4]
  have w5:s'.V 5 = .ptr 2 none 0 0 0:=by rw [hV 5 (by decide) (by decide) (by decide)]; simp [v5]
  have w25:s'.V 25=iv i:=by rw [hV 25 (by decide) (by decide) (by decide)]; simp [v25]
  have w24:s'.V 24=iv t.ns.length:=by rw [hV 24 (by decide) (by decide) (by decide)]; simp [v24]
  obtain ⟨e9,w9⟩ : ∃ e,s'.V 9 = .ref (st.nx+2) none e 0 cuts.length:=⟨_,by rw [hV 9 (by decide) (by decide) (by decide)]; simp; rfl⟩;have hT0:s'.S 0=some (.box [.sl 1 (za6 t.ns),.v (.string t.nm),.sl 1 (rws q t.rw),.sl 1 (zab t.lb)]):=by rw [hfr 0 (by first | (simp; done) | (simp; omega)) (by omega)]; simp [z3,hS0]
  have hT1:s'.S 1=some (.box [.e0,.e0]):=by rw [hfr 1 (by first | (simp; done) | (simp; omega)) (by omega)]; simp [z2,z3,hS1]
  have hT2:s'.S 2=some (.box [x,y]):=by rw [hfr 2 (by first | (simp; done) | (simp; omega)) (by omega)]; simp [z1,z3,hS2]
  have hT8:s'.S (st.nx+2)=some (.row 1 (zab cuts)):=by rw [hfr _ (by first | (simp; done) | (simp; omega)) (by omega)]; simp
  have hL:LG s'.S s'.nx C D x y:=hx.mono (by omega) (fun k k1 k2=>by
   rw [hfr k (by first | (simp; done) | (simp; omega)) (by omega)];have b1:(k=st.nx)=False:=bK (by omega);have b2:(k=st.nx+1)=False:=bK (by omega);have b3:(k=st.nx+2)=False:=bK (by omega);simp [b1,b2,b3])
  have hr24:zag 24 (C.length+1)=true:=by simp [zag]; omega
  have hr24':zag 24 (D.length+1)=true:=by simp [zag]; omega
  have s1:=zm7 C cuts;have s2:=zm7 D bins;obtain ⟨p8,hp8⟩ : ∃ p8,p8=st.nx+2:=⟨_,rfl⟩;rw [<- hp8] at w9 hT8;have hp8x:p8<s'.nx:=by first | omega | (simp at hnx'; omega)
  have hp8q : ¬ p8=q':=by first | omega | (simp at hq; omega)
  have hq2:2<q':=by first | omega | (simp at hq; omega)
  have hp82:2<p8:=by omega
  obtain ⟨P,hP⟩ : ∃ P,P=st.nx:=⟨_,rfl⟩;have hPp:P<p8:=by omega
  have hPq:P<q':=by first | omega | (simp at hq; omega)
  have hL':LG s'.S P C D x y:=by
   rcases hx with hx | ⟨o,e,o',e',k1,k2,k3,k4,k5,k6,k7,k8,k9⟩
   ·exact .inl hx
   ·rcases hL with ⟨l1,_⟩ | ⟨o2,e2,o2',e2',l1,l2,l3,l4,l5,l6,l7,l8,l9⟩
    ·rw [k1] at l1; cases l1
    ·rw [k1] at l1; cases l1;rw [k2] at l2; cases l2;exact .inr ⟨o,e,o',e',k1,k2,k3,by omega,k5,by omega,k7,l8,l9⟩
  clear hL hx hfr hV hp8 hP hq hS0 hS1 hS2 v1 v2 v4 v5 v25 v24 z1 z2 z3 h1 h2;have a1:=fr hqx;have a2:(p8=q')=False/\(q'=p8)=False:=⟨bK hp8q,bK fun e=>hp8q e.symm⟩;have a3:=fr (show p8<s'.nx by omega);have a4:=fr hp82;have a5:=fr (show 2<q' by omega);have a6:=fr (show 2<s'.nx by omega);have b1:=fr (show 1<p8 by omega);have b2:=fr (show 1<q' by omega);have b3:=fr (show 1<s'.nx by omega);have b4:=fr (show 0<p8 by omega);have b5:=fr (show 0<q' by omega);have b6:=fr (show 0<s'.nx by omega);have nn1 : ¬ s'.nx=1:=by omega
  have nn2 : ¬ s'.nx+1=q':=by omega
  have na : ∀ a b:Nat,s'.nx+a+b=s'.nx+(a+b):=fun a b=>Nat.add_assoc _ _ _;rw [<- hbb] at hDn;rcases hL' with ⟨rfl,rfl,hC0,hD0⟩ | ⟨o,e,o',e',rfl,rfl,ho,hox,ho',hox',hoo,hSo,hSo'⟩
  ·subst hC0 hD0;simp only [List.nil_append] at hCn hDn;simp [-getElem?_pos,w5,w25,w8,w9,hT2,hT8,hSq,hw,hr1,na,a1,a2,a4,a5,a6,b6];exact zai (n-1) (by omega) ⟨i+1,[cuts],[bins],.ref (s'.nx+1) none s'.ep 0 1,.ref (s'.nx+3) none s'.ep 0 1,by omega,by simp at hC; simp; omega,by simp at hC; simp; omega,hCn,hDn,by simp [w1],by simp [w2],by simp [w4],by simp [w5],by simp,by simp [w24],by first | (simp; done) | (simp; omega),.inr ⟨s'.nx+1,s'.ep,s'.nx+3,s'.ep,rfl,rfl,by omega,by simp,by omega,by simp,by omega,by simp [nn1,nn2,rws,cel]⟩,by simp [b1,b2,b3,b4,b5,b6,hT0,hT1]⟩
  ·have c1:=fr ho;have c2:=fr (show o<p8 by omega);have c3:=fr ho';have c4:=fr (show o'<p8 by omega);have c5:=fr (show o<q' by omega);have c6:=fr (show o'<q' by omega);have d1:=fr (show o<s'.nx by omega);have d2:=fr (show o'<s'.nx by omega);have d3:=fr (show 1<o by omega);have d4:=fr (show 1<o' by omega);have d5:=fr (show 0<o by omega);have d6:=fr (show 0<o' by omega);have hoo2 : ¬ o'=o:=fun e=>hoo e.symm;have nn3 : ¬ s'.nx+1=o':=by omega
   simp [-getElem?_pos,w5,w25,w8,w9,hT2,hT8,hSq,hSo,hSo',hoo2,hw,hr24,hr24',s1,s2,na,a1,a2,a4,a5,a6,b6,c1,c2,c3,c4,c5,c6,d1,d2];exact zai (n-1) (by omega) ⟨i+1,C++[cuts],D++[bins],.ref (s'.nx+1) none s'.ep 0 (C.length+1),.ref (s'.nx+3) none s'.ep 0 (D.length+1),by omega,by simp [hC],by simp [hD],hCn,hDn,by simp [w1],by simp [w2],by simp [w4],by simp [w5],by simp,by simp [w24],by first | (simp; done) | (simp; omega),.inr ⟨s'.nx+1,s'.ep,s'.nx+3,s'.ep,by simp,by simp,by omega,by simp,by omega,by simp,by omega,by simp [nn1,nn2,nn3]⟩,by simp [b1,b2,b3,b4,b5,b6,d3,d4,d5,d6,hT0,hT1]⟩
 ·have hin:i=t.ns.length:=by omega
  rcases hx with ⟨rfl,rfl,hC0,hD0⟩ | ⟨o,e,o',e',rfl,rfl,ho,hox,ho',hox',hoo,hSo,hSo'⟩
  ·subst hC0;simp at hC; omega
  ·have c1:=fr ho;have c3:=fr ho';have d3:=fr (show 1<o by omega);have d4:=fr (show 1<o' by omega);have d5:=fr (show 0<o by omega);have d6:=fr (show 0<o' by omega);have hoo2 : ¬ o'=o:=fun e=>hoo e.symm;simp [-getElem?_pos,z91,v4,v5,v25,v24,hS1,hS2,h,hSo,hSo',hoo2,d3,d4];rw [hC8,hD8,hin];exact ⟨rfl,rfl⟩
theorem ypo {l m:List Int} : ∀ x∈(zel l m).1,inI x:=by
 unfold zel;split
 ·rename_i hl;cases e:res l m with
  | none=>intro x hx; cases hx
  | some r =>
   obtain ⟨h1,h2⟩:=yck hl e;intro x hx
   replace hx:x∈r:=hx
   obtain ⟨i,hi⟩:=bH hx;have hlt:=(bD hi).1;obtain ⟨a,ha⟩ : ∃ a,l[i]?=some a:=⟨_,bG (by omega)⟩;obtain ⟨b,hb⟩ : ∃ b,m[i]?=some b:=⟨_,bG (by omega)⟩;obtain ⟨rfl,h4,h5⟩:=h2 i a b x ha hb hi;exact ⟨h4,h5⟩
 ·intro x hx; cases hx
theorem yb7 {l m:List Int}:(zel l m).1.length<=l.length/\((zel l m).2=true->l.length=m.length):=by
 unfold zel;split
 ·rename_i hl;cases e:res l m with
  | none=>simp
  | some r=>exact ⟨Nat.le_of_eq (yck hl e).1,fun _=>hl⟩
 ·simp
theorem yro {c v:List (List Int)} {g:List Int} {cfg:Cfg} (h:(zb6 c v g cfg).2=true) : ∀ x∈(zb6 c v g cfg).1,inR 2199023255552 x.v:=by
 refine qdt (by omega) fun x hx => ?_;unfold zb6 at h;split at h
 ·rename_i ht;exact (zmx ht).2.2.2 x hx
 ·cases h
theorem ypj {tr:List Nd} {ps:List Int} {rs:List (List Int)} {i:Nat} {p:Int} {r:List Int} (hp:ps[i]?=some p) (hr:rs[i]?=some r):zcw tr (ps.drop i) (rs.drop i)=if (adi p (evt tr r)).2=true then (zcw tr (ps.drop (i+1)) (rs.drop (i+1))).map ((adi p (evt tr r)).1 :: ·) else none:=by
 rw [zcr hp,zcr hr,zcw]
theorem z9g (M:List (List Nd)) (t:List Nd):trs true M++[[.own 5 (t.map nd)]]=trs true (M++[t]):=by simp [trs,zu9]
theorem TaL.up {t:Ta} (ht:TaL 1048576 t):TaL 9223372036854775807 t:=⟨bJ ht.ns (by omega),fun x hx=>bJ (ht.ss x hx) (by omega),bJ ht.nm (by omega),bJ ht.rw (by omega),fun x hx=>bJ (ht.rr x hx) (by omega),bJ ht.lb (by omega)⟩
open Classical in
theorem ymw (p q r:Bool) (t:Ta) (c v:List (List Int)) (cfg:Cfg) (s:Sta) (ht:TaL 1048576 t) (hti : ∀ y∈t.lb,inI y) (hcl:c.length<=1048576) (hc : ∀ l∈c,l.length<=1048576) (hvl:v.length<=1048576) (hv : ∀ l∈v,l.length<=1048576) (hg:cfg.sg.length<=1048576) (hs:z75 1048576 s) (hsi : ∀ x∈s.sm,inI x):RUN T zne [taS p t,.agg [.sl 1 (rws q c),.sl 1 (rws q v)],cfS cfg,stS r s]=some ([stO (zcq t c v cfg s).1,bv (zcq t c v cfg s).2],[]):=by
 have e1:=ya6 p t ht.up;have e2:=ya8 p t cfg.bi ht;have e3:=y99 q true c v (zbq t cfg.bi) (zbr t cfg.bi) (by omega) (fun l hl=>bJ (hc l hl) (by omega)) (by omega) (fun l hl=>bJ (hv l hl) (by omega));have r1:=y7u t.lb s.sm ht.lb hs.sm hti hsi;have hrl:=yb7 (l:=t.lb) (m:=s.sm);have hri:=ypo (l:=t.lb) (m:=s.sm);have hrw:=ht.rw;have hsm:=hs.sm;have hlb:=ht.lb;have hz:stO noS = .agg [.own 1 [],.own 1 []]:=rfl;simp only [taS,stS] at *;cases ht1:zcv t with
 | false =>
  have hR:zcq t c v cfg s=(noS,false):=by unfold zcq; rw [if_neg (by rw [ht1]; simp)]
  rw [hR,hz];rw [ht1] at e1;refine zae rfl rfl ?_;simp [-getElem?_pos,zkl,zkk,e1]
 | true =>
 rw [ht1] at e1;have htr:=zk9 ht1
 by_cases hcg:c=zbq t cfg.bi/\v=zbr t cfg.bi
 case neg =>
  have hR:zcq t c v cfg s=(noS,false):=by unfold zcq; rw [if_neg fun h=>hcg h.2]
  have hd:(decide (c=zbq t cfg.bi) && decide (v=zbr t cfg.bi))=false:=by
   cases h1:decide (c=zbq t cfg.bi) with
   | false=>rfl
   | true=>exact decide_eq_false fun h=>hcg ⟨of_decide_eq_true h1,h⟩
  rw [hR,hz];rw [hd] at e3;generalize zbq t cfg.bi=GC at *;generalize zbr t cfg.bi=GW at *;refine zae rfl rfl ?_;simp [-getElem?_pos,zkl,zkk,e1,e2,e3]
 case pos =>
 have hR:zcq t c v cfg s=zmz t c v cfg s:=by unfold zcq; rw [if_pos ⟨ht1,hcg⟩]
 have hd:(decide (c=zbq t cfg.bi) && decide (v=zbr t cfg.bi))=true:=by rw [decide_eq_true hcg.1,decide_eq_true hcg.2]; rfl
 rw [hR];rw [hd] at e3;generalize zbq t cfg.bi=GC at *;generalize zbr t cfg.bi=GW at *;clear hR hd hcg ht1;unfold zmz zhc;generalize zel t.lb s.sm=QQ at *;obtain ⟨RS,rb⟩:=QQ;simp only at r1 hrl hri;have g1:=y9i q c v RS cfg hc hv (by omega) hg hri;have hgl:=ycx (c:=c) (v:=v) (g:=RS) (cfg:=cfg);have hgv:=yro (c:=c) (v:=v) (g:=RS) (cfg:=cfg);have s1:=y9r (zb6 c v RS cfg).1 cfg (by omega) hg;have hsl:=ydz (c:=cfg) (t:=(zb6 c v RS cfg).1);have hsv:=fun h=>yui (c:=cfg) (t:=(zb6 c v RS cfg).1) (R:=2199023255552) (by omega) (hgv h);have t1:=y9q r s.ts hs.ts hs.tl;generalize zb6 c v RS cfg=QQ at *;obtain ⟨G,gb⟩:=QQ;simp only at g1 hgl s1 hsl hsv;generalize zgf cfg G=QQ at *;obtain ⟨tr,sb⟩:=QQ;simp only at s1 hsl hsv;cases rb with
 | false =>
  simp only [Bool.false_and,Bool.false_eq_true,if_false];rw [hz];refine zae rfl rfl ?_;simp [-getElem?_pos,zkl,zkk,e1,e2,e3,r1]
 | true =>
 cases gb with
 | false =>
  simp only [Bool.and_false,Bool.false_eq_true,if_false];rw [hz];refine zae rfl rfl ?_;simp [-getElem?_pos,zkl,zkk,e1,e2,e3,r1,g1,s1]
 | true =>
 cases sb with
 | false =>
  simp only [Bool.and_true,if_true,Bool.false_eq_true,if_false];rw [hz];refine zae rfl rfl ?_;simp [-getElem?_pos,zkl,zkk,e1,e2,e3,r1,g1,s1]
 | true =>
 simp only [Bool.and_true,if_true];have hev:=yt4 (t:=tr) (by omega) (hsv rfl);have hlr:s.sm.length=t.rw.length:=by have:=hrl.2 rfl; omega
 have hts:=z9g s.ts tr;have hrt:zag 24 (s.ts.length+1)=true:=by have:=hs.ts; simp [zag]; omega
 have hr24:zag 24 1=true:=by decide
 clear hsv hgv;refine zae rfl rfl ?_;simp [-getElem?_pos,zkl,zkk,e1,e2,e3,r1,g1,s1,t1,hts,hrt];refine zao (fun n st => ∃ (i:Nat) (m:List Int) (x:PV),i+n=s.sm.length/\m.length=i/\zcw tr s.sm t.rw=(zcw tr (s.sm.drop i) (t.rw.drop i)).map (m ++ ·)/\st.V 4 = .ptr 0 none 0 0 0/\st.V 7 = .ptr 3 none 0 0 0/\st.V 8 = .ptr 4 none 0 0 0/\st.V 14 = .ptr 11 none 0 0 0/\st.V 16 = .ptr 15 none 0 0 0/\st.V 17=iv i/\st.ep=0/\15<st.nx/\LC st.S st.nx 15 m x/\st.S 0=some (.box [.sl 1 (za6 t.ns),.v (.string t.nm),.sl 1 (rws p t.rw),.sl 1 (zab t.lb)])/\st.S 3=some (.box [.sl 1 (zab s.sm),.sl 1 (trs r s.ts)])/\st.S 4=some (.box [.e0,.e0])/\st.S 10=some (.shadow 5 (tr.map nd) 0)/\st.S 11=some (.box [.ref 10 none 0 0 tr.length])/\st.S 14=some (.row 1 (trs true (s.ts++[tr])))/\st.S 15=some (.box [x,.ref 14 none 0 0 (s.ts.length+1)])) ?_ s.sm.length _ ⟨0,[],.e0,by omega,rfl,by simp,by simp,by simp,by simp,by simp,by simp,by simp,by simp,by simp,.inl ⟨rfl,rfl⟩,by simp⟩;rintro n st ⟨i,m,x,hi,hm,hE,v4,v7,v8,v14,v16,v17,hep,hnx,hx,hS0,hS3,hS4,hS10,hS11,hS14,hS15⟩;have z0:=fr (show 0<st.nx by omega);have z3:=fr (show 3<st.nx by omega);have z4:=fr (show 4<st.nx by omega);have z10:=fr (show 10<st.nx by omega);have z11:=fr (show 11<st.nx by omega);have z14:=fr (show 14<st.nx by omega);have z15:=fr hnx;have n14 : ¬ st.nx=14:=by omega
 by_cases h:i<s.sm.length
 ·obtain ⟨y,hy⟩ : ∃ x,s.sm[i]?=some x:=⟨_,bG h⟩;obtain ⟨w,hw⟩ : ∃ x,t.rw[i]?=some x:=⟨_,bG (by omega)⟩;have hy':=zay hy;have hw':=zc3 (q:=p) hw;have hir:i<t.rw.length:=by omega
  have hwS:=wS h (by omega:s.sm.length<=9223372036854775807);have v1:=ylp tr w (by omega) (ht.rr w (bF hw));have hei:=hev w;have a1:=z7s y (evt tr w) (hsi y (bF hy)) (by unfold inR at hei; unfold inI; omega);rw [ypj hy hw] at hE;generalize evt tr w=ew at *;generalize adi y ew=QQ at *;obtain ⟨ad,ab⟩:=QQ;simp only at a1 hE;cases ab with
  | false =>
   have hA:zh8 t tr s=(noS,false):=by unfold zh8; rw [hE]; rfl
   rw [hA,hz];simp [-getElem?_pos,ztv,v4,v7,v8,v14,v17,hep,hS0,hS3,hS4,hS10,hS11,h,hy',hw',v1,a1]
  | true =>
   rw [if_pos rfl] at hE;have hE2:zcw tr s.sm t.rw=(zcw tr (s.sm.drop (i+1)) (t.rw.drop (i+1))).map ((m++[ad]) ++ ·):=by
    rw [hE,Option.map_map]; congr 1; funext l; simp
   have hr8:zag 8 1=true:=by decide
   have hr8':=zbx (n:=m.length+1) (by omega);have hsn:=zbn m ad;rcases hx with ⟨rfl,rfl⟩ | ⟨o,e,rfl,ho,hox,hSo⟩
   ·simp [-getElem?_pos,ztv,v4,v7,v14,v16,v17,hep,hS0,hS3,hS10,hS11,hS15,h,hy',hw',v1,a1,hwS,hr8,z15];exact zai (n-1) (by omega) ⟨i+1,[ad],.ref (st.nx+1) none 0 0 1,by omega,by simp at hm; simp; omega,by simpa using hE2,by simp [v4],by simp [v7],by simp [v8],by simp [v14],by simp [v16],by simp,by simp,by simp; omega,.inr ⟨st.nx+1,0,by simp,by omega,by simp [zab,n14]⟩,by simp [z0,hS0,z3,hS3,z4,hS4,z10,hS10,z11,hS11,z14,hS14]⟩
   ·have y1:=fr hox;have y2:=fr (show 0<o by omega);have y3:=fr (show 3<o by omega);have y4:=fr (show 4<o by omega);have y5:=fr (show 10<o by omega);have y6:=fr (show 11<o by omega);have y7:=fr (show 14<o by omega);have y8:=fr ho;simp [-getElem?_pos,ztv,v4,v7,v14,v16,v17,hep,hS0,hS3,hS10,hS11,hS15,hSo,h,hy',hw',v1,a1,hwS,hr8',hsn,z15,y1,y8];exact zai (n-1) (by omega) ⟨i+1,m++[ad],.ref (st.nx+1) none 0 0 (m.length+1),by omega,by simp [hm],hE2,by simp [v4],by simp [v7],by simp [v8],by simp [v14],by simp [v16],by simp,by simp,by simp; omega,.inr ⟨st.nx+1,0,by simp,by omega,by simp [n14]⟩,by simp [z0,y2,hS0,z3,y3,hS3,z4,y4,hS4,z10,y5,hS10,z11,y6,hS11,z14,y7,hS14]⟩
 ·have hA:zh8 t tr s=(⟨m,s.ts++[tr]⟩,true):=by
   unfold zh8;rw [hE,bN (by omega),bN (by omega)];simp [zcw]
  rw [hA];rcases hx with ⟨rfl,rfl⟩ | ⟨o,e,rfl,ho,hox,hSo⟩
  ·simp [-getElem?_pos,ztv,v7,v8,v16,v17,hep,hS3,hS4,hS14,hS15,h]
  ·have y4:=fr (show 4<o by omega);have y7:=fr (show 14<o by omega);have y8:=fr ho;simp [-getElem?_pos,ztv,v7,v8,v16,v17,hep,hS3,hS4,hS14,hS15,hSo,h,y4,y7]
open Classical in
theorem qab (p q r:Bool) (t:Ta) (c v:List (List Int)) (cfg:Cfg) (s:Sta) (ht:TaL 1048576 t) (hti : ∀ y∈t.lb,inI y) (hcl:c.length<=1048576) (hc : ∀ l∈c,l.length<=1048576) (hvl:v.length<=1048576) (hv : ∀ l∈v,l.length<=1048576) (hg:cfg.sg.length<=1048576) (hs:z75 1048576 s) (hsi : ∀ x∈s.sm,inI x):RUN T zqp [taS p t,.agg [.sl 1 (rws q c),.sl 1 (rws q v)],cfS cfg,stS r s]=some ([stO (zcq t c v cfg s).1,bv (zcq t c v cfg s).2],[]):=by
 have e1:=ymr p t ht;have e2:=qaa p t cfg.bi ht;have e3:=y98 q true c v (zbq t cfg.bi) (zbr t cfg.bi) (by omega) (fun l hl=>bJ (hc l hl) (by omega)) (by omega) (fun l hl=>bJ (hv l hl) (by omega));have r1:=y7t t.lb s.sm ht.lb hs.sm hti hsi;have hrl:=yb7 (l:=t.lb) (m:=s.sm);have hri:=ypo (l:=t.lb) (m:=s.sm);have hrw:=ht.rw;have hsm:=hs.sm;have hlb:=ht.lb;have hz:stO noS = .agg [.own 1 [],.own 1 []]:=rfl;simp only [taS,stS] at *;cases ht1:zcv t with
 | false =>
  have hR:zcq t c v cfg s=(noS,false):=by unfold zcq; rw [if_neg (by rw [ht1]; simp)]
  rw [hR,hz];rw [ht1] at e1;refine zae rfl rfl ?_;simp [-getElem?_pos,zkj,zkk,e1]
 | true =>
 rw [ht1] at e1;have htr:=zk9 ht1
 by_cases hcg:c=zbq t cfg.bi/\v=zbr t cfg.bi
 case neg =>
  have hR:zcq t c v cfg s=(noS,false):=by unfold zcq; rw [if_neg fun h=>hcg h.2]
  have hd:(decide (c=zbq t cfg.bi) && decide (v=zbr t cfg.bi))=false:=by
   cases h1:decide (c=zbq t cfg.bi) with
   | false=>rfl
   | true=>exact decide_eq_false fun h=>hcg ⟨of_decide_eq_true h1,h⟩
  rw [hR,hz];rw [hd] at e3;generalize zbq t cfg.bi=GC at *;generalize zbr t cfg.bi=GW at *;refine zae rfl rfl ?_;simp [-getElem?_pos,zkj,zkk,e1,e2,e3]
 case pos =>
 have hR:zcq t c v cfg s=zmz t c v cfg s:=by unfold zcq; rw [if_pos ⟨ht1,hcg⟩]
 have hd:(decide (c=zbq t cfg.bi) && decide (v=zbr t cfg.bi))=true:=by rw [decide_eq_true hcg.1,decide_eq_true hcg.2]; rfl
 rw [hR];rw [hd] at e3;generalize zbq t cfg.bi=GC at *;generalize zbr t cfg.bi=GW at *;clear hR hd hcg ht1;unfold zmz zhc;generalize zel t.lb s.sm=QQ at *;obtain ⟨RS,rb⟩:=QQ;simp only at r1 hrl hri;have g1:=y9h q c v RS cfg hc hv (by omega) hg hri;have hgl:=ycx (c:=c) (v:=v) (g:=RS) (cfg:=cfg);have hgv:=yro (c:=c) (v:=v) (g:=RS) (cfg:=cfg);have s1:=y9s (zb6 c v RS cfg).1 cfg (by omega) hg;have hsl:=ydz (c:=cfg) (t:=(zb6 c v RS cfg).1);have hsv:=fun h=>yui (c:=cfg) (t:=(zb6 c v RS cfg).1) (R:=2199023255552) (by omega) (hgv h);have t1:=y9p r s.ts hs.ts hs.tl;generalize zb6 c v RS cfg=QQ at *;obtain ⟨G,gb⟩:=QQ;simp only at g1 hgl s1 hsl hsv;generalize zgf cfg G=QQ at *;obtain ⟨tr,sb⟩:=QQ;simp only at s1 hsl hsv;cases rb with
 | false =>
  simp only [Bool.false_and,Bool.false_eq_true,if_false];rw [hz];refine zae rfl rfl ?_;simp [-getElem?_pos,zkj,zkk,e1,e2,e3,r1]
 | true =>
 cases gb with
 | false =>
  simp only [Bool.and_false,Bool.false_eq_true,if_false];rw [hz];refine zae rfl rfl ?_;simp [-getElem?_pos,zkj,zkk,e1,e2,e3,r1,g1]
 | true =>
 cases sb with
 | false =>
  simp only [Bool.and_true,if_true,Bool.false_eq_true,if_false];rw [hz];refine zae rfl rfl ?_;simp [-getElem?_pos,zkj,zkk,e1,e2,e3,r1,g1,s1]
 | true =>
 simp only [Bool.and_true,if_true];have hev:=yt4 (t:=tr) (by omega) (hsv rfl);have hlr:s.sm.length=t.rw.length:=by have:=hrl.2 rfl; omega
 have hts:=z9g s.ts tr;have hrt:zag 24 (s.ts.length+1)=true:=by have:=hs.ts; simp [zag]; omega
 have hr24:zag 24 1=true:=by decide
 clear hsv hgv;refine zae rfl rfl ?_;simp [-getElem?_pos,zkj,zkk,e1,e2,e3,r1,g1,s1,t1,hts,hrt];refine zao (fun n st => ∃ (i:Nat) (m:List Int) (x:PV),i+n=s.sm.length/\m.length=i/\zcw tr s.sm t.rw=(zcw tr (s.sm.drop i) (t.rw.drop i)).map (m ++ ·)/\st.V 4 = .ptr 0 none 0 0 0/\st.V 70 = .sl 1 (zab s.sm)/\st.V 71=iv s.sm.length/\st.V 8 = .ptr 4 none 0 0 0/\st.V 13 = .ptr 11 none 0 0 0/\st.V 14 = .ptr 15 none 0 0 0/\st.V 72=iv i/\st.ep=0/\15<st.nx/\LC st.S st.nx 15 m x/\st.S 0=some (.box [.sl 1 (za6 t.ns),.v (.string t.nm),.sl 1 (rws p t.rw),.sl 1 (zab t.lb)])/\st.S 4=some (.box [.e0,.e0])/\st.S 10=some (.shadow 5 (tr.map nd) 0)/\st.S 11=some (.box [.ref 10 none 0 0 tr.length])/\st.S 14=some (.row 1 (trs true (s.ts++[tr])))/\st.S 15=some (.box [x,.ref 14 none 0 0 (s.ts.length+1)])) ?_ s.sm.length _ ⟨0,[],.e0,by omega,rfl,by simp,by simp,by simp,by simp,by simp,by simp,by simp,by simp,by simp,by simp,.inl ⟨rfl,rfl⟩,by simp⟩;rintro n st ⟨i,m,x,hi,hm,hE,v4,v70,v71,v8,v13,v14,v72,hep,hnx,hx,hS0,hS4,hS10,hS11,hS14,hS15⟩;have z0:=fr (show 0<st.nx by omega);have z3:=fr (show 3<st.nx by omega);have z4:=fr (show 4<st.nx by omega);have z10:=fr (show 10<st.nx by omega);have z11:=fr (show 11<st.nx by omega);have z14:=fr (show 14<st.nx by omega);have z15:=fr hnx;have n14 : ¬ st.nx=14:=by omega
 by_cases h:i<s.sm.length
 ·obtain ⟨y,hy⟩ : ∃ x,s.sm[i]?=some x:=⟨_,bG h⟩;obtain ⟨w,hw⟩ : ∃ x,t.rw[i]?=some x:=⟨_,bG (by omega)⟩;have hy':=zay hy;have hw':=zc3 (q:=p) hw;have hir:i<t.rw.length:=by omega
  have hwS:=wS h (by omega:s.sm.length<=9223372036854775807);have v1:=y7c tr w (by omega) (ht.rr w (bF hw));have hei:=hev w;have a1:=yao y (evt tr w) (hsi y (bF hy)) (by unfold inR at hei; unfold inI; omega);rw [ypj hy hw] at hE;generalize evt tr w=ew at *;generalize adi y ew=QQ at *;obtain ⟨ad,ab⟩:=QQ;simp only at a1 hE;cases ab with
  | false =>
   have hA:zh8 t tr s=(noS,false):=by unfold zh8; rw [hE]; rfl
   rw [hA,hz];simp [-getElem?_pos,ztu,v4,v70,v71,v8,v13,v72,hep,hS0,hS4,hS10,hS11,h,hy',hw',v1,a1]
  | true =>
   rw [if_pos rfl] at hE;have hE2:zcw tr s.sm t.rw=(zcw tr (s.sm.drop (i+1)) (t.rw.drop (i+1))).map ((m++[ad]) ++ ·):=by
    rw [hE,Option.map_map]; congr 1; funext l; simp
   have hr8:zag 8 1=true:=by decide
   have hr8':=zbx (n:=m.length+1) (by omega);have hsn:=zbn m ad;rcases hx with ⟨rfl,rfl⟩ | ⟨o,e,rfl,ho,hox,hSo⟩
   ·simp [-getElem?_pos,ztu,v4,v70,v71,v13,v14,v72,hep,hS0,hS10,hS11,hS15,h,hy',hw',v1,a1,hwS,hr8,z15];exact zai (n-1) (by omega) ⟨i+1,[ad],.ref (st.nx+1) none 0 0 1,by omega,by simp at hm; simp; omega,by simpa using hE2,by simp [v4],by simp [v70],by simp [v71],by simp [v8],by simp [v13],by simp [v14],by simp,by simp,by simp; omega,.inr ⟨st.nx+1,0,by simp,by omega,by simp [zab,n14]⟩,by simp [z0,hS0,z4,hS4,z10,hS10,z11,hS11,z14,hS14]⟩
   ·have y1:=fr hox;have y2:=fr (show 0<o by omega);have y3:=fr (show 3<o by omega);have y4:=fr (show 4<o by omega);have y5:=fr (show 10<o by omega);have y6:=fr (show 11<o by omega);have y7:=fr (show 14<o by omega);have y8:=fr ho;simp [-getElem?_pos,ztu,v4,v70,v71,v13,v14,v72,hep,hS0,hS10,hS11,hS15,hSo,h,hy',hw',v1,a1,hwS,hr8',hsn,z15,y1,y8];exact zai (n-1) (by omega) ⟨i+1,m++[ad],.ref (st.nx+1) none 0 0 (m.length+1),by omega,by simp [hm],hE2,by simp [v4],by simp [v70],by simp [v71],by simp [v8],by simp [v13],by simp [v14],by simp,by simp,by simp; omega,.inr ⟨st.nx+1,0,by simp,by omega,by simp [n14]⟩,by simp [z0,y2,hS0,z4,y4,hS4,z10,y5,hS10,z11,y6,hS11,z14,y7,hS14]⟩
 ·have hA:zh8 t tr s=(⟨m,s.ts++[tr]⟩,true):=by
   unfold zh8;rw [hE,bN (by omega),bN (by omega)];simp [zcw]
  rw [hA];rcases hx with ⟨rfl,rfl⟩ | ⟨o,e,rfl,ho,hox,hSo⟩
  ·simp [-getElem?_pos,ztu,v71,v8,v14,v72,hep,hS4,hS14,hS15,h]
  ·have y4:=fr (show 4<o by omega);have y7:=fr (show 14<o by omega);have y8:=fr ho;simp [-getElem?_pos,ztu,v71,v8,v14,v72,hep,hS4,hS14,hS15,hSo,h,y4,y7]
structure BI (t:Ta) (n:Nat) (s:Sta):Prop where
 st:StI t n s
 tl : ∀ x∈s.ts,x.length<=32
 sum : ∀ (i:Nat) (p:Int) (r:List Int),s.sm[i]?=some p->t.rw[i]?=some r->yqu r s.ts (zdc t.lb).1=p
theorem BI.new {t:Ta} (h:zcv t=true):BI t 0 (zh7 t).1:=by
 refine ⟨StI.new h,?_,fun i p r hp hr => ?_⟩
 ·unfold zh7; rw [if_pos h]; intro x hx; cases hx
 ·unfold zh7 at hp ⊢;rw [if_pos h] at hp ⊢;exact ((List.mem_replicate.mp (bF hp)).2).symm
theorem yez {tr:List Nd} : ∀ {ps:List Int} {rs:List (List Int)} {q:List Int},zcw tr ps rs=some q->q.length<=ps.length
 | [],rs,q,h=>by simp [zcw] at h; subst h; simp
 | p::ps,[],q,h=>by simp [zcw] at h; subst h; simp
 | p::ps,r::rs,q,h=>by
  rw [zcw] at h;split at h
  ·simp only [bB] at h;obtain ⟨q',h2,rfl⟩:=h;have:=yez h2;simp only [List.length_cons]; omega
  ·cases h
theorem yer {t:Ta} {c v:List (List Int)} {cfg:Cfg} {s:Sta}:(zhc t c v cfg s).1.length<=32:=by
 unfold zhc;split
 ·exact bJ (ydz _ _) (ycx _ _ _ _)
 ·simp
def PTb (v:PV):Prop := ∃ t:Ta,v=taO t/\TaL 128 t/\∀ x∈t.lb,inI x
theorem ypz {t:Ta} (h:zcv t=true) : ∀ y∈t.lb,inI y:=by
 unfold zcv at h;simp only [Bool.and_eq_true,List.all_eq_true] at h;intro y hy;have:=zar.mp (h.1.2 y hy);unfold inI;omega
theorem qac (B:List Int) (p:Nat) (s:Int) (hp:p<=B.length) (hB:B.length<=9223372036854775807) : ∃ r,RUN T zrm [.bx [.sl 1 (zbl B),iv p,iv s]]=some r/\zf0 B PTb r:=by
 refine ze0 rfl rfl ?_;obtain ⟨r1,h1,v1,p1,s1,⟨t,rfl,ht,hok⟩,hp1,rfl⟩:=ya9 B p s hp hB;obtain ⟨t1,t2,t3,t4,t5,t6⟩:=zk9 hok;have hlI:=ypz hok;clear hok;obtain ⟨ns,nm,rw,lb⟩:=t;have c1:=ht.ns;have c2:=ht.ss;have c3:=ht.nm;have c4:=ht.rw;have c5:=ht.rr;have c6:=ht.lb;simp only at t1 t2 t3 t4 t5 t6 hlI c1 c2 c3 c4 c5 c6;clear ht;simp only [taO] at h1;obtain ⟨r2,h2,v2,p2,s2,⟨a2,rfl,a20,a21⟩,hp2,rfl⟩:=zba B p1 s1 hp1 hB rw.length (by omega);have a22:=a21 (by omega);obtain ⟨f,rfl⟩ : ∃ f:Nat,a2=f:=⟨a2.toNat,by omega⟩;obtain ⟨r3,h3,v3,p3,s3,⟨d,rfl,d0,d1⟩,hp3,rfl⟩:=zba B p2 s2 hp2 hB 14 (by omega);have hf:f<rw.length:=by omega
 have hfy:f<lb.length:=by omega
 obtain ⟨l,hl⟩ : ∃ l,rw[f]?=some l:=⟨_,bG hf⟩;have hln:=t6 l (bF hl);have hl':=zc3 (q:=true) hl;simp only [cel,if_true] at hl';have hr1:zag 8 1=true:=by decide
 have hr0:zag 8 0=true:=by decide
 have hr3:zag 8 3=true:=by decide
 have hr7:zag 16 7=true:=by decide
 have hr13:zag 16 3=true:=by decide
 have hrl:=zbx (n:=l.length+1) (by omega);have hrb:=zbx (n:=lb.length+1) (by omega);have mk : ∀ {ns:List ByteArray} {nm:ByteArray} {rw:List (List Int)} {lb:List Int},ns.length<=128->(∀ x∈ns,x.size<=128)->nm.size<=128->rw.length<=128->(∀ l∈rw,l.length<=128)->lb.length<=128->(∀ x∈lb,inI x)->PTb (taO ⟨ns,nm,rw,lb⟩):=fun a b c d e f g=>⟨_,rfl,⟨a,b,c,d,e,f⟩,g⟩;have nsA : ∀ x∈ns,x.size<=128:=fun x hx=>bJ (c2 x hx) (by omega);have rwA : ∀ l∈rw,l.length<=128:=fun l hl=>bJ (c5 l hl) (by omega)
 by_cases e0:d=0
 ·subst e0;obtain ⟨x0,hx0⟩ : ∃ x,ns[0]?=some x:=⟨_,bG (by omega)⟩;have hx0':=zu4 hx0;have hn0:0<ns.length:=by omega
  obtain ⟨r4,h4,y,p4,s4,hy,hp4,rfl⟩:=yl9 B p3 s3 hp3 hB [bs [],bs [65],bs [49,97],bs [121],bs [97,98,99,100,101,102,103,104,105,106,107,108],bs [97,98,99,100,101,102,103,104,105,106,107,108,109],bs [98]] (by simp);have hys:y.size<=128:=by
   simp only [List.mem_cons,List.not_mem_nil,or_false] at hy;rcases hy with rfl | rfl | rfl | rfl | rfl | rfl | rfl <;> decide
  simp only [za6,List.map] at h4;have hset:=qc4 ns 0 y;simp [-getElem?_pos,zhr,zmq,h1,h2,h3,h4,hx0',hset,hn0];exact ⟨_,p4,s4,mk (by simp; omega) (zjw nsA hys) (by omega) (by omega) rwA (by omega) hlI,hp4,rfl⟩
 by_cases e1:d=1
 ·subst e1;obtain ⟨r4,h4,y,p4,s4,hy,hp4,rfl⟩:=yl9 B p3 s3 hp3 hB [bs [],bs [97],bs [121,45]] (by simp);have hys:y.size<=128:=by
   simp only [List.mem_cons,List.not_mem_nil,or_false] at hy;rcases hy with rfl | rfl | rfl <;> decide
  simp only [za6,List.map] at h4;simp [-getElem?_pos,zhr,zmq,h1,h2,h3,h4];exact ⟨_,p4,s4,mk (by omega) nsA hys (by omega) rwA (by omega) hlI,hp4,rfl⟩
 by_cases e2:d=2
 ·subst e2;have hsn:=zbn l 0;have hset:=zpi rw f (l++[0]);simp [-getElem?_pos,zhr,zmq,zbe,zb4,h1,h2,h3,hf,hl',hrl,hsn,hset];exact ⟨_,p3,s3,mk (by omega) nsA (by omega) (by simp; omega) (zjw rwA (by simp; omega)) (by omega) hlI,hp3,rfl⟩
 by_cases e3:d=3
 ·subst e3;obtain ⟨r4,h4,v4,p4,s4,⟨x,rfl,hx⟩,hp4,rfl⟩:=zf2 B p3 s3 hp3 hB [2147483647,2147483648,-2147483648] (by simp);simp only [zab,List.map] at h4;obtain ⟨y,hy⟩ : ∃ y,l[0]?=some y:=⟨_,bG (by omega)⟩;have hy':=zay hy;have hu0:0<l.length:=by omega
  have hset0:=z7v l 0 x;have hset:=zpi rw f (l.set 0 x);simp [-getElem?_pos,zhr,zmq,zbe,zb4,h1,h2,h3,h4,hf,hl',hy',hu0,hset0,hset];exact ⟨_,p4,s4,mk (by omega) nsA (by omega) (by simp; omega) (zjw rwA (by simp; omega)) (by omega) hlI,hp4,rfl⟩
 by_cases e4:d=4
 ·subst e4;obtain ⟨r4,h4,v4,p4,s4,⟨x,rfl,hx⟩,hp4,rfl⟩:=ylz B p3 s3 hp3 hB;obtain ⟨y,hy⟩ : ∃ y,lb[f]?=some y:=⟨_,bG hfy⟩;have hy':=zay hy;have hset:=z7v lb f x;simp [-getElem?_pos,zhr,zmq,h1,h2,h3,h4,hfy,hy',hset];exact ⟨_,p4,s4,mk (by omega) nsA (by omega) (by omega) rwA (by simp; omega) (zjw hlI hx),hp4,rfl⟩
 by_cases e5:d=5
 ·subst e5;have hsn:=zbn lb 1;simp [-getElem?_pos,zhr,zmq,h1,h2,h3,hrb,hsn];exact ⟨_,p3,s3,mk (by omega) nsA (by omega) (by omega) rwA (by simp; omega) (zp4 hlI (by unfold inI; omega)),hp3,rfl⟩
 by_cases e6:d=6
 ·subst e6;have hset:=zpi rw f [];simp only [zab,List.map] at hset;simp [-getElem?_pos,zhr,zmq,h1,h2,h3,hf,hl',hset];exact ⟨_,p3,s3,mk (by omega) nsA (by omega) (by simp; omega) (zjw rwA (by simp)) (by omega) hlI,hp3,rfl⟩
 by_cases e7:d=7
 ·subst e7;simp [-getElem?_pos,zhr,zmq,h1,h2,h3];refine zao (fun n st => ∃ (p o1 o2 a1 a2:Nat) (s:Int) (L:List (List Int)) (Y:List Int),L.length+n=50/\1<=L.length/\L.length<=41/\(∀ l∈L,l.length<=64)/\Y.length<=64+L.length/\(∀ x∈Y,inI x)/\p<=B.length/\st.V 0 = .ptr 0 none 0 0 0/\st.V 2 = .ptr 1 none 0 0 0/\st.V 3 = .ptr 5 none 0 0 0/\2<o1/\o1≠5/\o1<st.nx/\2<o2/\o2≠5/\o2<st.nx/\o1≠o2/\5<st.nx/\st.S 0=some (.box [.sl 1 (zbl B),iv p,iv s])/\st.S 1=some (.box [.e0,.v (.string (bs [])),.e0,.e0])/\st.S 2=some (.row 1 (za6 ns))/\st.S o1=some (.row 1 (rws true L))/\st.S o2=some (.row 1 (zab Y))/\st.S 5=some (.box [.ref 2 none 0 0 ns.length,.v (.string nm),.ref o1 none a1 0 L.length,.ref o2 none a2 0 Y.length])) ?_ (50-rw.length) _ ⟨p3,3,4,0,0,s3,rw,lb,by omega,by omega,by omega,c5,by omega,hlI,hp3,by simp,by simp,by simp,by omega,by omega,by simp,by omega,by omega,by simp,by omega,by simp⟩;clear h1 h2 h3 hp1 hp2 hp3 hp e0 e1 e2 e3 e4 e5 e6 hl' hln hl hf hfy a20 a21 a22 d0 d1 hrl hrb;rintro n st ⟨p,o1,o2,a1,a2,s,L,Y,hi,hL1,hL,hLl,hY,hYi,hp,v0,v2,v3,ho1,ho15,ho1x,ho2,ho25,ho2x,ho12,hnx,hS0,hS1,hS2,hSo1,hSo2,hS5⟩;obtain ⟨r1,h1,v1,p1,s1,⟨b,rfl,b0,b1⟩,hp1,rfl⟩:=zba B p s hp hB 2 (by omega);have b2:=b1 (by omega);have w1:=w64 (x:=40+b) (by omega) (by omega);have z0:=fr (show 0<st.nx by omega);have z1:=fr (show 1<st.nx by omega);have z2:=fr (show 2<st.nx by omega);have z5:=fr hnx;have y1:=fr ho1x;have y2:=fr ho2x;have u:(o1=5)=False/\(5=o1)=False/\(o2=5)=False/\(5=o2)=False/\(o1=o2)=False/\(o2=o1)=False/\(o1=0)=False/\(0=o1)=False/\(o2=0)=False/\(0=o2)=False/\(o1=1)=False/\(1=o1)=False/\(o2=1)=False/\(1=o2)=False/\(o1=2)=False/\(2=o1)=False/\(o2=2)=False/\(2=o2)=False:=by
   refine ⟨?_,?_,?_,?_,?_,?_,?_,?_,?_,?_,?_,?_,?_,?_,?_,?_,?_,?_⟩ <;> exact bK (by omega)
  by_cases h:(L.length:Int)<40+b
  ·obtain ⟨l,hl⟩ : ∃ l,L[0]?=some l:=⟨_,bG (by omega)⟩;have hl':=zc3 (q:=true) hl;simp only [cel,if_true] at hl';have hl64:=hLl l (bF hl);have hrl:=zbx (n:=l.length) (by omega);have hrw:zag 24 (L.length+1)=true:=by simp [zag]; omega
   have hr24:zag 24 1=true:=by decide
   have hry:=zbx (n:=Y.length+1) (by omega);have hsn:=zm7 L l;have hsy:=zbn Y 0;have hL0:0<L.length:=by omega
   have nz : ¬ st.nx=0:=by omega
   have n53 : ¬ st.nx+3=o2/\¬ st.nx+3=5/\¬ st.nx+5=5/\¬ st.nx=2:=⟨by omega,by omega,by omega,by omega⟩;have na : ∀ a b:Nat,st.nx+a+b=st.nx+(a+b):=fun a b=>Nat.add_assoc _ _ _;simp [-getElem?_pos,z93,zbe,v0,v3,hS0,hSo1,hSo2,hS5,h1,w1,h,hl',hrl,hrw,hry,hsn,hsy,hL0,z0,z5,y1,y2,u,ym0,na];exact zai (n-1) (by omega) ⟨p1,st.nx+3,st.nx+5,st.ep,st.ep,s1,L++[l],Y++[0],by simp; omega,by simp,by simp; omega,zp4 hLl hl64,by simp; omega,zp4 hYi (by unfold inI; omega),hp1,by simp [v0],by simp [v2],by simp [v3],by omega,by omega,by simp,by omega,by omega,by simp,by omega,by first | (simp; done) | (simp; omega),by simp [z0,u,z1,hS1,z2,hS2,y2,z5]⟩
  ·simp [-getElem?_pos,z93,v0,v2,v3,hS0,hS1,hS2,hSo1,hSo2,hS5,h1,w1,h,u,show 1<=o1 by omega,show 1<=o2 by omega];exact ⟨_,p1,s1,mk (by omega) nsA (by omega) (by omega) (fun l hl=>bJ (hLl l hl) (by omega)) (by omega) hYi,hp1,rfl⟩
 ·simp [-getElem?_pos,zhr,zmq,h1,h2,h3,e0,e1,e2,e3,e4,e5,e6,e7];exact ⟨_,p3,s3,mk (by omega) nsA (by omega) (by omega) rwA (by omega) hlI,hp3,rfl⟩
theorem qad (B:List Int) (hB:B.length<=9223372036854775807) : ∃ (t:Ta) (c:Cfg) (p:Nat) (s:Int),TaL 128 t/\(∀ x∈t.lb,inI x)/\c.sg.length<=64/\p<=B.length/\RUN T zqq [.sl 1 (zbl B)]=some ([.bx [.sl 1 (zbl B),iv p,iv s],taO t,zhx c],[]):=by
 obtain ⟨r,h,s,rfl⟩:=y7o B hB;simp only [Int.natCast_zero] at h;obtain ⟨r1,h1,v1,p1,s1,⟨t,rfl,ht,hok⟩,hp1,rfl⟩:=ya9 B 0 s (by omega) hB;simp only [Int.natCast_zero] at h1;have hlI:=ypz hok;have ht':TaL 128 t:=⟨bJ ht.ns (by omega),fun x hx=>bJ (ht.ss x hx) (by omega),bJ ht.nm (by omega),bJ ht.rw (by omega),fun x hx=>bJ (ht.rr x hx) (by omega),bJ ht.lb (by omega)⟩;obtain ⟨r2,h2,v2,p2,s2,⟨c,rfl,hc⟩,hp2,rfl⟩:=yl0 B p1 s1 hp1 hB;obtain ⟨r3,h3,v3,p3,s3,⟨b3,rfl⟩,hp3,rfl⟩:=zg6 B p2 s2 hp2 hB 16 (by omega);simp only [taO,zhx] at h1 h2;cases b3 with
 | false =>
  obtain ⟨r5,h5,v5,p5,s5,⟨b5,rfl⟩,hp5,rfl⟩:=zg6 B p3 s3 hp3 hB 16 (by omega);cases b5 with
  | false =>
   refine ⟨t,c,p5,s5,ht',hlI,by omega,hp5,zae rfl rfl ?_⟩;simp [-getElem?_pos,zot,zou,h,h1,h2,h3,h5]
  | true =>
   obtain ⟨r6,h6,v6,p6,s6,⟨c',rfl,hc'⟩,hp6,rfl⟩:=yl1 B p5 s5 hp5 hB;simp only [zhx] at h6;refine ⟨t,c',p6,s6,ht',hlI,hc',hp6,zae rfl rfl ?_⟩;simp [-getElem?_pos,zot,zou,h,h1,h2,h3,h5,h6]
 | true =>
  obtain ⟨r4,h4,v4,p4,s4,⟨t',rfl,ht2,hl2⟩,hp4,rfl⟩:=qac B p3 s3 hp3 hB;obtain ⟨r5,h5,v5,p5,s5,⟨b5,rfl⟩,hp5,rfl⟩:=zg6 B p4 s4 hp4 hB 16 (by omega);simp only [taO] at h4;cases b5 with
  | false =>
   refine ⟨t',c,p5,s5,ht2,hl2,by omega,hp5,zae rfl rfl ?_⟩;simp [-getElem?_pos,zot,zou,h,h1,h2,h3,h4,h5]
  | true =>
   obtain ⟨r6,h6,v6,p6,s6,⟨c',rfl,hc'⟩,hp6,rfl⟩:=yl1 B p5 s5 hp5 hB;simp only [zhx] at h6;refine ⟨t',c',p6,s6,ht2,hl2,hc',hp6,zae rfl rfl ?_⟩;simp [-getElem?_pos,zot,zou,h,h1,h2,h3,h4,h5,h6]
theorem z8m {F:Int} {r:List Nd} : ∀ (l:List Nd) (i n m:Int),shp F l i n=some m->shp F (l++r) i n=shp F r (i+l.length) m
 | [],i,n,m,h=>by simp [shp] at h; subst h; simp
 | x::l,i,n,m,h=>by
  have e:i+((x::l).length:Int)=i+1+l.length:=by simp only [List.length_cons]; omega
  rw [e];rw [shp] at h;rw [List.cons_append,shp];split at h
  ·rename_i h1;rw [if_pos h1];split at h
   ·rename_i h2; rw [if_pos h2]; exact z8m l _ _ _ h
   ·cases h
  ·rename_i h1;rw [if_neg h1];split at h
   ·rename_i h2; rw [if_pos h2]; exact z8m l _ _ _ h
   ·cases h
theorem yty {c v:List (List Int)} (h:zdb c v=true) {f:Nat} {x:List Int} (hx:c[f]?=some x):zff x=true:=by
 have hf:=(bD hx).1;obtain ⟨hl,_⟩:=zy9 h;obtain ⟨y,hy⟩ : ∃ y,v[f]?=some y:=⟨_,bG (by omega)⟩;unfold zdb at h;simp only [Bool.and_eq_true,List.all_eq_true,List.mem_range] at h;have:=h.2 f hf;rw [yc7 hx hy] at this;simp only [Bool.and_eq_true] at this;exact this.1.1
theorem ys3 {l:List Int} (h:zff l=true) {a b:Int} {i:Nat} (ha:l[i]?=some a) : ∀ {j:Nat},i<j->l[j]?=some b->a<b:=by
 have step : ∀ (i:Nat) (a b:Int),l[i]?=some a->l[i+1]?=some b->a<b:=by
  intro i a b h1 h2;unfold zff at h;simp only [Bool.and_eq_true,Bool.not_eq_true'] at h;refine Int.lt_of_not_ge fun hge => ?_;have:=z84 (p:=fun a b=>decide (b<=a)).mpr ⟨i,a,b,h1,h2,decide_eq_true hge⟩;rw [h.1.1] at this; cases this
 intro j hij
 induction j generalizing b with
 | zero=>omega
 | succ j ih =>
  intro hb
  by_cases e:i=j
  ·subst e; exact step i a b ha hb
  ·have hj:=(bD hb).1;obtain ⟨x,hx⟩ : ∃ x,l[j]?=some x:=⟨_,bG (by omega)⟩;exact Int.lt_trans (ih (by omega) hx) (step j x b hx hb)
theorem ysc {c v:List (List Int)} {g:List Int} {cfg:Cfg} {rows:List Int} {b:Bd} (h:(zaw c v g cfg rows b).2=true) : ∃ (f k:Nat) (x y:List Int) (z:Int),(zaw c v g cfg rows b).1.f=f/\(zaw c v g cfg rows b).1.b=k/\c[f]?=some x/\v[f]?=some y/\x[k]?=some z/\(∃ r∈rows,zgv y k r=true)/\∃ r∈rows,zj0 y k r=true:=by
 obtain ⟨f,k,x,y,z,h1,h2,h3,h4,h5,_⟩:=z8u h;obtain ⟨f',k',y',e1,e2,e3,e4,e5⟩:=ytk h;have hm:=(qh8 h).1;obtain rfl:f'=f:=by omega
 obtain rfl:k'=k:=by omega
 rw [h4] at e3; cases e3;unfold zdm at hm;simp only [Bool.and_eq_true,decide_eq_true_eq] at hm;obtain ⟨hc,_,m1,m2,_⟩:=hm;obtain ⟨_,_,_,_,hw,_⟩:=zuz hc;rw [<- e4] at m1;rw [<- e5] at m2;have q1:(zd6 g (zcc y rows k')).n=(zcc y rows k').length:=rfl;have q2:(zd6 g (zdk y rows k')).n=(zdk y rows k').length:=rfl;have hw1:=hw.1;refine ⟨f',k',x,y,z,h1,h2,h3,h4,h5,?_,?_⟩
 ·cases e:zcc y rows k' with
  | nil=>rw [e] at q1 m1; rw [q1] at m1; simp at m1; omega
  | cons r rs =>
   have:r∈zcc y rows k':=by rw [e]; simp
   exact ⟨r,List.mem_filter.mp this⟩
 ·cases e:zdk y rows k' with
  | nil=>rw [e] at q2 m2; rw [q2] at m2; simp at m2; omega
  | cons r rs =>
   have:r∈zdk y rows k':=by rw [e]; simp
   exact ⟨r,List.mem_filter.mp this⟩
theorem yei {c v:List (List Int)} {g:List Int} {cfg:Cfg} (hg:zdb c v=true) : ∀ (n:Nat) (q:List Pnd) (i:Nat) (out:List Nd),(∀ x∈q,okP g cfg x)->i<=q.length->out.length=i->zd0 cfg.de (q.drop i)<=n->shp c.length out 0 1=some (q.length:Int)->shp c.length (zby c v g cfg n q i out) 0 1=some ((zby c v g cfg n q i out).length:Int)/\(zby c v g cfg n q i out).length<=i+zd0 cfg.de (q.drop i)
 | 0,q,i,out,hq,hi,ho,hp,hs=>by
  have:q.length<=i:=by
   cases hx:q[i]? with
   | none=>exact List.getElem?_eq_none_iff.mp hx
   | some x =>
    rw [zcr hx,zgu] at hp;have:=zyl (d:=cfg.de) (hq x (bF hx)).1.2.2.2;omega
  simp only [zby];exact ⟨by rw [hs]; congr 1; omega,by omega⟩
 | n+1,q,i,out,hq,hi,ho,hp,hs=>by
  cases hx:q[i]? with
  | none =>
   have:q.length<=i:=List.getElem?_eq_none_iff.mp hx;rw [zby,hx];simp only;exact ⟨by rw [hs]; congr 1; omega,by omega⟩
  | some x =>
   have hxo:=hq x (bF hx);have hlt:=(bD hx).1;rw [zcr hx,zgu] at hp ⊢;have hpos:=zyl (d:=cfg.de) (x:=x) hxo.1.2.2.2;cases hgo:goes c v g cfg x with
   | false =>
    rw [ydc hx hgo];have hl:=yce (zd6 g x.r) cfg.la x.b;have hs2:shp c.length (out++[zcy g cfg x]) 0 1=some (q.length:Int):=by
     rw [z8m out 0 1 _ hs,shp];have:zda (zcy g cfg x).v=true:=zar.mpr hl;rw [if_pos (show (zcy g cfg x).f = -1 from rfl),if_pos ⟨⟨rfl,rfl,rfl⟩,this⟩,shp]
    obtain ⟨k1,k2⟩:=yei hg n q (i+1) (out++[zcy g cfg x]) hq (by omega) (by simp [ho]) (by omega) hs2;exact ⟨k1,by omega⟩
   | true =>
    obtain ⟨h1,h2⟩:=z8z hgo;have hk:=ybi (y:=ze4 c v cfg x (zaw c v g cfg x.r x.b).1) (z:=zew c v cfg x (zaw c v g cfg x.r x.b).1) h1 rfl rfl;obtain ⟨ok1,ok2⟩:=hxo.kid (c:=c) (v:=v) h1 (zaw c v g cfg x.r x.b).1;rw [yco hx hgo];obtain ⟨f,k,a,y,z,e1,e2,e3,e4,e5,_⟩:=z8u h2;have hf:=(bD e3).1;have hca:=yty hg e3;unfold zff at hca;simp only [Bool.and_eq_true,List.all_eq_true] at hca;have hz:=hca.1.2 z (bF e5);have hcut:zfq c (zaw c v g cfg x.r x.b).1 q.length=⟨f,z,q.length,(q.length:Int)+1,0⟩:=by
     unfold zfq;rw [e1,e2,zf7 e3,Option.getD_some,zf7 e5];rfl
    generalize hL:ze4 c v cfg x (zaw c v g cfg x.r x.b).1=KL at *;generalize hR:zew c v cfg x (zaw c v g cfg x.r x.b).1=KR at *;have hs2:shp c.length (out++[zfq c (zaw c v g cfg x.r x.b).1 q.length]) 0 1=some ((q++[KL,KR]).length:Int):=by
     rw [z8m out 0 1 _ hs,hcut,shp];have hw:zah (f:Int) 0 ((c.length:Int)-1)=true:=zar.mpr (by omega);rw [if_neg (by simp only; omega),if_pos ⟨hw,hz,rfl,rfl,rfl,by omega⟩,shp];simp
    obtain ⟨k1,k2⟩:=yei hg n (q++[KL,KR]) (i+1) _ (fun y hy=>by
     rcases bM hy with h | h
     ·exact hq y h
     ·simp only [List.mem_cons,List.not_mem_nil,or_false] at h;rcases h with rfl | rfl
      ·exact ok1
      ·exact ok2) (by simp; omega) (by simp [ho]) (by
     rw [List.drop_append_of_le_length (by omega),z72,zgu,zgu];simp only [zd0,List.map_nil,List.sum_nil];simp only [zd0] at hp;omega) hs2
    refine ⟨k1,bJ k2 ?_⟩;rw [List.drop_append_of_le_length (by omega),z72,zgu,zgu];simp only [zd0,List.map_nil,List.sum_nil];omega
theorem yb2 {c v:List (List Int)} {g:List Int} {cfg:Cfg} (hg:zdb c v=true) {t:List Nd} {F:Int} (hs:Shaped t F) {Q:List Pnd} (hl:t.length=Q.length) (hS : ∀ j,j<Q.length->Str c v g cfg Q t j) {x:Nd} {X:Pnd} {m:Nat} (hx:x=zfq c (zaw c v g cfg X.r X.b).1 m) (hX:(zaw c v g cfg X.r X.b).2=true) : ∀ (xs:List Int) (a:Nat) (Y:Pnd),Q[a]?=some Y->(∀ r∈X.r,r∈Y.r)->Chn t xs (par t a)->adj (fun a b=>zg1 t x b a) ((a:Int)::xs)=false
 | [],a,Y,_,_,_=>rfl
 | y::ys,a,Y,hY,hr,hc=>by
  obtain ⟨rfl,h0,hc⟩:=hc;rcases hs.par_lt a with h | ⟨i,z,hi,hz,hzf,hza,h1,h2⟩
  ·omega
  rw [hi] at hc ⊢;have hil:=(bD hz).1;obtain ⟨Z,L,k1,k2,k3,k4⟩:=hS i (by omega);rw [hz] at k3;have hgo:goes c v g cfg Z=true:=by
   cases e:goes c v g cfg Z with
   | true=>rfl
   | false =>
    rw [e] at k3;simp only [Bool.false_eq_true,if_false,bC] at k3;rw [k3] at hzf;exact absurd rfl hzf
  rw [if_pos hgo] at k3;cases k3;obtain ⟨_,kL,kR⟩:=k4 hgo;obtain ⟨f,k,u,w,q,e1,e2,e3,e4,e5,_,_⟩:=ysc (z8z hgo).2;obtain ⟨f',k',u',w',q',d1,d2,d3,d4,d5,⟨r1,m1,s1⟩,r2,m2,s2⟩:=ysc hX;have hN:zfq c (zaw c v g cfg Z.r Z.b).1 L=⟨f,q,L,(L:Int)+1,0⟩:=by
   unfold zfq;rw [e1,e2,zf7 e3,Option.getD_some,zf7 e5];rfl
  have hM:x=⟨f',q',m,(m:Int)+1,0⟩:=by
   rw [hx];unfold zfq;rw [d1,d2,zf7 d3,Option.getD_some,zf7 d5];rfl
  have vL:(ze4 c v cfg Z (zaw c v g cfg Z.r Z.b).1).r=zcc w Z.r k:=by
   unfold ze4;rw [e1,e2,zf7 e4];rfl
  have vR:(zew c v cfg Z (zaw c v g cfg Z.r Z.b).1).r=zdk w Z.r k:=by
   unfold zew;rw [e1,e2,zf7 e4];rfl
  rw [hN] at hz hza;simp only at hza;rw [adj,yq7 hz,hM];simp only;have same:f=f'->u=u'/\w=w':=by
   rintro rfl;rw [e3] at d3; rw [e4] at d4;cases d3; cases d4;exact ⟨rfl,rfl⟩
  have hcu:=yty hg e3;rcases hza with ha | ha
  ·obtain rfl:a=L:=by omega
   rw [kL] at hY;cases hY;rw [vL] at hr;have ih:=yb2 hg hs hl hS hx hX ys i Z k1 (fun r h=>z9v.1 (hr r h)) hc;rw [hM] at ih;rw [ih,Bool.or_false];rw [decide_eq_false (show ¬ (a:Int)+1=a by omega),Bool.false_and,Bool.false_or]
   by_cases ff:f=f'
   ·obtain ⟨rfl,rfl⟩:=same ff;have hb:=(List.mem_filter.mp (hr r2 m2)).2;unfold zgv at hb;unfold zj0 at s2;cases e:atI w r2 with
    | none=>rw [e] at hb; cases hb
    | some p =>
     rw [e] at hb s2;simp only [decide_eq_true_eq,Bool.not_eq_true',decide_eq_false_iff_not] at hb s2;have:=ys3 hcu d5 (show k'<k by omega) e5;rw [decide_eq_false (show ¬ q<=q' by omega)];simp
   ·rw [decide_eq_false (show ¬ (f:Int)=f' by omega)]; rfl
  ·obtain rfl:a=L+1:=by omega
   rw [kR] at hY;cases hY;rw [vR] at hr;have ih:=yb2 hg hs hl hS hx hX ys i Z k1 (fun r h=>z9v.2 (hr r h)) hc;rw [hM] at ih;rw [ih,Bool.or_false];rw [decide_eq_false (show ¬ (L:Int)=((L+1:Nat):Int) by omega),Bool.false_and,Bool.or_false]
   by_cases ff:f=f'
   ·obtain ⟨rfl,rfl⟩:=same ff;have hb:=(List.mem_filter.mp (hr r1 m1)).2;unfold zj0 at hb;unfold zgv at s1;cases e:atI w r1 with
    | none=>rw [e] at hb; cases hb
    | some p =>
     rw [e] at hb s1;simp only [decide_eq_true_eq,Bool.not_eq_true',decide_eq_false_iff_not] at hb s1;have:=ys3 hcu e5 (show k<k' by omega) d5;rw [decide_eq_false (show ¬ q'<=q by omega)];simp
   ·rw [decide_eq_false (show ¬ (f:Int)=f' by omega)]; rfl
theorem qen {c v:List (List Int)} {g:List Int} {cfg:Cfg} (h:ze9 c v g cfg=true):zhe (zb6 c v g cfg).1 c.length=true:=by
 obtain ⟨hg,hc,hgl,hgv⟩:=zmx h;obtain ⟨g1,g2⟩:=yeg hg;obtain ⟨_,hc4⟩:=zy9 hg;obtain ⟨_,⟨hd0,hd4⟩,_⟩:=zuz hc;have hroot:okP g cfg (zcn g):=by
  refine ⟨⟨fun r hr => ?_,?_,?_,?_⟩,show zd9 zjc=true from by unfold zd9 zjc zda zah; decide⟩
  ·unfold zcn at hr;simp only [List.mem_map,List.mem_range] at hr;obtain ⟨k,hk,rfl⟩:=hr;omega
  ·unfold zcn; simp
  ·exact Int.le_refl 0
  ·exact hd0
 have hpot:zd0 cfg.de [zcn g]<=31:=by
  obtain ⟨n,hn,hn4⟩ : ∃ n:Nat,cfg.de=n/\n<=4:=⟨cfg.de.toNat,by omega,by omega⟩;rw [hn];simp only [zd0,List.map_cons,List.map_nil,List.sum_cons,List.sum_nil,pot,zcn];have:(((n:Int)+1-0).toNat)=n+1:=by omega
  rw [this];have:=Nat.pow_le_pow_right (n:=2) (by omega) (show n+1<=5 by omega);omega
 unfold zb6;rw [if_pos h];show zhe (zby c v g cfg 32 [zcn g] 0 []) c.length=true;obtain ⟨R,r1,r2⟩:=yd0 (c:=c) (v:=v) (g:=g) (cfg:=cfg) 32 [zcn g] 0 [] (fun x hx=>by simp at hx; subst hx; exact hroot) (by simp) rfl (by simpa using (by omega:zd0 cfg.de [zcn g]<=32)) (fun j hj=>by omega);obtain ⟨s1,s2⟩:=yei (c:=c) (v:=v) (g:=g) (cfg:=cfg) hg 32 [zcn g] 0 [] (fun x hx=>by simp at hx; subst hx; exact hroot) (by simp) rfl (by simpa using (by omega:zd0 cfg.de [zcn g]<=32)) rfl;generalize zby c v g cfg 32 [zcn g] 0 []=t at *;generalize hQ:[zcn g]++R=Q at *;have hlen:t.length<=31:=by simp only [List.drop_zero] at s2; omega
 have hsh:zg3 t c.length=true:=by unfold zg3; rw [s1]; exact decide_eq_true rfl
 have hS:=z8r hsh;have hpos:=hS.pos;have lev : ∀ (n k:Nat) (X:Pnd),k<n->Q[k]?=some X->zfj t k<=X.l:=by
  intro n
  induction n with
  | zero=>intro k X hk; omega
  | succ n ih =>
   intro k X hk hX;have hkl:=(bD hX).1;obtain ⟨p1,p2,p3⟩:=hS.lev_par hlen (show k<t.length by omega);rcases hS.par_lt k with hp | ⟨i,z,hi,hz,hzf,hza,h1,h2⟩
   ·rw [p2 hp];obtain ⟨X',L,k1,k2,_⟩:=r2 k hkl;rw [hX] at k1; cases k1;exact k2.1.2.2.1
   ·rw [p3 (by omega),hi];have hil:=(bD hz).1;obtain ⟨Z,L,k1,k2,k3,k4⟩:=r2 i (by omega);have:=ih i Z (by omega) k1;rw [hz] at k3;cases hgo:goes c v g cfg Z with
    | false =>
     rw [hgo] at k3;simp only [Bool.false_eq_true,if_false,bC] at k3;rw [k3] at hzf;exact absurd rfl hzf
    | true =>
     rw [if_pos hgo] at k3;cases k3;obtain ⟨_,kL,kR⟩:=k4 hgo;simp only [zfq] at hza;rcases hza with ha | ha
     ·obtain rfl:k=L:=by omega
      rw [kL] at hX; cases hX;simp only [ze4]; omega
     ·obtain rfl:k=L+1:=by omega
      rw [kR] at hX; cases hX;simp only [zew]; omega
 refine qcu (zar.mpr (by omega)) (zar.mpr (by omega)) hsh fun i x hx => ?_;have hil:=(bD hx).1;obtain ⟨X,L,k1,k2,k3,k4⟩:=r2 i (by omega);refine ⟨fun _ => ?_,fun hf => ?_⟩
 ·have:=lev (i+1) i X (by omega) k1;have:=k2.1.2.2.2;omega
 ·rw [hx] at k3;cases hgo:goes c v g cfg X with
  | false =>
   rw [hgo] at k3;simp only [Bool.false_eq_true,if_false,bC] at k3;rw [k3] at hf;exact absurd rfl hf
  | true =>
   rw [if_pos hgo] at k3;simp only [bC] at k3;obtain ⟨l,e1,e2,_⟩:=hS.way hlen hil;rw [e1,yd5];exact yb2 hg hS r1 r2 k3 (z8z hgo).2 l i X k1 (fun _ h=>h) e2
theorem TaL.of128 {t:Ta} (h:TaL 128 t):TaL 1048576 t:=⟨bJ h.ns (by omega),fun x hx=>bJ (h.ss x hx) (by omega),bJ h.nm (by omega),bJ h.rw (by omega),fun x hx=>bJ (h.rr x hx) (by omega),bJ h.lb (by omega)⟩
theorem yu2 {tr:List Nd} : ∀ {ps:List Int} {rs:List (List Int)} {q:List Int},zcw tr ps rs=some q->∀ x∈q,inI x
 | [],rs,q,h=>by simp [zcw] at h; subst h; simp
 | p::ps,[],q,h=>by simp [zcw] at h; subst h; simp
 | p::ps,r::rs,q,h=>by
  rw [zcw] at h;split at h
  ·rename_i h1;simp only [bB] at h;obtain ⟨q',h2,rfl⟩:=h;intro x hx;rcases List.mem_cons.mp hx with rfl | hx
   ·unfold adi at h1 ⊢;split at h1
    ·rename_i hc; rw [if_pos hc]; unfold inI; omega
    ·cases h1
   ·exact yu2 h2 x hx
  ·cases h
structure SmS (k:Nat) (s:Sta):Prop where
 sm:s.sm.length<=128
 ts:s.ts.length<=k
 tl : ∀ x∈s.ts,x.length<=32
 si : ∀ x∈s.sm,inI x
theorem SmS.no {k:Nat}:SmS k noS:=⟨by simp [noS],by simp [noS],by simp [noS],by simp [noS]⟩
theorem SmS.rnd {k:Nat} {t:Ta} {c v:List (List Int)} {cfg:Cfg} {s:Sta} (h:SmS k s):SmS (k+1) (zcq t c v cfg s).1:=by
 unfold zcq;split
 ·unfold zmz;split
  ·unfold zh8;cases e:zcw (zhc t c v cfg s).1 s.sm t.rw with
   | none=>exact SmS.no
   | some p =>
    have h1:=yez e;have h2:=yer (t:=t) (c:=c) (v:=v) (cfg:=cfg) (s:=s);have h3:=h.sm;have h4:=h.ts;exact ⟨by simp only; omega,by simp; omega,fun x hx=>by
     rcases bM hx with hx | hx
     ·exact h.tl x hx
     ·simp at hx; subst hx; omega,yu2 e⟩
  ·exact SmS.no
 ·exact SmS.no
theorem SmS.new {t:Ta} (ht:TaL 128 t):SmS 0 (zh7 t).1:=by
 cases h:zcv t with
 | false=>unfold zh7; rw [if_neg (by rw [h]; simp)]; exact ⟨by simp,by simp,by simp,by simp⟩
 | true =>
  have hb:=ysv h;have:=ht.lb;unfold zh7;rw [if_pos h];refine ⟨by simp; omega,by simp,by simp,fun x hx => ?_⟩;rw [(List.mem_replicate.mp hx).2];unfold inR at hb;unfold inI;omega
theorem qg6 (t:Ta) (b:Int):(zbq t b).length<=4/\(zbr t b).length<=4:=by
 cases h:zcv t with
 | false=>unfold zbq zbr; rw [h]; simp
 | true =>
  cases hb:zah b 2 8 with
  | false=>unfold zbq zbr; rw [hb]; simp
  | true =>
   obtain ⟨h1,h2⟩:=yc3 h hb;have:=zk9 h;omega
theorem SmS.L {k:Nat} {s:Sta} (h:SmS k s) (hk:k<=128):z75 1048576 s:=⟨by have:=h.sm; omega,by have:=h.ts; omega,fun x hx=>bJ (h.tl x hx) (by omega)⟩
def PRd (r:List PV×List PV):Prop := ∃ (t:Ta) (c:Cfg) (gc gv:List (List Int)) (s:Sta),TaL 128 t/\(∀ x∈t.lb,inI x)/\c.sg.length<=64/\gc.length<=128/\gv.length<=128/\(∀ l∈gc,l.length<=1048576)/\(∀ l∈gv,l.length<=1048576)/\s.sm.length<=129/\s.ts.length<=4/\(∀ x∈s.ts,x.length<=32)/\(∀ x∈s.sm,inI x)/\r=([taO t,.agg [.own 1 (rws true gc),.own 1 (rws true gv)],zhx c,stO s],[])
theorem qae (B:List Int) (hB:B.length<=9223372036854775807) : ∃ r,RUN T zqo [.sl 1 (zbl B)]=some r/\PRd r:=by
 refine ze0 rfl rfl ?_;obtain ⟨t,c,p,s,ht,hl,hc,hp,h⟩:=qad B hB;have e2:=ya8 true t c.bi ht.of128;have e3:=y9t true t ht.of128 hl;have hN:=SmS.new ht;obtain ⟨r1,h1,v1,p1,s1,⟨a1,rfl,a10,a11⟩,hp1,rfl⟩:=zba B p s hp hB 3 (by omega);have a12:=a11 (by omega);obtain ⟨N,rfl⟩ : ∃ n:Nat,a1=n:=⟨a1.toNat,by omega⟩;obtain ⟨r2,h2,v2,p2,s2,⟨d,rfl,d0,d1⟩,hp2,rfl⟩:=zba B p1 s1 hp1 hB 16 (by omega);obtain ⟨r3,h3,v3,p3,s3,hg,hp3,rfl⟩:=y92 B p2 s2 hp2 hB;obtain ⟨r4,h4,v4,p4,s4,⟨y,rfl,hy⟩,hp4,rfl⟩:=ylz B p2 s2 hp2 hB;obtain ⟨r5,h5,v5,p5,s5,⟨tr,rfl,htr⟩,hp5,rfl⟩:=y79 B p2 s2 hp2 hB
 obtain ⟨gl1,gl2⟩:=qg6 t c.bi;obtain ⟨l3,l4⟩:=yps (t:=t) (b:=c.bi);have hrw:=ht.rw;have rn:=fun s hs hsi=>ymw true true true t (zbq t c.bi) (zbr t c.bi) c s ht.of128 hl (by omega) (fun l hl=>bJ (l3 l hl) (by omega)) (by omega) (fun l hl=>by rw [l4 l hl]; omega) (by omega) hs hsi;have hgc : ∀ l∈zbq t c.bi,l.length<=1048576:=fun l hl=>bJ (l3 l hl) (by omega);have hgv : ∀ l∈zbr t c.bi,l.length<=1048576:=fun l hl=>by rw [l4 l hl]; omega
 simp only [taS,taO,zhx,cfS,stO,stS] at *;generalize zbq t c.bi=GC at *;generalize zbr t c.bi=GW at *;generalize (zh7 t).1=s0 at *;simp [-getElem?_pos,zzr,zzs,h,e2,e3,h1];refine zao (fun n st => ∃ (i o1 o2:Nat) (s:Sta),i+n=N/\SmS i s/\st.V 2 = .ptr 0 none 0 0 0/\st.V 3 = .ptr 1 none 0 0 0/\st.V 4 = .ptr 2 none 0 0 0/\st.V 5 = .ptr 3 none 0 0 0/\st.V 7 = .ptr 9 none 0 0 0/\st.V 8 = .ptr 10 none 0 0 0/\st.V 6 = .ptr 4 none 0 0 0/\st.V 9 = .ptr 13 none 0 0 0/\st.V 10 = .ptr 16 none 0 0 0/\st.V 12=iv N/\st.V 13=iv i/\st.ep=0/\13<o1/\o1<st.nx/\13<o2/\o2<st.nx/\¬ o1=o2/\¬ o1=16/\¬ o2=16/\16<st.nx/\st.S 0=some (.box [.e0,.v (.string (bs [])),.e0,.e0])/\st.S 1=some (.box [.e0,.e0])/\st.S 2=some (.box [iv 0,iv 0,iv 0,iv 0,iv 0,iv 0,iv 0,.e0])/\st.S 3=some (.box [.e0,.e0])/\st.S 4=some (.box [.sl 1 (zbl B),iv p1,iv s1])/\st.S 5=some (.row 1 (za6 t.ns))/\st.S 6=some (.row 1 (rws true t.rw))/\st.S 7=some (.row 1 (zab t.lb))/\st.S 8=some (.row 1 (zab c.sg))/\st.S 9=some (.box [.ref 5 none 0 0 t.ns.length,.v (.string t.nm),.ref 6 none 0 0 t.rw.length,.ref 7 none 0 0 t.lb.length])/\st.S 10=some (.box [iv c.ro,iv c.de,iv c.bi,iv c.la,iv c.rw,iv c.nu,iv c.dn,.ref 8 none 0 0 c.sg.length])/\st.S 11=some (.row 1 (rws true GC))/\st.S 12=some (.row 1 (rws true GW))/\st.S 13=some (.box [.ref 11 none 0 0 GC.length,.ref 12 none 0 0 GW.length])/\st.S 16=some (.box [.ref o1 none 0 0 s.sm.length,.ref o2 none 0 0 s.ts.length])/\st.S o1=some (.row 1 (zab s.sm))/\st.S o2=some (.row 1 (trs true s.ts))) ?_ N _ ⟨0,14,15,s0,by omega,hN,by simp,by simp,by simp,by simp,by simp,by simp,by simp,by simp,by simp,by simp,by simp,by simp,by omega,by simp,by omega,by simp,by omega,by omega,by omega,by simp⟩
 clear h e2 e3 h1;rintro n st ⟨i,o1,o2,s,hi,hs,v2,v3,v4,v5,v7,v8,v6,v9,v10,v12,v13,hep,ho1,ho1x,ho2,ho2x,h12,h116,h216,hnx,hS0,hS1,hS2,hS3,hS4,hS5,hS6,hS7,hS8,hS9,hS10,hS11,hS12,hS13,hS16,hSa,hSb⟩;have z0:=fr (show 0<st.nx by omega);have z1:=fr (show 1<st.nx by omega);have z2:=fr (show 2<st.nx by omega);have z3:=fr (show 3<st.nx by omega);have z4:=fr (show 4<st.nx by omega);have z5:=fr (show 5<st.nx by omega);have z6:=fr (show 6<st.nx by omega);have z7:=fr (show 7<st.nx by omega);have z8:=fr (show 8<st.nx by omega);have z9:=fr (show 9<st.nx by omega);have z10:=fr (show 10<st.nx by omega);have z11:=fr (show 11<st.nx by omega);have z12:=fr (show 12<st.nx by omega);have z13:=fr (show 13<st.nx by omega);have z16:=fr (show 16<st.nx by omega);have y1:=fr ho1x;have y2:=fr ho2x;have nz : ¬ st.nx=0/\¬ st.nx=1/\¬ st.nx=2/\¬ st.nx=3/\¬ st.nx=4/\¬ st.nx=5/\¬ st.nx=6/\¬ st.nx=7/\¬ st.nx=8/\¬ st.nx=9/\¬ st.nx=10/\¬ st.nx=11/\¬ st.nx=12/\¬ st.nx=13/\¬ st.nx=14/\¬ st.nx=15/\¬ st.nx=16:=by omega
 have u : ¬ o1=0/\¬ o2=0/\¬ 0=o1/\¬ 0=o2/\¬ o1=1/\¬ o2=1/\¬ 1=o1/\¬ 1=o2/\¬ o1=2/\¬ o2=2/\¬ 2=o1/\¬ 2=o2/\¬ o1=3/\¬ o2=3/\¬ 3=o1/\¬ 3=o2/\¬ o1=4/\¬ o2=4/\¬ 4=o1/\¬ 4=o2/\¬ o1=5/\¬ o2=5/\¬ 5=o1/\¬ 5=o2/\¬ o1=6/\¬ o2=6/\¬ 6=o1/\¬ 6=o2/\¬ o1=7/\¬ o2=7/\¬ 7=o1/\¬ 7=o2/\¬ o1=8/\¬ o2=8/\¬ 8=o1/\¬ 8=o2/\¬ o1=9/\¬ o2=9/\¬ 9=o1/\¬ 9=o2/\¬ o1=10/\¬ o2=10/\¬ 10=o1/\¬ 10=o2/\¬ o1=11/\¬ o2=11/\¬ 11=o1/\¬ 11=o2/\¬ o1=12/\¬ o2=12/\¬ 12=o1/\¬ 12=o2/\¬ o1=13/\¬ o2=13/\¬ 13=o1/\¬ 13=o2/\¬ o1=16/\¬ o2=16/\¬ 16=o1/\¬ 16=o2/\¬ o2=o1/\¬ o1=o2:=by omega
 have Z0:=bI u <| bI z0 <| bI z1 <| bI z2 <| bI z3 <| bI z4 <| bI z5 <| bI z6 <| bI z7 <| bI z8 <| bI z9 <| bI z10 <| bI z11 <| bI z12 <| bI z13 <| bI z16 <| bI y1 y2
 have hsm:=hs.sm;have hsl:=hs.ts
 by_cases hlt:i<N
 ·have rr:=rn s (hs.L (by omega)) hs.si;have hsn:SmS (i+1) (zcq t GC GW c s).1:=hs.rnd;have hw:=wS hlt (by omega:N<=9223372036854775807);generalize zcq t GC GW c s=g at *;obtain ⟨s2,gb⟩:=g;simp [-getElem?_pos,zmn,hlt,hw,rr,v2,v3,v4,v5,v7,v8,v6,v9,v10,v12,v13,hep,hS0,hS1,hS2,hS3,hS4,hS5,hS6,hS7,hS8,hS9,hS10,hS11,hS12,hS13,hS16,hSa,hSb,Z0];exact zai (n-1) (by omega) ⟨i+1,st.nx,st.nx+1,s2,by omega,hsn,by simp [v2],by simp [v3],by simp [v4],by simp [v5],by simp [v7],by simp [v8],by simp [v6],by simp [v9],by simp [v10],by simp [v12],by simp,by simp [hep],by omega,by first | (simp; done) | (simp; omega),by omega,by first | (simp; done) | (simp; omega),by omega,by omega,by omega,by first | (simp; done) | (simp; omega),by simp [z0,nz,hS0,z1,hS1,z2,hS2,z3,hS3,z4,hS4,z5,hS5,z6,hS6,z7,hS7,z8,hS8,z9,hS9,z10,hS10,z11,hS11,z12,hS12,z13,hS13,z16]⟩
 ·have hr1:zag 8 1=true:=by decide
  have hr24:zag 24 1=true:=by decide
  have hra:=zbx (n:=s.sm.length+1) (by omega);have hrt:zag 24 (s.ts.length+1)=true:=by simp [zag]; omega
  have big:s.ts.length<=3:=by omega
  by_cases q0:d=0
  ·subst q0;obtain ⟨gc,gw,rfl,g1,g2,g3,g4⟩:=hg;simp [-getElem?_pos,zmn,hlt,h2,h3,nz,v2,v3,v4,v5,v7,v8,v6,v9,v10,v12,v13,hep,hS0,hS1,hS2,hS3,hS4,hS5,hS6,hS7,hS8,hS9,hS10,hS11,hS12,hS13,hS16,hSa,hSb,Z0];exact ⟨t,c,gc,gw,s,ht,hl,hc,by omega,by omega,fun l hl=>bJ (g3 l hl) (by omega),fun l hl=>bJ (g4 l hl) (by omega),by omega,by omega,hs.tl,hs.si,rfl⟩
  by_cases q1:d=1
  ·subst q1
   by_cases hz:0<s.sm.length
   ·obtain ⟨x,hx⟩ : ∃ x,s.sm[0]?=some x:=⟨_,bG hz⟩;have hx':=zay hx;have hset:=z7v s.sm 0 y;simp [-getElem?_pos,zmn,hlt,h2,h4,hz,hx',hset,nz,v2,v3,v4,v5,v7,v8,v6,v9,v10,v12,v13,hep,hS0,hS1,hS2,hS3,hS4,hS5,hS6,hS7,hS8,hS9,hS10,hS11,hS12,hS13,hS16,hSa,hSb,Z0];exact ⟨t,c,GC,GW,⟨s.sm.set 0 y,s.ts⟩,ht,hl,hc,by omega,by omega,hgc,hgv,by simp; omega,by simp only; omega,hs.tl,zjw hs.si hy,by simp [taO,zhx,stO]⟩
   ·have hz':(0<s.sm.length)=False:=bK hz;simp [-getElem?_pos,zmn,hlt,h2,hz',nz,v2,v3,v4,v5,v7,v8,v6,v9,v10,v12,v13,hep,hS0,hS1,hS2,hS3,hS4,hS5,hS6,hS7,hS8,hS9,hS10,hS11,hS12,hS13,hS16,hSa,hSb,Z0];exact ⟨t,c,GC,GW,s,ht,hl,hc,by omega,by omega,hgc,hgv,by omega,by omega,hs.tl,hs.si,rfl⟩
  by_cases q2:d=2
  ·subst q2;have hsn:=zbn s.sm 0;simp [-getElem?_pos,zmn,hlt,h2,hr1,hra,hsn,nz,v2,v3,v4,v5,v7,v8,v6,v9,v10,v12,v13,hep,hS0,hS1,hS2,hS3,hS4,hS5,hS6,hS7,hS8,hS9,hS10,hS11,hS12,hS13,hS16,hSa,hSb,Z0];exact ⟨t,c,GC,GW,⟨s.sm++[0],s.ts⟩,ht,hl,hc,by omega,by omega,hgc,hgv,by simp; omega,by simp only; omega,hs.tl,zp4 hs.si (by unfold inI; omega),by simp [taO,zhx,stO]⟩
  by_cases q3:d=3
  ·subst q3;have hsn:=z9g s.ts tr;simp [-getElem?_pos,zmn,hlt,h2,h5,hr24,hrt,hsn,nz,v2,v3,v4,v5,v7,v8,v6,v9,v10,v12,v13,hep,hS0,hS1,hS2,hS3,hS4,hS5,hS6,hS7,hS8,hS9,hS10,hS11,hS12,hS13,hS16,hSa,hSb,Z0];exact ⟨t,c,GC,GW,⟨s.sm,s.ts++[tr]⟩,ht,hl,hc,by omega,by omega,hgc,hgv,by simp only; omega,by simp; omega,zp4 hs.tl htr,hs.si,by simp [taO,zhx,stO]⟩
  ·simp [-getElem?_pos,zmn,hlt,h2,q0,q1,q2,q3,nz,v2,v3,v4,v5,v7,v8,v6,v9,v10,v12,v13,hep,hS0,hS1,hS2,hS3,hS4,hS5,hS6,hS7,hS8,hS9,hS10,hS11,hS12,hS13,hS16,hSa,hSb,Z0];exact ⟨t,c,GC,GW,s,ht,hl,hc,by omega,by omega,hgc,hgv,by omega,by omega,hs.tl,hs.si,rfl⟩
theorem qfs {t:Ta} {c v:List (List Int)} {cfg:Cfg} {s:Sta} (hs : ∀ x∈s.ts,x.length<=32):(zcq t c v cfg s).1.sm.length<=s.sm.length/\(zcq t c v cfg s).1.ts.length<=s.ts.length+1/\∀ x∈(zcq t c v cfg s).1.ts,x.length<=32:=by
 have no:noS.sm.length<=s.sm.length/\noS.ts.length<=s.ts.length+1/\∀ x∈noS.ts,x.length<=32:=⟨by simp [noS],by simp [noS]⟩;unfold zcq;split
 ·unfold zmz;split
  ·unfold zh8;cases e:zcw (zhc t c v cfg s).1 s.sm t.rw with
   | none=>exact no
   | some p =>
    have h2:=yer (t:=t) (c:=c) (v:=v) (cfg:=cfg) (s:=s);exact ⟨yez e,by simp,fun x hx=>by
     rcases bM hx with hx | hx
     ·exact hs x hx
     ·simp at hx; subst hx; omega⟩
  ·exact no
 ·exact no
theorem qfa {t:Ta} {c v:List (List Int)} {cfg:Cfg} {s:Sta} (h:(zcq t c v cfg s).2=true) : ∃ (q:List Int) (tr:List Nd),zcq t c v cfg s=(⟨q,s.ts++[tr]⟩,true)/\s.sm.length=t.rw.length/\q.length=s.sm.length/\(∀ (i:Nat) (p:Int) (r:List Int),s.sm[i]?=some p->t.rw[i]?=some r->q[i]?=some (p+evt tr r)/\inI (p+evt tr r))/\zhe tr t.ns.length=true/\tr.length<=32:=by
 unfold zcq at h ⊢;split at h
 case isFalse=>cases h
 rename_i hc;rw [if_pos hc];obtain ⟨ht,hc1,hc2⟩:=hc;have htr:=zk9 ht;unfold zmz at h ⊢;split at h
 case isFalse=>cases h
 rename_i hn;rw [if_pos hn];have hl32:=yer (t:=t) (c:=c) (v:=v) (cfg:=cfg) (s:=s);unfold zh8 at h ⊢;cases e:zcw (zhc t c v cfg s).1 s.sm t.rw with
 | none=>rw [e] at h; cases h
 | some q =>
  have hgr:(zel t.lb s.sm).2=true/\(zb6 c v (zel t.lb s.sm).1 cfg).2=true:=by
   unfold zhc at hn;split at hn
   ·rename_i hh; simpa using hh
   ·cases hn
  have hsl:s.sm.length=t.rw.length:=by have:=(yb7 (l:=t.lb) (m:=s.sm)).2 hgr.1; omega
  obtain ⟨k1,k2⟩:=ys8 hsl e;have htk:ze9 c v (zel t.lb s.sm).1 cfg=true:=by rw [<- qb6]; exact hgr.2
  have hcf:=(zmx htk).2.1;obtain ⟨_,_,hbi,_⟩:=zuz hcf;obtain ⟨l1,_⟩:=yc3 ht (zar.mpr hbi);have htree:=qen htk;rw [show c.length=t.ns.length from by rw [hc1]; exact l1] at htree;have hnt:zhc t c v cfg s=zgf cfg (zb6 c v (zel t.lb s.sm).1 cfg).1:=by
   unfold zhc; rw [if_pos (by rw [hgr.1,hgr.2]; rfl)]
  have htb:zhe (zhc t c v cfg s).1 t.ns.length=true:=by
   rw [hnt] at hn ⊢;unfold zgf at hn ⊢;split at hn
   ·rename_i hk;rw [if_pos hk];exact qh9 hk htree
   ·cases hn
  exact ⟨q,_,rfl,hsl,k1,k2,htb,hl32⟩
theorem qck (B:List Int) (hB:B.length<=9223372036854775807):RUN T zvw [.sl 1 (zbl B)]=some ([bv true],[]):=by
 have hb:=y7q (zbl B);rw [qcw] at hb
 by_cases c0:(1048576:Int)<B.length
 ·refine zae rfl rfl ?_;simp [-getElem?_pos,ztq,ztr,hb,c0]
 obtain ⟨r,hd,t,c,gc,gv,s,ht,hl,hc,g1,g2,g3,g4,hsm,hst,hsl,hsi,rfl⟩:=qae B hB;have ht1:=ht.of128;have hsL:z75 1048576 s:=⟨by omega,by omega,fun x hx=>bJ (hsl x hx) (by omega)⟩;have a1:=ymw true true true t gc gv c s ht1 hl (by omega) g3 (by omega) g4 (by omega) hsL hsi;have a2:=qab true true true t gc gv c s ht1 hl (by omega) g3 (by omega) g4 (by omega) hsL hsi;obtain ⟨b1,b2,b3⟩:=qfs (t:=t) (c:=gc) (v:=gv) (cfg:=c) hsl;have i1:=y8a (zcq t gc gv c s).1.sm (by omega);cases hok:(zcq t gc gv c s).2 with
 | false =>
  generalize zcq t gc gv c s=g at *;obtain ⟨g,gb⟩:=g;simp only at hok;subst hok;simp only [taS,taO,zhx,cfS,stO,stS] at *;refine zae rfl rfl ?_;simp [-getElem?_pos,ztq,ztr,hb,c0,hd,a1,a2,i1]
 | true =>
 obtain ⟨q,tr,k1,k2,k3,k4,k5,k6⟩:=qfa hok;rw [k1] at a1 a2 i1;have hql:q.length<=1048576:=by omega
 have tk:=ylt tr t.ns.length (by omega);rw [k5] at tk;have se:=y7s tr tr (by omega) (by omega);rw [decide_eq_true rfl] at se;have ln:=ht1.ns;have hrr:=ht1.rr;have gN:(trs true (s.ts++[tr]))[s.ts.length]?=some [.own 5 (tr.map nd)]:=by rw [<- z9g,bO (by simp)]; simp
 have hw1:=w64 (x:=(s.ts.length:Int)+1) (by omega) (by omega);have hw2:=w64 (x:=(s.ts.length:Int)) (by omega) (by omega);simp only [taS,taO,zhx,cfS,stO,stS] at *;refine zae rfl rfl ?_;simp [-getElem?_pos,ztq,ztr,hb,c0,hd,a1,a2,i1,gN,hw2];clear hd a1 a2 i1 hb;refine zao (fun n st => ∃ i:Nat,i+n=s.sm.length/\st.V 3 = .ptr 8 none 0 0 0/\st.V 6 = .ptr 11 none 0 0 0/\st.V 7 = .ptr 14 none 0 0 0/\st.V 9 = .ptr 17 none 0 0 0/\st.V 11 = .ptr 18 none 0 0 0/\st.V 12=iv i/\st.ep=0/\18<st.nx/\st.S 8=some (.box [.ref 0 none 0 0 t.ns.length,.v (.string t.nm),.ref 1 none 0 0 t.rw.length,.ref 2 none 0 0 t.lb.length])/\st.S 11=some (.box [.ref 6 none 0 0 s.sm.length,.ref 7 none 0 0 s.ts.length])/\st.S 14=some (.box [.ref 12 none 0 0 q.length,.ref 13 none 0 0 (s.ts.length+1)])/\st.S 17=some (.box [.ref 15 none 0 0 q.length,.ref 16 none 0 0 (s.ts.length+1)])/\st.S 18=some (.box [.ref 13 (some (s.ts.length,0)) 0 0 tr.length])/\st.S 0=some (.row 1 (za6 t.ns))/\st.S 1=some (.row 1 (rws true t.rw))/\st.S 6=some (.row 1 (zab s.sm))/\st.S 7=some (.row 1 (trs true s.ts))/\st.S 12=some (.row 1 (zab q))/\st.S 13=some (.row 1 (trs true (s.ts++[tr])))/\st.S 16=some (.row 1 (trs true (s.ts++[tr])))) ?_ s.sm.length _ ⟨0,by omega,by simp⟩;rintro n st ⟨i,hi,v3,v6,v7,v9,v11,v12,hep,hnx,hS8,hS11,hS14,hS17,hS18,hS0,hS1,hS6,hS7,hS12,hS13,hS16⟩
 by_cases h:i<s.sm.length
 ·obtain ⟨p,hp⟩ : ∃ x,s.sm[i]?=some x:=⟨_,bG h⟩;obtain ⟨row,hx⟩ : ∃ x,t.rw[i]?=some x:=⟨_,bG (by omega)⟩;obtain ⟨kq,ki⟩:=k4 i p row hp hx;have hp':=zay hp;have hq':=zay kq;have hx':=zc3 (q:=true) hx;simp only [cel,if_true] at hx';have ev:=ylp tr row (by omega) (hrr row (bF hx));have hw:=wS h (by omega:s.sm.length<=9223372036854775807);unfold inI at ki;have hw3:=w64 (x:=p+evt tr row) ki.1 ki.2;have hir:i<t.rw.length:=by omega
  have hiq:i<q.length:=by omega
  simp [-getElem?_pos,z9x,zbe,v3,v6,v7,v11,v12,hep,hS8,hS11,hS14,hS18,hS1,hS6,hS12,hS13,h,hir,hiq,hp',hq',hx',ev,hw,hw3,gN];exact zai (n-1) (by omega) ⟨i+1,by omega,by simp [v3,v6,v7,v9,v11,hnx,hS8,hS11,hS14,hS17,hS18,hS0,hS1,hS6,hS7,hS12,hS13,hS16]⟩
 ·simp [-getElem?_pos,z9x,zbe,v3,v6,v7,v9,v11,v12,hep,hS8,hS11,hS14,hS17,hS18,hS0,hS6,hS7,hS13,hS16,h,tk,se,gN,hw1,hw2]
end Go.Pe
