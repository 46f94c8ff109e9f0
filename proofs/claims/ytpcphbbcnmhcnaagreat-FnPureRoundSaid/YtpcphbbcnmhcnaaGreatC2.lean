/- What each function answers by the evaluator,and the law; for each answer its own conditions stand ahead of it. -/
import Derived.Test.YtpcphbbcnmhcnaaGreatC1
import Derived.Test.YtpcphbbcnmhcnaaGreatEvB2
import Derived.IntWalk
set_option linter.all false
set_option maxHeartbeats 8000000
set_option maxRecDepth 8000
namespace Go.Pe
open Go
theorem qgr {n m:Nat} {L:List (List Int)} {Y:List Int} (h1:1<=n) (h3:n<=3) (m1:1<=m) (m2:m<=40) (hL:L.length=m) (hY:Y.length=m) (hr : ∀ r∈L,r.length=n/\∀ x∈r,zbe x=true) (hy : ∀ y∈Y,zbe y=true):PTa (taO ⟨nm4.take n,bs [121],L,Y⟩):=by
 have hnl:(nm4.take n).length=n:=by simp [nm4]; omega
 have hsz:(bs [121]).size=1:=rfl;refine ⟨_,rfl,⟨by simp only [hnl]; omega,fun x hx => ?_,by simp only [hsz]; omega,by simp only [hL]; omega,fun r hr'=>by have:=(hr r hr').1; omega,by simp only [hY]; omega⟩,?_⟩
 ·have hm:=List.mem_of_mem_take hx;simp only [nm4,List.mem_cons,List.not_mem_nil,or_false] at hm;rcases hm with rfl | rfl | rfl | rfl <;> decide
 ·unfold zct;simp only [hnl,hL,hY];rw [zay.mpr (by omega),qbz h1 h3,zay.mpr (by omega)];have e1:Y.all zbe=true:=by rw [List.all_eq_true]; exact hy
  have e2:L.all (ze6 n)=true:=by
   rw [List.all_eq_true];intro r hr';unfold ze6;rw [decide_eq_true (by have:=(hr r hr').1; omega:(r.length:Int)=n),List.all_eq_true.mpr (hr r hr').2]; rfl
  rw [e1,e2]; simp
theorem ya0 (B:List Int) (p:Nat) (s:Int) (hp:p<=B.length) (hB:B.length<=9223372036854775807) : ∃ r,RUN T zlj [.bx [.sl 1 (zbl B),iv p,iv s]]=some r/\zfk B PTa r:=by
 have hr0:zag 16 0=true:=by decide
 have hr1:zag 16 4=true:=by decide
 obtain ⟨r1,h1,v1,p1,s1,⟨a1,rfl,a10,a11⟩,hp1,rfl⟩:=za9 B p s hp hB 3 (by omega);have a12:=a11 (by omega);obtain ⟨n,hnf⟩ : ∃ n:Nat,1+a1=n:=⟨(1+a1).toNat,by omega⟩;have w1:=w64 (x:=(n:Int)) (by omega) (by omega);have hr2:zag 16 n=true:=by simp [zag]; omega
 have hn3:n<=3:=by omega
 have hn4:n<=4:=by omega
 have hn1:1<=n:=by omega
 obtain ⟨ns,hns⟩ : ∃ ns,ns=nm4.take n:=⟨_,rfl⟩;have hcut:(if n=4 then [[PV.v (Value.string (bs [97]))],[PV.v (Value.string (bs [98]))],[PV.v (Value.string (bs [99,50]))],[PV.v (Value.string (bs [100]))]] else List.take n [[PV.v (Value.string (bs [97]))],[PV.v (Value.string (bs [98]))],[PV.v (Value.string (bs [99,50]))],[PV.v (Value.string (bs [100]))]])=za5 ns:=by
  subst hns;have h:n=1\/n=2\/n=3:=by omega
  rcases h with h | h | h <;> subst h <;> rfl
 have hnl:ns.length=n:=by subst hns; simp [nm4]; omega
 obtain ⟨r2,h2,v2,p2,s2,⟨a2,rfl,a20,a21⟩,hp2,rfl⟩:=za9 B p1 s1 hp1 hB 9 (by omega);have a22:=a21 (by omega);obtain ⟨r3,h3,v3,p3,s3,⟨b3,rfl⟩,hp3,rfl⟩:=zgq B p2 s2 hp2 hB 10 (by omega);have key : ∀ (m:Nat) (far:Bool) (p:Nat) (s:Int) (st:St),1<=m->m<=40->p<=B.length->st.V 0 = .ptr 0 none 0 0 0->st.V 2 = .ptr 1 none 0 0 0->st.V 3=iv n->st.V 4 = .ptr 5 none 0 0 0->st.V 5=iv m->st.V 6=bv far->st.V 7=iv (0:Nat)->5<st.nx->st.S 0=some (.box [.sl 1 (zbl B),iv p,iv s])->st.S 1=some (.box [.e0,.v (.string (bs [])),.e0,.e0])->st.S 4=some (.row 1 (za5 ns))->st.S 5=some (.box [.ref 4 none 0 0 n,.v (.string (bs [121])),.e0,.e0]) ->
   W (zad T) (RUN T) (.loop z1b) st (Bl 0 (Nx (fun s=>W (zad T) (RUN T) (.seq (.reg [oE 83 (.load true 4 (.V 4)),oN (.store [1,0,1,1] (.V 2) (.E 83))]) .ret) s (zjq zme 1 (zfk B PTa) ⟨⟩ ⟨⟩)) (zjq zme 1 (zfk B PTa) ⟨⟩ ⟨⟩) ⟨⟩ ⟨⟩) ⟨⟩):=by
  clear h1 h2 h3 hp1 hp2 hp3 hp;intro m far p s st hm1 hm40 hp v0 v2 v3 v4 v5 v6 v7 h5x hS0 hS1 hS4 hS5;refine zan (fun k st => ∃ (i p:Nat) (s:Int) (L:List (List Int)) (Y:List Int) (xR xY:PV),i+k=m/\L.length=i/\Y.length=i/\(∀ r∈L,r.length=n/\∀ x∈r,zbe x=true)/\(∀ y∈Y,zbe y=true)/\p<=B.length/\st.V 0 = .ptr 0 none 0 0 0/\st.V 2 = .ptr 1 none 0 0 0/\st.V 3=iv n/\st.V 4 = .ptr 5 none 0 0 0/\st.V 5=iv m/\st.V 6=bv far/\st.V 7=iv i/\5<st.nx/\st.S 0=some (.box [.sl 1 (zbl B),iv p,iv s])/\st.S 1=some (.box [.e0,.v (.string (bs [])),.e0,.e0])/\st.S 4=some (.row 1 (za5 ns))/\st.S 5=some (.box [.ref 4 none 0 0 n,.v (.string (bs [121])),xR,xY])/\((L=[]/\Y=[]/\xR = .e0/\xY = .e0)\/∃ o1 e1 o2 e2,xR = .ref o1 none e1 0 i/\xY = .ref o2 none e2 0 i/\5<o1/\o1<st.nx/\5<o2/\o2<st.nx/\¬ o1=o2/\st.S o1=some (.row 1 (rws true L))/\st.S o2=some (.row 1 (zab Y)))) ?_ m _ ⟨0,p,s,[],[],.e0,.e0,by omega,rfl,rfl,by simp,by simp,hp,v0,v2,v3,v4,v5,v6,v7,h5x,hS0,hS1,hS4,hS5,.inl ⟨rfl,rfl,rfl,rfl⟩⟩;clear v0 v2 v3 v4 v5 v6 v7 h5x hS0 hS1 hS4 hS5 hp;rintro k st ⟨i,p,s,L,Y,xR,xY,hi,hL,hY,hLr,hYd,hp,v0,v2,v3,v4,v5,v6,v7,h5x,hS0,hS1,hS4,hS5,hx⟩;obtain ⟨f1,f2,f3,f4⟩:=fr (show 0<st.nx by omega);obtain ⟨g1,g2,g3,g4⟩:=fr (show 1<st.nx by omega);obtain ⟨h1,h2,h3,h4⟩:=fr (show 4<st.nx by omega);obtain ⟨j1,j2,j3,j4⟩:=fr (show 5<st.nx by omega)
  by_cases h:i<m
  ·have hw:=wS h (by omega:m<=9223372036854775807);have hr1:zag 8 1=true:=by decide
   have hr00:zag 8 0=true:=by decide
   simp [-getElem?_pos,z1b,v5,v7,h,hr00];refine qap (o:=st.nx) (e:=st.ep) (p:=p) (s:=s) B hB far n (by omega) hp (by simp [v0]) (by simp [v3]) (by simp [v6]) (by simp) (by simp) (by omega) (by simp) (by simp [f1,f2,f3,f4,g1,g2,g3,g4,h1,h2,h3,h4,j1,j2,j3,j4,hS0]) (by simp) ?_;intro t p1 o3 e3 s1 r hr hrd hrs hp1 hV w8 ho3 ho3x hnx hep hSo3 hT0 hfr;simp only at ho3 hnx hep;have w0:t.V 0 = .ptr 0 none 0 0 0:=by rw [hV 0 (by decide) (by decide) (by decide)]; simp [v0]
   have w2:t.V 2 = .ptr 1 none 0 0 0:=by rw [hV 2 (by decide) (by decide) (by decide)]; simp [v2]
   have w3:t.V 3=iv n:=by rw [hV 3 (by decide) (by decide) (by decide)]; simp [v3]
   have w4:t.V 4 = .ptr 5 none 0 0 0:=by rw [hV 4 (by decide) (by decide) (by decide)]; simp [v4]
   have w5:t.V 5=iv m:=by rw [hV 5 (by decide) (by decide) (by decide)]; simp [v5]
   have w6:t.V 6=bv far:=by rw [hV 6 (by decide) (by decide) (by decide)]; simp [v6]
   have w7:t.V 7=iv i:=by rw [hV 7 (by decide) (by decide) (by decide)]; simp [v7]
   have hT1:t.S 1=some (.box [.e0,.v (.string (bs [])),.e0,.e0]):=by rw [hfr 1 (by omega) (by omega)]; simp [f1,f2,f3,f4,g1,g2,g3,g4,h1,h2,h3,h4,j1,j2,j3,j4,hS1]
   have hT4:t.S 4=some (.row 1 (za5 ns)):=by rw [hfr 4 (by omega) (by omega)]; simp [f1,f2,f3,f4,g1,g2,g3,g4,h1,h2,h3,h4,j1,j2,j3,j4,hS4]
   have hT5:t.S 5=some (.box [.ref 4 none 0 0 n,.v (.string (bs [121])),xR,xY]):=by rw [hfr 5 (by omega) (by omega)]; simp [f1,f2,f3,f4,g1,g2,g3,g4,h1,h2,h3,h4,j1,j2,j3,j4,hS5]
   obtain ⟨x0,hx0⟩ : ∃ x,r[0]?=some x:=⟨_,bG (by omega)⟩;have hx0':=zax hx0;obtain ⟨q1,d1,_,p2,s2,⟨y,rfl,hyd⟩,hp2,rfl⟩:=yay B p1 s1 hp1 hB;have hr24:zag 24 1=true:=by decide
   have hr24':zag 24 (i+1)=true:=by simp [zag]; omega
   have hr8:=zbv (n:=i+1) (by omega);have hsn1:=zml L r;have hn0:(0:Nat)<n:=by omega
   have na : ∀ a b:Nat,t.nx+a+b=t.nx+(a+b):=fun a b=>Nat.add_assoc _ _ _;have Z2:=bI hw <| bI hr1 <| bI d1 <| bI hr24 na
   obtain ⟨F1,F2,F3,F4⟩:=fr (show 0<t.nx by omega);obtain ⟨G1,G2,G3,G4⟩:=fr (show 1<t.nx by omega);obtain ⟨H1,H2,H3,H4⟩:=fr (show 4<t.nx by omega);obtain ⟨J1,J2,J3,J4⟩:=fr (show 5<t.nx by omega);obtain ⟨O1,O2,O3,O4⟩:=fr (show o3<t.nx by omega);have n0a:(o3=0)=False:=eq_false (by omega);have n0b:(0=o3)=False:=eq_false (by omega);have n1a:(o3=1)=False:=eq_false (by omega);have n1b:(1=o3)=False:=eq_false (by omega);have n2a:(o3=4)=False:=eq_false (by omega);have n2b:(4=o3)=False:=eq_false (by omega);have n3a:(o3=5)=False:=eq_false (by omega);have n3b:(5=o3)=False:=eq_false (by omega);have Z1:=bI F1 <| bI F2 <| bI F3 <| bI F4 <| bI G1 <| bI G2 <| bI G3 <| bI G4 <| bI H1 <| bI H2 <| bI H3 <| bI H4 <| bI J1 <| bI J2 <| bI J3 <| bI J4 <| bI O1 <| bI O2 <| bI O3 <| bI O4 <| bI n0a <| bI n0b <| bI n1a <| bI n1b <| bI n2a <| bI n2b <| bI n3a n3b
   rcases hx with ⟨rfl,rfl,rfl,rfl⟩ | ⟨o1,e1,o2,e2,rfl,rfl,ho1,ho1x,ho2,ho2x,ho12,hSo1,hSo2⟩
   ·have hi0:i=0:=by simpa using hL.symm
    subst hi0;cases far with
    | true =>
     simp [-getElem?_pos,w0,w2,w3,w4,w5,w6,w7,w8,hT0,hT1,hT4,hT5,hSo3,hx0',hn0,hr,Z2,Z1];refine zah (k-1) (by omega) ⟨0+1,p2,s2,[]++[r],[]++[y],.ref (t.nx+1) none t.ep 0 (0+1),.ref (t.nx+3) none t.ep 0 (0+1),by omega,by simp [hL],by simp [hY],?_,?_,by assumption,by simp [w0],by simp [w2],by simp [w3],by simp [w4],by simp [w5],by simp [w6],by simp,by simp; omega,by simp [Z1],by simp [Z1,hT1],by simp [Z1,hT4],by simp [Z1],.inr ⟨t.nx+1,t.ep,t.nx+3,t.ep,rfl,rfl,by omega,by simp,by omega,by simp,by omega,by simp [Z1,rws,cel,zab]⟩⟩
     ·intro r' hr';rcases List.mem_append.mp hr' with hr' | hr'
      ·exact hLr r' hr'
      ·simp at hr'; subst hr'; exact ⟨hr,hrd⟩
     ·intro y' hy';rcases List.mem_append.mp hy' with hy' | hy'
      ·exact hYd y' hy'
      ·simp at hy'; subst hy'; exact hyd
    | false =>
     have hsx:=hrs rfl x0 (bF hx0);unfold zym at hsx;obtain ⟨q2,d2,_,p3,s3,⟨b4,rfl⟩,hp3,rfl⟩:=zgq B p2 s2 hp2 hB 4 (by omega);cases b4 with
     | true =>
      simp [-getElem?_pos,w0,w2,w3,w4,w5,w6,w7,w8,hT0,hT1,hT4,hT5,hSo3,hx0',hn0,hr,Z2,d2,Z1];refine zah (k-1) (by omega) ⟨0+1,p3,s3,[]++[r],[]++[y],.ref (t.nx+1) none t.ep 0 (0+1),.ref (t.nx+3) none t.ep 0 (0+1),by omega,by simp [hL],by simp [hY],?_,?_,by assumption,by simp [w0],by simp [w2],by simp [w3],by simp [w4],by simp [w5],by simp [w6],by simp,by simp; omega,by simp [Z1],by simp [Z1,hT1],by simp [Z1,hT4],by simp [Z1],.inr ⟨t.nx+1,t.ep,t.nx+3,t.ep,rfl,rfl,by omega,by simp,by omega,by simp,by omega,by simp [Z1,rws,cel,zab]⟩⟩
      ·intro r' hr';rcases List.mem_append.mp hr' with hr' | hr'
       ·exact hLr r' hr'
       ·simp at hr'; subst hr'; exact ⟨hr,hrd⟩
      ·intro y' hy';rcases List.mem_append.mp hy' with hy' | hy'
       ·exact hYd y' hy'
       ·simp at hy'; subst hy'; exact hyd
     | false =>
      obtain ⟨q3,d3,_,p4,s4,⟨a4,rfl,a40,a41⟩,hp4,rfl⟩:=za9 B p3 s3 hp3 hB 5 (by omega);have a42:=a41 (by omega);have u1:=w64 (x:=x0*2) (by omega) (by omega);have u2:=w64 (x:=100*a4) (by omega) (by omega);have u3:=w64 (x:=x0*2+100*a4) (by omega) (by omega);simp [-getElem?_pos,w0,w2,w3,w4,w5,w6,w7,w8,hT0,hT1,hT4,hT5,hSo3,hx0',hn0,hr,Z2,d2,d3,u1,u2,u3,Z1];refine zah (k-1) (by omega) ⟨0+1,p4,s4,[]++[r],[]++[x0*2+100*a4],.ref (t.nx+1) none t.ep 0 (0+1),.ref (t.nx+3) none t.ep 0 (0+1),by omega,by simp [hL],by simp [hY],?_,?_,by assumption,by simp [w0],by simp [w2],by simp [w3],by simp [w4],by simp [w5],by simp [w6],by simp,by simp; omega,by simp [Z1],by simp [Z1,hT1],by simp [Z1,hT4],by simp [Z1],.inr ⟨t.nx+1,t.ep,t.nx+3,t.ep,rfl,rfl,by omega,by simp,by omega,by simp,by omega,by simp [Z1,rws,cel,zab]⟩⟩
      ·intro r' hr';rcases List.mem_append.mp hr' with hr' | hr'
       ·exact hLr r' hr'
       ·simp at hr'; subst hr'; exact ⟨hr,hrd⟩
      ·intro y' hy';rcases List.mem_append.mp hy' with hy' | hy'
       ·exact hYd y' hy'
       ·simp at hy'; subst hy'; exact zus (by omega) (by omega)
   ·have hT6:t.S o1=some (.row 1 (rws true L)):=by rw [hfr o1 (by omega) (by omega)]; simp [show (o1=st.nx)=False from eq_false (by omega),hSo1]
    have hT7:t.S o2=some (.row 1 (zab Y)):=by rw [hfr o2 (by omega) (by omega)]; simp [show (o2=st.nx)=False from eq_false (by omega),hSo2]
    obtain ⟨P1,P2,P3,P4⟩:=fr (show o1<t.nx by omega);obtain ⟨Q1,Q2,Q3,Q4⟩:=fr (show o2<t.nx by omega);have m0a:(o1=0)=False:=eq_false (by omega);have m0b:(0=o1)=False:=eq_false (by omega);have m1a:(o1=1)=False:=eq_false (by omega);have m1b:(1=o1)=False:=eq_false (by omega);have m2a:(o1=4)=False:=eq_false (by omega);have m2b:(4=o1)=False:=eq_false (by omega);have m3a:(o1=5)=False:=eq_false (by omega);have m3b:(5=o1)=False:=eq_false (by omega);have m4a:(o2=0)=False:=eq_false (by omega);have m4b:(0=o2)=False:=eq_false (by omega);have m5a:(o2=1)=False:=eq_false (by omega);have m5b:(1=o2)=False:=eq_false (by omega);have m6a:(o2=4)=False:=eq_false (by omega);have m6b:(4=o2)=False:=eq_false (by omega);have m7a:(o2=5)=False:=eq_false (by omega);have m7b:(5=o2)=False:=eq_false (by omega);have m8a:(o1=o3)=False:=eq_false (by omega);have m8b:(o3=o1)=False:=eq_false (by omega);have m9a:(o2=o3)=False:=eq_false (by omega);have m9b:(o3=o2)=False:=eq_false (by omega);have m10a:(o1=o2)=False:=eq_false (by omega);have m10b:(o2=o1)=False:=eq_false (by omega);have Z0:=bI F1 <| bI F2 <| bI F3 <| bI F4 <| bI G1 <| bI G2 <| bI G3 <| bI G4 <| bI H1 <| bI H2 <| bI H3 <| bI H4 <| bI J1 <| bI J2 <| bI J3 <| bI J4 <| bI O1 <| bI O2 <| bI O3 <| bI O4 <| bI n0a <| bI n0b <| bI n1a <| bI n1b <| bI n2a <| bI n2b <| bI n3a <| bI n3b <| bI P1 <| bI P2 <| bI P3 <| bI P4 <| bI Q1 <| bI Q2 <| bI Q3 <| bI Q4 <| bI m0a <| bI m0b <| bI m1a <| bI m1b <| bI m2a <| bI m2b <| bI m3a <| bI m3b <| bI m4a <| bI m4b <| bI m5a <| bI m5b <| bI m6a <| bI m6b <| bI m7a <| bI m7b <| bI m8a <| bI m8b <| bI m9a <| bI m9b <| bI m10a m10b
    cases far with
    | true =>
     simp [-getElem?_pos,w0,w2,w3,w4,w5,w6,w7,w8,hT0,hT1,hT4,hT5,hSo3,hx0',hn0,hr,Z2,hT6,hT7,hr24',hr8,hsn1,hL,hY,zbn,Z0];refine zah (k-1) (by omega) ⟨i+1,p2,s2,L++[r],Y++[y],.ref (t.nx+1) none t.ep 0 (i+1),.ref (t.nx+3) none t.ep 0 (i+1),by omega,by simp [hL],by simp [hY],?_,?_,by assumption,by simp [w0],by simp [w2],by simp [w3],by simp [w4],by simp [w5],by simp [w6],by simp,by simp; omega,by simp [Z0],by simp [Z0,hT1],by simp [Z0,hT4],by simp [Z0],.inr ⟨t.nx+1,t.ep,t.nx+3,t.ep,rfl,rfl,by omega,by simp,by omega,by simp,by omega,by simp [Z0]⟩⟩
     ·intro r' hr';rcases List.mem_append.mp hr' with hr' | hr'
      ·exact hLr r' hr'
      ·simp at hr'; subst hr'; exact ⟨hr,hrd⟩
     ·intro y' hy';rcases List.mem_append.mp hy' with hy' | hy'
      ·exact hYd y' hy'
      ·simp at hy'; subst hy'; exact hyd
    | false =>
     have hsx:=hrs rfl x0 (bF hx0);unfold zym at hsx;obtain ⟨q2,d2,_,p3,s3,⟨b4,rfl⟩,hp3,rfl⟩:=zgq B p2 s2 hp2 hB 4 (by omega);cases b4 with
     | true =>
      simp [-getElem?_pos,w0,w2,w3,w4,w5,w6,w7,w8,hT0,hT1,hT4,hT5,hSo3,hx0',hn0,hr,Z2,hT6,hT7,hr24',hr8,hsn1,hL,hY,zbn,d2,Z0];refine zah (k-1) (by omega) ⟨i+1,p3,s3,L++[r],Y++[y],.ref (t.nx+1) none t.ep 0 (i+1),.ref (t.nx+3) none t.ep 0 (i+1),by omega,by simp [hL],by simp [hY],?_,?_,by assumption,by simp [w0],by simp [w2],by simp [w3],by simp [w4],by simp [w5],by simp [w6],by simp,by simp; omega,by simp [Z0],by simp [Z0,hT1],by simp [Z0,hT4],by simp [Z0],.inr ⟨t.nx+1,t.ep,t.nx+3,t.ep,rfl,rfl,by omega,by simp,by omega,by simp,by omega,by simp [Z0]⟩⟩
      ·intro r' hr';rcases List.mem_append.mp hr' with hr' | hr'
       ·exact hLr r' hr'
       ·simp at hr'; subst hr'; exact ⟨hr,hrd⟩
      ·intro y' hy';rcases List.mem_append.mp hy' with hy' | hy'
       ·exact hYd y' hy'
       ·simp at hy'; subst hy'; exact hyd
     | false =>
      obtain ⟨q3,d3,_,p4,s4,⟨a4,rfl,a40,a41⟩,hp4,rfl⟩:=za9 B p3 s3 hp3 hB 5 (by omega);have a42:=a41 (by omega);have u1:=w64 (x:=x0*2) (by omega) (by omega);have u2:=w64 (x:=100*a4) (by omega) (by omega);have u3:=w64 (x:=x0*2+100*a4) (by omega) (by omega);simp [-getElem?_pos,w0,w2,w3,w4,w5,w6,w7,w8,hT0,hT1,hT4,hT5,hSo3,hx0',hn0,hr,Z2,hT6,hT7,hr24',hr8,hsn1,hL,hY,zbn,d2,d3,u1,u2,u3,Z0];refine zah (k-1) (by omega) ⟨i+1,p4,s4,L++[r],Y++[x0*2+100*a4],.ref (t.nx+1) none t.ep 0 (i+1),.ref (t.nx+3) none t.ep 0 (i+1),by omega,by simp [hL],by simp [hY],?_,?_,by assumption,by simp [w0],by simp [w2],by simp [w3],by simp [w4],by simp [w5],by simp [w6],by simp,by simp; omega,by simp [Z0],by simp [Z0,hT1],by simp [Z0,hT4],by simp [Z0],.inr ⟨t.nx+1,t.ep,t.nx+3,t.ep,rfl,rfl,by omega,by simp,by omega,by simp,by omega,by simp [Z0]⟩⟩
      ·intro r' hr';rcases List.mem_append.mp hr' with hr' | hr'
       ·exact hLr r' hr'
       ·simp at hr'; subst hr'; exact ⟨hr,hrd⟩
      ·intro y' hy';rcases List.mem_append.mp hy' with hy' | hy'
       ·exact hYd y' hy'
       ·simp at hy'; subst hy'; exact zus (by omega) (by omega)
  ·have him:i=m:=by omega
   subst him;rcases hx with ⟨rfl,rfl,rfl,rfl⟩ | ⟨o1,e1,o2,e2,rfl,rfl,ho1,ho1x,ho2,ho2x,ho12,hSo1,hSo2⟩
   ·simp at hL; omega
   ·have n0a:(o1=0)=False:=eq_false (by omega);have n0b:(0=o1)=False:=eq_false (by omega);have n1a:(o1=1)=False:=eq_false (by omega);have n1b:(1=o1)=False:=eq_false (by omega);have n2a:(o1=4)=False:=eq_false (by omega);have n2b:(4=o1)=False:=eq_false (by omega);have n3a:(o1=5)=False:=eq_false (by omega);have n3b:(5=o1)=False:=eq_false (by omega);have n4a:(o2=0)=False:=eq_false (by omega);have n4b:(0=o2)=False:=eq_false (by omega);have n5a:(o2=1)=False:=eq_false (by omega);have n5b:(1=o2)=False:=eq_false (by omega);have n6a:(o2=4)=False:=eq_false (by omega);have n6b:(4=o2)=False:=eq_false (by omega);have n7a:(o2=5)=False:=eq_false (by omega);have n7b:(5=o2)=False:=eq_false (by omega);have n8a:(o1=o2)=False:=eq_false (by omega);have n8b:(o2=o1)=False:=eq_false (by omega);have hfin:=qgr hn1 hn3 hm1 hm40 hL hY hLr hYd;rw [<- hns] at hfin;have hq1:1<=o1:=by omega
    have hq2:1<=o2:=by omega
    simp [-getElem?_pos,z1b,zme,hq1,hq2,v0,v2,v4,v5,v7,h,hS0,hS1,hS4,hS5,hSo1,hSo2,hnl,hL,hY,n0a,n0b,n1a,n1b,n2a,n2b,n3a,n3b,n4a,n4b,n5a,n5b,n6a,n6b,n7a,n7b,n8a,n8b];exact ⟨_,p,s,hfin,hp,rfl⟩
 obtain ⟨r4,h4,v4,p4,s4,⟨b4,rfl⟩,hp4,rfl⟩:=zgq B p3 s3 hp3 hB 12 (by omega);refine zeu rfl rfl ?_;cases b3 with
 | false =>
  obtain ⟨m,hm⟩ : ∃ m:Nat,1+a2=m:=⟨(1+a2).toNat,by omega⟩;have w2:=w64 (x:=(m:Int)) (by omega) (by omega);simp [-getElem?_pos,zwb,zme,h1,h2,h3,h4,hnf,hm,w1,w2,hr0,hr1,hr2,hn4,hcut,ymg,hnl];exact key m b4 p4 s4 _ (by omega) (by omega) hp4 (by simp) (by simp) (by simp) (by simp) (by simp) (by simp) (by simp) (by simp) (by simp) (by simp) (by simp) (by simp)
 | true =>
  obtain ⟨r5,h5,v5,p5,s5,⟨a5,rfl,a50,a51⟩,hp5,rfl⟩:=za9 B p3 s3 hp3 hB 40 (by omega);have a52:=a51 (by omega);obtain ⟨m,hm⟩ : ∃ m:Nat,1+a5=m:=⟨(1+a5).toNat,by omega⟩;have w2:=w64 (x:=(m:Int)) (by omega) (by omega);have w3:=w64 (x:=1+a2) (by omega) (by omega);obtain ⟨r6,h6,v6,p6,s6,⟨b6,rfl⟩,hp6,rfl⟩:=zgq B p5 s5 hp5 hB 12 (by omega);simp [-getElem?_pos,zwb,zme,h1,h2,h3,h5,h6,hnf,hm,w1,w2,w3,hr0,hr1,hr2,hn4,hcut,ymg,hnl];exact key m b6 p6 s6 _ (by omega) (by omega) hp6 (by simp) (by simp) (by simp) (by simp) (by simp) (by simp) (by simp) (by simp) (by simp) (by simp) (by simp) (by simp)
def PGr (v:PV):Prop := ∃ c w:List (List Int),v = .agg [.own 1 (rws true c),.own 1 (rws true w)]/\c.length<=8/\w.length<=8/\(∀ l∈c,l.length<=64)/\∀ l∈w,l.length<=64
def PGs (v:PV):Prop := ∃ c w:List (List Int),v = .agg [.own 1 (rws true c),.own 1 (rws true w)]/\1<=c.length/\c.length<=4/\w.length=c.length/\(∀ l∈c,l.length<=8)/\∃ m:Nat,1<=m/\m<=40/\∀ l∈w,l.length=m/\∀ x∈l,0<=x/\x<=8
theorem y9i (B:List Int) (p:Nat) (s:Int) (hp:p<=B.length) (hB:B.length<=9223372036854775807) : ∃ r,RUN T zrq [.bx [.sl 1 (zbl B),iv p,iv s]]=some r/\zfk B PGs r:=by
 refine zeu rfl rfl ?_;obtain ⟨r1,h1,v1,p1,s1,⟨t,rfl,ht,hok⟩,hp1,rfl⟩:=ya0 B p s hp hB;obtain ⟨r2,h2,v2,p2,s2,⟨a2,rfl,a20,a21⟩,hp2,rfl⟩:=za9 B p1 s1 hp1 hB 5 (by omega);have a22:=a21 (by omega);have w1:=w64 (x:=2+a2) (by omega) (by omega);have h3:=yaz true t (2+a2) ⟨Nat.le_trans ht.ns (by omega),fun x hx=>Nat.le_trans (ht.ss x hx) (by omega),Nat.le_trans ht.nm (by omega),Nat.le_trans ht.rw (by omega),fun x hx=>Nat.le_trans (ht.rr x hx) (by omega),Nat.le_trans ht.lb (by omega)⟩;obtain ⟨t1,t2,t3,t4,t5,t6⟩:=zmk hok;have hbi:zaj (2+a2) 2 8=true:=zay.mpr (by omega);obtain ⟨l1,l2⟩:=yq7 hok hbi;obtain ⟨l3,l4⟩:=ynm (t:=t) (b:=2+a2);have l5:=qej (t:=t) (b:=2+a2);generalize zbo t (2+a2)=c at *;generalize zbp t (2+a2)=w at *;simp only [taO,taS] at h1 h3;simp [-getElem?_pos,z2e,zh2,h1,h2,h3,w1];exact ⟨_,p2,s2,⟨c,w,rfl,by omega,by omega,by omega,fun l hl=>Nat.le_trans (l3 l hl) (by omega),t.rw.length,t3,t4,fun l hl=>⟨l4 l hl,l5 l hl⟩⟩,hp2,rfl⟩
theorem zjk {α:Type} {P:α->Prop} {c:List α} {f:Nat} {x:α} (h : ∀ l∈c,P l) (hx:P x) : ∀ l∈c.set f x,P l:=fun l hl=>by
 rcases List.mem_or_eq_of_mem_set hl with hl | hl
 ·exact h l hl
 ·subst hl; exact hx
theorem zqb {α:Type} {P:α->Prop} {c:List α} {x:α} (h : ∀ l∈c,P l) (hx:P x) : ∀ l∈c++[x],P l:=fun l hl=>by
 rcases List.mem_append.mp hl with hl | hl
 ·exact h l hl
 ·simp at hl; subst hl; exact hx
theorem y9j (B:List Int) (p:Nat) (s:Int) (hp:p<=B.length) (hB:B.length<=9223372036854775807) : ∃ r,RUN T zq1 [.bx [.sl 1 (zbl B),iv p,iv s]]=some r/\zfk B PGr r:=by
 refine zeu rfl rfl ?_;obtain ⟨r1,h1,v1,p1,s1,⟨c,w,rfl,hc1,hc4,hwc,hc8,m,hm1,hm40,hwm⟩,hp1,rfl⟩:=y9i B p s hp hB;obtain ⟨r2,h2,v2,p2,s2,⟨a2,rfl,a20,a21⟩,hp2,rfl⟩:=za9 B p1 s1 hp1 hB c.length (by omega);have a22:=a21 (by omega);obtain ⟨f,rfl⟩ : ∃ f:Nat,a2=f:=⟨a2.toNat,by omega⟩;obtain ⟨r3,h3,v3,p3,s3,⟨d,rfl,d0,d1⟩,hp3,rfl⟩:=za9 B p2 s2 hp2 hB 14 (by omega);have Z0:=bI h1 <| bI h2 h3
 have hf:f<c.length:=by omega
 have hfw:f<w.length:=by omega
 obtain ⟨l,hl⟩ : ∃ l,c[f]?=some l:=⟨_,bG hf⟩;obtain ⟨u,hu⟩ : ∃ u,w[f]?=some u:=⟨_,bG hfw⟩;have hl8:=hc8 l (bF hl);obtain ⟨hum,hub⟩:=hwm u (bF hu);have hl':=zc3 (q:=true) hl;have hu':=zc3 (q:=true) hu;simp only [cel,if_true] at hl' hu';have cA : ∀ l∈c,l.length<=64:=fun l hl=>by have:=hc8 l hl; omega
 have wA : ∀ l∈w,l.length<=64:=fun l hl=>by have:=(hwm l hl).1; omega
 have hr1:zag 8 1=true:=by decide
 have hr0:zag 8 0=true:=by decide
 have hr5:zag 8 5=true:=by decide
 have hr24:zag 24 1=true:=by decide
 have hr240:zag 24 0=true:=by decide
 have hrl:=zbv (n:=l.length+1) (by omega);have hru:=zbv (n:=u.length+1) (by omega);have hrc:zag 24 (c.length+1)=true:=by simp [zag]; omega
 have hrw:zag 24 (w.length+1)=true:=by simp [zag]; omega
 by_cases e0:d=0
 ·subst e0;obtain ⟨r4,h4,v4,p4,s4,⟨x,rfl,hx⟩,hp4,rfl⟩:=yay B p3 s3 hp3 hB;have hsn:=zbn l x;have hset:=zpv c f (l++[x]);simp [-getElem?_pos,zh1,zh2,zbd,zbx,Z0,h4,hf,hl',hr1,hrl,hsn,hset];exact ⟨_,p4,s4,⟨c.set f (l++[x]),w,rfl,by simp; omega,by omega,zjk cA (by simp; omega),wA⟩,hp4,rfl⟩
 by_cases e1:d=1
 ·subst e1;obtain ⟨r4,h4,v4,p4,s4,⟨x,rfl,hx⟩,hp4,rfl⟩:=zfr B p3 s3 hp3 hB [0,1,-1,8,9223372036854775807] (by simp);simp only [zab,List.map] at h4;obtain ⟨y,hy⟩ : ∃ y,u[0]?=some y:=⟨_,bG (by omega)⟩;have hy':=zax hy;have hu0:0<u.length:=by omega
  have hset0:=zyf u 0 x;have hset:=zpv w f (u.set 0 x);simp [-getElem?_pos,zh1,zh2,zbd,zbx,Z0,h4,hf,hfw,hu',hy',hu0,hr5,hset0,hset];exact ⟨_,p4,s4,⟨c,w.set f (u.set 0 x),rfl,by omega,by simp; omega,cA,zjk wA (by simp; omega)⟩,hp4,rfl⟩
 by_cases e2:d=2
 ·subst e2;have hsn:=zbn u 0;have hset:=zpv w f (u++[0]);simp [-getElem?_pos,zh1,zh2,zbd,zbx,Z0,hf,hfw,hu',hr1,hru,hsn];exact ⟨_,p3,s3,⟨c,w.set f (u++[0]),by rw [<- hset],by omega,by simp; omega,cA,zjk wA (by simp; omega)⟩,hp3,rfl⟩
 by_cases e3:d=3
 ·subst e3;have hsn:=zml w [0];simp only [zab,List.map] at hsn;simp [-getElem?_pos,zh1,zh2,Z0,hr1,hr24,hrw,hsn];exact ⟨_,p3,s3,⟨c,w++[[0]],rfl,by omega,by simp; omega,cA,zqb wA (by simp)⟩,hp3,rfl⟩
 by_cases e4:d=4
 ·subst e4;have hsn:=zml c [];simp only [zab,List.map] at hsn;simp [-getElem?_pos,zh1,zh2,Z0,hr0,hr24,hrc,hsn];exact ⟨_,p3,s3,⟨c++[[]],w,rfl,by simp; omega,by omega,zqb cA (by simp),wA⟩,hp3,rfl⟩
 by_cases e5:d=5
 ·subst e5;simp [-getElem?_pos,zh1,zh2,Z0,hr240];exact ⟨_,p3,s3,⟨c,[],rfl,by omega,by simp,cA,by simp⟩,hp3,rfl⟩
 by_cases e6:d=6
 ·subst e6;have w1:=w64 (x:=(l.length:Int)+1) (by omega) (by omega);obtain ⟨r4,h4,v4,p4,s4,⟨x,rfl,x0,x1⟩,hp4,rfl⟩:=za9 B p3 s3 hp3 hB ((l.length:Int)+1) (by omega);have x2:=x1 (by omega);obtain ⟨k,rfl⟩ : ∃ k:Nat,x=k:=⟨x.toNat,by omega⟩;have hkl:k<=l.length:=by omega
  have hcut:(if k=l.length then zab l else List.take k (zab l))=zab (l.take k):=by
   split
   ·rename_i e; rw [e,List.take_length]
   ·simp [zab,List.map_take]
  have hset:=zpv c f (l.take k);simp [-getElem?_pos,zh1,zh2,zbd,zbx,Z0,h4,hf,hl',w1,hkl,hcut,hset];exact ⟨_,p4,s4,⟨c.set f (l.take k),w,rfl,by simp; omega,by omega,zjk cA (by simp; omega),wA⟩,hp4,rfl⟩
 ·simp [-getElem?_pos,zh1,zh2,Z0,e0,e1,e2,e3,e4,e5,e6];exact ⟨_,p3,s3,⟨c,w,rfl,by omega,by omega,cA,wA⟩,hp3,rfl⟩
def ze4:List Sl->Int
 | []=>0
 | x::xs=>x.n+ze4 xs
def ze9:List Sl->Int
 | []=>0
 | x::xs=>x.g+ze9 xs
theorem yd3 : ∀ {l:List Sl} {i:Nat} {s t:Sl},l[i]?=some s->ze4 (l.set i t)=ze4 l-s.n+t.n/\ze9 (l.set i t)=ze9 l-s.g+t.g
 | [],i,s,t,h=>by simp at h
 | x::xs,0,s,t,h=>by
  simp at h; subst h;simp only [List.set_cons_zero,ze4,ze9]; omega
 | x::xs,i+1,s,t,h=>by
  have h':xs[i]?=some s:=by simpa using h
  have:=yd3 (t:=t) h';simp only [List.set_cons_succ,ze4,ze9]; omega
theorem ymy (n:Nat):ze4 (List.replicate n ⟨0,0⟩)=0/\ze9 (List.replicate n ⟨0,0⟩)=0:=by
 induction n with
 | zero=>exact ⟨rfl,rfl⟩
 | succ n ih=>simp only [List.replicate_succ,ze4,ze9]; omega
theorem yq8 {a b:Int} (h:(adi a b).2=true):(adi a b).1=a+b:=by
 unfold adi at h ⊢;split
 ·rfl
 ·rename_i hc; rw [if_neg hc] at h; cases h
theorem z86 {a b:Sl} (h:(zbk a b).2=true):(zbk a b).1.n=a.n+b.n/\(zbk a b).1.g=a.g+b.g:=by
 unfold zbk at h ⊢;split
 ·rename_i hc;simp only [Bool.and_eq_true] at hc;exact ⟨yq8 hc.1,yq8 hc.2⟩
 ·rename_i hc; rw [if_neg hc] at h; cases h
def zg2 (g rows:List Int):Int:=(rows.map fun r=>(atI g r).getD 0).sum
theorem z85 (g:List Int) (r:Int) (rs:List Int):zg2 g (r::rs)=(atI g r).getD 0+zg2 g rs:=by simp [zg2]
theorem yqr {b g:List Int} : ∀ (rows:List Int) (h h':List Sl),zck b g rows h=some h'->ze4 h'=ze4 h+rows.length/\ze9 h'=ze9 h+zg2 g rows
 | [],h,h',e=>by
  simp only [zck,bC] at e;subst e;simp [zg2]
 | r::rs,h,h',e=>by
  unfold zck at e;cases hx:atI b r with
  | none=>rw [hx] at e; cases e
  | some x =>
   cases hy:atI g r with
   | none=>rw [hx,hy] at e; cases e
   | some y =>
    rw [hx,hy] at e;simp only at e;cases hs:atI h x with
    | none=>rw [hs] at e; cases e
    | some s =>
     rw [hs] at e;simp only at e;split at e
     ·rename_i hp;obtain ⟨p1,p2⟩:=z86 hp;obtain ⟨e1,e2⟩:=yqr rs _ _ e;obtain ⟨j,rfl,hjs,_⟩:=zgn hs;rw [Int.toNat_natCast] at e1 e2;obtain ⟨q1,q2⟩:=yd3 (t:=(zbk s ⟨1,y⟩).1) hjs;simp only [z85,hy,Option.getD_some,List.length_cons];simp only at p1 p2;omega
     ·cases e
theorem ysh : ∀ (h:List Sl) (s:Sl) (l:List Sl),zc6 s h=some l->(l.getLast?.getD s).n=s.n+ze4 h/\(l.getLast?.getD s).g=s.g+ze9 h
 | [],s,l,e=>by
  simp only [zc6,bC] at e;subst e;simp [ze4,ze9]
 | x::xs,s,l,e=>by
  unfold zc6 at e;split at e
  ·rename_i hp;obtain ⟨p1,p2⟩:=z86 hp;simp only [bB] at e;obtain ⟨l',h1,rfl⟩:=e;obtain ⟨q1,q2⟩:=ysh xs _ _ h1;rw [List.getLast?_cons,Option.getD_some];simp only [ze4,ze9];omega
  ·cases e
theorem qeh {b g rows:List Int} {k:Int} (h:(zci b g rows k).2=true):ze4 (zci b g rows k).1=rows.length/\ze9 (zci b g rows k).1=zg2 g rows:=by
 unfold zci at h ⊢;split at h
 ·rename_i hc;rw [if_pos hc];cases e:zck b g rows (List.replicate k.toNat ⟨0,0⟩) with
  | none=>rw [e] at h; cases h
  | some h' =>
   obtain ⟨h1,h2⟩:=yqr rows _ _ e;obtain ⟨h3,h4⟩:=ymy k.toNat;simp only;omega
 ·cases h
theorem yms : ∀ (h:List Sl) (s:Sl) (l:List Sl),zc6 s h=some l->∀ (b:Nat) (x:Sl),l[b]?=some x->x.n=s.n+ze4 (h.take (b+1))/\x.g=s.g+ze9 (h.take (b+1))
 | [],s,l,e,b,x,hx=>by simp only [zc6,bC] at e; subst e; simp at hx
 | y::ys,s,l,e,b,x,hx=>by
  unfold zc6 at e;split at e
  ·rename_i hp;obtain ⟨p1,p2⟩:=z86 hp;simp only [bB] at e;obtain ⟨l',h1,rfl⟩:=e;cases b with
   | zero =>
    simp at hx;subst hx;simp [ze4,ze9,p1,p2]
   | succ b =>
    have hx':l'[b]?=some x:=by simpa using hx
    obtain ⟨q1,q2⟩:=yms ys _ _ h1 b x hx';rw [List.take_succ_cons];simp only [ze4,ze9];omega
  ·cases e
theorem yqp {bins g:List Int} : ∀ (rows:List Int) (h h':List Sl),zck bins g rows h=some h'->∀ b:Nat,ze4 (h'.take (b+1))=ze4 (h.take (b+1))+(zcq bins rows b).length/\ze9 (h'.take (b+1))=ze9 (h.take (b+1))+zg2 g (zcq bins rows b)
 | [],h,h',e,b=>by
  simp only [zck,bC] at e;subst e;simp [zg2,zcq]
 | r::rs,h,h',e,b=>by
  unfold zck at e;cases hx:atI bins r with
  | none=>rw [hx] at e; cases e
  | some x =>
   cases hy:atI g r with
   | none=>rw [hx,hy] at e; cases e
   | some y =>
    rw [hx,hy] at e;simp only at e;cases hs:atI h x with
    | none=>rw [hs] at e; cases e
    | some s =>
     rw [hs] at e;simp only at e;split at e
     ·rename_i hp;obtain ⟨p1,p2⟩:=z86 hp;obtain ⟨e1,e2⟩:=yqp rs _ _ e b;obtain ⟨j,rfl,hjs,_⟩:=zgn hs;rw [Int.toNat_natCast,List.take_set] at e1 e2;simp only at p1 p2;have hB:ziy bins b r=decide ((j:Int)<=b):=by unfold ziy; rw [hx]
      by_cases hjb:j<=b
      ·have hB':ziy bins b r=true:=by rw [hB]; simpa using hjb
       have hk:(h.take (b+1))[j]?=some s:=by rw [List.getElem?_take_of_lt (by omega)]; exact hjs
       obtain ⟨q1,q2⟩:=yd3 (t:=(zbk s ⟨1,y⟩).1) hk;have hf:zcq bins (r::rs) b=r::zcq bins rs b:=by unfold zcq; rw [List.filter_cons,if_pos hB']
       rw [hf,z85,hy,Option.getD_some,List.length_cons];omega
      ·have hB' : ¬ ziy bins b r=true:=by rw [hB]; simpa using hjb
       have hf:zcq bins (r::rs) b=zcq bins rs b:=by unfold zcq; rw [List.filter_cons,if_neg hB']
       rw [List.set_eq_of_length_le (by simp; omega)] at e1 e2;rw [hf];exact ⟨e1,e2⟩
     ·cases e
theorem yom {bins g:List Int} : ∀ (rows:List Int) (h h':List Sl),zck bins g rows h=some h'->∀ r∈rows,∃ x,atI bins r=some x
 | [],h,h',e,r,hr=>by cases hr
 | r0::rs,h,h',e,r,hr=>by
  unfold zck at e;split at e
  ·rename_i x y hx hy;split at e
   ·split at e
    ·rcases List.mem_cons.mp hr with rfl | hr
     ·exact ⟨x,hx⟩
     ·exact yom rs _ _ e r hr
    ·cases e
   ·cases e
  ·cases e
theorem ytr {bins g:List Int} {b:Int} : ∀ rows:List Int,(∀ r∈rows,∃ x,atI bins r=some x)->(zcq bins rows b).length+(zed bins rows b).length=rows.length/\zg2 g (zcq bins rows b)+zg2 g (zed bins rows b)=zg2 g rows
 | [],_=>by simp [zcq,zed,zg2]
 | r::rs,h=>by
  obtain ⟨x,hx⟩:=h r (by simp);obtain ⟨h1,h2⟩:=ytr (b:=b) (g:=g) rs (fun r hr=>h r (by simp [hr]));have hB:ziy bins b r=decide (x<=b):=by unfold ziy; rw [hx]
  have hC:zpp bins b r = !decide (x<=b):=by unfold zpp; rw [hx]
  unfold zcq zed at *;rw [List.filter_cons,List.filter_cons,hB,hC]
  by_cases hxb:x<=b
  ·simp only [decide_eq_true hxb,Bool.not_true,Bool.false_eq_true,if_true,if_false,z85,List.length_cons];omega
  ·simp only [decide_eq_false hxb,Bool.not_false,Bool.false_eq_true,if_true,if_false,z85,List.length_cons];omega
theorem ybg {f:Int} {all:Sl} {least:Int} {p:Cnd->Prop} {l:List Sl} (hp : ∀ (b:Nat) (x:Sl),l[b]?=some x->(zd8 all x).2=true->p ⟨f,b,x,(zd8 all x).1⟩) : ∀ (k i:Nat) (acc a:List Cnd),i+k=l.length->(∀ x∈acc,p x)->zfl f all least i (l.drop i) acc=some a->∀ x∈a,p x
 | 0,i,acc,a,hk,ha,h=>by
  rw [zu8 acc (by omega)] at h;cases h;exact ha
 | k+1,i,acc,a,hk,ha,h=>by
  by_cases hi:i+1<l.length
  ·obtain ⟨x,hx⟩ : ∃ x,l[i]?=some x:=⟨_,bG (by omega)⟩;rw [z87 acc hx hi] at h;split at h
   ·rename_i hm;split at h
    ·exact ybg hp k (i+1) _ _ (by omega) (fun y hy=>by
      rcases List.mem_append.mp hy with e | e
      ·exact ha y e
      ·simp only [List.mem_singleton] at e; subst e; exact hp i x hx hm) h
    ·exact ybg hp k (i+1) _ _ (by omega) ha h
   ·cases h
  ·rw [zu8 acc hi] at h;cases h;exact ha
def z7r (H:List (List Sl)) (x:Cnd):Prop := ∃ (f b:Nat) (h:List Sl),x.f=f/\x.b=b/\H[f]?=some h/\(zcm h).2=true/\(zcm h).1[b]?=some x.a/\(zd8 (zg7 (zcm h).1) x.a).2=true/\x.z=(zd8 (zg7 (zcm h).1) x.a).1
theorem yns {least:Int} {H:List (List Sl)} : ∀ (k i:Nat) (acc a:List Cnd),i+k=H.length->(∀ x∈acc,z7r H x)->zd4 least i (H.drop i) acc=some a->∀ x∈a,z7r H x
 | 0,i,acc,a,hk,ha,h=>by
  rw [List.drop_eq_nil_of_le (by omega),zd4] at h;cases h;exact ha
 | k+1,i,acc,a,hk,ha,h=>by
  obtain ⟨l,hx⟩ : ∃ x,H[i]?=some x:=⟨_,bG (by omega)⟩;rw [z8b acc hx] at h;split at h
  ·rename_i hp;split at h
   ·rename_i a' h';have h'':zfl i (zg7 (zcm l).1) least ((0:Nat):Int) ((zcm l).1.drop 0) acc=some a':=by simpa using h'
    exact yns k (i+1) a' a (by omega) (ybg (p:=z7r H) (fun b x hb hm=>⟨i,b,l,rfl,rfl,hx,hp,hb,hm,rfl⟩) (zcm l).1.length 0 acc a' (by omega) ha h'') h
   ·cases h
  ·cases h
theorem qgd {least:Int} {H:List (List Sl)} : ∀ x∈zev H least,z7r H x:=by
 unfold zev;cases h:zd4 least 0 H [] with
 | none=>simp
 | some a =>
  have h':zd4 least ((0:Nat):Int) (H.drop 0) []=some a:=by simpa using h
  exact yns H.length 0 [] a (by omega) (fun x hx=>by cases hx) h'
theorem yt2 {a b:Int} (h:(sbi a b).2=true):(sbi a b).1=a-b:=by
 unfold sbi at h ⊢;split
 ·rfl
 ·rename_i hc; rw [if_neg hc] at h; cases h
theorem qgt {a b:Sl} (h:(zd8 a b).2=true):(zd8 a b).1.n=a.n-b.n/\(zd8 a b).1.g=a.g-b.g:=by
 unfold zd8 at h ⊢;split
 ·rename_i hc;simp only [Bool.and_eq_true] at hc;exact ⟨yt2 hc.1,yt2 hc.2⟩
 ·rename_i hc; rw [if_neg hc] at h; cases h
theorem yry {g rows:List Int} : ∀ (c v:List (List Int)) (H:List (List Sl)) (f:Nat) (h:List Sl),zb2 g rows c v=some H->H[f]?=some h->∃ x y:List Int,v[f]?=some y/\(zci y g rows (x.length+1:Nat)).2=true/\h=(zci y g rows (x.length+1:Nat)).1
 | [],v,H,f,h,e,hf=>by simp [zb2] at e; subst e; simp at hf
 | x::c,[],H,f,h,e,hf=>by simp [zb2] at e; subst e; simp at hf
 | x::c,y::v,H,f,h,e,hf=>by
  simp only [zb2] at e;split at e
  ·rename_i hp;simp only [bB] at e;obtain ⟨H',h1,rfl⟩:=e;cases f with
   | zero =>
    simp at hf;exact ⟨x,y,rfl,by simpa using hp,by rw [<- hf]; simp⟩
   | succ f =>
    simp at hf;obtain ⟨x',y',h2,h3⟩:=yry c v H' f h h1 hf;exact ⟨x',y',by simpa using h2,h3⟩
  ·cases e
theorem qad {c v:List (List Int)} {g:List Int} {cfg:Cfg} {rows:List Int} {b:Bd} (h:(zbh c v g cfg rows b).2=true) : ∃ (f k:Nat) (y:List Int),(zbh c v g cfg rows b).1.f=f/\(zbh c v g cfg rows b).1.b=k/\v[f]?=some y/\zey g (zcq y rows k)=(zbh c v g cfg rows b).1.a/\zey g (zed y rows k)=(zbh c v g cfg rows b).1.z:=by
 obtain ⟨h1,h2⟩:=yps h;have hc:(zbh c v g cfg rows b).1∈zev (zby c v g rows).1 cfg.rw:=by
  unfold zbh at h ⊢;split
  ·rename_i e1;rw [if_pos e1,if_pos h2] at h;exact (ysj h).1
  ·rename_i e1;rw [if_neg e1] at h; cases h
 obtain ⟨f,k,l,e1,e2,e3,e4,e5,e6,e7⟩:=qgd _ hc;have hN : ∃ H,zb2 g rows c v=some H/\(zby c v g rows).1=H:=by
  unfold zby at h2 ⊢;split at h2
  ·rename_i hg;rw [if_pos hg];cases e:zb2 g rows c v with
   | none=>rw [e] at h2; cases h2
   | some H=>exact ⟨H,rfl,rfl⟩
  ·cases h2
 obtain ⟨H,hH,hH2⟩:=hN;rw [hH2] at e3;obtain ⟨x,y,hy,hok,rfl⟩:=yry c v H f l hH e3;generalize (zbh c v g cfg rows b).1=C at *;obtain ⟨Cf,Cb,Ca,Cz⟩:=C;simp only at e1 e2 e5 e6 e7 ⊢;refine ⟨f,k,y,e1,e2,hy,?_⟩;have ⟨hs1,hs2⟩:=qeh hok;unfold zci at hok e4 e5 e6 e7 hs1 hs2;split at hok
 ·rename_i hw;rw [if_pos hw] at e4 e5 e6 e7 hs1 hs2;cases eh:zck y g rows (List.replicate (((x.length+1:Nat):Int)).toNat ⟨0,0⟩) with
  | none=>rw [eh] at hok; cases hok
  | some hh =>
   rw [eh] at e4 e5 e6 e7 hs1 hs2;simp only at e4 e5 e6 e7 hs1 hs2;obtain ⟨t1,t2⟩:=yqp rows _ _ eh k;rw [List.take_replicate] at t1 t2;obtain ⟨z1,z2⟩:=ymy (min (k+1) (((x.length+1:Nat):Int)).toNat);rw [z1] at t1;rw [z2] at t2;have hval:=yom rows _ _ eh;obtain ⟨a1,a2⟩:=ytr (g:=g) (b:=(k:Int)) rows hval;unfold zcm at e4 e5 e6 e7;cases ep:zc6 ⟨0,0⟩ hh with
   | none=>rw [ep] at e4; cases e4
   | some pl =>
    rw [ep] at e5 e6 e7;simp only at e5 e6 e7;obtain ⟨p1,p2⟩:=yms hh _ _ ep k Ca e5;obtain ⟨m1,m2⟩:=qgt e6;obtain ⟨q1,q2⟩:=ysh hh _ _ ep;rw [<- e7] at m1 m2;simp only [zg7] at m1 m2;obtain ⟨an,ag⟩:=Ca;obtain ⟨zn,zg⟩:=Cz;simp only at p1 p2 q1 q2 m1 m2;unfold zey;have g1 : ∀ r:List Int,(r.map fun r=>(atI g r).getD 0).sum=zg2 g r:=fun r=>rfl;rw [g1,g1];simp only [Sl.mk.injEq];omega
 ·cases hok
theorem qg6 (cs:List PV) (h:zcc [.int .u8] cs) : ∃ n:Int,[PV.v (.int .u8 n)]=cs/\True:=by
 simp only [zcc,Shp] at h;obtain ⟨_,_,rfl,⟨a,rfl,h1⟩,rfl⟩:=h;exact ⟨a,rfl,trivial⟩
theorem qbe {c:PV} (h:zmu false [.sl [.int .u8]] c) : ∃ B:List Int,c = .sl 1 (zbl B)/\B.length<=9223372036854775807:=by
 simp only [zmu,Bool.false_eq_true,if_false,zcc,Shp] at h;obtain ⟨c',r,e,⟨es,he,h1,h2⟩,hr⟩:=h;simp only [List.cons.injEq] at e;obtain ⟨l,hl,hp⟩:=yt3 (f:=fun n:Int=>[PV.v (.int .u8 n)]) (tys:=[.int .u8]) qg6 h2;subst hl;simp [maxLen] at h1;exact ⟨l,e.1.trans he,by omega⟩
inductive SN where
 | mk (f c v:Int) (ks:List SN)
def yb0 (q:Bool) (es:List (List PV)):PV:=if q then .own 4 es else .sl 4 es
mutual
def snC (q:Bool):SN->List PV
 | .mk f c v ks=>[iv f,iv c,iv v,yb0 q (snL q ks)]
def snL (q:Bool):List SN->List (List PV)
 | []=>[]
 | s::ss=>snC q s::snL q ss
end
theorem yri (q:Bool) : ∀ ks:List SN,snL q ks=ks.map (snC q)
 | []=>by simp [snL]
 | k::ks=>by simp [snL,yri q ks]
@[simp] theorem q25 (q:Bool) (ks:List SN):(snL q ks).length=ks.length:=by rw [yri]; simp
@[simp] theorem qp4 (q:Bool) (es:List (List PV)):fz (yb0 q es) = .sl 4 es:=by cases q <;> simp [yb0]
theorem qhm {c:Cfg} (h:zb7 c=true):1<=c.la/\c.la<=100/\0<=c.de/\c.de<=4:=by
 unfold zb7 at h;simp only [Bool.and_eq_true,zay] at h;omega
def ynb (v:List (List Int)) (g rows:List Int) (f k:Nat):Cnd:=⟨f,k,zey g (zcq (v.getD f []) rows k),zey g (zed (v.getD f []) rows k)⟩
def NI (S:Nat->Option Ob) (nx k:Nat) (m:List Int) (x:PV):Prop:=(x = .e0/\m=[])\/∃ o e,x = .ref o none e 0 m.length/\k<o/\o<nx/\S o=some (.row 1 (zab m))
theorem NI.up {S S':Nat->Option Ob} {nx nx' k:Nat} {l:List Int} {Y:PV} (h:NI S nx k l Y) (hn:nx<=nx') (hS : ∀ o e n,Y = .ref o none e 0 n->k<o->o<nx->S' o=S o):NI S' nx' k l Y:=by
 rcases h with h | ⟨o,e,h1,h2,h3,h4⟩
 ·exact .inl h
 ·exact .inr ⟨o,e,h1,h2,by omega,by rw [hS o e _ h1 h2 h3]; exact h4⟩
structure GH (c v:List (List Int)) (g:List Int) (cfg:Cfg):Prop where
 tk:zgp c v g cfg=true
 sg:cfg.sg.length<=1048576
theorem GH.la {c v:List (List Int)} {g:List Int} {cfg:Cfg} (h:GH c v g cfg):1<=cfg.la/\cfg.la<=100/\0<=cfg.de/\cfg.de<=4:=qhm (zx9 h.tk).2.1
def WB (v:List (List Int)) (g rows:List Int) (la:Int) (S:Nat->Option Ob) (nx:Nat) (acc:Option Cnd) (B:List PV) (fd:PV):Prop:=(acc=none/\B=[iv 0,iv 0,.e0,.e0,bv false,uv 0,uv 0,iv 0]/\fd=bv false)\/∃ (f k o e p e':Nat),acc=some (ynb v g rows f k)/\B=[iv f,iv k,.ref o none e 0 (zcq (v.getD f []) rows k).length,.ref p none e' 0 (zed (v.getD f []) rows k).length]++frc (zcb (ynb v g rows f k) la).1/\fd=bv true/\4<o/\o<nx/\4<p/\p<nx/\¬ o=p/\S o=some (.row 1 (zab (zcq (v.getD f []) rows k)))/\S p=some (.row 1 (zab (zed (v.getD f []) rows k)))
theorem WB.up {v:List (List Int)} {g rows:List Int} {la:Int} {S S':Nat->Option Ob} {nx nx':Nat} {acc:Option Cnd} {B:List PV} {fd:PV} (h:WB v g rows la S nx acc B fd) (hn:nx<=nx') (hS : ∀ o,4<o->o<nx->S' o=S o):WB v g rows la S' nx' acc B fd:=by
 rcases h with h | ⟨f,k,o,e,p,e',h1,h2,h3,h4,h5,h6,h7,h8,h9,h10⟩
 ·exact .inl h
 ·exact .inr ⟨f,k,o,e,p,e',h1,h2,h3,h4,by omega,h6,by omega,h8,by rw [hS o h4 h5]; exact h9,by rw [hS p h6 h7]; exact h10⟩
theorem NC.up {S S':Nat->Option Ob} {nx nx' oq oq':Nat} {m:List Nd} {x:PV} (h:NC S nx oq m x) (hn:nx<=nx') (ho:oq'=oq\/nx<=oq') (hS : ∀ p,5<p->p<nx->¬ p=oq->S' p=S p):NC S' nx' oq' m x:=by
 rcases h with h | ⟨p,e,h1,h2,h3,h4,h5⟩
 ·exact .inl h
 ·exact .inr ⟨p,e,h1,h2,by omega,by omega,by rw [hS p h2 h3 h4]; exact h5⟩
def okP (g:List Int) (cfg:Cfg) (x:Pnd):Prop:=zx5 g.length cfg.de x/\zg6 x.b=true
def Str (c v:List (List Int)) (g:List Int) (cfg:Cfg) (Q:List Pnd) (F:List Nd) (j:Nat):Prop := ∃ (x:Pnd) (L:Nat),Q[j]?=some x/\okP g cfg x/\F[j]?=some (if goes c v g cfg x=true then zm2 c (zbh c v g cfg x.r x.b).1 L else zdh g cfg x)/\(goes c v g cfg x=true->j<L/\Q[L]?=some (zjd c v cfg x (zbh c v g cfg x.r x.b).1)/\Q[L+1]?=some (zi5 c v cfg x (zbh c v g cfg x.r x.b).1))
theorem z9n {α:Type} {l m:List α} {i:Nat} {x:α} (h:l[i]?=some x):(l++m)[i]?=some x:=by
 rw [List.getElem?_append_left (bD h).1]; exact h
theorem Str.up {c v:List (List Int)} {g:List Int} {cfg:Cfg} {Q R:List Pnd} {F E:List Nd} {j:Nat} (h:Str c v g cfg Q F j):Str c v g cfg (Q++R) (F++E) j:=by
 obtain ⟨x,L,h1,h2,h3,h4⟩:=h;exact ⟨x,L,z9n h1,h2,z9n h3,fun hg=>⟨(h4 hg).1,z9n (h4 hg).2.1,z9n (h4 hg).2.2⟩⟩
def inR (R x:Int):Prop := -R<=x/\x<=R
def bdR (R:Int) (b:Bd):Prop:=b.lo<=R /\ -R<=b.hi
theorem yd1 {a m R:Int} (hm:0<m) (h1 : -(R*m)<=a) (h2:a<=R*m):inR R (a.fdiv m):=by
 rw [Int.fdiv_eq_ediv_of_nonneg _ (by omega)];exact ⟨(Int.le_ediv_iff_mul_le hm).mpr (by rw [Int.neg_mul]; exact h1),Int.ediv_le_of_le_mul hm h2⟩
theorem zhp {R:Int} (h:0<=R):inR R 0:=⟨by omega,h⟩
theorem ypr {R x:Int} {b:Bd} (h:inR R x) (hb:bdR R b):inR R (zfp x b.lo b.hi):=by
 unfold zfp inR bdR at *;split
 ·omega
 ·split <;> omega
theorem qgo {R:Int} {g:List Int} (hR:0<=R) (hg : ∀ x∈g,inR R x) (r:Int):inR R ((atI g r).getD 0):=by
 unfold atI;split
 ·cases h:g[r.toNat]? with
  | none=>exact zhp hR
  | some x=>exact hg x (bF h)
 ·exact zhp hR
theorem ynk {R:Int} {g:List Int} (hR:0<=R) (hg : ∀ x∈g,inR R x) : ∀ rows:List Int,-(R*rows.length)<=(zey g rows).g/\(zey g rows).g<=R*rows.length
 | []=>by simp [zey]
 | r::rs=>by
  have ih:=ynk hR hg rs;have h1:=qgo hR hg r;have e:R*((r::rs).length:Int)=R*rs.length+R:=by
   simp only [List.length_cons]; push_cast; rw [Int.mul_add,Int.mul_one]
  rw [e];unfold inR at h1;simp only [zey,List.map_cons,List.sum_cons] at *;omega
theorem ydm {R:Int} {g:List Int} (hR:0<=R) (hg : ∀ x∈g,inR R x) (rows:List Int) (l:Int) {b:Bd} (hb:bdR R b):inR R (zeg (zey g rows) l b).1:=by
 unfold zeg;split
 ·rename_i hc;simp only [Bool.and_eq_true] at hc;have h1:=hc.1;unfold zik at h1;simp only [Bool.and_eq_true] at h1;have hn:=zay.mp h1.1;have hl:=zay.mp h1.2;refine ypr ?_ hb;unfold fdv;split
  ·exact zhp hR
  ·obtain ⟨s1,s2⟩:=ynk hR hg rows;have e:(zey g rows).n=rows.length:=rfl;rw [e];have hm:R*rows.length<=R*(rows.length+l):=Int.mul_le_mul_of_nonneg_left (by omega) hR;exact yd1 (by omega) (by omega) (by omega)
 ·exact zhp hR
theorem qfr {R:Int} {c v:List (List Int)} {g rows:List Int} {cfg:Cfg} {b:Bd} (hR:0<=R) (hg : ∀ x∈g,inR R x) (hb:bdR R b) (h:(zbh c v g cfg rows b).2=true):inR R (zb1 cfg b (zbh c v g cfg rows b).1).1/\inR R (zb1 cfg b (zbh c v g cfg rows b).1).2.1:=by
 obtain ⟨f,k,y,_,_,_,ha,hz⟩:=qad h;unfold zb1;rw [<- ha,<- hz];split
 ·exact ⟨ydm hR hg _ _ hb,ydm hR hg _ _ hb⟩
 ·exact ⟨zhp hR,zhp hR⟩
theorem qc9 {R s l r:Int} {b:Bd} (hb:bdR R b) (hl:inR R l) (hr:inR R r):bdR R (zfg s b l r).1/\bdR R (zfg s b l r).2:=by
 have hh:inR R (zf9 l r):=by unfold zf9 inR at *; omega
 have hm:=ypr hh hb;unfold zfg;generalize zfp (zf9 l r) b.lo b.hi=m at *;unfold inR bdR at *;split
 ·split
  ·simp only; omega
  ·split <;> simp only <;> omega
 ·simp only; omega
theorem ybn {R:Int} {c v:List (List Int)} {g:List Int} {cfg:Cfg} (hR:0<=R) (hg : ∀ x∈g,inR R x) : ∀ (n:Nat) (q:List Pnd) (i:Nat) (out:List Nd),(∀ x∈q,bdR R x.b)->(∀ x∈out,inR R x.v)->∀ x∈zdv c v g cfg n q i out,inR R x.v
 | 0,q,i,out,_,ho=>ho
 | n+1,q,i,out,hq,ho=>by
  cases hx:q[i]? with
  | none=>rw [ydq hx]; exact ho
  | some x =>
   have hb:=hq x (bF hx);cases hgo:goes c v g cfg x with
   | false =>
    rw [ynz hx hgo];refine ybn hR hg n _ _ _ hq fun y hy => ?_;rcases List.mem_append.mp hy with hy | hy
    ·exact ho y hy
    ·simp only [List.mem_singleton] at hy;subst hy;exact ydm hR hg _ _ hb
   | true =>
    rw [ynj hx hgo];have hp:(zbh c v g cfg x.r x.b).2=true:=by
     unfold goes at hgo;simp only [Bool.and_eq_true] at hgo;exact hgo.2
    obtain ⟨s1,s2⟩:=qfr hR hg hb hp;obtain ⟨k1,k2⟩:=qc9 (s:=zej cfg (zbh c v g cfg x.r x.b).1.f) hb s1 s2;refine ybn hR hg n _ _ _ (fun y hy => ?_) fun y hy => ?_
    ·rcases List.mem_append.mp hy with hy | hy
     ·exact hq y hy
     ·simp only [List.mem_cons,List.not_mem_nil,or_false] at hy;rcases hy with rfl | rfl
      ·exact k1
      ·exact k2
    ·rcases List.mem_append.mp hy with hy | hy
     ·exact ho y hy
     ·simp only [List.mem_singleton] at hy;subst hy;exact zhp hR
theorem qcn {R:Int} {c v:List (List Int)} {g:List Int} {cfg:Cfg} (hR:0<=R) (hg : ∀ x∈g,inR R x) : ∀ x∈(zcs c v g cfg).1,inR R x.v:=by
 unfold zcs;split
 ·show ∀ x∈zdv c v g cfg 32 [zem g] 0 [],inR R x.v;refine ybn hR hg 32 _ _ _ (fun x hx => ?_) (fun x hx=>by cases hx);simp only [List.mem_singleton] at hx;subst hx;exact ⟨by show -1099511627776<=R; omega,by show -R<=1099511627776; omega⟩
 ·simp
theorem qhq {R v:Int} {c:Cfg} (hR:0<=R) (h:inR R v):inR R (shr v c).1:=by
 unfold shr;split
 ·rename_i hc;simp only [Bool.and_eq_true] at hc;obtain ⟨_,_,_,_,_,hd,hn,_⟩:=ypm hc.1;obtain ⟨h1,h2⟩:=h;have a1:v*c.nu<=R*c.nu:=Int.mul_le_mul_of_nonneg_right h2 (by omega);have a2:R*c.nu<=R*c.dn:=Int.mul_le_mul_of_nonneg_left (by omega) hR;have a3 : -R*c.nu<=v*c.nu:=Int.mul_le_mul_of_nonneg_right h1 (by omega);rw [Int.neg_mul] at a3;exact yd1 (by omega) (by omega) (by omega)
 ·exact zhp hR
theorem ynw {R:Int} {c:Cfg} {t:List Nd} (hR:0<=R) (h : ∀ x∈t,inR R x.v) : ∀ x∈(zgs c t).1,inR R x.v:=by
 unfold zgs;split
 ·intro x hx;obtain ⟨y,hy,rfl⟩:=List.mem_map.mp hx;unfold zjp;split
  ·exact qhq hR (h y hy)
  ·exact h y hy
 ·simp
theorem ysi {R:Int} {t:List Nd} (hR:0<=R) (h : ∀ x∈t,inR R x.v) (row:List Int):inR R (evt t row):=by
 unfold evt;split
 ·exact zhp hR
 ·cases e:t[(rto t row).toNat]? with
  | none=>exact zhp hR
  | some x=>exact h x (bF e)
def noS:Sta:=⟨[],[]⟩
def zdd (tr:List Nd):List Int->List (List Int)->Option (List Int)
 | p::ps,r::rs=>if (adi p (evt tr r)).2=true then (zdd tr ps rs).map ((adi p (evt tr r)).1 :: ·) else none
 | _,_=>some []
def zm6 (t:Ta) (c v:List (List Int)) (cfg:Cfg) (s:Sta):List Nd×Bool:=if ((zfs t.lb s.sm).2 && (zcs c v (zfs t.lb s.sm).1 cfg).2)=true then zgs cfg (zcs c v (zfs t.lb s.sm).1 cfg).1 else ([],false)
def zib (t:Ta) (tr:List Nd) (s:Sta):Sta×Bool:=match zdd tr s.sm t.rw with
 | some p=>(⟨p,s.ts++[tr]⟩,true)
 | none=>(noS,false)
def zpo (t:Ta) (c v:List (List Int)) (cfg:Cfg) (s:Sta):Sta×Bool:=if (zm6 t c v cfg s).2=true then zib t (zm6 t c v cfg s).1 s else (noS,false)
def zde (t:Ta) (c v:List (List Int)) (cfg:Cfg) (s:Sta):Sta×Bool:=if zct t=true/\c=zbo t cfg.bi/\v=zbp t cfg.bi then zpo t c v cfg s else (noS,false)
structure StI (t:Ta) (n:Nat) (s:Sta):Prop where
 l:s.sm.length=t.lb.length
 k:s.ts.length=n
 r : ∀ (i:Nat) (y p:Int),t.lb[i]?=some y->s.sm[i]?=some p->inR (4294967296*2 ^ n) (y-p)
theorem ynh {t:Ta} (h:zct t=true) : ∀ y∈t.lb,inR 2147483647 y:=by
 unfold zct at h;simp only [Bool.and_eq_true,List.all_eq_true] at h;intro y hy;have:=h.1.2 y hy;unfold zbe at this;exact zay.mp this
theorem ynq {R:Int} : ∀ {l:List Int} {a b:Int},(∀ y∈l,inR R y)->zjt a l=some b->a-R*l.length<=b/\b<=a+R*l.length
 | [],a,b,_,h=>by simp [zjt] at h; simp; omega
 | x::xs,a,b,hl,h=>by
  rw [zjt] at h;split at h
  ·rename_i hc;have h1:=ynq (fun y hy=>hl y (by simp [hy])) h;have h2:=hl x (by simp);have e:R*((x::xs).length:Int)=R*xs.length+R:=by
    simp only [List.length_cons]; push_cast; rw [Int.mul_add,Int.mul_one]
   rw [e];have e2:(adi a x).1=a+x:=by
    unfold adi at hc ⊢;split at hc
    ·rename_i hd; rw [if_pos hd]
    ·cases hc
   rw [e2] at h1;unfold inR at h2;omega
  ·cases h
theorem yqj {t:Ta} (h:zct t=true):inR 2147483647 (zc5 t.lb).1:=by
 obtain ⟨t1,t2,t3,t4,t5,t6⟩:=zmk h;unfold zc5;cases e:zjt 0 t.lb with
 | none=>exact zhp (by omega)
 | some b =>
  have:=ynq (ynh h) e;simp only;unfold fdv;split
  ·exact zhp (by omega)
  ·exact yd1 (by omega) (by omega) (by omega)
theorem StI.new {t:Ta} (h:zct t=true):StI t 0 (zhs t).1:=by
 have hb:=yqj h;unfold zhs;rw [if_pos h];refine ⟨by simp,rfl,fun i y p h1 h2 => ?_⟩;simp only at h2;have hy:=ynh h y (bF h1);have hp:p=(zc5 t.lb).1:=by
  have:=bF h2;exact (List.mem_replicate.mp this).2
 subst hp;unfold inR at *;omega
theorem y9k (c:List Int) (v:Int) (hc:c.length<=1048576):RUN T zrt [.sl 1 (zab c),iv v]=some ([iv (zdp c v)],[]):=by
 refine zae rfl rfl ?_;simp [-getElem?_pos,z2l,zvr];refine zan (fun n st => ∃ i m:Nat,i+n=c.length/\m<=i/\m=zdp (c.take i) v/\st.V 8 = .sl 1 (zab c)/\st.V 1=iv v/\st.V 5=iv m/\st.V 10=iv i/\st.V 9=iv c.length) ?_ c.length _ ⟨0,0,by omega,by omega,by simp [zdp]⟩;rintro n st ⟨i,m,hi,hm,hmv,v8,v1,v5,v10,v9⟩
 by_cases h:i<c.length
 ·obtain ⟨x,hx⟩ : ∃ x,c[i]?=some x:=⟨_,bG h⟩;have hx':=zax hx;have hw:=wS h (by omega:c.length<=9223372036854775807);have hw2:=w64 (x:=(m:Int)+1) (by omega) (by omega);have hs:=ymi (c.take i) v x;rw [<- zo9 hx,<- hmv] at hs
  by_cases hl:x<v
  ·rw [if_pos hl] at hs;simp [-getElem?_pos,z2k,v8,v1,v5,v10,v9,h,hx',hw,hw2,hl];exact zah (n-1) (by omega) ⟨i+1,m+1,by omega,by omega,hs.symm,by simp [v8,v1,v9]⟩
  ·rw [if_neg hl] at hs;simp [-getElem?_pos,z2k,v8,v1,v5,v10,v9,h,hx',hw,hl];exact zah (n-1) (by omega) ⟨i+1,m,by omega,by omega,hs.symm,by simp [v8,v1,v5,v9]⟩
 ·rw [List.take_of_length_le (by omega)] at hmv;rw [<- hmv];simp [-getElem?_pos,z2k,v8,v5,v10,v9,h]
theorem y9l (l:List Int) (b:Int) (hl:l.length<=1048576):RUN T zrs [.sl 1 (zab l),iv b]=some ([.own 1 (zab (zb3 l b))],[]):=by
 have e1:=y9d l hl;have hsl:=z8q l;have hss:=z9l l;have hr0:zag 8 0=true:=by decide
 have hr1:zag 8 1=true:=by decide
 have g1:=zcu b 2 8;have g2:=zcu l.length 1 40;cases c1:zaj b 2 8 with
 | false =>
  have hv:zb3 l b=[]:=by unfold zb3; rw [c1]; rfl
  rw [hv];rw [c1] at g1;refine zae rfl rfl ?_;simp [-getElem?_pos,-zbm,zt0,z1v,g1,hr0]
 | true =>
 cases c2:zaj l.length 1 40 with
 | false =>
  have hv:zb3 l b=[]:=by unfold zb3; rw [c1,c2]; rfl
  rw [hv];rw [c1] at g1;rw [c2] at g2;refine zae rfl rfl ?_;simp [-getElem?_pos,-zbm,zt0,z1v,g1,g2,hr0]
 | true =>
 have hv:zb3 l b=Lib.compact (zd9 (zd7 l) b.toNat (b.toNat-1)):=by unfold zb3; rw [c1,c2]; rfl
 rw [hv];rw [c1] at g1;rw [c2] at g2;have hb:=zay.mp c1;have h12:=zay.mp c2;have h1:1<=l.length:=by omega
 have h2:l.length<=40:=by omega
 clear c1 c2 h12 hv;generalize zd7 l=a at *;obtain ⟨bn,rfl⟩ : ∃ n:Nat,b=n:=⟨b.toNat,by omega⟩;rw [Int.toNat_natCast];refine zae rfl rfl ?_;simp [-getElem?_pos,-zbm,zt0,z1v,g1,g2,hr0,e1];refine zan (fun n st => ∃ (i o e:Nat) (m:List Int),1<=i/\i+n=bn/\m.length<i/\m=zd9 a bn (i-1)/\st.V 1=iv bn/\st.V 0 = .sl 1 (zab l)/\st.V 6 = .ref 1 none 0 0 a.length/\st.V 5 = .ref o none e 0 m.length/\st.V 7=iv i/\¬ o=1/\o<st.nx/\1<st.nx/\st.S o=some (.row 1 (zab m))/\st.S 1=some (.row 1 (zab a))) ?_ (bn-1) _ ⟨1,0,0,[],by omega,by omega,by simp,rfl,by simp,by simp,by simp,by simp,by simp,by omega,by simp [zab]⟩;rintro n st ⟨i,o,e,m,hi1,hi,hm,hmp,v1,v0,v6,v5,v7,ho,hox,h1x,hSo,hS1⟩;obtain ⟨x1,x2,x3,x4⟩:=fr hox;have g1:(o=1)=False:=eq_false ho;have g2:(1=o)=False:=eq_false (fun e=>ho e.symm);obtain ⟨z1,z2,z3,z4⟩:=fr h1x
 by_cases h:i<bn
 ·have hw:=wS h (by omega:bn<=9223372036854775807);have hb0 : ¬ bn=0:=by omega
  have hq:(l.length:Int)*i<=40*8:=Int.mul_le_mul (by omega) (by omega) (by omega) (by omega);have hq0:0<=(l.length:Int)*i:=Int.mul_nonneg (by omega) (by omega);have w1:=w64 (x:=(l.length:Int)*i) (by omega) (by omega);obtain ⟨k,hkk⟩ : ∃ k:Nat,k=l.length*i / bn:=⟨_,rfl⟩;have hk:((l.length:Int)*i).tdiv bn=k:=by
   rw [Int.tdiv_eq_ediv_of_nonneg hq0,hkk]
   push_cast
   rfl
  have hcs:zd9 a bn i=m++zi4 a bn i:=by
   obtain ⟨j,rfl⟩ : ∃ j,i=j+1:=⟨i-1,by omega⟩;rw [hmp]; rfl
  unfold zi4 zhq at hcs;rw [hsl,<- hkk] at hcs;have hkl:k<=l.length:=by
   have h3:((l.length:Int)*i).tdiv bn<=l.length:=by
    rw [Int.tdiv_eq_ediv_of_nonneg hq0];refine Int.ediv_le_of_le_mul (by omega) ?_;exact Int.mul_le_mul_of_nonneg_left (by omega) (by omega)
   omega
  have w2:=w64 (x:=(k:Int)) (by omega) (by omega)
  by_cases hk1:1<=k
  ·obtain ⟨x,hx⟩ : ∃ x,a[k-1]?=some x:=⟨_,bG (by omega)⟩;obtain ⟨y,hy⟩ : ∃ x,a[a.length-1]?=some x:=⟨_,bG (by omega)⟩;have hx':=zax hx;have hy':=zax hy;rw [hsl] at hy';have w3:IntKind.i64.wrap ((k:Int)-1)=((k-1:Nat):Int):=by rw [w64 (by omega) (by omega)]; omega
   have w4:IntKind.i64.wrap ((l.length:Int)-1)=((l.length-1:Nat):Int):=by rw [w64 (by omega) (by omega)]; omega
   have c1:k-1<l.length:=by omega
   have c2:l.length-1<l.length:=by omega
   have hk1':(1:Int)<=k:=by omega
   have hr8:=zbv (n:=m.length+1) (by omega);have hsn:=zbn m x;have gx:a.getD (k-1) 0=x:=by rw [List.getD_eq_getElem?_getD,hx]; rfl
   have gy:a.getD (l.length-1) 0=y:=by rw [<- hsl,List.getD_eq_getElem?_getD,hy]; rfl
   rw [gx,gy] at hcs;have hle:=zp8 hss (by omega:k-1<=a.length-1) hx hy
   by_cases hxy:x=y
   ·have hxy2 : ¬ ¬ x=y:=fun h=>h hxy;rw [if_neg (fun h=>h.2 hxy),List.append_nil] at hcs;subst hxy;simp [-getElem?_pos,zwh,v1,v0,v6,v5,v7,hSo,hS1,h,hw,hb0,w1,w2,w3,w4,hk,hk1,hk1',hx',hy',hsl,c1,c2,hxy2,g1,g2,x1,x2,x3,x4,z1,z2,z3,z4];exact zah (n-1) (by omega) ⟨i+1,o,e,m,by omega,by omega,by omega,hcs.symm,by simp [v1],by simp [v0],by simp [v6,hsl],by simp [v5],by simp,ho,by simp [hox,h1x,hSo,hS1]⟩
   ·rw [if_pos ⟨hk1,hxy⟩] at hcs;simp [-getElem?_pos,zwh,v1,v0,v6,v5,v7,hSo,hS1,h,hw,hb0,w1,w2,w3,w4,hk,hk1,hk1',hx',hy',hsl,c1,c2,hxy,hr1,hr8,hsn,g1,g2,x1,x2,x3,x4,z1,z2,z3,z4];exact zah (n-1) (by omega) ⟨i+1,st.nx+1,st.ep,m++[x],by omega,by omega,by simp; omega,hcs.symm,by simp [v1],by simp [v0],by simp [v6,hsl],by simp,by simp,by simp; omega,by simp,by first | (simp; done) | (simp; omega),by first | (simp; done) | (simp; omega),by simp [g1,g2,x1,x2,x3,x4,z1,z2,z3,z4,hS1,show ¬ st.nx=0 by omega]⟩
  ·have hk0:k=0:=by omega
   rw [if_neg (by omega),List.append_nil] at hcs;rw [hk0] at hk w2;clear hkk hkl;subst hk0;simp [-getElem?_pos,zwh,v1,v0,v6,v5,v7,hSo,hS1,h,hw,hb0,w1,w2,hk];exact zah (n-1) (by omega) ⟨i+1,o,e,m,by omega,by omega,by omega,hcs.symm,by simp [v1],by simp [v0],by simp [v6],by simp [v5],by simp,ho,by simp [hox,h1x,hSo,hS1]⟩
 ·have hib:i=bn:=by omega
  have hm2:m=zd9 a bn (bn-1):=by rw [hmp,hib]
  have h3:=y9c m (by omega);rw [<- hm2];generalize Lib.compact m=z at *;simp [-getElem?_pos,zwh,v1,v5,v7,hSo,h,h3]
theorem y9m (q:Bool) (t:Ta) (f:Nat) (ht:TaL 1048576 t) (hf:f<t.ns.length) (h40:t.rw.length<=40) (hr : ∀ r∈t.rw,r.length=t.ns.length):RUN T zrr [taS q t,iv f]=some ([.own 1 (zab (zb0 t f))],[]):=by
 have hr0:zag 8 0=true:=by decide
 have hr1:zag 8 1=true:=by decide
 have hns:=ht.ns;have g1:=zcu f 0 ((t.ns.length:Int)-1);rw [zay.mpr (by omega)] at g1;have w1:=w64 (x:=(t.ns.length:Int)-1) (by omega) (by omega);refine zae rfl rfl ?_;simp [-getElem?_pos,-zbm,z2i,z1v,hr0,g1,w1];refine zan (fun n st => ∃ (i o e:Nat) (m:List Int),i+n=t.rw.length/\m=(t.rw.take i).map (fun r=>r.getD f 0)/\m.length=i/\st.V 1=iv f/\st.V 19 = .sl 1 (rws q t.rw)/\st.V 20=iv t.rw.length/\st.V 5 = .ref o none e 0 m.length/\st.V 21=iv i/\0<o/\o<st.nx/\st.S o=some (.row 1 (zab m))) ?_ t.rw.length _ ⟨0,1,0,[],by omega,rfl,rfl,by simp [zab]⟩;rintro n st ⟨i,o,e,m,hi,hmv,hm,v1,v19,v20,v5,v21,ho,hox,hSo⟩;obtain ⟨x1,x2,x3,x4⟩:=fr hox
 by_cases h:i<t.rw.length
 ·obtain ⟨r,hx⟩ : ∃ x,t.rw[i]?=some x:=⟨_,bG h⟩;have hx':=zc3 (q:=q) hx;have hrl:=hr r (bF hx);obtain ⟨y,hy⟩ : ∃ x,r[f]?=some x:=⟨_,bG (by omega)⟩;have hy':=zax hy;have hfr:f<r.length:=by omega
  have hw:=wS h (by omega:t.rw.length<=9223372036854775807);have hr8:=zbv (n:=m.length+1) (by omega);have hsn:=zbn m y;have hmn:m++[y]=(t.rw.take (i+1)).map (fun r=>r.getD f 0):=by
   rw [zo9 hx,List.map_append,<- hmv,List.map_singleton,List.getD_eq_getElem?_getD,hy]; rfl
  simp [-getElem?_pos,z9x,v1,v19,v20,v5,v21,hSo,h,hx',hy',hfr,hw,hr1,hr8,hsn,x1,x2,x3,x4];exact zah (n-1) (by omega) ⟨i+1,st.nx+1,st.ep,m++[y],by omega,hmn,by simp [hm],by simp [v1],by simp [v19],by simp [v20],by simp,by simp,by omega,by simp⟩
 ·rw [List.take_of_length_le (by omega)] at hmv;have hcv:zb0 t f=m:=hmv.symm;rw [hcv];simp [-getElem?_pos,z9x,v1,v20,v5,v21,hSo,h]
open Classical in
theorem y9n (l m:List Int) (hl:l.length<=9223372036854775807):RUN T zlu [.sl 1 (zab l),.sl 1 (zab m)]=some ([bv (decide (l=m))],[]):=by
 have h:=y7d l m hl;refine zae rfl rfl ?_;simp [-getElem?_pos,z4c,zvr,h]
open Classical in
theorem y9o (p q:Bool) (L M:List (List Int)) (hl:L.length<=9223372036854775807) (hll : ∀ l∈L,l.length<=9223372036854775807):RUN T zsi [.sl 1 (rws p L),.sl 1 (rws q M),.fn zlu []]=some ([bv (decide (L=M))],[]):=by
 refine zae rfl rfl ?_;rcases Classical.propComplete ((L.length:Int)=M.length) with hlm | hlm
 case inr =>
  simp [-getElem?_pos,zwv,zzs,hlm,z8h hlm]
 simp [-getElem?_pos,zwv,zzs,hlm];have hlen:L.length=M.length:=by simp at hlm; omega
 refine zan (fun n st => ∃ i:Nat,i+n=L.length/\(∀ j,j<i->L[j]?=M[j]?)/\st.V 1 = .sl 1 (rws q M)/\st.V 2 = .fn zlu []/\st.V 15 = .sl 1 (rws p L)/\st.V 16=iv L.length/\st.V 17=iv i) ?_ L.length _ ⟨0,by simp [hlen]⟩;rintro n st ⟨i,hi,hj,v1,v2,v15,v16,v17⟩;simp [ye6,v16,v17];refine zat (fun h => ?_) (fun h => ?_)
 ·simp at h;obtain ⟨x,hx⟩ : ∃ x,L[i]?=some x:=⟨_,bG h⟩;obtain ⟨y,hy⟩ : ∃ y,M[i]?=some y:=⟨_,bG (by omega)⟩;have hx':=zc3 (q:=p) hx;have hy':=zc3 (q:=q) hy;have hw:=wS h hl;have him:i<M.length:=by omega
  have hs:=y9n x y (hll x (bF hx));have z:=fr (by omega:st.nx<st.nx+1)
  by_cases e:x=y
  ·rw [decide_eq_true e] at hs;simp [-getElem?_pos,v1,v2,v15,v16,v17,hx',hy',h,him,hw,hs,z];exact zah (n-1) (by omega) ⟨i+1,by omega,zhm hj (by rw [hx,hy,e]),by simp [v1,v2,v15,v16]⟩
  ·rw [decide_eq_false e] at hs;simp [-getElem?_pos,v1,v2,v15,v16,v17,hx',hy',h,him,hw,hs,z,z9c hx hy e]
 ·simp at h;simp [z7v hlen h hj]
open Classical in
theorem yl5 (p q:Bool) (L M:List (List Int)) (hl:L.length<=9223372036854775807) (hll : ∀ l∈L,l.length<=9223372036854775807):RUN T znk [.sl 1 (rws p L),.sl 1 (rws q M)]=some ([bv (decide (L=M))],[]):=by
 have h:=y9o p q L M hl hll;refine zae rfl rfl ?_;simp [-getElem?_pos,z2g,zvr,h]
open Classical in
theorem y9p (p q:Bool) (c v c' v':List (List Int)) (hc:c.length<=9223372036854775807) (hcl : ∀ l∈c,l.length<=9223372036854775807) (hv:v.length<=9223372036854775807) (hvl : ∀ l∈v,l.length<=9223372036854775807):RUN T zq2 [.agg [.sl 1 (rws p c),.sl 1 (rws p v)],.agg [.sl 1 (rws q c'),.sl 1 (rws q v')]]=some ([bv (decide (c=c') && decide (v=v'))],[]):=by
 have h1:=yl5 p q c c' hc hcl;have h2:=yl5 p q v v' hv hvl;generalize decide (c=c')=b1 at *;generalize decide (v=v')=b2 at *;refine zae rfl rfl ?_;cases b1 <;> simp [-getElem?_pos,z0q,zvr,h1,h2]
open Classical in
theorem yl6 (p q:Bool) (L M:List (List Int)) (hl:L.length<=9223372036854775807) (hll : ∀ l∈L,l.length<=9223372036854775807):RUN T zno [.sl 1 (rws p L),.sl 1 (rws q M)]=some ([bv (decide (L=M))],[]):=by
 refine zae rfl rfl ?_;rcases Classical.propComplete ((L.length:Int)=M.length) with hlm | hlm
 case inr =>
  simp [-getElem?_pos,zwp,zvr,hlm,z8h hlm]
 simp [-getElem?_pos,zwp,zvr,hlm];have hlen:L.length=M.length:=by simp at hlm; omega
 refine zan (fun n st => ∃ i:Nat,i+n=L.length/\(∀ j,j<i->L[j]?=M[j]?)/\st.V 0 = .sl 1 (rws p L)/\st.V 1 = .sl 1 (rws q M)/\st.V 5=iv i) ?_ L.length _ ⟨0,by simp [hlen]⟩;rintro n st ⟨i,hi,hj,v0,v1,v5⟩;simp [yex,v0,v5];refine zat (fun h => ?_) (fun h => ?_)
 ·simp at h;obtain ⟨x,hx⟩ : ∃ x,L[i]?=some x:=⟨_,bG h⟩;obtain ⟨y,hy⟩ : ∃ y,M[i]?=some y:=⟨_,bG (by omega)⟩;have hx':=zc3 (q:=p) hx;have hy':=zc3 (q:=q) hy;have hw:=wS h hl;have him:i<M.length:=by omega
  have hs:=y7c x y (hll x (bF hx))
  by_cases e:x=y
  ·rw [decide_eq_true e] at hs;simp [-getElem?_pos,v0,v1,v5,hx',hy',h,him,hw,hs];exact zah (n-1) (by omega) ⟨i+1,by omega,zhm hj (by rw [hx,hy,e]),by simp [v0,v1]⟩
  ·rw [decide_eq_false e] at hs;simp [-getElem?_pos,v0,v1,v5,hx',hy',h,him,hw,hs,z9c hx hy e]
 ·simp at h;simp [z7v hlen h hj]
open Classical in
theorem y9q (p q:Bool) (c v c' v':List (List Int)) (hc:c.length<=9223372036854775807) (hcl : ∀ l∈c,l.length<=9223372036854775807) (hv:v.length<=9223372036854775807) (hvl : ∀ l∈v,l.length<=9223372036854775807):RUN T zq7 [.agg [.sl 1 (rws p c),.sl 1 (rws p v)],.agg [.sl 1 (rws q c'),.sl 1 (rws q v')]]=some ([bv (decide (c=c') && decide (v=v'))],[]):=by
 have h1:=yl6 p q c c' hc hcl;have h2:=yl6 p q v v' hv hvl;generalize decide (c=c')=b1 at *;generalize decide (v=v')=b2 at *;refine zae rfl rfl ?_;cases b1 <;> simp [-getElem?_pos,z0w,zvr,h1,h2]
theorem qai (cuts col:List Int) (hcu:cuts.length<=8) (hco:col.length<=40) {st:St} {q1 e1 q2 e2 q3 e3:Nat} {Q:Ex->St->Prop} (v35:st.V 35 = .ref q1 none e1 0 col.length) (v36:st.V 36=iv col.length) (v37:st.V 37=iv (0:Nat)) (v9:st.V 9 = .ref q2 none e2 0 cuts.length) (v8:st.V 8 = .ref q3 none e3 0 0) (h13:q1≠q3) (h23:q2≠q3) (h1:q1<st.nx) (h2:q2<st.nx) (h3:q3<st.nx) (hS1:st.S q1=some (.row 1 (zab col))) (hS2:st.S q2=some (.row 1 (zab cuts))) (hS3:st.S q3=some (.row 1 []))
  (hQ : ∀ (s':St) (q' e':Nat) (bins:List Int),bins=col.map (fun v=>(zdp cuts v:Int))->(∀ k,k≠8->k≠11->k≠37->s'.V k=st.V k)->s'.V 8 = .ref q' none e' 0 bins.length->(q'=q3\/st.nx<=q')->q'<s'.nx->st.nx<=s'.nx->s'.S q'=some (.row 1 (zab bins))->(∀ k,k<st.nx->k≠q3->s'.S k=st.S k)->Q (.exit 2) s') :
  W (zad T) (RUN T) (.loop z0s) st Q:=by
 refine zan (fun m s' => ∃ (i q' e':Nat) (bins:List Int),i+m=col.length/\bins.length=i/\bins=(col.take i).map (fun v=>(zdp cuts v:Int))/\(∀ k,k≠8->k≠11->k≠37->s'.V k=st.V k)/\s'.V 8 = .ref q' none e' 0 bins.length/\s'.V 37=iv i/\(q'=q3\/st.nx<=q')/\q'<s'.nx/\st.nx<=s'.nx/\s'.S q'=some (.row 1 (zab bins))/\(∀ k,k<st.nx->k≠q3->s'.S k=st.S k)) ?_ col.length _ ⟨0,q3,e3,[],by omega,rfl,rfl,fun _ _ _ _=>rfl,by simpa using v8,by simpa using v37,.inl rfl,h3,Nat.le_refl _,by simpa [zab] using hS3,fun _ _ _=>rfl⟩;rintro m s' ⟨i,q',e',bins,hi,hb,hbb,hV,v8',v37',hq,hqx,hnx,hSq,hfr⟩;have v35':s'.V 35 = .ref q1 none e1 0 col.length:=by rw [hV 35 (by decide) (by decide) (by decide)]; exact v35
 have v36':s'.V 36=iv col.length:=by rw [hV 36 (by decide) (by decide) (by decide)]; exact v36
 have v9':s'.V 9 = .ref q2 none e2 0 cuts.length:=by rw [hV 9 (by decide) (by decide) (by decide)]; exact v9
 have hS1':s'.S q1=some (.row 1 (zab col)):=by rw [hfr q1 h1 h13]; exact hS1
 have hS2':s'.S q2=some (.row 1 (zab cuts)):=by rw [hfr q2 h2 h23]; exact hS2
 by_cases h:i<col.length
 ·obtain ⟨x,hx⟩ : ∃ x,col[i]?=some x:=⟨_,bG h⟩;have hx':=zax hx;have hw:=wS h (by omega:col.length<=9223372036854775807);have hr1:zag 8 1=true:=by decide
  have hr8:=zbv (n:=bins.length+1) (by omega);have h4:=y9k cuts x (by omega);have hbn:bins++[(zdp cuts x:Int)]=(col.take (i+1)).map (fun v=>(zdp cuts v:Int)):=by rw [zo9 hx,List.map_append,<- hbb]; rfl
  generalize zdp cuts x=y at *;have hsn:=zbn bins (y:Int);have a1:=fr hqx;have a2:(q1=q')=False/\(q'=q1)=False/\(q2=q')=False/\(q'=q2)=False:=⟨eq_false (by omega),eq_false (by omega),eq_false (by omega),eq_false (by omega)⟩;have a4:=fr (show q1<s'.nx by omega);have a5:=fr (show q2<s'.nx by omega);simp [-getElem?_pos,z0s,v35',v36',v37',v9',v8',hS1',hS2',hSq,h,hx',h4,hw,hr1,hr8,hsn,a1,a2,a4,a5];refine zah (m-1) (by omega) ⟨i+1,s'.nx+1,s'.ep,bins++[(y:Int)],by omega,by simp [hb],hbn,fun k k1 k2 k3 => ?_,by simp,by simp,.inr (by omega),by simp,by simp; omega,by simp,fun k k1 k2 => ?_⟩
  ·simp [k1,k2,k3]; exact hV k k1 k2 k3
  ·have b1:(k=s'.nx)=False:=eq_false (by omega);have b2:(k=s'.nx+1)=False:=eq_false (by omega);have b3:(k=q')=False:=eq_false (by omega);simp [b1,b2,b3];exact hfr k k1 k2
 ·have hin:i=col.length:=by omega
  simp [-getElem?_pos,z0s,v36',v37',h];exact hQ _ q' e' bins (by rw [hbb,List.take_of_length_le (by omega)]) (fun k k1 k2 k3=>by simp; exact hV k k1 k2 k3) (by simp [v8']) hq (by simp [hqx]) (by simp [hnx]) (by simp [hSq]) (fun k k1 k2=>by simp; exact hfr k k1 k2)
theorem y9r (q:Bool) (t:Ta) (b:Int) (ht:TaL 1048576 t):RUN T zq3 [taS q t,iv b]=some ([.agg [.own 1 (rws true (zbo t b)),.own 1 (rws true (zbp t b))]],[]):=by
 have e1:=yl2 q t ht;have g1:=zcu b 2 8;cases hok:zct t with
 | false =>
  have hC:zbo t b=[]:=by unfold zbo; rw [hok]; rfl
  have hW:zbp t b=[]:=by unfold zbp; rw [hok]; rfl
  rw [hC,hW];rw [hok] at e1;simp only [taS] at *;refine zae rfl rfl ?_;simp [-getElem?_pos,-zbm,ztu,ztr,e1,show rws true []=[] from rfl]
 | true =>
 cases hbi:zaj b 2 8 with
 | false =>
  have hC:zbo t b=[]:=by unfold zbo; rw [hbi,Bool.and_false]; rfl
  have hW:zbp t b=[]:=by unfold zbp; rw [hbi,Bool.and_false]; rfl
  rw [hC,hW];rw [hok] at e1;rw [hbi] at g1;simp only [taS] at *;refine zae rfl rfl ?_;simp [-getElem?_pos,-zbm,ztu,ztr,e1,g1,show rws true []=[] from rfl]
 | true =>
 have hb:=zay.mp hbi;rw [hok] at e1;rw [hbi] at g1;obtain ⟨t1,t2,t3,t4,t5,t6⟩:=zmk hok;have hgC:zbo t b=(List.range t.ns.length).map fun f=>zb3 (zb0 t f) b:=by unfold zbo; rw [hok,hbi]; rfl
 have hgW:zbp t b=(List.range t.ns.length).map (zmx t b):=by unfold zbp; rw [hok,hbi]; rfl
 rw [hgC,hgW];have hr1:zag 24 1=true:=by decide
 have hr0:zag 8 0=true:=by decide
 have cl:=y9m q t;simp only [taS] at *;refine zae rfl rfl ?_;simp [-getElem?_pos,-zbm,ztu,ztr,e1,g1];refine zan (fun n st => ∃ (i:Nat) (C D:List (List Int)) (x y:PV),i+n=t.ns.length/\C.length=i/\D.length=i/\C=(List.range i).map (fun f=>zb3 (zb0 t f) b)/\D=(List.range i).map (zmx t b)/\st.V 1=iv b/\st.V 2 = .ptr 0 none 0 0 0/\st.V 4 = .ptr 1 none 0 0 0/\st.V 5 = .ptr 2 none 0 0 0/\st.V 25=iv i/\st.V 24=iv t.ns.length/\2<st.nx/\LG st.S st.nx C D x y/\st.S 0=some (.box [.sl 1 (za5 t.ns),.v (.string t.nm),.sl 1 (rws q t.rw),.sl 1 (zab t.lb)])/\st.S 1=some (.box [.e0,.e0])/\st.S 2=some (.box [x,y])) ?_ t.ns.length _ ⟨0,[],[],.e0,.e0,by omega,rfl,rfl,rfl,rfl,by simp,by simp,by simp,by simp,by simp,by simp,by simp,.inl ⟨rfl,rfl,rfl,rfl⟩,by simp⟩;rintro n st ⟨i,C,D,x,y,hi,hC,hD,hC8,hD8,v1,v2,v4,v5,v25,v24,hnx,hx,hS0,hS1,hS2⟩;have z1:=fr hnx;have z2:=fr (show 1<st.nx by omega);have z3:=fr (show 0<st.nx by omega)
 by_cases h:i<t.ns.length
 ·have hw:=wS h (by omega:t.ns.length<=9223372036854775807);have h1:=cl i ht h t4 t6;have hcol:(zb0 t i).length=t.rw.length:=by simp [zb0]
  have h2:=y9l (zb0 t i) b (by omega);have hcu:(zb3 (zb0 t i) b).length<=8:=Nat.le_trans (z8w (zb0 t i) b).2.2 (by omega);have hCn:C++[zb3 (zb0 t i) b]=(List.range (i+1)).map (fun f=>zb3 (zb0 t f) b):=by rw [List.range_succ,List.map_append,<- hC8]; rfl
  have hDn:D++[(zb0 t i).map fun v=>(zdp (zb3 (zb0 t i) b) v:Int)]=(List.range (i+1)).map (zmx t b):=by rw [List.range_succ,List.map_append,<- hD8]; rfl
  generalize zb3 (zb0 t i) b=cuts at *;generalize zb0 t i=col at *;simp [-getElem?_pos,z9s,v1,v2,v4,v5,v25,v24,hS0,hS1,hS2,h,h1,h2,hr0,z1,z2,z3];refine qai cuts col hcu (by omega) (q1:=st.nx) (q2:=st.nx+2) (q3:=st.nx+1) (by simp; rfl) (by simp) (by simp) (by simp; rfl) (by simp; rfl) (by omega) (by omega) (by first | (simp; done) | (simp; omega)) (by first | (simp; done) | (simp; omega)) (by first | (simp; done) | (simp; omega)) (by simp) (by simp) (by simp) ?_;intro s' q' e' bins hbb hV w8 hq hqx hnx' hSq hfr;simp only at hq hnx';have hbl:bins.length=col.length:=by rw [hbb]; simp
  have w1:s'.V 1=iv b:=by rw [hV 1 (by decide) (by decide) (by decide)]; simp [v1]
  have w2:s'.V 2 = .ptr 0 none 0 0 0:=by rw [hV 2 (by decide) (by decide) (by decide)]; simp [v2]
  have w4:s'.V 4 = .ptr 1 none 0 0 0:=by rw [hV 4 (by decide) (by decide) (by decide)]; simp [v4]
  have w5:s'.V 5 = .ptr 2 none 0 0 0:=by rw [hV 5 (by decide) (by decide) (by decide)]; simp [v5]
  have w25:s'.V 25=iv i:=by rw [hV 25 (by decide) (by decide) (by decide)]; simp [v25]
  have w24:s'.V 24=iv t.ns.length:=by rw [hV 24 (by decide) (by decide) (by decide)]; simp [v24]
  obtain ⟨e9,w9⟩ : ∃ e,s'.V 9 = .ref (st.nx+2) none e 0 cuts.length:=⟨_,by rw [hV 9 (by decide) (by decide) (by decide)]; simp; rfl⟩;have hT0:s'.S 0=some (.box [.sl 1 (za5 t.ns),.v (.string t.nm),.sl 1 (rws q t.rw),.sl 1 (zab t.lb)]):=by rw [hfr 0 (by first | (simp; done) | (simp; omega)) (by omega)]; simp [z1,z2,z3,hS0]
  have hT1:s'.S 1=some (.box [.e0,.e0]):=by rw [hfr 1 (by first | (simp; done) | (simp; omega)) (by omega)]; simp [z1,z2,z3,hS1]
  have hT2:s'.S 2=some (.box [x,y]):=by rw [hfr 2 (by first | (simp; done) | (simp; omega)) (by omega)]; simp [z1,z2,z3,hS2]
  have hT8:s'.S (st.nx+2)=some (.row 1 (zab cuts)):=by rw [hfr _ (by first | (simp; done) | (simp; omega)) (by omega)]; simp
  have hL:LG s'.S s'.nx C D x y:=hx.mono (by omega) (fun k k1 k2=>by
   rw [hfr k (by first | (simp; done) | (simp; omega)) (by omega)];have b1:(k=st.nx)=False:=eq_false (by omega);have b2:(k=st.nx+1)=False:=eq_false (by omega);have b3:(k=st.nx+2)=False:=eq_false (by omega);simp [b1,b2,b3])
  have hr24:zag 24 (C.length+1)=true:=by simp [zag]; omega
  have hr24':zag 24 (D.length+1)=true:=by simp [zag]; omega
  have s1:=zml C cuts;have s2:=zml D bins;obtain ⟨p8,hp8⟩ : ∃ p8,p8=st.nx+2:=⟨_,rfl⟩;rw [<- hp8] at w9 hT8;have hp8x:p8<s'.nx:=by first | omega | (simp at hnx'; omega)
  have hp8q : ¬ p8=q':=by first | omega | (simp at hq; omega)
  have hq2:2<q':=by first | omega | (simp at hq; omega)
  have hp82:2<p8:=by omega
  obtain ⟨P,hP⟩ : ∃ P,P=st.nx:=⟨_,rfl⟩;have hPp:P<p8:=by omega
  have hPq:P<q':=by first | omega | (simp at hq; omega)
  have hL':LG s'.S P C D x y:=by
   rcases hx with hx | ⟨o,e,o',e',k1,k2,k3,k4,k5,k6,k7,k8,k9⟩
   ·exact .inl hx
   ·rcases hL with ⟨l1,_⟩ | ⟨o2,e2,o2',e2',l1,l2,l3,l4,l5,l6,l7,l8,l9⟩
    ·rw [k1] at l1; cases l1
    ·rw [k1] at l1; cases l1;rw [k2] at l2; cases l2;exact .inr ⟨o,e,o',e',k1,k2,k3,by omega,k5,by omega,k7,l8,l9⟩
  clear hL hx hfr hV hp8 hP hq hS0 hS1 hS2 v1 v2 v4 v5 v25 v24 z1 z2 z3 h1 h2;have a1:=fr hqx;have a2:(p8=q')=False/\(q'=p8)=False:=⟨eq_false hp8q,eq_false fun e=>hp8q e.symm⟩;have a3:=fr (show p8<s'.nx by omega);have a4:=fr hp82;have a5:=fr (show 2<q' by omega);have a6:=fr (show 2<s'.nx by omega);have b1:=fr (show 1<p8 by omega);have b2:=fr (show 1<q' by omega);have b3:=fr (show 1<s'.nx by omega);have b4:=fr (show 0<p8 by omega);have b5:=fr (show 0<q' by omega);have b6:=fr (show 0<s'.nx by omega);have nn1 : ¬ s'.nx=1:=by omega
  have nn2 : ¬ s'.nx+1=q':=by omega
  have na : ∀ a b:Nat,s'.nx+a+b=s'.nx+(a+b):=fun a b=>Nat.add_assoc _ _ _;rw [<- hbb] at hDn;rcases hL' with ⟨rfl,rfl,hC0,hD0⟩ | ⟨o,e,o',e',rfl,rfl,ho,hox,ho',hox',hoo,hSo,hSo'⟩
  ·subst hC0 hD0;simp only [List.nil_append] at hCn hDn;simp [-getElem?_pos,w1,w2,w4,w5,w25,w24,w8,w9,hT0,hT1,hT2,hT8,hSq,hw,hr1,na,a1,a2,a3,a4,a5,a6,b1,b2,b3,b4,b5,b6];exact zah (n-1) (by omega) ⟨i+1,[cuts],[bins],.ref (s'.nx+1) none s'.ep 0 1,.ref (s'.nx+3) none s'.ep 0 1,by omega,by simp at hC; simp; omega,by simp at hC; simp; omega,hCn,hDn,by simp [w1],by simp [w2],by simp [w4],by simp [w5],by simp,by simp [w24],by first | (simp; done) | (simp; omega),.inr ⟨s'.nx+1,s'.ep,s'.nx+3,s'.ep,rfl,rfl,by omega,by simp,by omega,by simp,by omega,by simp [nn1,nn2,rws,cel]⟩,by simp [a1,a2,a3,a4,a5,a6,b1,b2,b3,b4,b5,b6,hT0,hT1]⟩
  ·have c1:=fr ho;have c2:=fr (show o<p8 by omega);have c3:=fr ho';have c4:=fr (show o'<p8 by omega);have c5:=fr (show o<q' by omega);have c6:=fr (show o'<q' by omega);have d1:=fr (show o<s'.nx by omega);have d2:=fr (show o'<s'.nx by omega);have d3:=fr (show 1<o by omega);have d4:=fr (show 1<o' by omega);have d5:=fr (show 0<o by omega);have d6:=fr (show 0<o' by omega);have hoo2 : ¬ o'=o:=fun e=>hoo e.symm;have nn3 : ¬ s'.nx+1=o':=by omega
   simp [-getElem?_pos,w1,w2,w4,w5,w25,w24,w8,w9,hT0,hT1,hT2,hT8,hSq,hSo,hSo',hoo,hoo2,hw,hr1,hr24,hr24',s1,s2,na,a1,a2,a3,a4,a5,a6,b1,b2,b3,b4,b5,b6,c1,c2,c3,c4,c5,c6,d1,d2,d3,d4,d5,d6];exact zah (n-1) (by omega) ⟨i+1,C++[cuts],D++[bins],.ref (s'.nx+1) none s'.ep 0 (C.length+1),.ref (s'.nx+3) none s'.ep 0 (D.length+1),by omega,by simp [hC],by simp [hD],hCn,hDn,by simp [w1],by simp [w2],by simp [w4],by simp [w5],by simp,by simp [w24],by first | (simp; done) | (simp; omega),.inr ⟨s'.nx+1,s'.ep,s'.nx+3,s'.ep,by simp,by simp,by omega,by simp,by omega,by simp,by omega,by simp [nn1,nn2,nn3]⟩,by simp [a1,a2,a3,a4,a5,a6,b1,b2,b3,b4,b5,b6,c1,c2,c3,c4,c5,c6,d1,d2,d3,d4,d5,d6,hT0,hT1]⟩
 ·have hin:i=t.ns.length:=by omega
  rcases hx with ⟨rfl,rfl,hC0,hD0⟩ | ⟨o,e,o',e',rfl,rfl,ho,hox,ho',hox',hoo,hSo,hSo'⟩
  ·subst hC0;simp at hC; omega
  ·have c1:=fr ho;have c3:=fr ho';have d3:=fr (show 1<o by omega);have d4:=fr (show 1<o' by omega);have d5:=fr (show 0<o by omega);have d6:=fr (show 0<o' by omega);have hoo2 : ¬ o'=o:=fun e=>hoo e.symm;simp [-getElem?_pos,z9s,v1,v2,v4,v5,v25,v24,hS0,hS1,hS2,h,hSo,hSo',hoo,hoo2,c1,c3,d3,d4,d5,d6];rw [hC8,hD8,hin];exact ⟨rfl,rfl⟩
theorem ym9 {l m:List Int} : ∀ x∈(zfs l m).1,inI x:=by
 unfold zfs;split
 ·rename_i hl;cases e:res l m with
  | none=>intro x hx; cases hx
  | some r =>
   obtain ⟨h1,h2⟩:=yd4 hl e;intro x hx
   replace hx:x∈r:=hx
   obtain ⟨i,hi⟩:=bH hx;have hlt:=(bD hi).1;obtain ⟨a,ha⟩ : ∃ a,l[i]?=some a:=⟨_,bG (by omega)⟩;obtain ⟨b,hb⟩ : ∃ b,m[i]?=some b:=⟨_,bG (by omega)⟩;obtain ⟨rfl,h4,h5⟩:=h2 i a b x ha hb hi;exact ⟨h4,h5⟩
 ·intro x hx; cases hx
theorem yp7 {l m:List Int}:(zfs l m).1.length<=l.length/\((zfs l m).2=true->l.length=m.length):=by
 unfold zfs;split
 ·rename_i hl;cases e:res l m with
  | none=>simp
  | some r=>exact ⟨Nat.le_of_eq (yd4 hl e).1,fun _=>hl⟩
 ·simp
theorem yui {c v:List (List Int)} {g:List Int} {cfg:Cfg} (h:(zcs c v g cfg).2=true) : ∀ x∈(zcs c v g cfg).1,inR 2199023255552 x.v:=by
 refine qcn (by omega) fun x hx => ?_;unfold zcs at h;split at h
 ·rename_i ht;exact (zx9 ht).2.2.2 x hx
 ·cases h
theorem yty {tr:List Nd} {ps:List Int} {rs:List (List Int)} {i:Nat} {p:Int} {r:List Int} (hp:ps[i]?=some p) (hr:rs[i]?=some r):zdd tr (ps.drop i) (rs.drop i)=if (adi p (evt tr r)).2=true then (zdd tr (ps.drop (i+1)) (rs.drop (i+1))).map ((adi p (evt tr r)).1 :: ·) else none:=by
 rw [zc9 hp,zc9 hr,zdd]
theorem z88 (M:List (List Nd)) (t:List Nd):trs true M++[[.own 5 (t.map nd)]]=trs true (M++[t]):=by simp [trs,zi1]
theorem TaL.up {t:Ta} (ht:TaL 1048576 t):TaL 9223372036854775807 t:=⟨Nat.le_trans ht.ns (by omega),fun x hx=>Nat.le_trans (ht.ss x hx) (by omega),Nat.le_trans ht.nm (by omega),Nat.le_trans ht.rw (by omega),fun x hx=>Nat.le_trans (ht.rr x hx) (by omega),Nat.le_trans ht.lb (by omega)⟩
open Classical in
theorem yl7 (p q r:Bool) (t:Ta) (c v:List (List Int)) (cfg:Cfg) (s:Sta) (ht:TaL 1048576 t) (hti : ∀ y∈t.lb,inI y) (hcl:c.length<=1048576) (hc : ∀ l∈c,l.length<=1048576) (hvl:v.length<=1048576) (hv : ∀ l∈v,l.length<=1048576) (hg:cfg.sg.length<=1048576) (hs:z8v 1048576 s) (hsi : ∀ x∈s.sm,inI x):RUN T zm7 [taS p t,.agg [.sl 1 (rws q c),.sl 1 (rws q v)],cfS cfg,stS r s]=some ([stO (zde t c v cfg s).1,bv (zde t c v cfg s).2],[]):=by
 have e1:=yax p t ht.up;have e2:=yaz p t cfg.bi ht;have e3:=y9q q true c v (zbo t cfg.bi) (zbp t cfg.bi) (by omega) (fun l hl=>Nat.le_trans (hc l hl) (by omega)) (by omega) (fun l hl=>Nat.le_trans (hv l hl) (by omega));have r1:=y7b t.lb s.sm ht.lb hs.sm hti hsi;have hrl:=yp7 (l:=t.lb) (m:=s.sm);have hri:=ym9 (l:=t.lb) (m:=s.sm);have hrw:=ht.rw;have hsm:=hs.sm;have hlb:=ht.lb;have hz:stO noS = .agg [.own 1 [],.own 1 []]:=rfl;simp only [taS,stS] at *;cases ht1:zct t with
 | false =>
  have hR:zde t c v cfg s=(noS,false):=by unfold zde; rw [if_neg (by rw [ht1]; simp)]
  rw [hR,hz];rw [ht1] at e1;refine zae rfl rfl ?_;simp [-getElem?_pos,zj9,zj8,e1]
 | true =>
 rw [ht1] at e1;have htr:=zmk ht1
 by_cases hcg:c=zbo t cfg.bi/\v=zbp t cfg.bi
 case neg =>
  have hR:zde t c v cfg s=(noS,false):=by unfold zde; rw [if_neg fun h=>hcg h.2]
  have hd:(decide (c=zbo t cfg.bi) && decide (v=zbp t cfg.bi))=false:=by
   cases h1:decide (c=zbo t cfg.bi) with
   | false=>rfl
   | true=>exact decide_eq_false fun h=>hcg ⟨of_decide_eq_true h1,h⟩
  rw [hR,hz];rw [hd] at e3;generalize zbo t cfg.bi=GC at *;generalize zbp t cfg.bi=GW at *;refine zae rfl rfl ?_;simp [-getElem?_pos,zj9,zj8,e1,e2,e3]
 case pos =>
 have hR:zde t c v cfg s=zpo t c v cfg s:=by unfold zde; rw [if_pos ⟨ht1,hcg⟩]
 have hd:(decide (c=zbo t cfg.bi) && decide (v=zbp t cfg.bi))=true:=by rw [decide_eq_true hcg.1,decide_eq_true hcg.2]; rfl
 rw [hR];rw [hd] at e3;generalize zbo t cfg.bi=GC at *;generalize zbp t cfg.bi=GW at *;clear hR hd hcg ht1;unfold zpo zm6;generalize zfs t.lb s.sm=QQ at *;obtain ⟨RS,rb⟩:=QQ;simp only at r1 hrl hri;have g1:=y8z q c v RS cfg hc hv (by omega) hg hri;have hgl:=ybr (c:=c) (v:=v) (g:=RS) (cfg:=cfg);have hgv:=yui (c:=c) (v:=v) (g:=RS) (cfg:=cfg);have s1:=y88 (zcs c v RS cfg).1 cfg (by omega) hg;have hsl:=yct (c:=cfg) (t:=(zcs c v RS cfg).1);have hsv:=fun h=>ynw (c:=cfg) (t:=(zcs c v RS cfg).1) (R:=2199023255552) (by omega) (hgv h);have t1:=y87 r s.ts hs.ts hs.tl;generalize zcs c v RS cfg=QQ at *;obtain ⟨G,gb⟩:=QQ;simp only at g1 hgl s1 hsl hsv;generalize zgs cfg G=QQ at *;obtain ⟨tr,sb⟩:=QQ;simp only at s1 hsl hsv;cases rb with
 | false =>
  simp only [Bool.false_and,Bool.false_eq_true,if_false];rw [hz];refine zae rfl rfl ?_;simp [-getElem?_pos,zj9,zj8,e1,e2,e3,r1]
 | true =>
 cases gb with
 | false =>
  simp only [Bool.and_false,Bool.false_eq_true,if_false];rw [hz];refine zae rfl rfl ?_;simp [-getElem?_pos,zj9,zj8,e1,e2,e3,r1,g1,s1]
 | true =>
 cases sb with
 | false =>
  simp only [Bool.and_true,if_true,Bool.false_eq_true,if_false];rw [hz];refine zae rfl rfl ?_;simp [-getElem?_pos,zj9,zj8,e1,e2,e3,r1,g1,s1]
 | true =>
 simp only [Bool.and_true,if_true];have hev:=ysi (t:=tr) (by omega) (hsv rfl);have hlr:s.sm.length=t.rw.length:=by have:=hrl.2 rfl; omega
 have hts:=z88 s.ts tr;have hrt:zag 24 (s.ts.length+1)=true:=by have:=hs.ts; simp [zag]; omega
 have hr24:zag 24 1=true:=by decide
 clear hsv hgv;refine zae rfl rfl ?_;simp [-getElem?_pos,zj9,zj8,e1,e2,e3,r1,g1,s1,t1,hts,hrt,hr24];refine zan (fun n st => ∃ (i:Nat) (m:List Int) (x:PV),i+n=s.sm.length/\m.length=i/\zdd tr s.sm t.rw=(zdd tr (s.sm.drop i) (t.rw.drop i)).map (m ++ ·)/\st.V 4 = .ptr 0 none 0 0 0/\st.V 7 = .ptr 3 none 0 0 0/\st.V 8 = .ptr 4 none 0 0 0/\st.V 14 = .ptr 11 none 0 0 0/\st.V 16 = .ptr 15 none 0 0 0/\st.V 17=iv i/\st.ep=0/\15<st.nx/\LC st.S st.nx 15 m x/\st.S 0=some (.box [.sl 1 (za5 t.ns),.v (.string t.nm),.sl 1 (rws p t.rw),.sl 1 (zab t.lb)])/\st.S 3=some (.box [.sl 1 (zab s.sm),.sl 1 (trs r s.ts)])/\st.S 4=some (.box [.e0,.e0])/\st.S 10=some (.shadow 5 (tr.map nd) 0)/\st.S 11=some (.box [.ref 10 none 0 0 tr.length])/\st.S 14=some (.row 1 (trs true (s.ts++[tr])))/\st.S 15=some (.box [x,.ref 14 none 0 0 (s.ts.length+1)])) ?_ s.sm.length _ ⟨0,[],.e0,by omega,rfl,by simp,by simp,by simp,by simp,by simp,by simp,by simp,by simp,by simp,.inl ⟨rfl,rfl⟩,by simp⟩;rintro n st ⟨i,m,x,hi,hm,hE,v4,v7,v8,v14,v16,v17,hep,hnx,hx,hS0,hS3,hS4,hS10,hS11,hS14,hS15⟩;have Z0:=bI v4 <| bI v7 <| bI v8 <| bI v14 <| bI v16 <| bI v17 <| bI hep <| bI hS0 <| bI hS3 <| bI hS4 <| bI hS10 <| bI hS11 <| bI hS14 hS15
 have z0:=fr (show 0<st.nx by omega);have z3:=fr (show 3<st.nx by omega);have z4:=fr (show 4<st.nx by omega);have z10:=fr (show 10<st.nx by omega);have z11:=fr (show 11<st.nx by omega);have z14:=fr (show 14<st.nx by omega);have z15:=fr hnx;have n14 : ¬ st.nx=14:=by omega
 by_cases h:i<s.sm.length
 ·obtain ⟨y,hy⟩ : ∃ x,s.sm[i]?=some x:=⟨_,bG h⟩;obtain ⟨w,hw⟩ : ∃ x,t.rw[i]?=some x:=⟨_,bG (by omega)⟩;have hy':=zax hy;have hw':=zc3 (q:=p) hw;have hir:i<t.rw.length:=by omega
  have hwS:=wS h (by omega:s.sm.length<=9223372036854775807);have v1:=y6r tr w (by omega) (ht.rr w (bF hw));have hei:=hev w;have a1:=z7p y (evt tr w) (hsi y (bF hy)) (by unfold inR at hei; unfold inI; omega);rw [yty hy hw] at hE;generalize evt tr w=ew at *;generalize adi y ew=QQ at *;obtain ⟨ad,ab⟩:=QQ;simp only at a1 hE;cases ab with
  | false =>
   have hA:zib t tr s=(noS,false):=by unfold zib; rw [hE]; rfl
   rw [hA,hz];simp [-getElem?_pos,ztn,Z0,h,hy',hw',hir,v1,a1]
  | true =>
   rw [if_pos rfl] at hE;have hE2:zdd tr s.sm t.rw=(zdd tr (s.sm.drop (i+1)) (t.rw.drop (i+1))).map ((m++[ad]) ++ ·):=by
    rw [hE,Option.map_map]; congr 1; funext l; simp
   have hr8:zag 8 1=true:=by decide
   have hr8':=zbv (n:=m.length+1) (by omega);have hsn:=zbn m ad;rcases hx with ⟨rfl,rfl⟩ | ⟨o,e,rfl,ho,hox,hSo⟩
   ·simp [-getElem?_pos,ztn,Z0,h,hy',hw',hir,v1,a1,hwS,hr8,z0,z3,z4,z10,z11,z14,z15];exact zah (n-1) (by omega) ⟨i+1,[ad],.ref (st.nx+1) none 0 0 1,by omega,by simp at hm; simp; omega,by simpa using hE2,by simp [v4],by simp [v7],by simp [v8],by simp [v14],by simp [v16],by simp,by simp [hep],by simp; omega,.inr ⟨st.nx+1,0,by simp,by omega,by simp [zab,n14]⟩,by simp [z0,hS0,z3,hS3,z4,hS4,z10,hS10,z11,hS11,z14,hS14,n14]⟩
   ·have y1:=fr hox;have y2:=fr (show 0<o by omega);have y3:=fr (show 3<o by omega);have y4:=fr (show 4<o by omega);have y5:=fr (show 10<o by omega);have y6:=fr (show 11<o by omega);have y7:=fr (show 14<o by omega);have y8:=fr ho;simp [-getElem?_pos,ztn,Z0,hSo,h,hy',hw',hir,v1,a1,hwS,hr8,hr8',hsn,z0,z3,z4,z10,z11,z14,z15,y1,y2,y3,y4,y5,y6,y7,y8];exact zah (n-1) (by omega) ⟨i+1,m++[ad],.ref (st.nx+1) none 0 0 (m.length+1),by omega,by simp [hm],hE2,by simp [v4],by simp [v7],by simp [v8],by simp [v14],by simp [v16],by simp,by simp [hep],by simp; omega,.inr ⟨st.nx+1,0,by simp,by omega,by simp [n14]⟩,by simp [z0,y2,hS0,z3,y3,hS3,z4,y4,hS4,z10,y5,hS10,z11,y6,hS11,z14,y7,hS14,n14]⟩
 ·have hA:zib t tr s=(⟨m,s.ts++[tr]⟩,true):=by
   unfold zib;rw [hE,List.drop_eq_nil_of_le (by omega),List.drop_eq_nil_of_le (by omega)];simp [zdd]
  rw [hA];rcases hx with ⟨rfl,rfl⟩ | ⟨o,e,rfl,ho,hox,hSo⟩
  ·simp [-getElem?_pos,ztn,Z0,h,z0,z3,z4,z10,z11,z14,z15]
  ·have y4:=fr (show 4<o by omega);have y7:=fr (show 14<o by omega);have y8:=fr ho;simp [-getElem?_pos,ztn,Z0,hSo,h,z0,z3,z4,z10,z11,z14,z15,y4,y7,y8]
open Classical in
theorem y9s (p q r:Bool) (t:Ta) (c v:List (List Int)) (cfg:Cfg) (s:Sta) (ht:TaL 1048576 t) (hti : ∀ y∈t.lb,inI y) (hcl:c.length<=1048576) (hc : ∀ l∈c,l.length<=1048576) (hvl:v.length<=1048576) (hv : ∀ l∈v,l.length<=1048576) (hg:cfg.sg.length<=1048576) (hs:z8v 1048576 s) (hsi : ∀ x∈s.sm,inI x):RUN T zqh [taS p t,.agg [.sl 1 (rws q c),.sl 1 (rws q v)],cfS cfg,stS r s]=some ([stO (zde t c v cfg s).1,bv (zde t c v cfg s).2],[]):=by
 have e1:=yl2 p t ht;have e2:=y9r p t cfg.bi ht;have e3:=y9p q true c v (zbo t cfg.bi) (zbp t cfg.bi) (by omega) (fun l hl=>Nat.le_trans (hc l hl) (by omega)) (by omega) (fun l hl=>Nat.le_trans (hv l hl) (by omega));have r1:=y7a t.lb s.sm ht.lb hs.sm hti hsi;have hrl:=yp7 (l:=t.lb) (m:=s.sm);have hri:=ym9 (l:=t.lb) (m:=s.sm);have hrw:=ht.rw;have hsm:=hs.sm;have hlb:=ht.lb;have hz:stO noS = .agg [.own 1 [],.own 1 []]:=rfl;simp only [taS,stS] at *;cases ht1:zct t with
 | false =>
  have hR:zde t c v cfg s=(noS,false):=by unfold zde; rw [if_neg (by rw [ht1]; simp)]
  rw [hR,hz];rw [ht1] at e1;refine zae rfl rfl ?_;simp [-getElem?_pos,zj7,zj8,e1]
 | true =>
 rw [ht1] at e1;have htr:=zmk ht1
 by_cases hcg:c=zbo t cfg.bi/\v=zbp t cfg.bi
 case neg =>
  have hR:zde t c v cfg s=(noS,false):=by unfold zde; rw [if_neg fun h=>hcg h.2]
  have hd:(decide (c=zbo t cfg.bi) && decide (v=zbp t cfg.bi))=false:=by
   cases h1:decide (c=zbo t cfg.bi) with
   | false=>rfl
   | true=>exact decide_eq_false fun h=>hcg ⟨of_decide_eq_true h1,h⟩
  rw [hR,hz];rw [hd] at e3;generalize zbo t cfg.bi=GC at *;generalize zbp t cfg.bi=GW at *;refine zae rfl rfl ?_;simp [-getElem?_pos,zj7,zj8,e1,e2,e3]
 case pos =>
 have hR:zde t c v cfg s=zpo t c v cfg s:=by unfold zde; rw [if_pos ⟨ht1,hcg⟩]
 have hd:(decide (c=zbo t cfg.bi) && decide (v=zbp t cfg.bi))=true:=by rw [decide_eq_true hcg.1,decide_eq_true hcg.2]; rfl
 rw [hR];rw [hd] at e3;generalize zbo t cfg.bi=GC at *;generalize zbp t cfg.bi=GW at *;clear hR hd hcg ht1;unfold zpo zm6;generalize zfs t.lb s.sm=QQ at *;obtain ⟨RS,rb⟩:=QQ;simp only at r1 hrl hri;have g1:=y8y q c v RS cfg hc hv (by omega) hg hri;have hgl:=ybr (c:=c) (v:=v) (g:=RS) (cfg:=cfg);have hgv:=yui (c:=c) (v:=v) (g:=RS) (cfg:=cfg);have s1:=y89 (zcs c v RS cfg).1 cfg (by omega) hg;have hsl:=yct (c:=cfg) (t:=(zcs c v RS cfg).1);have hsv:=fun h=>ynw (c:=cfg) (t:=(zcs c v RS cfg).1) (R:=2199023255552) (by omega) (hgv h);have t1:=y86 r s.ts hs.ts hs.tl;generalize zcs c v RS cfg=QQ at *;obtain ⟨G,gb⟩:=QQ;simp only at g1 hgl s1 hsl hsv;generalize zgs cfg G=QQ at *;obtain ⟨tr,sb⟩:=QQ;simp only at s1 hsl hsv;cases rb with
 | false =>
  simp only [Bool.false_and,Bool.false_eq_true,if_false];rw [hz];refine zae rfl rfl ?_;simp [-getElem?_pos,zj7,zj8,e1,e2,e3,r1]
 | true =>
 cases gb with
 | false =>
  simp only [Bool.and_false,Bool.false_eq_true,if_false];rw [hz];refine zae rfl rfl ?_;simp [-getElem?_pos,zj7,zj8,e1,e2,e3,r1,g1,s1]
 | true =>
 cases sb with
 | false =>
  simp only [Bool.and_true,if_true,Bool.false_eq_true,if_false];rw [hz];refine zae rfl rfl ?_;simp [-getElem?_pos,zj7,zj8,e1,e2,e3,r1,g1,s1]
 | true =>
 simp only [Bool.and_true,if_true];have hev:=ysi (t:=tr) (by omega) (hsv rfl);have hlr:s.sm.length=t.rw.length:=by have:=hrl.2 rfl; omega
 have hts:=z88 s.ts tr;have hrt:zag 24 (s.ts.length+1)=true:=by have:=hs.ts; simp [zag]; omega
 have hr24:zag 24 1=true:=by decide
 clear hsv hgv;refine zae rfl rfl ?_;simp [-getElem?_pos,zj7,zj8,e1,e2,e3,r1,g1,s1,t1,hts,hrt,hr24];refine zan (fun n st => ∃ (i:Nat) (m:List Int) (x:PV),i+n=s.sm.length/\m.length=i/\zdd tr s.sm t.rw=(zdd tr (s.sm.drop i) (t.rw.drop i)).map (m ++ ·)/\st.V 4 = .ptr 0 none 0 0 0/\st.V 70 = .sl 1 (zab s.sm)/\st.V 71=iv s.sm.length/\st.V 8 = .ptr 4 none 0 0 0/\st.V 13 = .ptr 11 none 0 0 0/\st.V 14 = .ptr 15 none 0 0 0/\st.V 72=iv i/\st.ep=0/\15<st.nx/\LC st.S st.nx 15 m x/\st.S 0=some (.box [.sl 1 (za5 t.ns),.v (.string t.nm),.sl 1 (rws p t.rw),.sl 1 (zab t.lb)])/\st.S 4=some (.box [.e0,.e0])/\st.S 10=some (.shadow 5 (tr.map nd) 0)/\st.S 11=some (.box [.ref 10 none 0 0 tr.length])/\st.S 14=some (.row 1 (trs true (s.ts++[tr])))/\st.S 15=some (.box [x,.ref 14 none 0 0 (s.ts.length+1)])) ?_ s.sm.length _ ⟨0,[],.e0,by omega,rfl,by simp,by simp,by simp,by simp,by simp,by simp,by simp,by simp,by simp,by simp,.inl ⟨rfl,rfl⟩,by simp⟩;rintro n st ⟨i,m,x,hi,hm,hE,v4,v70,v71,v8,v13,v14,v72,hep,hnx,hx,hS0,hS4,hS10,hS11,hS14,hS15⟩;have Z0:=bI v4 <| bI v70 <| bI v71 <| bI v8 <| bI v13 <| bI v14 <| bI v72 <| bI hep <| bI hS0 <| bI hS4 <| bI hS10 <| bI hS11 <| bI hS14 hS15
 have z0:=fr (show 0<st.nx by omega);have z3:=fr (show 3<st.nx by omega);have z4:=fr (show 4<st.nx by omega);have z10:=fr (show 10<st.nx by omega);have z11:=fr (show 11<st.nx by omega);have z14:=fr (show 14<st.nx by omega);have z15:=fr hnx;have n14 : ¬ st.nx=14:=by omega
 by_cases h:i<s.sm.length
 ·obtain ⟨y,hy⟩ : ∃ x,s.sm[i]?=some x:=⟨_,bG h⟩;obtain ⟨w,hw⟩ : ∃ x,t.rw[i]?=some x:=⟨_,bG (by omega)⟩;have hy':=zax hy;have hw':=zc3 (q:=p) hw;have hir:i<t.rw.length:=by omega
  have hwS:=wS h (by omega:s.sm.length<=9223372036854775807);have v1:=y6s tr w (by omega) (ht.rr w (bF hw));have hei:=hev w;have a1:=yaf y (evt tr w) (hsi y (bF hy)) (by unfold inR at hei; unfold inI; omega);rw [yty hy hw] at hE;generalize evt tr w=ew at *;generalize adi y ew=QQ at *;obtain ⟨ad,ab⟩:=QQ;simp only at a1 hE;cases ab with
  | false =>
   have hA:zib t tr s=(noS,false):=by unfold zib; rw [hE]; rfl
   rw [hA,hz];simp [-getElem?_pos,ztm,Z0,h,hy',hw',hir,v1,a1]
  | true =>
   rw [if_pos rfl] at hE;have hE2:zdd tr s.sm t.rw=(zdd tr (s.sm.drop (i+1)) (t.rw.drop (i+1))).map ((m++[ad]) ++ ·):=by
    rw [hE,Option.map_map]; congr 1; funext l; simp
   have hr8:zag 8 1=true:=by decide
   have hr8':=zbv (n:=m.length+1) (by omega);have hsn:=zbn m ad;rcases hx with ⟨rfl,rfl⟩ | ⟨o,e,rfl,ho,hox,hSo⟩
   ·simp [-getElem?_pos,ztm,Z0,h,hy',hw',hir,v1,a1,hwS,hr8,z0,z3,z4,z10,z11,z14,z15];exact zah (n-1) (by omega) ⟨i+1,[ad],.ref (st.nx+1) none 0 0 1,by omega,by simp at hm; simp; omega,by simpa using hE2,by simp [v4],by simp [v70],by simp [v71],by simp [v8],by simp [v13],by simp [v14],by simp,by simp [hep],by simp; omega,.inr ⟨st.nx+1,0,by simp,by omega,by simp [zab,n14]⟩,by simp [z0,hS0,z4,hS4,z10,hS10,z11,hS11,z14,hS14,n14]⟩
   ·have y1:=fr hox;have y2:=fr (show 0<o by omega);have y3:=fr (show 3<o by omega);have y4:=fr (show 4<o by omega);have y5:=fr (show 10<o by omega);have y6:=fr (show 11<o by omega);have y7:=fr (show 14<o by omega);have y8:=fr ho;simp [-getElem?_pos,ztm,Z0,hSo,h,hy',hw',hir,v1,a1,hwS,hr8,hr8',hsn,z0,z3,z4,z10,z11,z14,z15,y1,y2,y3,y4,y5,y6,y7,y8];exact zah (n-1) (by omega) ⟨i+1,m++[ad],.ref (st.nx+1) none 0 0 (m.length+1),by omega,by simp [hm],hE2,by simp [v4],by simp [v70],by simp [v71],by simp [v8],by simp [v13],by simp [v14],by simp,by simp [hep],by simp; omega,.inr ⟨st.nx+1,0,by simp,by omega,by simp [n14]⟩,by simp [z0,y2,hS0,z4,y4,hS4,z10,y5,hS10,z11,y6,hS11,z14,y7,hS14,n14]⟩
 ·have hA:zib t tr s=(⟨m,s.ts++[tr]⟩,true):=by
   unfold zib;rw [hE,List.drop_eq_nil_of_le (by omega),List.drop_eq_nil_of_le (by omega)];simp [zdd]
  rw [hA];rcases hx with ⟨rfl,rfl⟩ | ⟨o,e,rfl,ho,hox,hSo⟩
  ·simp [-getElem?_pos,ztm,Z0,h,z0,z3,z4,z10,z11,z14,z15]
  ·have y4:=fr (show 4<o by omega);have y7:=fr (show 14<o by omega);have y8:=fr ho;simp [-getElem?_pos,ztm,Z0,hSo,h,z0,z3,z4,z10,z11,z14,z15,y4,y7,y8]
structure BI (t:Ta) (n:Nat) (s:Sta):Prop where
 st:StI t n s
 tl : ∀ x∈s.ts,x.length<=32
 sum : ∀ (i:Nat) (p:Int) (r:List Int),s.sm[i]?=some p->t.rw[i]?=some r->ym7 r s.ts (zc5 t.lb).1=p
theorem BI.new {t:Ta} (h:zct t=true):BI t 0 (zhs t).1:=by
 refine ⟨StI.new h,?_,fun i p r hp hr => ?_⟩
 ·unfold zhs; rw [if_pos h]; intro x hx; cases hx
 ·unfold zhs at hp ⊢;rw [if_pos h] at hp ⊢;exact ((List.mem_replicate.mp (bF hp)).2).symm
theorem yd2 {tr:List Nd} : ∀ {ps:List Int} {rs:List (List Int)} {q:List Int},zdd tr ps rs=some q->q.length<=ps.length
 | [],rs,q,h=>by simp [zdd] at h; subst h; simp
 | p::ps,[],q,h=>by simp [zdd] at h; subst h; simp
 | p::ps,r::rs,q,h=>by
  rw [zdd] at h;split at h
  ·simp only [bB] at h;obtain ⟨q',h2,rfl⟩:=h;have:=yd2 h2;simp only [List.length_cons]; omega
  ·cases h
theorem yoz {t:Ta} {c v:List (List Int)} {cfg:Cfg} {s:Sta}:(zm6 t c v cfg s).1.length<=32:=by
 unfold zm6;split
 ·exact Nat.le_trans (yct _ _) (ybr _ _ _ _)
 ·simp
def PTb (v:PV):Prop := ∃ t:Ta,v=taO t/\TaL 128 t/\∀ x∈t.lb,inI x
theorem yqb {t:Ta} (h:zct t=true) : ∀ y∈t.lb,inI y:=by
 unfold zct at h;simp only [Bool.and_eq_true,List.all_eq_true] at h;intro y hy;have:=zay.mp (h.1.2 y hy);unfold inI;omega
theorem y9t (B:List Int) (p:Nat) (s:Int) (hp:p<=B.length) (hB:B.length<=9223372036854775807) : ∃ r,RUN T zrg [.bx [.sl 1 (zbl B),iv p,iv s]]=some r/\zfk B PTb r:=by
 refine zeu rfl rfl ?_;obtain ⟨r1,h1,v1,p1,s1,⟨t,rfl,ht,hok⟩,hp1,rfl⟩:=ya0 B p s hp hB;obtain ⟨t1,t2,t3,t4,t5,t6⟩:=zmk hok;have hlI:=yqb hok;clear hok;obtain ⟨ns,nm,rw,lb⟩:=t;have c1:=ht.ns;have c2:=ht.ss;have c3:=ht.nm;have c4:=ht.rw;have c5:=ht.rr;have c6:=ht.lb;simp only at t1 t2 t3 t4 t5 t6 hlI c1 c2 c3 c4 c5 c6;clear ht;simp only [taO] at h1;obtain ⟨r2,h2,v2,p2,s2,⟨a2,rfl,a20,a21⟩,hp2,rfl⟩:=za9 B p1 s1 hp1 hB rw.length (by omega);have a22:=a21 (by omega);obtain ⟨f,rfl⟩ : ∃ f:Nat,a2=f:=⟨a2.toNat,by omega⟩;obtain ⟨r3,h3,v3,p3,s3,⟨d,rfl,d0,d1⟩,hp3,rfl⟩:=za9 B p2 s2 hp2 hB 14 (by omega);have hf:f<rw.length:=by omega
 have hfy:f<lb.length:=by omega
 obtain ⟨l,hl⟩ : ∃ l,rw[f]?=some l:=⟨_,bG hf⟩;have hln:=t6 l (bF hl);have hl':=zc3 (q:=true) hl;simp only [cel,if_true] at hl';have hr1:zag 8 1=true:=by decide
 have hr0:zag 8 0=true:=by decide
 have hr3:zag 8 3=true:=by decide
 have hr7:zag 16 7=true:=by decide
 have hr13:zag 16 3=true:=by decide
 have hrl:=zbv (n:=l.length+1) (by omega);have hrb:=zbv (n:=lb.length+1) (by omega);have mk : ∀ {ns:List ByteArray} {nm:ByteArray} {rw:List (List Int)} {lb:List Int},ns.length<=128->(∀ x∈ns,x.size<=128)->nm.size<=128->rw.length<=128->(∀ l∈rw,l.length<=128)->lb.length<=128->(∀ x∈lb,inI x)->PTb (taO ⟨ns,nm,rw,lb⟩):=fun a b c d e f g=>⟨_,rfl,⟨a,b,c,d,e,f⟩,g⟩;have nsA : ∀ x∈ns,x.size<=128:=fun x hx=>Nat.le_trans (c2 x hx) (by omega);have rwA : ∀ l∈rw,l.length<=128:=fun l hl=>Nat.le_trans (c5 l hl) (by omega)
 by_cases e0:d=0
 ·subst e0;obtain ⟨x0,hx0⟩ : ∃ x,ns[0]?=some x:=⟨_,bG (by omega)⟩;have hx0':=zvi hx0;have hn0:0<ns.length:=by omega
  obtain ⟨r4,h4,y,p4,s4,hy,hp4,rfl⟩:=ylk B p3 s3 hp3 hB [bs [],bs [65],bs [49,97],bs [121],bs [97,98,99,100,101,102,103,104,105,106,107,108],bs [97,98,99,100,101,102,103,104,105,106,107,108,109],bs [98]] (by simp);have hys:y.size<=128:=by
   simp only [List.mem_cons,List.not_mem_nil,or_false] at hy;rcases hy with rfl | rfl | rfl | rfl | rfl | rfl | rfl <;> decide
  simp only [za5,List.map] at h4;have hset:=qib ns 0 y;simp [-getElem?_pos,zhc,zme,h1,h2,h3,h4,hr7,hx0',hset,hn0];exact ⟨_,p4,s4,mk (by simp; omega) (zjk nsA hys) (by omega) (by omega) rwA (by omega) hlI,hp4,rfl⟩
 by_cases e1:d=1
 ·subst e1;obtain ⟨r4,h4,y,p4,s4,hy,hp4,rfl⟩:=ylk B p3 s3 hp3 hB [bs [],bs [97],bs [121,45]] (by simp);have hys:y.size<=128:=by
   simp only [List.mem_cons,List.not_mem_nil,or_false] at hy;rcases hy with rfl | rfl | rfl <;> decide
  simp only [za5,List.map] at h4;simp [-getElem?_pos,zhc,zme,h1,h2,h3,h4,hr13];exact ⟨_,p4,s4,mk (by omega) nsA hys (by omega) rwA (by omega) hlI,hp4,rfl⟩
 by_cases e2:d=2
 ·subst e2;have hsn:=zbn l 0;have hset:=zpv rw f (l++[0]);simp [-getElem?_pos,zhc,zme,zbd,zbx,h1,h2,h3,hf,hl',hr1,hrl,hsn,hset];exact ⟨_,p3,s3,mk (by omega) nsA (by omega) (by simp; omega) (zjk rwA (by simp; omega)) (by omega) hlI,hp3,rfl⟩
 by_cases e3:d=3
 ·subst e3;obtain ⟨r4,h4,v4,p4,s4,⟨x,rfl,hx⟩,hp4,rfl⟩:=zfr B p3 s3 hp3 hB [2147483647,2147483648,-2147483648] (by simp);simp only [zab,List.map] at h4;obtain ⟨y,hy⟩ : ∃ y,l[0]?=some y:=⟨_,bG (by omega)⟩;have hy':=zax hy;have hu0:0<l.length:=by omega
  have hset0:=zyf l 0 x;have hset:=zpv rw f (l.set 0 x);simp [-getElem?_pos,zhc,zme,zbd,zbx,h1,h2,h3,h4,hf,hl',hy',hu0,hr3,hset0,hset];exact ⟨_,p4,s4,mk (by omega) nsA (by omega) (by simp; omega) (zjk rwA (by simp; omega)) (by omega) hlI,hp4,rfl⟩
 by_cases e4:d=4
 ·subst e4;obtain ⟨r4,h4,v4,p4,s4,⟨x,rfl,hx⟩,hp4,rfl⟩:=yla B p3 s3 hp3 hB;obtain ⟨y,hy⟩ : ∃ y,lb[f]?=some y:=⟨_,bG hfy⟩;have hy':=zax hy;have hset:=zyf lb f x;simp [-getElem?_pos,zhc,zme,h1,h2,h3,h4,hfy,hy',hset];exact ⟨_,p4,s4,mk (by omega) nsA (by omega) (by omega) rwA (by simp; omega) (zjk hlI hx),hp4,rfl⟩
 by_cases e5:d=5
 ·subst e5;have hsn:=zbn lb 1;simp [-getElem?_pos,zhc,zme,h1,h2,h3,hr1,hrb,hsn];exact ⟨_,p3,s3,mk (by omega) nsA (by omega) (by omega) rwA (by simp; omega) (zqb hlI (by unfold inI; omega)),hp3,rfl⟩
 by_cases e6:d=6
 ·subst e6;have hset:=zpv rw f [];simp only [zab,List.map] at hset;simp [-getElem?_pos,zhc,zme,zbd,zbx,h1,h2,h3,hf,hl',hr0,hset];exact ⟨_,p3,s3,mk (by omega) nsA (by omega) (by simp; omega) (zjk rwA (by simp)) (by omega) hlI,hp3,rfl⟩
 by_cases e7:d=7
 ·subst e7;simp [-getElem?_pos,zhc,zme,h1,h2,h3];refine zan (fun n st => ∃ (p o1 o2 a1 a2:Nat) (s:Int) (L:List (List Int)) (Y:List Int),L.length+n=50/\1<=L.length/\L.length<=41/\(∀ l∈L,l.length<=64)/\Y.length<=64+L.length/\(∀ x∈Y,inI x)/\p<=B.length/\st.V 0 = .ptr 0 none 0 0 0/\st.V 2 = .ptr 1 none 0 0 0/\st.V 3 = .ptr 5 none 0 0 0/\2<o1/\o1≠5/\o1<st.nx/\2<o2/\o2≠5/\o2<st.nx/\o1≠o2/\5<st.nx/\st.S 0=some (.box [.sl 1 (zbl B),iv p,iv s])/\st.S 1=some (.box [.e0,.v (.string (bs [])),.e0,.e0])/\st.S 2=some (.row 1 (za5 ns))/\st.S o1=some (.row 1 (rws true L))/\st.S o2=some (.row 1 (zab Y))/\st.S 5=some (.box [.ref 2 none 0 0 ns.length,.v (.string nm),.ref o1 none a1 0 L.length,.ref o2 none a2 0 Y.length])) ?_ (50-rw.length) _ ⟨p3,3,4,0,0,s3,rw,lb,by omega,by omega,by omega,c5,by omega,hlI,hp3,by simp,by simp,by simp,by omega,by omega,by simp,by omega,by omega,by simp,by omega,by simp⟩;clear h1 h2 h3 hp1 hp2 hp3 hp e0 e1 e2 e3 e4 e5 e6 hl' hln hl hf hfy a20 a21 a22 d0 d1 hrl hrb;rintro n st ⟨p,o1,o2,a1,a2,s,L,Y,hi,hL1,hL,hLl,hY,hYi,hp,v0,v2,v3,ho1,ho15,ho1x,ho2,ho25,ho2x,ho12,hnx,hS0,hS1,hS2,hSo1,hSo2,hS5⟩;obtain ⟨r1,h1,v1,p1,s1,⟨b,rfl,b0,b1⟩,hp1,rfl⟩:=za9 B p s hp hB 2 (by omega);have b2:=b1 (by omega);have w1:=w64 (x:=40+b) (by omega) (by omega);have z0:=fr (show 0<st.nx by omega);have z1:=fr (show 1<st.nx by omega);have z2:=fr (show 2<st.nx by omega);have z5:=fr hnx;have y1:=fr ho1x;have y2:=fr ho2x;have u:(o1=5)=False/\(5=o1)=False/\(o2=5)=False/\(5=o2)=False/\(o1=o2)=False/\(o2=o1)=False/\(o1=0)=False/\(0=o1)=False/\(o2=0)=False/\(0=o2)=False/\(o1=1)=False/\(1=o1)=False/\(o2=1)=False/\(1=o2)=False/\(o1=2)=False/\(2=o1)=False/\(o2=2)=False/\(2=o2)=False:=by
   refine ⟨?_,?_,?_,?_,?_,?_,?_,?_,?_,?_,?_,?_,?_,?_,?_,?_,?_,?_⟩ <;> exact eq_false (by omega)
  by_cases h:(L.length:Int)<40+b
  ·obtain ⟨l,hl⟩ : ∃ l,L[0]?=some l:=⟨_,bG (by omega)⟩;have hl':=zc3 (q:=true) hl;simp only [cel,if_true] at hl';have hl64:=hLl l (bF hl);have hrl:=zbv (n:=l.length) (by omega);have hrw:zag 24 (L.length+1)=true:=by simp [zag]; omega
   have hr24:zag 24 1=true:=by decide
   have hry:=zbv (n:=Y.length+1) (by omega);have hsn:=zml L l;have hsy:=zbn Y 0;have hL0:0<L.length:=by omega
   have nz : ¬ st.nx=0:=by omega
   have n53 : ¬ st.nx+3=o2/\¬ st.nx+3=5/\¬ st.nx+5=5/\¬ st.nx=2:=⟨by omega,by omega,by omega,by omega⟩;have na : ∀ a b:Nat,st.nx+a+b=st.nx+(a+b):=fun a b=>Nat.add_assoc _ _ _;simp [-getElem?_pos,z9u,zbd,zbx,v0,v2,v3,hS0,hS1,hS2,hSo1,hSo2,hS5,h1,w1,h,hl',hr0,hr1,hrl,hrw,hr24,hry,hsn,hsy,hL0,z0,z1,z2,z5,y1,y2,u,yc9,na];exact zah (n-1) (by omega) ⟨p1,st.nx+3,st.nx+5,st.ep,st.ep,s1,L++[l],Y++[0],by simp; omega,by simp,by simp; omega,zqb hLl hl64,by simp; omega,zqb hYi (by unfold inI; omega),hp1,by simp [v0],by simp [v2],by simp [v3],by omega,by omega,by simp,by omega,by omega,by simp,by omega,by first | (simp; done) | (simp; omega),by simp [z0,u,nz,z1,hS1,z2,hS2,y1,y2,z5,n53]⟩
  ·simp [-getElem?_pos,z9u,v0,v2,v3,hS0,hS1,hS2,hSo1,hSo2,hS5,h1,w1,h,z0,z1,z2,z5,y1,y2,u,show 1<=o1 by omega,show 1<=o2 by omega];exact ⟨_,p1,s1,mk (by omega) nsA (by omega) (by omega) (fun l hl=>Nat.le_trans (hLl l hl) (by omega)) (by omega) hYi,hp1,rfl⟩
 ·simp [-getElem?_pos,zhc,zme,h1,h2,h3,e0,e1,e2,e3,e4,e5,e6,e7];exact ⟨_,p3,s3,mk (by omega) nsA (by omega) (by omega) rwA (by omega) hlI,hp3,rfl⟩
theorem y9u (B:List Int) (hB:B.length<=9223372036854775807) : ∃ (t:Ta) (c:Cfg) (p:Nat) (s:Int),TaL 128 t/\(∀ x∈t.lb,inI x)/\c.sg.length<=64/\p<=B.length/\RUN T zqk [.sl 1 (zbl B)]=some ([.bx [.sl 1 (zbl B),iv p,iv s],taO t,zis c],[]):=by
 obtain ⟨r,h,s,rfl⟩:=y65 B hB;simp only [Int.natCast_zero] at h;obtain ⟨r1,h1,v1,p1,s1,⟨t,rfl,ht,hok⟩,hp1,rfl⟩:=ya0 B 0 s (by omega) hB;simp only [Int.natCast_zero] at h1;have hlI:=yqb hok;have ht':TaL 128 t:=⟨Nat.le_trans ht.ns (by omega),fun x hx=>Nat.le_trans (ht.ss x hx) (by omega),Nat.le_trans ht.nm (by omega),Nat.le_trans ht.rw (by omega),fun x hx=>Nat.le_trans (ht.rr x hx) (by omega),Nat.le_trans ht.lb (by omega)⟩;obtain ⟨r2,h2,v2,p2,s2,⟨c,rfl,hc⟩,hp2,rfl⟩:=ylb B p1 s1 hp1 hB;obtain ⟨r3,h3,v3,p3,s3,⟨b3,rfl⟩,hp3,rfl⟩:=zgq B p2 s2 hp2 hB 16 (by omega);simp only [taO,zis] at h1 h2;cases b3 with
 | false =>
  obtain ⟨r5,h5,v5,p5,s5,⟨b5,rfl⟩,hp5,rfl⟩:=zgq B p3 s3 hp3 hB 16 (by omega);cases b5 with
  | false =>
   refine ⟨t,c,p5,s5,ht',hlI,by omega,hp5,zae rfl rfl ?_⟩;simp [-getElem?_pos,zok,zol,h,h1,h2,h3,h5]
  | true =>
   obtain ⟨r6,h6,v6,p6,s6,⟨c',rfl,hc'⟩,hp6,rfl⟩:=ylc B p5 s5 hp5 hB;simp only [zis] at h6;refine ⟨t,c',p6,s6,ht',hlI,hc',hp6,zae rfl rfl ?_⟩;simp [-getElem?_pos,zok,zol,h,h1,h2,h3,h5,h6]
 | true =>
  obtain ⟨r4,h4,v4,p4,s4,⟨t',rfl,ht2,hl2⟩,hp4,rfl⟩:=y9t B p3 s3 hp3 hB;obtain ⟨r5,h5,v5,p5,s5,⟨b5,rfl⟩,hp5,rfl⟩:=zgq B p4 s4 hp4 hB 16 (by omega);simp only [taO] at h4;cases b5 with
  | false =>
   refine ⟨t',c,p5,s5,ht2,hl2,by omega,hp5,zae rfl rfl ?_⟩;simp [-getElem?_pos,zok,zol,h,h1,h2,h3,h4,h5]
  | true =>
   obtain ⟨r6,h6,v6,p6,s6,⟨c',rfl,hc'⟩,hp6,rfl⟩:=ylc B p5 s5 hp5 hB;simp only [zis] at h6;refine ⟨t',c',p6,s6,ht2,hl2,hc',hp6,zae rfl rfl ?_⟩;simp [-getElem?_pos,zok,zol,h,h1,h2,h3,h4,h5,h6]
theorem TaL.of128 {t:Ta} (h:TaL 128 t):TaL 1048576 t:=⟨Nat.le_trans h.ns (by omega),fun x hx=>Nat.le_trans (h.ss x hx) (by omega),Nat.le_trans h.nm (by omega),Nat.le_trans h.rw (by omega),fun x hx=>Nat.le_trans (h.rr x hx) (by omega),Nat.le_trans h.lb (by omega)⟩
theorem yto {tr:List Nd} : ∀ {ps:List Int} {rs:List (List Int)} {q:List Int},zdd tr ps rs=some q->∀ x∈q,inI x
 | [],rs,q,h=>by simp [zdd] at h; subst h; simp
 | p::ps,[],q,h=>by simp [zdd] at h; subst h; simp
 | p::ps,r::rs,q,h=>by
  rw [zdd] at h;split at h
  ·rename_i h1;simp only [bB] at h;obtain ⟨q',h2,rfl⟩:=h;intro x hx;rcases List.mem_cons.mp hx with rfl | hx
   ·unfold adi at h1 ⊢;split at h1
    ·rename_i hc; rw [if_pos hc]; unfold inI; omega
    ·cases h1
   ·exact yto h2 x hx
  ·cases h
structure SmS (k:Nat) (s:Sta):Prop where
 sm:s.sm.length<=128
 ts:s.ts.length<=k
 tl : ∀ x∈s.ts,x.length<=32
 si : ∀ x∈s.sm,inI x
theorem SmS.no {k:Nat}:SmS k noS:=⟨by simp [noS],by simp [noS],by simp [noS],by simp [noS]⟩
theorem SmS.rnd {k:Nat} {t:Ta} {c v:List (List Int)} {cfg:Cfg} {s:Sta} (h:SmS k s):SmS (k+1) (zde t c v cfg s).1:=by
 unfold zde;split
 ·unfold zpo;split
  ·unfold zib;cases e:zdd (zm6 t c v cfg s).1 s.sm t.rw with
   | none=>exact SmS.no
   | some p =>
    have h1:=yd2 e;have h2:=yoz (t:=t) (c:=c) (v:=v) (cfg:=cfg) (s:=s);have h3:=h.sm;have h4:=h.ts;exact ⟨by simp only; omega,by simp; omega,fun x hx=>by
     rcases List.mem_append.mp hx with hx | hx
     ·exact h.tl x hx
     ·simp at hx; subst hx; omega,yto e⟩
  ·exact SmS.no
 ·exact SmS.no
theorem SmS.new {t:Ta} (ht:TaL 128 t):SmS 0 (zhs t).1:=by
 cases h:zct t with
 | false=>unfold zhs; rw [if_neg (by rw [h]; simp)]; exact ⟨by simp,by simp,by simp,by simp⟩
 | true =>
  have hb:=yqj h;have:=ht.lb;unfold zhs;rw [if_pos h];refine ⟨by simp; omega,by simp,by simp,fun x hx => ?_⟩;rw [(List.mem_replicate.mp hx).2];unfold inR at hb;unfold inI;omega
theorem qb4 (t:Ta) (b:Int):(zbo t b).length<=4/\(zbp t b).length<=4:=by
 cases h:zct t with
 | false=>unfold zbo zbp; rw [h]; simp
 | true =>
  cases hb:zaj b 2 8 with
  | false=>unfold zbo zbp; rw [hb]; simp
  | true =>
   obtain ⟨h1,h2⟩:=yq7 h hb;have:=zmk h;omega
theorem SmS.L {k:Nat} {s:Sta} (h:SmS k s) (hk:k<=128):z8v 1048576 s:=⟨by have:=h.sm; omega,by have:=h.ts; omega,fun x hx=>Nat.le_trans (h.tl x hx) (by omega)⟩
def PRd (r:List PV×List PV):Prop := ∃ (t:Ta) (c:Cfg) (gc gv:List (List Int)) (s:Sta),TaL 128 t/\(∀ x∈t.lb,inI x)/\c.sg.length<=64/\gc.length<=128/\gv.length<=128/\(∀ l∈gc,l.length<=1048576)/\(∀ l∈gv,l.length<=1048576)/\s.sm.length<=129/\s.ts.length<=4/\(∀ x∈s.ts,x.length<=32)/\(∀ x∈s.sm,inI x)/\r=([taO t,.agg [.own 1 (rws true gc),.own 1 (rws true gv)],zis c,stO s],[])
theorem y9v (B:List Int) (hB:B.length<=9223372036854775807) : ∃ r,RUN T zqg [.sl 1 (zbl B)]=some r/\PRd r:=by
 refine zeu rfl rfl ?_;obtain ⟨t,c,p,s,ht,hl,hc,hp,h⟩:=y9u B hB;have e2:=yaz true t c.bi ht.of128;have e3:=y9a true t ht.of128 hl;have hN:=SmS.new ht;obtain ⟨r1,h1,v1,p1,s1,⟨a1,rfl,a10,a11⟩,hp1,rfl⟩:=za9 B p s hp hB 3 (by omega);have a12:=a11 (by omega);obtain ⟨N,rfl⟩ : ∃ n:Nat,a1=n:=⟨a1.toNat,by omega⟩;obtain ⟨r2,h2,v2,p2,s2,⟨d,rfl,d0,d1⟩,hp2,rfl⟩:=za9 B p1 s1 hp1 hB 16 (by omega);obtain ⟨r3,h3,v3,p3,s3,hg,hp3,rfl⟩:=y9j B p2 s2 hp2 hB;obtain ⟨r4,h4,v4,p4,s4,⟨y,rfl,hy⟩,hp4,rfl⟩:=yla B p2 s2 hp2 hB;obtain ⟨r5,h5,v5,p5,s5,⟨tr,rfl,htr⟩,hp5,rfl⟩:=y7q B p2 s2 hp2 hB;obtain ⟨gl1,gl2⟩:=qb4 t c.bi;obtain ⟨l3,l4⟩:=ynm (t:=t) (b:=c.bi);have hrw:=ht.rw;have rn:=fun s hs hsi=>yl7 true true true t (zbo t c.bi) (zbp t c.bi) c s ht.of128 hl (by omega) (fun l hl=>Nat.le_trans (l3 l hl) (by omega)) (by omega) (fun l hl=>by rw [l4 l hl]; omega) (by omega) hs hsi;have hgc : ∀ l∈zbo t c.bi,l.length<=1048576:=fun l hl=>Nat.le_trans (l3 l hl) (by omega);have hgv : ∀ l∈zbp t c.bi,l.length<=1048576:=fun l hl=>by rw [l4 l hl]; omega
 simp only [taS,taO,zis,cfS,stO,stS] at *;generalize zbo t c.bi=GC at *;generalize zbp t c.bi=GW at *;generalize (zhs t).1=s0 at *;simp [-getElem?_pos,zzn,zzo,h,e2,e3,h1];refine zan (fun n st => ∃ (i o1 o2:Nat) (s:Sta),i+n=N/\SmS i s/\st.V 2 = .ptr 0 none 0 0 0/\st.V 3 = .ptr 1 none 0 0 0/\st.V 4 = .ptr 2 none 0 0 0/\st.V 5 = .ptr 3 none 0 0 0/\st.V 7 = .ptr 9 none 0 0 0/\st.V 8 = .ptr 10 none 0 0 0/\st.V 6 = .ptr 4 none 0 0 0/\st.V 9 = .ptr 13 none 0 0 0/\st.V 10 = .ptr 16 none 0 0 0/\st.V 12=iv N/\st.V 13=iv i/\st.ep=0/\13<o1/\o1<st.nx/\13<o2/\o2<st.nx/\¬ o1=o2/\¬ o1=16/\¬ o2=16/\16<st.nx/\st.S 0=some (.box [.e0,.v (.string (bs [])),.e0,.e0])/\st.S 1=some (.box [.e0,.e0])/\st.S 2=some (.box [iv 0,iv 0,iv 0,iv 0,iv 0,iv 0,iv 0,.e0])/\st.S 3=some (.box [.e0,.e0])/\st.S 4=some (.box [.sl 1 (zbl B),iv p1,iv s1])/\st.S 5=some (.row 1 (za5 t.ns))/\st.S 6=some (.row 1 (rws true t.rw))/\st.S 7=some (.row 1 (zab t.lb))/\st.S 8=some (.row 1 (zab c.sg))/\st.S 9=some (.box [.ref 5 none 0 0 t.ns.length,.v (.string t.nm),.ref 6 none 0 0 t.rw.length,.ref 7 none 0 0 t.lb.length])/\st.S 10=some (.box [iv c.ro,iv c.de,iv c.bi,iv c.la,iv c.rw,iv c.nu,iv c.dn,.ref 8 none 0 0 c.sg.length])/\st.S 11=some (.row 1 (rws true GC))/\st.S 12=some (.row 1 (rws true GW))/\st.S 13=some (.box [.ref 11 none 0 0 GC.length,.ref 12 none 0 0 GW.length])/\st.S 16=some (.box [.ref o1 none 0 0 s.sm.length,.ref o2 none 0 0 s.ts.length])/\st.S o1=some (.row 1 (zab s.sm))/\st.S o2=some (.row 1 (trs true s.ts))) ?_ N _ ⟨0,14,15,s0,by omega,hN,by simp,by simp,by simp,by simp,by simp,by simp,by simp,by simp,by simp,by simp,by simp,by simp,by omega,by simp,by omega,by simp,by omega,by omega,by omega,by simp⟩
 clear h e2 e3 h1;rintro n st ⟨i,o1,o2,s,hi,hs,v2,v3,v4,v5,v7,v8,v6,v9,v10,v12,v13,hep,ho1,ho1x,ho2,ho2x,h12,h116,h216,hnx,hS0,hS1,hS2,hS3,hS4,hS5,hS6,hS7,hS8,hS9,hS10,hS11,hS12,hS13,hS16,hSa,hSb⟩;have z0:=fr (show 0<st.nx by omega);have z1:=fr (show 1<st.nx by omega);have z2:=fr (show 2<st.nx by omega);have z3:=fr (show 3<st.nx by omega);have z4:=fr (show 4<st.nx by omega);have z5:=fr (show 5<st.nx by omega);have z6:=fr (show 6<st.nx by omega);have z7:=fr (show 7<st.nx by omega);have z8:=fr (show 8<st.nx by omega);have z9:=fr (show 9<st.nx by omega);have z10:=fr (show 10<st.nx by omega);have z11:=fr (show 11<st.nx by omega);have z12:=fr (show 12<st.nx by omega);have z13:=fr (show 13<st.nx by omega);have z16:=fr (show 16<st.nx by omega);have y1:=fr ho1x;have y2:=fr ho2x;have nz : ¬ st.nx=0/\¬ st.nx=1/\¬ st.nx=2/\¬ st.nx=3/\¬ st.nx=4/\¬ st.nx=5/\¬ st.nx=6/\¬ st.nx=7/\¬ st.nx=8/\¬ st.nx=9/\¬ st.nx=10/\¬ st.nx=11/\¬ st.nx=12/\¬ st.nx=13/\¬ st.nx=14/\¬ st.nx=15/\¬ st.nx=16:=by omega
 have u : ¬ o1=0/\¬ o2=0/\¬ 0=o1/\¬ 0=o2/\¬ o1=1/\¬ o2=1/\¬ 1=o1/\¬ 1=o2/\¬ o1=2/\¬ o2=2/\¬ 2=o1/\¬ 2=o2/\¬ o1=3/\¬ o2=3/\¬ 3=o1/\¬ 3=o2/\¬ o1=4/\¬ o2=4/\¬ 4=o1/\¬ 4=o2/\¬ o1=5/\¬ o2=5/\¬ 5=o1/\¬ 5=o2/\¬ o1=6/\¬ o2=6/\¬ 6=o1/\¬ 6=o2/\¬ o1=7/\¬ o2=7/\¬ 7=o1/\¬ 7=o2/\¬ o1=8/\¬ o2=8/\¬ 8=o1/\¬ 8=o2/\¬ o1=9/\¬ o2=9/\¬ 9=o1/\¬ 9=o2/\¬ o1=10/\¬ o2=10/\¬ 10=o1/\¬ 10=o2/\¬ o1=11/\¬ o2=11/\¬ 11=o1/\¬ 11=o2/\¬ o1=12/\¬ o2=12/\¬ 12=o1/\¬ 12=o2/\¬ o1=13/\¬ o2=13/\¬ 13=o1/\¬ 13=o2/\¬ o1=16/\¬ o2=16/\¬ 16=o1/\¬ 16=o2/\¬ o2=o1/\¬ o1=o2:=by omega
 have Z0:=bI v2 <| bI v3 <| bI v4 <| bI v5 <| bI v7 <| bI v8 <| bI v6 <| bI v9 <| bI v10 <| bI v12 <| bI v13 <| bI hep <| bI hS0 <| bI hS1 <| bI hS2 <| bI hS3 <| bI hS4 <| bI hS5 <| bI hS6 <| bI hS7 <| bI hS8 <| bI hS9 <| bI hS10 <| bI hS11 <| bI hS12 <| bI hS13 <| bI hS16 <| bI hSa <| bI hSb <| bI u <| bI z0 <| bI z1 <| bI z2 <| bI z3 <| bI z4 <| bI z5 <| bI z6 <| bI z7 <| bI z8 <| bI z9 <| bI z10 <| bI z11 <| bI z12 <| bI z13 <| bI z16 <| bI y1 y2
 have hsm:=hs.sm;have hsl:=hs.ts
 by_cases hlt:i<N
 ·have rr:=rn s (hs.L (by omega)) hs.si;have hsn:SmS (i+1) (zde t GC GW c s).1:=hs.rnd;have hw:=wS hlt (by omega:N<=9223372036854775807);generalize zde t GC GW c s=g at *;obtain ⟨s2,gb⟩:=g;simp [-getElem?_pos,zmb,hlt,hw,rr,Z0];exact zah (n-1) (by omega) ⟨i+1,st.nx,st.nx+1,s2,by omega,hsn,by simp [v2],by simp [v3],by simp [v4],by simp [v5],by simp [v7],by simp [v8],by simp [v6],by simp [v9],by simp [v10],by simp [v12],by simp,by simp [hep],by omega,by first | (simp; done) | (simp; omega),by omega,by first | (simp; done) | (simp; omega),by omega,by omega,by omega,by first | (simp; done) | (simp; omega),by simp [z0,nz,hS0,z1,hS1,z2,hS2,z3,hS3,z4,hS4,z5,hS5,z6,hS6,z7,hS7,z8,hS8,z9,hS9,z10,hS10,z11,hS11,z12,hS12,z13,hS13,z16]⟩
 ·have hr1:zag 8 1=true:=by decide
  have hr24:zag 24 1=true:=by decide
  have hra:=zbv (n:=s.sm.length+1) (by omega);have hrt:zag 24 (s.ts.length+1)=true:=by simp [zag]; omega
  have big:s.ts.length<=3:=by omega
  by_cases q0:d=0
  ·subst q0;obtain ⟨gc,gw,rfl,g1,g2,g3,g4⟩:=hg;simp [-getElem?_pos,zmb,hlt,h2,h3,nz,Z0];exact ⟨t,c,gc,gw,s,ht,hl,hc,by omega,by omega,fun l hl=>Nat.le_trans (g3 l hl) (by omega),fun l hl=>Nat.le_trans (g4 l hl) (by omega),by omega,by omega,hs.tl,hs.si,rfl⟩
  by_cases q1:d=1
  ·subst q1
   by_cases hz:0<s.sm.length
   ·obtain ⟨x,hx⟩ : ∃ x,s.sm[0]?=some x:=⟨_,bG hz⟩;have hx':=zax hx;have hset:=zyf s.sm 0 y;simp [-getElem?_pos,zmb,hlt,h2,h4,hz,hx',hset,nz,Z0];exact ⟨t,c,GC,GW,⟨s.sm.set 0 y,s.ts⟩,ht,hl,hc,by omega,by omega,hgc,hgv,by simp; omega,by simp only; omega,hs.tl,zjk hs.si hy,by simp [taO,zis,stO]⟩
   ·have hz':(0<s.sm.length)=False:=eq_false hz;simp [-getElem?_pos,zmb,hlt,h2,hz',nz,Z0];exact ⟨t,c,GC,GW,s,ht,hl,hc,by omega,by omega,hgc,hgv,by omega,by omega,hs.tl,hs.si,rfl⟩
  by_cases q2:d=2
  ·subst q2;have hsn:=zbn s.sm 0;simp [-getElem?_pos,zmb,hlt,h2,hr1,hra,hsn,nz,Z0];exact ⟨t,c,GC,GW,⟨s.sm++[0],s.ts⟩,ht,hl,hc,by omega,by omega,hgc,hgv,by simp; omega,by simp only; omega,hs.tl,zqb hs.si (by unfold inI; omega),by simp [taO,zis,stO]⟩
  by_cases q3:d=3
  ·subst q3;have hsn:=z88 s.ts tr;simp [-getElem?_pos,zmb,hlt,h2,h5,hr24,hrt,hsn,nz,Z0];exact ⟨t,c,GC,GW,⟨s.sm,s.ts++[tr]⟩,ht,hl,hc,by omega,by omega,hgc,hgv,by simp only; omega,by simp; omega,zqb hs.tl htr,hs.si,by simp [taO,zis,stO]⟩
  ·simp [-getElem?_pos,zmb,hlt,h2,q0,q1,q2,q3,nz,Z0];exact ⟨t,c,GC,GW,s,ht,hl,hc,by omega,by omega,hgc,hgv,by omega,by omega,hs.tl,hs.si,rfl⟩
theorem qg5 {t:Ta} {c v:List (List Int)} {cfg:Cfg} {s:Sta} (hs : ∀ x∈s.ts,x.length<=32):(zde t c v cfg s).1.sm.length<=s.sm.length/\(zde t c v cfg s).1.ts.length<=s.ts.length+1/\∀ x∈(zde t c v cfg s).1.ts,x.length<=32:=by
 have no:noS.sm.length<=s.sm.length/\noS.ts.length<=s.ts.length+1/\∀ x∈noS.ts,x.length<=32:=⟨by simp [noS],by simp [noS],by simp [noS]⟩;unfold zde;split
 ·unfold zpo;split
  ·unfold zib;cases e:zdd (zm6 t c v cfg s).1 s.sm t.rw with
   | none=>exact no
   | some p =>
    have h2:=yoz (t:=t) (c:=c) (v:=v) (cfg:=cfg) (s:=s);exact ⟨yd2 e,by simp,fun x hx=>by
     rcases List.mem_append.mp hx with hx | hx
     ·exact hs x hx
     ·simp at hx; subst hx; omega⟩
  ·exact no
 ·exact no
theorem qdn (L:List (List Nd)) (i:Nat) (x:List Nd):(trs true L).set i [.own 5 (x.map nd)]=trs true (L.set i x):=by simp [trs,zi1]
theorem qbo (M:List (List Nd)) {st:St} {Q:Ex->St->Prop} {o0 e0 m:Nat} (v6:st.V 6 = .ptr 11 none 0 0 0) (v8:st.V 8 = .ref o0 none e0 0 0) (v9:st.V 9=iv (0:Nat)) (ho:13<o0) (hox:o0<st.nx) (hep:st.ep=0) (S11:st.S 11=some (.box [.ref 6 none 0 0 m,.ref 7 none 0 0 M.length])) (S7:st.S 7=some (.row 1 (trs true M))) (So:st.S o0=some (.row 1 [])) (hM:M.length<=8) (hMl : ∀ x∈M,x.length<=32)
  (hQ : ∀ (s':St) (o e:Nat),(∀ k,k≠8->k≠9->s'.V k=st.V k)->s'.V 8 = .ref o none e 0 M.length->13<o->o<s'.nx->s'.S o=some (.row 1 (trs true M))->(∀ k,k<=13->s'.S k=st.S k)->s'.ep=0->Q (.exit 0) s') :
  W (zad T) (RUN T) (.loop zza) st Q:=by
 refine zan (fun n s' => ∃ i o e:Nat,i+n=M.length/\(∀ k,k≠8->k≠9->s'.V k=st.V k)/\s'.V 8 = .ref o none e 0 i/\s'.V 9=iv i/\13<o/\o<s'.nx/\s'.S o=some (.row 1 (trs true (M.take i)))/\(∀ k,k<=13->s'.S k=st.S k)/\s'.ep=0) ?_ M.length _ ⟨0,o0,e0,by omega,fun _ _ _=>rfl,v8,v9,ho,hox,by simpa [trs] using So,fun _ _=>rfl,hep⟩;rintro n s' ⟨i,o,e,hi,hV,w8,w9,ho,hox,hSo,hS,hep⟩;have w6:s'.V 6 = .ptr 11 none 0 0 0:=by rw [hV 6 (by decide) (by decide)]; exact v6
 have T11:s'.S 11=some (.box [.ref 6 none 0 0 m,.ref 7 none 0 0 M.length]):=by rw [hS 11 (by decide)]; exact S11
 have T7:s'.S 7=some (.row 1 (trs true M)):=by rw [hS 7 (by decide)]; exact S7
 by_cases h:i<M.length
 ·obtain ⟨x,hx⟩ : ∃ x,M[i]?=some x:=⟨_,bG h⟩;have hx':=zy4 (q:=true) hx;simp only [zi1,if_true] at hx';have hxl:=hMl x (bF hx);have hw:=wS h (by omega:M.length<=9223372036854775807);have al:=ymk x;have hr4:zag 40 0=true:=by decide
  have hr5:zag 40 x.length=true:=by simp [zag]; omega
  have hr1:zag 24 1=true:=by decide
  have hr2:zag 24 (i+1)=true:=by simp [zag]; omega
  have hln:(M.take i).length=i:=by simp; omega
  have hsn:=z88 (M.take i) x;rw [<- zo9 hx] at hsn;have hln2:(M.take (i+1)).length=i+1:=by simp; omega
  have y:=fr hox;have z7:=fr (show 7<s'.nx by omega);have z11:=fr (show 11<s'.nx by omega);have u : ¬ o=7/\¬ o=11/\¬ 7=o/\¬ 11=o:=by omega
  have na : ∀ a b:Nat,s'.nx+a+b=s'.nx+(a+b):=fun a b=>Nat.add_assoc _ _ _;simp [-getElem?_pos,zza,zbd,w6,w8,w9,hep,T11,T7,hSo,h,hx',hw,al,hr4,hr5,hr1,hr2,hln,hln2,hsn,y,z7,z11,u,na];refine zah (n-1) (by omega) ⟨i+1,s'.nx+3,0,by omega,fun k k1 k2 => ?_,by simp,by simp,by omega,by simp,by simp,fun k hk => ?_,by simp⟩
  ·simp [k1,k2]; exact hV k k1 k2
  ·have z:=fr (show k<s'.nx by omega);have nk : ¬ k=o:=by omega
   simp [z,nk]; exact hS k hk
 ·have hiM:i=M.length:=by omega
  subst hiM;rw [List.take_of_length_le (by omega)] at hSo;simp [-getElem?_pos,zza,w6,w9,hep,T11,T7];exact hQ _ o e (fun k k1 k2=>by first | exact hV k k1 k2 | (simp; exact hV k k1 k2)) (by first | exact w8 | simp [w8]) ho (by first | exact hox | simp [hox]) (by first | exact hSo | simp [hSo]) (fun k hk=>by first | exact hS k hk | (simp; exact hS k hk)) (by first | exact hep | simp)
theorem qhg {m:List Int} {st:St} {Q:Ex->St->Prop} {pb a ea:Nat} {x:PV} (v10:st.V 10 = .ptr pb none 0 0 0) (v14:st.V 14=iv (0:Nat)) (Sp:st.S pb=some (.box [.ref a none ea 0 m.length,x])) (Sa:st.S a=some (.row 1 (zab m))) (hpa:pb≠a) (hm:m.length<=1048576)
  (hQ : ∀ (s':St) (m':List Int),(∀ k,k≠14->s'.V k=st.V k)->m'.length=m.length->s'.S a=some (.row 1 (zab m'))->(∀ k,k≠a->s'.S k=st.S k)->s'.nx=st.nx->Q (.exit 2) s') :
  W (zad T) (RUN T) (.loop zzb) st Q:=by
 refine zan (fun n s' => ∃ (i:Nat) (m':List Int),i+n=m.length/\(∀ k,k≠14->s'.V k=st.V k)/\s'.V 14=iv i/\m'.length=m.length/\s'.S a=some (.row 1 (zab m'))/\(∀ k,k≠a->s'.S k=st.S k)/\s'.nx=st.nx) ?_ m.length _ ⟨0,m,by omega,fun _ _=>rfl,v14,rfl,Sa,fun _ _=>rfl,rfl⟩;rintro n s' ⟨i,m',hi,hV,w14,hm',hSa,hS,hnx⟩;have w10:s'.V 10 = .ptr pb none 0 0 0:=by rw [hV 10 (by decide)]; exact v10
 have Tp:s'.S pb=some (.box [.ref a none ea 0 m.length,x]):=by rw [hS pb hpa]; exact Sp
 by_cases h:i<m.length
 ·obtain ⟨y,hy⟩ : ∃ x,m'[i]?=some x:=⟨_,bG (by omega)⟩;have hy':=zax hy;have hset:=zyf m' i 4711;have hw:=wS h (by omega:m.length<=9223372036854775807);have u : ¬ pb=a/\¬ a=pb:=⟨hpa,fun e=>hpa e.symm⟩;simp [-getElem?_pos,zzb,w10,w14,Tp,hSa,hm',h,hy',hset,hw,u];refine zah (n-1) (by omega) ⟨i+1,m'.set i 4711,by omega,fun k k1 => ?_,by simp,by simp [hm'],by simp,fun k k1 => ?_,by simp [hnx]⟩
  ·simp [k1]; exact hV k k1
  ·simp [k1]; exact hS k k1
 ·simp [-getElem?_pos,zzb,w10,w14,Tp,hSa,hm',h];exact hQ _ m' (fun k k1=>by first | exact hV k k1 | (simp; exact hV k k1)) hm' (by first | exact hSa | simp [hSa]) (fun k k1=>by first | exact hS k k1 | (simp; exact hS k k1)) (by first | exact hnx | simp [hnx])
theorem qes {M:List (List Nd)} {x:List Nd} {i:Nat} {st:St} {Q:Ex->St->Prop} {pb b eb:Nat} {w:PV} (v10:st.V 10 = .ptr pb none 0 0 0) (v15:st.V 15=iv i) (v16:st.V 16=iv (0:Nat)) (Sp:st.S pb=some (.box [w,.ref b none eb 0 M.length])) (Sb:st.S b=some (.row 1 (trs true M))) (hx:M[i]?=some x) (hpb:pb≠b) (hxl:x.length<=1048576)
  (hQ : ∀ (s':St) (M':List (List Nd)),(∀ k,k≠16->s'.V k=st.V k)->M'.length=M.length->(∀ y∈M',y∈M\/y.length=x.length)->s'.S b=some (.row 1 (trs true M'))->(∀ k,k≠b->s'.S k=st.S k)->s'.nx=st.nx->Q (.exit 6) s') :
  W (zad T) (RUN T) (.loop zzc) st Q:=by
 refine zan (fun n s' => ∃ (k:Nat) (M':List (List Nd)) (x':List Nd),k+n=x.length/\(∀ j,j≠16->s'.V j=st.V j)/\s'.V 16=iv k/\M'.length=M.length/\(∀ y∈M',y∈M\/y.length=x.length)/\M'[i]?=some x'/\x'.length=x.length/\s'.S b=some (.row 1 (trs true M'))/\(∀ k,k≠b->s'.S k=st.S k)/\s'.nx=st.nx) ?_ x.length _ ⟨0,M,x,by omega,fun _ _=>rfl,v16,rfl,fun y hy => .inl hy,hx,rfl,Sb,fun _ _=>rfl,rfl⟩;rintro n s' ⟨k,M',x',hk,hV,w16,hM',hMm,hx',hxx,hSb,hS,hnx⟩;have w10:s'.V 10 = .ptr pb none 0 0 0:=by rw [hV 10 (by decide)]; exact v10
 have w15:s'.V 15=iv i:=by rw [hV 15 (by decide)]; exact v15
 have Tp:s'.S pb=some (.box [w,.ref b none eb 0 M.length]):=by rw [hS pb hpb]; exact Sp
 have hil:=(bD hx).1;have gx:=zy4 (q:=true) hx';simp only [zi1,if_true] at gx
 by_cases h:k<x.length
 ·obtain ⟨y,hy⟩ : ∃ z,x'[k]?=some z:=⟨_,bG (by omega)⟩;have hw:=wS h (by omega:x.length<=9223372036854775807);have s1:=zmy x' k y.f y.c y.l y.r 4712;have s3:(x'.map nd).set k (nd ⟨y.f,y.c,y.l,y.r,4712⟩)=(x'.set k ⟨y.f,y.c,y.l,y.r,4712⟩).map nd:=by rw [List.map_set]
  have s2:=qdn M' i (x'.set k ⟨y.f,y.c,y.l,y.r,4712⟩);have hov:List.take 4 (nd y)++iv 4712::List.drop 5 (nd y)=[iv y.f,iv y.c,iv y.l,iv y.r,iv 4712]:=rfl;have hnl:(nd y).length=5:=rfl;have u : ¬ pb=b/\¬ b=pb:=⟨hpb,fun e=>hpb e.symm⟩;have hkx:k<x'.length:=by omega
  simp [-getElem?_pos,zzc,zbd,zbx,w10,w15,w16,Tp,hSb,hM',hil,gx,hy,hxx,hkx,h,hov,hnl,s1,s2,hw,u];refine zah (n-1) (by omega) ⟨k+1,M'.set i (x'.set k ⟨y.f,y.c,y.l,y.r,4712⟩),x'.set k ⟨y.f,y.c,y.l,y.r,4712⟩,by omega,fun j k1 => ?_,by simp,by simp [hM'],fun z hz => ?_,List.getElem?_set_self (by omega),by simp [hxx],by simp; rw [s3,s2],fun j k1 => ?_,by simp [hnx]⟩
  ·simp [k1]; exact hV j k1
  ·rcases List.mem_or_eq_of_mem_set hz with hz | rfl
   ·exact hMm z hz
   ·right; simp [hxx]
  ·simp [k1]; exact hS j k1
 ·simp [-getElem?_pos,zzc,zbd,w10,w15,w16,Tp,hSb,hM',hil,gx,hxx,h];exact hQ _ M' (fun j k1=>by first | exact hV j k1 | (simp; exact hV j k1)) hM' hMm (by first | exact hSb | simp [hSb]) (fun j k1=>by first | exact hS j k1 | (simp; exact hS j k1)) (by first | exact hnx | simp [hnx])
theorem y98 {M:List (List Nd)} {st:St} {Q:Ex->St->Prop} {pb b eb:Nat} {w:PV} (v10:st.V 10 = .ptr pb none 0 0 0) (v15:st.V 15=iv (0:Nat)) (Sp:st.S pb=some (.box [w,.ref b none eb 0 M.length])) (Sb:st.S b=some (.row 1 (trs true M))) (hpb:pb≠b) (hM:M.length<=1048576) (hMl : ∀ x∈M,x.length<=1048576)
  (hQ : ∀ s':St,(∀ k,k≠15->k≠16->s'.V k=st.V k)->(∀ k,k≠b->s'.S k=st.S k)->s'.nx=st.nx->Q (.exit 4) s') :
  W (zad T) (RUN T) (.loop zzd) st Q:=by
 refine zan (fun n s' => ∃ (i:Nat) (M':List (List Nd)),i+n=M.length/\(∀ k,k≠15->k≠16->s'.V k=st.V k)/\s'.V 15=iv i/\M'.length=M.length/\(∀ x∈M',x.length<=1048576)/\s'.S b=some (.row 1 (trs true M'))/\(∀ k,k≠b->s'.S k=st.S k)/\s'.nx=st.nx) ?_ M.length _ ⟨0,M,by omega,fun _ _ _=>rfl,v15,rfl,hMl,Sb,fun _ _=>rfl,rfl⟩;rintro n s' ⟨i,M',hi,hV,w15,hM',hMl',hSb,hS,hnx⟩;have w10:s'.V 10 = .ptr pb none 0 0 0:=by rw [hV 10 (by decide) (by decide)]; exact v10
 have Tp:s'.S pb=some (.box [w,.ref b none eb 0 M.length]):=by rw [hS pb hpb]; exact Sp
 by_cases h:i<M.length
 ·obtain ⟨x,hx⟩ : ∃ x,M'[i]?=some x:=⟨_,bG (by omega)⟩;have hxl:=hMl' x (bF hx);have hw:=wS h (by omega:M.length<=9223372036854775807);simp [-getElem?_pos,zzd,w10,w15,Tp,hSb,hM',h];refine qes (M:=M') (x:=x) (i:=i) (pb:=pb) (b:=b) (eb:=eb) (w:=w) (by simp [w10]) (by simp [w15]) (by simp) (by simp [Tp,hM']) (by simp [hSb]) hx hpb hxl fun s2 M2 hV2 hM2 hMm2 hSb2 hS2 hnx2 => ?_;have g15:s2.V 15=iv i:=by rw [hV2 15 (by decide)]; simp [w15]
  simp [-getElem?_pos,g15,hw];refine zah (n-1) (by omega) ⟨i+1,M2,by omega,fun k k1 k2 => ?_,by simp,by omega,fun y hy => ?_,by simp [hSb2],fun k k1 => ?_,by simp [hnx2,hnx]⟩
  ·simp [k1]; rw [hV2 k k2]; simp [k2]; exact hV k k1 k2
  ·rcases hMm2 y hy with hy | hy
   ·exact hMl' y hy
   ·omega
  ·simp; rw [hS2 k k1]; simp; exact hS k k1
 ·simp [-getElem?_pos,zzd,w10,w15,Tp,hSb,hM',h];exact hQ _ (fun j k1 k2=>by first | exact hV j k1 k2 | (simp; exact hV j k1 k2)) (fun j k1=>by first | exact hS j k1 | (simp; exact hS j k1)) (by first | exact hnx | simp [hnx])
theorem qbd {M:List (List Nd)} {st:St} {Q:Ex->St->Prop} {o e m:Nat} (v6:st.V 6 = .ptr 11 none 0 0 0) (v8:st.V 8 = .ref o none e 0 M.length) (v17:st.V 17=iv (0:Nat)) (S11:st.S 11=some (.box [.ref 6 none 0 0 m,.ref 7 none 0 0 M.length])) (S7:st.S 7=some (.row 1 (trs true M))) (So:st.S o=some (.row 1 (trs true M))) (hM:M.length<=1048576) (hMl : ∀ x∈M,x.length<=1048576)
  (hQ : ∀ s':St,(∀ k,k≠17->s'.V k=st.V k)->s'.S=st.S->s'.ep=st.ep->s'.nx=st.nx->Q (.exit 8) s') :
  W (zad T) (RUN T) (.loop zze) st Q:=by
 refine zan (fun n s' => ∃ i:Nat,i+n=M.length/\(∀ k,k≠17->s'.V k=st.V k)/\s'.V 17=iv i/\s'.S=st.S/\s'.ep=st.ep/\s'.nx=st.nx) ?_ M.length _ ⟨0,by omega,fun _ _=>rfl,v17,rfl,rfl,rfl⟩;rintro n s' ⟨i,hi,hV,w17,hS,hep,hnx⟩;have w6:s'.V 6 = .ptr 11 none 0 0 0:=by rw [hV 6 (by decide)]; exact v6
 have w8:s'.V 8 = .ref o none e 0 M.length:=by rw [hV 8 (by decide)]; exact v8
 by_cases h:i<M.length
 ·obtain ⟨x,hx⟩ : ∃ x,M[i]?=some x:=⟨_,bG h⟩;have hxl:=hMl x (bF hx);have gx:=zy4 (q:=true) hx;simp only [zi1,if_true] at gx;have hw:=wS h (by omega:M.length<=9223372036854775807);have r1:=y69 x x (by omega) (by omega);rw [decide_eq_true rfl] at r1;simp [-getElem?_pos,zze,zbd,w6,w8,w17,hS,S11,S7,So,h,gx,r1,hw];refine zah (n-1) (by omega) ⟨i+1,by omega,fun k k1 => ?_,by simp [hS,hep,hnx]⟩;simp [k1]; exact hV k k1
 ·simp [-getElem?_pos,zze,w8,w17,hS,So,h];exact hQ _ (fun j k1=>by first | exact hV j k1 | (simp; exact hV j k1)) (by first | exact hS | simp [hS]) (by first | exact hep | simp [hep]) (by first | exact hnx | simp [hnx])
theorem qf0 (B:List Int) (hB:B.length<=9223372036854775807):RUN T zvm [.sl 1 (zbl B)]=some ([bv true],[]):=by
 have hb:=y67 (zbl B);rw [qhk] at hb
 by_cases c0:(1048576:Int)<B.length
 ·refine zae rfl rfl ?_;simp [-getElem?_pos,zvn,zvo,hb,c0]
 obtain ⟨r,hd,t,c,gc,gv,s,ht,hl,hc,g1,g2,g3,g4,hsm,hst,hsl,hsi,rfl⟩:=y9v B hB;have ht1:=ht.of128;have hsL:z8v 1048576 s:=⟨by omega,by omega,fun x hx=>Nat.le_trans (hsl x hx) (by omega)⟩;have a1:=yl7 true true true t gc gv c s ht1 hl (by omega) g3 (by omega) g4 (by omega) hsL hsi;have a2:=y9s true true true t gc gv c s ht1 hl (by omega) g3 (by omega) g4 (by omega) hsL hsi;obtain ⟨b1,b2,b3⟩:=qg5 (t:=t) (c:=gc) (v:=gv) (cfg:=c) hsl;generalize zde t gc gv c s=g at *;obtain ⟨g,gb⟩:=g;simp only at b1 b2 b3;have i1:=y7r s.sm (by omega);have al:=yc9 s.sm;have hr0:zag 8 0=true:=by decide
 have hr1:zag 24 0=true:=by decide
 have hr4:zag 40 0=true:=by decide
 have hra:=zbv (n:=s.sm.length) (by omega);simp only [taS,taO,zis,cfS,stO,stS] at *;refine zae rfl rfl ?_;simp [-getElem?_pos,zvn,zvo,hb,c0,hd,al,hr0,hr1,hra];refine qbo s.ts (o0:=14) (e0:=0) (m:=s.sm.length) (by simp) (by simp) (by simp) (by omega) (by simp) (by simp) (by simp) (by simp) (by simp) (by omega) hsl fun s1 o e V1 w8 ho hox hSo hS1 ep1 => ?_;have w3:s1.V 3 = .ptr 8 none 0 0 0:=by rw [V1 3 (by decide) (by decide)]; simp
 have w4:s1.V 4 = .ptr 9 none 0 0 0:=by rw [V1 4 (by decide) (by decide)]; simp
 have w5:s1.V 5 = .ptr 10 none 0 0 0:=by rw [V1 5 (by decide) (by decide)]; simp
 have w6:s1.V 6 = .ptr 11 none 0 0 0:=by rw [V1 6 (by decide) (by decide)]; simp
 have w7:s1.V 7 = .ref 13 none 0 0 s.sm.length:=by rw [V1 7 (by decide) (by decide)]; simp
 have x0:s1.S 0=some (.row 1 (za5 t.ns)):=by rw [hS1 0 (by decide)]; simp
 have x1:s1.S 1=some (.row 1 (rws true t.rw)):=by rw [hS1 1 (by decide)]; simp
 have x2:s1.S 2=some (.row 1 (zab t.lb)):=by rw [hS1 2 (by decide)]; simp
 have x3:s1.S 3=some (.row 1 (rws true gc)):=by rw [hS1 3 (by decide)]; simp
 have x4:s1.S 4=some (.row 1 (rws true gv)):=by rw [hS1 4 (by decide)]; simp
 have x5:s1.S 5=some (.row 1 (zab c.sg)):=by rw [hS1 5 (by decide)]; simp
 have x6:s1.S 6=some (.row 1 (zab s.sm)):=by rw [hS1 6 (by decide)]; simp
 have x7:s1.S 7=some (.row 1 (trs true s.ts)):=by rw [hS1 7 (by decide)]; simp
 have x8:s1.S 8=some (.box [.ref 0 none 0 0 t.ns.length,.v (.string t.nm),.ref 1 none 0 0 t.rw.length,.ref 2 none 0 0 t.lb.length]):=by rw [hS1 8 (by decide)]; simp
 have x9:s1.S 9=some (.box [.ref 3 none 0 0 gc.length,.ref 4 none 0 0 gv.length]):=by rw [hS1 9 (by decide)]; simp
 have x10:s1.S 10=some (.box [iv c.ro,iv c.de,iv c.bi,iv c.la,iv c.rw,iv c.nu,iv c.dn,.ref 5 none 0 0 c.sg.length]):=by rw [hS1 10 (by decide)]; simp
 have x11:s1.S 11=some (.box [.ref 6 none 0 0 s.sm.length,.ref 7 none 0 0 s.ts.length]):=by rw [hS1 11 (by decide)]; simp
 have x13:s1.S 13=some (.row 1 (zab s.sm)):=by rw [hS1 13 (by decide)]; simp
 clear hd V1 hS1 hb al;have z0:=fr (show 0<s1.nx by omega);have z1:=fr (show 1<s1.nx by omega);have z2:=fr (show 2<s1.nx by omega);have z3:=fr (show 3<s1.nx by omega);have z4:=fr (show 4<s1.nx by omega);have z5:=fr (show 5<s1.nx by omega);have z6:=fr (show 6<s1.nx by omega);have z7:=fr (show 7<s1.nx by omega);have z8:=fr (show 8<s1.nx by omega);have z9:=fr (show 9<s1.nx by omega);have z10:=fr (show 10<s1.nx by omega);have z11:=fr (show 11<s1.nx by omega);have z13:=fr (show 13<s1.nx by omega);have zo:=fr hox;have na : ∀ a b:Nat,s1.nx+a+b=s1.nx+(a+b):=fun a b=>Nat.add_assoc _ _ _;simp [-getElem?_pos,w3,w4,w5,w6,w7,w8,x0,x1,x2,x3,x4,x5,x6,x7,x8,x9,x10,x11,ep1,a1,a2,na,z0,z1,z2,z3,z4,z5,z6,z7,z8,z9,z10,z11,z13,zo];clear a1 a2 x0 x1 x2 x3 x4 x5 x8 x9 x10 w3 w4 w5;refine qhg (m:=g.sm) (pb:=s1.nx+2) (a:=s1.nx) (ea:=0) (x := .ref (s1.nx+1) none 0 0 g.ts.length) (by simp) (by simp) (by simp) (by simp) (by omega) (by omega) fun s2 m' V2 hm' hSa hS2 hnx2 => ?_;simp [-getElem?_pos,];refine y98 (M:=g.ts) (pb:=s1.nx+2) (b:=s1.nx+1) (eb:=0) (w := .ref s1.nx none 0 0 g.sm.length) (by simp; rw [V2 10 (by decide)]; simp) (by simp) (by simp; rw [hS2 _ (by omega)]; simp) (by simp; rw [hS2 _ (by omega)]; simp) (by omega) (by omega) (fun x hx=>Nat.le_trans (b3 x hx) (by omega)) fun s3 V3 hS3 hnx3 => ?_;have far : ∀ k,k<=13\/k=o->s3.S k=s1.S k:=by
  intro k hk;have hkx:k<s1.nx:=by omega
  have zk:=fr hkx;rw [hS3 k (by omega)];simp;rw [hS2 k (by omega)];simp [zk]
 have y6:s3.S 6=some (.row 1 (zab s.sm)):=by rw [far 6 (by omega)]; exact x6
 have y7:s3.S 7=some (.row 1 (trs true s.ts)):=by rw [far 7 (by omega)]; exact x7
 have y11:s3.S 11=some (.box [.ref 6 none 0 0 s.sm.length,.ref 7 none 0 0 s.ts.length]):=by rw [far 11 (by omega)]; exact x11
 have y13:s3.S 13=some (.row 1 (zab s.sm)):=by rw [far 13 (by omega)]; exact x13
 have yo:s3.S o=some (.row 1 (trs true s.ts)):=by rw [far o (by omega)]; exact hSo
 have g6:s3.V 6 = .ptr 11 none 0 0 0:=by rw [V3 6 (by decide) (by decide)]; simp; rw [V2 6 (by decide)]; simp [w6]
 have g7:s3.V 7 = .ref 13 none 0 0 s.sm.length:=by rw [V3 7 (by decide) (by decide)]; simp; rw [V2 7 (by decide)]; simp [w7]
 have g8:s3.V 8 = .ref o none e 0 s.ts.length:=by rw [V3 8 (by decide) (by decide)]; simp; rw [V2 8 (by decide)]; simp [w8]
 clear far V2 V3 hS2 hS3 zo z0 z1 z2 z3 z4 z5 z6 z7 z8 z9 z10 z11 z13;simp [-getElem?_pos,];refine qbd (M:=s.ts) (o:=o) (e:=e) (m:=s.sm.length) (by simp [g6]) (by simp [g8]) (by simp) (by simp [y11]) (by simp [y7]) (by simp [yo]) (by omega) (fun x hx=>Nat.le_trans (hsl x hx) (by omega)) fun s4 V4 hS4 ep4 hnx4 => ?_;have k6:s4.V 6 = .ptr 11 none 0 0 0:=by rw [V4 6 (by decide)]; simp [g6]
 have k7:s4.V 7 = .ref 13 none 0 0 s.sm.length:=by rw [V4 7 (by decide)]; simp [g7]
 simp only at hS4;simp [-getElem?_pos,k6,k7,hS4,y6,y11,y13,i1]
end Go.Pe
