/- What each function answers by the evaluator,and the law; for each answer its own conditions stand ahead of it. -/
import Derived.Test.YtpcphbbcnmhcnaaGreatC1
import Derived.Test.YtpcphbbcnmhcnaaGreatEvB2
import Derived.IntWalk
set_option linter.all false
set_option maxHeartbeats 8000000
set_option maxRecDepth 8000
namespace Go.Pe
open Go
theorem qbb (l:List Int) (b:Int) (hl:l.length<=1048576):RUN T zrd [.sl 1 (zab l),iv b]=some ([.own 1 (zab (zb0 l b))],[]):=by
 have e1:=qa4 l hl;have hsl:=z8a l;have hss:=z86 l;have hr0:zah 8 0=true:=by decide
 have hr1:zah 8 1=true:=by decide
 have g1:=zcq b 2 8;have g2:=zcq l.length 1 40;cases c1:zaj b 2 8 with
 | false =>
  have hv:zb0 l b=[]:=by unfold zb0; rw [c1]; rfl
  rw [hv];rw [c1] at g1;refine zae rfl rfl ?_;simp [-getElem?_pos,-zbi,ztq,z2g,g1,hr0]
 | true =>
 cases c2:zaj l.length 1 40 with
 | false =>
  have hv:zb0 l b=[]:=by unfold zb0; rw [c1,c2]; rfl
  rw [hv];rw [c1] at g1;rw [c2] at g2;refine zae rfl rfl ?_;simp [-getElem?_pos,-zbi,ztq,z2g,g1,g2,hr0]
 | true =>
 have hv:zb0 l b=Lib.compact (zea (zd3 l) b.toNat (b.toNat-1)):=by unfold zb0; rw [c1,c2]; rfl
 rw [hv];rw [c1] at g1;rw [c2] at g2;have hb:=za3.mp c1;have h12:=za3.mp c2;have h1:1<=l.length:=by omega
 have h2:l.length<=40:=by omega
 clear c1 c2 h12 hv;generalize zd3 l=a at *;obtain ⟨bn,rfl⟩ : ∃ n:Nat,b=n:=⟨b.toNat,by omega⟩;rw [Int.toNat_natCast];refine zae rfl rfl ?_;simp [-getElem?_pos,-zbi,ztq,z2g,g1,g2,hr0,e1];refine zao (fun n st => ∃ (i o e:Nat) (m:List Int),1<=i/\i+n=bn/\m.length<i/\m=zea a bn (i-1)/\st.V 1=iv bn/\st.V 0 = .sl 1 (zab l)/\st.V 6 = .ref 1 none 0 0 a.length/\st.V 5 = .ref o none e 0 m.length/\st.V 7=iv i/\¬ o=1/\o<st.nx/\1<st.nx/\st.S o=some (.row 1 (zab m))/\st.S 1=some (.row 1 (zab a))) ?_ (bn-1) _ ⟨1,0,0,[],by omega,by omega,by simp,rfl,by simp,by simp,by simp,by simp,by simp,by omega,by simp [zab]⟩;rintro n st ⟨i,o,e,m,hi1,hi,hm,hmp,v1,v0,v6,v5,v7,ho,hox,h1x,hSo,hS1⟩;obtain ⟨x1,x2,x3,x4⟩:=fr hox;have g1:(o=1)=False:=eq_false ho;have g2:(1=o)=False:=eq_false (fun e=>ho e.symm);obtain ⟨z1,z2,z3,z4⟩:=fr h1x
 by_cases h:i<bn
 ·have hw:=wS h (by omega:bn<=9223372036854775807);have hb0 : ¬ bn=0:=by omega
  have hq:(l.length:Int)*i<=40*8:=Int.mul_le_mul (by omega) (by omega) (by omega) (by omega);have hq0:0<=(l.length:Int)*i:=Int.mul_nonneg (by omega) (by omega);have w1:=w64 (x:=(l.length:Int)*i) (by omega) (by omega);obtain ⟨k,hkk⟩ : ∃ k:Nat,k=l.length*i / bn:=⟨_,rfl⟩;have hk:((l.length:Int)*i).tdiv bn=k:=by
   rw [Int.tdiv_eq_ediv_of_nonneg hq0,hkk]
   push_cast
   rfl
  have hcs:zea a bn i=m++zjf a bn i:=by
   obtain ⟨j,rfl⟩ : ∃ j,i=j+1:=⟨i-1,by omega⟩;rw [hmp]; rfl
  unfold zjf zhg at hcs;rw [hsl,<- hkk] at hcs;have hkl:k<=l.length:=by
   have h3:((l.length:Int)*i).tdiv bn<=l.length:=by
    rw [Int.tdiv_eq_ediv_of_nonneg hq0];refine Int.ediv_le_of_le_mul (by omega) ?_;exact Int.mul_le_mul_of_nonneg_left (by omega) (by omega)
   omega
  have w2:=w64 (x:=(k:Int)) (by omega) (by omega)
  by_cases hk1:1<=k
  ·obtain ⟨x,hx⟩ : ∃ x,a[k-1]?=some x:=⟨_,bG (by omega)⟩;obtain ⟨y,hy⟩ : ∃ x,a[a.length-1]?=some x:=⟨_,bG (by omega)⟩;have hx':=zay hx;have hy':=zay hy;rw [hsl] at hy';have w3:IntKind.i64.wrap ((k:Int)-1)=((k-1:Nat):Int):=by rw [w64 (by omega) (by omega)]; omega
   have w4:IntKind.i64.wrap ((l.length:Int)-1)=((l.length-1:Nat):Int):=by rw [w64 (by omega) (by omega)]; omega
   have c1:k-1<l.length:=by omega
   have c2:l.length-1<l.length:=by omega
   have hk1':(1:Int)<=k:=by omega
   have hr8:=zdc (n:=m.length+1) (by omega);have hsn:=zc6 m x;have gx:a.getD (k-1) 0=x:=by rw [List.getD_eq_getElem?_getD,hx]; rfl
   have gy:a.getD (l.length-1) 0=y:=by rw [<- hsl,List.getD_eq_getElem?_getD,hy]; rfl
   rw [gx,gy] at hcs;have hle:=zoy hss (by omega:k-1<=a.length-1) hx hy
   by_cases hxy:x=y
   ·have hxy2 : ¬ ¬ x=y:=fun h=>h hxy;rw [if_neg (fun h=>h.2 hxy),List.append_nil] at hcs;subst hxy;simp [-getElem?_pos,zv0,v1,v0,v6,v5,v7,hSo,hS1,h,hw,hb0,w1,w2,w3,w4,hk,hk1,hk1',hx',hy',hsl,c1,c2,hxy2,g1,g2,x1,x2,x3,x4,z1,z2,z3,z4];exact zai (n-1) (by omega) ⟨i+1,o,e,m,by omega,by omega,by omega,hcs.symm,by simp [v1],by simp [v0],by simp [v6,hsl],by simp [v5],by simp,ho,by simp [hox,h1x,hSo,hS1]⟩
   ·rw [if_pos ⟨hk1,hxy⟩] at hcs;simp [-getElem?_pos,zv0,v1,v0,v6,v5,v7,hSo,hS1,h,hw,hb0,w1,w2,w3,w4,hk,hk1,hk1',hx',hy',hsl,c1,c2,hxy,hr1,hr8,hsn,g1,g2,x1,x2,x3,x4,z1,z2,z3,z4];exact zai (n-1) (by omega) ⟨i+1,st.nx+1,st.ep,m++[x],by omega,by omega,by simp; omega,hcs.symm,by simp [v1],by simp [v0],by simp [v6,hsl],by simp,by simp,by simp; omega,by simp,by first | (simp; done) | (simp; omega),by first | (simp; done) | (simp; omega),by simp [g1,g2,x1,x2,x3,x4,z1,z2,z3,z4,hS1,show ¬ st.nx=0 by omega]⟩
  ·have hk0:k=0:=by omega
   rw [if_neg (by omega),List.append_nil] at hcs;rw [hk0] at hk w2;clear hkk hkl;subst hk0;simp [-getElem?_pos,zv0,v1,v0,v6,v5,v7,hSo,hS1,h,hw,hb0,w1,w2,hk];exact zai (n-1) (by omega) ⟨i+1,o,e,m,by omega,by omega,by omega,hcs.symm,by simp [v1],by simp [v0],by simp [v6],by simp [v5],by simp,ho,by simp [hox,h1x,hSo,hS1]⟩
 ·have hib:i=bn:=by omega
  have hm2:m=zea a bn (bn-1):=by rw [hmp,hib]
  have h3:=qa3 m (by omega);rw [<- hm2];generalize Lib.compact m=z at *;simp [-getElem?_pos,zv0,v1,v5,v7,hSo,h,h3]
theorem qbc (q:Bool) (t:Ta) (f:Nat) (ht:TaL 1048576 t) (hf:f<t.ns.length) (h40:t.rw.length<=40) (hr : ∀ r∈t.rw,r.length=t.ns.length):RUN T zrc [taS q t,iv f]=some ([.own 1 (zab (zb7 t f))],[]):=by
 have hr0:zah 8 0=true:=by decide
 have hr1:zah 8 1=true:=by decide
 have hns:=ht.ns;have g1:=zcq f 0 ((t.ns.length:Int)-1);rw [za3.mpr (by omega)] at g1;have w1:=w64 (x:=(t.ns.length:Int)-1) (by omega) (by omega);refine zae rfl rfl ?_;simp [-getElem?_pos,-zbi,z2u,z2g,hr0,g1,w1];refine zao (fun n st => ∃ (i o e:Nat) (m:List Int),i+n=t.rw.length/\m=(t.rw.take i).map (fun r=>r.getD f 0)/\m.length=i/\st.V 1=iv f/\st.V 19 = .sl 1 (rws q t.rw)/\st.V 20=iv t.rw.length/\st.V 5 = .ref o none e 0 m.length/\st.V 21=iv i/\0<o/\o<st.nx/\st.S o=some (.row 1 (zab m))) ?_ t.rw.length _ ⟨0,1,0,[],by omega,rfl,rfl,by simp [zab]⟩;rintro n st ⟨i,o,e,m,hi,hmv,hm,v1,v19,v20,v5,v21,ho,hox,hSo⟩;obtain ⟨x1,x2,x3,x4⟩:=fr hox
 by_cases h:i<t.rw.length
 ·obtain ⟨r,hx⟩ : ∃ x,t.rw[i]?=some x:=⟨_,bG h⟩;have hx':=zct (q:=q) hx;have hrl:=hr r (bF hx);obtain ⟨y,hy⟩ : ∃ x,r[f]?=some x:=⟨_,bG (by omega)⟩;have hy':=zay hy;have hfr:f<r.length:=by omega
  have hw:=wS h (by omega:t.rw.length<=9223372036854775807);have hr8:=zdc (n:=m.length+1) (by omega);have hsn:=zc6 m y;have hmn:m++[y]=(t.rw.take (i+1)).map (fun r=>r.getD f 0):=by
   rw [zvb hx,List.map_append,<- hmv,List.map_singleton,List.getD_eq_getElem?_getD,hy]; rfl
  simp [-getElem?_pos,yak,v1,v19,v20,v5,v21,hSo,h,hx',hy',hfr,hw,hr1,hr8,hsn,x1,x2,x3,x4];exact zai (n-1) (by omega) ⟨i+1,st.nx+1,st.ep,m++[y],by omega,hmn,by simp [hm],by simp [v1],by simp [v19],by simp [v20],by simp,by simp,by omega,by simp⟩
 ·rw [List.take_of_length_le (by omega)] at hmv;have hcv:zb7 t f=m:=hmv.symm;rw [hcv];simp [-getElem?_pos,yak,v1,v20,v5,v21,hSo,h]
open Classical in
theorem qbd (l m:List Int) (hl:l.length<=9223372036854775807):RUN T zll [.sl 1 (zab l),.sl 1 (zab m)]=some ([bv (decide (l=m))],[]):=by
 have h:=y8w l m hl;refine zae rfl rfl ?_;simp [-getElem?_pos,z4i,zyz,h]
open Classical in
theorem qbe (p q:Bool) (L M:List (List Int)) (hl:L.length<=9223372036854775807) (hll : ∀ l∈L,l.length<=9223372036854775807):RUN T zr4 [.sl 1 (rws p L),.sl 1 (rws q M),.fn zll []]=some ([bv (decide (L=M))],[]):=by
 refine zae rfl rfl ?_;rcases Classical.propComplete ((L.length:Int)=M.length) with hlm | hlm
 case inr =>
  simp [-getElem?_pos,zwi,zzr,hlm,z85 hlm]
 simp [-getElem?_pos,zwi,zzr,hlm];have hlen:L.length=M.length:=by simp at hlm; omega
 refine zao (fun n st => ∃ i:Nat,i+n=L.length/\(∀ j,j<i->L[j]?=M[j]?)/\st.V 1 = .sl 1 (rws q M)/\st.V 2 = .fn zll []/\st.V 15 = .sl 1 (rws p L)/\st.V 16=iv L.length/\st.V 17=iv i) ?_ L.length _ ⟨0,by simp [hlen]⟩;rintro n st ⟨i,hi,hj,v1,v2,v15,v16,v17⟩;simp [yfu,v16,v17];refine zaw (fun h => ?_) (fun h => ?_)
 ·simp at h;obtain ⟨x,hx⟩ : ∃ x,L[i]?=some x:=⟨_,bG h⟩;obtain ⟨y,hy⟩ : ∃ y,M[i]?=some y:=⟨_,bG (by omega)⟩;have hx':=zct (q:=p) hx;have hy':=zct (q:=q) hy;have hw:=wS h hl;have him:i<M.length:=by omega
  have hs:=qbd x y (hll x (bF hx));have z:=fr (by omega:st.nx<st.nx+1)
  by_cases e:x=y
  ·rw [decide_eq_true e] at hs;simp [-getElem?_pos,v1,v2,v15,v16,v17,hx',hy',h,him,hw,hs,z];exact zai (n-1) (by omega) ⟨i+1,by omega,zia hj (by rw [hx,hy,e]),by simp [v1,v2,v15,v16]⟩
  ·rw [decide_eq_false e] at hs;simp [-getElem?_pos,v1,v2,v15,v16,v17,hx',hy',h,him,hw,hs,z,z8z hx hy e]
 ·simp at h;simp [yab hlen h hj]
open Classical in
theorem ym5 (p q:Bool) (L M:List (List Int)) (hl:L.length<=9223372036854775807) (hll : ∀ l∈L,l.length<=9223372036854775807):RUN T zna [.sl 1 (rws p L),.sl 1 (rws q M)]=some ([bv (decide (L=M))],[]):=by
 have h:=qbe p q L M hl hll;refine zae rfl rfl ?_;simp [-getElem?_pos,z2s,zyz,h]
open Classical in
theorem qbf (p q:Bool) (c v c' v':List (List Int)) (hc:c.length<=9223372036854775807) (hcl : ∀ l∈c,l.length<=9223372036854775807) (hv:v.length<=9223372036854775807) (hvl : ∀ l∈v,l.length<=9223372036854775807):RUN T zql [.agg [.sl 1 (rws p c),.sl 1 (rws p v)],.agg [.sl 1 (rws q c'),.sl 1 (rws q v')]]=some ([bv (decide (c=c') && decide (v=v'))],[]):=by
 have h1:=ym5 p q c c' hc hcl;have h2:=ym5 p q v v' hv hvl;generalize decide (c=c')=b1 at *;generalize decide (v=v')=b2 at *;refine zae rfl rfl ?_;cases b1 <;> simp [-getElem?_pos,z0l,zyz,h1,h2]
open Classical in
theorem ym6 (p q:Bool) (L M:List (List Int)) (hl:L.length<=9223372036854775807) (hll : ∀ l∈L,l.length<=9223372036854775807):RUN T zne [.sl 1 (rws p L),.sl 1 (rws q M)]=some ([bv (decide (L=M))],[]):=by
 refine zae rfl rfl ?_;rcases Classical.propComplete ((L.length:Int)=M.length) with hlm | hlm
 case inr =>
  simp [-getElem?_pos,zv8,zyz,hlm,z85 hlm]
 simp [-getElem?_pos,zv8,zyz,hlm];have hlen:L.length=M.length:=by simp at hlm; omega
 refine zao (fun n st => ∃ i:Nat,i+n=L.length/\(∀ j,j<i->L[j]?=M[j]?)/\st.V 0 = .sl 1 (rws p L)/\st.V 1 = .sl 1 (rws q M)/\st.V 5=iv i) ?_ L.length _ ⟨0,by simp [hlen]⟩;rintro n st ⟨i,hi,hj,v0,v1,v5⟩;simp [yfm,v0,v5];refine zaw (fun h => ?_) (fun h => ?_)
 ·simp at h;obtain ⟨x,hx⟩ : ∃ x,L[i]?=some x:=⟨_,bG h⟩;obtain ⟨y,hy⟩ : ∃ y,M[i]?=some y:=⟨_,bG (by omega)⟩;have hx':=zct (q:=p) hx;have hy':=zct (q:=q) hy;have hw:=wS h hl;have him:i<M.length:=by omega
  have hs:=y8v x y (hll x (bF hx))
  by_cases e:x=y
  ·rw [decide_eq_true e] at hs;simp [-getElem?_pos,v0,v1,v5,hx',hy',h,him,hw,hs];exact zai (n-1) (by omega) ⟨i+1,by omega,zia hj (by rw [hx,hy,e]),by simp [v0,v1]⟩
  ·rw [decide_eq_false e] at hs;simp [-getElem?_pos,v0,v1,v5,hx',hy',h,him,hw,hs,z8z hx hy e]
 ·simp at h;simp [yab hlen h hj]
open Classical in
theorem qbg (p q:Bool) (c v c' v':List (List Int)) (hc:c.length<=9223372036854775807) (hcl : ∀ l∈c,l.length<=9223372036854775807) (hv:v.length<=9223372036854775807) (hvl : ∀ l∈v,l.length<=9223372036854775807):RUN T zqq [.agg [.sl 1 (rws p c),.sl 1 (rws p v)],.agg [.sl 1 (rws q c'),.sl 1 (rws q v')]]=some ([bv (decide (c=c') && decide (v=v'))],[]):=by
 have h1:=ym6 p q c c' hc hcl;have h2:=ym6 p q v v' hv hvl;generalize decide (c=c')=b1 at *;generalize decide (v=v')=b2 at *;refine zae rfl rfl ?_;cases b1 <;> simp [-getElem?_pos,z0r,zyz,h1,h2]
theorem qg9 (cuts col:List Int) (hcu:cuts.length<=8) (hco:col.length<=40) {st:St} {q1 e1 q2 e2 q3 e3:Nat} {Q:Ex->St->Prop} (v35:st.V 35 = .ref q1 none e1 0 col.length) (v36:st.V 36=iv col.length) (v37:st.V 37=iv (0:Nat)) (v9:st.V 9 = .ref q2 none e2 0 cuts.length) (v8:st.V 8 = .ref q3 none e3 0 0) (h13:q1≠q3) (h23:q2≠q3) (h1:q1<st.nx) (h2:q2<st.nx) (h3:q3<st.nx) (hS1:st.S q1=some (.row 1 (zab col))) (hS2:st.S q2=some (.row 1 (zab cuts))) (hS3:st.S q3=some (.row 1 []))
  (hQ : ∀ (s':St) (q' e':Nat) (bins:List Int),bins=col.map (fun v=>(zdv cuts v:Int))->(∀ k,k≠8->k≠11->k≠37->s'.V k=st.V k)->s'.V 8 = .ref q' none e' 0 bins.length->(q'=q3\/st.nx<=q')->q'<s'.nx->st.nx<=s'.nx->s'.S q'=some (.row 1 (zab bins))->(∀ k,k<st.nx->k≠q3->s'.S k=st.S k)->Q (.exit 2) s') :
  W (zac T) (RUN T) (.loop z0n) st Q:=by
 refine zao (fun m s' => ∃ (i q' e':Nat) (bins:List Int),i+m=col.length/\bins.length=i/\bins=(col.take i).map (fun v=>(zdv cuts v:Int))/\(∀ k,k≠8->k≠11->k≠37->s'.V k=st.V k)/\s'.V 8 = .ref q' none e' 0 bins.length/\s'.V 37=iv i/\(q'=q3\/st.nx<=q')/\q'<s'.nx/\st.nx<=s'.nx/\s'.S q'=some (.row 1 (zab bins))/\(∀ k,k<st.nx->k≠q3->s'.S k=st.S k)) ?_ col.length _ ⟨0,q3,e3,[],by omega,rfl,rfl,fun _ _ _ _=>rfl,by simpa using v8,by simpa using v37,.inl rfl,h3,Nat.le_refl _,by simpa [zab] using hS3,fun _ _ _=>rfl⟩;rintro m s' ⟨i,q',e',bins,hi,hb,hbb,hV,v8',v37',hq,hqx,hnx,hSq,hfr⟩;have v35':s'.V 35 = .ref q1 none e1 0 col.length:=by rw [hV 35 (by decide) (by decide) (by decide)]; exact v35
 have v36':s'.V 36=iv col.length:=by rw [hV 36 (by decide) (by decide) (by decide)]; exact v36
 have v9':s'.V 9 = .ref q2 none e2 0 cuts.length:=by rw [hV 9 (by decide) (by decide) (by decide)]; exact v9
 have hS1':s'.S q1=some (.row 1 (zab col)):=by rw [hfr q1 h1 h13]; exact hS1
 have hS2':s'.S q2=some (.row 1 (zab cuts)):=by rw [hfr q2 h2 h23]; exact hS2
 by_cases h:i<col.length
 ·obtain ⟨x,hx⟩ : ∃ x,col[i]?=some x:=⟨_,bG h⟩;have hx':=zay hx;have hw:=wS h (by omega:col.length<=9223372036854775807);have hr1:zah 8 1=true:=by decide
  have hr8:=zdc (n:=bins.length+1) (by omega);have h4:=qba cuts x (by omega);have hbn:bins++[(zdv cuts x:Int)]=(col.take (i+1)).map (fun v=>(zdv cuts v:Int)):=by rw [zvb hx,List.map_append,<- hbb]; rfl
  generalize zdv cuts x=y at *;have hsn:=zc6 bins (y:Int);have a1:=fr hqx;have a2:(q1=q')=False/\(q'=q1)=False/\(q2=q')=False/\(q'=q2)=False:=⟨eq_false (by omega),eq_false (by omega),eq_false (by omega),eq_false (by omega)⟩;have a4:=fr (show q1<s'.nx by omega);have a5:=fr (show q2<s'.nx by omega);simp [-getElem?_pos,z0n,v35',v36',v37',v9',v8',hS1',hS2',hSq,h,hx',h4,hw,hr1,hr8,hsn,a1,a2,a4,a5];refine zai (m-1) (by omega) ⟨i+1,s'.nx+1,s'.ep,bins++[(y:Int)],by omega,by simp [hb],hbn,fun k k1 k2 k3 => ?_,by simp,by simp,.inr (by omega),by simp,by simp; omega,by simp,fun k k1 k2 => ?_⟩
  ·simp [k1,k2,k3]; exact hV k k1 k2 k3
  ·have b1:(k=s'.nx)=False:=eq_false (by omega);have b2:(k=s'.nx+1)=False:=eq_false (by omega);have b3:(k=q')=False:=eq_false (by omega);simp [b1,b2,b3];exact hfr k k1 k2
 ·have hin:i=col.length:=by omega
  simp [-getElem?_pos,z0n,v36',v37',h];exact hQ _ q' e' bins (by rw [hbb,List.take_of_length_le (by omega)]) (fun k k1 k2 k3=>by simp; exact hV k k1 k2 k3) (by simp [v8']) hq (by simp [hqx]) (by simp [hnx]) (by simp [hSq]) (fun k k1 k2=>by simp; exact hfr k k1 k2)
theorem qbh (q:Bool) (t:Ta) (b:Int) (ht:TaL 1048576 t):RUN T zqm [taS q t,iv b]=some ([.agg [.own 1 (rws true (zcm t b)),.own 1 (rws true (zcz t b))]],[]):=by
 have e1:=ym1 q t ht;have g1:=zcq b 2 8;cases hok:zgp t with
 | false =>
  have hC:zcm t b=[]:=by unfold zcm; rw [hok]; rfl
  have hW:zcz t b=[]:=by unfold zcz; rw [hok]; rfl
  rw [hC,hW];rw [hok] at e1;simp only [taS] at *;refine zae rfl rfl ?_;simp [-getElem?_pos,-zbi,ztm,ztl,e1,show rws true []=[] from rfl]
 | true =>
 cases hbi:zaj b 2 8 with
 | false =>
  have hC:zcm t b=[]:=by unfold zcm; rw [hbi,Bool.and_false]; rfl
  have hW:zcz t b=[]:=by unfold zcz; rw [hbi,Bool.and_false]; rfl
  rw [hC,hW];rw [hok] at e1;rw [hbi] at g1;simp only [taS] at *;refine zae rfl rfl ?_;simp [-getElem?_pos,-zbi,ztm,ztl,e1,g1,show rws true []=[] from rfl]
 | true =>
 have hb:=za3.mp hbi;rw [hok] at e1;rw [hbi] at g1;obtain ⟨t1,t2,t3,t4,t5,t6⟩:=zxr hok;have hgC:zcm t b=(List.range t.ns.length).map fun f=>zb0 (zb7 t f) b:=by unfold zcm; rw [hok,hbi]; rfl
 have hgW:zcz t b=(List.range t.ns.length).map (zpa t b):=by unfold zcz; rw [hok,hbi]; rfl
 rw [hgC,hgW];have hr1:zah 24 1=true:=by decide
 have hr0:zah 8 0=true:=by decide
 have cl:=qbc q t;simp only [taS] at *;refine zae rfl rfl ?_;simp [-getElem?_pos,-zbi,ztm,ztl,e1,g1];refine zao (fun n st => ∃ (i:Nat) (C D:List (List Int)) (x y:PV),i+n=t.ns.length/\C.length=i/\D.length=i/\C=(List.range i).map (fun f=>zb0 (zb7 t f) b)/\D=(List.range i).map (zpa t b)/\st.V 1=iv b/\st.V 2 = .ptr 0 none 0 0 0/\st.V 4 = .ptr 1 none 0 0 0/\st.V 5 = .ptr 2 none 0 0 0/\st.V 25=iv i/\st.V 24=iv t.ns.length/\2<st.nx/\LG st.S st.nx C D x y/\st.S 0=some (.box [.sl 1 (za4 t.ns),.v (.string t.nm),.sl 1 (rws q t.rw),.sl 1 (zab t.lb)])/\st.S 1=some (.box [.e0,.e0])/\st.S 2=some (.box [x,y])) ?_ t.ns.length _ ⟨0,[],[],.e0,.e0,by omega,rfl,rfl,rfl,rfl,by simp,by simp,by simp,by simp,by simp,by simp,by simp,.inl ⟨rfl,rfl,rfl,rfl⟩,by simp⟩;rintro n st ⟨i,C,D,x,y,hi,hC,hD,hC8,hD8,v1,v2,v4,v5,v25,v24,hnx,hx,hS0,hS1,hS2⟩;have z1:=fr hnx;have z2:=fr (show 1<st.nx by omega);have z3:=fr (show 0<st.nx by omega)
 by_cases h:i<t.ns.length
 ·have hw:=wS h (by omega:t.ns.length<=9223372036854775807);have h1:=cl i ht h t4 t6;have hcol:(zb7 t i).length=t.rw.length:=by simp [zb7]
  have h2:=qbb (zb7 t i) b (by omega);have hcu:(zb0 (zb7 t i) b).length<=8:=Nat.le_trans (yqi (zb7 t i) b).2.2 (by omega);have hCn:C++[zb0 (zb7 t i) b]=(List.range (i+1)).map (fun f=>zb0 (zb7 t f) b):=by rw [List.range_succ,List.map_append,<- hC8]; rfl
  have hDn:D++[(zb7 t i).map fun v=>(zdv (zb0 (zb7 t i) b) v:Int)]=(List.range (i+1)).map (zpa t b):=by rw [List.range_succ,List.map_append,<- hD8]; rfl
  generalize zb0 (zb7 t i) b=cuts at *;generalize zb7 t i=col at *;simp [-getElem?_pos,yaf,v1,v2,v4,v5,v25,v24,hS0,hS1,hS2,h,h1,h2,hr0,z1,z2,z3];refine qg9 cuts col hcu (by omega) (q1:=st.nx) (q2:=st.nx+2) (q3:=st.nx+1) (by simp; rfl) (by simp) (by simp) (by simp; rfl) (by simp; rfl) (by omega) (by omega) (by first | (simp; done) | (simp; omega)) (by first | (simp; done) | (simp; omega)) (by first | (simp; done) | (simp; omega)) (by simp) (by simp) (by simp) ?_;intro s' q' e' bins hbb hV w8 hq hqx hnx' hSq hfr;simp only at hq hnx';have hbl:bins.length=col.length:=by rw [hbb]; simp
  have w1:s'.V 1=iv b:=by rw [hV 1 (by decide) (by decide) (by decide)]; simp [v1]
  have w2:s'.V 2 = .ptr 0 none 0 0 0:=by rw [hV 2 (by decide) (by decide) (by decide)]; simp [v2]
  have w4:s'.V 4 = .ptr 1 none 0 0 0:=by rw [hV 4 (by decide) (by decide) (by decide)]; simp [v4]
  have w5:s'.V 5 = .ptr 2 none 0 0 0:=by rw [hV 5 (by decide) (by decide) (by decide)]; simp [v5]
  have w25:s'.V 25=iv i:=by rw [hV 25 (by decide) (by decide) (by decide)]; simp [v25]
  have w24:s'.V 24=iv t.ns.length:=by rw [hV 24 (by decide) (by decide) (by decide)]; simp [v24]
  obtain ⟨e9,w9⟩ : ∃ e,s'.V 9 = .ref (st.nx+2) none e 0 cuts.length:=⟨_,by rw [hV 9 (by decide) (by decide) (by decide)]; simp; rfl⟩;have hT0:s'.S 0=some (.box [.sl 1 (za4 t.ns),.v (.string t.nm),.sl 1 (rws q t.rw),.sl 1 (zab t.lb)]):=by rw [hfr 0 (by first | (simp; done) | (simp; omega)) (by omega)]; simp [z1,z2,z3,hS0]
  have hT1:s'.S 1=some (.box [.e0,.e0]):=by rw [hfr 1 (by first | (simp; done) | (simp; omega)) (by omega)]; simp [z1,z2,z3,hS1]
  have hT2:s'.S 2=some (.box [x,y]):=by rw [hfr 2 (by first | (simp; done) | (simp; omega)) (by omega)]; simp [z1,z2,z3,hS2]
  have hT8:s'.S (st.nx+2)=some (.row 1 (zab cuts)):=by rw [hfr _ (by first | (simp; done) | (simp; omega)) (by omega)]; simp
  have hL:LG s'.S s'.nx C D x y:=hx.mono (by omega) (fun k k1 k2=>by
   rw [hfr k (by first | (simp; done) | (simp; omega)) (by omega)];have b1:(k=st.nx)=False:=eq_false (by omega);have b2:(k=st.nx+1)=False:=eq_false (by omega);have b3:(k=st.nx+2)=False:=eq_false (by omega);simp [b1,b2,b3])
  have hr24:zah 24 (C.length+1)=true:=by simp [zah]; omega
  have hr24':zah 24 (D.length+1)=true:=by simp [zah]; omega
  have s1:=z9n C cuts;have s2:=z9n D bins;obtain ⟨p8,hp8⟩ : ∃ p8,p8=st.nx+2:=⟨_,rfl⟩;rw [<- hp8] at w9 hT8;have hp8x:p8<s'.nx:=by first | omega | (simp at hnx'; omega)
  have hp8q : ¬ p8=q':=by first | omega | (simp at hq; omega)
  have hq2:2<q':=by first | omega | (simp at hq; omega)
  have hp82:2<p8:=by omega
  obtain ⟨P,hP⟩ : ∃ P,P=st.nx:=⟨_,rfl⟩;have hPp:P<p8:=by omega
  have hPq:P<q':=by first | omega | (simp at hq; omega)
  have hL':LG s'.S P C D x y:=by
   rcases hx with hx | ⟨o,e,o',e',k1,k2,k3,k4,k5,k6,k7,k8,k9⟩
   ·exact .inl hx
   ·rcases hL with ⟨l1,_⟩ | ⟨o2,e2,o2',e2',l1,l2,l3,l4,l5,l6,l7,l8,l9⟩
    ·rw [k1] at l1; cases l1
    ·rw [k1] at l1; cases l1;rw [k2] at l2; cases l2;exact .inr ⟨o,e,o',e',k1,k2,k3,by omega,k5,by omega,k7,l8,l9⟩
  clear hL hx hfr hV hp8 hP hq hS0 hS1 hS2 v1 v2 v4 v5 v25 v24 z1 z2 z3 h1 h2;have a1:=fr hqx;have a2:(p8=q')=False/\(q'=p8)=False:=⟨eq_false hp8q,eq_false fun e=>hp8q e.symm⟩;have a3:=fr (show p8<s'.nx by omega);have a4:=fr hp82;have a5:=fr (show 2<q' by omega);have a6:=fr (show 2<s'.nx by omega);have b1:=fr (show 1<p8 by omega);have b2:=fr (show 1<q' by omega);have b3:=fr (show 1<s'.nx by omega);have b4:=fr (show 0<p8 by omega);have b5:=fr (show 0<q' by omega);have b6:=fr (show 0<s'.nx by omega);have nn1 : ¬ s'.nx=1:=by omega
  have nn2 : ¬ s'.nx+1=q':=by omega
  have na : ∀ a b:Nat,s'.nx+a+b=s'.nx+(a+b):=fun a b=>Nat.add_assoc _ _ _;rw [<- hbb] at hDn;rcases hL' with ⟨rfl,rfl,hC0,hD0⟩ | ⟨o,e,o',e',rfl,rfl,ho,hox,ho',hox',hoo,hSo,hSo'⟩
  ·subst hC0 hD0;simp only [List.nil_append] at hCn hDn;simp [-getElem?_pos,w1,w2,w4,w5,w25,w24,w8,w9,hT0,hT1,hT2,hT8,hSq,hw,hr1,na,a1,a2,a3,a4,a5,a6,b1,b2,b3,b4,b5,b6];exact zai (n-1) (by omega) ⟨i+1,[cuts],[bins],.ref (s'.nx+1) none s'.ep 0 1,.ref (s'.nx+3) none s'.ep 0 1,by omega,by simp at hC; simp; omega,by simp at hC; simp; omega,hCn,hDn,by simp [w1],by simp [w2],by simp [w4],by simp [w5],by simp,by simp [w24],by first | (simp; done) | (simp; omega),.inr ⟨s'.nx+1,s'.ep,s'.nx+3,s'.ep,rfl,rfl,by omega,by simp,by omega,by simp,by omega,by simp [nn1,nn2,rws,cel]⟩,by simp [a1,a2,a3,a4,a5,a6,b1,b2,b3,b4,b5,b6,hT0,hT1]⟩
  ·have c1:=fr ho;have c2:=fr (show o<p8 by omega);have c3:=fr ho';have c4:=fr (show o'<p8 by omega);have c5:=fr (show o<q' by omega);have c6:=fr (show o'<q' by omega);have d1:=fr (show o<s'.nx by omega);have d2:=fr (show o'<s'.nx by omega);have d3:=fr (show 1<o by omega);have d4:=fr (show 1<o' by omega);have d5:=fr (show 0<o by omega);have d6:=fr (show 0<o' by omega);have hoo2 : ¬ o'=o:=fun e=>hoo e.symm;have nn3 : ¬ s'.nx+1=o':=by omega
   simp [-getElem?_pos,w1,w2,w4,w5,w25,w24,w8,w9,hT0,hT1,hT2,hT8,hSq,hSo,hSo',hoo,hoo2,hw,hr1,hr24,hr24',s1,s2,na,a1,a2,a3,a4,a5,a6,b1,b2,b3,b4,b5,b6,c1,c2,c3,c4,c5,c6,d1,d2,d3,d4,d5,d6];exact zai (n-1) (by omega) ⟨i+1,C++[cuts],D++[bins],.ref (s'.nx+1) none s'.ep 0 (C.length+1),.ref (s'.nx+3) none s'.ep 0 (D.length+1),by omega,by simp [hC],by simp [hD],hCn,hDn,by simp [w1],by simp [w2],by simp [w4],by simp [w5],by simp,by simp [w24],by first | (simp; done) | (simp; omega),.inr ⟨s'.nx+1,s'.ep,s'.nx+3,s'.ep,by simp,by simp,by omega,by simp,by omega,by simp,by omega,by simp [nn1,nn2,nn3]⟩,by simp [a1,a2,a3,a4,a5,a6,b1,b2,b3,b4,b5,b6,c1,c2,c3,c4,c5,c6,d1,d2,d3,d4,d5,d6,hT0,hT1]⟩
 ·have hin:i=t.ns.length:=by omega
  rcases hx with ⟨rfl,rfl,hC0,hD0⟩ | ⟨o,e,o',e',rfl,rfl,ho,hox,ho',hox',hoo,hSo,hSo'⟩
  ·subst hC0;simp at hC; omega
  ·have c1:=fr ho;have c3:=fr ho';have d3:=fr (show 1<o by omega);have d4:=fr (show 1<o' by omega);have d5:=fr (show 0<o by omega);have d6:=fr (show 0<o' by omega);have hoo2 : ¬ o'=o:=fun e=>hoo e.symm;simp [-getElem?_pos,yaf,v1,v2,v4,v5,v25,v24,hS0,hS1,hS2,h,hSo,hSo',hoo,hoo2,c1,c3,d3,d4,d5,d6];rw [hC8,hD8,hin];exact ⟨rfl,rfl⟩
theorem ynr {l m:List Int} : ∀ x∈(zfv l m).1,inI x:=by
 unfold zfv;split
 ·rename_i hl;cases e:res l m with
  | none=>intro x hx; cases hx
  | some r =>
   obtain ⟨h1,h2⟩:=ycb hl e;intro x hx
   replace hx:x∈r:=hx
   obtain ⟨i,hi⟩:=bH hx;have hlt:=(bD hi).1;obtain ⟨a,ha⟩ : ∃ a,l[i]?=some a:=⟨_,bG (by omega)⟩;obtain ⟨b,hb⟩ : ∃ b,m[i]?=some b:=⟨_,bG (by omega)⟩;obtain ⟨rfl,h4,h5⟩:=h2 i a b x ha hb hi;exact ⟨h4,h5⟩
 ·intro x hx; cases hx
theorem yuj {l m:List Int}:(zfv l m).1.length<=l.length/\((zfv l m).2=true->l.length=m.length):=by
 unfold zfv;split
 ·rename_i hl;cases e:res l m with
  | none=>simp
  | some r=>exact ⟨Nat.le_of_eq (ycb hl e).1,fun _=>hl⟩
 ·simp
theorem yph {c v:List (List Int)} {g:List Int} {cfg:Cfg} (h:(zco c v g cfg).2=true) : ∀ x∈(zco c v g cfg).1,inR 2199023255552 x.v:=by
 refine qd8 (by omega) fun x hx => ?_;unfold zco at h;split at h
 ·rename_i ht;exact (zyu ht).2.2.2 x hx
 ·cases h
theorem yss {tr:List Nd} {ps:List Int} {rs:List (List Int)} {i:Nat} {p:Int} {r:List Int} (hp:ps[i]?=some p) (hr:rs[i]?=some r):zd8 tr (ps.drop i) (rs.drop i)=if (adi p (evt tr r)).2=true then (zd8 tr (ps.drop (i+1)) (rs.drop (i+1))).map ((adi p (evt tr r)).1 :: ·) else none:=by
 rw [zc3 hp,zc3 hr,zd8]
theorem yqz (M:List (List Nd)) (t:List Nd):trs true M++[[.own 5 (t.map nd)]]=trs true (M++[t]):=by simp [trs,zfa]
theorem TaL.up {t:Ta} (ht:TaL 1048576 t):TaL 9223372036854775807 t:=⟨Nat.le_trans ht.ns (by omega),fun x hx=>Nat.le_trans (ht.ss x hx) (by omega),Nat.le_trans ht.nm (by omega),Nat.le_trans ht.rw (by omega),fun x hx=>Nat.le_trans (ht.rr x hx) (by omega),Nat.le_trans ht.lb (by omega)⟩
open Classical in
theorem qbi (p q r:Bool) (t:Ta) (c v:List (List Int)) (cfg:Cfg) (s:Sta) (ht:TaL 1048576 t) (hti : ∀ y∈t.lb,inI y) (hcl:c.length<=1048576) (hc : ∀ l∈c,l.length<=1048576) (hvl:v.length<=1048576) (hv : ∀ l∈v,l.length<=1048576) (hg:cfg.sg.length<=1048576) (hs:zfg 1048576 s) (hsi : ∀ x∈s.sm,inI x):RUN T zpv [taS p t,.agg [.sl 1 (rws q c),.sl 1 (rws q v)],cfS cfg,stS r s]=some ([stO (zc7 t c v cfg s).1,bv (zc7 t c v cfg s).2],[]):=by
 have e1:=ym2 p t ht.up;have e2:=qa9 p t cfg.bi ht;have e3:=qbg q true c v (zcm t cfg.bi) (zcz t cfg.bi) (by omega) (fun l hl=>Nat.le_trans (hc l hl) (by omega)) (by omega) (fun l hl=>Nat.le_trans (hv l hl) (by omega));have r1:=y8o t.lb s.sm ht.lb hs.sm hti hsi;have hrl:=yuj (l:=t.lb) (m:=s.sm);have hri:=ynr (l:=t.lb) (m:=s.sm);have hrw:=ht.rw;have hsm:=hs.sm;have hlb:=ht.lb;have hz:stO noS = .agg [.own 1 [],.own 1 []]:=rfl;simp only [taS,stS] at *;cases ht1:zgp t with
 | false =>
  have hR:zc7 t c v cfg s=(noS,false):=by unfold zc7; rw [if_neg (by rw [ht1]; simp)]
  rw [hR,hz];rw [ht1] at e1;refine zae rfl rfl ?_;simp [-getElem?_pos,zj2,zj1,e1]
 | true =>
 rw [ht1] at e1;have htr:=zxr ht1
 by_cases hcg:c=zcm t cfg.bi/\v=zcz t cfg.bi
 case neg =>
  have hR:zc7 t c v cfg s=(noS,false):=by unfold zc7; rw [if_neg fun h=>hcg h.2]
  have hd:(decide (c=zcm t cfg.bi) && decide (v=zcz t cfg.bi))=false:=by
   cases h1:decide (c=zcm t cfg.bi) with
   | false=>rfl
   | true=>exact decide_eq_false fun h=>hcg ⟨of_decide_eq_true h1,h⟩
  rw [hR,hz];rw [hd] at e3;generalize zcm t cfg.bi=GC at *;generalize zcz t cfg.bi=GW at *;refine zae rfl rfl ?_;simp [-getElem?_pos,zj2,zj1,e1,e2,e3]
 case pos =>
 have hR:zc7 t c v cfg s=zus t c v cfg s:=by unfold zc7; rw [if_pos ⟨ht1,hcg⟩]
 have hd:(decide (c=zcm t cfg.bi) && decide (v=zcz t cfg.bi))=true:=by rw [decide_eq_true hcg.1,decide_eq_true hcg.2]; rfl
 rw [hR];rw [hd] at e3;generalize zcm t cfg.bi=GC at *;generalize zcz t cfg.bi=GW at *;clear hR hd hcg ht1;unfold zus zkp;generalize zfv t.lb s.sm=QQ at *;obtain ⟨RS,rb⟩:=QQ;simp only at r1 hrl hri;have g1:=qak q c v RS cfg hc hv (by omega) hg hri;have hgl:=yb6 (c:=c) (v:=v) (g:=RS) (cfg:=cfg);have hgv:=yph (c:=c) (v:=v) (g:=RS) (cfg:=cfg);have s1:=qa0 (zco c v RS cfg).1 cfg (by omega) hg;have hsl:=yep (c:=cfg) (t:=(zco c v RS cfg).1);have hsv:=fun h=>yo0 (c:=cfg) (t:=(zco c v RS cfg).1) (R:=2199023255552) (by omega) (hgv h);have t1:=qau r s.ts hs.ts hs.tl;generalize zco c v RS cfg=QQ at *;obtain ⟨G,gb⟩:=QQ;simp only at g1 hgl s1 hsl hsv;generalize zgw cfg G=QQ at *;obtain ⟨tr,sb⟩:=QQ;simp only at s1 hsl hsv;cases rb with
 | false =>
  simp only [Bool.false_and,Bool.false_eq_true,if_false];rw [hz];refine zae rfl rfl ?_;simp [-getElem?_pos,zj2,zj1,e1,e2,e3,r1]
 | true =>
 cases gb with
 | false =>
  simp only [Bool.and_false,Bool.false_eq_true,if_false];rw [hz];refine zae rfl rfl ?_;simp [-getElem?_pos,zj2,zj1,e1,e2,e3,r1,g1,s1]
 | true =>
 cases sb with
 | false =>
  simp only [Bool.and_true,if_true,Bool.false_eq_true,if_false];rw [hz];refine zae rfl rfl ?_;simp [-getElem?_pos,zj2,zj1,e1,e2,e3,r1,g1,s1]
 | true =>
 simp only [Bool.and_true,if_true];have hev:=yuq (t:=tr) (by omega) (hsv rfl);have hlr:s.sm.length=t.rw.length:=by have:=hrl.2 rfl; omega
 have hts:=yqz s.ts tr;have hrt:zah 24 (s.ts.length+1)=true:=by have:=hs.ts; simp [zah]; omega
 have hr24:zah 24 1=true:=by decide
 clear hsv hgv;refine zae rfl rfl ?_;simp [-getElem?_pos,zj2,zj1,e1,e2,e3,r1,g1,s1,t1,hts,hrt,hr24];refine zao (fun n st => ∃ (i:Nat) (m:List Int) (x:PV),i+n=s.sm.length/\m.length=i/\zd8 tr s.sm t.rw=(zd8 tr (s.sm.drop i) (t.rw.drop i)).map (m ++ ·)/\st.V 4 = .ptr 0 none 0 0 0/\st.V 7 = .ptr 3 none 0 0 0/\st.V 8 = .ptr 4 none 0 0 0/\st.V 14 = .ptr 11 none 0 0 0/\st.V 16 = .ptr 15 none 0 0 0/\st.V 17=iv i/\st.ep=0/\15<st.nx/\LC st.S st.nx 15 m x/\st.S 0=some (.box [.sl 1 (za4 t.ns),.v (.string t.nm),.sl 1 (rws p t.rw),.sl 1 (zab t.lb)])/\st.S 3=some (.box [.sl 1 (zab s.sm),.sl 1 (trs r s.ts)])/\st.S 4=some (.box [.e0,.e0])/\st.S 10=some (.shadow 5 (tr.map nd) 0)/\st.S 11=some (.box [.ref 10 none 0 0 tr.length])/\st.S 14=some (.row 1 (trs true (s.ts++[tr])))/\st.S 15=some (.box [x,.ref 14 none 0 0 (s.ts.length+1)])) ?_ s.sm.length _ ⟨0,[],.e0,by omega,rfl,by simp,by simp,by simp,by simp,by simp,by simp,by simp,by simp,by simp,.inl ⟨rfl,rfl⟩,by simp⟩;rintro n st ⟨i,m,x,hi,hm,hE,v4,v7,v8,v14,v16,v17,hep,hnx,hx,hS0,hS3,hS4,hS10,hS11,hS14,hS15⟩;have Z0:=bI v4 <| bI v7 <| bI v8 <| bI v14 <| bI v16 <| bI v17 <| bI hep <| bI hS0 <| bI hS3 <| bI hS4 <| bI hS10 <| bI hS11 <| bI hS14 hS15
 have z0:=fr (show 0<st.nx by omega);have z3:=fr (show 3<st.nx by omega);have z4:=fr (show 4<st.nx by omega);have z10:=fr (show 10<st.nx by omega);have z11:=fr (show 11<st.nx by omega);have z14:=fr (show 14<st.nx by omega);have z15:=fr hnx;have n14 : ¬ st.nx=14:=by omega
 by_cases h:i<s.sm.length
 ·obtain ⟨y,hy⟩ : ∃ x,s.sm[i]?=some x:=⟨_,bG h⟩;obtain ⟨w,hw⟩ : ∃ x,t.rw[i]?=some x:=⟨_,bG (by omega)⟩;have hy':=zay hy;have hw':=zct (q:=p) hw;have hir:i<t.rw.length:=by omega
  have hwS:=wS h (by omega:s.sm.length<=9223372036854775807);have v1:=y76 tr w (by omega) (ht.rr w (bF hw));have hei:=hev w;have a1:=ya7 y (evt tr w) (hsi y (bF hy)) (by unfold inR at hei; unfold inI; omega);rw [yss hy hw] at hE;generalize evt tr w=ew at *;generalize adi y ew=QQ at *;obtain ⟨ad,ab⟩:=QQ;simp only at a1 hE;cases ab with
  | false =>
   have hA:zi0 t tr s=(noS,false):=by unfold zi0; rw [hE]; rfl
   rw [hA,hz];simp [-getElem?_pos,ztd,Z0,h,hy',hw',hir,v1,a1]
  | true =>
   rw [if_pos rfl] at hE;have hE2:zd8 tr s.sm t.rw=(zd8 tr (s.sm.drop (i+1)) (t.rw.drop (i+1))).map ((m++[ad]) ++ ·):=by
    rw [hE,Option.map_map]; congr 1; funext l; simp
   have hr8:zah 8 1=true:=by decide
   have hr8':=zdc (n:=m.length+1) (by omega);have hsn:=zc6 m ad;rcases hx with ⟨rfl,rfl⟩ | ⟨o,e,rfl,ho,hox,hSo⟩
   ·simp [-getElem?_pos,ztd,Z0,h,hy',hw',hir,v1,a1,hwS,hr8,z0,z3,z4,z10,z11,z14,z15];exact zai (n-1) (by omega) ⟨i+1,[ad],.ref (st.nx+1) none 0 0 1,by omega,by simp at hm; simp; omega,by simpa using hE2,by simp [v4],by simp [v7],by simp [v8],by simp [v14],by simp [v16],by simp,by simp [hep],by simp; omega,.inr ⟨st.nx+1,0,by simp,by omega,by simp [zab,n14]⟩,by simp [z0,hS0,z3,hS3,z4,hS4,z10,hS10,z11,hS11,z14,hS14,n14]⟩
   ·have y1:=fr hox;have y2:=fr (show 0<o by omega);have y3:=fr (show 3<o by omega);have y4:=fr (show 4<o by omega);have y5:=fr (show 10<o by omega);have y6:=fr (show 11<o by omega);have y7:=fr (show 14<o by omega);have y8:=fr ho;simp [-getElem?_pos,ztd,Z0,hSo,h,hy',hw',hir,v1,a1,hwS,hr8,hr8',hsn,z0,z3,z4,z10,z11,z14,z15,y1,y2,y3,y4,y5,y6,y7,y8];exact zai (n-1) (by omega) ⟨i+1,m++[ad],.ref (st.nx+1) none 0 0 (m.length+1),by omega,by simp [hm],hE2,by simp [v4],by simp [v7],by simp [v8],by simp [v14],by simp [v16],by simp,by simp [hep],by simp; omega,.inr ⟨st.nx+1,0,by simp,by omega,by simp [n14]⟩,by simp [z0,y2,hS0,z3,y3,hS3,z4,y4,hS4,z10,y5,hS10,z11,y6,hS11,z14,y7,hS14,n14]⟩
 ·have hA:zi0 t tr s=(⟨m,s.ts++[tr]⟩,true):=by
   unfold zi0;rw [hE,List.drop_eq_nil_of_le (by omega),List.drop_eq_nil_of_le (by omega)];simp [zd8]
  rw [hA];rcases hx with ⟨rfl,rfl⟩ | ⟨o,e,rfl,ho,hox,hSo⟩
  ·simp [-getElem?_pos,ztd,Z0,h,z0,z3,z4,z10,z11,z14,z15]
  ·have y4:=fr (show 4<o by omega);have y7:=fr (show 14<o by omega);have y8:=fr ho;simp [-getElem?_pos,ztd,Z0,hSo,h,z0,z3,z4,z10,z11,z14,z15,y4,y7,y8]
open Classical in
theorem qbj (p q r:Bool) (t:Ta) (c v:List (List Int)) (cfg:Cfg) (s:Sta) (ht:TaL 1048576 t) (hti : ∀ y∈t.lb,inI y) (hcl:c.length<=1048576) (hc : ∀ l∈c,l.length<=1048576) (hvl:v.length<=1048576) (hv : ∀ l∈v,l.length<=1048576) (hg:cfg.sg.length<=1048576) (hs:zfg 1048576 s) (hsi : ∀ x∈s.sm,inI x):RUN T zmx [taS p t,.agg [.sl 1 (rws q c),.sl 1 (rws q v)],cfS cfg,stS r s]=some ([stO (zc7 t c v cfg s).1,bv (zc7 t c v cfg s).2],[]):=by
 have e1:=ym1 p t ht;have e2:=qbh p t cfg.bi ht;have e3:=qbf q true c v (zcm t cfg.bi) (zcz t cfg.bi) (by omega) (fun l hl=>Nat.le_trans (hc l hl) (by omega)) (by omega) (fun l hl=>Nat.le_trans (hv l hl) (by omega));have r1:=y8n t.lb s.sm ht.lb hs.sm hti hsi;have hrl:=yuj (l:=t.lb) (m:=s.sm);have hri:=ynr (l:=t.lb) (m:=s.sm);have hrw:=ht.rw;have hsm:=hs.sm;have hlb:=ht.lb;have hz:stO noS = .agg [.own 1 [],.own 1 []]:=rfl;simp only [taS,stS] at *;cases ht1:zgp t with
 | false =>
  have hR:zc7 t c v cfg s=(noS,false):=by unfold zc7; rw [if_neg (by rw [ht1]; simp)]
  rw [hR,hz];rw [ht1] at e1;refine zae rfl rfl ?_;simp [-getElem?_pos,zj0,zj1,e1]
 | true =>
 rw [ht1] at e1;have htr:=zxr ht1
 by_cases hcg:c=zcm t cfg.bi/\v=zcz t cfg.bi
 case neg =>
  have hR:zc7 t c v cfg s=(noS,false):=by unfold zc7; rw [if_neg fun h=>hcg h.2]
  have hd:(decide (c=zcm t cfg.bi) && decide (v=zcz t cfg.bi))=false:=by
   cases h1:decide (c=zcm t cfg.bi) with
   | false=>rfl
   | true=>exact decide_eq_false fun h=>hcg ⟨of_decide_eq_true h1,h⟩
  rw [hR,hz];rw [hd] at e3;generalize zcm t cfg.bi=GC at *;generalize zcz t cfg.bi=GW at *;refine zae rfl rfl ?_;simp [-getElem?_pos,zj0,zj1,e1,e2,e3]
 case pos =>
 have hR:zc7 t c v cfg s=zus t c v cfg s:=by unfold zc7; rw [if_pos ⟨ht1,hcg⟩]
 have hd:(decide (c=zcm t cfg.bi) && decide (v=zcz t cfg.bi))=true:=by rw [decide_eq_true hcg.1,decide_eq_true hcg.2]; rfl
 rw [hR];rw [hd] at e3;generalize zcm t cfg.bi=GC at *;generalize zcz t cfg.bi=GW at *;clear hR hd hcg ht1;unfold zus zkp;generalize zfv t.lb s.sm=QQ at *;obtain ⟨RS,rb⟩:=QQ;simp only at r1 hrl hri;have g1:=qaj q c v RS cfg hc hv (by omega) hg hri;have hgl:=yb6 (c:=c) (v:=v) (g:=RS) (cfg:=cfg);have hgv:=yph (c:=c) (v:=v) (g:=RS) (cfg:=cfg);have s1:=qa1 (zco c v RS cfg).1 cfg (by omega) hg;have hsl:=yep (c:=cfg) (t:=(zco c v RS cfg).1);have hsv:=fun h=>yo0 (c:=cfg) (t:=(zco c v RS cfg).1) (R:=2199023255552) (by omega) (hgv h);have t1:=qat r s.ts hs.ts hs.tl;generalize zco c v RS cfg=QQ at *;obtain ⟨G,gb⟩:=QQ;simp only at g1 hgl s1 hsl hsv;generalize zgw cfg G=QQ at *;obtain ⟨tr,sb⟩:=QQ;simp only at s1 hsl hsv;cases rb with
 | false =>
  simp only [Bool.false_and,Bool.false_eq_true,if_false];rw [hz];refine zae rfl rfl ?_;simp [-getElem?_pos,zj0,zj1,e1,e2,e3,r1]
 | true =>
 cases gb with
 | false =>
  simp only [Bool.and_false,Bool.false_eq_true,if_false];rw [hz];refine zae rfl rfl ?_;simp [-getElem?_pos,zj0,zj1,e1,e2,e3,r1,g1,s1]
 | true =>
 cases sb with
 | false =>
  simp only [Bool.and_true,if_true,Bool.false_eq_true,if_false];rw [hz];refine zae rfl rfl ?_;simp [-getElem?_pos,zj0,zj1,e1,e2,e3,r1,g1,s1]
 | true =>
 simp only [Bool.and_true,if_true];have hev:=yuq (t:=tr) (by omega) (hsv rfl);have hlr:s.sm.length=t.rw.length:=by have:=hrl.2 rfl; omega
 have hts:=yqz s.ts tr;have hrt:zah 24 (s.ts.length+1)=true:=by have:=hs.ts; simp [zah]; omega
 have hr24:zah 24 1=true:=by decide
 clear hsv hgv;refine zae rfl rfl ?_;simp [-getElem?_pos,zj0,zj1,e1,e2,e3,r1,g1,s1,t1,hts,hrt,hr24];refine zao (fun n st => ∃ (i:Nat) (m:List Int) (x:PV),i+n=s.sm.length/\m.length=i/\zd8 tr s.sm t.rw=(zd8 tr (s.sm.drop i) (t.rw.drop i)).map (m ++ ·)/\st.V 4 = .ptr 0 none 0 0 0/\st.V 70 = .sl 1 (zab s.sm)/\st.V 71=iv s.sm.length/\st.V 8 = .ptr 4 none 0 0 0/\st.V 13 = .ptr 11 none 0 0 0/\st.V 14 = .ptr 15 none 0 0 0/\st.V 72=iv i/\st.ep=0/\15<st.nx/\LC st.S st.nx 15 m x/\st.S 0=some (.box [.sl 1 (za4 t.ns),.v (.string t.nm),.sl 1 (rws p t.rw),.sl 1 (zab t.lb)])/\st.S 4=some (.box [.e0,.e0])/\st.S 10=some (.shadow 5 (tr.map nd) 0)/\st.S 11=some (.box [.ref 10 none 0 0 tr.length])/\st.S 14=some (.row 1 (trs true (s.ts++[tr])))/\st.S 15=some (.box [x,.ref 14 none 0 0 (s.ts.length+1)])) ?_ s.sm.length _ ⟨0,[],.e0,by omega,rfl,by simp,by simp,by simp,by simp,by simp,by simp,by simp,by simp,by simp,by simp,.inl ⟨rfl,rfl⟩,by simp⟩;rintro n st ⟨i,m,x,hi,hm,hE,v4,v70,v71,v8,v13,v14,v72,hep,hnx,hx,hS0,hS4,hS10,hS11,hS14,hS15⟩;have Z0:=bI v4 <| bI v70 <| bI v71 <| bI v8 <| bI v13 <| bI v14 <| bI v72 <| bI hep <| bI hS0 <| bI hS4 <| bI hS10 <| bI hS11 <| bI hS14 hS15
 have z0:=fr (show 0<st.nx by omega);have z3:=fr (show 3<st.nx by omega);have z4:=fr (show 4<st.nx by omega);have z10:=fr (show 10<st.nx by omega);have z11:=fr (show 11<st.nx by omega);have z14:=fr (show 14<st.nx by omega);have z15:=fr hnx;have n14 : ¬ st.nx=14:=by omega
 by_cases h:i<s.sm.length
 ·obtain ⟨y,hy⟩ : ∃ x,s.sm[i]?=some x:=⟨_,bG h⟩;obtain ⟨w,hw⟩ : ∃ x,t.rw[i]?=some x:=⟨_,bG (by omega)⟩;have hy':=zay hy;have hw':=zct (q:=p) hw;have hir:i<t.rw.length:=by omega
  have hwS:=wS h (by omega:s.sm.length<=9223372036854775807);have v1:=y77 tr w (by omega) (ht.rr w (bF hw));have hei:=hev w;have a1:=ya6 y (evt tr w) (hsi y (bF hy)) (by unfold inR at hei; unfold inI; omega);rw [yss hy hw] at hE;generalize evt tr w=ew at *;generalize adi y ew=QQ at *;obtain ⟨ad,ab⟩:=QQ;simp only at a1 hE;cases ab with
  | false =>
   have hA:zi0 t tr s=(noS,false):=by unfold zi0; rw [hE]; rfl
   rw [hA,hz];simp [-getElem?_pos,ztc,Z0,h,hy',hw',hir,v1,a1]
  | true =>
   rw [if_pos rfl] at hE;have hE2:zd8 tr s.sm t.rw=(zd8 tr (s.sm.drop (i+1)) (t.rw.drop (i+1))).map ((m++[ad]) ++ ·):=by
    rw [hE,Option.map_map]; congr 1; funext l; simp
   have hr8:zah 8 1=true:=by decide
   have hr8':=zdc (n:=m.length+1) (by omega);have hsn:=zc6 m ad;rcases hx with ⟨rfl,rfl⟩ | ⟨o,e,rfl,ho,hox,hSo⟩
   ·simp [-getElem?_pos,ztc,Z0,h,hy',hw',hir,v1,a1,hwS,hr8,z0,z3,z4,z10,z11,z14,z15];exact zai (n-1) (by omega) ⟨i+1,[ad],.ref (st.nx+1) none 0 0 1,by omega,by simp at hm; simp; omega,by simpa using hE2,by simp [v4],by simp [v70],by simp [v71],by simp [v8],by simp [v13],by simp [v14],by simp,by simp [hep],by simp; omega,.inr ⟨st.nx+1,0,by simp,by omega,by simp [zab,n14]⟩,by simp [z0,hS0,z4,hS4,z10,hS10,z11,hS11,z14,hS14,n14]⟩
   ·have y1:=fr hox;have y2:=fr (show 0<o by omega);have y3:=fr (show 3<o by omega);have y4:=fr (show 4<o by omega);have y5:=fr (show 10<o by omega);have y6:=fr (show 11<o by omega);have y7:=fr (show 14<o by omega);have y8:=fr ho;simp [-getElem?_pos,ztc,Z0,hSo,h,hy',hw',hir,v1,a1,hwS,hr8,hr8',hsn,z0,z3,z4,z10,z11,z14,z15,y1,y2,y3,y4,y5,y6,y7,y8];exact zai (n-1) (by omega) ⟨i+1,m++[ad],.ref (st.nx+1) none 0 0 (m.length+1),by omega,by simp [hm],hE2,by simp [v4],by simp [v70],by simp [v71],by simp [v8],by simp [v13],by simp [v14],by simp,by simp [hep],by simp; omega,.inr ⟨st.nx+1,0,by simp,by omega,by simp [n14]⟩,by simp [z0,y2,hS0,z4,y4,hS4,z10,y5,hS10,z11,y6,hS11,z14,y7,hS14,n14]⟩
 ·have hA:zi0 t tr s=(⟨m,s.ts++[tr]⟩,true):=by
   unfold zi0;rw [hE,List.drop_eq_nil_of_le (by omega),List.drop_eq_nil_of_le (by omega)];simp [zd8]
  rw [hA];rcases hx with ⟨rfl,rfl⟩ | ⟨o,e,rfl,ho,hox,hSo⟩
  ·simp [-getElem?_pos,ztc,Z0,h,z0,z3,z4,z10,z11,z14,z15]
  ·have y4:=fr (show 4<o by omega);have y7:=fr (show 14<o by omega);have y8:=fr ho;simp [-getElem?_pos,ztc,Z0,hSo,h,z0,z3,z4,z10,z11,z14,z15,y4,y7,y8]
theorem qbq {p q r s:Bool×List TY} {pvs:List PV} (h:zde (fun p c=>zgy p.1 p.2 c) [p,q,r,s] pvs) : ∃ a b c d,pvs=[a,b,c,d]/\zgy p.1 p.2 a/\zgy q.1 q.2 b/\zgy r.1 r.2 c/\zgy s.1 s.2 d:=by
 cases h with
 | cons h1 t=>cases t with
  | cons h2 t=>cases t with
   | cons h3 t=>cases t with
    | cons h4 t=>cases t with
     | nil=>exact ⟨_,_,_,_,rfl,h1,h2,h3,h4⟩
theorem qbk (s:Sta) (k:Int) (h0:0<=k) (hk:k<=1048576) (hs:zfg 1048576 s) (hr:zba s.ts<=1048608):RUN T zk5 [stO s,iv k]=some ([iv (k+s.sm.length+5*zba s.ts)],[.own 1 (zab (upto k s.sm.length)),.own 1 (trs true ((List.range s.ts.length).map (zgh (k+s.sm.length) s.ts)))]):=by
 have hm1:=hs.sm;have hm2:=hs.ts;have h1:=zxd s.sm k h0 (by omega);have h2:=ymi s.ts (k+s.sm.length) (by omega) (by omega) (by omega);generalize hM:(List.range s.ts.length).map (zgh (k+s.sm.length) s.ts)=M at *;have hMl:M.length=s.ts.length:=by rw [<- hM]; simp
 generalize hu:upto k s.sm.length=u at *;have hul:u.length=s.sm.length:=by rw [<- hu]; simp [upto]
 refine zae rfl rfl ?_;simp [-getElem?_pos,zvg,zyz,h1,h2,stO,hul,hMl]
theorem qbl (s:Sta) (k:Int) (h0:0<=k) (hk:k<=1048576) (hs:zfg 1048576 s) (hr:zba s.ts<=1048608):RUN T zmy [.agg [.sl 1 (zab (upto k s.sm.length)),.sl 1 (trs true ((List.range s.ts.length).map (zgh (k+s.sm.length) s.ts)))],iv k]=some ([iv (k+s.sm.length+5*zba s.ts)],[]):=by
 have hm1:=hs.sm;have hm2:=hs.ts;have h1:=y7z k s.sm.length (by omega) (by omega);have h2:=qax s.ts (k+s.sm.length) (by omega) (by omega) (by omega);generalize (List.range s.ts.length).map (zgh (k+s.sm.length) s.ts)=M at *;generalize upto k s.sm.length=u at *;have n1 : ¬ k+(s.sm.length:Int)<0:=by omega
 have n2 : ¬ k+(s.sm.length:Int)+5*zba s.ts<0:=by omega
 refine zae rfl rfl ?_;simp [-getElem?_pos,zzg,zyz,h1,h2,n1,n2]
theorem ynv {tr:List Nd} : ∀ {ps:List Int} {rs:List (List Int)} {q:List Int},zd8 tr ps rs=some q->q.length<=ps.length
 | [],rs,q,h=>by simp [zd8] at h; subst h; simp
 | p::ps,[],q,h=>by simp [zd8] at h; subst h; simp
 | p::ps,r::rs,q,h=>by
  rw [zd8] at h;split at h
  ·simp only [bB] at h;obtain ⟨q',h2,rfl⟩:=h;have:=ynv h2;simp only [List.length_cons]; omega
  ·cases h
theorem qhf {t:Ta} {c v:List (List Int)} {cfg:Cfg} {s:Sta}:(zkp t c v cfg s).1.length<=32:=by
 unfold zkp;split
 ·exact Nat.le_trans (yep _ _) (yb6 _ _ _ _)
 ·simp
theorem qdo {t:Ta} {c v:List (List Int)} {cfg:Cfg} {s:Sta} (hs:zfg 1048576 s) (hl:zkx s+zf8 t<=1048576):zfg 1048576 (zc7 t c v cfg s).1/\zba (zc7 t c v cfg s).1.ts<=1048608:=by
 have no:zfg 1048576 noS/\zba noS.ts<=1048608:=⟨⟨by simp [noS],by simp [noS],by simp [noS]⟩,by simp [noS,zba]⟩;have htt:zf8 t=zeb t.ns+t.nm.size+tot t.rw+t.lb.length:=rfl;have htn:zeb t.ns=t.ns.length+szs t.ns:=rfl;have hts:zkx s=s.sm.length+zf1 s.ts:=rfl;have htl:zf1 s.ts=s.ts.length+zba s.ts:=rfl;unfold zc7;split
 ·rename_i ht;have:=zxr ht.1;unfold zus;split
  ·unfold zi0;cases e:zd8 (zkp t c v cfg s).1 s.sm t.rw with
   | none=>exact no
   | some p =>
    have h1:=ynv e;have h2:=qhf (t:=t) (c:=c) (v:=v) (cfg:=cfg) (s:=s);refine ⟨⟨by simp only; omega,by simp; omega,fun x hx => ?_⟩,?_⟩
    ·rcases List.mem_append.mp hx with hx | hx
     ·exact hs.tl x hx
     ·simp at hx; subst hx; omega
    ·have:zba (s.ts++[(zkp t c v cfg s).1])=zba s.ts+(zkp t c v cfg s).1.length:=by simp [zba]
     simp only;omega
  ·exact no
 ·exact no
theorem qb3 (t:Ta) (gc gv:List (List Int)) (c:Cfg) (s:Sta) (ht:TaL 9223372036854775807 t) (hi : ∀ x∈t.lb,inI x) (hgl:gc.length<=9223372036854775807) (hvl:gv.length<=9223372036854775807) (hgc : ∀ l∈gc,l.length<=9223372036854775807) (hgv : ∀ l∈gv,l.length<=9223372036854775807) (hc:c.sg.length<=9223372036854775807) (hs:zfg 9223372036854775807 s) (hsi : ∀ x∈s.sm,inI x):RUN T zvc [taS false t,.agg [.sl 1 (rws false gc),.sl 1 (rws false gv)],zb6 c,stS false s]=some ([bv true],[]):=by
 have s1:=y87 false t 1048576 (by omega) (by omega) ht;have s4:=fun h0 h1=>y8k false gc gv (1048576-zf8 t) h0 h1 hgl hvl hgc hgv;have s2:=fun h0 h1=>y8d c (1048576-zf8 t-tot gc-tot gv) h0 h1 hc;have s3:=fun h0 h1=>y9a false s (1048576-zf8 t-tot gc-tot gv-c.sg.length) h0 h1 hs;have htt:zf8 t=zeb t.ns+t.nm.size+tot t.rw+t.lb.length:=rfl;have htr:tot t.rw=t.rw.length+za7 t.rw:=rfl;have hgct:tot gc=gc.length+za7 gc:=rfl;have hgvt:tot gv=gv.length+za7 gv:=rfl;have hts:zkx s=s.sm.length+zf1 s.ts:=rfl;have htl:zf1 s.ts=s.ts.length+zba s.ts:=rfl
 by_cases d1:(1048576:Int)-zf8 t<0
 ·rw [if_pos d1] at s1;simp only [taS,zb6,stS] at *;refine zae rfl rfl ?_;simp [zl3,zl4,s1]
 rw [if_neg d1] at s1;have s4:=s4 (by omega) (by omega)
 by_cases d4:(1048576:Int)-zf8 t-tot gc-tot gv<0
 ·rw [if_pos d4] at s4;simp only [taS,zb6,stS] at *;refine zae rfl rfl ?_;simp [zl3,zl4,s1,s4,d1]
 rw [if_neg d4] at s4;have s2:=s2 (by omega) (by omega)
 by_cases d2:(1048576:Int)-zf8 t-tot gc-tot gv-c.sg.length<0
 ·rw [if_pos d2] at s2;simp only [taS,zb6,stS] at *;refine zae rfl rfl ?_;simp [zl3,zl4,s1,s4,s2,d1,d4]
 rw [if_neg d2] at s2;have s3:=s3 (by omega) (by omega)
 by_cases d3:(1048576:Int)-zf8 t-tot gc-tot gv-c.sg.length-zkx s<0
 ·rw [if_pos d3] at s3;simp only [taS,zb6,stS] at *;refine zae rfl rfl ?_;simp [zl3,zl4,s1,s4,s2,s3,d1,d4,d2]
 rw [if_neg d3] at s3;have ht1:TaL 1048576 t:=TaL.of (by omega);have hs1:zfg 1048576 s:=zfg.of (by omega);have hgc1 : ∀ l∈gc,l.length<=1048576:=fun l hl=>by have:=ydz hl; omega
 have hgv1 : ∀ l∈gv,l.length<=1048576:=fun l hl=>by have:=ydz hl; omega
 have t1:=y88 false t ht1;have t2:=y8e c (by omega);have t3:=y9b false s hs1;have t4:=y8l false gc gv (by omega) (by omega) hgc1 hgv1;have a1:=qbi true true true t gc gv c s ht1 hi (by omega) hgc1 (by omega) hgv1 (by omega) hs1 hsi;have a2:=qbj true true true t gc gv c s ht1 hi (by omega) hgc1 (by omega) hgv1 (by omega) hs1 hsi;have q1:=y89 true true t ht;have q2:=y8f c hc;have q3:=ymk true true s hs;have q5:=y8m true true gc gv hgl hvl hgc hgv;obtain ⟨hL,hlt⟩:=qdo (t:=t) (c:=gc) (v:=gv) (cfg:=c) hs1 (by omega);have q4:=ymk true true (zc7 t gc gv c s).1 ⟨Nat.le_trans hL.sm (by omega),Nat.le_trans hL.ts (by omega),fun x hx=>Nat.le_trans (hL.tl x hx) (by omega)⟩;obtain ⟨t',ht1',ht2',ht3',m1⟩:=qay t 1 (by omega) (by omega) ht1 (by omega);obtain ⟨gc',gv',hg1',hg2',m6⟩:=y9g gc gv (1+t.ns.length+za7 t.rw+t.lb.length) (by omega) (by have:=ht1.ns; have:=ht1.lb; omega) hgl hvl;have m2:=qal c (1+t.ns.length+za7 t.rw+t.lb.length+za7 gc+za7 gv) (by omega) (by have:=ht1.ns; have:=ht1.lb; omega);obtain ⟨s',hs1',hs2',m3⟩:=qaz s (1+t.ns.length+za7 t.rw+t.lb.length+za7 gc+za7 gv+c.sg.length) (by omega) (by have:=ht1.ns; have:=ht1.lb; omega) hs1 (by omega);have m4:=qbk (zc7 t gc gv c s).1 1 (by omega) (by omega) hL hlt;have m5:=qbl (zc7 t gc gv c s).1 1 (by omega) (by omega) hL hlt;have n1 : ¬ (1+(t.ns.length:Int)+za7 t.rw+t.lb.length+za7 gc+za7 gv+c.sg.length+s.sm.length+5*zba s.ts<0):=by omega
 have n2 : ¬ (1+((zc7 t gc gv c s).1.sm.length:Int)+5*zba (zc7 t gc gv c s).1.ts<0):=by omega
 generalize zc7 t gc gv c s=g at *;obtain ⟨g,gb⟩:=g;simp only at a1 a2 q4 m4 m5 n2 hL hlt;have w2:(upto 1 g.sm.length).length=g.sm.length:=by simp [upto]
 generalize upto 1 g.sm.length=B at *;have w3:((List.range g.ts.length).map (zgh (1+g.sm.length) g.ts)).length=g.ts.length:=by simp
 generalize (List.range g.ts.length).map (zgh (1+g.sm.length) g.ts)=C at *;have w4:(upto (1+(t.ns.length:Int)+za7 t.rw+t.lb.length+za7 gc+za7 gv) c.sg.length).length=c.sg.length:=by simp [upto]
 generalize upto (1+(t.ns.length:Int)+za7 t.rw+t.lb.length+za7 gc+za7 gv) c.sg.length=D at *;simp only [taS,taO,zb6,z9f,stS,stO] at *;refine zae rfl rfl ?_;cases gb <;> simp [zl3,zl4,s1,s2,s3,s4,t1,t2,t3,t4,a1,a2,q1,q2,q3,q4,q5,m1,m2,m3,m4,m5,m6,d1,d2,d3,d4,n1,n2,ht1',ht2',ht3',hg1',hg2',hs1',hs2',w2,w3,w4]
end Go.Pe
