/- What each function answers by the evaluator,and the law; for each answer its own conditions stand ahead of it. -/
import Derived.Test.YtadpenaldhkjcaaGreatC0
import Derived.Test.YtadpenaldhkjcaaGreatEvB2
import Derived.IntWalk
set_option linter.all false
namespace Go.Pe
open Go
set_option maxHeartbeats 4000000 in
set_option maxRecDepth 4000 in
theorem yu1 (q:Bool) (H:List (List Sl)) (least:Int) (hH:H.length≤16) (hl : ∀ l∈H,l.length≤16) (hi : ∀ l∈H,∀ x∈l,slI x):RUN T zo7 [.sl 1 (rss q H),iv least]=some ([.own 6 (zce (zer H least))],[]):=by
 obtain ⟨R,hR⟩ : ∃ R,R=zer H least:=⟨_,rfl⟩
 have hR':R=(zed least 0 H []).getD []:=hR
 rw [← hR]
 clear hR
 have hr0:zak 48 0=true:=by decide
 have hr1:zak 48 1=true:=by decide
 refine zag z8b rfl ?_
 simp [-getElem?_pos,zwm,zwn,hr0]
 refine za4 (fun n st => ∃ (i o e:Nat) (acc:List Cnd),i+n=H.length∧acc.length≤16*i∧zed least i (H.drop i) acc=zed least 0 H []∧st.V 1=iv least∧st.V 5 = .ref o none e 0 acc.length∧st.V 14 = .sl 1 (rss q H)∧st.V 15=iv H.length∧st.V 16=iv i∧o<st.nx∧st.S o=some (.row 6 (zce acc))) ?_ H.length _ ⟨0,0,0,[],by omega,by simp,by simp,by simp,by simp,by simp,by simp,by simp,by simp,by simp [zce]⟩
 rintro n st ⟨i,o,ep,acc,hin,hacc,hF,v1,v5,v14,v15,v16,hox,hSo⟩
 obtain ⟨x1,x2,x3,x4⟩:=fr hox
 by_cases hlt:i<H.length
 ·obtain ⟨l,hx⟩ : ∃ x,H[i]?=some x:=⟨_,List.getElem?_eq_getElem hlt⟩
  have hx':=yj6 (q:=q) hx
  have hlm:=List.mem_of_getElem? hx
  have hws:=wS hlt (by omega:H.length≤9223372036854775807)
  have hll:=hl l hlm
  have e1:=yuz l (by omega) (hi l hlm)
  obtain ⟨p1,p2,p3⟩:=z57 l
  rw [z15 acc hx] at hF
  generalize zcf l=p at *
  obtain ⟨sums,pb⟩:=p
  simp only at e1 p1 p2 p3 hF
  cases pb with
  | false =>
   rw [if_neg (by simp)] at hF
   rw [← hF] at hR'
   subst hR'
   simp [-getElem?_pos,zwl,v1,v5,v14,v15,v16,hlt,hx',hSo,e1,x1,x2,x3,x4]
   simp [zce]
  | true =>
   rw [if_pos rfl] at hF
   have p3:=p3 rfl
   simp [-getElem?_pos,zwl,v1,v5,v14,v15,v16,hlt,hx',hSo,e1,x1,x2,x3,x4]
   obtain ⟨tgt,htgt⟩ : ∃ t,t=zfh i (zgh sums) least 0 sums acc:=⟨_,rfl⟩
   rw [← htgt] at hF
   obtain ⟨p,hpe⟩ : ∃ p,p=st.nx:=⟨_,rfl⟩
   refine za4 (fun n' s => ∃ (b o' e':Nat) (acc':List Cnd),b+n'=sums.length∧acc'.length≤16*i+b∧zfh i (zgh sums) least b (sums.drop b) acc'=tgt∧s.V 1=iv least∧s.V 5 = .ref o' none e' 0 acc'.length∧s.V 6=iv i∧s.V 8 = .ref p none st.ep 0 sums.length∧s.V 10=iv b∧s.V 14 = .sl 1 (rss q H)∧s.V 15=iv H.length∧s.V 16=iv i∧¬ o'=p∧o'<s.nx∧p<s.nx∧s.S o'=some (.row 6 (zce acc'))∧s.S p=some (.row 2 (zbh sums))) ?_ sums.length _ ⟨0,o,ep,acc,by omega,by omega,by rw [htgt]; simp,by simp [v1],by simp [v5],by simp,by simp [hpe],by simp,by simp [v14],by simp [v15],by simp [v16],by omega,by simp; omega,by simp; omega,by simp [x1,x2,x3,x4,hSo],by simp [hpe]⟩
   clear v1 v5 v14 v15 v16 hox hSo x1 x2 x3 x4
   generalize st.ep=ep2
   rintro n' s ⟨b,o',e',acc',hbn,hacc',hB,v1,v5,v6,v8,v10,v14,v15,v16,hop,hox,hpx,hSo,hSp⟩
   obtain ⟨x1,x2,x3,x4⟩:=fr hox
   obtain ⟨z1,z2,z3,z4⟩:=fr hpx
   obtain ⟨a1,a2,a3,a4⟩:=fr (show o'<s.nx+1 by omega)
   obtain ⟨c1,c2,c3,c4⟩:=fr (show p<s.nx+1 by omega)
   have hpo : ¬ p=o':=fun e=>hop e.symm
   by_cases hb:b+1<sums.length
   ·obtain ⟨x,hx⟩ : ∃ x,sums[b]?=some x:=⟨_,List.getElem?_eq_getElem (by omega)⟩
    obtain ⟨y,hy⟩ : ∃ x,sums[sums.length-1]?=some x:=⟨_,List.getElem?_eq_getElem (by omega)⟩
    have hxs:=zli hx
    have hys:=zli hy
    have hly:=yio hy
    have w1:IntKind.i64.wrap ((sums.length:Int)-1)=((sums.length-1:Nat):Int):=by rw [w64 (by omega) (by omega)]; omega
    have w2:=w64 (x:=(b:Int)+1) (by omega) (by omega)
    have k1:b<sums.length-1:=by omega
    have k2:b<sums.length:=by omega
    have k3:sums.length-1<sums.length:=by omega
    have hr48:zak 48 (acc'.length+1)=true:=by simp [zak]; omega
    have e2:=yuy y x (p2 y (List.mem_of_getElem? hy)) (p2 x (List.mem_of_getElem? hx))
    rw [z23 acc' hx hb,hly] at hB
    generalize zex y x=d at *
    obtain ⟨⟨dn,dg⟩,db⟩:=d
    simp only [slc] at e2 hB
    cases db with
    | false =>
     rw [if_neg (by simp)] at hB
     rw [← hB] at hF
     simp only at hF
     rw [← hF] at hR'
     simp only [Option.getD_none] at hR'
     subst hR'
     simp [-getElem?_pos,zqx,v1,v5,v6,v8,v10,v14,v15,v16,hSo,hSp,hxs,hys,w1,k1,k2,k3,e2,hop,hpo,x1,x2,x3,x4,z1,z2,z3,z4]
     simp [zce]
    | true =>
     rw [if_pos rfl] at hB
     by_cases g1:least≤x.n
     ·by_cases g2:least≤dn
      ·rw [if_pos ⟨g1,g2⟩] at hB
       have hsn:=ydn acc' ⟨i,b,x,⟨dn,dg⟩⟩
       simp only at hsn
       simp [-getElem?_pos,zqx,v1,v5,v6,v8,v10,v14,v15,v16,hSo,hSp,hxs,hys,w1,w2,k1,k2,k3,e2,g1,g2,hr1,hr48,hsn,hop,hpo,x1,x2,x3,x4,z1,z2,z3,z4,a1,a2,a3,a4,c1,c2,c3,c4]
       refine zam (n'-1) (by omega) ⟨b+1,s.nx+2,s.ep,acc'++[⟨i,b,x,⟨dn,dg⟩⟩],by omega,by simp; omega,by rw [hly]; exact hB,by simp [v1],by simp,by simp [v6],by simp [v8],by simp,by simp [v14],by simp [v15],by simp [v16],by omega,by simp,by simp; omega,by simp,by simp [hop,hpo,x1,x2,x3,x4,z1,z2,z3,z4,hSp]⟩
      ·rw [if_neg (fun h=>g2 h.2)] at hB
       simp [-getElem?_pos,zqx,v1,v5,v6,v8,v10,v14,v15,v16,hSo,hSp,hxs,hys,w1,w2,k1,k2,k3,e2,g1,g2,hop,hpo,x1,x2,x3,x4,z1,z2,z3,z4]
       refine zam (n'-1) (by omega) ⟨b+1,o',e',acc',by omega,by omega,by rw [hly]; exact hB,by simp [v1],by simp [v5],by simp [v6],by simp [v8],by simp,by simp [v14],by simp [v15],by simp [v16],hop,by simp; omega,by simp; omega,by simp [x1,x2,x3,x4,hSo],by simp [z1,z2,z3,z4,hSp]⟩
     ·rw [if_neg (fun h=>g1 h.1)] at hB
      simp [-getElem?_pos,zqx,v1,v5,v6,v8,v10,v14,v15,v16,hSo,hSp,hxs,hys,w1,w2,k1,k2,k3,e2,g1,hop,hpo,x1,x2,x3,x4,z1,z2,z3,z4]
      refine zam (n'-1) (by omega) ⟨b+1,o',e',acc',by omega,by omega,by rw [hly]; exact hB,by simp [v1],by simp [v5],by simp [v6],by simp [v8],by simp,by simp [v14],by simp [v15],by simp [v16],hop,by simp; omega,by simp; omega,by simp [x1,x2,x3,x4,hSo],by simp [z1,z2,z3,z4,hSp]⟩
   ·rw [zr2 acc' hb] at hB
    rw [← hB] at hF
    simp only at hF
    have w1:IntKind.i64.wrap ((sums.length:Int)-1)=(sums.length:Int)-1:=w64 (by omega) (by omega)
    have k1 : ¬ (b:Int)<(sums.length:Int)-1:=by omega
    simp [-getElem?_pos,zqx,v8,v10,v16,hSp,w1,k1,hws]
    exact zam (n-1) (by omega) ⟨i+1,o',e',acc',by omega,by omega,hF,by simp [v1],by simp [v5],by simp [v14],by simp [v15],by simp,by simp [hox],by simp [hSo]⟩
 ·rw [List.drop_eq_nil_of_le (by omega),zed] at hF
  rw [← hF] at hR'
  simp only [Option.getD_some] at hR'
  subst hR'
  simp [-getElem?_pos,zwl,v5,v15,v16,hlt,hSo]
set_option maxHeartbeats 4000000 in
set_option maxRecDepth 4000 in
theorem yu2 (q:Bool) (H:List (List Sl)) (least:Int) (hH:H.length≤16) (hl : ∀ l∈H,l.length≤16) (hi : ∀ l∈H,∀ x∈l,slI x):RUN T zpa [.sl 1 (rss q H),iv least]=some ([.own 6 (zce (zer H least))],[]):=by
 obtain ⟨R,hR⟩ : ∃ R,R=zer H least:=⟨_,rfl⟩
 have hR':R=(zed least 0 H []).getD []:=hR
 rw [← hR]
 clear hR
 have hr0:zak 48 0=true:=by decide
 have hr1:zak 48 1=true:=by decide
 refine zag z8e rfl ?_
 simp [-getElem?_pos,zws,zwt,hr0]
 refine za4 (fun n st => ∃ (i o e:Nat) (acc:List Cnd),i+n=H.length∧acc.length≤16*i∧zed least i (H.drop i) acc=zed least 0 H []∧st.V 1=iv least∧st.V 5 = .ref o none e 0 acc.length∧st.V 0 = .sl 1 (rss q H)∧st.V 6=iv i∧o<st.nx∧st.S o=some (.row 6 (zce acc))) ?_ H.length _ ⟨0,0,0,[],by omega,by simp,by simp,by simp,by simp,by simp,by simp,by simp,by simp [zce]⟩
 rintro n st ⟨i,o,ep,acc,hin,hacc,hF,v1,v5,v0,v6,hox,hSo⟩
 obtain ⟨x1,x2,x3,x4⟩:=fr hox
 by_cases hlt:i<H.length
 ·obtain ⟨l,hx⟩ : ∃ x,H[i]?=some x:=⟨_,List.getElem?_eq_getElem hlt⟩
  have hx':=yj6 (q:=q) hx
  have hlm:=List.mem_of_getElem? hx
  have hws:=wS hlt (by omega:H.length≤9223372036854775807)
  have hll:=hl l hlm
  have e1:=yu0 l (by omega) (hi l hlm)
  obtain ⟨p1,p2,p3⟩:=z57 l
  rw [z15 acc hx] at hF
  generalize zcf l=p at *
  obtain ⟨sums,pb⟩:=p
  simp only at e1 p1 p2 p3 hF
  cases pb with
  | false =>
   rw [if_neg (by simp)] at hF
   rw [← hF] at hR'
   subst hR'
   simp [-getElem?_pos,zwr,v0,v1,v5,v6,hlt,hx',hSo,e1,hr0,x1,x2,x3,x4]
   simp [zce]
  | true =>
   rw [if_pos rfl] at hF
   have p3:=p3 rfl
   simp [-getElem?_pos,zwr,v0,v1,v5,v6,hlt,hx',hSo,e1,hr0,x1,x2,x3,x4]
   obtain ⟨tgt,htgt⟩ : ∃ t,t=zfh i (zgh sums) least 0 sums acc:=⟨_,rfl⟩
   rw [← htgt] at hF
   obtain ⟨p,hpe⟩ : ∃ p,p=st.nx:=⟨_,rfl⟩
   refine za4 (fun n' s => ∃ (b o' e':Nat) (acc':List Cnd),b+n'=sums.length∧acc'.length≤16*i+b∧zfh i (zgh sums) least b (sums.drop b) acc'=tgt∧s.V 0 = .sl 1 (rss q H)∧s.V 1=iv least∧s.V 5 = .ref o' none e' 0 acc'.length∧s.V 6=iv i∧s.V 7 = .ref p none st.ep 0 sums.length∧s.V 9=iv b∧¬ o'=p∧o'<s.nx∧p<s.nx∧s.S o'=some (.row 6 (zce acc'))∧s.S p=some (.row 2 (zbh sums))) ?_ sums.length _ ⟨0,o,ep,acc,by omega,by omega,by rw [htgt]; simp,by simp [v0],by simp [v1],by simp [v5],by simp [v6],by simp [hpe],by simp,by omega,by simp; omega,by simp; omega,by simp [x1,x2,x3,x4,hSo],by simp [hpe]⟩
   clear v0 v1 v5 v6 hox hSo x1 x2 x3 x4
   generalize st.ep=ep2
   rintro n' s ⟨b,o',e',acc',hbn,hacc',hB,v0,v1,v5,v6,v7,v9,hop,hox,hpx,hSo,hSp⟩
   obtain ⟨x1,x2,x3,x4⟩:=fr hox
   obtain ⟨z1,z2,z3,z4⟩:=fr hpx
   obtain ⟨a1,a2,a3,a4⟩:=fr (show o'<s.nx+1 by omega)
   obtain ⟨c1,c2,c3,c4⟩:=fr (show p<s.nx+1 by omega)
   have hpo : ¬ p=o':=fun e=>hop e.symm
   by_cases hb:b+1<sums.length
   ·obtain ⟨x,hx⟩ : ∃ x,sums[b]?=some x:=⟨_,List.getElem?_eq_getElem (by omega)⟩
    obtain ⟨y,hy⟩ : ∃ x,sums[sums.length-1]?=some x:=⟨_,List.getElem?_eq_getElem (by omega)⟩
    have hxs:=zli hx
    have hys:=zli hy
    have hly:=yio hy
    have w1:IntKind.i64.wrap ((sums.length:Int)-1)=((sums.length-1:Nat):Int):=by rw [w64 (by omega) (by omega)]; omega
    have w2:=w64 (x:=(b:Int)+1) (by omega) (by omega)
    have k1:(b:Int)+1<(sums.length:Int):=by omega
    have k2:b<sums.length:=by omega
    have k3:sums.length-1<sums.length:=by omega
    have hr48:zak 48 (acc'.length+1)=true:=by simp [zak]; omega
    have e2:=yb7 y.n x.n (p2 y (List.mem_of_getElem? hy)).1 (p2 x (List.mem_of_getElem? hx)).1
    have e3:=yb7 y.g x.g (p2 y (List.mem_of_getElem? hy)).2 (p2 x (List.mem_of_getElem? hx)).2
    rw [z23 acc' hx hb,hly] at hB
    unfold zex at hB
    generalize sbi y.n x.n=d at *
    generalize sbi y.g x.g=d' at *
    obtain ⟨dn,db⟩:=d
    obtain ⟨dg,db'⟩:=d'
    simp only at e2 e3 hB
    obtain ⟨dd,hdd⟩ : ∃ dd,dd=(db && db'):=⟨_,rfl⟩
    rw [← hdd] at hB
    cases dd with
    | false =>
     simp only [Bool.false_eq_true,if_false] at hB
     rw [← hB] at hF
     simp only at hF
     rw [← hF] at hR'
     simp only [Option.getD_none] at hR'
     subst hR'
     cases db with
     | false =>
      simp [-getElem?_pos,zne,v0,v1,v5,v6,v7,v9,hSo,hSp,hxs,hys,w1,w2,k1,k2,k3,e2,e3,hr0,hop,hpo,x1,x2,x3,x4,z1,z2,z3,z4,a1,a2,a3,a4,c1,c2,c3,c4]
      simp [zce]
     | true =>
      have hd2:db'=false:=by simpa using hdd.symm
      subst hd2
      simp [-getElem?_pos,zne,v0,v1,v5,v6,v7,v9,hSo,hSp,hxs,hys,w1,w2,k1,k2,k3,e2,e3,hr0,hop,hpo,x1,x2,x3,x4,z1,z2,z3,z4,a1,a2,a3,a4,c1,c2,c3,c4]
      simp [zce]
    | true =>
     obtain ⟨hd1,hd2⟩:db=true∧db'=true:=by simpa using hdd.symm
     subst hd1 hd2
     simp only [if_true] at hB
     by_cases g1:least≤x.n
     ·by_cases g2:least≤dn
      ·rw [if_pos ⟨g1,g2⟩] at hB
       have hsn:=ydn acc' ⟨i,b,x,⟨dn,dg⟩⟩
       simp only at hsn
       simp [-getElem?_pos,zne,v0,v1,v5,v6,v7,v9,hSo,hSp,hxs,hys,w1,w2,k1,k2,k3,e2,e3,hr0,hop,hpo,x1,x2,x3,x4,z1,z2,z3,z4,a1,a2,a3,a4,c1,c2,c3,c4,g1,g2,hr1,hr48,hsn]
       refine zam (n'-1) (by omega) ⟨b+1,s.nx+2,s.ep,acc'++[⟨i,b,x,⟨dn,dg⟩⟩],by omega,by simp; omega,by rw [hly]; exact hB,by simp [v0],by simp [v1],by simp,by simp [v6],by simp [v7],by simp,by omega,by simp,by simp; omega,by simp,by simp [hop,hpo,x1,x2,x3,x4,z1,z2,z3,z4,hSp]⟩
      ·rw [if_neg (fun h=>g2 h.2)] at hB
       simp [-getElem?_pos,zne,v0,v1,v5,v6,v7,v9,hSo,hSp,hxs,hys,w1,w2,k1,k2,k3,e2,e3,hr0,hop,hpo,x1,x2,x3,x4,z1,z2,z3,z4,a1,a2,a3,a4,c1,c2,c3,c4,g1,g2]
       refine zam (n'-1) (by omega) ⟨b+1,o',e',acc',by omega,by omega,by rw [hly]; exact hB,by simp [v0],by simp [v1],by simp [v5],by simp [v6],by simp [v7],by simp,hop,by simp; omega,by simp; omega,by simp [x1,x2,x3,x4,hSo],by simp [z1,z2,z3,z4,hSp]⟩
     ·rw [if_neg (fun h=>g1 h.1)] at hB
      simp [-getElem?_pos,zne,v0,v1,v5,v6,v7,v9,hSo,hSp,hxs,hys,w1,w2,k1,k2,k3,e2,e3,hr0,hop,hpo,x1,x2,x3,x4,z1,z2,z3,z4,a1,a2,a3,a4,c1,c2,c3,c4,g1]
      refine zam (n'-1) (by omega) ⟨b+1,o',e',acc',by omega,by omega,by rw [hly]; exact hB,by simp [v0],by simp [v1],by simp [v5],by simp [v6],by simp [v7],by simp,hop,by simp; omega,by simp; omega,by simp [x1,x2,x3,x4,hSo],by simp [z1,z2,z3,z4,hSp]⟩
   ·rw [zr2 acc' hb] at hB
    rw [← hB] at hF
    simp only at hF
    have w1:IntKind.i64.wrap ((sums.length:Int)-1)=(sums.length:Int)-1:=w64 (by omega) (by omega)
    have w2:=w64 (x:=(b:Int)+1) (by omega) (by omega)
    have k1 : ¬ (b:Int)+1<(sums.length:Int):=by omega
    simp [-getElem?_pos,zne,v6,v7,v9,hSp,w2,k1,hws]
    exact zam (n-1) (by omega) ⟨i+1,o',e',acc',by omega,by omega,hF,by simp [v1],by simp [v5],by simp [v0],by simp,by simp [hox],by simp [hSo]⟩
 ·rw [List.drop_eq_nil_of_le (by omega),zed] at hF
  rw [← hF] at hR'
  simp only [Option.getD_some] at hR'
  subst hR'
  simp [-getElem?_pos,zwr,v0,v5,v6,hlt,hSo]
def za2 (c v:List (List Int)) (g:List Int) (cfg:Cfg) (rows:List Int) (b:Bd):Cnd×Bool:=if zd7 c v g cfg=true then (if (zb1 c v g rows).2=true then zdb cfg b (zer (zb1 c v g rows).1 cfg.rw) else (zhh,false)) else (zhh,false)
theorem yfo {b g:List Int} : ∀ (rows:List Int) (h h':List Sl),(∀ x∈h,slI x)→zb3 b g rows h=some h'→∀ x∈h',slI x
 | [],h,h',hh,e=>by simp [zb3] at e; subst e; exact hh
 | r::rs,h,h',hh,e=>by
  simp only [zb3] at e
  split at e
  ·split at e
   ·rename_i s hs
    split at e
    ·refine yfo rs _ _ (fun x hx => ?_) e
     rcases List.mem_or_eq_of_mem_set hx with h1 | h1
     ·exact hh x h1
     ·subst h1
      obtain ⟨_,_,h3,_⟩:=ze0 hs
      exact zly (hh _ (List.mem_of_getElem? h3))
    ·cases e
   ·cases e
  ·cases e
theorem yz0 (b g rows:List Int) (k:Int) : ∀ x∈(zb8 b g rows k).1,slI x:=by
 unfold zb8
 split
 ·cases h:zb3 b g rows (List.replicate k.toNat ⟨0,0⟩) with
  | none=>simp
  | some h'=>exact yfo _ _ _ (fun x hx=>by rw [List.eq_of_mem_replicate hx]; exact z1v) h
 ·simp
theorem ygu {g rows:List Int} : ∀ (c v:List (List Int)) (H:List (List Sl)),zcg g rows c v=some H→∀ l∈H,∀ x∈l,slI x
 | [],v,H,h=>by simp [zcg] at h; subst h; simp
 | x::c,[],H,h=>by simp [zcg] at h; subst h; simp
 | x::c,y::v,H,h=>by
  simp only [zcg] at h
  split at h
  ·simp only [Option.map_eq_some_iff] at h
   obtain ⟨H',h1,rfl⟩:=h
   intro l hl
   rcases List.mem_cons.mp hl with e | e
   ·subst e; exact yz0 _ _ _ _
   ·exact ygu c v H' h1 l e
  ·cases h
theorem ye5 (c v:List (List Int)) (g rows:List Int) : ∀ l∈(zb1 c v g rows).1,∀ x∈l,slI x:=by
 unfold zb1
 split
 ·cases h:zcg g rows c v with
  | none=>simp
  | some H=>exact ygu c v H h
 ·simp
theorem z2p (c v:List (List Int)) (g rows:List Int):(zb1 c v g rows).1.length≤4:=by
 by_cases h:zdl c v=true
 ·have:=(zsg c v g rows).1
  have:=zrp h
  omega
 ·unfold zb1
  rw [if_neg h]; simp
theorem yhy (c v:List (List Int)) (g rows:List Int) (least:Int):(zer (zb1 c v g rows).1 least).length≤1048576∧∀ x∈zer (zb1 c v g rows).1 least,zeb x:=by
 have h1:=z2p c v g rows
 have h2:=(zsg c v g rows).2
 obtain ⟨h3,h4⟩:=yda (least:=least) h2
 exact ⟨by omega,fun x hx=>yjz (by omega) (fun l hl=>Nat.le_trans (h2 l hl) (by omega)) (h4 x hx)⟩
set_option maxHeartbeats 1000000 in
theorem yu3 (q:Bool) (c v:List (List Int)) (g:List Int) (cfg:Cfg) (rows:List Int) (b:Bd) (hc : ∀ l∈c,l.length≤1048576) (hv : ∀ l∈v,l.length≤1048576) (hg:g.length≤1048576) (hr:rows.length≤1048576) (hs:cfg.sg.length≤1048576) (hgi : ∀ x∈g,inI x):RUN T zor [.agg [.sl 1 (rws q c),.sl 1 (rws q v)],.sl 1 (zac g),cfS cfg,.sl 1 (zac rows),.agg (bnd b)]=some ([.agg (cnd (za2 c v g cfg rows b).1),bv (za2 c v g cfg rows b).2],[]):=by
 have e1:=z3z q c v g cfg (fun l hl=>Nat.le_trans (hc l hl) (by omega)) (fun l hl=>Nat.le_trans (hv l hl) (by omega)) (by omega) (by omega)
 have e2:=yuc q c v g rows hc hv hg hr hgi
 obtain ⟨f1,f2⟩:=yhy c v g rows cfg.rw
 have e3:=yu1 true (zb1 c v g rows).1 cfg.rw (by have:=z2p c v g rows; omega) (fun l hl=>by have:=(zsg c v g rows).2 l hl; omega) (ye5 c v g rows)
 have e4:=yuu cfg b (zer (zb1 c v g rows).1 cfg.rw) f1 hs f2
 unfold za2
 simp only [zf4,bnd] at e1 e4
 generalize zd7 c v g cfg=t at *
 generalize zb1 c v g rows=H at *
 obtain ⟨H,hb⟩:=H
 simp only at e2 e3 e4 ⊢
 generalize zdb cfg b (zer H cfg.rw)=r at *
 generalize zer H cfg.rw=L at *
 obtain ⟨r,rb⟩:=r
 simp only [cnd] at e4 ⊢
 refine zag z7t rfl ?_
 cases t with
 | false=>simp [-getElem?_pos,zqr,zqs,bnd,e1,zhh]
 | true =>
  cases hb with
  | false=>simp [-getElem?_pos,zqr,zqs,bnd,e1,e2,zhh]
  | true =>
   simp [-getElem?_pos,zqr,zqs,bnd,e1,e2,e3,e4]
set_option maxHeartbeats 1000000 in
theorem yu4 (q:Bool) (c v:List (List Int)) (g:List Int) (cfg:Cfg) (rows:List Int) (b:Bd) (hc : ∀ l∈c,l.length≤1048576) (hv : ∀ l∈v,l.length≤1048576) (hg:g.length≤1048576) (hr:rows.length≤1048576) (hs:cfg.sg.length≤1048576) (hgi : ∀ x∈g,inI x):RUN T zos [.agg [.sl 1 (rws q c),.sl 1 (rws q v)],.sl 1 (zac g),cfS cfg,.sl 1 (zac rows),.agg (bnd b)]=some ([.agg (cnd (za2 c v g cfg rows b).1),bv (za2 c v g cfg rows b).2],[]):=by
 have e1:=yb3 q c v g cfg (fun l hl=>Nat.le_trans (hc l hl) (by omega)) (fun l hl=>Nat.le_trans (hv l hl) (by omega)) (by omega) (by omega)
 have e2:=yud q c v g rows hc hv hg hr hgi
 obtain ⟨f1,f2⟩:=yhy c v g rows cfg.rw
 have e3:=yu2 true (zb1 c v g rows).1 cfg.rw (by have:=z2p c v g rows; omega) (fun l hl=>by have:=(zsg c v g rows).2 l hl; omega) (ye5 c v g rows)
 have e4:=yut cfg b (zer (zb1 c v g rows).1 cfg.rw) f1 hs f2
 unfold za2
 simp only [zf4,bnd] at e1 e4
 generalize zd7 c v g cfg=t at *
 generalize zb1 c v g rows=H at *
 obtain ⟨H,hb⟩:=H
 simp only at e2 e3 e4 ⊢
 generalize zdb cfg b (zer H cfg.rw)=r at *
 generalize zer H cfg.rw=L at *
 obtain ⟨r,rb⟩:=r
 simp only [cnd] at e4 ⊢
 refine zag z7u rfl ?_
 cases t with
 | false=>simp [-getElem?_pos,zqt,zqu,bnd,e1,zhh]
 | true =>
  cases hb with
  | false=>simp [-getElem?_pos,zqt,zqu,bnd,e1,e2,zhh]
  | true =>
   simp [-getElem?_pos,zqt,zqu,bnd,e1,e2,e3,e4]
def zat (g:List Int) (rows:List Int):Sl:=⟨rows.length,(rows.map fun r=>(atI g r).getD 0).sum⟩
def zh9 (bins:List Int) (b r:Int):Bool:=match atI bins r with
 | some x=>decide (x≤b)
 | none=>false
def zny (bins:List Int) (b r:Int):Bool:=match atI bins r with
 | some x => !decide (x≤b)
 | none=>false
def zaz (bins rows:List Int) (b:Int):List Int:=rows.filter (zh9 bins b)
def za7 (bins rows:List Int) (b:Int):List Int:=rows.filter (zny bins b)
structure Pnd where
 r:List Int
 b:Bd
 l:Int
def zc6 (c v:List (List Int)) (cfg:Cfg) (x:Pnd) (k:Cnd):Pnd:=⟨zaz ((atI v k.f).getD []) x.r k.b,(zej (zdm cfg k.f) x.b (zby cfg x.b k).1 (zby cfg x.b k).2.1).1,x.l+1⟩
def zda (c v:List (List Int)) (cfg:Cfg) (x:Pnd) (k:Cnd):Pnd:=⟨za7 ((atI v k.f).getD []) x.r k.b,(zej (zdm cfg k.f) x.b (zby cfg x.b k).1 (zby cfg x.b k).2.1).2,x.l+1⟩
def zcv (g:List Int) (cfg:Cfg) (x:Pnd):Nd:=⟨-1,0,0,0,(zdj (zat g x.r) cfg.la x.b).1⟩
def zfz (c:List (List Int)) (k:Cnd) (n:Nat):Nd:=⟨k.f,(atI ((atI c k.f).getD []) k.b).getD 0,n,n+1,0⟩
def goes (c v:List (List Int)) (g:List Int) (cfg:Cfg) (x:Pnd):Bool:=decide (x.l<cfg.de) && (za2 c v g cfg x.r x.b).2
def zcb (c v:List (List Int)) (g:List Int) (cfg:Cfg):Nat→List Pnd→Nat→List Nd→List Nd
 | 0,_,_,out=>out
 | n+1,q,i,out=>match q[i]? with
  | none=>out
  | some x=>if goes c v g cfg x=true then zcb c v g cfg n (q++[zc6 c v cfg x (za2 c v g cfg x.r x.b).1,zda c v cfg x (za2 c v g cfg x.r x.b).1]) (i+1) (out++[zfz c (za2 c v g cfg x.r x.b).1 q.length]) else zcb c v g cfg n q (i+1) (out++[zcv g cfg x])
def zki:Bd:=⟨-1099511627776,1099511627776⟩
def zbl (g:List Int):Pnd:=⟨(List.range g.length).map fun (i:Nat)=>(i:Int),zki,0⟩
def zc8 (c v:List (List Int)) (g:List Int) (cfg:Cfg):List Nd×Bool:=if zd7 c v g cfg=true then (zcb c v g cfg 32 [zbl g] 0 [],true) else ([],false)
def pot (d:Int) (x:Pnd):Nat:=2 ^ (d+1-x.l).toNat-1
def zee (d:Int) (l:List Pnd):Nat:=(l.map (pot d)).sum
theorem zgk (d:Int) (x:Pnd) (l:List Pnd):zee d (x::l)=pot d x+zee d l:=by simp [zee]
theorem z42 (d:Int) (l m:List Pnd):zee d (l++m)=zee d l+zee d m:=by simp [zee]
theorem zn2 {d:Int} {x:Pnd} (h:x.l≤d):1≤pot d x:=by
 unfold pot
 obtain ⟨k,hk⟩ : ∃ k,(d+1-x.l).toNat=k+1:=⟨(d-x.l).toNat,by omega⟩
 rw [hk,Nat.pow_succ]
 have:=Nat.one_le_two_pow (n:=k)
 omega
theorem z5i {d:Int} {x y z:Pnd} (h:x.l<d) (hy:y.l=x.l+1) (hz:z.l=x.l+1):pot d x=pot d y+pot d z+1:=by
 unfold pot
 rw [hy,hz]
 obtain ⟨k,hk⟩ : ∃ k,(d+1-x.l).toNat=k+1:=⟨(d-x.l).toNat,by omega⟩
 have hk2:(d+1-(x.l+1)).toNat=k:=by omega
 rw [hk,hk2,Nat.pow_succ]
 have:=Nat.one_le_two_pow (n:=k)
 omega
def zjs (n:Nat) (d:Int) (x:Pnd):Prop:=(∀ r∈x.r,0≤r∧r<n)∧x.r.length≤n∧0≤x.l∧x.l≤d
theorem z28 {bins rows:List Int} {b r:Int}:(r∈zaz bins rows b→r∈rows)∧(r∈za7 bins rows b→r∈rows):=⟨fun h=>(List.mem_filter.mp h).1,fun h=>(List.mem_filter.mp h).1⟩
theorem z13 {n:Nat} {c v:List (List Int)} {cfg:Cfg} {x:Pnd} {k:Cnd} (h:zjs n cfg.de x) (hl:x.l<cfg.de):zjs n cfg.de (zc6 c v cfg x k)∧zjs n cfg.de (zda c v cfg x k):=by
 obtain ⟨h1,h2,h3,h4⟩:=h
 refine ⟨⟨fun r hr=>h1 r (z28.1 hr),Nat.le_trans (List.length_filter_le _ _) h2,?_,?_⟩,⟨fun r hr=>h1 r (z28.2 hr),Nat.le_trans (List.length_filter_le _ _) h2,?_,?_⟩⟩
 ·show 0≤x.l+1; omega
 ·show x.l+1≤cfg.de; omega
 ·show 0≤x.l+1; omega
 ·show x.l+1≤cfg.de; omega
theorem zhi {c v:List (List Int)} {g:List Int} {cfg:Cfg} (h:zd7 c v g cfg=true):zdl c v=true∧zcn cfg=true∧g.length=zcl v∧(∀ x∈g,-2199023255552≤x∧x≤2199023255552):=by
 unfold zd7 at h
 simp only [Bool.and_eq_true,decide_eq_true_eq] at h
 exact ⟨h.1.1.1,h.1.1.2,by omega,fun x hx=>zax.mp (List.all_eq_true.mp h.2 x hx)⟩
theorem z1s {c v:List (List Int)} (h:zdl c v=true):1≤zcl v∧zcl v≤40:=by
 unfold zdl at h
 simp only [Bool.and_eq_true] at h
 have:=zax.mp h.1.2
 omega
theorem z56 {cfg:Cfg} (h:zcn cfg=true):(0≤cfg.de∧cfg.de≤4)∧cfg.sg.length≤4∧(1≤cfg.la∧cfg.la≤100):=by
 unfold zcn at h
 simp only [Bool.and_eq_true,decide_eq_true_eq] at h
 have h1:=zax.mp h.1.1.1.1.1.1.1.2
 have h2:=zax.mp h.1.1.1.1.1.2
 omega
theorem yy2 {c v:List (List Int)} {g:List Int} {cfg:Cfg} {rows:List Int} {b:Bd} (h:(za2 c v g cfg rows b).2=true):zrz (zb1 c v g rows).1 (za2 c v g cfg rows b).1∧(zb1 c v g rows).2=true:=by
 unfold za2 at h ⊢
 split
 ·rename_i h1
  rw [if_pos h1] at h
  split
  ·rename_i h2
   rw [if_pos h2] at h
   obtain ⟨h3,_,_⟩:=z60 h
   exact ⟨(yda (zsg c v g rows).2).2 _ h3,h2⟩
  ·rename_i h2
   rw [if_neg h2] at h; cases h
 ·rename_i h1
  rw [if_neg h1] at h; cases h
theorem yu5:RUN T zox []=some ([.agg (bnd zki)],[]):=by
 refine zag z72 rfl ?_
 simp [zv4,zv5,bnd,zki]
theorem ycy:RUN T zl7 []=some ([.agg (bnd zki)],[]):=by
 refine zag z8t rfl ?_
 simp [zxa,zxb,bnd,zki]
def upl (n:Nat):List Int:=(List.range n).map fun (i:Nat)=>(i:Int)
theorem ydm (n:Nat):upl n++[(n:Int)]=upl (n+1):=by simp [upl,List.range_succ]
@[simp] theorem qiv (n:Nat):(upl n).length=n:=by simp [upl]
@[simp] theorem qnr:upl 0=[]:=rfl
theorem ycz (n:Nat) (h1:1≤n) (h2:n≤40):RUN T zl6 [iv n]=some ([.own 1 (zac (upl n))],[]):=by
 have e:=zdr n 1 40
 rw [zax.mpr (by omega)] at e
 have hr0:zak 8 0=true:=by decide
 have hr1:zak 8 1=true:=by decide
 refine zag z8s rfl ?_
 simp [-getElem?_pos,zw8,zw9,-zck,e,hr0]
 refine za4 (fun k st => ∃ (i o e:Nat),i+k=n∧st.V 3 = .ref o none e 0 i∧st.V 10=iv n∧st.V 11=iv i∧o<st.nx∧st.S o=some (.row 1 (zac (upl i)))) ?_ n _ ⟨0,0,0,by omega,by simp⟩
 rintro k st ⟨i,o,ep,hi,v3,v10,v11,hox,hSo⟩
 obtain ⟨x1,x2,x3,x4⟩:=fr hox
 by_cases hlt:i<n
 ·have hws:=wS hlt (by omega:n≤9223372036854775807)
  have hr8:=zd0 (n:=i+1) (by omega)
  have hsn:zac (upl i)++[[iv (i:Int)]]=zac (upl (i+1)):=by rw [zdd,ydm]
  simp [-getElem?_pos,z3i,v3,v10,v11,hSo,hlt,hws,hr1,hr8,hsn,x1,x2,x3,x4]
  exact zam (k-1) (by omega) ⟨i+1,st.nx+1,st.ep,by omega,by simp,by simp [v10],by simp,by simp,by simp⟩
 ·have hin:i=n:=by omega
  subst hin
  simp [-getElem?_pos,z3i,v3,v10,v11,hSo,hlt]
theorem yu6 (n:Nat) (h2:n≤40):RUN T zow [iv n]=some ([.own 1 (zac (upl n))],[]):=by
 have hr0:zak 8 0=true:=by decide
 have hr1:zak 8 1=true:=by decide
 refine zag z71 rfl ?_
 simp [-getElem?_pos,zv2,zv3,hr0]
 refine za4 (fun k st => ∃ (i o e:Nat),i+k=n∧st.V 0=iv n∧st.V 3 = .ref o none e 0 i∧st.V 4=iv i∧o<st.nx∧st.S o=some (.row 1 (zac (upl i)))) ?_ n _ ⟨0,0,0,by omega,by simp⟩
 rintro k st ⟨i,o,ep,hi,v0,v3,v4,hox,hSo⟩
 obtain ⟨x1,x2,x3,x4⟩:=fr hox
 have h3:(n:Int)≤40:=by omega
 by_cases hlt:i<n
 ·have hws:=wS hlt (by omega:n≤9223372036854775807)
  have hr8:=zd0 (n:=i+1) (by omega)
  have hsn:zac (upl i)++[[iv (i:Int)]]=zac (upl (i+1)):=by rw [zdd,ydm]
  simp [-getElem?_pos,z3f,v0,v3,v4,hSo,hlt,h3,hws,hr1,hr8,hsn,x1,x2,x3,x4]
  exact zam (k-1) (by omega) ⟨i+1,st.nx+1,st.ep,by omega,by simp [v0],by simp,by simp,by simp,by simp⟩
 ·have hin:i=n:=by omega
  subst hin
  simp [-getElem?_pos,z3f,v0,v3,v4,hSo,hlt]
def zfg (g rows:List Int) (i:Nat):Int:=((rows.take i).map fun r=>(atI g r).getD 0).sum
theorem yh9 {g rows:List Int} {i:Nat} {r x:Int} (hr:rows[i]?=some r) (hx:atI g r=some x):zfg g rows (i+1)=zfg g rows i+x:=by
 unfold zfg
 rw [List.take_succ,hr]
 simp [hx]
theorem z26 {g rows:List Int} (hg : ∀ x∈g,-2199023255552≤x∧x≤2199023255552) : ∀ i:Nat,i≤rows.length → -2199023255552*(i:Int)≤zfg g rows i∧zfg g rows i≤2199023255552*(i:Int)
 | 0,_=>by simp [zfg]
 | i+1,h=>by
  have ih:=z26 (rows:=rows) hg i (by omega)
  obtain ⟨r,hr⟩ : ∃ r,rows[i]?=some r:=⟨_,List.getElem?_eq_getElem (by omega)⟩
  have e:zfg g rows (i+1)=zfg g rows i+(atI g r).getD 0:=by
   unfold zfg
   rw [List.take_succ,hr]
   simp
  rw [e]
  cases hx:atI g r with
  | none=>simp only [Option.getD_none]; omega
  | some x =>
   obtain ⟨_,_,h3,_⟩:=ze0 hx
   have:=hg x (List.mem_of_getElem? h3)
   simp only [Option.getD_some]; omega
theorem z5c (g rows:List Int):zat g rows=⟨rows.length,zfg g rows rows.length⟩:=by simp [zat,zfg]
theorem ye1 {g rows:List Int} (hg : ∀ x∈g,-2199023255552≤x∧x≤2199023255552) (hl:rows.length≤1048576):slI (zat g rows):=by
 rw [z5c]
 have:=z26 (rows:=rows) hg rows.length (by omega)
 exact ⟨by unfold inI; simp only; omega,by unfold inI; simp only; omega⟩
theorem zul (g rows:List Int) (hg : ∀ x∈g,-2199023255552≤x∧x≤2199023255552) (hr : ∀ r∈rows,0≤r∧r<g.length) (hl:rows.length≤1048576):RUN T zi8 [.sl 1 (zac g),.sl 1 (zac rows)]=some ([.agg (slc (zat g rows))],[]):=by
 rw [z5c]
 refine zag z8v rfl ?_
 simp [-getElem?_pos,zxc,zxd]
 refine za4 (fun k st => ∃ i:Nat,i+k=rows.length∧st.V 0 = .sl 1 (zac g)∧st.V 4 = .ptr 0 none 0 0 0∧st.V 5 = .ptr 1 none 0 0 0∧st.V 11 = .sl 1 (zac rows)∧st.V 12=iv rows.length∧st.V 13=iv i∧1<st.nx∧st.S 1=some (.box [iv rows.length,iv (zfg g rows i)])∧st.S 0=some (.box [iv 0,iv 0])) ?_ rows.length _ ⟨0,by omega,by simp,by simp,by simp,by simp,by simp,by simp,by simp,by simp [zfg],by simp⟩
 rintro k st ⟨i,hi,v0,v4,v5,v11,v12,v13,h1x,hS1,hS0⟩
 obtain ⟨z1,z2,z3,z4⟩:=fr h1x
 by_cases hlt:i<rows.length
 ·obtain ⟨r,hrr⟩ : ∃ r,rows[i]?=some r:=⟨_,List.getElem?_eq_getElem hlt⟩
  obtain ⟨r0,r1⟩:=hr r (List.mem_of_getElem? hrr)
  obtain ⟨rn,rfl⟩ : ∃ n:Nat,r=n:=⟨r.toNat,by omega⟩
  obtain ⟨x,hx⟩ : ∃ x,g[rn]?=some x:=⟨_,List.getElem?_eq_getElem (by omega)⟩
  have hrn:rn<g.length:=by omega
  have hr':=zbg hrr
  have hx':=zbg hx
  have hws:=wS hlt (by omega:rows.length≤9223372036854775807)
  have hs:=yh9 (g:=g) hrr (x:=x) (by unfold atI; rw [if_pos r0]; simpa using hx)
  have b1:=z26 (rows:=rows) hg (i+1) (by omega)
  rw [hs] at b1
  have hw:=w64 (x:=zfg g rows i+x) (by omega) (by omega)
  simp [-getElem?_pos,z3j,v0,v4,v5,v11,v12,v13,hS1,hS0,hlt,hr',hx',hrn,hw,hws,z1,z2,z3,z4]
  exact zam (k-1) (by omega) ⟨i+1,by omega,by simp [v0],by simp [v4],by simp [v5],by simp [v11],by simp [v12],by simp,by simp [h1x],by simp [hs],by simp [hS0]⟩
 ·have hin:i=rows.length:=by omega
  subst hin
  simp [-getElem?_pos,z3j,v4,v5,v12,v13,hS1,hS0,slc]
theorem yu7 (g rows:List Int) (hg : ∀ x∈g,-2199023255552≤x∧x≤2199023255552) (hr : ∀ r∈rows,0≤r∧r<g.length) (hl:rows.length≤1048576):RUN T zpe [.sl 1 (zac g),.sl 1 (zac rows)]=some ([.agg (slc (zat g rows))],[]):=by
 rw [z5c]
 refine zag z81 rfl ?_
 simp [-getElem?_pos,zxk,zxl]
 refine za4 (fun k st => ∃ i:Nat,i+k=rows.length∧st.V 0 = .sl 1 (zac g)∧st.V 1 = .sl 1 (zac rows)∧st.V 4 = .ptr 0 none 0 0 0∧st.V 5 = .ptr 1 none 0 0 0∧st.V 6=iv i∧1<st.nx∧st.S 1=some (.box [iv i,iv (zfg g rows i)])∧st.S 0=some (.box [iv 0,iv 0])) ?_ rows.length _ ⟨0,by omega,by simp,by simp,by simp,by simp,by simp,by simp,by simp [zfg],by simp⟩
 rintro k st ⟨i,hi,v0,v1,v4,v5,v6,h1x,hS1,hS0⟩
 obtain ⟨z1,z2,z3,z4⟩:=fr h1x
 by_cases hlt:i<rows.length
 ·obtain ⟨r,hrr⟩ : ∃ r,rows[i]?=some r:=⟨_,List.getElem?_eq_getElem hlt⟩
  obtain ⟨r0,r1⟩:=hr r (List.mem_of_getElem? hrr)
  obtain ⟨rn,rfl⟩ : ∃ n:Nat,r=n:=⟨r.toNat,by omega⟩
  obtain ⟨x,hx⟩ : ∃ x,g[rn]?=some x:=⟨_,List.getElem?_eq_getElem (by omega)⟩
  have hrn:rn<g.length:=by omega
  have hr':=zbg hrr
  have hx':=zbg hx
  have hws:=wS hlt (by omega:rows.length≤9223372036854775807)
  have hs:=yh9 (g:=g) hrr (x:=x) (by unfold atI; rw [if_pos r0]; simpa using hx)
  have b1:=z26 (rows:=rows) hg (i+1) (by omega)
  rw [hs] at b1
  have hw:=w64 (x:=zfg g rows i+x) (by omega) (by omega)
  simp [-getElem?_pos,z3k,v0,v1,v4,v5,v6,hS1,hS0,hlt,hr',hx',hrn,hw,hws,z1,z2,z3,z4]
  exact zam (k-1) (by omega) ⟨i+1,by omega,by simp [v0],by simp [v1],by simp [v4],by simp [v5],by simp,by simp [h1x],by simp [hs],by simp [hS0]⟩
 ·have hin:i=rows.length:=by omega
  subst hin
  simp [-getElem?_pos,z3k,v1,v4,v5,v6,hS1,hS0,slc]
set_option maxHeartbeats 1000000 in
theorem z4g (bins rows:List Int) (b:Int) (hb:bins.length≤1048576) (hl:rows.length≤1048576):RUN T zko [.sl 1 (zac bins),.sl 1 (zac rows),iv b]=some ([.own 1 (zac (zaz bins rows b)),.own 1 (zac (za7 bins rows b))],[]):=by
 have hr0:zak 8 0=true:=by decide
 have hr1:zak 8 1=true:=by decide
 have w1:=w64 (x:=(bins.length:Int)-1) (by omega) (by omega)
 refine zag z8x rfl ?_
 simp [-getElem?_pos,zxe,zxf,hr0]
 refine za4 (fun k st => ∃ (i o e p e2:Nat) (m l:List Int),i+k=rows.length∧m.length≤i∧l.length≤i∧m++(rows.drop i).filter (zh9 bins b)=zaz bins rows b∧l++(rows.drop i).filter (zny bins b)=za7 bins rows b∧st.V 0 = .sl 1 (zac bins)∧st.V 2=iv b∧st.V 8 = .ref o none e 0 m.length∧st.V 9 = .ref p none e2 0 l.length∧st.V 14 = .sl 1 (zac rows)∧st.V 15=iv rows.length∧st.V 16=iv i∧¬ o=p∧o<st.nx∧p<st.nx∧st.S o=some (.row 1 (zac m))∧st.S p=some (.row 1 (zac l))) ?_ rows.length _ ⟨0,0,0,1,0,[],[],by omega,by simp,by simp,by simp [zaz],by simp [za7],by simp⟩
 rintro k st ⟨i,o,e,p,e2,m,l,hi,hml,hll,hm,hl2,v0,v2,v8,v9,v14,v15,v16,hop,hox,hpx,hSo,hSp⟩
 obtain ⟨x1,x2,x3,x4⟩:=fr hox
 obtain ⟨z1,z2,z3,z4⟩:=fr hpx
 have hpo : ¬ p=o:=fun e=>hop e.symm
 by_cases hlt:i<rows.length
 ·obtain ⟨r,hrr⟩ : ∃ r,rows[i]?=some r:=⟨_,List.getElem?_eq_getElem hlt⟩
  have hr':=zbg hrr
  have hws:=wS hlt (by omega:rows.length≤9223372036854775807)
  have e1:=zdr r 0 ((bins.length:Int)-1)
  rw [zeo hrr,List.filter_cons] at hm hl2
  have hB:zh9 bins b r=match atI bins r with
   | some x=>decide (x≤b)
   | none=>false:=rfl
  have hC:zny bins b r=match atI bins r with
   | some x => !decide (x≤b)
   | none=>false:=rfl
  have r1:=zd0 (n:=m.length+1) (by omega)
  have r2:=zd0 (n:=l.length+1) (by omega)
  have s1:=zdd m r
  have s2:=zdd l r
  cases hx:atI bins r with
  | none =>
   have hn:=zi5 hx
   rw [show zai r 0 ((bins.length:Int)-1)=false from by
    cases hw:zai r 0 ((bins.length:Int)-1) with
    | false=>rfl
    | true=>have:=zax.mp hw; omega] at e1
   rw [hx] at hB hC
   rw [hB] at hm
   rw [hC] at hl2
   simp [-getElem?_pos,ztd,-zck,v0,v2,v8,v9,v14,v15,v16,hSo,hSp,hlt,hr',hws,w1,e1]
   exact zam (k-1) (by omega) ⟨i+1,o,e,p,e2,m,l,by omega,by omega,by omega,by simpa using hm,by simpa using hl2,by simp [v0],by simp [v2],by simp [v8],by simp [v9],by simp [v14],by simp [v15],by simp,hop,by simp [hox],by simp [hpx],by simp [hSo],by simp [hSp]⟩
  | some x =>
   obtain ⟨rn,rfl,hbr,hbl⟩:=ze0 hx
   rw [show zai rn 0 ((bins.length:Int)-1)=true from zax.mpr (by omega)] at e1
   rw [hx] at hB hC
   rw [hB] at hm
   rw [hC] at hl2
   have hb':=zbg hbr
   by_cases hc:x≤b
   ·have d1:decide (x≤b)=true:=decide_eq_true hc
    simp only [d1,if_true,Bool.not_true,Bool.false_eq_true,if_false] at hm hl2
    simp [-getElem?_pos,ztd,-zck,v0,v2,v8,v9,v14,v15,v16,hSo,hSp,hlt,hr',hws,w1,e1,hb',hbl,hc,hr1,r1,s1,hop,hpo,x1,x2,x3,x4,z1,z2,z3,z4]
    exact zam (k-1) (by omega) ⟨i+1,st.nx+1,st.ep,p,e2,m++[(rn:Int)],l,by omega,by simp; omega,by omega,by simpa using hm,hl2,by simp [v0],by simp [v2],by simp,by simp [v9],by simp [v14],by simp [v15],by simp,by omega,by simp,by simp; omega,by simp,by simp [hop,hpo,x1,x2,x3,x4,z1,z2,z3,z4,hSp]⟩
   ·have d1:decide (x≤b)=false:=decide_eq_false hc
    simp only [d1,if_true,Bool.not_false,Bool.false_eq_true,if_false] at hm hl2
    simp [-getElem?_pos,ztd,-zck,v0,v2,v8,v9,v14,v15,v16,hSo,hSp,hlt,hr',hws,w1,e1,hb',hbl,hc,hr1,r2,s2,hop,hpo,x1,x2,x3,x4,z1,z2,z3,z4]
    exact zam (k-1) (by omega) ⟨i+1,o,e,st.nx+1,st.ep,m,l++[(rn:Int)],by omega,by omega,by simp; omega,hm,by simpa using hl2,by simp [v0],by simp [v2],by simp [v8],by simp,by simp [v14],by simp [v15],by simp,by omega,by simp; omega,by simp,by simp [hop,hpo,x1,x2,x3,x4,z1,z2,z3,z4,hSo],by simp⟩
 ·rw [List.drop_eq_nil_of_le (by omega)] at hm hl2
  simp only [List.filter_nil,List.append_nil] at hm hl2
  subst hm hl2
  simp [-getElem?_pos,ztd,v8,v9,v14,v15,v16,hSo,hSp,hlt,hop,hpo]
set_option maxHeartbeats 1000000 in
theorem yu8 (bins rows:List Int) (b:Int) (hb:bins.length≤1048576) (hl:rows.length≤1048576):RUN T zot [.sl 1 (zac bins),.sl 1 (zac rows),iv b]=some ([.own 1 (zac (zaz bins rows b)),.own 1 (zac (za7 bins rows b))],[]):=by
 have hr0:zak 8 0=true:=by decide
 have hr1:zak 8 1=true:=by decide
 have w1:=w64 (x:=(bins.length:Int)-1) (by omega) (by omega)
 refine zag z7v rfl ?_
 simp [-getElem?_pos,zvw,zvx,hr0]
 refine za4 (fun k st => ∃ (i o e p e2:Nat) (m l:List Int),i+k=rows.length∧m.length≤i∧l.length≤i∧m++(rows.drop i).filter (zh9 bins b)=zaz bins rows b∧l++(rows.drop i).filter (zny bins b)=za7 bins rows b∧st.V 0 = .sl 1 (zac bins)∧st.V 1 = .sl 1 (zac rows)∧st.V 2=iv b∧st.V 8 = .ref o none e 0 m.length∧st.V 9 = .ref p none e2 0 l.length∧st.V 10=iv i∧¬ o=p∧o<st.nx∧p<st.nx∧st.S o=some (.row 1 (zac m))∧st.S p=some (.row 1 (zac l))) ?_ rows.length _ ⟨0,0,0,1,0,[],[],by omega,by simp,by simp,by simp [zaz],by simp [za7],by simp⟩
 rintro k st ⟨i,o,e,p,e2,m,l,hi,hml,hll,hm,hl2,v0,v1,v2,v8,v9,v10,hop,hox,hpx,hSo,hSp⟩
 obtain ⟨x1,x2,x3,x4⟩:=fr hox
 obtain ⟨z1,z2,z3,z4⟩:=fr hpx
 have hpo : ¬ p=o:=fun e=>hop e.symm
 by_cases hlt:i<rows.length
 ·obtain ⟨r,hrr⟩ : ∃ r,rows[i]?=some r:=⟨_,List.getElem?_eq_getElem hlt⟩
  have hr':=zbg hrr
  have hws:=wS hlt (by omega:rows.length≤9223372036854775807)
  have e1:=zbm r 0 ((bins.length:Int)-1)
  rw [zeo hrr,List.filter_cons] at hm hl2
  have hB:zh9 bins b r=match atI bins r with
   | some x=>decide (x≤b)
   | none=>false:=rfl
  have hC:zny bins b r=match atI bins r with
   | some x => !decide (x≤b)
   | none=>false:=rfl
  have r1:=zd0 (n:=m.length+1) (by omega)
  have r2:=zd0 (n:=l.length+1) (by omega)
  have s1:=zdd m r
  have s2:=zdd l r
  cases hx:atI bins r with
  | none =>
   have hn:=zi5 hx
   rw [show zai r 0 ((bins.length:Int)-1)=false from by
    cases hw:zai r 0 ((bins.length:Int)-1) with
    | false=>rfl
    | true=>have:=zax.mp hw; omega] at e1
   rw [hx] at hB hC
   rw [hB] at hm
   rw [hC] at hl2
   simp [-getElem?_pos,zsn,-za6,v0,v1,v2,v8,v9,v10,hSo,hSp,hlt,hr',hws,w1,e1]
   exact zam (k-1) (by omega) ⟨i+1,o,e,p,e2,m,l,by omega,by omega,by omega,by simpa using hm,by simpa using hl2,by simp [v0],by simp [v1],by simp [v2],by simp [v8],by simp [v9],by simp,hop,by simp [hox],by simp [hpx],by simp [hSo],by simp [hSp]⟩
  | some x =>
   obtain ⟨rn,rfl,hbr,hbl⟩:=ze0 hx
   rw [show zai rn 0 ((bins.length:Int)-1)=true from zax.mpr (by omega)] at e1
   rw [hx] at hB hC
   rw [hB] at hm
   rw [hC] at hl2
   have hb':=zbg hbr
   by_cases hc:x≤b
   ·have d1:decide (x≤b)=true:=decide_eq_true hc
    simp only [d1,if_true,Bool.not_true,Bool.false_eq_true,if_false] at hm hl2
    simp [-getElem?_pos,zsn,-za6,v0,v1,v2,v8,v9,v10,hSo,hSp,hlt,hr',hws,w1,e1,hb',hbl,hc,hr1,r1,s1,hop,hpo,x1,x2,x3,x4,z1,z2,z3,z4]
    exact zam (k-1) (by omega) ⟨i+1,st.nx+1,st.ep,p,e2,m++[(rn:Int)],l,by omega,by simp; omega,by omega,by simpa using hm,hl2,by simp [v0],by simp [v1],by simp [v2],by simp,by simp [v9],by simp,by omega,by simp,by simp; omega,by simp,by simp [hop,hpo,x1,x2,x3,x4,z1,z2,z3,z4,hSp]⟩
   ·have d1:decide (x≤b)=false:=decide_eq_false hc
    simp only [d1,if_true,Bool.not_false,Bool.false_eq_true,if_false] at hm hl2
    simp [-getElem?_pos,zsn,-za6,v0,v1,v2,v8,v9,v10,hSo,hSp,hlt,hr',hws,w1,e1,hb',hbl,hc,hr1,r2,s2,hop,hpo,x1,x2,x3,x4,z1,z2,z3,z4]
    exact zam (k-1) (by omega) ⟨i+1,o,e,st.nx+1,st.ep,m,l++[(rn:Int)],by omega,by omega,by simp; omega,hm,by simpa using hl2,by simp [v0],by simp [v1],by simp [v2],by simp [v8],by simp,by simp,by omega,by simp; omega,by simp,by simp [hop,hpo,x1,x2,x3,x4,z1,z2,z3,z4,hSo],by simp⟩
 ·rw [List.drop_eq_nil_of_le (by omega)] at hm hl2
  simp only [List.filter_nil,List.append_nil] at hm hl2
  subst hm hl2
  simp [-getElem?_pos,zsn,v1,v8,v9,v10,hSo,hSp,hlt,hop,hpo]
def pnd (x:Pnd):List PV:=[.own 1 (zac x.r),iv x.b.lo,iv x.b.hi,iv x.l]
def zf9 (l:List Pnd):List (List PV):=l.map pnd
@[simp] theorem qmc (l:List Pnd):(zf9 l).length=l.length:=by simp [zf9]
theorem z6h {l:List Pnd} {i:Nat} {x:Pnd} (h:l[i]?=some x):(zf9 l)[i]?=some [.own 1 (zac x.r),iv x.b.lo,iv x.b.hi,iv x.l]:=by simp [zf9,h,pnd]
theorem yjp {l:List Pnd} {i:Nat} {x:Pnd} (h:l[i]?=some x):zbn (zf9 l) i 0=some (1,zac x.r):=by simp [zbn,z6h h]
theorem yfi (l:List Pnd) (x y:Pnd):zf9 l++[[.own 1 (zac x.r),iv x.b.lo,iv x.b.hi,iv x.l],[.own 1 (zac y.r),iv y.b.lo,iv y.b.hi,iv y.l]]=zf9 (l++[x,y]):=by simp [zf9,pnd]
theorem zhx {α:Type} {l:List α} {i:Nat} {x:α} (h:l[i]?=some x):atI l (i:Int)=some x:=by
 unfold atI
 rw [if_pos (by omega)]
 simpa using h
theorem y2d {b g rows:List Int} {k:Int} (h:(zb8 b g rows k).2=true):((zb8 b g rows k).1.length:Int)=k:=by
 unfold zb8 at h ⊢
 split
 ·rename_i hk
  rw [if_pos hk] at h
  have hk':=zax.mp hk
  cases e:zb3 b g rows (List.replicate k.toNat ⟨0,0⟩) with
  | none=>rw [e] at h; cases h
  | some h'=>have:=z7d _ _ _ e; simp at this; simp only; omega
 ·rename_i hk
  rw [if_neg hk] at h; cases h
theorem yg8 {g rows:List Int} : ∀ (c v:List (List Int)) (H:List (List Sl)) (f:Nat) (h:List Sl),zcg g rows c v=some H→H[f]?=some h→∃ x y,c[f]?=some x∧v[f]?=some y∧h.length=x.length+1
 | [],v,H,f,h,e,hf=>by simp [zcg] at e; subst e; simp at hf
 | x::c,[],H,f,h,e,hf=>by simp [zcg] at e; subst e; simp at hf
 | x::c,y::v,H,f,h,e,hf=>by
  simp only [zcg] at e
  split at e
  ·rename_i hp
   simp only [Option.map_eq_some_iff] at e
   obtain ⟨H',h1,rfl⟩:=e
   cases f with
   | zero =>
    simp at hf
    subst hf
    have:=y2d hp
    exact ⟨x,y,rfl,rfl,by omega⟩
   | succ f =>
    simp at hf
    obtain ⟨x',y',h2,h3,h4⟩:=yg8 c v H' f h h1 hf
    exact ⟨x',y',by simpa using h2,by simpa using h3,h4⟩
  ·cases e
theorem ywp {c v:List (List Int)} {g rows:List Int} {f:Nat} {h:List Sl} (hb:(zb1 c v g rows).2=true) (hf:(zb1 c v g rows).1[f]?=some h) : ∃ x y,c[f]?=some x∧v[f]?=some y∧h.length=x.length+1:=by
 unfold zb1 at hb hf
 split at hb
 ·rename_i hg
  rw [if_pos hg] at hf
  cases e:zcg g rows c v with
  | none=>rw [e] at hb; cases hb
  | some H=>rw [e] at hf; exact yg8 c v H f h e hf
 ·cases hb
theorem yj1 {c v:List (List Int)} {g:List Int} {cfg:Cfg} {rows:List Int} {b:Bd} (h:(za2 c v g cfg rows b).2=true) : ∃ (f k:Nat) (x y:List Int) (z:Int),(za2 c v g cfg rows b).1.f=f∧(za2 c v g cfg rows b).1.b=k∧c[f]?=some x∧v[f]?=some y∧x[k]?=some z∧zeb (za2 c v g cfg rows b).1:=by
 obtain ⟨h1,h2⟩:=yy2 h
 have hI:=yjz (by have:=z2p c v g rows; omega) (fun l hl=>Nat.le_trans ((zsg c v g rows).2 l hl) (by omega)) h1
 obtain ⟨f,k,l,e1,e2,e3,e4,_,_⟩:=h1
 obtain ⟨x,y,hx,hy,hl⟩:=ywp h2 e3
 exact ⟨f,k,x,y,x[k]'(by omega),e1,e2,hx,hy,List.getElem?_eq_getElem (by omega),hI⟩
theorem ywv {x lo hi:Int} (h:lo≤hi):lo≤zb7 x lo hi∧zb7 x lo hi≤hi:=by
 unfold zb7
 split
 ·omega
 ·split <;> omega
theorem yy8 {b:Bd} (h:zc3 b=true):b.lo≤b.hi ∧ -1099511627776≤b.lo∧b.hi≤1099511627776:=by
 unfold zc3 at h
 simp only [Bool.and_eq_true,decide_eq_true_eq] at h
 have h1:=h.1.2
 have h2:=h.2
 unfold zfn at h1 h2
 have:=zax.mp h1
 have:=zax.mp h2
 omega
theorem yia (s:Sl) (l:Int) (b:Bd) : -1099511627776≤(zdj s l b).1∧(zdj s l b).1≤1099511627776:=by
 unfold zdj
 split
 ·rename_i h
  simp only [Bool.and_eq_true] at h
  obtain ⟨h1,h2,h3⟩:=yy8 h.2
  have:=ywv (x:=(fdv s.g (s.n+l)).1) h1
  simp only; omega
 ·simp
theorem z1x (c:Cfg) (b:Bd) (x:Cnd):inI (zby c b x).1∧inI (zby c b x).2.1:=by
 have h1:=yia x.a c.la b
 have h2:=yia x.z c.la b
 unfold zby inI
 split
 ·simp only; omega
 ·simp
def NC (S:Nat→Option Ob) (nx oq:Nat) (m:List Nd) (x:PV):Prop:=(x = .e0∧m=[])∨∃ o e,x = .ref o none e 0 m.length∧5<o∧o<nx∧¬ o=oq∧S o=some (.row 5 (m.map nd))
theorem yh4 {c v:List (List Int)} {g:List Int} {cfg:Cfg} {n:Nat} {q:List Pnd} {i:Nat} {out:List Nd} (h:q[i]?=none):zcb c v g cfg n q i out=out:=by
 cases n with
 | zero=>rfl
 | succ n=>rw [zcb,h]
theorem yw2 {c v:List (List Int)} {g:List Int} {cfg:Cfg} {n:Nat} {q:List Pnd} {i:Nat} {out:List Nd} {x:Pnd} (h:q[i]?=some x) (hg:goes c v g cfg x=false):zcb c v g cfg (n+1) q i out=zcb c v g cfg n q (i+1) (out++[zcv g cfg x]):=by
 rw [zcb,h]; simp [hg]
theorem yzp {c v:List (List Int)} {g:List Int} {cfg:Cfg} {n:Nat} {q:List Pnd} {i:Nat} {out:List Nd} {x:Pnd} (h:q[i]?=some x) (hg:goes c v g cfg x=true):zcb c v g cfg (n+1) q i out=zcb c v g cfg n (q++[zc6 c v cfg x (za2 c v g cfg x.r x.b).1,zda c v cfg x (za2 c v g cfg x.r x.b).1]) (i+1) (out++[zfz c (za2 c v g cfg x.r x.b).1 q.length]):=by
 rw [zcb,h]; simp [hg]
structure GI (c v:List (List Int)) (g:List Int) (cfg:Cfg) (n:Nat) (q:List Pnd) (i:Nat) (out:List Nd):Prop where
 n1:i+n=32
 le:i≤q.length
 ql:q.length≤2*i+1
 ol:out.length=i
 po:zee cfg.de (q.drop i)≤n
 ok : ∀ x∈q,zjs g.length cfg.de x
 go:zcb c v g cfg n q i out=zcb c v g cfg 32 [zbl g] 0 []
theorem GI.leaf {c v:List (List Int)} {g:List Int} {cfg:Cfg} {n:Nat} {q:List Pnd} {i:Nat} {out:List Nd} {x:Pnd} (h:GI c v g cfg n q i out) (hx:q[i]?=some x) (hg:goes c v g cfg x=false):1≤n∧GI c v g cfg (n-1) q (i+1) (out++[zcv g cfg x]):=by
 have hp:=h.po
 rw [zeo hx,zgk] at hp
 have:=zn2 (h.ok x (List.mem_of_getElem? hx)).2.2.2
 have hlt:=(List.getElem?_eq_some_iff.mp hx).1
 obtain ⟨m,rfl⟩ : ∃ m,n=m+1:=⟨n-1,by omega⟩
 have:=h.n1
 have:=h.ql
 exact ⟨by omega,by simp; omega,by omega,by omega,by simp [h.ol],by simp; omega,h.ok,by rw [← h.go,yw2 hx hg]; rfl⟩
theorem GI.cut {c v:List (List Int)} {g:List Int} {cfg:Cfg} {n:Nat} {q:List Pnd} {i:Nat} {out:List Nd} {x:Pnd} (h:GI c v g cfg n q i out) (hx:q[i]?=some x) (hg:goes c v g cfg x=true):1≤n∧GI c v g cfg (n-1) (q++[zc6 c v cfg x (za2 c v g cfg x.r x.b).1,zda c v cfg x (za2 c v g cfg x.r x.b).1]) (i+1) (out++[zfz c (za2 c v g cfg x.r x.b).1 q.length]):=by
 have hp:=h.po
 have hlt:=(List.getElem?_eq_some_iff.mp hx).1
 have hxo:=h.ok x (List.mem_of_getElem? hx)
 rw [zeo hx,zgk] at hp
 have hlv:x.l<cfg.de:=by
  unfold goes at hg
  simp only [Bool.and_eq_true,decide_eq_true_eq] at hg
  exact hg.1
 have hk:=z5i (y:=zc6 c v cfg x (za2 c v g cfg x.r x.b).1) (z:=zda c v cfg x (za2 c v g cfg x.r x.b).1) hlv rfl rfl
 obtain ⟨m,rfl⟩ : ∃ m,n=m+1:=⟨n-1,by omega⟩
 have:=h.n1
 have:=h.ql
 obtain ⟨ko1,ko2⟩:=z13 (c:=c) (v:=v) (k:=(za2 c v g cfg x.r x.b).1) hxo hlv
 refine ⟨by omega,by simp; omega,by simp; omega,by simp; omega,by simp [h.ol],?_,fun y hy => ?_,by rw [← h.go,yzp hx hg]; rfl⟩
 ·rw [List.drop_append_of_le_length (by omega),z42,zgk,zgk]
  have:zee cfg.de ([]:List Pnd)=0:=rfl
  simp only [Nat.add_sub_cancel]
  omega
 ·rcases List.mem_append.mp hy with e | e
  ·exact h.ok y e
  ·simp only [List.mem_cons,List.not_mem_nil,or_false] at e
   rcases e with e | e
   ·subst e; exact ko1
   ·subst e; exact ko2
theorem GI.start {c v:List (List Int)} {g:List Int} {cfg:Cfg} (h:zd7 c v g cfg=true):GI c v g cfg 32 [zbl g] 0 []:=by
 obtain ⟨h1,h2,h3,h4⟩:=zhi h
 obtain ⟨d1,d2⟩:=(z56 h2).1
 refine ⟨rfl,by simp,by simp,rfl,?_,fun x hx => ?_,rfl⟩
 ·simp only [List.drop_zero,zee,List.map_cons,List.map_nil,List.sum_cons,List.sum_nil,pot,zbl]
  have:(cfg.de+1-0).toNat≤5:=by omega
  have:=Nat.pow_le_pow_right (n:=2) (by omega) this
  omega
 ·simp only [List.mem_singleton] at hx
  subst hx
  refine ⟨fun r hr => ?_,by simp [zbl],by simp [zbl],d1⟩
  simp only [zbl,List.mem_map,List.mem_range] at hr
  obtain ⟨j,hj,rfl⟩:=hr
  omega
set_option maxHeartbeats 8000000 in
set_option maxRecDepth 8000 in
theorem yu9 (q:Bool) (c v:List (List Int)) (g:List Int) (cfg:Cfg) (hc : ∀ l∈c,l.length≤1048576) (hv : ∀ l∈v,l.length≤1048576) (hg:g.length≤1048576) (hs:cfg.sg.length≤1048576) (hgi : ∀ x∈g,inI x):RUN T zov [.agg [.sl 1 (rws q c),.sl 1 (rws q v)],.sl 1 (zac g),cfS cfg]=some ([.agg [.own 5 ((zc8 c v g cfg).1.map nd)],bv (zc8 c v g cfg).2],[]):=by
 have e1:=z3z q c v g cfg (fun l hl=>Nat.le_trans (hc l hl) (by omega)) (fun l hl=>Nat.le_trans (hv l hl) (by omega)) (by omega) (by omega)
 simp only [zf4] at e1
 cases ht:zd7 c v g cfg with
 | false =>
  rw [ht] at e1
  have hR:zc8 c v g cfg=([],false):=by unfold zc8; rw [ht]; rfl
  rw [hR]
  refine zag z3p rfl ?_
  simp [-getElem?_pos,zso,zsp,e1]
 | true =>
  rw [ht] at e1
  have hR:zc8 c v g cfg=(zcb c v g cfg 32 [zbl g] 0 [],true):=by unfold zc8; rw [if_pos ht]
  rw [hR]
  obtain ⟨R,hR'⟩ : ∃ R,R=zcb c v g cfg 32 [zbl g] 0 []:=⟨_,rfl⟩
  rw [← hR']
  obtain ⟨t1,t2,t3,t4⟩:=zhi ht
  obtain ⟨t5,t6⟩:=z1s t1
  have e2:=z1l q c v
  have e3:=ycz (zcl v) t5 t6
  have e4:=ycy
  have hr48:zak 48 1=true:=by decide
  have hG:=GI.start ht
  have hroot:zf9 [zbl g]=[[.own 1 (zac (upl (zcl v))),iv zki.lo,iv zki.hi,iv 0]]:=by simp [zf9,pnd,zbl,t3,upl]
  simp only [bnd] at e4
  refine zag z3p rfl ?_
  simp [-getElem?_pos,zso,zsp,e1,e2,e3,e4,hr48]
  refine za4 (fun n st => ∃ (i o e:Nat) (Q:List Pnd) (out:List Nd) (x:PV),GI c v g cfg n Q i out∧st.V 1 = .sl 1 (zac g)∧st.V 3 = .ptr 0 none 0 0 0∧st.V 5 = .ptr 1 none 0 0 0∧st.V 6 = .ptr 2 none 0 0 0∧st.V 8 = .ref o none e 0 Q.length∧st.V 9 = .ptr 5 none 0 0 0∧st.V 10=iv i∧3<o∧¬ o=5∧o<st.nx∧5<st.nx∧st.S 0=some (.box [.sl 1 (rws q c),.sl 1 (rws q v)])∧st.S 1=some (.box [iv cfg.ro,iv cfg.de,iv cfg.bi,iv cfg.la,iv cfg.rw,iv cfg.nu,iv cfg.dn,.sl 1 (zac cfg.sg)])∧st.S 2=some (.box [.e0])∧st.S 5=some (.box [x])∧st.S o=some (.row 4 (zf9 Q))∧NC st.S st.nx o out x) ?_ 32 _ ⟨0,4,0,[zbl g],[],.e0,hG,?_⟩
  ·rintro n st ⟨i,o,ep,Q,out,x,hG,v1,v3,v5,v6,v8,v9,v10,ho3,ho5,hox,h5x,hS0,hS1,hS2,hS5,hSo,hN⟩
   obtain ⟨Fa01,Fa02,Fa03,Fa04⟩:=fr (show 0<st.nx by omega)
   obtain ⟨Fb01,Fb02,Fb03,Fb04⟩:=fr (show 1<st.nx by omega)
   obtain ⟨Fc01,Fc02,Fc03,Fc04⟩:=fr (show 2<st.nx by omega)
   obtain ⟨Fd01,Fd02,Fd03,Fd04⟩:=fr (show 5<st.nx by omega)
   obtain ⟨Fo01,Fo02,Fo03,Fo04⟩:=fr (show o<st.nx by omega)
   have N0a:(o=0)=False:=eq_false (by omega)
   have N0b:(0=o)=False:=eq_false (by omega)
   have N1a:(o=1)=False:=eq_false (by omega)
   have N1b:(1=o)=False:=eq_false (by omega)
   have N2a:(o=2)=False:=eq_false (by omega)
   have N2b:(2=o)=False:=eq_false (by omega)
   have N3a:(o=5)=False:=eq_false (by omega)
   have N3b:(5=o)=False:=eq_false (by omega)
   have y0:(st.nx=0)=False:=eq_false (by omega)
   have y1:(st.nx=1)=False:=eq_false (by omega)
   have y2:(st.nx=2)=False:=eq_false (by omega)
   have y3:(st.nx=3)=False:=eq_false (by omega)
   have y4:(st.nx=4)=False:=eq_false (by omega)
   have y5:(st.nx=5)=False:=eq_false (by omega)
   have na : ∀ a b:Nat,st.nx+a+b=st.nx+(a+b):=fun a b=>Nat.add_assoc _ _ _
   by_cases hlt:i<Q.length
   ·obtain ⟨p,hp⟩ : ∃ p,Q[i]?=some p:=⟨_,List.getElem?_eq_getElem hlt⟩
    have hp':=z6h hp
    have hps:=yjp hp
    have hpo:=hG.ok p (List.mem_of_getElem? hp)
    obtain ⟨p1,p2,p3,p4⟩:=hpo
    have hn1:=hG.n1
    have hql:=hG.ql
    have hws:=wS hlt (by omega:Q.length≤9223372036854775807)
    have f1:=yu3 q c v g cfg p.r p.b hc hv hg (by omega) hs hgi
    have f2:=zul g p.r t4 p1 (by omega)
    have f3:=zuk (zat g p.r) cfg.la p.b (ye1 t4 (by omega))
    have hr40:zak 40 1=true:=by decide
    have hr41:zak 40 (out.length+1)=true:=by have:=hG.ol; simp [zak]; omega
    have hsn:=z2o out (zcv g cfg p)
    simp only [zcv] at hsn
    simp only [bnd] at f1 f3
    obtain ⟨K,hK⟩ : ∃ K,K=za2 c v g cfg p.r p.b:=⟨_,rfl⟩
    obtain ⟨G,hGg⟩ : ∃ G,G=goes c v g cfg p:=⟨_,rfl⟩
    have hG2:G=(decide (p.l<cfg.de) && K.2):=by rw [hGg,hK]; rfl
    cases G with
    | false =>
     obtain ⟨m1,hG'⟩:=hG.leaf hp hGg.symm
     rw [← hK] at f1
     simp only [slc] at f2 f3
     by_cases hlv:p.l<cfg.de
     ·have hK2:K.2=false:=by simpa [hlv] using hG2.symm
      obtain ⟨K,Kb⟩:=K
      simp only at hK2 f1
      subst hK2
      simp only [cnd] at f1
      rcases hN with ⟨rfl,rfl⟩ | ⟨w,ew,rfl,hw5,hwx,hwo,hSw⟩
      ·simp [-getElem?_pos,zjd,v1,v3,v5,v6,v8,v9,v10,hS0,hS1,hS2,hS5,hSo,hlt,hp',hps,hlv,f1,f2,f3,hws,hr40,Fa01,Fa02,Fa03,Fa04,Fb01,Fb02,Fb03,Fb04,Fc01,Fc02,Fc03,Fc04,Fd01,Fd02,Fd03,Fd04,Fo01,Fo02,Fo03,Fo04,N0a,N0b,N1a,N1b,N2a,N2b,N3a,N3b,y0,y1,y2,y3,y4,y5,na]
       refine zam (n-1) (by omega) ⟨i+1,o,ep,Q,[zcv g cfg p],.ref (st.nx+3) none st.ep 0 1,hG',by simp [v1],by simp [v3],by simp [v5],by simp [v6],by simp [v8],by simp [v9],by simp,ho3,ho5,(by simp <;> omega),by simp <;> omega,by simp [Fa01,Fa02,Fa03,Fa04,Fb01,Fb02,Fb03,Fb04,Fc01,Fc02,Fc03,Fc04,Fd01,Fd02,Fd03,Fd04,Fo01,Fo02,Fo03,Fo04,N0a,N0b,N1a,N1b,N2a,N2b,N3a,N3b,y0,y1,y2,y3,y4,y5,na,hS0],by simp [Fa01,Fa02,Fa03,Fa04,Fb01,Fb02,Fb03,Fb04,Fc01,Fc02,Fc03,Fc04,Fd01,Fd02,Fd03,Fd04,Fo01,Fo02,Fo03,Fo04,N0a,N0b,N1a,N1b,N2a,N2b,N3a,N3b,y0,y1,y2,y3,y4,y5,na,hS1],by simp [Fa01,Fa02,Fa03,Fa04,Fb01,Fb02,Fb03,Fb04,Fc01,Fc02,Fc03,Fc04,Fd01,Fd02,Fd03,Fd04,Fo01,Fo02,Fo03,Fo04,N0a,N0b,N1a,N1b,N2a,N2b,N3a,N3b,y0,y1,y2,y3,y4,y5,na,hS2],by simp [Fa01,Fa02,Fa03,Fa04,Fb01,Fb02,Fb03,Fb04,Fc01,Fc02,Fc03,Fc04,Fd01,Fd02,Fd03,Fd04,Fo01,Fo02,Fo03,Fo04,N0a,N0b,N1a,N1b,N2a,N2b,N3a,N3b,y0,y1,y2,y3,y4,y5,na],by simp [Fa01,Fa02,Fa03,Fa04,Fb01,Fb02,Fb03,Fb04,Fc01,Fc02,Fc03,Fc04,Fd01,Fd02,Fd03,Fd04,Fo01,Fo02,Fo03,Fo04,N0a,N0b,N1a,N1b,N2a,N2b,N3a,N3b,y0,y1,y2,y3,y4,y5,na,hSo],.inr ⟨st.nx+3,st.ep,by simp,by omega,by simp <;> omega,by omega,by simp [nd,zcv,y0,y1,y2,y3,y4,y5]⟩⟩
      ·obtain ⟨Fw01,Fw02,Fw03,Fw04⟩:=fr (show w<st.nx by omega)
       have M0a:(w=0)=False:=eq_false (by omega)
       have M0b:(0=w)=False:=eq_false (by omega)
       have M1a:(w=1)=False:=eq_false (by omega)
       have M1b:(1=w)=False:=eq_false (by omega)
       have M2a:(w=2)=False:=eq_false (by omega)
       have M2b:(2=w)=False:=eq_false (by omega)
       have M3a:(w=5)=False:=eq_false (by omega)
       have M3b:(5=w)=False:=eq_false (by omega)
       have M4a:(w=o)=False:=eq_false (by omega)
       have M4b:(o=w)=False:=eq_false (by omega)
       simp [-getElem?_pos,zjd,v1,v3,v5,v6,v8,v9,v10,hS0,hS1,hS2,hS5,hSo,hSw,hlt,hp',hps,hlv,f1,f2,f3,hws,hr40,hr41,hsn,Fa01,Fa02,Fa03,Fa04,Fb01,Fb02,Fb03,Fb04,Fc01,Fc02,Fc03,Fc04,Fd01,Fd02,Fd03,Fd04,Fo01,Fo02,Fo03,Fo04,N0a,N0b,N1a,N1b,N2a,N2b,N3a,N3b,y0,y1,y2,y3,y4,y5,na,Fw01,Fw02,Fw03,Fw04,M0a,M0b,M1a,M1b,M2a,M2b,M3a,M3b,M4a,M4b]
       refine zam (n-1) (by omega) ⟨i+1,o,ep,Q,out++[zcv g cfg p],.ref (st.nx+3) none st.ep 0 (out.length+1),hG',by simp [v1],by simp [v3],by simp [v5],by simp [v6],by simp [v8],by simp [v9],by simp,ho3,ho5,(by simp <;> omega),by simp <;> omega,by simp [Fa01,Fa02,Fa03,Fa04,Fb01,Fb02,Fb03,Fb04,Fc01,Fc02,Fc03,Fc04,Fd01,Fd02,Fd03,Fd04,Fo01,Fo02,Fo03,Fo04,N0a,N0b,N1a,N1b,N2a,N2b,N3a,N3b,y0,y1,y2,y3,y4,y5,na,Fw01,Fw02,Fw03,Fw04,M0a,M0b,M1a,M1b,M2a,M2b,M3a,M3b,M4a,M4b,hS0],by simp [Fa01,Fa02,Fa03,Fa04,Fb01,Fb02,Fb03,Fb04,Fc01,Fc02,Fc03,Fc04,Fd01,Fd02,Fd03,Fd04,Fo01,Fo02,Fo03,Fo04,N0a,N0b,N1a,N1b,N2a,N2b,N3a,N3b,y0,y1,y2,y3,y4,y5,na,Fw01,Fw02,Fw03,Fw04,M0a,M0b,M1a,M1b,M2a,M2b,M3a,M3b,M4a,M4b,hS1],by simp [Fa01,Fa02,Fa03,Fa04,Fb01,Fb02,Fb03,Fb04,Fc01,Fc02,Fc03,Fc04,Fd01,Fd02,Fd03,Fd04,Fo01,Fo02,Fo03,Fo04,N0a,N0b,N1a,N1b,N2a,N2b,N3a,N3b,y0,y1,y2,y3,y4,y5,na,Fw01,Fw02,Fw03,Fw04,M0a,M0b,M1a,M1b,M2a,M2b,M3a,M3b,M4a,M4b,hS2],by simp [Fa01,Fa02,Fa03,Fa04,Fb01,Fb02,Fb03,Fb04,Fc01,Fc02,Fc03,Fc04,Fd01,Fd02,Fd03,Fd04,Fo01,Fo02,Fo03,Fo04,N0a,N0b,N1a,N1b,N2a,N2b,N3a,N3b,y0,y1,y2,y3,y4,y5,na,Fw01,Fw02,Fw03,Fw04,M0a,M0b,M1a,M1b,M2a,M2b,M3a,M3b,M4a,M4b],by simp [Fa01,Fa02,Fa03,Fa04,Fb01,Fb02,Fb03,Fb04,Fc01,Fc02,Fc03,Fc04,Fd01,Fd02,Fd03,Fd04,Fo01,Fo02,Fo03,Fo04,N0a,N0b,N1a,N1b,N2a,N2b,N3a,N3b,y0,y1,y2,y3,y4,y5,na,Fw01,Fw02,Fw03,Fw04,M0a,M0b,M1a,M1b,M2a,M2b,M3a,M3b,M4a,M4b,hSo],.inr ⟨st.nx+3,st.ep,by simp,by omega,by simp <;> omega,by omega,by simp [nd,zcv,y0,y1,y2,y3,y4,y5]⟩⟩
     ·rcases hN with ⟨rfl,rfl⟩ | ⟨w,ew,rfl,hw5,hwx,hwo,hSw⟩
      ·simp [-getElem?_pos,zjd,v1,v3,v5,v6,v8,v9,v10,hS0,hS1,hS2,hS5,hSo,hlt,hp',hps,hlv,f2,f3,hws,hr40,Fa01,Fa02,Fa03,Fa04,Fb01,Fb02,Fb03,Fb04,Fc01,Fc02,Fc03,Fc04,Fd01,Fd02,Fd03,Fd04,Fo01,Fo02,Fo03,Fo04,N0a,N0b,N1a,N1b,N2a,N2b,N3a,N3b,y0,y1,y2,y3,y4,y5,na]
       refine zam (n-1) (by omega) ⟨i+1,o,ep,Q,[zcv g cfg p],.ref (st.nx+3) none st.ep 0 1,hG',by simp [v1],by simp [v3],by simp [v5],by simp [v6],by simp [v8],by simp [v9],by simp,ho3,ho5,(by simp <;> omega),by simp <;> omega,by simp [Fa01,Fa02,Fa03,Fa04,Fb01,Fb02,Fb03,Fb04,Fc01,Fc02,Fc03,Fc04,Fd01,Fd02,Fd03,Fd04,Fo01,Fo02,Fo03,Fo04,N0a,N0b,N1a,N1b,N2a,N2b,N3a,N3b,y0,y1,y2,y3,y4,y5,na,hS0],by simp [Fa01,Fa02,Fa03,Fa04,Fb01,Fb02,Fb03,Fb04,Fc01,Fc02,Fc03,Fc04,Fd01,Fd02,Fd03,Fd04,Fo01,Fo02,Fo03,Fo04,N0a,N0b,N1a,N1b,N2a,N2b,N3a,N3b,y0,y1,y2,y3,y4,y5,na,hS1],by simp [Fa01,Fa02,Fa03,Fa04,Fb01,Fb02,Fb03,Fb04,Fc01,Fc02,Fc03,Fc04,Fd01,Fd02,Fd03,Fd04,Fo01,Fo02,Fo03,Fo04,N0a,N0b,N1a,N1b,N2a,N2b,N3a,N3b,y0,y1,y2,y3,y4,y5,na,hS2],by simp [Fa01,Fa02,Fa03,Fa04,Fb01,Fb02,Fb03,Fb04,Fc01,Fc02,Fc03,Fc04,Fd01,Fd02,Fd03,Fd04,Fo01,Fo02,Fo03,Fo04,N0a,N0b,N1a,N1b,N2a,N2b,N3a,N3b,y0,y1,y2,y3,y4,y5,na],by simp [Fa01,Fa02,Fa03,Fa04,Fb01,Fb02,Fb03,Fb04,Fc01,Fc02,Fc03,Fc04,Fd01,Fd02,Fd03,Fd04,Fo01,Fo02,Fo03,Fo04,N0a,N0b,N1a,N1b,N2a,N2b,N3a,N3b,y0,y1,y2,y3,y4,y5,na,hSo],.inr ⟨st.nx+3,st.ep,by simp,by omega,by simp <;> omega,by omega,by simp [nd,zcv,y0,y1,y2,y3,y4,y5]⟩⟩
      ·obtain ⟨Fw01,Fw02,Fw03,Fw04⟩:=fr (show w<st.nx by omega)
       have M0a:(w=0)=False:=eq_false (by omega)
       have M0b:(0=w)=False:=eq_false (by omega)
       have M1a:(w=1)=False:=eq_false (by omega)
       have M1b:(1=w)=False:=eq_false (by omega)
       have M2a:(w=2)=False:=eq_false (by omega)
       have M2b:(2=w)=False:=eq_false (by omega)
       have M3a:(w=5)=False:=eq_false (by omega)
       have M3b:(5=w)=False:=eq_false (by omega)
       have M4a:(w=o)=False:=eq_false (by omega)
       have M4b:(o=w)=False:=eq_false (by omega)
       simp [-getElem?_pos,zjd,v1,v3,v5,v6,v8,v9,v10,hS0,hS1,hS2,hS5,hSo,hSw,hlt,hp',hps,hlv,f2,f3,hws,hr40,hr41,hsn,Fa01,Fa02,Fa03,Fa04,Fb01,Fb02,Fb03,Fb04,Fc01,Fc02,Fc03,Fc04,Fd01,Fd02,Fd03,Fd04,Fo01,Fo02,Fo03,Fo04,N0a,N0b,N1a,N1b,N2a,N2b,N3a,N3b,y0,y1,y2,y3,y4,y5,na,Fw01,Fw02,Fw03,Fw04,M0a,M0b,M1a,M1b,M2a,M2b,M3a,M3b,M4a,M4b]
       refine zam (n-1) (by omega) ⟨i+1,o,ep,Q,out++[zcv g cfg p],.ref (st.nx+3) none st.ep 0 (out.length+1),hG',by simp [v1],by simp [v3],by simp [v5],by simp [v6],by simp [v8],by simp [v9],by simp,ho3,ho5,(by simp <;> omega),by simp <;> omega,by simp [Fa01,Fa02,Fa03,Fa04,Fb01,Fb02,Fb03,Fb04,Fc01,Fc02,Fc03,Fc04,Fd01,Fd02,Fd03,Fd04,Fo01,Fo02,Fo03,Fo04,N0a,N0b,N1a,N1b,N2a,N2b,N3a,N3b,y0,y1,y2,y3,y4,y5,na,Fw01,Fw02,Fw03,Fw04,M0a,M0b,M1a,M1b,M2a,M2b,M3a,M3b,M4a,M4b,hS0],by simp [Fa01,Fa02,Fa03,Fa04,Fb01,Fb02,Fb03,Fb04,Fc01,Fc02,Fc03,Fc04,Fd01,Fd02,Fd03,Fd04,Fo01,Fo02,Fo03,Fo04,N0a,N0b,N1a,N1b,N2a,N2b,N3a,N3b,y0,y1,y2,y3,y4,y5,na,Fw01,Fw02,Fw03,Fw04,M0a,M0b,M1a,M1b,M2a,M2b,M3a,M3b,M4a,M4b,hS1],by simp [Fa01,Fa02,Fa03,Fa04,Fb01,Fb02,Fb03,Fb04,Fc01,Fc02,Fc03,Fc04,Fd01,Fd02,Fd03,Fd04,Fo01,Fo02,Fo03,Fo04,N0a,N0b,N1a,N1b,N2a,N2b,N3a,N3b,y0,y1,y2,y3,y4,y5,na,Fw01,Fw02,Fw03,Fw04,M0a,M0b,M1a,M1b,M2a,M2b,M3a,M3b,M4a,M4b,hS2],by simp [Fa01,Fa02,Fa03,Fa04,Fb01,Fb02,Fb03,Fb04,Fc01,Fc02,Fc03,Fc04,Fd01,Fd02,Fd03,Fd04,Fo01,Fo02,Fo03,Fo04,N0a,N0b,N1a,N1b,N2a,N2b,N3a,N3b,y0,y1,y2,y3,y4,y5,na,Fw01,Fw02,Fw03,Fw04,M0a,M0b,M1a,M1b,M2a,M2b,M3a,M3b,M4a,M4b],by simp [Fa01,Fa02,Fa03,Fa04,Fb01,Fb02,Fb03,Fb04,Fc01,Fc02,Fc03,Fc04,Fd01,Fd02,Fd03,Fd04,Fo01,Fo02,Fo03,Fo04,N0a,N0b,N1a,N1b,N2a,N2b,N3a,N3b,y0,y1,y2,y3,y4,y5,na,Fw01,Fw02,Fw03,Fw04,M0a,M0b,M1a,M1b,M2a,M2b,M3a,M3b,M4a,M4b,hSo],.inr ⟨st.nx+3,st.ep,by simp,by omega,by simp <;> omega,by omega,by simp [nd,zcv,y0,y1,y2,y3,y4,y5]⟩⟩
    | true =>
     obtain ⟨m1,hG'⟩:=hG.cut hp hGg.symm
     have t7:=z56 t2
     have hlv:p.l<cfg.de:=by
      have h9:=hG2.symm
      simp only [Bool.and_eq_true,decide_eq_true_eq] at h9
      exact h9.1
     have hK2:K.2=true:=by
      have h9:=hG2.symm
      simp only [Bool.and_eq_true,decide_eq_true_eq] at h9
      exact h9.2
     obtain ⟨kf,kb,X,Y,z,k1,k2,hX,hY,hz,kI⟩:=yj1 (c:=c) (v:=v) (g:=g) (cfg:=cfg) (rows:=p.r) (b:=p.b) (by rw [← hK]; exact hK2)
     rw [← hK] at f1 hG' k1 k2 kI
     obtain ⟨⟨kf',kb',ka,kz⟩,Kb⟩:=K
     simp only at hK2 k1 k2 kI f1 hG'
     subst hK2 k1 k2
     have hfc:=(List.getElem?_eq_some_iff.mp hX).1
     have hfv:=(List.getElem?_eq_some_iff.mp hY).1
     have hbx:=(List.getElem?_eq_some_iff.mp hz).1
     have hX':=zd1 (q:=q) hX
     have hY':=zd1 (q:=q) hY
     have hz':=zbg hz
     have f4:=z4e cfg p.b ⟨kf,kb,ka,kz⟩ kI
     have f5:=z4f cfg kf (by omega)
     have f6:=ycx (zdm cfg kf) p.b (zby cfg p.b ⟨kf,kb,ka,kz⟩).1 (zby cfg p.b ⟨kf,kb,ka,kz⟩).2.1 (z1x _ _ _).1 (z1x _ _ _).2
     have f7:=z4g Y p.r kb (hv Y (List.mem_of_getElem? hY)) (by omega)
     have hkl:zc6 c v cfg p ⟨kf,kb,ka,kz⟩=⟨zaz Y p.r kb,(zej (zdm cfg kf) p.b (zby cfg p.b ⟨kf,kb,ka,kz⟩).1 (zby cfg p.b ⟨kf,kb,ka,kz⟩).2.1).1,p.l+1⟩:=by
      unfold zc6
      simp only [zhx hY,Option.getD_some]
     have hkr:zda c v cfg p ⟨kf,kb,ka,kz⟩=⟨za7 Y p.r kb,(zej (zdm cfg kf) p.b (zby cfg p.b ⟨kf,kb,ka,kz⟩).1 (zby cfg p.b ⟨kf,kb,ka,kz⟩).2.1).2,p.l+1⟩:=by
      unfold zda
      simp only [zhx hY,Option.getD_some]
     have hcn:zfz c ⟨kf,kb,ka,kz⟩ Q.length=⟨kf,z,Q.length,Q.length+1,0⟩:=by
      unfold zfz
      simp only [zhx hX,Option.getD_some,zhx hz]
     rw [hkl,hkr,hcn] at hG'
     clear hkl hkr hcn
     generalize zby cfg p.b ⟨kf,kb,ka,kz⟩=sv at *
     obtain ⟨sl,sr,sb⟩:=sv
     simp only at f4 f6 hG'
     generalize zdm cfg kf=sg at *
     generalize zej sg p.b sl sr=bb at *
     obtain ⟨⟨ll,lh⟩,⟨rl,rh⟩⟩:=bb
     generalize zaz Y p.r kb=L1 at *
     generalize za7 Y p.r kb=R1 at *
     simp only [bnd,cnd] at f1 f4 f6 hG'
     have hQ:=yfi Q ⟨L1,⟨ll,lh⟩,p.l+1⟩ ⟨R1,⟨rl,rh⟩,p.l+1⟩
     have hsn2:=z2o out ⟨kf,z,Q.length,Q.length+1,0⟩
     simp only at hQ hsn2
     have wl:=w64 (x:=p.l+1) (by omega) (by omega)
     have wq:=w64 (x:=(Q.length:Int)+1) (by omega) (by omega)
     have hr482:zak 48 2=true:=by decide
     have hr483:zak 48 (Q.length+2)=true:=by simp [zak]; omega
     rcases hN with ⟨rfl,rfl⟩ | ⟨w,ew,rfl,hw5,hwx,hwo,hSw⟩
     ·simp [-getElem?_pos,zjd,v1,v3,v5,v6,v8,v9,v10,hS0,hS1,hS2,hS5,hSo,hlt,hp',hps,hlv,f1,f4,f5,f6,f7,hX',hY',hz',hfc,hfv,hbx,wl,wq,hr482,hr483,hQ,hws,hr40,Fa01,Fa02,Fa03,Fa04,Fb01,Fb02,Fb03,Fb04,Fc01,Fc02,Fc03,Fc04,Fd01,Fd02,Fd03,Fd04,Fo01,Fo02,Fo03,Fo04,N0a,N0b,N1a,N1b,N2a,N2b,N3a,N3b,y0,y1,y2,y3,y4,y5,na]
      refine zam (n-1) (by omega) ⟨i+1,st.nx+9,st.ep,(Q++[⟨L1,⟨ll,lh⟩,p.l+1⟩,⟨R1,⟨rl,rh⟩,p.l+1⟩]),[⟨kf,z,Q.length,Q.length+1,0⟩],.ref (st.nx+7) none st.ep 0 1,hG',by simp [v1],by simp [v3],by simp [v5],by simp [v6],by simp,by simp [v9],by simp,by omega,by omega,by simp,by simp <;> omega,by simp [Fa01,Fa02,Fa03,Fa04,Fb01,Fb02,Fb03,Fb04,Fc01,Fc02,Fc03,Fc04,Fd01,Fd02,Fd03,Fd04,Fo01,Fo02,Fo03,Fo04,N0a,N0b,N1a,N1b,N2a,N2b,N3a,N3b,y0,y1,y2,y3,y4,y5,na,hS0],by simp [Fa01,Fa02,Fa03,Fa04,Fb01,Fb02,Fb03,Fb04,Fc01,Fc02,Fc03,Fc04,Fd01,Fd02,Fd03,Fd04,Fo01,Fo02,Fo03,Fo04,N0a,N0b,N1a,N1b,N2a,N2b,N3a,N3b,y0,y1,y2,y3,y4,y5,na,hS1],by simp [Fa01,Fa02,Fa03,Fa04,Fb01,Fb02,Fb03,Fb04,Fc01,Fc02,Fc03,Fc04,Fd01,Fd02,Fd03,Fd04,Fo01,Fo02,Fo03,Fo04,N0a,N0b,N1a,N1b,N2a,N2b,N3a,N3b,y0,y1,y2,y3,y4,y5,na,hS2],by simp [Fa01,Fa02,Fa03,Fa04,Fb01,Fb02,Fb03,Fb04,Fc01,Fc02,Fc03,Fc04,Fd01,Fd02,Fd03,Fd04,Fo01,Fo02,Fo03,Fo04,N0a,N0b,N1a,N1b,N2a,N2b,N3a,N3b,y0,y1,y2,y3,y4,y5,na],by simp [Fa01,Fa02,Fa03,Fa04,Fb01,Fb02,Fb03,Fb04,Fc01,Fc02,Fc03,Fc04,Fd01,Fd02,Fd03,Fd04,Fo01,Fo02,Fo03,Fo04,N0a,N0b,N1a,N1b,N2a,N2b,N3a,N3b,y0,y1,y2,y3,y4,y5,na],.inr ⟨st.nx+7,st.ep,by simp,by omega,by simp,by simp,by simp [nd,Fo03,Fo04,Fo01,Fo02,y0,y1,y2,y3,y4,y5]⟩⟩
     ·obtain ⟨Fw01,Fw02,Fw03,Fw04⟩:=fr (show w<st.nx by omega)
      have M0a:(w=0)=False:=eq_false (by omega)
      have M0b:(0=w)=False:=eq_false (by omega)
      have M1a:(w=1)=False:=eq_false (by omega)
      have M1b:(1=w)=False:=eq_false (by omega)
      have M2a:(w=2)=False:=eq_false (by omega)
      have M2b:(2=w)=False:=eq_false (by omega)
      have M3a:(w=5)=False:=eq_false (by omega)
      have M3b:(5=w)=False:=eq_false (by omega)
      have M4a:(w=o)=False:=eq_false (by omega)
      have M4b:(o=w)=False:=eq_false (by omega)
      simp [-getElem?_pos,zjd,v1,v3,v5,v6,v8,v9,v10,hS0,hS1,hS2,hS5,hSo,hSw,hlt,hp',hps,hlv,f1,f4,f5,f6,f7,hX',hY',hz',hfc,hfv,hbx,wl,wq,hr482,hr483,hQ,hws,hr40,hr41,hsn2,Fa01,Fa02,Fa03,Fa04,Fb01,Fb02,Fb03,Fb04,Fc01,Fc02,Fc03,Fc04,Fd01,Fd02,Fd03,Fd04,Fo01,Fo02,Fo03,Fo04,N0a,N0b,N1a,N1b,N2a,N2b,N3a,N3b,y0,y1,y2,y3,y4,y5,na,Fw01,Fw02,Fw03,Fw04,M0a,M0b,M1a,M1b,M2a,M2b,M3a,M3b,M4a,M4b]
      refine zam (n-1) (by omega) ⟨i+1,st.nx+9,st.ep,(Q++[⟨L1,⟨ll,lh⟩,p.l+1⟩,⟨R1,⟨rl,rh⟩,p.l+1⟩]),(out++[⟨kf,z,Q.length,Q.length+1,0⟩]),.ref (st.nx+7) none st.ep 0 (out.length+1),hG',by simp [v1],by simp [v3],by simp [v5],by simp [v6],by simp,by simp [v9],by simp,by omega,by omega,by simp,by simp <;> omega,by simp [Fa01,Fa02,Fa03,Fa04,Fb01,Fb02,Fb03,Fb04,Fc01,Fc02,Fc03,Fc04,Fd01,Fd02,Fd03,Fd04,Fo01,Fo02,Fo03,Fo04,N0a,N0b,N1a,N1b,N2a,N2b,N3a,N3b,y0,y1,y2,y3,y4,y5,na,Fw01,Fw02,Fw03,Fw04,M0a,M0b,M1a,M1b,M2a,M2b,M3a,M3b,M4a,M4b,hS0],by simp [Fa01,Fa02,Fa03,Fa04,Fb01,Fb02,Fb03,Fb04,Fc01,Fc02,Fc03,Fc04,Fd01,Fd02,Fd03,Fd04,Fo01,Fo02,Fo03,Fo04,N0a,N0b,N1a,N1b,N2a,N2b,N3a,N3b,y0,y1,y2,y3,y4,y5,na,Fw01,Fw02,Fw03,Fw04,M0a,M0b,M1a,M1b,M2a,M2b,M3a,M3b,M4a,M4b,hS1],by simp [Fa01,Fa02,Fa03,Fa04,Fb01,Fb02,Fb03,Fb04,Fc01,Fc02,Fc03,Fc04,Fd01,Fd02,Fd03,Fd04,Fo01,Fo02,Fo03,Fo04,N0a,N0b,N1a,N1b,N2a,N2b,N3a,N3b,y0,y1,y2,y3,y4,y5,na,Fw01,Fw02,Fw03,Fw04,M0a,M0b,M1a,M1b,M2a,M2b,M3a,M3b,M4a,M4b,hS2],by simp [Fa01,Fa02,Fa03,Fa04,Fb01,Fb02,Fb03,Fb04,Fc01,Fc02,Fc03,Fc04,Fd01,Fd02,Fd03,Fd04,Fo01,Fo02,Fo03,Fo04,N0a,N0b,N1a,N1b,N2a,N2b,N3a,N3b,y0,y1,y2,y3,y4,y5,na,Fw01,Fw02,Fw03,Fw04,M0a,M0b,M1a,M1b,M2a,M2b,M3a,M3b,M4a,M4b],by simp [Fa01,Fa02,Fa03,Fa04,Fb01,Fb02,Fb03,Fb04,Fc01,Fc02,Fc03,Fc04,Fd01,Fd02,Fd03,Fd04,Fo01,Fo02,Fo03,Fo04,N0a,N0b,N1a,N1b,N2a,N2b,N3a,N3b,y0,y1,y2,y3,y4,y5,na,Fw01,Fw02,Fw03,Fw04,M0a,M0b,M1a,M1b,M2a,M2b,M3a,M3b,M4a,M4b],.inr ⟨st.nx+7,st.ep,by simp,by omega,by simp,by simp,by simp [nd,Fo03,Fo04,Fo01,Fo02,y0,y1,y2,y3,y4,y5]⟩⟩
   ·have hiq:i=Q.length:=by have:=hG.le; omega
    have hgo:=hG.go
    rw [yh4 (List.getElem?_eq_none (by omega)),← hR'] at hgo
    subst hgo
    have hol:=hG.ol
    rcases hN with ⟨rfl,rfl⟩ | ⟨w,ew,rfl,hw5,hwx,hwo,hSw⟩
    ·simp [-getElem?_pos,zjd,v1,v3,v5,v6,v8,v9,v10,hS0,hS1,hS2,hS5,hSo,hlt,Fa01,Fa02,Fa03,Fa04,Fb01,Fb02,Fb03,Fb04,Fc01,Fc02,Fc03,Fc04,Fd01,Fd02,Fd03,Fd04,Fo01,Fo02,Fo03,Fo04,N0a,N0b,N1a,N1b,N2a,N2b,N3a,N3b,y0,y1,y2,y3,y4,y5,na]
    ·obtain ⟨Fw01,Fw02,Fw03,Fw04⟩:=fr (show w<st.nx by omega)
     have M0a:(w=0)=False:=eq_false (by omega)
     have M0b:(0=w)=False:=eq_false (by omega)
     have M1a:(w=1)=False:=eq_false (by omega)
     have M1b:(1=w)=False:=eq_false (by omega)
     have M2a:(w=2)=False:=eq_false (by omega)
     have M2b:(2=w)=False:=eq_false (by omega)
     have M3a:(w=5)=False:=eq_false (by omega)
     have M3b:(5=w)=False:=eq_false (by omega)
     have M4a:(w=o)=False:=eq_false (by omega)
     have M4b:(o=w)=False:=eq_false (by omega)
     simp [-getElem?_pos,zjd,v1,v3,v5,v6,v8,v9,v10,hS0,hS1,hS2,hS5,hSo,hSw,hlt,Fa01,Fa02,Fa03,Fa04,Fb01,Fb02,Fb03,Fb04,Fc01,Fc02,Fc03,Fc04,Fd01,Fd02,Fd03,Fd04,Fo01,Fo02,Fo03,Fo04,N0a,N0b,N1a,N1b,N2a,N2b,N3a,N3b,y0,y1,y2,y3,y4,y5,na,Fw01,Fw02,Fw03,Fw04,M0a,M0b,M1a,M1b,M2a,M2b,M3a,M3b,M4a,M4b]
  ·refine ⟨by simp,by simp,by simp,by simp,by simp,by simp,by simp,by simp,by simp,by simp,by simp,by simp,by simp,by simp,by simp,by simp [hroot],.inl ⟨rfl,rfl⟩⟩
set_option maxHeartbeats 8000000 in
set_option maxRecDepth 8000 in
theorem yva (q:Bool) (c v:List (List Int)) (g:List Int) (cfg:Cfg) (hc : ∀ l∈c,l.length≤1048576) (hv : ∀ l∈v,l.length≤1048576) (hg:g.length≤1048576) (hs:cfg.sg.length≤1048576) (hgi : ∀ x∈g,inI x):RUN T zoz [.agg [.sl 1 (rws q c),.sl 1 (rws q v)],.sl 1 (zac g),cfS cfg]=some ([.agg [.own 5 ((zc8 c v g cfg).1.map nd)],bv (zc8 c v g cfg).2],[]):=by
 have e1:=yb3 q c v g cfg (fun l hl=>Nat.le_trans (hc l hl) (by omega)) (fun l hl=>Nat.le_trans (hv l hl) (by omega)) (by omega) (by omega)
 simp only [zf4] at e1
 cases ht:zd7 c v g cfg with
 | false =>
  rw [ht] at e1
  have hR:zc8 c v g cfg=([],false):=by unfold zc8; rw [ht]; rfl
  rw [hR]
  refine zag z3q rfl ?_
  simp [-getElem?_pos,zss,zst,e1]
 | true =>
  rw [ht] at e1
  have hR:zc8 c v g cfg=(zcb c v g cfg 32 [zbl g] 0 [],true):=by unfold zc8; rw [if_pos ht]
  rw [hR]
  obtain ⟨R,hR'⟩ : ∃ R,R=zcb c v g cfg 32 [zbl g] 0 []:=⟨_,rfl⟩
  rw [← hR']
  obtain ⟨t1,t2,t3,t4⟩:=zhi ht
  obtain ⟨t5,t6⟩:=z1s t1
  have e3:=yu6 g.length (by omega)
  have e4:=yu5
  have hr48:zak 48 1=true:=by decide
  have hG:=GI.start ht
  have hroot:zf9 [zbl g]=[[.own 1 (zac (upl g.length)),iv zki.lo,iv zki.hi,iv 0]]:=by simp [zf9,pnd,zbl,upl]
  simp only [bnd] at e4
  refine zag z3q rfl ?_
  simp [-getElem?_pos,zss,zst,e1,e3,e4,hr48]
  refine za4 (fun n st => ∃ (i o e:Nat) (Q:List Pnd) (out:List Nd) (x:PV),GI c v g cfg n Q i out∧st.V 1 = .sl 1 (zac g)∧st.V 3 = .ptr 0 none 0 0 0∧st.V 5 = .ptr 1 none 0 0 0∧st.V 6 = .ptr 2 none 0 0 0∧st.V 8 = .ptr 3 none 0 0 0∧st.V 9 = .ref o none e 0 Q.length∧st.V 10=iv i∧4<o∧o<st.nx∧3<st.nx∧st.S 0=some (.box [.sl 1 (rws q c),.sl 1 (rws q v)])∧st.S 1=some (.box [iv cfg.ro,iv cfg.de,iv cfg.bi,iv cfg.la,iv cfg.rw,iv cfg.nu,iv cfg.dn,.sl 1 (zac cfg.sg)])∧st.S 2=some (.box [.e0])∧st.S 3=some (.box [x])∧st.S o=some (.row 4 (zf9 Q))∧NC st.S st.nx o out x) ?_ 32 _ ⟨0,5,0,[zbl g],[],.e0,hG,?_⟩
  ·rintro n st ⟨i,o,ep,Q,out,x,hG,v1,v3,v5,v6,v8,v9,v10,ho3,hox,h3x,hS0,hS1,hS2,hS3,hSo,hN⟩
   obtain ⟨Fa01,Fa02,Fa03,Fa04⟩:=fr (show 0<st.nx by omega)
   obtain ⟨Fb01,Fb02,Fb03,Fb04⟩:=fr (show 1<st.nx by omega)
   obtain ⟨Fc01,Fc02,Fc03,Fc04⟩:=fr (show 2<st.nx by omega)
   obtain ⟨Fd01,Fd02,Fd03,Fd04⟩:=fr (show 3<st.nx by omega)
   obtain ⟨Fo01,Fo02,Fo03,Fo04⟩:=fr (show o<st.nx by omega)
   have N0a:(o=0)=False:=eq_false (by omega)
   have N0b:(0=o)=False:=eq_false (by omega)
   have N1a:(o=1)=False:=eq_false (by omega)
   have N1b:(1=o)=False:=eq_false (by omega)
   have N2a:(o=2)=False:=eq_false (by omega)
   have N2b:(2=o)=False:=eq_false (by omega)
   have N3a:(o=3)=False:=eq_false (by omega)
   have N3b:(3=o)=False:=eq_false (by omega)
   have y0:(st.nx=0)=False:=eq_false (by omega)
   have y1:(st.nx=1)=False:=eq_false (by omega)
   have y2:(st.nx=2)=False:=eq_false (by omega)
   have y3:(st.nx=3)=False:=eq_false (by omega)
   have y4:(st.nx=4)=False:=eq_false (by omega)
   have y5:(st.nx=5)=False:=eq_false (by omega)
   have na : ∀ a b:Nat,st.nx+a+b=st.nx+(a+b):=fun a b=>Nat.add_assoc _ _ _
   by_cases hlt:i<Q.length
   ·obtain ⟨p,hp⟩ : ∃ p,Q[i]?=some p:=⟨_,List.getElem?_eq_getElem hlt⟩
    have hp':=z6h hp
    have hps:=yjp hp
    have hpo:=hG.ok p (List.mem_of_getElem? hp)
    obtain ⟨p1,p2,p3,p4⟩:=hpo
    have hn1:=hG.n1
    have hql:=hG.ql
    have hws:=wS hlt (by omega:Q.length≤9223372036854775807)
    have f1:=yu4 q c v g cfg p.r p.b hc hv hg (by omega) hs hgi
    have f2:=yu7 g p.r t4 p1 (by omega)
    have f3:=z39 (zat g p.r) cfg.la p.b (ye1 t4 (by omega))
    have hr40:zak 40 1=true:=by decide
    have hr41:zak 40 (out.length+1)=true:=by have:=hG.ol; simp [zak]; omega
    have hsn:=z2o out (zcv g cfg p)
    simp only [zcv] at hsn
    simp only [bnd] at f1 f3
    obtain ⟨K,hK⟩ : ∃ K,K=za2 c v g cfg p.r p.b:=⟨_,rfl⟩
    obtain ⟨G,hGg⟩ : ∃ G,G=goes c v g cfg p:=⟨_,rfl⟩
    have hG2:G=(decide (p.l<cfg.de) && K.2):=by rw [hGg,hK]; rfl
    cases G with
    | false =>
     obtain ⟨m1,hG'⟩:=hG.leaf hp hGg.symm
     rw [← hK] at f1
     simp only [slc] at f2 f3
     by_cases hlv:p.l<cfg.de
     ·have hK2:K.2=false:=by simpa [hlv] using hG2.symm
      obtain ⟨K,Kb⟩:=K
      simp only at hK2 f1
      subst hK2
      simp only [cnd] at f1
      have hge : ¬ cfg.de≤p.l:=by omega
      rcases hN with ⟨rfl,rfl⟩ | ⟨w,ew,rfl,hw5,hwx,hwo,hSw⟩
      ·simp [-getElem?_pos,zje,v1,v3,v5,v6,v8,v9,v10,hS0,hS1,hS2,hS3,hSo,hlt,hp',hps,hge,f1,f2,f3,hws,hr40,Fa01,Fa02,Fa03,Fa04,Fb01,Fb02,Fb03,Fb04,Fc01,Fc02,Fc03,Fc04,Fd01,Fd02,Fd03,Fd04,Fo01,Fo02,Fo03,Fo04,N0a,N0b,N1a,N1b,N2a,N2b,N3a,N3b,y0,y1,y2,y3,y4,y5,na]
       refine zam (n-1) (by omega) ⟨i+1,o,ep,Q,[zcv g cfg p],.ref (st.nx+3) none st.ep 0 1,hG',by simp [v1],by simp [v3],by simp [v5],by simp [v6],by simp [v8],by simp [v9],by simp,ho3,(by simp <;> omega),by simp <;> omega,by simp [Fa01,Fa02,Fa03,Fa04,Fb01,Fb02,Fb03,Fb04,Fc01,Fc02,Fc03,Fc04,Fd01,Fd02,Fd03,Fd04,Fo01,Fo02,Fo03,Fo04,N0a,N0b,N1a,N1b,N2a,N2b,N3a,N3b,y0,y1,y2,y3,y4,y5,na,hS0],by simp [Fa01,Fa02,Fa03,Fa04,Fb01,Fb02,Fb03,Fb04,Fc01,Fc02,Fc03,Fc04,Fd01,Fd02,Fd03,Fd04,Fo01,Fo02,Fo03,Fo04,N0a,N0b,N1a,N1b,N2a,N2b,N3a,N3b,y0,y1,y2,y3,y4,y5,na,hS1],by simp [Fa01,Fa02,Fa03,Fa04,Fb01,Fb02,Fb03,Fb04,Fc01,Fc02,Fc03,Fc04,Fd01,Fd02,Fd03,Fd04,Fo01,Fo02,Fo03,Fo04,N0a,N0b,N1a,N1b,N2a,N2b,N3a,N3b,y0,y1,y2,y3,y4,y5,na,hS2],by simp [Fa01,Fa02,Fa03,Fa04,Fb01,Fb02,Fb03,Fb04,Fc01,Fc02,Fc03,Fc04,Fd01,Fd02,Fd03,Fd04,Fo01,Fo02,Fo03,Fo04,N0a,N0b,N1a,N1b,N2a,N2b,N3a,N3b,y0,y1,y2,y3,y4,y5,na],by simp [Fa01,Fa02,Fa03,Fa04,Fb01,Fb02,Fb03,Fb04,Fc01,Fc02,Fc03,Fc04,Fd01,Fd02,Fd03,Fd04,Fo01,Fo02,Fo03,Fo04,N0a,N0b,N1a,N1b,N2a,N2b,N3a,N3b,y0,y1,y2,y3,y4,y5,na,hSo],.inr ⟨st.nx+3,st.ep,by simp,by omega,by simp <;> omega,by omega,by simp [nd,zcv,y0,y1,y2,y3,y4,y5]⟩⟩
      ·obtain ⟨Fw01,Fw02,Fw03,Fw04⟩:=fr (show w<st.nx by omega)
       have M0a:(w=0)=False:=eq_false (by omega)
       have M0b:(0=w)=False:=eq_false (by omega)
       have M1a:(w=1)=False:=eq_false (by omega)
       have M1b:(1=w)=False:=eq_false (by omega)
       have M2a:(w=2)=False:=eq_false (by omega)
       have M2b:(2=w)=False:=eq_false (by omega)
       have M3a:(w=3)=False:=eq_false (by omega)
       have M3b:(3=w)=False:=eq_false (by omega)
       have M4a:(w=o)=False:=eq_false (by omega)
       have M4b:(o=w)=False:=eq_false (by omega)
       simp [-getElem?_pos,zje,v1,v3,v5,v6,v8,v9,v10,hS0,hS1,hS2,hS3,hSo,hSw,hlt,hp',hps,hge,f1,f2,f3,hws,hr40,hr41,hsn,Fa01,Fa02,Fa03,Fa04,Fb01,Fb02,Fb03,Fb04,Fc01,Fc02,Fc03,Fc04,Fd01,Fd02,Fd03,Fd04,Fo01,Fo02,Fo03,Fo04,N0a,N0b,N1a,N1b,N2a,N2b,N3a,N3b,y0,y1,y2,y3,y4,y5,na,Fw01,Fw02,Fw03,Fw04,M0a,M0b,M1a,M1b,M2a,M2b,M3a,M3b,M4a,M4b]
       refine zam (n-1) (by omega) ⟨i+1,o,ep,Q,out++[zcv g cfg p],.ref (st.nx+3) none st.ep 0 (out.length+1),hG',by simp [v1],by simp [v3],by simp [v5],by simp [v6],by simp [v8],by simp [v9],by simp,ho3,(by simp <;> omega),by simp <;> omega,by simp [Fa01,Fa02,Fa03,Fa04,Fb01,Fb02,Fb03,Fb04,Fc01,Fc02,Fc03,Fc04,Fd01,Fd02,Fd03,Fd04,Fo01,Fo02,Fo03,Fo04,N0a,N0b,N1a,N1b,N2a,N2b,N3a,N3b,y0,y1,y2,y3,y4,y5,na,Fw01,Fw02,Fw03,Fw04,M0a,M0b,M1a,M1b,M2a,M2b,M3a,M3b,M4a,M4b,hS0],by simp [Fa01,Fa02,Fa03,Fa04,Fb01,Fb02,Fb03,Fb04,Fc01,Fc02,Fc03,Fc04,Fd01,Fd02,Fd03,Fd04,Fo01,Fo02,Fo03,Fo04,N0a,N0b,N1a,N1b,N2a,N2b,N3a,N3b,y0,y1,y2,y3,y4,y5,na,Fw01,Fw02,Fw03,Fw04,M0a,M0b,M1a,M1b,M2a,M2b,M3a,M3b,M4a,M4b,hS1],by simp [Fa01,Fa02,Fa03,Fa04,Fb01,Fb02,Fb03,Fb04,Fc01,Fc02,Fc03,Fc04,Fd01,Fd02,Fd03,Fd04,Fo01,Fo02,Fo03,Fo04,N0a,N0b,N1a,N1b,N2a,N2b,N3a,N3b,y0,y1,y2,y3,y4,y5,na,Fw01,Fw02,Fw03,Fw04,M0a,M0b,M1a,M1b,M2a,M2b,M3a,M3b,M4a,M4b,hS2],by simp [Fa01,Fa02,Fa03,Fa04,Fb01,Fb02,Fb03,Fb04,Fc01,Fc02,Fc03,Fc04,Fd01,Fd02,Fd03,Fd04,Fo01,Fo02,Fo03,Fo04,N0a,N0b,N1a,N1b,N2a,N2b,N3a,N3b,y0,y1,y2,y3,y4,y5,na,Fw01,Fw02,Fw03,Fw04,M0a,M0b,M1a,M1b,M2a,M2b,M3a,M3b,M4a,M4b],by simp [Fa01,Fa02,Fa03,Fa04,Fb01,Fb02,Fb03,Fb04,Fc01,Fc02,Fc03,Fc04,Fd01,Fd02,Fd03,Fd04,Fo01,Fo02,Fo03,Fo04,N0a,N0b,N1a,N1b,N2a,N2b,N3a,N3b,y0,y1,y2,y3,y4,y5,na,Fw01,Fw02,Fw03,Fw04,M0a,M0b,M1a,M1b,M2a,M2b,M3a,M3b,M4a,M4b,hSo],.inr ⟨st.nx+3,st.ep,by simp,by omega,by simp <;> omega,by omega,by simp [nd,zcv,y0,y1,y2,y3,y4,y5]⟩⟩
     ·obtain ⟨K,Kb⟩:=K
      simp only [cnd] at f1
      have hge:cfg.de≤p.l:=by omega
      rcases hN with ⟨rfl,rfl⟩ | ⟨w,ew,rfl,hw5,hwx,hwo,hSw⟩
      ·simp [-getElem?_pos,zje,v1,v3,v5,v6,v8,v9,v10,hS0,hS1,hS2,hS3,hSo,hlt,hp',hps,hge,f1,f2,f3,hws,hr40,Fa01,Fa02,Fa03,Fa04,Fb01,Fb02,Fb03,Fb04,Fc01,Fc02,Fc03,Fc04,Fd01,Fd02,Fd03,Fd04,Fo01,Fo02,Fo03,Fo04,N0a,N0b,N1a,N1b,N2a,N2b,N3a,N3b,y0,y1,y2,y3,y4,y5,na]
       refine zam (n-1) (by omega) ⟨i+1,o,ep,Q,[zcv g cfg p],.ref (st.nx+3) none st.ep 0 1,hG',by simp [v1],by simp [v3],by simp [v5],by simp [v6],by simp [v8],by simp [v9],by simp,ho3,(by simp <;> omega),by simp <;> omega,by simp [Fa01,Fa02,Fa03,Fa04,Fb01,Fb02,Fb03,Fb04,Fc01,Fc02,Fc03,Fc04,Fd01,Fd02,Fd03,Fd04,Fo01,Fo02,Fo03,Fo04,N0a,N0b,N1a,N1b,N2a,N2b,N3a,N3b,y0,y1,y2,y3,y4,y5,na,hS0],by simp [Fa01,Fa02,Fa03,Fa04,Fb01,Fb02,Fb03,Fb04,Fc01,Fc02,Fc03,Fc04,Fd01,Fd02,Fd03,Fd04,Fo01,Fo02,Fo03,Fo04,N0a,N0b,N1a,N1b,N2a,N2b,N3a,N3b,y0,y1,y2,y3,y4,y5,na,hS1],by simp [Fa01,Fa02,Fa03,Fa04,Fb01,Fb02,Fb03,Fb04,Fc01,Fc02,Fc03,Fc04,Fd01,Fd02,Fd03,Fd04,Fo01,Fo02,Fo03,Fo04,N0a,N0b,N1a,N1b,N2a,N2b,N3a,N3b,y0,y1,y2,y3,y4,y5,na,hS2],by simp [Fa01,Fa02,Fa03,Fa04,Fb01,Fb02,Fb03,Fb04,Fc01,Fc02,Fc03,Fc04,Fd01,Fd02,Fd03,Fd04,Fo01,Fo02,Fo03,Fo04,N0a,N0b,N1a,N1b,N2a,N2b,N3a,N3b,y0,y1,y2,y3,y4,y5,na],by simp [Fa01,Fa02,Fa03,Fa04,Fb01,Fb02,Fb03,Fb04,Fc01,Fc02,Fc03,Fc04,Fd01,Fd02,Fd03,Fd04,Fo01,Fo02,Fo03,Fo04,N0a,N0b,N1a,N1b,N2a,N2b,N3a,N3b,y0,y1,y2,y3,y4,y5,na,hSo],.inr ⟨st.nx+3,st.ep,by simp,by omega,by simp <;> omega,by omega,by simp [nd,zcv,y0,y1,y2,y3,y4,y5]⟩⟩
      ·obtain ⟨Fw01,Fw02,Fw03,Fw04⟩:=fr (show w<st.nx by omega)
       have M0a:(w=0)=False:=eq_false (by omega)
       have M0b:(0=w)=False:=eq_false (by omega)
       have M1a:(w=1)=False:=eq_false (by omega)
       have M1b:(1=w)=False:=eq_false (by omega)
       have M2a:(w=2)=False:=eq_false (by omega)
       have M2b:(2=w)=False:=eq_false (by omega)
       have M3a:(w=3)=False:=eq_false (by omega)
       have M3b:(3=w)=False:=eq_false (by omega)
       have M4a:(w=o)=False:=eq_false (by omega)
       have M4b:(o=w)=False:=eq_false (by omega)
       simp [-getElem?_pos,zje,v1,v3,v5,v6,v8,v9,v10,hS0,hS1,hS2,hS3,hSo,hSw,hlt,hp',hps,hge,f1,f2,f3,hws,hr40,hr41,hsn,Fa01,Fa02,Fa03,Fa04,Fb01,Fb02,Fb03,Fb04,Fc01,Fc02,Fc03,Fc04,Fd01,Fd02,Fd03,Fd04,Fo01,Fo02,Fo03,Fo04,N0a,N0b,N1a,N1b,N2a,N2b,N3a,N3b,y0,y1,y2,y3,y4,y5,na,Fw01,Fw02,Fw03,Fw04,M0a,M0b,M1a,M1b,M2a,M2b,M3a,M3b,M4a,M4b]
       refine zam (n-1) (by omega) ⟨i+1,o,ep,Q,out++[zcv g cfg p],.ref (st.nx+3) none st.ep 0 (out.length+1),hG',by simp [v1],by simp [v3],by simp [v5],by simp [v6],by simp [v8],by simp [v9],by simp,ho3,(by simp <;> omega),by simp <;> omega,by simp [Fa01,Fa02,Fa03,Fa04,Fb01,Fb02,Fb03,Fb04,Fc01,Fc02,Fc03,Fc04,Fd01,Fd02,Fd03,Fd04,Fo01,Fo02,Fo03,Fo04,N0a,N0b,N1a,N1b,N2a,N2b,N3a,N3b,y0,y1,y2,y3,y4,y5,na,Fw01,Fw02,Fw03,Fw04,M0a,M0b,M1a,M1b,M2a,M2b,M3a,M3b,M4a,M4b,hS0],by simp [Fa01,Fa02,Fa03,Fa04,Fb01,Fb02,Fb03,Fb04,Fc01,Fc02,Fc03,Fc04,Fd01,Fd02,Fd03,Fd04,Fo01,Fo02,Fo03,Fo04,N0a,N0b,N1a,N1b,N2a,N2b,N3a,N3b,y0,y1,y2,y3,y4,y5,na,Fw01,Fw02,Fw03,Fw04,M0a,M0b,M1a,M1b,M2a,M2b,M3a,M3b,M4a,M4b,hS1],by simp [Fa01,Fa02,Fa03,Fa04,Fb01,Fb02,Fb03,Fb04,Fc01,Fc02,Fc03,Fc04,Fd01,Fd02,Fd03,Fd04,Fo01,Fo02,Fo03,Fo04,N0a,N0b,N1a,N1b,N2a,N2b,N3a,N3b,y0,y1,y2,y3,y4,y5,na,Fw01,Fw02,Fw03,Fw04,M0a,M0b,M1a,M1b,M2a,M2b,M3a,M3b,M4a,M4b,hS2],by simp [Fa01,Fa02,Fa03,Fa04,Fb01,Fb02,Fb03,Fb04,Fc01,Fc02,Fc03,Fc04,Fd01,Fd02,Fd03,Fd04,Fo01,Fo02,Fo03,Fo04,N0a,N0b,N1a,N1b,N2a,N2b,N3a,N3b,y0,y1,y2,y3,y4,y5,na,Fw01,Fw02,Fw03,Fw04,M0a,M0b,M1a,M1b,M2a,M2b,M3a,M3b,M4a,M4b],by simp [Fa01,Fa02,Fa03,Fa04,Fb01,Fb02,Fb03,Fb04,Fc01,Fc02,Fc03,Fc04,Fd01,Fd02,Fd03,Fd04,Fo01,Fo02,Fo03,Fo04,N0a,N0b,N1a,N1b,N2a,N2b,N3a,N3b,y0,y1,y2,y3,y4,y5,na,Fw01,Fw02,Fw03,Fw04,M0a,M0b,M1a,M1b,M2a,M2b,M3a,M3b,M4a,M4b,hSo],.inr ⟨st.nx+3,st.ep,by simp,by omega,by simp <;> omega,by omega,by simp [nd,zcv,y0,y1,y2,y3,y4,y5]⟩⟩
    | true =>
     obtain ⟨m1,hG'⟩:=hG.cut hp hGg.symm
     have t7:=z56 t2
     have hlv:p.l<cfg.de:=by
      have h9:=hG2.symm
      simp only [Bool.and_eq_true,decide_eq_true_eq] at h9
      exact h9.1
     have hK2:K.2=true:=by
      have h9:=hG2.symm
      simp only [Bool.and_eq_true,decide_eq_true_eq] at h9
      exact h9.2
     obtain ⟨kf,kb,X,Y,z,k1,k2,hX,hY,hz,kI⟩:=yj1 (c:=c) (v:=v) (g:=g) (cfg:=cfg) (rows:=p.r) (b:=p.b) (by rw [← hK]; exact hK2)
     rw [← hK] at f1 hG' k1 k2 kI
     obtain ⟨⟨kf',kb',ka,kz⟩,Kb⟩:=K
     simp only at hK2 k1 k2 kI f1 hG'
     subst hK2 k1 k2
     have hfc:=(List.getElem?_eq_some_iff.mp hX).1
     have hfv:=(List.getElem?_eq_some_iff.mp hY).1
     have hbx:=(List.getElem?_eq_some_iff.mp hz).1
     have hX':=zd1 (q:=q) hX
     have hY':=zd1 (q:=q) hY
     have hz':=zbg hz
     have f4:=yct cfg p.b ⟨kf,kb,ka,kz⟩ kI
     have f5:=ycu cfg kf (by omega)
     have f6:=yux (zdm cfg kf) p.b (zby cfg p.b ⟨kf,kb,ka,kz⟩).1 (zby cfg p.b ⟨kf,kb,ka,kz⟩).2.1 (z1x _ _ _).1 (z1x _ _ _).2
     have f7:=yu8 Y p.r kb (hv Y (List.mem_of_getElem? hY)) (by omega)
     have hkl:zc6 c v cfg p ⟨kf,kb,ka,kz⟩=⟨zaz Y p.r kb,(zej (zdm cfg kf) p.b (zby cfg p.b ⟨kf,kb,ka,kz⟩).1 (zby cfg p.b ⟨kf,kb,ka,kz⟩).2.1).1,p.l+1⟩:=by
      unfold zc6
      simp only [zhx hY,Option.getD_some]
     have hkr:zda c v cfg p ⟨kf,kb,ka,kz⟩=⟨za7 Y p.r kb,(zej (zdm cfg kf) p.b (zby cfg p.b ⟨kf,kb,ka,kz⟩).1 (zby cfg p.b ⟨kf,kb,ka,kz⟩).2.1).2,p.l+1⟩:=by
      unfold zda
      simp only [zhx hY,Option.getD_some]
     have hcn:zfz c ⟨kf,kb,ka,kz⟩ Q.length=⟨kf,z,Q.length,Q.length+1,0⟩:=by
      unfold zfz
      simp only [zhx hX,Option.getD_some,zhx hz]
     rw [hkl,hkr,hcn] at hG'
     clear hkl hkr hcn
     generalize zby cfg p.b ⟨kf,kb,ka,kz⟩=sv at *
     obtain ⟨sl,sr,sb⟩:=sv
     simp only at f4 f6 hG'
     generalize zdm cfg kf=sg at *
     generalize zej sg p.b sl sr=bb at *
     obtain ⟨⟨ll,lh⟩,⟨rl,rh⟩⟩:=bb
     generalize zaz Y p.r kb=L1 at *
     generalize za7 Y p.r kb=R1 at *
     simp only [bnd,cnd] at f1 f4 f6 hG'
     have hQ:=yfi Q ⟨L1,⟨ll,lh⟩,p.l+1⟩ ⟨R1,⟨rl,rh⟩,p.l+1⟩
     have hsn2:=z2o out ⟨kf,z,Q.length,Q.length+1,0⟩
     simp only at hQ hsn2
     have wl:=w64 (x:=p.l+1) (by omega) (by omega)
     have wq:=w64 (x:=(Q.length:Int)+1) (by omega) (by omega)
     have hge : ¬ cfg.de≤p.l:=by omega
     have hr482:zak 48 2=true:=by decide
     have hr483:zak 48 (Q.length+2)=true:=by simp [zak]; omega
     rcases hN with ⟨rfl,rfl⟩ | ⟨w,ew,rfl,hw5,hwx,hwo,hSw⟩
     ·simp [-getElem?_pos,zje,v1,v3,v5,v6,v8,v9,v10,hS0,hS1,hS2,hS3,hSo,hlt,hp',hps,hge,f1,f4,f5,f6,f7,hX',hY',hz',hfc,hfv,hbx,wl,wq,hr482,hr483,hQ,hws,hr40,Fa01,Fa02,Fa03,Fa04,Fb01,Fb02,Fb03,Fb04,Fc01,Fc02,Fc03,Fc04,Fd01,Fd02,Fd03,Fd04,Fo01,Fo02,Fo03,Fo04,N0a,N0b,N1a,N1b,N2a,N2b,N3a,N3b,y0,y1,y2,y3,y4,y5,na]
      refine zam (n-1) (by omega) ⟨i+1,st.nx+9,st.ep,(Q++[⟨L1,⟨ll,lh⟩,p.l+1⟩,⟨R1,⟨rl,rh⟩,p.l+1⟩]),[⟨kf,z,Q.length,Q.length+1,0⟩],.ref (st.nx+7) none st.ep 0 1,hG',by simp [v1],by simp [v3],by simp [v5],by simp [v6],by simp [v8],by simp,by simp,by omega,by simp,by simp <;> omega,by simp [Fa01,Fa02,Fa03,Fa04,Fb01,Fb02,Fb03,Fb04,Fc01,Fc02,Fc03,Fc04,Fd01,Fd02,Fd03,Fd04,Fo01,Fo02,Fo03,Fo04,N0a,N0b,N1a,N1b,N2a,N2b,N3a,N3b,y0,y1,y2,y3,y4,y5,na,hS0],by simp [Fa01,Fa02,Fa03,Fa04,Fb01,Fb02,Fb03,Fb04,Fc01,Fc02,Fc03,Fc04,Fd01,Fd02,Fd03,Fd04,Fo01,Fo02,Fo03,Fo04,N0a,N0b,N1a,N1b,N2a,N2b,N3a,N3b,y0,y1,y2,y3,y4,y5,na,hS1],by simp [Fa01,Fa02,Fa03,Fa04,Fb01,Fb02,Fb03,Fb04,Fc01,Fc02,Fc03,Fc04,Fd01,Fd02,Fd03,Fd04,Fo01,Fo02,Fo03,Fo04,N0a,N0b,N1a,N1b,N2a,N2b,N3a,N3b,y0,y1,y2,y3,y4,y5,na,hS2],by simp [Fa01,Fa02,Fa03,Fa04,Fb01,Fb02,Fb03,Fb04,Fc01,Fc02,Fc03,Fc04,Fd01,Fd02,Fd03,Fd04,Fo01,Fo02,Fo03,Fo04,N0a,N0b,N1a,N1b,N2a,N2b,N3a,N3b,y0,y1,y2,y3,y4,y5,na],by simp [Fa01,Fa02,Fa03,Fa04,Fb01,Fb02,Fb03,Fb04,Fc01,Fc02,Fc03,Fc04,Fd01,Fd02,Fd03,Fd04,Fo01,Fo02,Fo03,Fo04,N0a,N0b,N1a,N1b,N2a,N2b,N3a,N3b,y0,y1,y2,y3,y4,y5,na],.inr ⟨st.nx+7,st.ep,by simp,by omega,by simp,by simp,by simp [nd,Fo03,Fo04,Fo01,Fo02,y0,y1,y2,y3,y4,y5]⟩⟩
     ·obtain ⟨Fw01,Fw02,Fw03,Fw04⟩:=fr (show w<st.nx by omega)
      have M0a:(w=0)=False:=eq_false (by omega)
      have M0b:(0=w)=False:=eq_false (by omega)
      have M1a:(w=1)=False:=eq_false (by omega)
      have M1b:(1=w)=False:=eq_false (by omega)
      have M2a:(w=2)=False:=eq_false (by omega)
      have M2b:(2=w)=False:=eq_false (by omega)
      have M3a:(w=3)=False:=eq_false (by omega)
      have M3b:(3=w)=False:=eq_false (by omega)
      have M4a:(w=o)=False:=eq_false (by omega)
      have M4b:(o=w)=False:=eq_false (by omega)
      simp [-getElem?_pos,zje,v1,v3,v5,v6,v8,v9,v10,hS0,hS1,hS2,hS3,hSo,hSw,hlt,hp',hps,hge,f1,f4,f5,f6,f7,hX',hY',hz',hfc,hfv,hbx,wl,wq,hr482,hr483,hQ,hws,hr40,hr41,hsn2,Fa01,Fa02,Fa03,Fa04,Fb01,Fb02,Fb03,Fb04,Fc01,Fc02,Fc03,Fc04,Fd01,Fd02,Fd03,Fd04,Fo01,Fo02,Fo03,Fo04,N0a,N0b,N1a,N1b,N2a,N2b,N3a,N3b,y0,y1,y2,y3,y4,y5,na,Fw01,Fw02,Fw03,Fw04,M0a,M0b,M1a,M1b,M2a,M2b,M3a,M3b,M4a,M4b]
      refine zam (n-1) (by omega) ⟨i+1,st.nx+9,st.ep,(Q++[⟨L1,⟨ll,lh⟩,p.l+1⟩,⟨R1,⟨rl,rh⟩,p.l+1⟩]),(out++[⟨kf,z,Q.length,Q.length+1,0⟩]),.ref (st.nx+7) none st.ep 0 (out.length+1),hG',by simp [v1],by simp [v3],by simp [v5],by simp [v6],by simp [v8],by simp,by simp,by omega,by simp,by simp <;> omega,by simp [Fa01,Fa02,Fa03,Fa04,Fb01,Fb02,Fb03,Fb04,Fc01,Fc02,Fc03,Fc04,Fd01,Fd02,Fd03,Fd04,Fo01,Fo02,Fo03,Fo04,N0a,N0b,N1a,N1b,N2a,N2b,N3a,N3b,y0,y1,y2,y3,y4,y5,na,Fw01,Fw02,Fw03,Fw04,M0a,M0b,M1a,M1b,M2a,M2b,M3a,M3b,M4a,M4b,hS0],by simp [Fa01,Fa02,Fa03,Fa04,Fb01,Fb02,Fb03,Fb04,Fc01,Fc02,Fc03,Fc04,Fd01,Fd02,Fd03,Fd04,Fo01,Fo02,Fo03,Fo04,N0a,N0b,N1a,N1b,N2a,N2b,N3a,N3b,y0,y1,y2,y3,y4,y5,na,Fw01,Fw02,Fw03,Fw04,M0a,M0b,M1a,M1b,M2a,M2b,M3a,M3b,M4a,M4b,hS1],by simp [Fa01,Fa02,Fa03,Fa04,Fb01,Fb02,Fb03,Fb04,Fc01,Fc02,Fc03,Fc04,Fd01,Fd02,Fd03,Fd04,Fo01,Fo02,Fo03,Fo04,N0a,N0b,N1a,N1b,N2a,N2b,N3a,N3b,y0,y1,y2,y3,y4,y5,na,Fw01,Fw02,Fw03,Fw04,M0a,M0b,M1a,M1b,M2a,M2b,M3a,M3b,M4a,M4b,hS2],by simp [Fa01,Fa02,Fa03,Fa04,Fb01,Fb02,Fb03,Fb04,Fc01,Fc02,Fc03,Fc04,Fd01,Fd02,Fd03,Fd04,Fo01,Fo02,Fo03,Fo04,N0a,N0b,N1a,N1b,N2a,N2b,N3a,N3b,y0,y1,y2,y3,y4,y5,na,Fw01,Fw02,Fw03,Fw04,M0a,M0b,M1a,M1b,M2a,M2b,M3a,M3b,M4a,M4b],by simp [Fa01,Fa02,Fa03,Fa04,Fb01,Fb02,Fb03,Fb04,Fc01,Fc02,Fc03,Fc04,Fd01,Fd02,Fd03,Fd04,Fo01,Fo02,Fo03,Fo04,N0a,N0b,N1a,N1b,N2a,N2b,N3a,N3b,y0,y1,y2,y3,y4,y5,na,Fw01,Fw02,Fw03,Fw04,M0a,M0b,M1a,M1b,M2a,M2b,M3a,M3b,M4a,M4b],.inr ⟨st.nx+7,st.ep,by simp,by omega,by simp,by simp,by simp [nd,Fo03,Fo04,Fo01,Fo02,y0,y1,y2,y3,y4,y5]⟩⟩
   ·have hiq:i=Q.length:=by have:=hG.le; omega
    have hgo:=hG.go
    rw [yh4 (List.getElem?_eq_none (by omega)),← hR'] at hgo
    subst hgo
    have hol:=hG.ol
    rcases hN with ⟨rfl,rfl⟩ | ⟨w,ew,rfl,hw5,hwx,hwo,hSw⟩
    ·simp [-getElem?_pos,zje,v1,v3,v5,v6,v8,v9,v10,hS0,hS1,hS2,hS3,hSo,hlt,Fa01,Fa02,Fa03,Fa04,Fb01,Fb02,Fb03,Fb04,Fc01,Fc02,Fc03,Fc04,Fd01,Fd02,Fd03,Fd04,Fo01,Fo02,Fo03,Fo04,N0a,N0b,N1a,N1b,N2a,N2b,N3a,N3b,y0,y1,y2,y3,y4,y5,na]
    ·obtain ⟨Fw01,Fw02,Fw03,Fw04⟩:=fr (show w<st.nx by omega)
     have M0a:(w=0)=False:=eq_false (by omega)
     have M0b:(0=w)=False:=eq_false (by omega)
     have M1a:(w=1)=False:=eq_false (by omega)
     have M1b:(1=w)=False:=eq_false (by omega)
     have M2a:(w=2)=False:=eq_false (by omega)
     have M2b:(2=w)=False:=eq_false (by omega)
     have M3a:(w=3)=False:=eq_false (by omega)
     have M3b:(3=w)=False:=eq_false (by omega)
     have M4a:(w=o)=False:=eq_false (by omega)
     have M4b:(o=w)=False:=eq_false (by omega)
     simp [-getElem?_pos,zje,v1,v3,v5,v6,v8,v9,v10,hS0,hS1,hS2,hS3,hSo,hSw,hlt,Fa01,Fa02,Fa03,Fa04,Fb01,Fb02,Fb03,Fb04,Fc01,Fc02,Fc03,Fc04,Fd01,Fd02,Fd03,Fd04,Fo01,Fo02,Fo03,Fo04,N0a,N0b,N1a,N1b,N2a,N2b,N3a,N3b,y0,y1,y2,y3,y4,y5,na,Fw01,Fw02,Fw03,Fw04,M0a,M0b,M1a,M1b,M2a,M2b,M3a,M3b,M4a,M4b]
  ·refine ⟨by simp,by simp,by simp,by simp,by simp,by simp,by simp,by simp,by simp,by simp,by simp,by simp,by simp,by simp,by simp [hroot],.inl ⟨rfl,rfl⟩⟩
theorem z7e {c v:List (List Int)} {g:List Int} {cfg:Cfg} : ∀ (n:Nat) (q:List Pnd) (i:Nat) (out:List Nd),(zcb c v g cfg n q i out).length≤out.length+n
 | 0,q,i,out=>by simp [zcb]
 | n+1,q,i,out=>by
  rw [zcb]
  split
  ·omega
  ·split
   ·refine Nat.le_trans (z7e n _ _ _) ?_
    simp; omega
   ·refine Nat.le_trans (z7e n _ _ _) ?_
    simp; omega
theorem yye (c v:List (List Int)) (g:List Int) (cfg:Cfg):(zc8 c v g cfg).1.length≤32:=by
 unfold zc8
 split
 ·have:=z7e (c:=c) (v:=v) (g:=g) (cfg:=cfg) 32 [zbl g] 0 []
  simpa using this
 ·simp
def zg4 (n:Nat) (r:List Int):Bool:=decide ((r.length:Int)=n) && r.all zbr
def zll (t:Ta):Bool:=zai t.ns.length 1 4 && zjp (t.ns++[t.nm]) && zai t.rw.length 1 40 && decide ((t.lb.length:Int)=t.rw.length) && t.lb.all zbr && t.rw.all (zg4 t.ns.length)
theorem yj4 {L:List ByteArray} {x:ByteArray} {i:Nat} (h:i<L.length):nmB (L++[x]) i=nmB L i:=by
 obtain ⟨y,hy⟩ : ∃ y,L[i]?=some y:=⟨_,List.getElem?_eq_getElem h⟩
 have hy2:(L++[x])[i]?=some y:=by rw [List.getElem?_append_left h]; exact hy
 rw [z3d hy,z3d hy2,List.take_append_of_le_length (by omega)]
theorem ywb {L:List ByteArray} {x:ByteArray}:nmB (L++[x]) L.length=(zfl x && !zg6 L x):=by
 rw [z3d (x:=x) (by simp)]
 simp
theorem yyp (L:List ByteArray) (x:ByteArray):zjp (L++[x])=(zjp L && (zfl x && !zg6 L x)):=by
 unfold zjp
 rw [show (L++[x]).length=L.length+1 by simp,List.range_succ,List.all_append]
 simp only [List.all_cons,List.all_nil,Bool.and_true]
 rw [ywb]
 congr 1
 rw [Bool.eq_iff_iff,List.all_eq_true,List.all_eq_true]
 constructor
 ·intro h j hj; rw [← yj4 (x:=x) (List.mem_range.mp hj)]; exact h j hj
 ·intro h j hj; rw [yj4 (List.mem_range.mp hj)]; exact h j hj
abbrev taB (q:Bool) (t:Ta):List PV:=[.sl 1 (zdx t.ns),.v (.string t.nm),.sl 1 (rws q t.rw),.sl 1 (zac t.lb)]
theorem yyk (q:Bool) (t:Ta) (ht:TaL 9223372036854775807 t) {Q:Ex→St→Prop} {st:St} (h1:st.V 1 = .ptr 0 none 0 0 0) (h3:st.V 3=iv t.ns.length) (h4:st.V 4=iv (0:Nat)) (hS:st.S 0=some (.box (taB q t)))
  (hr:zjp t.ns=false→∀ s:St,s.V 2=bv false→Q .ret s) (he:zjp t.ns=true→∀ s:St,s.V 1 = .ptr 0 none 0 0 0→s.V 3=iv t.ns.length→s.S 0=some (.box (taB q t))→Q (.exit 0) s):W (zad T) (RUN T) (.loop zq9) st Q:=by
 refine za4 (fun n st => ∃ i:Nat,i+n=t.ns.length∧(∀ j,j<i→nmB t.ns j=true)∧st.V 1 = .ptr 0 none 0 0 0∧st.V 3=iv t.ns.length∧st.V 4=iv i∧st.S 0=some (.box (taB q t))) ?_ t.ns.length _ ⟨0,by omega,fun _ h=>by omega,h1,h3,h4,hS⟩
 clear h1 h3 h4 hS
 rintro n st ⟨i,hi,hj,v1,v3,v4,hS⟩
 by_cases h:i<t.ns.length
 ·obtain ⟨x,hx⟩ : ∃ x,t.ns[i]?=some x:=⟨_,List.getElem?_eq_getElem h⟩
  have hx':=yek hx
  have hw:=wS h ht.ns
  have hml:=ht.ns
  have hN:=yb9 x (ht.ss x (List.mem_of_getElem? hx))
  have hC:=yca (t.ns.take i) x (by simp; omega)
  have hc:=z3d hx
  have hil:i≤t.ns.length:=by omega
  cases a1:zfl x with
  | false =>
   rw [a1] at hN hc
   simp [-getElem?_pos,zq9,v1,v3,v4,hS,hx',h,hw,hN]
   exact hr (ziq h (by rw [hc]; rfl)) _ (by simp)
  | true =>
   rw [a1] at hN hc
   cases a2:zg6 (t.ns.take i) x with
   | true =>
    rw [a2] at hC hc
    simp [-getElem?_pos,zq9,v1,v3,v4,hS,hx',h,hw,hN,hC,hil,yf3]
    exact hr (ziq h (by rw [hc]; rfl)) _ (by simp)
   | false =>
    rw [a2] at hC hc
    simp [-getElem?_pos,zq9,v1,v3,v4,hS,hx',h,hw,hN,hC,hil,yf3]
    exact zam (n-1) (by omega) ⟨i+1,by omega,zr0 hj (by rw [hc]; rfl),by simp [v1],by simp [v3],by simp,by simp [hS]⟩
 ·simp [-getElem?_pos,zq9,v3,v4,h]
  exact he (z1r fun j hj'=>hj j (by omega)) _ (by simp [v1]) (by simp [v3]) (by simp [hS])
theorem y03 (q:Bool) (t:Ta) (ht:TaL 9223372036854775807 t) {r:List Int} {j:Nat} (hj:t.rw[j]?=some r) (hl:r.length=t.ns.length) {Q:Ex→St→Prop} {st:St} (h1:st.V 1 = .ptr 0 none 0 0 0) (h3:st.V 3=iv t.ns.length) (h5:st.V 5=iv j) (h6:st.V 6=iv (0:Nat)) (hS:st.S 0=some (.box (taB q t)))
  (hr:r.all zbr=false→∀ s:St,s.V 2=bv false→Q .ret s) (he:r.all zbr=true→∀ s:St,s.V 1 = .ptr 0 none 0 0 0→s.V 3=iv t.ns.length→s.V 5=iv j→s.S 0=some (.box (taB q t))→Q (.exit 4) s):W (zad T) (RUN T) (.loop zt8) st Q:=by
 have hj':=zd1 (q:=q) hj
 have hjl:=(List.getElem?_eq_some_iff.mp hj).1
 refine za4 (fun n st => ∃ i:Nat,i+n=r.length∧(∀ (k:Nat) (x:Int),k<i→r[k]?=some x→zbr x=true)∧st.V 1 = .ptr 0 none 0 0 0∧st.V 3=iv t.ns.length∧st.V 5=iv j∧st.V 6=iv i∧st.S 0=some (.box (taB q t))) ?_ r.length _ ⟨0,by omega,fun _ _ h=>by omega,h1,h3,h5,h6,hS⟩
 clear h1 h3 h5 h6 hS
 rintro n st ⟨i,hi,hk,v1,v3,v5,v6,hS⟩
 by_cases h:i<t.ns.length
 ·obtain ⟨x,hx⟩ : ∃ x,r[i]?=some x:=⟨_,List.getElem?_eq_getElem (by omega)⟩
  have hx':=zbg hx
  have hw:=wS h ht.ns
  have hir:i<r.length:=by omega
  have hD:=znu x
  cases a1:zbr x with
  | false =>
   rw [a1] at hD
   simp [-getElem?_pos,zt8,-znu,v1,v3,v5,v6,hS,hj',hjl,hir,hx',h,hw,hD]
   exact hr (zur hx a1) _ (by simp)
  | true =>
   rw [a1] at hD
   simp [-getElem?_pos,zt8,-znu,v1,v3,v5,v6,hS,hj',hjl,hir,hx',h,hw,hD]
   exact zam (n-1) (by omega) ⟨i+1,by omega,zsk (P:=fun _ x=>zbr x=true) hk hx a1,by simp [v1],by simp [v3],by simp [v5],by simp,by simp [hS]⟩
 ·simp [-getElem?_pos,zt8,v3,v6,h]
  exact he (zu5 fun k a h1 h2=>hk k a (by omega) h2) _ (by simp [v1]) (by simp [v3]) (by simp [v5]) (by simp [hS])
theorem ygc {M:List (List Int)} {p:List Int→Bool} {j:Nat} {a:List Int} (h1:M[j]?=some a) (h2:p a=false):M.all p=false:=by
 cases e:M.all p with
 | false=>rfl
 | true=>rw [List.all_eq_true.mp e a (List.mem_of_getElem? h1)] at h2; cases h2
theorem yy4 {M:List (List Int)} {p:List Int→Bool} (h : ∀ (j:Nat) (a:List Int),j<M.length→M[j]?=some a→p a=true):M.all p=true:=by
 rw [List.all_eq_true]
 intro x hx
 obtain ⟨j,hj⟩:=List.getElem?_of_mem hx
 exact h j x (List.getElem?_eq_some_iff.mp hj).1 hj
set_option maxHeartbeats 1000000 in
theorem yw0 (q:Bool) (t:Ta) (ht:TaL 9223372036854775807 t) (hyl:t.lb.length=t.rw.length) {Q:Ex→St→Prop} {st:St} (h1:st.V 1 = .ptr 0 none 0 0 0) (h3:st.V 3=iv t.ns.length) (h5:st.V 5=iv (0:Nat)) (hS:st.S 0=some (.box (taB q t)))
  (hr:(t.lb.all zbr && t.rw.all (zg4 t.ns.length))=false→∀ s:St,s.V 2=bv false→Q .ret s) (he:(t.lb.all zbr && t.rw.all (zg4 t.ns.length))=true→∀ s:St,Q (.exit 2) s):W (zad T) (RUN T) (.loop zra) st Q:=by
 refine za4 (fun n st => ∃ i:Nat,i+n=t.rw.length∧(∀ (k:Nat) (x:Int),k<i→t.lb[k]?=some x→zbr x=true)∧(∀ (k:Nat) (x:List Int),k<i→t.rw[k]?=some x→zg4 t.ns.length x=true)∧st.V 1 = .ptr 0 none 0 0 0∧st.V 3=iv t.ns.length∧st.V 5=iv i∧st.S 0=some (.box (taB q t))) ?_ t.rw.length _ ⟨0,by omega,fun _ _ h=>by omega,fun _ _ h=>by omega,h1,h3,h5,hS⟩
 clear h1 h3 h5 hS
 rintro n st ⟨i,hi,hk,hk2,v1,v3,v5,hS⟩
 by_cases h:i<t.rw.length
 ·obtain ⟨r,hx⟩ : ∃ x,t.rw[i]?=some x:=⟨_,List.getElem?_eq_getElem h⟩
  obtain ⟨y,hy⟩ : ∃ x,t.lb[i]?=some x:=⟨_,List.getElem?_eq_getElem (by omega)⟩
  have hx':=zd1 (q:=q) hx
  have hy':=zbg hy
  have hw:=wS h ht.rw
  have hil:i<t.lb.length:=by omega
  have hD:=znu y
  have hrb:zg4 t.ns.length r=(decide ((r.length:Int)=t.ns.length) && r.all zbr):=rfl
  rcases Classical.propComplete ((r.length:Int)=t.ns.length) with e1 | e1
  ·cases a1:zbr y with
   | false =>
    rw [a1] at hD
    simp [-getElem?_pos,zra,-znu,v1,v3,v5,hS,hx',hy',h,hil,hD,e1]
    exact hr (by rw [zur hy a1]; rfl) _ (by simp)
   | true =>
    rw [a1] at hD
    have e2:(r.length:Int)=t.ns.length:=by rw [e1]; trivial
    simp [-getElem?_pos,zra,-znu,v1,v3,v5,hS,hx',hy',h,hil,hD,e1]
    refine y03 q t ht hx (by omega) (by simp [v1]) (by simp [v3]) (by simp [v5]) (by simp) (by simp [hS]) (fun no s h2 => ?_) (fun ok s w1 w3 w5 wS => ?_)
    ·simp
     refine hr ?_ _ (by simp [h2])
     rw [ygc hx (by rw [hrb,no]; simp)]; simp
    ·simp [-getElem?_pos,w1,w3,w5,wS,hw]
     exact zam (n-1) (by omega) ⟨i+1,by omega,zsk (P:=fun _ x=>zbr x=true) hk hy a1,(fun k x h1 h2=>by
      rcases Nat.lt_or_ge k i with h3 | h3
      ·exact hk2 k x h3 h2
      ·have:k=i:=by omega
       subst this
       rw [hx] at h2; cases h2
       rw [hrb,ok,decide_eq_true e2]; rfl),by simp [w1],by simp [w3],by simp,by simp [wS]⟩
  ·simp [-getElem?_pos,zra,-znu,v1,v3,v5,hS,hx',hy',h,hil,e1]
   refine hr ?_ _ (by simp)
   rw [ygc hx (by rw [hrb]; simp [e1])]; simp
 ·simp [-getElem?_pos,zra,v1,v5,hS,h]
  exact he (by rw [zu5 fun k a h1 h2=>hk k a (by omega) h2,yy4 fun k a h1 h2=>hk2 k a (by omega) h2]; rfl) _
set_option maxHeartbeats 2000000 in
theorem yvb (q:Bool) (t:Ta) (ht:TaL 9223372036854775807 t):RUN T zqd [taS q t]=some ([bv (zll t)],[]):=by
 have g1:=zbm t.ns.length 1 4
 have g2:=zbm t.rw.length 1 40
 have g3:=yb9 t.nm ht.nm
 have g4:=yca t.ns t.nm ht.ns
 have mod:zll t=(zai t.ns.length 1 4 && (zjp t.ns && (zfl t.nm && !zg6 t.ns t.nm)) && zai t.rw.length 1 40 && decide ((t.lb.length:Int)=t.rw.length) && t.lb.all zbr && t.rw.all (zg4 t.ns.length)):=by
  unfold zll
  rw [yyp]
 rw [mod]
 clear mod
 generalize zai t.ns.length 1 4=b1 at *
 generalize zai t.rw.length 1 40=b2 at *
 generalize zfl t.nm=b3 at *
 generalize zg6 t.ns t.nm=b4 at *
 obtain ⟨R,hR⟩ : ∃ R,R=(b1 && (zjp t.ns && (b3 && !b4)) && b2 && decide ((t.lb.length:Int)=t.rw.length) && t.lb.all zbr && t.rw.all (zg4 t.ns.length)):=⟨_,rfl⟩
 rw [← hR]
 refine zag yat rfl ?_
 cases b1 with
 | false =>
  have hR:R=false:=by rw [hR]; simp
  subst hR
  simp [-getElem?_pos,zji,zjj,-za6,g1]
 | true =>
 cases b3 with
 | false =>
  have hR:R=false:=by rw [hR]; simp
  subst hR
  simp [-getElem?_pos,zji,zjj,-za6,g1,g3]
 | true =>
 cases b4 with
 | true =>
  have hR:R=false:=by rw [hR]; simp
  subst hR
  simp [-getElem?_pos,zji,zjj,-za6,g1,g3,g4]
 | false =>
 cases b2 with
 | false =>
  have hR:R=false:=by rw [hR]; simp
  subst hR
  simp [-getElem?_pos,zji,zjj,-za6,g1,g2,g3,g4]
 | true =>
 by_cases e2:(t.lb.length:Int)=t.rw.length
 ·have e1:((t.lb.length:Int)=t.rw.length)=True:=eq_true e2
  rw [decide_eq_true e2] at hR
  simp [-getElem?_pos,zji,zjj,-za6,g1,g2,g3,g4,e1]
  refine yyk q t ht (by simp) (by simp) (by simp) (by simp) (fun no s h2 => ?_) (fun ok s u1 u3 uS => ?_)
  ·have hR:R=false:=by rw [hR,no]; simp
   simp [h2,hR]
  ·simp [-getElem?_pos,u1,u3,uS]
   refine yw0 q t ht (by omega) (by simp [u1]) (by simp [u3]) (by simp) (by simp [uS]) (fun no s h2 => ?_) (fun ok2 s => ?_)
   ·have hR:R=false:=by rw [hR,ok]; generalize t.lb.all zbr=a at *; generalize t.rw.all (zg4 t.ns.length)=b at *; cases a <;> cases b <;> first | rfl | cases no
    simp [h2,hR]
   ·have hR:R=true:=by rw [hR,ok]; generalize t.lb.all zbr=a at *; generalize t.rw.all (zg4 t.ns.length)=b at *; cases a <;> cases b <;> first | rfl | cases ok2
    simp [hR]
 ·have e1:((t.lb.length:Int)=t.rw.length)=False:=eq_false e2
  have hR:R=false:=by rw [hR,decide_eq_false e2]; simp
  subst hR
  simp [-getElem?_pos,zji,zjj,-za6,g1,g2,g3,g4,e1]
def PDc (v:PV):Prop := ∃ n,v=iv n∧zbr n=true
theorem zsd {n:Int} (h1 : -2147483647≤n) (h2:n≤2147483647):zbr n=true:=by
 unfold zbr; exact zax.mpr ⟨h1,h2⟩
theorem z4h (B:List Int) (p:Nat) (s:Int) (hp:p≤B.length) (hB:B.length≤9223372036854775807) : ∃ r,RUN T zkv [.bx [.sl 1 (zbo B),iv p,iv s]]=some r∧zf1 B PDc r:=by
 refine zd9 yaa rfl ?_
 have hr5:zak 8 5=true:=by decide
 obtain ⟨r1,h1,v1,p1,s1,⟨b1,rfl⟩,hp1,rfl⟩:=ze5 B p s hp hB 20 (by omega)
 cases b1 with
 | true =>
  obtain ⟨r2,h2,v2,p2,s2,⟨a2,rfl,hm⟩,hp2,rfl⟩:=zg3 B p1 s1 hp1 hB [2147483647,-2147483647,1,-1,1000000000] (by simp)
  simp only [zac,List.map] at h2
  simp [-getElem?_pos,zq7,zq8,hr5,h1,h2]
  refine ⟨_,p2,s2,⟨a2,rfl,?_⟩,hp2,rfl⟩
  simp at hm
  exact zsd (by omega) (by omega)
 | false =>
  obtain ⟨r2,h2,v2,p2,s2,⟨b2,rfl⟩,hp2,rfl⟩:=ze5 B p1 s1 hp1 hB 2 (by omega)
  cases b2 with
  | true =>
   obtain ⟨r3,h3,v3,p3,s3,⟨a3,rfl,a30,a31⟩,hp3,rfl⟩:=zbu B p2 s2 hp2 hB 9 (by omega)
   have a32:=a31 (by omega)
   have w1:=w64 (x:=a3-4) (by omega) (by omega)
   have w2:=w64 (x:=1000*(a3-4)) (by omega) (by omega)
   simp [-getElem?_pos,zq7,zq8,h1,h2,h3,w1,w2]
   exact ⟨_,p3,s3,⟨_,rfl,zsd (by omega) (by omega)⟩,hp3,rfl⟩
  | false =>
   obtain ⟨r3,h3,v3,p3,s3,⟨a3,rfl,a30,a31⟩,hp3,rfl⟩:=zbu B p2 s2 hp2 hB 41 (by omega)
   have a32:=a31 (by omega)
   have w1:=w64 (x:=a3-20) (by omega) (by omega)
   have w2:=w64 (x:=250*(a3-20)) (by omega) (by omega)
   simp [-getElem?_pos,zq7,zq8,h1,h2,h3,w1,w2]
   exact ⟨_,p3,s3,⟨_,rfl,zsd (by omega) (by omega)⟩,hp3,rfl⟩
theorem yvc (c:List Int) (v:Int) (hc:c.length≤1048576) : ∃ r,RUN T zqg [.sl 1 (zac c),iv v]=some r∧∃ n:Nat,n≤c.length∧r=([iv n],[]):=by
 refine zd9 yaw rfl ?_
 simp [-getElem?_pos,z0d,z0e]
 refine za4 (fun n st => ∃ i m:Nat,i+n=c.length∧m≤i∧st.V 0 = .sl 1 (zac c)∧st.V 1=iv v∧st.V 5=iv m∧st.V 6=iv i) ?_ c.length _ ⟨0,0,by omega,by omega,by simp,by simp,by simp,by simp⟩
 rintro n st ⟨i,m,hi,hm,v0,v1,v5,v6⟩
 by_cases h:i<c.length
 ·obtain ⟨x,hx⟩ : ∃ x,c[i]?=some x:=⟨_,List.getElem?_eq_getElem h⟩
  have hx':=zbg hx
  have hw:=wS h (by omega:c.length≤9223372036854775807)
  have hw2:=w64 (x:=(m:Int)+1) (by omega) (by omega)
  by_cases hl:x<v
  ·simp [-getElem?_pos,z0c,v0,v1,v5,v6,h,hx',hw,hw2,hl]
   exact zam (n-1) (by omega) ⟨i+1,m+1,by omega,by omega,by simp [v0],by simp [v1],by simp,by simp⟩
  ·simp [-getElem?_pos,z0c,v0,v1,v5,v6,h,hx',hw,hl]
   exact zam (n-1) (by omega) ⟨i+1,m,by omega,by omega,by simp [v0],by simp [v1],by simp [v5],by simp⟩
 ·simp [-getElem?_pos,z0c,v0,v5,v6,h]
  exact ⟨m,by omega,rfl⟩
theorem yes (l:List Int):(zsb l).length=l.length:=by
 unfold zsb
 rw [ywf]; simp
theorem yvd (l:List Int) (hl:l.length≤1048576) : ∃ r,RUN T zqn [.sl 1 (zac l)]=some r∧∃ m:List Int,m.length≤l.length∧r=([.own 1 (zac m)],[]):=by
 have e1:=ycg l hl
 have hsl:=yes l
 generalize zsb l=a at *
 have hr0:zak 8 0=true:=by decide
 have hr1:zak 8 1=true:=by decide
 refine zd9 ybl rfl ?_
 simp [-getElem?_pos,z04,z05,hr0,e1]
 refine za4 (fun n st => ∃ (i o e q e2:Nat) (m:List Int),i+n=l.length∧m.length≤i∧st.V 3 = .ref o none e 0 m.length∧st.V 4 = .ref q none e2 0 a.length∧st.V 5=iv i∧¬ o=q∧o<st.nx∧q<st.nx∧st.S o=some (.row 1 (zac m))∧st.S q=some (.row 1 (zac a))) ?_ l.length _ ⟨0,0,0,1,0,[],by omega,by simp,by simp,by simp,by simp,by omega,by simp,by simp,by simp [zac],by simp⟩
 rintro n st ⟨i,o,e,q,e2,m,hi,hm,v3,v4,v5,hoq,hox,hqx,hSo,hSq⟩
 obtain ⟨x1,x2,x3,x4⟩:=fr hox
 obtain ⟨z1,z2,z3,z4⟩:=fr hqx
 have hqo : ¬ q=o:=fun e=>hoq e.symm
 by_cases h:i<a.length
 ·obtain ⟨x,hx⟩ : ∃ x,a[i]?=some x:=⟨_,List.getElem?_eq_getElem h⟩
  have hx':=zbg hx
  have hw:=wS h (by omega:a.length≤9223372036854775807)
  have hr8:=zd0 (n:=m.length+1) (by omega)
  have hsn:=zdd m x
  have key : ∀ K:St→Prop,True:=fun _=>trivial
  by_cases h0:i=0
  ·subst h0
   simp [-getElem?_pos,zuc,v3,v4,v5,hSo,hSq,h,hx',hw,hr1,hr8,hsn,hoq,hqo,x1,x2,x3,x4,z1,z2,z3,z4]
   exact zam (n-1) (by omega) ⟨1,st.nx+1,st.ep,q,e2,m++[x],by omega,by rw [List.length_append]; simp only [List.length_cons,List.length_nil]; omega,by simp,by simp [v4],by simp,by omega,by simp,by simp; omega,by simp,by simp [hoq,hqo,x1,x2,x3,x4,z1,z2,z3,z4,hSq]⟩
  ·obtain ⟨y,hy⟩ : ∃ x,a[i-1]?=some x:=⟨_,List.getElem?_eq_getElem (by omega)⟩
   have hy':=zbg hy
   have w1:IntKind.i64.wrap ((i:Int)-1)=((i-1:Nat):Int):=by rw [w64 (by omega) (by omega)]; omega
   have hil:i-1<a.length:=by omega
   by_cases hxy:x=y
   ·have hxy2 : ¬ ¬ x=y:=fun h=>h hxy
    subst hxy
    simp [-getElem?_pos,zuc,v3,v4,v5,hSo,hSq,h,h0,hil,hx',hy',hw,w1,hoq,hqo,x1,x2,x3,x4,z1,z2,z3,z4]
    exact zam (n-1) (by omega) ⟨i+1,o,e,q,e2,m,by omega,by omega,by simp [v3],by simp [v4],by simp,hoq,by simp [hox],by simp [hqx],by simp [hSo],by simp [hSq]⟩
   ·simp [-getElem?_pos,zuc,v3,v4,v5,hSo,hSq,h,h0,hil,hx',hy',hw,w1,hxy,hr1,hr8,hsn,hoq,hqo,x1,x2,x3,x4,z1,z2,z3,z4]
    exact zam (n-1) (by omega) ⟨i+1,st.nx+1,st.ep,q,e2,m++[x],by omega,by simp; omega,by simp,by simp [v4],by simp,by omega,by simp,by simp; omega,by simp,by simp [hoq,hqo,x1,x2,x3,x4,z1,z2,z3,z4,hSq]⟩
 ·simp [-getElem?_pos,zuc,v3,v4,v5,hSo,hSq,h]
  exact ⟨m,by omega,rfl⟩
set_option maxHeartbeats 1000000 in
theorem yve (l:List Int) (b:Int) (h1:1≤l.length) (h2:l.length≤40) (hb:2≤b∧b≤8) : ∃ r,RUN T zqf [.sl 1 (zac l),iv b]=some r∧∃ m:List Int,m.length≤8∧r=([.own 1 (zac m)],[]):=by
 have e1:=ycg l (by omega)
 have hsl:=yes l
 generalize zsb l=a at *
 have hr0:zak 8 0=true:=by decide
 have hr1:zak 8 1=true:=by decide
 have g1:=zbm b 2 8
 have g2:=zbm l.length 1 40
 rw [zax.mpr (by omega)] at g1
 rw [zax.mpr (by omega)] at g2
 obtain ⟨bn,rfl⟩ : ∃ n:Nat,b=n:=⟨b.toNat,by omega⟩
 refine zd9 yav rfl ?_
 simp [-getElem?_pos,z0a,z0b,-za6,g1,g2,hr0,e1]
 refine za4 (fun n st => ∃ (i o e:Nat) (m:List Int),1≤i∧i+n=bn∧m.length<i∧st.V 1=iv bn∧st.V 5=iv l.length∧st.V 6 = .ref 0 none 0 0 a.length∧st.V 7 = .ref o none e 0 m.length∧st.V 8=iv i∧0<o∧o<st.nx∧st.S o=some (.row 1 (zac m))∧st.S 0=some (.row 1 (zac a))) ?_ (bn-1) _ ⟨1,1,0,[],by omega,by omega,by simp,by simp,by simp,by simp,by simp,by simp,by simp,by simp,by simp [zac],by simp⟩
 rintro n st ⟨i,o,e,m,hi1,hi,hm,v1,v5,v6,v7,v8,ho,hox,hSo,hS0⟩
 obtain ⟨x1,x2,x3,x4⟩:=fr hox
 obtain ⟨g1,g2,g3,g4⟩:=fr ho
 obtain ⟨z1,z2,z3,z4⟩:=fr (show 0<st.nx by omega)
 by_cases h:i<bn
 ·have hw:=wS h (by omega:bn≤9223372036854775807)
  have hb0 : ¬ bn=0:=by omega
  have hq:(l.length:Int)*i≤40*8:=Int.mul_le_mul (by omega) (by omega) (by omega) (by omega)
  have hq0:0≤(l.length:Int)*i:=Int.mul_nonneg (by omega) (by omega)
  have w1:=w64 (x:=(l.length:Int)*i) (by omega) (by omega)
  obtain ⟨k,hk⟩ : ∃ k:Nat,((l.length:Int)*i).tdiv bn=k:=by
   refine ⟨(((l.length:Int)*i).tdiv bn).toNat,?_⟩
   have:=Int.tdiv_nonneg hq0 (show (0:Int)≤bn by omega)
   omega
  have hkl:k≤l.length:=by
   have h3:((l.length:Int)*i).tdiv bn≤l.length:=by
    rw [Int.tdiv_eq_ediv_of_nonneg hq0]
    refine Int.ediv_le_of_le_mul (by omega) ?_
    exact Int.mul_le_mul_of_nonneg_left (by omega) (by omega)
   omega
  have w2:=w64 (x:=(k:Int)) (by omega) (by omega)
  by_cases hk1:1≤k
  ·obtain ⟨x,hx⟩ : ∃ x,a[k-1]?=some x:=⟨_,List.getElem?_eq_getElem (by omega)⟩
   obtain ⟨y,hy⟩ : ∃ x,a[a.length-1]?=some x:=⟨_,List.getElem?_eq_getElem (by omega)⟩
   have hx':=zbg hx
   have hy':=zbg hy
   rw [hsl] at hy'
   have w3:IntKind.i64.wrap ((k:Int)-1)=((k-1:Nat):Int):=by rw [w64 (by omega) (by omega)]; omega
   have w4:IntKind.i64.wrap ((l.length:Int)-1)=((l.length-1:Nat):Int):=by rw [w64 (by omega) (by omega)]; omega
   have c1:k-1<l.length:=by omega
   have c2:l.length-1<l.length:=by omega
   have hk1':(1:Int)≤k:=by omega
   have hr8:=zd0 (n:=m.length+1) (by omega)
   have hsn:=zdd m x
   by_cases hxy:x<y
   ·simp [-getElem?_pos,zt9,v1,v5,v6,v7,v8,hSo,hS0,h,hw,hb0,w1,w2,w3,w4,hk,hk1,hk1',hx',hy',hsl,c1,c2,hxy,hr1,hr8,hsn,g1,g2,g3,g4,x1,x2,x3,x4,z1,z2,z3,z4]
    exact zam (n-1) (by omega) ⟨i+1,st.nx+1,st.ep,m++[x],by omega,by omega,by simp; omega,by simp [v1],by simp [v5],by simp [v6,hsl],by simp,by simp,by omega,by simp,by simp,by simp [g1,g2,g3,g4,x1,x2,x3,x4,z1,z2,z3,z4,hS0]⟩
   ·simp [-getElem?_pos,zt9,v1,v5,v6,v7,v8,hSo,hS0,h,hw,hb0,w1,w2,w3,w4,hk,hk1,hk1',hx',hy',hsl,c1,c2,hxy,g1,g2,g3,g4,x1,x2,x3,x4,z1,z2,z3,z4]
    exact zam (n-1) (by omega) ⟨i+1,o,e,m,by omega,by omega,by omega,by simp [v1],by simp [v5],by simp [v6,hsl],by simp [v7],by simp,ho,by simp [hox],by simp [hSo],by simp [hS0]⟩
  ·have hk0:k=0:=by omega
   subst hk0
   simp [-getElem?_pos,zt9,v1,v5,v6,v7,v8,hSo,hS0,h,hw,hb0,w1,w2,hk]
   exact zam (n-1) (by omega) ⟨i+1,o,e,m,by omega,by omega,by omega,by simp [v1],by simp [v5],by simp [v6],by simp [v7],by simp,ho,by simp [hox],by simp [hSo],by simp [hS0]⟩
 ·obtain ⟨r2,h3,m',hm',rfl⟩:=yvd m (by omega)
  simp [-getElem?_pos,zt9,v1,v7,v8,hSo,h,h3]
  exact ⟨m',by omega,rfl⟩
set_option maxHeartbeats 1000000 in
theorem yvf (q:Bool) (t:Ta) (f:Nat) (ht:TaL 1048576 t) (hf:f<t.ns.length) (h40:t.rw.length≤40) (hr : ∀ r∈t.rw,r.length=t.ns.length) : ∃ r,RUN T zqe [taS q t,iv f]=some r∧∃ m:List Int,m.length=t.rw.length∧r=([.own 1 (zac m)],[]):=by
 have hr0:zak 8 0=true:=by decide
 have hr1:zak 8 1=true:=by decide
 have hns:=ht.ns
 have g1:=zbm f 0 ((t.ns.length:Int)-1)
 rw [zax.mpr (by omega)] at g1
 have w1:=w64 (x:=(t.ns.length:Int)-1) (by omega) (by omega)
 refine zd9 yau rfl ?_
 simp [-getElem?_pos,zz8,zz9,hr0]
 refine za4 (fun n st => ∃ (i o e:Nat) (m:List Int),i+n=t.rw.length∧m.length=i∧st.V 1=iv f∧st.V 2 = .ptr 0 none 0 0 0∧st.V 5 = .ref o none e 0 m.length∧st.V 6=iv i∧0<o∧o<st.nx∧st.S o=some (.row 1 (zac m))∧st.S 0=some (.box (taB q t))) ?_ t.rw.length _ ⟨0,1,0,[],by omega,rfl,by simp,by simp,by simp,by simp,by simp,by simp,by simp [zac],by simp⟩
 rintro n st ⟨i,o,e,m,hi,hm,v1,v2,v5,v6,ho,hox,hSo,hS0⟩
 obtain ⟨x1,x2,x3,x4⟩:=fr hox
 obtain ⟨g1',g2,g3,g4⟩:=fr ho
 obtain ⟨z1,z2,z3,z4⟩:=fr (show 0<st.nx by omega)
 by_cases h:i<t.rw.length
 ·obtain ⟨r,hx⟩ : ∃ x,t.rw[i]?=some x:=⟨_,List.getElem?_eq_getElem h⟩
  have hx':=zd1 (q:=q) hx
  have hrl:=hr r (List.mem_of_getElem? hx)
  obtain ⟨y,hy⟩ : ∃ x,r[f]?=some x:=⟨_,List.getElem?_eq_getElem (by omega)⟩
  have hy':=zbg hy
  have hfr:f<r.length:=by omega
  have hw:=wS h (by omega:t.rw.length≤9223372036854775807)
  have hr8:=zd0 (n:=m.length+1) (by omega)
  have hsn:=zdd m y
  simp [-getElem?_pos,z3o,-za6,v1,v2,v5,v6,hSo,hS0,h,hx',hy',hfr,g1,w1,hw,hr1,hr8,hsn,g1',g2,g3,g4,x1,x2,x3,x4,z1,z2,z3,z4]
  exact zam (n-1) (by omega) ⟨i+1,st.nx+1,st.ep,m++[y],by omega,by simp [hm],by simp [v1],by simp [v2],by simp,by simp,by omega,by simp,by simp,by simp [g1',g2,g3,g4,x1,x2,x3,x4,z1,z2,z3,z4,hS0]⟩
 ·simp [-getElem?_pos,z3o,-za6,v1,v2,v5,v6,hSo,hS0,h]
  exact ⟨m,by omega,rfl⟩
def zuy (x:Int):Prop := -1500≤x∧x≤1500
theorem yxr (B:List Int) (hB:B.length≤9223372036854775807) (far:Bool) (n:Nat) (hn:n≤3) {st:St} {p o e:Nat} {s:Int} {Q:Ex→St→Prop} (hp:p≤B.length) (v0:st.V 0 = .ptr 0 none 0 0 0) (v3:st.V 3=iv n) (v6:st.V 6=bv far) (v8:st.V 8 = .ref o none e 0 0) (v9:st.V 9=iv (0:Nat)) (ho:0<o) (hox:o<st.nx) (hS0:st.S 0=some (.box [.sl 1 (zbo B),iv p,iv s])) (hSo:st.S o=some (.row 1 []))
  (hQ : ∀ (s':St) (p' o' e':Nat) (sd:Int) (r:List Int),r.length=n→(∀ x∈r,zbr x=true)→(far=false→∀ x∈r,zuy x)→p'≤B.length→(∀ k,k≠8→k≠9→k≠10→s'.V k=st.V k)→s'.V 8 = .ref o' none e' 0 n→o≤o'→o'<s'.nx→st.nx≤s'.nx→s'.ep=st.ep→s'.S o'=some (.row 1 (zac r))→s'.S 0=some (.box [.sl 1 (zbo B),iv p',iv sd])→(∀ k,k≠0→k<o→s'.S k=st.S k)→Q (.exit 2) s') :
  W (zad T) (RUN T) (.loop ztw) st Q:=by
 refine za4 (fun m s' => ∃ (i p' o' e':Nat) (sd:Int) (r:List Int),i+m=n∧r.length=i∧(∀ x∈r,zbr x=true)∧(far=false→∀ x∈r,zuy x)∧p'≤B.length∧(∀ k,k≠8→k≠9→k≠10→s'.V k=st.V k)∧s'.V 8 = .ref o' none e' 0 r.length∧s'.V 9=iv i∧o≤o'∧o'<s'.nx∧st.nx≤s'.nx∧s'.ep=st.ep∧s'.S o'=some (.row 1 (zac r))∧s'.S 0=some (.box [.sl 1 (zbo B),iv p',iv sd])∧(∀ k,k≠0→k<o→s'.S k=st.S k)) ?_ n _ ⟨0,p,o,e,s,[],by omega,rfl,by simp,by simp,hp,fun _ _ _ _=>rfl,by simpa using v8,by simpa using v9,by omega,hox,Nat.le_refl _,rfl,by simpa [zac] using hSo,hS0,fun _ _ _=>rfl⟩
 rintro m s' ⟨i,p',o',e',sd,r,hi,hr,hrd,hrs,hp',hV,v8',v9',hoo,hox',hnx,hep,hSo',hS0',hfr⟩
 have v0':s'.V 0 = .ptr 0 none 0 0 0:=by rw [hV 0 (by decide) (by decide) (by decide)]; exact v0
 have v3':s'.V 3=iv n:=by rw [hV 3 (by decide) (by decide) (by decide)]; exact v3
 have v6':s'.V 6=bv far:=by rw [hV 6 (by decide) (by decide) (by decide)]; exact v6
 obtain ⟨x1,x2,x3,x4⟩:=fr hox'
 obtain ⟨g1,g2,g3,g4⟩:=fr (show 0<o' by omega)
 obtain ⟨z1,z2,z3,z4⟩:=fr (show 0<s'.nx by omega)
 by_cases h:i<n
 ·have hw:=wS h (by omega:n≤9223372036854775807)
  have hr1:zak 8 1=true:=by decide
  have hr8:=zd0 (n:=r.length+1) (by omega)
  obtain ⟨r1,h1,w1,p1,s1,⟨a1,rfl,had⟩,hp1,rfl⟩:=z4h B p' sd hp' hB
  cases far with
  | true =>
   have hsn:=zdd r a1
   simp [-getElem?_pos,ztw,v0',v3',v6',v8',v9',hSo',hS0',h,h1,hw,hr1,hr8,hsn,g1,g2,g3,g4,x1,x2,x3,x4,z1,z2,z3,z4]
   refine zam (m-1) (by omega) ⟨i+1,p1,s'.nx+1,s'.ep,s1,r++[a1],by omega,by simp [hr],?_,fun h=>(by cases h),hp1,fun k k1 k2 k3 => ?_,by simp,by simp,by omega,by simp,by simp; omega,by simp [hep],by simp,by simp [g1,g2,g3,g4,x1,x2,x3,x4,z1,z2,z3,z4],fun k k1 k2 => ?_⟩
   ·intro x hx
    rcases List.mem_append.mp hx with hx | hx
    ·exact hrd x hx
    ·simp at hx; subst hx; exact had
   ·simp [k1,k2,k3]; exact hV k k1 k2 k3
   ·have e1:(k=s'.nx)=False:=eq_false (by omega)
    have e2:(k=s'.nx+1)=False:=eq_false (by omega)
    have e3:(k=o')=False:=eq_false (by omega)
    have e4:(k=0)=False:=eq_false k1
    simp [e1,e2,e3,e4]
    exact hfr k k1 k2
  | false =>
   obtain ⟨r2,h2,w2,p2,s2,⟨a2,rfl,a20,a21⟩,hp2,rfl⟩:=zbu B p1 s1 hp1 hB 7 (by omega)
   have a22:=a21 (by omega)
   have u1:=w64 (x:=a2-3) (by omega) (by omega)
   have u2:=w64 (x:=500*(a2-3)) (by omega) (by omega)
   have hsn:=zdd r (500*(a2-3))
   simp [-getElem?_pos,ztw,v0',v3',v6',v8',v9',hSo',hS0',h,h1,h2,hw,u1,u2,hr1,hr8,hsn,g1,g2,g3,g4,x1,x2,x3,x4,z1,z2,z3,z4]
   refine zam (m-1) (by omega) ⟨i+1,p2,s'.nx+1,s'.ep,s2,r++[500*(a2-3)],by omega,by simp [hr],?_,?_,hp2,fun k k1 k2 k3 => ?_,by simp,by simp,by omega,by simp,by simp; omega,by simp [hep],by simp,by simp [g1,g2,g3,g4,x1,x2,x3,x4,z1,z2,z3,z4],fun k k1 k2 => ?_⟩
   ·intro x hx
    rcases List.mem_append.mp hx with hx | hx
    ·exact hrd x hx
    ·simp at hx; subst hx; exact zsd (by omega) (by omega)
   ·intro _ x hx
    rcases List.mem_append.mp hx with hx | hx
    ·exact hrs rfl x hx
    ·simp at hx; subst hx; unfold zuy; omega
   ·simp [k1,k2,k3]; exact hV k k1 k2 k3
   ·have e1:(k=s'.nx)=False:=eq_false (by omega)
    have e2:(k=s'.nx+1)=False:=eq_false (by omega)
    have e3:(k=o')=False:=eq_false (by omega)
    have e4:(k=0)=False:=eq_false k1
    simp [e1,e2,e3,e4]
    exact hfr k k1 k2
 ·have hin:i=n:=by omega
  subst hin
  simp [-getElem?_pos,ztw,v3',v9',h]
  exact hQ _ p' o' e' sd r hr hrd hrs hp' (fun k k1 k2 k3=>by simp; exact hV k k1 k2 k3) (by simp [v8',hr]) hoo (by simp [hox']) (by simp [hnx]) (by simp [hep]) (by simp [hSo']) (by simp [hS0']) (fun k k1 k2=>by simp; exact hfr k k1 k2)
def PTa (v:PV):Prop := ∃ t:Ta,v=taO t∧TaL 64 t∧zll t=true
def nm4:List ByteArray:=[bs [97],bs [98],bs [99,50],bs [100]]
theorem y2c {n:Nat} (h1:1≤n) (h3:n≤3):zjp (nm4.take n++[bs [121]])=true:=by
 have h:n=1∨n=2∨n=3:=by omega
 rcases h with rfl | rfl | rfl <;> decide +kernel
theorem yxn {n m:Nat} {L:List (List Int)} {Y:List Int} (h1:1≤n) (h3:n≤3) (m1:1≤m) (m2:m≤40) (hL:L.length=m) (hY:Y.length=m) (hr : ∀ r∈L,r.length=n∧∀ x∈r,zbr x=true) (hy : ∀ y∈Y,zbr y=true):PTa (taO ⟨nm4.take n,bs [121],L,Y⟩):=by
 have hnl:(nm4.take n).length=n:=by simp [nm4]; omega
 have hsz:(bs [121]).size=1:=rfl
 refine ⟨_,rfl,⟨by simp only [hnl]; omega,fun x hx => ?_,by simp only [hsz]; omega,by simp only [hL]; omega,fun r hr'=>by have:=(hr r hr').1; omega,by simp only [hY]; omega⟩,?_⟩
 ·have hm:=List.mem_of_mem_take hx
  simp only [nm4,List.mem_cons,List.not_mem_nil,or_false] at hm
  rcases hm with rfl | rfl | rfl | rfl <;> decide
 ·unfold zll
  simp only [hnl,hL,hY]
  rw [zax.mpr (by omega),y2c h1 h3,zax.mpr (by omega)]
  have e1:Y.all zbr=true:=by rw [List.all_eq_true]; exact hy
  have e2:L.all (zg4 n)=true:=by
   rw [List.all_eq_true]
   intro r hr'
   unfold zg4
   rw [decide_eq_true (by have:=(hr r hr').1; omega:(r.length:Int)=n),List.all_eq_true.mpr (hr r hr').2]; rfl
  rw [e1,e2]; simp
set_option maxHeartbeats 4000000 in
set_option maxRecDepth 8000 in
theorem yvg (B:List Int) (p:Nat) (s:Int) (hp:p≤B.length) (hB:B.length≤9223372036854775807) : ∃ r,RUN T zp2 [.bx [.sl 1 (zbo B),iv p,iv s]]=some r∧zf1 B PTa r:=by
 have hr0:zak 16 0=true:=by decide
 have hr1:zak 16 4=true:=by decide
 obtain ⟨r1,h1,v1,p1,s1,⟨a1,rfl,a10,a11⟩,hp1,rfl⟩:=zbu B p s hp hB 3 (by omega)
 have a12:=a11 (by omega)
 obtain ⟨n,hnf⟩ : ∃ n:Nat,1+a1=n:=⟨(1+a1).toNat,by omega⟩
 have w1:=w64 (x:=(n:Int)) (by omega) (by omega)
 have hr2:zak 16 n=true:=by simp [zak]; omega
 have hn3:n≤3:=by omega
 have hn4:n≤4:=by omega
 have hn1:1≤n:=by omega
 obtain ⟨ns,hns⟩ : ∃ ns,ns=nm4.take n:=⟨_,rfl⟩
 have hcut:(if n=4 then [[PV.v (Value.string (bs [97]))],[PV.v (Value.string (bs [98]))],[PV.v (Value.string (bs [99,50]))],[PV.v (Value.string (bs [100]))]] else List.take n [[PV.v (Value.string (bs [97]))],[PV.v (Value.string (bs [98]))],[PV.v (Value.string (bs [99,50]))],[PV.v (Value.string (bs [100]))]])=zdx ns:=by
  subst hns
  have h:n=1∨n=2∨n=3:=by omega
  rcases h with h | h | h <;> subst h <;> rfl
 have hnl:ns.length=n:=by subst hns; simp [nm4]; omega
 obtain ⟨r2,h2,v2,p2,s2,⟨a2,rfl,a20,a21⟩,hp2,rfl⟩:=zbu B p1 s1 hp1 hB 9 (by omega)
 have a22:=a21 (by omega)
 obtain ⟨r3,h3,v3,p3,s3,⟨b3,rfl⟩,hp3,rfl⟩:=ze5 B p2 s2 hp2 hB 10 (by omega)
 have key : ∀ (m:Nat) (far:Bool) (p:Nat) (s:Int) (st:St),1≤m→m≤40→p≤B.length→st.V 0 = .ptr 0 none 0 0 0→st.V 2 = .ptr 1 none 0 0 0→st.V 3=iv n→st.V 4 = .ptr 5 none 0 0 0→st.V 5=iv m→st.V 6=bv far→st.V 7=iv (0:Nat)→5<st.nx→st.S 0=some (.box [.sl 1 (zbo B),iv p,iv s])→st.S 1=some (.box [.e0,.v (.string (bs [])),.e0,.e0])→st.S 4=some (.row 1 (zdx ns))→st.S 5=some (.box [.ref 4 none 0 0 n,.v (.string (bs [121])),.e0,.e0]) →
   W (zad T) (RUN T) (.loop zzh) st (Bl 0 (Nx (fun s=>W (zad T) (RUN T) (.seq (.reg [oE 83 (.load true 4 (.V 4)),oN (.store [1,0,1,1] (.V 2) (.E 83))]) .ret) s (ziw zlb 1 (zf1 B PTa) ⟨⟩ ⟨⟩)) (ziw zlb 1 (zf1 B PTa) ⟨⟩ ⟨⟩) ⟨⟩ ⟨⟩) ⟨⟩):=by
  clear h1 h2 h3 hp1 hp2 hp3 hp
  intro m far p s st hm1 hm40 hp v0 v2 v3 v4 v5 v6 v7 h5x hS0 hS1 hS4 hS5
  refine za4 (fun k st => ∃ (i p:Nat) (s:Int) (L:List (List Int)) (Y:List Int) (xR xY:PV),i+k=m∧L.length=i∧Y.length=i∧(∀ r∈L,r.length=n∧∀ x∈r,zbr x=true)∧(∀ y∈Y,zbr y=true)∧p≤B.length∧st.V 0 = .ptr 0 none 0 0 0∧st.V 2 = .ptr 1 none 0 0 0∧st.V 3=iv n∧st.V 4 = .ptr 5 none 0 0 0∧st.V 5=iv m∧st.V 6=bv far∧st.V 7=iv i∧5<st.nx∧st.S 0=some (.box [.sl 1 (zbo B),iv p,iv s])∧st.S 1=some (.box [.e0,.v (.string (bs [])),.e0,.e0])∧st.S 4=some (.row 1 (zdx ns))∧st.S 5=some (.box [.ref 4 none 0 0 n,.v (.string (bs [121])),xR,xY])∧((L=[]∧Y=[]∧xR = .e0∧xY = .e0)∨∃ o1 e1 o2 e2,xR = .ref o1 none e1 0 i∧xY = .ref o2 none e2 0 i∧5<o1∧o1<st.nx∧5<o2∧o2<st.nx∧¬ o1=o2∧st.S o1=some (.row 1 (rws true L))∧st.S o2=some (.row 1 (zac Y)))) ?_ m _ ⟨0,p,s,[],[],.e0,.e0,by omega,rfl,rfl,by simp,by simp,hp,v0,v2,v3,v4,v5,v6,v7,h5x,hS0,hS1,hS4,hS5,.inl ⟨rfl,rfl,rfl,rfl⟩⟩
  clear v0 v2 v3 v4 v5 v6 v7 h5x hS0 hS1 hS4 hS5 hp
  rintro k st ⟨i,p,s,L,Y,xR,xY,hi,hL,hY,hLr,hYd,hp,v0,v2,v3,v4,v5,v6,v7,h5x,hS0,hS1,hS4,hS5,hx⟩
  obtain ⟨f1,f2,f3,f4⟩:=fr (show 0<st.nx by omega)
  obtain ⟨g1,g2,g3,g4⟩:=fr (show 1<st.nx by omega)
  obtain ⟨h1,h2,h3,h4⟩:=fr (show 4<st.nx by omega)
  obtain ⟨j1,j2,j3,j4⟩:=fr (show 5<st.nx by omega)
  by_cases h:i<m
  ·have hw:=wS h (by omega:m≤9223372036854775807)
   have hr1:zak 8 1=true:=by decide
   have hr00:zak 8 0=true:=by decide
   simp [-getElem?_pos,zzh,v5,v7,h,hr00]
   refine yxr (o:=st.nx) (e:=st.ep) (p:=p) (s:=s) B hB far n (by omega) hp (by simp [v0]) (by simp [v3]) (by simp [v6]) (by simp) (by simp) (by omega) (by simp) (by simp [f1,f2,f3,f4,g1,g2,g3,g4,h1,h2,h3,h4,j1,j2,j3,j4,hS0]) (by simp) ?_
   intro t p1 o3 e3 s1 r hr hrd hrs hp1 hV w8 ho3 ho3x hnx hep hSo3 hT0 hfr
   simp only at ho3 hnx hep
   have w0:t.V 0 = .ptr 0 none 0 0 0:=by rw [hV 0 (by decide) (by decide) (by decide)]; simp [v0]
   have w2:t.V 2 = .ptr 1 none 0 0 0:=by rw [hV 2 (by decide) (by decide) (by decide)]; simp [v2]
   have w3:t.V 3=iv n:=by rw [hV 3 (by decide) (by decide) (by decide)]; simp [v3]
   have w4:t.V 4 = .ptr 5 none 0 0 0:=by rw [hV 4 (by decide) (by decide) (by decide)]; simp [v4]
   have w5:t.V 5=iv m:=by rw [hV 5 (by decide) (by decide) (by decide)]; simp [v5]
   have w6:t.V 6=bv far:=by rw [hV 6 (by decide) (by decide) (by decide)]; simp [v6]
   have w7:t.V 7=iv i:=by rw [hV 7 (by decide) (by decide) (by decide)]; simp [v7]
   have hT1:t.S 1=some (.box [.e0,.v (.string (bs [])),.e0,.e0]):=by rw [hfr 1 (by omega) (by omega)]; simp [f1,f2,f3,f4,g1,g2,g3,g4,h1,h2,h3,h4,j1,j2,j3,j4,hS1]
   have hT4:t.S 4=some (.row 1 (zdx ns)):=by rw [hfr 4 (by omega) (by omega)]; simp [f1,f2,f3,f4,g1,g2,g3,g4,h1,h2,h3,h4,j1,j2,j3,j4,hS4]
   have hT5:t.S 5=some (.box [.ref 4 none 0 0 n,.v (.string (bs [121])),xR,xY]):=by rw [hfr 5 (by omega) (by omega)]; simp [f1,f2,f3,f4,g1,g2,g3,g4,h1,h2,h3,h4,j1,j2,j3,j4,hS5]
   obtain ⟨x0,hx0⟩ : ∃ x,r[0]?=some x:=⟨_,List.getElem?_eq_getElem (by omega)⟩
   have hx0':=zbg hx0
   obtain ⟨q1,d1,_,p2,s2,⟨y,rfl,hyd⟩,hp2,rfl⟩:=z4h B p1 s1 hp1 hB
   have hr24:zak 24 1=true:=by decide
   have hr24':zak 24 (i+1)=true:=by simp [zak]; omega
   have hr8:=zd0 (n:=i+1) (by omega)
   have hsn1:=zu8 L r
   have hn0:(0:Nat)<n:=by omega
   have na : ∀ a b:Nat,t.nx+a+b=t.nx+(a+b):=fun a b=>Nat.add_assoc _ _ _
   obtain ⟨F1,F2,F3,F4⟩:=fr (show 0<t.nx by omega)
   obtain ⟨G1,G2,G3,G4⟩:=fr (show 1<t.nx by omega)
   obtain ⟨H1,H2,H3,H4⟩:=fr (show 4<t.nx by omega)
   obtain ⟨J1,J2,J3,J4⟩:=fr (show 5<t.nx by omega)
   obtain ⟨O1,O2,O3,O4⟩:=fr (show o3<t.nx by omega)
   have n0a:(o3=0)=False:=eq_false (by omega)
   have n0b:(0=o3)=False:=eq_false (by omega)
   have n1a:(o3=1)=False:=eq_false (by omega)
   have n1b:(1=o3)=False:=eq_false (by omega)
   have n2a:(o3=4)=False:=eq_false (by omega)
   have n2b:(4=o3)=False:=eq_false (by omega)
   have n3a:(o3=5)=False:=eq_false (by omega)
   have n3b:(5=o3)=False:=eq_false (by omega)
   rcases hx with ⟨rfl,rfl,rfl,rfl⟩ | ⟨o1,e1,o2,e2,rfl,rfl,ho1,ho1x,ho2,ho2x,ho12,hSo1,hSo2⟩
   ·have hi0:i=0:=by simpa using hL.symm
    subst hi0
    cases far with
    | true =>
     simp [-getElem?_pos,w0,w2,w3,w4,w5,w6,w7,w8,hT0,hT1,hT4,hT5,hSo3,hx0',hn0,hr,hw,hr1,d1,hr24,na,F1,F2,F3,F4,G1,G2,G3,G4,H1,H2,H3,H4,J1,J2,J3,J4,O1,O2,O3,O4,n0a,n0b,n1a,n1b,n2a,n2b,n3a,n3b]
     refine zam (k-1) (by omega) ⟨0+1,p2,s2,[]++[r],[]++[y],.ref (t.nx+1) none t.ep 0 (0+1),.ref (t.nx+3) none t.ep 0 (0+1),by omega,by simp [hL],by simp [hY],?_,?_,by assumption,by simp [w0],by simp [w2],by simp [w3],by simp [w4],by simp [w5],by simp [w6],by simp,by simp; omega,by simp [F1,F2,F3,F4,G1,G2,G3,G4,H1,H2,H3,H4,J1,J2,J3,J4,O1,O2,O3,O4,n0a,n0b,n1a,n1b,n2a,n2b,n3a,n3b],by simp [F1,F2,F3,F4,G1,G2,G3,G4,H1,H2,H3,H4,J1,J2,J3,J4,O1,O2,O3,O4,n0a,n0b,n1a,n1b,n2a,n2b,n3a,n3b,hT1],by simp [F1,F2,F3,F4,G1,G2,G3,G4,H1,H2,H3,H4,J1,J2,J3,J4,O1,O2,O3,O4,n0a,n0b,n1a,n1b,n2a,n2b,n3a,n3b,hT4],by simp [F1,F2,F3,F4,G1,G2,G3,G4,H1,H2,H3,H4,J1,J2,J3,J4,O1,O2,O3,O4,n0a,n0b,n1a,n1b,n2a,n2b,n3a,n3b],.inr ⟨t.nx+1,t.ep,t.nx+3,t.ep,rfl,rfl,by omega,by simp,by omega,by simp,by omega,by simp [F1,F2,F3,F4,G1,G2,G3,G4,H1,H2,H3,H4,J1,J2,J3,J4,O1,O2,O3,O4,n0a,n0b,n1a,n1b,n2a,n2b,n3a,n3b,rws,cel],by simp [F1,F2,F3,F4,G1,G2,G3,G4,H1,H2,H3,H4,J1,J2,J3,J4,O1,O2,O3,O4,n0a,n0b,n1a,n1b,n2a,n2b,n3a,n3b,zac]⟩⟩
     ·intro r' hr'
      rcases List.mem_append.mp hr' with hr' | hr'
      ·exact hLr r' hr'
      ·simp at hr'; subst hr'; exact ⟨hr,hrd⟩
     ·intro y' hy'
      rcases List.mem_append.mp hy' with hy' | hy'
      ·exact hYd y' hy'
      ·simp at hy'; subst hy'; exact hyd
    | false =>
     have hsx:=hrs rfl x0 (List.mem_of_getElem? hx0)
     unfold zuy at hsx
     obtain ⟨q2,d2,_,p3,s3,⟨b4,rfl⟩,hp3,rfl⟩:=ze5 B p2 s2 hp2 hB 4 (by omega)
     cases b4 with
     | true =>
      simp [-getElem?_pos,w0,w2,w3,w4,w5,w6,w7,w8,hT0,hT1,hT4,hT5,hSo3,hx0',hn0,hr,hw,hr1,d1,hr24,na,d2,F1,F2,F3,F4,G1,G2,G3,G4,H1,H2,H3,H4,J1,J2,J3,J4,O1,O2,O3,O4,n0a,n0b,n1a,n1b,n2a,n2b,n3a,n3b]
      refine zam (k-1) (by omega) ⟨0+1,p3,s3,[]++[r],[]++[y],.ref (t.nx+1) none t.ep 0 (0+1),.ref (t.nx+3) none t.ep 0 (0+1),by omega,by simp [hL],by simp [hY],?_,?_,by assumption,by simp [w0],by simp [w2],by simp [w3],by simp [w4],by simp [w5],by simp [w6],by simp,by simp; omega,by simp [F1,F2,F3,F4,G1,G2,G3,G4,H1,H2,H3,H4,J1,J2,J3,J4,O1,O2,O3,O4,n0a,n0b,n1a,n1b,n2a,n2b,n3a,n3b],by simp [F1,F2,F3,F4,G1,G2,G3,G4,H1,H2,H3,H4,J1,J2,J3,J4,O1,O2,O3,O4,n0a,n0b,n1a,n1b,n2a,n2b,n3a,n3b,hT1],by simp [F1,F2,F3,F4,G1,G2,G3,G4,H1,H2,H3,H4,J1,J2,J3,J4,O1,O2,O3,O4,n0a,n0b,n1a,n1b,n2a,n2b,n3a,n3b,hT4],by simp [F1,F2,F3,F4,G1,G2,G3,G4,H1,H2,H3,H4,J1,J2,J3,J4,O1,O2,O3,O4,n0a,n0b,n1a,n1b,n2a,n2b,n3a,n3b],.inr ⟨t.nx+1,t.ep,t.nx+3,t.ep,rfl,rfl,by omega,by simp,by omega,by simp,by omega,by simp [F1,F2,F3,F4,G1,G2,G3,G4,H1,H2,H3,H4,J1,J2,J3,J4,O1,O2,O3,O4,n0a,n0b,n1a,n1b,n2a,n2b,n3a,n3b,rws,cel],by simp [F1,F2,F3,F4,G1,G2,G3,G4,H1,H2,H3,H4,J1,J2,J3,J4,O1,O2,O3,O4,n0a,n0b,n1a,n1b,n2a,n2b,n3a,n3b,zac]⟩⟩
      ·intro r' hr'
       rcases List.mem_append.mp hr' with hr' | hr'
       ·exact hLr r' hr'
       ·simp at hr'; subst hr'; exact ⟨hr,hrd⟩
      ·intro y' hy'
       rcases List.mem_append.mp hy' with hy' | hy'
       ·exact hYd y' hy'
       ·simp at hy'; subst hy'; exact hyd
     | false =>
      obtain ⟨q3,d3,_,p4,s4,⟨a4,rfl,a40,a41⟩,hp4,rfl⟩:=zbu B p3 s3 hp3 hB 5 (by omega)
      have a42:=a41 (by omega)
      have u1:=w64 (x:=x0*2) (by omega) (by omega)
      have u2:=w64 (x:=100*a4) (by omega) (by omega)
      have u3:=w64 (x:=x0*2+100*a4) (by omega) (by omega)
      simp [-getElem?_pos,w0,w2,w3,w4,w5,w6,w7,w8,hT0,hT1,hT4,hT5,hSo3,hx0',hn0,hr,hw,hr1,d1,hr24,na,d2,d3,u1,u2,u3,F1,F2,F3,F4,G1,G2,G3,G4,H1,H2,H3,H4,J1,J2,J3,J4,O1,O2,O3,O4,n0a,n0b,n1a,n1b,n2a,n2b,n3a,n3b]
      refine zam (k-1) (by omega) ⟨0+1,p4,s4,[]++[r],[]++[x0*2+100*a4],.ref (t.nx+1) none t.ep 0 (0+1),.ref (t.nx+3) none t.ep 0 (0+1),by omega,by simp [hL],by simp [hY],?_,?_,by assumption,by simp [w0],by simp [w2],by simp [w3],by simp [w4],by simp [w5],by simp [w6],by simp,by simp; omega,by simp [F1,F2,F3,F4,G1,G2,G3,G4,H1,H2,H3,H4,J1,J2,J3,J4,O1,O2,O3,O4,n0a,n0b,n1a,n1b,n2a,n2b,n3a,n3b],by simp [F1,F2,F3,F4,G1,G2,G3,G4,H1,H2,H3,H4,J1,J2,J3,J4,O1,O2,O3,O4,n0a,n0b,n1a,n1b,n2a,n2b,n3a,n3b,hT1],by simp [F1,F2,F3,F4,G1,G2,G3,G4,H1,H2,H3,H4,J1,J2,J3,J4,O1,O2,O3,O4,n0a,n0b,n1a,n1b,n2a,n2b,n3a,n3b,hT4],by simp [F1,F2,F3,F4,G1,G2,G3,G4,H1,H2,H3,H4,J1,J2,J3,J4,O1,O2,O3,O4,n0a,n0b,n1a,n1b,n2a,n2b,n3a,n3b],.inr ⟨t.nx+1,t.ep,t.nx+3,t.ep,rfl,rfl,by omega,by simp,by omega,by simp,by omega,by simp [F1,F2,F3,F4,G1,G2,G3,G4,H1,H2,H3,H4,J1,J2,J3,J4,O1,O2,O3,O4,n0a,n0b,n1a,n1b,n2a,n2b,n3a,n3b,rws,cel],by simp [F1,F2,F3,F4,G1,G2,G3,G4,H1,H2,H3,H4,J1,J2,J3,J4,O1,O2,O3,O4,n0a,n0b,n1a,n1b,n2a,n2b,n3a,n3b,zac]⟩⟩
      ·intro r' hr'
       rcases List.mem_append.mp hr' with hr' | hr'
       ·exact hLr r' hr'
       ·simp at hr'; subst hr'; exact ⟨hr,hrd⟩
      ·intro y' hy'
       rcases List.mem_append.mp hy' with hy' | hy'
       ·exact hYd y' hy'
       ·simp at hy'; subst hy'; exact zsd (by omega) (by omega)
   ·have hT6:t.S o1=some (.row 1 (rws true L)):=by rw [hfr o1 (by omega) (by omega)]; simp [show (o1=st.nx)=False from eq_false (by omega),hSo1]
    have hT7:t.S o2=some (.row 1 (zac Y)):=by rw [hfr o2 (by omega) (by omega)]; simp [show (o2=st.nx)=False from eq_false (by omega),hSo2]
    obtain ⟨P1,P2,P3,P4⟩:=fr (show o1<t.nx by omega)
    obtain ⟨Q1,Q2,Q3,Q4⟩:=fr (show o2<t.nx by omega)
    have m0a:(o1=0)=False:=eq_false (by omega)
    have m0b:(0=o1)=False:=eq_false (by omega)
    have m1a:(o1=1)=False:=eq_false (by omega)
    have m1b:(1=o1)=False:=eq_false (by omega)
    have m2a:(o1=4)=False:=eq_false (by omega)
    have m2b:(4=o1)=False:=eq_false (by omega)
    have m3a:(o1=5)=False:=eq_false (by omega)
    have m3b:(5=o1)=False:=eq_false (by omega)
    have m4a:(o2=0)=False:=eq_false (by omega)
    have m4b:(0=o2)=False:=eq_false (by omega)
    have m5a:(o2=1)=False:=eq_false (by omega)
    have m5b:(1=o2)=False:=eq_false (by omega)
    have m6a:(o2=4)=False:=eq_false (by omega)
    have m6b:(4=o2)=False:=eq_false (by omega)
    have m7a:(o2=5)=False:=eq_false (by omega)
    have m7b:(5=o2)=False:=eq_false (by omega)
    have m8a:(o1=o3)=False:=eq_false (by omega)
    have m8b:(o3=o1)=False:=eq_false (by omega)
    have m9a:(o2=o3)=False:=eq_false (by omega)
    have m9b:(o3=o2)=False:=eq_false (by omega)
    have m10a:(o1=o2)=False:=eq_false (by omega)
    have m10b:(o2=o1)=False:=eq_false (by omega)
    cases far with
    | true =>
     simp [-getElem?_pos,w0,w2,w3,w4,w5,w6,w7,w8,hT0,hT1,hT4,hT5,hSo3,hx0',hn0,hr,hw,hr1,d1,hr24,na,hT6,hT7,hr24',hr8,hsn1,hL,hY,zdd,F1,F2,F3,F4,G1,G2,G3,G4,H1,H2,H3,H4,J1,J2,J3,J4,O1,O2,O3,O4,n0a,n0b,n1a,n1b,n2a,n2b,n3a,n3b,P1,P2,P3,P4,Q1,Q2,Q3,Q4,m0a,m0b,m1a,m1b,m2a,m2b,m3a,m3b,m4a,m4b,m5a,m5b,m6a,m6b,m7a,m7b,m8a,m8b,m9a,m9b,m10a,m10b]
     refine zam (k-1) (by omega) ⟨i+1,p2,s2,L++[r],Y++[y],.ref (t.nx+1) none t.ep 0 (i+1),.ref (t.nx+3) none t.ep 0 (i+1),by omega,by simp [hL],by simp [hY],?_,?_,by assumption,by simp [w0],by simp [w2],by simp [w3],by simp [w4],by simp [w5],by simp [w6],by simp,by simp; omega,by simp [F1,F2,F3,F4,G1,G2,G3,G4,H1,H2,H3,H4,J1,J2,J3,J4,O1,O2,O3,O4,n0a,n0b,n1a,n1b,n2a,n2b,n3a,n3b,P1,P2,P3,P4,Q1,Q2,Q3,Q4,m0a,m0b,m1a,m1b,m2a,m2b,m3a,m3b,m4a,m4b,m5a,m5b,m6a,m6b,m7a,m7b,m8a,m8b,m9a,m9b,m10a,m10b],by simp [F1,F2,F3,F4,G1,G2,G3,G4,H1,H2,H3,H4,J1,J2,J3,J4,O1,O2,O3,O4,n0a,n0b,n1a,n1b,n2a,n2b,n3a,n3b,P1,P2,P3,P4,Q1,Q2,Q3,Q4,m0a,m0b,m1a,m1b,m2a,m2b,m3a,m3b,m4a,m4b,m5a,m5b,m6a,m6b,m7a,m7b,m8a,m8b,m9a,m9b,m10a,m10b,hT1],by simp [F1,F2,F3,F4,G1,G2,G3,G4,H1,H2,H3,H4,J1,J2,J3,J4,O1,O2,O3,O4,n0a,n0b,n1a,n1b,n2a,n2b,n3a,n3b,P1,P2,P3,P4,Q1,Q2,Q3,Q4,m0a,m0b,m1a,m1b,m2a,m2b,m3a,m3b,m4a,m4b,m5a,m5b,m6a,m6b,m7a,m7b,m8a,m8b,m9a,m9b,m10a,m10b,hT4],by simp [F1,F2,F3,F4,G1,G2,G3,G4,H1,H2,H3,H4,J1,J2,J3,J4,O1,O2,O3,O4,n0a,n0b,n1a,n1b,n2a,n2b,n3a,n3b,P1,P2,P3,P4,Q1,Q2,Q3,Q4,m0a,m0b,m1a,m1b,m2a,m2b,m3a,m3b,m4a,m4b,m5a,m5b,m6a,m6b,m7a,m7b,m8a,m8b,m9a,m9b,m10a,m10b],.inr ⟨t.nx+1,t.ep,t.nx+3,t.ep,rfl,rfl,by omega,by simp,by omega,by simp,by omega,by simp [F1,F2,F3,F4,G1,G2,G3,G4,H1,H2,H3,H4,J1,J2,J3,J4,O1,O2,O3,O4,n0a,n0b,n1a,n1b,n2a,n2b,n3a,n3b,P1,P2,P3,P4,Q1,Q2,Q3,Q4,m0a,m0b,m1a,m1b,m2a,m2b,m3a,m3b,m4a,m4b,m5a,m5b,m6a,m6b,m7a,m7b,m8a,m8b,m9a,m9b,m10a,m10b],by simp [F1,F2,F3,F4,G1,G2,G3,G4,H1,H2,H3,H4,J1,J2,J3,J4,O1,O2,O3,O4,n0a,n0b,n1a,n1b,n2a,n2b,n3a,n3b,P1,P2,P3,P4,Q1,Q2,Q3,Q4,m0a,m0b,m1a,m1b,m2a,m2b,m3a,m3b,m4a,m4b,m5a,m5b,m6a,m6b,m7a,m7b,m8a,m8b,m9a,m9b,m10a,m10b]⟩⟩
     ·intro r' hr'
      rcases List.mem_append.mp hr' with hr' | hr'
      ·exact hLr r' hr'
      ·simp at hr'; subst hr'; exact ⟨hr,hrd⟩
     ·intro y' hy'
      rcases List.mem_append.mp hy' with hy' | hy'
      ·exact hYd y' hy'
      ·simp at hy'; subst hy'; exact hyd
    | false =>
     have hsx:=hrs rfl x0 (List.mem_of_getElem? hx0)
     unfold zuy at hsx
     obtain ⟨q2,d2,_,p3,s3,⟨b4,rfl⟩,hp3,rfl⟩:=ze5 B p2 s2 hp2 hB 4 (by omega)
     cases b4 with
     | true =>
      simp [-getElem?_pos,w0,w2,w3,w4,w5,w6,w7,w8,hT0,hT1,hT4,hT5,hSo3,hx0',hn0,hr,hw,hr1,d1,hr24,na,hT6,hT7,hr24',hr8,hsn1,hL,hY,zdd,d2,F1,F2,F3,F4,G1,G2,G3,G4,H1,H2,H3,H4,J1,J2,J3,J4,O1,O2,O3,O4,n0a,n0b,n1a,n1b,n2a,n2b,n3a,n3b,P1,P2,P3,P4,Q1,Q2,Q3,Q4,m0a,m0b,m1a,m1b,m2a,m2b,m3a,m3b,m4a,m4b,m5a,m5b,m6a,m6b,m7a,m7b,m8a,m8b,m9a,m9b,m10a,m10b]
      refine zam (k-1) (by omega) ⟨i+1,p3,s3,L++[r],Y++[y],.ref (t.nx+1) none t.ep 0 (i+1),.ref (t.nx+3) none t.ep 0 (i+1),by omega,by simp [hL],by simp [hY],?_,?_,by assumption,by simp [w0],by simp [w2],by simp [w3],by simp [w4],by simp [w5],by simp [w6],by simp,by simp; omega,by simp [F1,F2,F3,F4,G1,G2,G3,G4,H1,H2,H3,H4,J1,J2,J3,J4,O1,O2,O3,O4,n0a,n0b,n1a,n1b,n2a,n2b,n3a,n3b,P1,P2,P3,P4,Q1,Q2,Q3,Q4,m0a,m0b,m1a,m1b,m2a,m2b,m3a,m3b,m4a,m4b,m5a,m5b,m6a,m6b,m7a,m7b,m8a,m8b,m9a,m9b,m10a,m10b],by simp [F1,F2,F3,F4,G1,G2,G3,G4,H1,H2,H3,H4,J1,J2,J3,J4,O1,O2,O3,O4,n0a,n0b,n1a,n1b,n2a,n2b,n3a,n3b,P1,P2,P3,P4,Q1,Q2,Q3,Q4,m0a,m0b,m1a,m1b,m2a,m2b,m3a,m3b,m4a,m4b,m5a,m5b,m6a,m6b,m7a,m7b,m8a,m8b,m9a,m9b,m10a,m10b,hT1],by simp [F1,F2,F3,F4,G1,G2,G3,G4,H1,H2,H3,H4,J1,J2,J3,J4,O1,O2,O3,O4,n0a,n0b,n1a,n1b,n2a,n2b,n3a,n3b,P1,P2,P3,P4,Q1,Q2,Q3,Q4,m0a,m0b,m1a,m1b,m2a,m2b,m3a,m3b,m4a,m4b,m5a,m5b,m6a,m6b,m7a,m7b,m8a,m8b,m9a,m9b,m10a,m10b,hT4],by simp [F1,F2,F3,F4,G1,G2,G3,G4,H1,H2,H3,H4,J1,J2,J3,J4,O1,O2,O3,O4,n0a,n0b,n1a,n1b,n2a,n2b,n3a,n3b,P1,P2,P3,P4,Q1,Q2,Q3,Q4,m0a,m0b,m1a,m1b,m2a,m2b,m3a,m3b,m4a,m4b,m5a,m5b,m6a,m6b,m7a,m7b,m8a,m8b,m9a,m9b,m10a,m10b],.inr ⟨t.nx+1,t.ep,t.nx+3,t.ep,rfl,rfl,by omega,by simp,by omega,by simp,by omega,by simp [F1,F2,F3,F4,G1,G2,G3,G4,H1,H2,H3,H4,J1,J2,J3,J4,O1,O2,O3,O4,n0a,n0b,n1a,n1b,n2a,n2b,n3a,n3b,P1,P2,P3,P4,Q1,Q2,Q3,Q4,m0a,m0b,m1a,m1b,m2a,m2b,m3a,m3b,m4a,m4b,m5a,m5b,m6a,m6b,m7a,m7b,m8a,m8b,m9a,m9b,m10a,m10b],by simp [F1,F2,F3,F4,G1,G2,G3,G4,H1,H2,H3,H4,J1,J2,J3,J4,O1,O2,O3,O4,n0a,n0b,n1a,n1b,n2a,n2b,n3a,n3b,P1,P2,P3,P4,Q1,Q2,Q3,Q4,m0a,m0b,m1a,m1b,m2a,m2b,m3a,m3b,m4a,m4b,m5a,m5b,m6a,m6b,m7a,m7b,m8a,m8b,m9a,m9b,m10a,m10b]⟩⟩
      ·intro r' hr'
       rcases List.mem_append.mp hr' with hr' | hr'
       ·exact hLr r' hr'
       ·simp at hr'; subst hr'; exact ⟨hr,hrd⟩
      ·intro y' hy'
       rcases List.mem_append.mp hy' with hy' | hy'
       ·exact hYd y' hy'
       ·simp at hy'; subst hy'; exact hyd
     | false =>
      obtain ⟨q3,d3,_,p4,s4,⟨a4,rfl,a40,a41⟩,hp4,rfl⟩:=zbu B p3 s3 hp3 hB 5 (by omega)
      have a42:=a41 (by omega)
      have u1:=w64 (x:=x0*2) (by omega) (by omega)
      have u2:=w64 (x:=100*a4) (by omega) (by omega)
      have u3:=w64 (x:=x0*2+100*a4) (by omega) (by omega)
      simp [-getElem?_pos,w0,w2,w3,w4,w5,w6,w7,w8,hT0,hT1,hT4,hT5,hSo3,hx0',hn0,hr,hw,hr1,d1,hr24,na,hT6,hT7,hr24',hr8,hsn1,hL,hY,zdd,d2,d3,u1,u2,u3,F1,F2,F3,F4,G1,G2,G3,G4,H1,H2,H3,H4,J1,J2,J3,J4,O1,O2,O3,O4,n0a,n0b,n1a,n1b,n2a,n2b,n3a,n3b,P1,P2,P3,P4,Q1,Q2,Q3,Q4,m0a,m0b,m1a,m1b,m2a,m2b,m3a,m3b,m4a,m4b,m5a,m5b,m6a,m6b,m7a,m7b,m8a,m8b,m9a,m9b,m10a,m10b]
      refine zam (k-1) (by omega) ⟨i+1,p4,s4,L++[r],Y++[x0*2+100*a4],.ref (t.nx+1) none t.ep 0 (i+1),.ref (t.nx+3) none t.ep 0 (i+1),by omega,by simp [hL],by simp [hY],?_,?_,by assumption,by simp [w0],by simp [w2],by simp [w3],by simp [w4],by simp [w5],by simp [w6],by simp,by simp; omega,by simp [F1,F2,F3,F4,G1,G2,G3,G4,H1,H2,H3,H4,J1,J2,J3,J4,O1,O2,O3,O4,n0a,n0b,n1a,n1b,n2a,n2b,n3a,n3b,P1,P2,P3,P4,Q1,Q2,Q3,Q4,m0a,m0b,m1a,m1b,m2a,m2b,m3a,m3b,m4a,m4b,m5a,m5b,m6a,m6b,m7a,m7b,m8a,m8b,m9a,m9b,m10a,m10b],by simp [F1,F2,F3,F4,G1,G2,G3,G4,H1,H2,H3,H4,J1,J2,J3,J4,O1,O2,O3,O4,n0a,n0b,n1a,n1b,n2a,n2b,n3a,n3b,P1,P2,P3,P4,Q1,Q2,Q3,Q4,m0a,m0b,m1a,m1b,m2a,m2b,m3a,m3b,m4a,m4b,m5a,m5b,m6a,m6b,m7a,m7b,m8a,m8b,m9a,m9b,m10a,m10b,hT1],by simp [F1,F2,F3,F4,G1,G2,G3,G4,H1,H2,H3,H4,J1,J2,J3,J4,O1,O2,O3,O4,n0a,n0b,n1a,n1b,n2a,n2b,n3a,n3b,P1,P2,P3,P4,Q1,Q2,Q3,Q4,m0a,m0b,m1a,m1b,m2a,m2b,m3a,m3b,m4a,m4b,m5a,m5b,m6a,m6b,m7a,m7b,m8a,m8b,m9a,m9b,m10a,m10b,hT4],by simp [F1,F2,F3,F4,G1,G2,G3,G4,H1,H2,H3,H4,J1,J2,J3,J4,O1,O2,O3,O4,n0a,n0b,n1a,n1b,n2a,n2b,n3a,n3b,P1,P2,P3,P4,Q1,Q2,Q3,Q4,m0a,m0b,m1a,m1b,m2a,m2b,m3a,m3b,m4a,m4b,m5a,m5b,m6a,m6b,m7a,m7b,m8a,m8b,m9a,m9b,m10a,m10b],.inr ⟨t.nx+1,t.ep,t.nx+3,t.ep,rfl,rfl,by omega,by simp,by omega,by simp,by omega,by simp [F1,F2,F3,F4,G1,G2,G3,G4,H1,H2,H3,H4,J1,J2,J3,J4,O1,O2,O3,O4,n0a,n0b,n1a,n1b,n2a,n2b,n3a,n3b,P1,P2,P3,P4,Q1,Q2,Q3,Q4,m0a,m0b,m1a,m1b,m2a,m2b,m3a,m3b,m4a,m4b,m5a,m5b,m6a,m6b,m7a,m7b,m8a,m8b,m9a,m9b,m10a,m10b],by simp [F1,F2,F3,F4,G1,G2,G3,G4,H1,H2,H3,H4,J1,J2,J3,J4,O1,O2,O3,O4,n0a,n0b,n1a,n1b,n2a,n2b,n3a,n3b,P1,P2,P3,P4,Q1,Q2,Q3,Q4,m0a,m0b,m1a,m1b,m2a,m2b,m3a,m3b,m4a,m4b,m5a,m5b,m6a,m6b,m7a,m7b,m8a,m8b,m9a,m9b,m10a,m10b]⟩⟩
      ·intro r' hr'
       rcases List.mem_append.mp hr' with hr' | hr'
       ·exact hLr r' hr'
       ·simp at hr'; subst hr'; exact ⟨hr,hrd⟩
      ·intro y' hy'
       rcases List.mem_append.mp hy' with hy' | hy'
       ·exact hYd y' hy'
       ·simp at hy'; subst hy'; exact zsd (by omega) (by omega)
  ·have him:i=m:=by omega
   subst him
   rcases hx with ⟨rfl,rfl,rfl,rfl⟩ | ⟨o1,e1,o2,e2,rfl,rfl,ho1,ho1x,ho2,ho2x,ho12,hSo1,hSo2⟩
   ·simp at hL; omega
   ·have n0a:(o1=0)=False:=eq_false (by omega)
    have n0b:(0=o1)=False:=eq_false (by omega)
    have n1a:(o1=1)=False:=eq_false (by omega)
    have n1b:(1=o1)=False:=eq_false (by omega)
    have n2a:(o1=4)=False:=eq_false (by omega)
    have n2b:(4=o1)=False:=eq_false (by omega)
    have n3a:(o1=5)=False:=eq_false (by omega)
    have n3b:(5=o1)=False:=eq_false (by omega)
    have n4a:(o2=0)=False:=eq_false (by omega)
    have n4b:(0=o2)=False:=eq_false (by omega)
    have n5a:(o2=1)=False:=eq_false (by omega)
    have n5b:(1=o2)=False:=eq_false (by omega)
    have n6a:(o2=4)=False:=eq_false (by omega)
    have n6b:(4=o2)=False:=eq_false (by omega)
    have n7a:(o2=5)=False:=eq_false (by omega)
    have n7b:(5=o2)=False:=eq_false (by omega)
    have n8a:(o1=o2)=False:=eq_false (by omega)
    have n8b:(o2=o1)=False:=eq_false (by omega)
    have hfin:=yxn hn1 hn3 hm1 hm40 hL hY hLr hYd
    rw [← hns] at hfin
    have hq1:1≤o1:=by omega
    have hq2:1≤o2:=by omega
    simp [-getElem?_pos,zzh,zlb,hq1,hq2,v0,v2,v4,v5,v7,h,hS0,hS1,hS4,hS5,hSo1,hSo2,hnl,hL,hY,n0a,n0b,n1a,n1b,n2a,n2b,n3a,n3b,n4a,n4b,n5a,n5b,n6a,n6b,n7a,n7b,n8a,n8b]
    exact ⟨_,p,s,hfin,hp,rfl⟩
 obtain ⟨r4,h4,v4,p4,s4,⟨b4,rfl⟩,hp4,rfl⟩:=ze5 B p3 s3 hp3 hB 12 (by omega)
 refine zd9 z98 rfl ?_
 cases b3 with
 | false =>
  obtain ⟨m,hm⟩ : ∃ m:Nat,1+a2=m:=⟨(1+a2).toNat,by omega⟩
  have w2:=w64 (x:=(m:Int)) (by omega) (by omega)
  simp [-getElem?_pos,ztx,zlb,h1,h2,h3,h4,hnf,hm,w1,w2,hr0,hr1,hr2,hn4,hcut,yez,hnl]
  exact key m b4 p4 s4 _ (by omega) (by omega) hp4 (by simp) (by simp) (by simp) (by simp) (by simp) (by simp) (by simp) (by simp) (by simp) (by simp) (by simp) (by simp)
 | true =>
  obtain ⟨r5,h5,v5,p5,s5,⟨a5,rfl,a50,a51⟩,hp5,rfl⟩:=zbu B p3 s3 hp3 hB 40 (by omega)
  have a52:=a51 (by omega)
  obtain ⟨m,hm⟩ : ∃ m:Nat,1+a5=m:=⟨(1+a5).toNat,by omega⟩
  have w2:=w64 (x:=(m:Int)) (by omega) (by omega)
  have w3:=w64 (x:=1+a2) (by omega) (by omega)
  obtain ⟨r6,h6,v6,p6,s6,⟨b6,rfl⟩,hp6,rfl⟩:=ze5 B p5 s5 hp5 hB 12 (by omega)
  simp [-getElem?_pos,ztx,zlb,h1,h2,h3,h5,h6,hnf,hm,w1,w2,w3,hr0,hr1,hr2,hn4,hcut,yez,hnl]
  exact key m b6 p6 s6 _ (by omega) (by omega) hp6 (by simp) (by simp) (by simp) (by simp) (by simp) (by simp) (by simp) (by simp) (by simp) (by simp) (by simp) (by simp)
theorem y2y (cuts col:List Int) (hcu:cuts.length≤8) (hco:col.length≤40) {st:St} {q1 e1 q2 e2 q3 e3:Nat} {Q:Ex→St→Prop} (v7:st.V 7 = .ref q1 none e1 0 col.length) (v8:st.V 8 = .ref q2 none e2 0 cuts.length) (v9:st.V 9 = .ref q3 none e3 0 0) (v10:st.V 10=iv (0:Nat)) (h1:q1<q3) (h2:q2<q3) (h3:q3<st.nx) (hS1:st.S q1=some (.row 1 (zac col))) (hS2:st.S q2=some (.row 1 (zac cuts))) (hS3:st.S q3=some (.row 1 []))
  (hQ : ∀ (s':St) (q' e':Nat) (bins:List Int),bins.length=col.length→(∀ x∈bins,0≤x∧x≤8)→(∀ k,k≠9→k≠10→s'.V k=st.V k)→s'.V 9 = .ref q' none e' 0 bins.length→q3≤q'→q'<s'.nx→st.nx≤s'.nx→s'.S q'=some (.row 1 (zac bins))→(∀ k,k<q3→s'.S k=st.S k)→Q (.exit 2) s') :
  W (zad T) (RUN T) (.loop zze) st Q:=by
 refine za4 (fun m s' => ∃ (i q' e':Nat) (bins:List Int),i+m=col.length∧bins.length=i∧(∀ x∈bins,0≤x∧x≤8)∧(∀ k,k≠9→k≠10→s'.V k=st.V k)∧s'.V 9 = .ref q' none e' 0 bins.length∧s'.V 10=iv i∧q3≤q'∧q'<s'.nx∧st.nx≤s'.nx∧s'.S q'=some (.row 1 (zac bins))∧(∀ k,k<q3→s'.S k=st.S k)) ?_ col.length _ ⟨0,q3,e3,[],by omega,rfl,by simp,fun _ _ _=>rfl,by simpa using v9,by simpa using v10,by omega,h3,Nat.le_refl _,by simpa [zac] using hS3,fun _ _=>rfl⟩
 rintro m s' ⟨i,q',e',bins,hi,hb,hbb,hV,v9',v10',hq,hqx,hnx,hSq,hfr⟩
 have v7':s'.V 7 = .ref q1 none e1 0 col.length:=by rw [hV 7 (by decide) (by decide)]; exact v7
 have v8':s'.V 8 = .ref q2 none e2 0 cuts.length:=by rw [hV 8 (by decide) (by decide)]; exact v8
 have hS1':s'.S q1=some (.row 1 (zac col)):=by rw [hfr q1 h1]; exact hS1
 have hS2':s'.S q2=some (.row 1 (zac cuts)):=by rw [hfr q2 h2]; exact hS2
 by_cases h:i<col.length
 ·obtain ⟨x,hx⟩ : ∃ x,col[i]?=some x:=⟨_,List.getElem?_eq_getElem h⟩
  have hx':=zbg hx
  have hw:=wS h (by omega:col.length≤9223372036854775807)
  have hr1:zak 8 1=true:=by decide
  have hr8:=zd0 (n:=bins.length+1) (by omega)
  obtain ⟨r2,h4,y,hy,rfl⟩:=yvc cuts x (by omega)
  have hsn:=zdd bins (y:Int)
  have a1:=fr hqx
  have a2:=fr (show q1<q' by omega)
  have a3:=fr (show q2<q' by omega)
  have a4:=fr (show q1<s'.nx by omega)
  have a5:=fr (show q2<s'.nx by omega)
  simp [-getElem?_pos,zze,v7',v8',v9',v10',hS1',hS2',hSq,h,hx',h4,hw,hr1,hr8,hsn,a1,a2,a3,a4,a5]
  refine zam (m-1) (by omega) ⟨i+1,s'.nx+1,s'.ep,bins++[(y:Int)],by omega,by simp [hb],?_,fun k k1 k2 => ?_,by simp,by simp,by omega,by simp,by simp; omega,by simp,fun k k1 => ?_⟩
  ·intro z hz
   rcases List.mem_append.mp hz with hz | hz
   ·exact hbb z hz
   ·simp at hz; subst hz; omega
  ·simp [k1,k2]; exact hV k k1 k2
  ·have b1:(k=s'.nx)=False:=eq_false (by omega)
   have b2:(k=s'.nx+1)=False:=eq_false (by omega)
   have b3:(k=q')=False:=eq_false (by omega)
   simp [b1,b2,b3]
   exact hfr k k1
 ·have hin:i=col.length:=by omega
  simp [-getElem?_pos,zze,v7',v10',hS1',h]
  exact hQ _ q' e' bins (by omega) hbb (fun k k1 k2=>by simp; exact hV k k1 k2) (by simp [v9']) hq (by simp [hqx]) (by simp [hnx]) (by simp [hSq]) (fun k k1=>by simp; exact hfr k k1)
theorem yhz {t:Ta} (h:zll t=true):1≤t.ns.length∧t.ns.length≤4∧1≤t.rw.length∧t.rw.length≤40∧t.lb.length=t.rw.length∧∀ r∈t.rw,r.length=t.ns.length:=by
 unfold zll at h
 simp only [Bool.and_eq_true,decide_eq_true_eq,List.all_eq_true] at h
 obtain ⟨⟨⟨⟨⟨h1,_⟩,h3⟩,h4⟩,_⟩,h6⟩:=h
 have h1:=zax.mp h1
 have h3:=zax.mp h3
 refine ⟨by omega,by omega,by omega,by omega,by omega,fun r hr => ?_⟩
 have:=h6 r hr
 unfold zg4 at this
 simp only [Bool.and_eq_true,decide_eq_true_eq] at this
 omega
def LG (S:Nat→Option Ob) (nx:Nat) (C D:List (List Int)) (x y:PV):Prop:=(x = .e0∧y = .e0∧C=[]∧D=[])∨∃ o e o' e',x = .ref o none e 0 C.length∧y = .ref o' none e' 0 D.length∧2<o∧o<nx∧2<o'∧o'<nx∧o≠o'∧S o=some (.row 1 (rws true C))∧S o'=some (.row 1 (rws true D))
theorem LG.mono {S S':Nat→Option Ob} {nx nx':Nat} {C D:List (List Int)} {x y:PV} (h:LG S nx C D x y) (hn:nx≤nx') (hS : ∀ k,2<k→k<nx→S' k=S k):LG S' nx' C D x y:=by
 rcases h with h | ⟨o,e,o',e',h1,h2,h3,h4,h5,h6,h7,h8,h9⟩
 ·exact .inl h
 ·exact .inr ⟨o,e,o',e',h1,h2,h3,by omega,h5,by omega,h7,by rw [hS o h3 h4]; exact h8,by rw [hS o' h5 h6]; exact h9⟩
def GrR (n m:Nat) (r:List PV×List PV):Prop := ∃ c v:List (List Int),c.length=n∧v.length=n∧(∀ l∈c,l.length≤8)∧(∀ l∈v,l.length=m∧∀ x∈l,0≤x∧x≤8)∧r=([.agg [.own 1 (rws true c),.own 1 (rws true v)]],[])
set_option maxHeartbeats 4000000 in
theorem yvh (q:Bool) (t:Ta) (b:Int) (ht:TaL 1048576 t) (hok:zll t=true) (hb:2≤b∧b≤8) : ∃ r,RUN T zp1 [taS q t,iv b]=some r∧GrR t.ns.length t.rw.length r:=by
 have e1:=yvb q t ⟨Nat.le_trans ht.ns (by omega),fun x hx=>Nat.le_trans (ht.ss x hx) (by omega),Nat.le_trans ht.nm (by omega),Nat.le_trans ht.rw (by omega),fun x hx=>Nat.le_trans (ht.rr x hx) (by omega),Nat.le_trans ht.lb (by omega)⟩
 rw [hok] at e1
 obtain ⟨t1,t2,t3,t4,t5,t6⟩:=yhz hok
 have g1:=zbm b 2 8
 rw [zax.mpr (by omega)] at g1
 have hr1:zak 24 1=true:=by decide
 have hr0:zak 8 0=true:=by decide
 have cl:=yvf q t
 simp only [taS] at *
 refine zd9 z97 rfl ?_
 simp [-getElem?_pos,zzf,zzg,-za6,e1,g1]
 refine za4 (fun n st => ∃ (i:Nat) (C D:List (List Int)) (x y:PV),i+n=t.ns.length∧C.length=i∧D.length=i∧(∀ l∈C,l.length≤8)∧(∀ l∈D,l.length=t.rw.length∧∀ x∈l,0≤x∧x≤8)∧st.V 1=iv b∧st.V 2 = .ptr 0 none 0 0 0∧st.V 4 = .ptr 1 none 0 0 0∧st.V 5 = .ptr 2 none 0 0 0∧st.V 6=iv i∧2<st.nx∧LG st.S st.nx C D x y∧st.S 0=some (.box [.sl 1 (zdx t.ns),.v (.string t.nm),.sl 1 (rws q t.rw),.sl 1 (zac t.lb)])∧st.S 1=some (.box [.e0,.e0])∧st.S 2=some (.box [x,y])) ?_ t.ns.length _ ⟨0,[],[],.e0,.e0,by omega,rfl,rfl,by simp,by simp,by simp,by simp,by simp,by simp,by simp,by simp,.inl ⟨rfl,rfl,rfl,rfl⟩,by simp,by simp,by simp⟩
 rintro n st ⟨i,C,D,x,y,hi,hC,hD,hC8,hD8,v1,v2,v4,v5,v6,hnx,hx,hS0,hS1,hS2⟩
 have z1:=fr hnx
 have z2:=fr (show 1<st.nx by omega)
 have z3:=fr (show 0<st.nx by omega)
 by_cases h:i<t.ns.length
 ·have hw:=wS h (by omega:t.ns.length≤9223372036854775807)
  obtain ⟨r1,h1,col,hcol,rfl⟩:=cl i ht h t4 t6
  obtain ⟨r2,h2,cuts,hcu,rfl⟩:=yve col b (by omega) (by omega) hb
  simp [-getElem?_pos,z3n,-za6,v1,v2,v4,v5,v6,hS0,hS1,hS2,h,h1,h2,hr0,z1,z2,z3]
  refine y2y cuts col hcu (by omega) (q1:=st.nx) (q2:=st.nx+1) (q3:=st.nx+2) (by simp; rfl) (by simp; rfl) (by simp; rfl) (by simp) (by omega) (by omega) (by simp) (by simp) (by simp) (by simp) ?_
  intro s' q' e' bins hbl hbb hV w9 hq hqx hnx' hSq hfr
  simp only at hq hnx'
  have w1:s'.V 1=iv b:=by rw [hV 1 (by decide) (by decide)]; simp [v1]
  have w2:s'.V 2 = .ptr 0 none 0 0 0:=by rw [hV 2 (by decide) (by decide)]; simp [v2]
  have w4:s'.V 4 = .ptr 1 none 0 0 0:=by rw [hV 4 (by decide) (by decide)]; simp [v4]
  have w5:s'.V 5 = .ptr 2 none 0 0 0:=by rw [hV 5 (by decide) (by decide)]; simp [v5]
  have w6:s'.V 6=iv i:=by rw [hV 6 (by decide) (by decide)]; simp [v6]
  obtain ⟨e8,w8⟩ : ∃ e,s'.V 8 = .ref (st.nx+1) none e 0 cuts.length:=⟨_,by rw [hV 8 (by decide) (by decide)]; simp; rfl⟩
  have hT0:s'.S 0=some (.box [.sl 1 (zdx t.ns),.v (.string t.nm),.sl 1 (rws q t.rw),.sl 1 (zac t.lb)]):=by rw [hfr 0 (by omega)]; simp [z1,z2,z3,hS0]
  have hT1:s'.S 1=some (.box [.e0,.e0]):=by rw [hfr 1 (by omega)]; simp [z1,z2,z3,hS1]
  have hT2:s'.S 2=some (.box [x,y]):=by rw [hfr 2 (by omega)]; simp [z1,z2,z3,hS2]
  have hT8:s'.S (st.nx+1)=some (.row 1 (zac cuts)):=by rw [hfr _ (by omega)]; simp
  have hL:LG s'.S s'.nx C D x y:=hx.mono (by omega) (fun k k1 k2=>by
   rw [hfr k (by omega)]
   have b1:(k=st.nx)=False:=eq_false (by omega)
   have b2:(k=st.nx+1)=False:=eq_false (by omega)
   have b3:(k=st.nx+2)=False:=eq_false (by omega)
   simp [b1,b2,b3])
  have hr24:zak 24 (C.length+1)=true:=by simp [zak]; omega
  have hr24':zak 24 (D.length+1)=true:=by simp [zak]; omega
  have s1:=zu8 C cuts
  have s2:=zu8 D bins
  obtain ⟨p8,hp8⟩ : ∃ p8,p8=st.nx+1:=⟨_,rfl⟩
  rw [← hp8] at w8 hT8
  have hp8q:p8<q':=by omega
  have hp82:2<p8:=by omega
  have hL':LG s'.S p8 C D x y:=by
   rcases hx with hx | ⟨o,e,o',e',k1,k2,k3,k4,k5,k6,k7,k8,k9⟩
   ·exact .inl hx
   ·rcases hL with ⟨l1,_⟩ | ⟨o2,e2,o2',e2',l1,l2,l3,l4,l5,l6,l7,l8,l9⟩
    ·rw [k1] at l1; cases l1
    ·rw [k1] at l1; cases l1
     rw [k2] at l2; cases l2
     exact .inr ⟨o,e,o',e',k1,k2,k3,by omega,k5,by omega,k7,l8,l9⟩
  clear hL hx hfr hV hp8 hS0 hS1 hS2 v1 v2 v4 v5 v6 z1 z2 z3 h1 h2
  have a1:=fr hqx
  have a2:=fr hp8q
  have a3:=fr (show p8<s'.nx by omega)
  have a4:=fr hp82
  have a5:=fr (show 2<q' by omega)
  have a6:=fr (show 2<s'.nx by omega)
  have b1:=fr (show 1<p8 by omega)
  have b2:=fr (show 1<q' by omega)
  have b3:=fr (show 1<s'.nx by omega)
  have b4:=fr (show 0<p8 by omega)
  have b5:=fr (show 0<q' by omega)
  have b6:=fr (show 0<s'.nx by omega)
  have nn1 : ¬ s'.nx=1:=by omega
  have nn2 : ¬ s'.nx+1=q':=by omega
  have na : ∀ a b:Nat,s'.nx+a+b=s'.nx+(a+b):=fun a b=>Nat.add_assoc _ _ _
  have hC8' : ∀ l∈C++[cuts],l.length≤8:=fun l hl=>by
   rcases List.mem_append.mp hl with hl | hl
   ·exact hC8 l hl
   ·simp at hl; subst hl; omega
  have hD8' : ∀ l∈D++[bins],l.length=t.rw.length∧∀ x∈l,0≤x∧x≤8:=fun l hl=>by
   rcases List.mem_append.mp hl with hl | hl
   ·exact hD8 l hl
   ·simp at hl; subst hl; exact ⟨by omega,hbb⟩
  rcases hL' with ⟨rfl,rfl,hC0,hD0⟩ | ⟨o,e,o',e',rfl,rfl,ho,hox,ho',hox',hoo,hSo,hSo'⟩
  ·subst hC0 hD0
   simp [-getElem?_pos,w1,w2,w4,w5,w6,w8,w9,hT0,hT1,hT2,hT8,hSq,hw,hr1,na,a1,a2,a3,a4,a5,a6,b1,b2,b3,b4,b5,b6]
   exact zam (n-1) (by omega) ⟨i+1,[cuts],[bins],.ref (s'.nx+1) none s'.ep 0 1,.ref (s'.nx+3) none s'.ep 0 1,by omega,by simp at hC; simp; omega,by simp at hC; simp; omega,hC8',hD8',by simp [w1],by simp [w2],by simp [w4],by simp [w5],by simp,by first | (simp; done) | (simp; omega),.inr ⟨s'.nx+1,s'.ep,s'.nx+3,s'.ep,rfl,rfl,by omega,by simp,by omega,by simp,by omega,by simp [nn1,nn2,rws,cel],by simp [rws,cel]⟩,by simp [a1,a2,a3,a4,a5,a6,b1,b2,b3,b4,b5,b6,hT0],by simp [a1,a2,a3,a4,a5,a6,b1,b2,b3,b4,b5,b6,hT1],by simp⟩
  ·have c1:=fr ho
   have c2:=fr hox
   have c3:=fr ho'
   have c4:=fr hox'
   have c5:=fr (show o<q' by omega)
   have c6:=fr (show o'<q' by omega)
   have d1:=fr (show o<s'.nx by omega)
   have d2:=fr (show o'<s'.nx by omega)
   have d3:=fr (show 1<o by omega)
   have d4:=fr (show 1<o' by omega)
   have d5:=fr (show 0<o by omega)
   have d6:=fr (show 0<o' by omega)
   have hoo2 : ¬ o'=o:=fun e=>hoo e.symm
   have nn3 : ¬ s'.nx+1=o':=by omega
   simp [-getElem?_pos,w1,w2,w4,w5,w6,w8,w9,hT0,hT1,hT2,hT8,hSq,hSo,hSo',hoo,hoo2,hw,hr1,hr24,hr24',s1,s2,na,a1,a2,a3,a4,a5,a6,b1,b2,b3,b4,b5,b6,c1,c2,c3,c4,c5,c6,d1,d2,d3,d4,d5,d6]
   exact zam (n-1) (by omega) ⟨i+1,C++[cuts],D++[bins],.ref (s'.nx+1) none s'.ep 0 (C.length+1),.ref (s'.nx+3) none s'.ep 0 (D.length+1),by omega,by simp [hC],by simp [hD],hC8',hD8',by simp [w1],by simp [w2],by simp [w4],by simp [w5],by simp,by first | (simp; done) | (simp; omega),.inr ⟨s'.nx+1,s'.ep,s'.nx+3,s'.ep,by simp,by simp,by omega,by simp,by omega,by simp,by omega,by simp [nn1,nn2,nn3],by simp⟩,by simp [a1,a2,a3,a4,a5,a6,b1,b2,b3,b4,b5,b6,c1,c2,c3,c4,c5,c6,d1,d2,d3,d4,d5,d6,hT0],by simp [a1,a2,a3,a4,a5,a6,b1,b2,b3,b4,b5,b6,c1,c2,c3,c4,c5,c6,d1,d2,d3,d4,d5,d6,hT1],by simp⟩
 ·have hin:i=t.ns.length:=by omega
  rcases hx with ⟨rfl,rfl,hC0,hD0⟩ | ⟨o,e,o',e',rfl,rfl,ho,hox,ho',hox',hoo,hSo,hSo'⟩
  ·subst hC0
   simp at hC; omega
  ·have c1:=fr ho
   have c3:=fr ho'
   have d3:=fr (show 1<o by omega)
   have d4:=fr (show 1<o' by omega)
   have d5:=fr (show 0<o by omega)
   have d6:=fr (show 0<o' by omega)
   have hoo2 : ¬ o'=o:=fun e=>hoo e.symm
   simp [-getElem?_pos,z3n,v1,v2,v4,v5,v6,hS0,hS1,hS2,h,hSo,hSo',hoo,hoo2,c1,c3,d3,d4,d5,d6]
   exact ⟨C,D,by omega,by omega,hC8,hD8,rfl⟩
def PGr (v:PV):Prop := ∃ c w:List (List Int),v = .agg [.own 1 (rws true c),.own 1 (rws true w)]∧c.length≤8∧w.length≤8∧(∀ l∈c,l.length≤64)∧∀ l∈w,l.length≤64
def PGs (v:PV):Prop := ∃ c w:List (List Int),v = .agg [.own 1 (rws true c),.own 1 (rws true w)]∧1≤c.length∧c.length≤4∧w.length=c.length∧(∀ l∈c,l.length≤8)∧∃ m:Nat,1≤m∧m≤40∧∀ l∈w,l.length=m∧∀ x∈l,0≤x∧x≤8
theorem yc0 (B:List Int) (p:Nat) (s:Int) (hp:p≤B.length) (hB:B.length≤9223372036854775807) : ∃ r,RUN T zmd [.bx [.sl 1 (zbo B),iv p,iv s]]=some r∧zf1 B PGs r:=by
 refine zd9 z86 rfl ?_
 obtain ⟨r1,h1,v1,p1,s1,⟨t,rfl,ht,hok⟩,hp1,rfl⟩:=yvg B p s hp hB
 obtain ⟨r2,h2,v2,p2,s2,⟨a2,rfl,a20,a21⟩,hp2,rfl⟩:=zbu B p1 s1 hp1 hB 5 (by omega)
 have a22:=a21 (by omega)
 have w1:=w64 (x:=2+a2) (by omega) (by omega)
 obtain ⟨r3,h3,c,w,hc,hw,hc8,hw8,rfl⟩:=yvh true t (2+a2) ⟨Nat.le_trans ht.ns (by omega),fun x hx=>Nat.le_trans (ht.ss x hx) (by omega),Nat.le_trans ht.nm (by omega),Nat.le_trans ht.rw (by omega),fun x hx=>Nat.le_trans (ht.rr x hx) (by omega),Nat.le_trans ht.lb (by omega)⟩ hok (by omega)
 obtain ⟨t1,t2,t3,t4,t5,t6⟩:=yhz hok
 simp only [taO,taS] at h1 h3
 simp [-getElem?_pos,zxt,zxu,h1,h2,h3,w1]
 exact ⟨_,p2,s2,⟨c,w,rfl,by omega,by omega,by omega,hc8,t.rw.length,t3,t4,hw8⟩,hp2,rfl⟩
theorem yvi (B:List Int) (p:Nat) (s:Int) (hp:p≤B.length) (hB:B.length≤9223372036854775807) (k:Nat) (hk:k≤64) : ∃ r,RUN T zpi [.bx [.sl 1 (zbo B),iv p,iv s],iv k]=some r∧zf1 B (PRw k) r:=by
 refine zd9 z88 rfl ?_
 have hr0:zak 8 0=true:=by decide
 have hr1:zak 8 1=true:=by decide
 obtain ⟨r1,h1,v1',p1,s1,⟨far,rfl⟩,hp1,rfl⟩:=ze5 B p s hp hB 20 (by omega)
 simp [-getElem?_pos,zxw,zxx,hr0,h1]
 refine za4 (fun n st => ∃ (i p o e:Nat) (s:Int) (m:List Int),i+n=k∧m.length=i∧(∀ n∈m,inI n)∧p≤B.length∧st.V 0 = .ptr 0 none 0 0 0∧st.V 1=iv k∧st.V 5 = .ref o none e 0 m.length∧st.V 6=bv far∧st.V 7=iv i∧0<o∧o<st.nx∧st.S 0=some (.box [.sl 1 (zbo B),iv p,iv s])∧st.S o=some (.row 1 (zac m))) ?_ k _ ⟨0,p1,1,0,s1,[],by omega,by simp,by simp,hp1,by simp,by simp,by simp,by simp,by simp,by omega,by simp,by simp,by simp [zac]⟩
 clear hp hp1 h1
 rintro n st ⟨i,p,o,e,s,m,hi,hm,hmi,hp,v0,v1,v5,v6,v7,ho,hox,hS,hSo⟩
 obtain ⟨f1,f2,f3,f4⟩:=fr hox
 obtain ⟨g1,g2,g3,g4⟩:=fr ho
 obtain ⟨z1,z2,z3,z4⟩:=fr (show 0<st.nx by omega)
 have ho1:1≤o:=by omega
 by_cases h:i<k
 ·have hw:=wS h (by omega:k≤9223372036854775807)
  have hr8:=zd0 (n:=m.length+1) (by omega)
  cases far with
  | true =>
   obtain ⟨r2,h2,v2,p2,s2,⟨x,rfl,hx⟩,hp2,rfl⟩:=yt0 B p s hp hB
   have hsn:=zdd m x
   simp [-getElem?_pos,zxv,v0,v1,v5,v6,v7,hS,hSo,h,h2,hr1,hr8,hw,hsn,f1,f2,f3,f4,g1,g2,g3,g4,z1,z2,z3,z4]
   refine zam (n-1) (by omega) ⟨i+1,p2,st.nx+1,st.ep,s2,m++[x],by omega,by simp [hm],?_,hp2,by simp [v0],by simp [v1],by simp,by simp [v6],by simp,by omega,by simp,by simp [f1,f2,f3,f4,g1,g2,g3,g4,z1,z2,z3,z4],by simp⟩
   intro y hy
   rcases List.mem_append.mp hy with hy | hy
   ·exact hmi y hy
   ·simp at hy; subst hy; exact hx
  | false =>
   obtain ⟨r2,h2,v2,p2,s2,⟨x,rfl,x0,x1⟩,hp2,rfl⟩:=zbu B p s hp hB 41 (by omega)
   obtain ⟨r3,h3,v3,p3,s3,⟨y,rfl,y0,y1⟩,hp3,rfl⟩:=zbu B p2 s2 hp2 hB 3 (by omega)
   have x2:=x1 (by omega)
   have y2:=y1 (by omega)
   have w1:=w64 (x:=x-20) (by omega) (by omega)
   have w2:=w64 (x:=100*(x-20)) (by omega) (by omega)
   have w3:=w64 (x:=100*(x-20)+y) (by omega) (by omega)
   have hsn:=zdd m (100*(x-20)+y)
   simp [-getElem?_pos,zxv,v0,v1,v5,v6,v7,hS,hSo,h,h2,h3,w1,w2,w3,hr1,hr8,hw,hsn,f1,f2,f3,f4,g1,g2,g3,g4,z1,z2,z3,z4]
   refine zam (n-1) (by omega) ⟨i+1,p3,st.nx+1,st.ep,s3,m++[100*(x-20)+y],by omega,by simp [hm],?_,hp3,by simp [v0],by simp [v1],by simp,by simp [v6],by simp,by omega,by simp,by simp [f1,f2,f3,f4,g1,g2,g3,g4,z1,z2,z3,z4],by simp⟩
   intro z hz
   rcases List.mem_append.mp hz with hz | hz
   ·exact hmi z hz
   ·simp at hz; subst hz; unfold inI; omega
 ·simp [-getElem?_pos,zxv,v0,v1,v5,v6,v7,hS,hSo,h,ho1,f1,f2,f3,f4,g1,g2,g3,g4]
  exact ⟨_,p,s,⟨m,rfl,by omega,hmi⟩,hp,rfl⟩
theorem zut {α:Type} {P:α→Prop} {c:List α} {f:Nat} {x:α} (h : ∀ l∈c,P l) (hx:P x) : ∀ l∈c.set f x,P l:=fun l hl=>by
 rcases List.mem_or_eq_of_mem_set hl with hl | hl
 ·exact h l hl
 ·subst hl; exact hx
theorem zvd {α:Type} {P:α→Prop} {c:List α} {x:α} (h : ∀ l∈c,P l) (hx:P x) : ∀ l∈c++[x],P l:=fun l hl=>by
 rcases List.mem_append.mp hl with hl | hl
 ·exact h l hl
 ·simp at hl; subst hl; exact hx
set_option maxHeartbeats 4000000 in
theorem yvj (B:List Int) (p:Nat) (s:Int) (hp:p≤B.length) (hB:B.length≤9223372036854775807) : ∃ r,RUN T zpk [.bx [.sl 1 (zbo B),iv p,iv s]]=some r∧zf1 B PGr r:=by
 refine zd9 z9c rfl ?_
 obtain ⟨r1,h1,v1,p1,s1,⟨c,w,rfl,hc1,hc4,hwc,hc8,m,hm1,hm40,hwm⟩,hp1,rfl⟩:=yc0 B p s hp hB
 obtain ⟨r2,h2,v2,p2,s2,⟨a2,rfl,a20,a21⟩,hp2,rfl⟩:=zbu B p1 s1 hp1 hB c.length (by omega)
 have a22:=a21 (by omega)
 obtain ⟨f,rfl⟩ : ∃ f:Nat,a2=f:=⟨a2.toNat,by omega⟩
 obtain ⟨r3,h3,v3,p3,s3,⟨d,rfl,d0,d1⟩,hp3,rfl⟩:=zbu B p2 s2 hp2 hB 14 (by omega)
 have hf:f<c.length:=by omega
 have hfw:f<w.length:=by omega
 obtain ⟨l,hl⟩ : ∃ l,c[f]?=some l:=⟨_,List.getElem?_eq_getElem hf⟩
 obtain ⟨u,hu⟩ : ∃ u,w[f]?=some u:=⟨_,List.getElem?_eq_getElem hfw⟩
 have hl8:=hc8 l (List.mem_of_getElem? hl)
 obtain ⟨hum,hub⟩:=hwm u (List.mem_of_getElem? hu)
 have hl':=zd1 (q:=true) hl
 have hu':=zd1 (q:=true) hu
 simp only [cel,if_true] at hl' hu'
 have cA : ∀ l∈c,l.length≤64:=fun l hl=>by have:=hc8 l hl; omega
 have wA : ∀ l∈w,l.length≤64:=fun l hl=>by have:=(hwm l hl).1; omega
 have hr1:zak 8 1=true:=by decide
 have hr0:zak 8 0=true:=by decide
 have hr5:zak 8 5=true:=by decide
 have hr24:zak 24 1=true:=by decide
 have hr240:zak 24 0=true:=by decide
 have hrl:=zd0 (n:=l.length+1) (by omega)
 have hru:=zd0 (n:=u.length+1) (by omega)
 have hrc:zak 24 (c.length+1)=true:=by simp [zak]; omega
 have hrw:zak 24 (w.length+1)=true:=by simp [zak]; omega
 by_cases e0:d=0
 ·subst e0
  obtain ⟨r4,h4,v4,p4,s4,⟨x,rfl,hx⟩,hp4,rfl⟩:=z4h B p3 s3 hp3 hB
  have hsn:=zdd l x
  have hset:=z2q c f (l++[x])
  simp [-getElem?_pos,zhp,zhq,zbn,zcx,h1,h2,h3,h4,hf,hl',hr1,hrl,hsn,hset]
  exact ⟨_,p4,s4,⟨c.set f (l++[x]),w,rfl,by simp; omega,by omega,zut cA (by simp; omega),wA⟩,hp4,rfl⟩
 by_cases e1:d=1
 ·subst e1
  obtain ⟨r4,h4,v4,p4,s4,⟨x,rfl,hx⟩,hp4,rfl⟩:=zg3 B p3 s3 hp3 hB [0,1,-1,8,9223372036854775807] (by simp)
  simp only [zac,List.map] at h4
  obtain ⟨y,hy⟩ : ∃ y,u[0]?=some y:=⟨_,List.getElem?_eq_getElem (by omega)⟩
  have hy':=zbg hy
  have hu0:0<u.length:=by omega
  have hset0:=ykn u 0 x
  have hset:=z2q w f (u.set 0 x)
  simp [-getElem?_pos,zhp,zhq,zbn,zcx,h1,h2,h3,h4,hf,hfw,hu',hy',hu0,hr5,hset0,hset]
  exact ⟨_,p4,s4,⟨c,w.set f (u.set 0 x),rfl,by omega,by simp; omega,cA,zut wA (by simp; omega)⟩,hp4,rfl⟩
 by_cases e2:d=2
 ·subst e2
  have hsn:=zdd u 0
  have hset:=z2q w f (u++[0])
  simp [-getElem?_pos,zhp,zhq,zbn,zcx,h1,h2,h3,hf,hfw,hu',hr1,hru,hsn]
  exact ⟨_,p3,s3,⟨c,w.set f (u++[0]),by rw [← hset],by omega,by simp; omega,cA,zut wA (by simp; omega)⟩,hp3,rfl⟩
 by_cases e3:d=3
 ·subst e3
  have hsn:=zu8 w [0]
  simp only [zac,List.map] at hsn
  simp [-getElem?_pos,zhp,zhq,h1,h2,h3,hr1,hr24,hrw,hsn]
  exact ⟨_,p3,s3,⟨c,w++[[0]],rfl,by omega,by simp; omega,cA,zvd wA (by simp)⟩,hp3,rfl⟩
 by_cases e4:d=4
 ·subst e4
  have hsn:=zu8 c []
  simp only [zac,List.map] at hsn
  simp [-getElem?_pos,zhp,zhq,h1,h2,h3,hr0,hr24,hrc,hsn]
  exact ⟨_,p3,s3,⟨c++[[]],w,rfl,by simp; omega,by omega,zvd cA (by simp),wA⟩,hp3,rfl⟩
 by_cases e5:d=5
 ·subst e5
  simp [-getElem?_pos,zhp,zhq,h1,h2,h3,hr240]
  exact ⟨_,p3,s3,⟨c,[],rfl,by omega,by simp,cA,by simp⟩,hp3,rfl⟩
 by_cases e6:d=6
 ·subst e6
  have w1:=w64 (x:=(l.length:Int)+1) (by omega) (by omega)
  obtain ⟨r4,h4,v4,p4,s4,⟨x,rfl,x0,x1⟩,hp4,rfl⟩:=zbu B p3 s3 hp3 hB ((l.length:Int)+1) (by omega)
  have x2:=x1 (by omega)
  obtain ⟨k,rfl⟩ : ∃ k:Nat,x=k:=⟨x.toNat,by omega⟩
  have hkl:k≤l.length:=by omega
  have hcut:(if k=l.length then zac l else List.take k (zac l))=zac (l.take k):=by
   split
   ·rename_i e; rw [e,List.take_length]
   ·simp [zac,List.map_take]
  have hset:=z2q c f (l.take k)
  simp [-getElem?_pos,zhp,zhq,zbn,zcx,h1,h2,h3,h4,hf,hl',w1,hkl,hcut,hset]
  exact ⟨_,p4,s4,⟨c.set f (l.take k),w,rfl,by simp; omega,by omega,zut cA (by simp; omega),wA⟩,hp4,rfl⟩
 ·simp [-getElem?_pos,zhp,zhq,h1,h2,h3,e0,e1,e2,e3,e4,e5,e6]
  exact ⟨_,p3,s3,⟨c,w,rfl,by omega,by omega,cA,wA⟩,hp3,rfl⟩
theorem zoj {m:Nat→List Bool} {R:zaj} {a b:IC} {st:St} {Q:Ex→St→Prop} (P:St→Prop) (h1:W m R a st (Nx P Q ⟨⟩ ⟨⟩)) (h2 : ∀ s,P s→W m R b s Q):W m R (.seq a b) st Q:=by
 rw [zsi]
 refine h1.mono fun e s h => ?_
 cases e with
 | normal =>
  simp only [yed] at h ⊢
  exact h2 s h
 | exit i =>
  simp only [yvw] at h ⊢
  exact h
 | ret =>
  simp only [y0r] at h ⊢
  exact h
theorem zuo {m:Nat→List Bool} {R:zaj} {a b c:IC} {st:St} {Q:Ex→St→Prop} (h:W m R (.seq (.seq a b) c) st Q):W m R (.seq a (.seq b c)) st Q:=by
 rw [zsi,zsi] at h
 rw [zsi]
 refine h.mono fun e s h => ?_
 cases e with
 | normal =>
  simp only [yed] at h ⊢
  rw [zsi]; exact h
 | exit i=>simpa using h
 | ret=>simpa using h
def A0 (B:List Int) (c v:List (List Int)) (m M:Nat) (s:St):Prop := ∃ (p o e:Nat) (sd:Int) (gs:List Int),p≤B.length∧m≤gs.length∧gs.length≤M∧(∀ x∈gs,inI x)∧s.V 2 = .v (.pointer none)∧s.V 3 = .ptr 0 none 0 0 0∧s.V 5 = .ptr 1 none 0 0 0∧s.V 6 = .ptr 2 none 0 0 0∧s.V 7 = .ptr 5 none 0 0 0∧s.V 8=iv m∧s.V 9 = .ref o none e 0 gs.length∧5<o∧o<s.nx∧s.S 0=some (.box [.e0,.e0])∧s.S 1=some (.box [iv 0,iv 0,iv 0,iv 0,iv 0,iv 0,iv 0,.e0])∧s.S 2=some (.box [.sl 1 (zbo B),iv p,iv sd])∧s.S o=some (.row 1 (zac gs))∧s.S 3=some (.row 1 (rws true c))∧s.S 4=some (.row 1 (rws true v))∧s.S 5=some (.box [.ref 3 none 0 0 c.length,.ref 4 none 0 0 v.length])
def A1 (B:List Int) (c v:List (List Int)) (m:Nat) (s:St):Prop := ∃ (p o e:Nat) (sd:Int) (gs:List Int) (q w ew eq:Nat) (k:Cfg),p≤B.length∧gs.length≤m+1∧(∀ x∈gs,inI x)∧k.sg.length≤64∧s.V 2 = .v (.pointer none)∧s.V 3 = .ptr 0 none 0 0 0∧s.V 5 = .ptr 1 none 0 0 0∧s.V 6 = .ptr 2 none 0 0 0∧s.V 7 = .ptr 5 none 0 0 0∧s.V 8=iv m∧s.V 9 = .ref o none e 0 gs.length∧5<o∧o<s.nx∧s.S 0=some (.box [.e0,.e0])∧s.S 1=some (.box [iv 0,iv 0,iv 0,iv 0,iv 0,iv 0,iv 0,.e0])∧s.S 2=some (.box [.sl 1 (zbo B),iv p,iv sd])∧s.S o=some (.row 1 (zac gs))∧s.S 3=some (.row 1 (rws true c))∧s.S 4=some (.row 1 (rws true v))∧s.S 5=some (.box [.ref 3 none 0 0 c.length,.ref 4 none 0 0 v.length])∧s.V 12 = .ptr w none ew 0 0∧o<q∧o<w∧q<s.nx∧w<s.nx∧¬ q=w∧s.S w=some (.box [iv k.ro,iv k.de,iv k.bi,iv k.la,iv k.rw,iv k.nu,iv k.dn,.ref q none eq 0 k.sg.length])∧s.S q=some (.row 1 (zac k.sg))
def A2 (B:List Int) (m:Nat) (s:St):Prop := ∃ (p o e:Nat) (sd:Int) (gs:List Int) (q w ew eq:Nat) (k:Cfg) (c v:List (List Int)) (a b ea eb:Nat),p≤B.length∧gs.length≤m+1∧(∀ x∈gs,inI x)∧k.sg.length≤64∧(c.length≤8∧v.length≤8∧(∀ l∈c,l.length≤64)∧∀ l∈v,l.length≤64)∧s.V 2 = .v (.pointer none)∧s.V 3 = .ptr 0 none 0 0 0∧s.V 5 = .ptr 1 none 0 0 0∧s.V 6 = .ptr 2 none 0 0 0∧s.V 7 = .ptr 5 none 0 0 0∧s.V 8=iv m∧s.V 9 = .ref o none e 0 gs.length∧5<o∧o<s.nx∧s.S 0=some (.box [.e0,.e0])∧s.S 1=some (.box [iv 0,iv 0,iv 0,iv 0,iv 0,iv 0,iv 0,.e0])∧s.S 2=some (.box [.sl 1 (zbo B),iv p,iv sd])∧s.S o=some (.row 1 (zac gs))∧s.V 12 = .ptr w none ew 0 0∧o<q∧o<w∧q<s.nx∧w<s.nx∧¬ q=w∧s.S w=some (.box [iv k.ro,iv k.de,iv k.bi,iv k.la,iv k.rw,iv k.nu,iv k.dn,.ref q none eq 0 k.sg.length])∧s.S q=some (.row 1 (zac k.sg))∧s.S a=some (.row 1 (rws true c))∧s.S b=some (.row 1 (rws true v))∧s.S 5=some (.box [.ref a none ea 0 c.length,.ref b none eb 0 v.length])∧¬ a=b∧a<s.nx∧b<s.nx∧2<a∧2<b∧¬ a=5∧¬ b=5∧¬ a=o∧¬ b=o∧¬ a=q∧¬ b=q∧¬ a=w∧¬ b=w
def y1z (B:List Int) (r:List PV×List PV):Prop := ∃ (p:Nat) (sd:Int) (c v:List (List Int)) (g:List Int) (k:Cfg),p≤B.length∧(c.length≤8∧v.length≤8∧(∀ l∈c,l.length≤64)∧∀ l∈v,l.length≤64)∧g.length≤64∧(∀ x∈g,inI x)∧k.sg.length≤64∧r=([.bx [.sl 1 (zbo B),iv p,iv sd],.agg [.own 1 (rws true c),.own 1 (rws true v)],.own 1 (zac g),zkh k],[])
set_option maxHeartbeats 8000000 in
theorem yvk (B:List Int) (hB:B.length≤9223372036854775807) : ∃ r,RUN T zo4 [.sl 1 (zbo B)]=some r∧y1z B r:=by
 refine zd9 z77 rfl ?_
 obtain ⟨r0,h0,s0,rfl⟩:=yt1 B hB
 simp only [Int.natCast_zero] at h0
 obtain ⟨r1,h1,w1,p1,s1,⟨c,v,rfl,hc1,hc4,hvc,hc8,m,hm1,hm40,hvm⟩,hp1,rfl⟩:=yc0 B 0 s0 (by omega) hB
 simp only [Int.natCast_zero] at h1
 have h2:=z3y true c v
 have hrow:zcl v=m:=by
  cases v with
  | nil=>simp at hvc; omega
  | cons l v=>have:=(hvm l (by simp)).1; simp [zcl]; omega
 rw [hrow] at h2
 obtain ⟨u,hu⟩ : ∃ u,v[0]?=some u:=⟨_,List.getElem?_eq_getElem (by omega)⟩
 obtain ⟨hum,hub⟩:=hvm u (List.mem_of_getElem? hu)
 have hu':=zd1 (q:=true) hu
 simp only [cel,if_true] at hu'
 have hv0:0<v.length:=by omega
 have hcA : ∀ l∈c,l.length≤64:=fun l hl=>by have:=hc8 l hl; omega
 have hvA : ∀ l∈v,l.length≤64:=fun l hl=>by have:=(hvm l hl).1; omega
 have hr0:zak 8 0=true:=by decide
 have hr1:zak 8 1=true:=by decide
 have hr3:zak 8 3=true:=by decide
 have hr4:zak 8 4=true:=by decide
 clear hrow
 unfold zwd
 refine zuo (zuo (zuo (zuo (zuo ?_))))
 refine zoj (A0 B c v m m) ?_ ?_
 ·simp [-getElem?_pos,hr0,h0,h1,h2]
  refine za4 (fun n s => ∃ (i p o e:Nat) (sd:Int) (gs:List Int),i+n=m∧gs.length=i∧(∀ x∈gs,inI x)∧p≤B.length∧s.V 10=iv i∧s.V 2 = .v (.pointer none)∧s.V 3 = .ptr 0 none 0 0 0∧s.V 5 = .ptr 1 none 0 0 0∧s.V 6 = .ptr 2 none 0 0 0∧s.V 7 = .ptr 5 none 0 0 0∧s.V 8=iv m∧s.V 9 = .ref o none e 0 gs.length∧5<o∧o<s.nx∧s.S 0=some (.box [.e0,.e0])∧s.S 1=some (.box [iv 0,iv 0,iv 0,iv 0,iv 0,iv 0,iv 0,.e0])∧s.S 2=some (.box [.sl 1 (zbo B),iv p,iv sd])∧s.S o=some (.row 1 (zac gs))∧s.S 3=some (.row 1 (rws true c))∧s.S 4=some (.row 1 (rws true v))∧s.S 5=some (.box [.ref 3 none 0 0 c.length,.ref 4 none 0 0 v.length])) ?_ m _ ⟨0,p1,6,0,s1,[],by omega,rfl,by simp,hp1,by simp,by simp,by simp,by simp,by simp,by simp,by simp,by simp,by omega,by simp,by simp,by simp,by simp,by simp [zac],by simp,by simp,by simp⟩
  clear h0 h1 h2 hp1
  rintro n s ⟨i,p,o,e,sd,gs,hi,hgl,hgi,hp,v10,v2,v3,v5,v6,v7,v8,v9,ho,hox,hS0,hS1,hS2,hSo,hS3,hS4,hS5⟩
  have fa:=fr hox
  have fb:=fr ho
  have fc:=fr (by omega:0<o)
  have fd:=fr (by omega:1<o)
  have fe:=fr (by omega:2<o)
  have ff:=fr (by omega:3<o)
  have fg:=fr (by omega:4<o)
  have fy0:=fr (by omega:0<s.nx)
  have fy1:=fr (by omega:1<s.nx)
  have fy2:=fr (by omega:2<s.nx)
  have fy3:=fr (by omega:3<s.nx)
  have fy4:=fr (by omega:4<s.nx)
  have fy5:=fr (by omega:5<s.nx)
  by_cases h:i<m
  ·have hw:=wS h (by omega:m≤9223372036854775807)
   have hr8:=zd0 (n:=gs.length+1) (by omega)
   obtain ⟨r2,h2,w2,p2,s2,⟨x,rfl,x0,x1⟩,hp2,rfl⟩:=zbu B p sd hp hB 41 (by omega)
   obtain ⟨r3,h3,w3,p3,s3,⟨y,rfl,y0',y1'⟩,hp3,rfl⟩:=zbu B p2 s2 hp2 hB 3 (by omega)
   obtain ⟨r4,h4,w4,p4,s4,⟨b4,rfl⟩,hp4,rfl⟩:=ze5 B p3 s3 hp3 hB 4 (by omega)
   have x2':=x1 (by omega)
   have y2':=y1' (by omega)
   have k1:=w64 (x:=x-20) (by omega) (by omega)
   have k2:=w64 (x:=100*(x-20)) (by omega) (by omega)
   have k3:=w64 (x:=100*(x-20)+y) (by omega) (by omega)
   have hiu:i<u.length:=by omega
   have hiu2:(i:Int)<u.length:=by omega
   cases b4 with
   | true =>
    have hsn:=zdd gs (100*(x-20)+y)
    have hin : ∀ z∈gs++[100*(x-20)+y],inI z:=zvd hgi (by unfold inI; omega)
    simp [-getElem?_pos,zwc,zbn,v10,v2,v3,v5,v6,v7,v8,v9,hS0,hS1,hS2,hSo,hS3,hS4,hS5,h,hu',hv0,hiu,hiu2,h2,h3,h4,k1,k2,k3,hw,hr1,hr8,hsn,fa,fb,fc,fd,fe,ff,fg,fy0,fy1,fy2,fy3,fy4,fy5]
    refine zam (n-1) (by omega) ⟨i+1,p4,s.nx+1,s.ep,s4,_,by omega,by simp [hgl],hin,hp4,by simp,?_,?_,?_,?_,?_,?_,by simp,by omega,by simp,?_,?_,?_,by simp,?_,?_,?_⟩ <;> simp [v2,v3,v5,v6,v7,v8,v9,hS0,hS1,hS2,hSo,hS3,hS4,hS5,fa,fb,fc,fd,fe,ff,fg,fy0,fy1,fy2,fy3,fy4,fy5]
   | false =>
    obtain ⟨r5,h5,w5,p5,s5,⟨z,rfl,z0,z1⟩,hp5,rfl⟩:=zbu B p4 s4 hp4 hB 4 (by omega)
    have z2:=z1 (by omega)
    obtain ⟨t,ht⟩ : ∃ t,u[i]?=some t:=⟨_,List.getElem?_eq_getElem hiu⟩
    have ht':=zbg ht
    have htb:=hub t (List.mem_of_getElem? ht)
    have k4:=w64 (x:=300*t) (by omega) (by omega)
    have k5:=w64 (x:=300*t-400) (by omega) (by omega)
    have k6:=w64 (x:=50*z) (by omega) (by omega)
    have k7:=w64 (x:=300*t-400+50*z) (by omega) (by omega)
    have hsn:=zdd gs (300*t-400+50*z)
    have hin : ∀ z'∈gs++[300*t-400+50*z],inI z':=zvd hgi (by unfold inI; omega)
    simp [-getElem?_pos,zwc,zbn,v10,v2,v3,v5,v6,v7,v8,v9,hS0,hS1,hS2,hSo,hS3,hS4,hS5,h,hu',hv0,hiu,hiu2,ht',h2,h3,h4,h5,k1,k2,k3,k4,k5,k6,k7,hw,hr1,hr8,hsn,fa,fb,fc,fd,fe,ff,fg,fy0,fy1,fy2,fy3,fy4,fy5]
    refine zam (n-1) (by omega) ⟨i+1,p5,s.nx+1,s.ep,s5,_,by omega,by simp [hgl],hin,hp5,by simp,?_,?_,?_,?_,?_,?_,by simp,by omega,by simp,?_,?_,?_,by simp,?_,?_,?_⟩ <;> simp [v2,v3,v5,v6,v7,v8,v9,hS0,hS1,hS2,hSo,hS3,hS4,hS5,fa,fb,fc,fd,fe,ff,fg,fy0,fy1,fy2,fy3,fy4,fy5]
  ·simp [-getElem?_pos,zwc,v10,v8,h]
   refine ⟨p,o,e,sd,gs,hp,by omega,by omega,hgi,?_,?_,?_,?_,?_,?_,?_,ho,by simp [hox],?_,?_,?_,?_,?_,?_,?_⟩ <;> simp [v2,v3,v5,v6,v7,v8,v9,hS0,hS1,hS2,hSo,hS3,hS4,hS5]
 clear h0 h1 h2 hp1 hu hum hub hu' hv0
 intro s hs
 refine zoj (A0 B c v m m) ?_ ?_
 ·obtain ⟨p,o,e,sd,gs,hp,hg1,hg2,hgi,v2,v3,v5,v6,v7,v8,v9,ho,hox,hS0,hS1,hS2,hSo,hS3,hS4,hS5⟩:=hs
  have fa:=fr hox
  have fb:=fr ho
  have fc:=fr (by omega:0<o)
  have fd:=fr (by omega:1<o)
  have fe:=fr (by omega:2<o)
  have ff:=fr (by omega:3<o)
  have fg:=fr (by omega:4<o)
  have fy0:=fr (by omega:0<s.nx)
  have fy1:=fr (by omega:1<s.nx)
  have fy2:=fr (by omega:2<s.nx)
  have fy3:=fr (by omega:3<s.nx)
  have fy4:=fr (by omega:4<s.nx)
  have fy5:=fr (by omega:5<s.nx)
  obtain ⟨r1,h1,w1,p1,s1,⟨b,rfl⟩,hp1,rfl⟩:=ze5 B p sd hp hB 12 (by omega)
  cases b with
  | true =>
   obtain ⟨r2,h2,w2,p2,s2,⟨l,rfl,hl,hlI⟩,hp2,rfl⟩:=yvi B p1 s1 hp1 hB m (by omega)
   simp [-getElem?_pos,h1,h2,v2,v3,v5,v6,v7,v8,v9,hS0,hS1,hS2,hSo,hS3,hS4,hS5,fa,fb,fc,fd,fe,ff,fg,fy0,fy1,fy2,fy3,fy4,fy5]
   refine ⟨p2,s.nx,s.ep,s2,l,hp2,(by omega),(by omega),hlI,?_,?_,?_,?_,?_,?_,by simp,by omega,by simp,?_,?_,?_,by simp,?_,?_,?_⟩ <;> simp [v2,v3,v5,v6,v7,v8,v9,hS0,hS1,hS2,hSo,hS3,hS4,hS5,fa,fb,fc,fd,fe,ff,fg,fy0,fy1,fy2,fy3,fy4,fy5]
  | false =>
   simp [-getElem?_pos,h1,v2,v3,v5,v6,v7,v8,v9,hS0,hS1,hS2,hSo,hS3,hS4,hS5,fa,fb,fc,fd,fe,ff,fg,fy0,fy1,fy2,fy3,fy4,fy5]
   refine ⟨p1,o,e,s1,gs,hp1,hg1,hg2,hgi,?_,?_,?_,?_,?_,?_,?_,ho,by simp [hox],?_,?_,?_,?_,?_,?_,?_⟩ <;> simp [v2,v3,v5,v6,v7,v8,v9,hS0,hS1,hS2,hSo,hS3,hS4,hS5,fa,fb,fc,fd,fe,ff,fg,fy0,fy1,fy2,fy3,fy4,fy5]
 clear hs s
 intro s hs
 refine zoj (A0 B c v m (m+1)) ?_ ?_
 ·obtain ⟨p,o,e,sd,gs,hp,hg1,hg2,hgi,v2,v3,v5,v6,v7,v8,v9,ho,hox,hS0,hS1,hS2,hSo,hS3,hS4,hS5⟩:=hs
  have fa:=fr hox
  have fb:=fr ho
  have fc:=fr (by omega:0<o)
  have fd:=fr (by omega:1<o)
  have fe:=fr (by omega:2<o)
  have ff:=fr (by omega:3<o)
  have fg:=fr (by omega:4<o)
  have fy0:=fr (by omega:0<s.nx)
  have fy1:=fr (by omega:1<s.nx)
  have fy2:=fr (by omega:2<s.nx)
  have fy3:=fr (by omega:3<s.nx)
  have fy4:=fr (by omega:4<s.nx)
  have fy5:=fr (by omega:5<s.nx)
  obtain ⟨r1,h1,w1,p1,s1,⟨b,rfl⟩,hp1,rfl⟩:=ze5 B p sd hp hB 20 (by omega)
  cases b with
  | true =>
   obtain ⟨r2,h2,w2,p2,s2,⟨x,rfl,hx⟩,hp2,rfl⟩:=zg3 B p1 s1 hp1 hB [0,2199023255552,2199023255553] (by simp)
   simp only [zac,List.map] at h2
   have hr8:=zd0 (n:=gs.length+1) (by omega)
   have hsn:=zdd gs x
   have hin : ∀ z∈gs++[x],inI z:=zvd hgi (by simp at hx; unfold inI; omega)
   simp [-getElem?_pos,h1,h2,hr1,hr3,hr8,hsn,v2,v3,v5,v6,v7,v8,v9,hS0,hS1,hS2,hSo,hS3,hS4,hS5,fa,fb,fc,fd,fe,ff,fg,fy0,fy1,fy2,fy3,fy4,fy5]
   refine ⟨p2,s.nx+2,s.ep,s2,_,hp2,(by simp; omega),(by simp; omega),hin,?_,?_,?_,?_,?_,?_,by simp,by omega,by simp,?_,?_,?_,by simp,?_,?_,?_⟩ <;> simp [v2,v3,v5,v6,v7,v8,v9,hS0,hS1,hS2,hSo,hS3,hS4,hS5,fa,fb,fc,fd,fe,ff,fg,fy0,fy1,fy2,fy3,fy4,fy5]
  | false =>
   simp [-getElem?_pos,h1,v2,v3,v5,v6,v7,v8,v9,hS0,hS1,hS2,hSo,hS3,hS4,hS5,fa,fb,fc,fd,fe,ff,fg,fy0,fy1,fy2,fy3,fy4,fy5]
   refine ⟨p1,o,e,s1,gs,hp1,hg1,(by omega),hgi,?_,?_,?_,?_,?_,?_,?_,ho,by simp [hox],?_,?_,?_,?_,?_,?_,?_⟩ <;> simp [v2,v3,v5,v6,v7,v8,v9,hS0,hS1,hS2,hSo,hS3,hS4,hS5,fa,fb,fc,fd,fe,ff,fg,fy0,fy1,fy2,fy3,fy4,fy5]
 clear hs s
 intro s hs
 refine zoj (A0 B c v m (m+1)) ?_ ?_
 ·obtain ⟨p,o,e,sd,gs,hp,hg1,hg2,hgi,v2,v3,v5,v6,v7,v8,v9,ho,hox,hS0,hS1,hS2,hSo,hS3,hS4,hS5⟩:=hs
  have fa:=fr hox
  have fb:=fr ho
  have fc:=fr (by omega:0<o)
  have fd:=fr (by omega:1<o)
  have fe:=fr (by omega:2<o)
  have ff:=fr (by omega:3<o)
  have fg:=fr (by omega:4<o)
  have fy0:=fr (by omega:0<s.nx)
  have fy1:=fr (by omega:1<s.nx)
  have fy2:=fr (by omega:2<s.nx)
  have fy3:=fr (by omega:3<s.nx)
  have fy4:=fr (by omega:4<s.nx)
  have fy5:=fr (by omega:5<s.nx)
  obtain ⟨r1,h1,w1,p1,s1,⟨b,rfl⟩,hp1,rfl⟩:=ze5 B p sd hp hB 20 (by omega)
  have hm0:0<m:=by omega
  cases b with
  | true =>
   obtain ⟨r2,h2,w2,p2,s2,⟨x,rfl,hx⟩,hp2,rfl⟩:=zg3 B p1 s1 hp1 hB [2199023255552,2199023255553,-2199023255552,-2199023255553] (by simp)
   simp only [zac,List.map] at h2
   obtain ⟨y,hy⟩ : ∃ y,gs[0]?=some y:=⟨_,List.getElem?_eq_getElem (by omega)⟩
   have hy':=zbg hy
   have hg0:0<gs.length:=by omega
   have hset:=ykn gs 0 x
   have hin : ∀ z∈gs.set 0 x,inI z:=zut hgi (by simp at hx; unfold inI; omega)
   simp [-getElem?_pos,h1,h2,hm0,hr4,hy',hg0,hset,v2,v3,v5,v6,v7,v8,v9,hS0,hS1,hS2,hSo,hS3,hS4,hS5,fa,fb,fc,fd,fe,ff,fg,fy0,fy1,fy2,fy3,fy4,fy5]
   refine ⟨p2,o,e,s2,gs.set 0 x,hp2,by simp; omega,by simp; omega,hin,?_,?_,?_,?_,?_,?_,?_,ho,by simp; omega,?_,?_,?_,?_,?_,?_,?_⟩ <;> simp [v2,v3,v5,v6,v7,v8,v9,hS0,hS1,hS2,hSo,hS3,hS4,hS5,fa,fb,fc,fd,fe,ff,fg,fy0,fy1,fy2,fy3,fy4,fy5]
  | false =>
   simp [-getElem?_pos,h1,hm0,v2,v3,v5,v6,v7,v8,v9,hS0,hS1,hS2,hSo,hS3,hS4,hS5,fa,fb,fc,fd,fe,ff,fg,fy0,fy1,fy2,fy3,fy4,fy5]
   refine ⟨p1,o,e,s1,gs,hp1,hg1,hg2,hgi,?_,?_,?_,?_,?_,?_,?_,ho,by simp [hox],?_,?_,?_,?_,?_,?_,?_⟩ <;> simp [v2,v3,v5,v6,v7,v8,v9,hS0,hS1,hS2,hSo,hS3,hS4,hS5,fa,fb,fc,fd,fe,ff,fg,fy0,fy1,fy2,fy3,fy4,fy5]
 clear hs s
 intro s hs
 refine zoj (A1 B c v m) ?_ ?_
 ·obtain ⟨p,o,e,sd,gs,hp,hg1,hg2,hgi,v2,v3,v5,v6,v7,v8,v9,ho,hox,hS0,hS1,hS2,hSo,hS3,hS4,hS5⟩:=hs
  have fa:=fr hox
  have fb:=fr ho
  have fc:=fr (by omega:0<o)
  have fd:=fr (by omega:1<o)
  have fe:=fr (by omega:2<o)
  have ff:=fr (by omega:3<o)
  have fg:=fr (by omega:4<o)
  have fy0:=fr (by omega:0<s.nx)
  have fy1:=fr (by omega:1<s.nx)
  have fy2:=fr (by omega:2<s.nx)
  have fy3:=fr (by omega:3<s.nx)
  have fy4:=fr (by omega:4<s.nx)
  have fy5:=fr (by omega:5<s.nx)
  obtain ⟨r1,h1,w1,p1,s1,⟨k,rfl,hk⟩,hp1,rfl⟩:=yb8 B p sd hp hB
  simp only [zkh] at h1
  simp [-getElem?_pos,h1,v2,v3,v5,v6,v7,v8,v9,hS0,hS1,hS2,hSo,hS3,hS4,hS5,fa,fb,fc,fd,fe,ff,fg,fy0,fy1,fy2,fy3,fy4,fy5]
  refine ⟨p1,o,e,s1,gs,s.nx,s.nx+1,s.ep,s.ep,k,hp1,hg2,hgi,by omega,?_,?_,?_,?_,?_,?_,?_,ho,by simp; omega,?_,?_,?_,?_,?_,?_,?_,by simp,hox,by omega,by simp,by simp,by omega,by simp,by simp⟩ <;> simp [v2,v3,v5,v6,v7,v8,v9,hS0,hS1,hS2,hSo,hS3,hS4,hS5,fa,fb,fc,fd,fe,ff,fg,fy0,fy1,fy2,fy3,fy4,fy5]
 clear hs s
 intro s hs
 refine zoj (A1 B c v m) ?_ ?_
 ·obtain ⟨p,o,e,sd,gs,q,w,ew,eq,k,hp,hg2,hgi,hk,v2,v3,v5,v6,v7,v8,v9,ho,hox,hS0,hS1,hS2,hSo,hS3,hS4,hS5,v12,hoq,how,hqx,hwx,hqw,hSw,hSq⟩:=hs
  have fa:=fr hox
  have fb:=fr ho
  have fc:=fr (by omega:0<o)
  have fd:=fr (by omega:1<o)
  have fe:=fr (by omega:2<o)
  have ff:=fr (by omega:3<o)
  have fg:=fr (by omega:4<o)
  have fy0:=fr (by omega:0<s.nx)
  have fy1:=fr (by omega:1<s.nx)
  have fy2:=fr (by omega:2<s.nx)
  have fy3:=fr (by omega:3<s.nx)
  have fy4:=fr (by omega:4<s.nx)
  have fy5:=fr (by omega:5<s.nx)
  have fu:=fr hoq
  have fv:=fr how
  have fw:=fr hqx
  have fx:=fr hwx
  have ft0:=fr (by omega:0<q)
  have ft1:=fr (by omega:1<q)
  have ft2:=fr (by omega:2<q)
  have ft3:=fr (by omega:3<q)
  have ft4:=fr (by omega:4<q)
  have ft5:=fr (by omega:5<q)
  have fr0:=fr (by omega:0<w)
  have fr1:=fr (by omega:1<w)
  have fr2:=fr (by omega:2<w)
  have fr3:=fr (by omega:3<w)
  have fr4:=fr (by omega:4<w)
  have fr5:=fr (by omega:5<w)
  have hwq : ¬ w=q:=fun h=>hqw h.symm
  obtain ⟨r1,h1,w1,p1,s1,⟨b,rfl⟩,hp1,rfl⟩:=ze5 B p sd hp hB 20 (by omega)
  cases b with
  | true =>
   obtain ⟨r2,h2,w2,p2,s2,⟨k2,rfl,hk2⟩,hp2,rfl⟩:=yt4 B p1 s1 hp1 hB
   simp only [zkh] at h2
   simp [-getElem?_pos,h1,h2,v2,v3,v5,v6,v7,v8,v9,hS0,hS1,hS2,hSo,hS3,hS4,hS5,fa,fb,fc,fd,fe,ff,fg,fy0,fy1,fy2,fy3,fy4,fy5,v12,hqw,hSw,hSq,hwq,fu,fv,fw,fx,ft0,ft1,ft2,ft3,ft4,ft5,fr0,fr1,fr2,fr3,fr4,fr5]
   refine ⟨p2,o,e,s2,gs,s.nx,w,ew,s.ep,k2,hp2,hg2,hgi,hk2,?_,?_,?_,?_,?_,?_,?_,ho,by simp; omega,?_,?_,?_,?_,?_,?_,?_,by simp [v12],hox,how,by simp,by simp; omega,by omega,by simp [fa,fb,fc,fd,fe,ff,fg,fy0,fy1,fy2,fy3,fy4,fy5,fu,fv,fw,fx,ft0,ft1,ft2,ft3,ft4,ft5,fr0,fr1,fr2,fr3,fr4,fr5],by simp [fa,fb,fc,fd,fe,ff,fg,fy0,fy1,fy2,fy3,fy4,fy5,fu,fv,fw,fx,ft0,ft1,ft2,ft3,ft4,ft5,fr0,fr1,fr2,fr3,fr4,fr5]⟩ <;> simp [v2,v3,v5,v6,v7,v8,v9,hS0,hS1,hS2,hSo,hS3,hS4,hS5,fa,fb,fc,fd,fe,ff,fg,fy0,fy1,fy2,fy3,fy4,fy5,v12,hqw,hSw,hSq,hwq,fu,fv,fw,fx,ft0,ft1,ft2,ft3,ft4,ft5,fr0,fr1,fr2,fr3,fr4,fr5]
  | false =>
   simp [-getElem?_pos,h1,v2,v3,v5,v6,v7,v8,v9,hS0,hS1,hS2,hSo,hS3,hS4,hS5,fa,fb,fc,fd,fe,ff,fg,fy0,fy1,fy2,fy3,fy4,fy5,v12,hqw,hSw,hSq,hwq,fu,fv,fw,fx,ft0,ft1,ft2,ft3,ft4,ft5,fr0,fr1,fr2,fr3,fr4,fr5]
   refine ⟨p1,o,e,s1,gs,q,w,ew,eq,k,hp1,hg2,hgi,hk,?_,?_,?_,?_,?_,?_,?_,ho,by simp [hox],?_,?_,?_,?_,?_,?_,?_,by simp [v12],hoq,how,by simp [hqx],by simp [hwx],hqw,?_,?_⟩ <;> simp [v2,v3,v5,v6,v7,v8,v9,hS0,hS1,hS2,hSo,hS3,hS4,hS5,fa,fb,fc,fd,fe,ff,fg,fy0,fy1,fy2,fy3,fy4,fy5,v12,hqw,hSw,hSq,hwq,fu,fv,fw,fx,ft0,ft1,ft2,ft3,ft4,ft5,fr0,fr1,fr2,fr3,fr4,fr5]
 clear hs s
 intro s hs
 refine zoj (A2 B m) ?_ ?_
 ·obtain ⟨p,o,e,sd,gs,q,w,ew,eq,k,hp,hg2,hgi,hk,v2,v3,v5,v6,v7,v8,v9,ho,hox,hS0,hS1,hS2,hSo,hS3,hS4,hS5,v12,hoq,how,hqx,hwx,hqw,hSw,hSq⟩:=hs
  have fa:=fr hox
  have fb:=fr ho
  have fc:=fr (by omega:0<o)
  have fd:=fr (by omega:1<o)
  have fe:=fr (by omega:2<o)
  have ff:=fr (by omega:3<o)
  have fg:=fr (by omega:4<o)
  have fy0:=fr (by omega:0<s.nx)
  have fy1:=fr (by omega:1<s.nx)
  have fy2:=fr (by omega:2<s.nx)
  have fy3:=fr (by omega:3<s.nx)
  have fy4:=fr (by omega:4<s.nx)
  have fy5:=fr (by omega:5<s.nx)
  have fu:=fr hoq
  have fv:=fr how
  have fw:=fr hqx
  have fx:=fr hwx
  have ft0:=fr (by omega:0<q)
  have ft1:=fr (by omega:1<q)
  have ft2:=fr (by omega:2<q)
  have ft3:=fr (by omega:3<q)
  have ft4:=fr (by omega:4<q)
  have ft5:=fr (by omega:5<q)
  have fr0:=fr (by omega:0<w)
  have fr1:=fr (by omega:1<w)
  have fr2:=fr (by omega:2<w)
  have fr3:=fr (by omega:3<w)
  have fr4:=fr (by omega:4<w)
  have fr5:=fr (by omega:5<w)
  have hwq : ¬ w=q:=fun h=>hqw h.symm
  obtain ⟨r1,h1,w1,p1,s1,⟨b,rfl⟩,hp1,rfl⟩:=ze5 B p sd hp hB 20 (by omega)
  cases b with
  | true =>
   obtain ⟨r2,h2,w2,p2,s2,⟨c2,v2',rfl,hgb⟩,hp2,rfl⟩:=yvj B p1 s1 hp1 hB
   simp [-getElem?_pos,h1,h2,v2,v3,v5,v6,v7,v8,v9,hS0,hS1,hS2,hSo,hS3,hS4,hS5,fa,fb,fc,fd,fe,ff,fg,fy0,fy1,fy2,fy3,fy4,fy5,v12,hqw,hSw,hSq,hwq,fu,fv,fw,fx,ft0,ft1,ft2,ft3,ft4,ft5,fr0,fr1,fr2,fr3,fr4,fr5]
   refine ⟨p2,o,e,s2,gs,q,w,ew,eq,k,c2,v2',s.nx,s.nx+1,s.ep,s.ep,hp2,hg2,hgi,hk,hgb,?_,?_,?_,?_,?_,?_,?_,ho,by simp; omega,?_,?_,?_,?_,by simp [v12],hoq,how,by simp; omega,by simp; omega,hqw,?_,?_,by simp [fa,fb,fc,fd,fe,ff,fg,fy0,fy1,fy2,fy3,fy4,fy5,fu,fv,fw,fx,ft0,ft1,ft2,ft3,ft4,ft5,fr0,fr1,fr2,fr3,fr4,fr5],by simp [fa,fb,fc,fd,fe,ff,fg,fy0,fy1,fy2,fy3,fy4,fy5,fu,fv,fw,fx,ft0,ft1,ft2,ft3,ft4,ft5,fr0,fr1,fr2,fr3,fr4,fr5],by simp [fa,fb,fc,fd,fe,ff,fg,fy0,fy1,fy2,fy3,fy4,fy5,fu,fv,fw,fx,ft0,ft1,ft2,ft3,ft4,ft5,fr0,fr1,fr2,fr3,fr4,fr5],by omega,by simp,by simp,by omega,by omega,by omega,by omega,by omega,by omega,by omega,by omega,by omega,by omega⟩ <;> simp [v2,v3,v5,v6,v7,v8,v9,hS0,hS1,hS2,hSo,hS3,hS4,hS5,fa,fb,fc,fd,fe,ff,fg,fy0,fy1,fy2,fy3,fy4,fy5,v12,hqw,hSw,hSq,hwq,fu,fv,fw,fx,ft0,ft1,ft2,ft3,ft4,ft5,fr0,fr1,fr2,fr3,fr4,fr5]
  | false =>
   simp [-getElem?_pos,h1,v2,v3,v5,v6,v7,v8,v9,hS0,hS1,hS2,hSo,hS3,hS4,hS5,fa,fb,fc,fd,fe,ff,fg,fy0,fy1,fy2,fy3,fy4,fy5,v12,hqw,hSw,hSq,hwq,fu,fv,fw,fx,ft0,ft1,ft2,ft3,ft4,ft5,fr0,fr1,fr2,fr3,fr4,fr5]
   refine ⟨p1,o,e,s1,gs,q,w,ew,eq,k,c,v,3,4,0,0,hp1,hg2,hgi,hk,⟨by omega,by omega,hcA,hvA⟩,?_,?_,?_,?_,?_,?_,?_,ho,by simp [hox],?_,?_,?_,?_,by simp [v12],hoq,how,by simp [hqx],by simp [hwx],hqw,?_,?_,?_,?_,?_,by omega,by simp; omega,by simp; omega,by omega,by omega,by omega,by omega,by omega,by omega,by omega,by omega,by omega,by omega⟩ <;> simp [v2,v3,v5,v6,v7,v8,v9,hS0,hS1,hS2,hSo,hS3,hS4,hS5,fa,fb,fc,fd,fe,ff,fg,fy0,fy1,fy2,fy3,fy4,fy5,v12,hqw,hSw,hSq,hwq,fu,fv,fw,fx,ft0,ft1,ft2,ft3,ft4,ft5,fr0,fr1,fr2,fr3,fr4,fr5]
 clear hs s
 intro s hs
 obtain ⟨p,o,e,sd,gs,q,w,ew,eq,k,c,v,a,b,ea,eb,hp,hg2,hgi,hk,hgb,v2,v3,v5,v6,v7,v8,v9,ho,hox,hS0,hS1,hS2,hSo,v12,hoq,how,hqx,hwx,hqw,hSw,hSq,hSa,hSb,hS5,hab,hax,hbx,ha2,hb2,ha5,hb5,hao,hbo,haq,hbq,haw,hbw⟩:=hs
 have fa:=fr hox
 have fb:=fr ho
 have fc:=fr (by omega:0<o)
 have fd:=fr (by omega:1<o)
 have fe:=fr (by omega:2<o)
 have ff:=fr (by omega:3<o)
 have fg:=fr (by omega:4<o)
 have fy0:=fr (by omega:0<s.nx)
 have fy1:=fr (by omega:1<s.nx)
 have fy2:=fr (by omega:2<s.nx)
 have fy3:=fr (by omega:3<s.nx)
 have fy4:=fr (by omega:4<s.nx)
 have fy5:=fr (by omega:5<s.nx)
 have fu:=fr hoq
 have fv:=fr how
 have fw:=fr hqx
 have fx:=fr hwx
 have ft0:=fr (by omega:0<q)
 have ft1:=fr (by omega:1<q)
 have ft2:=fr (by omega:2<q)
 have ft3:=fr (by omega:3<q)
 have ft4:=fr (by omega:4<q)
 have ft5:=fr (by omega:5<q)
 have fr0:=fr (by omega:0<w)
 have fr1:=fr (by omega:1<w)
 have fr2:=fr (by omega:2<w)
 have fr3:=fr (by omega:3<w)
 have fr4:=fr (by omega:4<w)
 have fr5:=fr (by omega:5<w)
 have hwq : ¬ w=q:=fun h=>hqw h.symm
 have hba : ¬ b=a:=fun h=>hab h.symm
 have hoa : ¬ o=a:=fun h=>hao h.symm
 have hob : ¬ o=b:=fun h=>hbo h.symm
 have hqa : ¬ q=a:=fun h=>haq h.symm
 have hqb : ¬ q=b:=fun h=>hbq h.symm
 have hwa : ¬ w=a:=fun h=>haw h.symm
 have hwb : ¬ w=b:=fun h=>hbw h.symm
 have h5a : ¬ 5=a:=fun h=>ha5 h.symm
 have h5b : ¬ 5=b:=fun h=>hb5 h.symm
 have a0:=fr (by omega:0<a)
 have b0:=fr (by omega:0<b)
 have a1:=fr (by omega:1<a)
 have b1:=fr (by omega:1<b)
 have a2:=fr (by omega:2<a)
 have b2:=fr (by omega:2<b)
 simp [-getElem?_pos,zwe,hSa,hSb,hab,ha5,hb5,hao,hbo,haq,hbq,haw,hbw,hba,hoa,hob,hqa,hqb,hwa,hwb,h5a,h5b,a0,a1,a2,b0,b1,b2,v2,v3,v5,v6,v7,v8,v9,hS0,hS1,hS2,hSo,hS5,fa,fb,fc,fd,fe,ff,fg,fy0,fy1,fy2,fy3,fy4,fy5,v12,hqw,hSw,hSq,hwq,fu,fv,fw,fx,ft0,ft1,ft2,ft3,ft4,ft5,fr0,fr1,fr2,fr3,fr4,fr5]
 exact ⟨p,sd,c,v,gs,k,hp,hgb,by omega,hgi,hk,rfl⟩
def zfj:List Sl→Int
 | []=>0
 | x::xs=>x.n+zfj xs
def zfd:List Sl→Int
 | []=>0
 | x::xs=>x.g+zfd xs
theorem z6s : ∀ {l:List Sl} {i:Nat} {s t:Sl},l[i]?=some s→zfj (l.set i t)=zfj l-s.n+t.n∧zfd (l.set i t)=zfd l-s.g+t.g
 | [],i,s,t,h=>by simp at h
 | x::xs,0,s,t,h=>by
  simp at h; subst h
  simp only [List.set_cons_zero,zfj,zfd]; omega
 | x::xs,i+1,s,t,h=>by
  have h':xs[i]?=some s:=by simpa using h
  have:=z6s (t:=t) h'
  simp only [List.set_cons_succ,zfj,zfd]; omega
theorem yc1 (n:Nat):zfj (List.replicate n ⟨0,0⟩)=0∧zfd (List.replicate n ⟨0,0⟩)=0:=by
 induction n with
 | zero=>exact ⟨rfl,rfl⟩
 | succ n ih=>simp only [List.replicate_succ,zfj,zfd]; omega
theorem yfq {a b:Int} (h:(adi a b).2=true):(adi a b).1=a+b:=by
 unfold adi at h ⊢
 split
 ·rfl
 ·rename_i hc; rw [if_neg hc] at h; cases h
theorem z2g {a b:Sl} (h:(zbc a b).2=true):(zbc a b).1.n=a.n+b.n∧(zbc a b).1.g=a.g+b.g:=by
 unfold zbc at h ⊢
 split
 ·rename_i hc
  simp only [Bool.and_eq_true] at hc
  exact ⟨yfq hc.1,yfq hc.2⟩
 ·rename_i hc; rw [if_neg hc] at h; cases h
def zf0 (g rows:List Int):Int:=(rows.map fun r=>(atI g r).getD 0).sum
theorem z2k (g:List Int) (r:Int) (rs:List Int):zf0 g (r::rs)=(atI g r).getD 0+zf0 g rs:=by simp [zf0]
theorem yfa {b g:List Int} : ∀ (rows:List Int) (h h':List Sl),zb3 b g rows h=some h'→zfj h'=zfj h+rows.length∧zfd h'=zfd h+zf0 g rows
 | [],h,h',e=>by
  simp only [zb3,Option.some.injEq] at e
  subst e
  simp [zf0]
 | r::rs,h,h',e=>by
  unfold zb3 at e
  cases hx:atI b r with
  | none=>rw [hx] at e; cases e
  | some x =>
   cases hy:atI g r with
   | none=>rw [hx,hy] at e; cases e
   | some y =>
    rw [hx,hy] at e
    simp only at e
    cases hs:atI h x with
    | none=>rw [hs] at e; cases e
    | some s =>
     rw [hs] at e
     simp only at e
     split at e
     ·rename_i hp
      obtain ⟨p1,p2⟩:=z2g hp
      obtain ⟨e1,e2⟩:=yfa rs _ _ e
      obtain ⟨j,rfl,hjs,_⟩:=ze0 hs
      rw [Int.toNat_natCast] at e1 e2
      obtain ⟨q1,q2⟩:=z6s (t:=(zbc s ⟨1,y⟩).1) hjs
      simp only [z2k,hy,Option.getD_some,List.length_cons]
      simp only at p1 p2
      omega
     ·cases e
theorem yc7 : ∀ (h:List Sl) (s:Sl) (l:List Sl),zc4 s h=some l→(l.getLast?.getD s).n=s.n+zfj h∧(l.getLast?.getD s).g=s.g+zfd h
 | [],s,l,e=>by
  simp only [zc4,Option.some.injEq] at e
  subst e
  simp [zfj,zfd]
 | x::xs,s,l,e=>by
  unfold zc4 at e
  split at e
  ·rename_i hp
   obtain ⟨p1,p2⟩:=z2g hp
   simp only [Option.map_eq_some_iff] at e
   obtain ⟨l',h1,rfl⟩:=e
   obtain ⟨q1,q2⟩:=yc7 xs _ _ h1
   rw [List.getLast?_cons,Option.getD_some]
   simp only [zfj,zfd]
   omega
  ·cases e
theorem yec : ∀ (h:List Sl) (s:Sl) (l:List Sl),zc4 s h=some l→∀ (b:Nat) (x:Sl),l[b]?=some x→x.n=s.n+zfj (h.take (b+1))∧x.g=s.g+zfd (h.take (b+1))
 | [],s,l,e,b,x,hx=>by simp only [zc4,Option.some.injEq] at e; subst e; simp at hx
 | y::ys,s,l,e,b,x,hx=>by
  unfold zc4 at e
  split at e
  ·rename_i hp
   obtain ⟨p1,p2⟩:=z2g hp
   simp only [Option.map_eq_some_iff] at e
   obtain ⟨l',h1,rfl⟩:=e
   cases b with
   | zero =>
    simp at hx
    subst hx
    simp [zfj,zfd,p1,p2]
   | succ b =>
    have hx':l'[b]?=some x:=by simpa using hx
    obtain ⟨q1,q2⟩:=yec ys _ _ h1 b x hx'
    rw [List.take_succ_cons]
    simp only [zfj,zfd]
    omega
  ·cases e
theorem yha {bins g:List Int} : ∀ (rows:List Int) (h h':List Sl),zb3 bins g rows h=some h'→∀ b:Nat,zfj (h'.take (b+1))=zfj (h.take (b+1))+(zaz bins rows b).length∧zfd (h'.take (b+1))=zfd (h.take (b+1))+zf0 g (zaz bins rows b)
 | [],h,h',e,b=>by
  simp only [zb3,Option.some.injEq] at e
  subst e
  simp [zf0,zaz]
 | r::rs,h,h',e,b=>by
  unfold zb3 at e
  cases hx:atI bins r with
  | none=>rw [hx] at e; cases e
  | some x =>
   cases hy:atI g r with
   | none=>rw [hx,hy] at e; cases e
   | some y =>
    rw [hx,hy] at e
    simp only at e
    cases hs:atI h x with
    | none=>rw [hs] at e; cases e
    | some s =>
     rw [hs] at e
     simp only at e
     split at e
     ·rename_i hp
      obtain ⟨p1,p2⟩:=z2g hp
      obtain ⟨e1,e2⟩:=yha rs _ _ e b
      obtain ⟨j,rfl,hjs,_⟩:=ze0 hs
      rw [Int.toNat_natCast,List.take_set] at e1 e2
      simp only at p1 p2
      have hB:zh9 bins b r=decide ((j:Int)≤b):=by unfold zh9; rw [hx]
      by_cases hjb:j≤b
      ·have hB':zh9 bins b r=true:=by rw [hB]; simpa using hjb
       have hk:(h.take (b+1))[j]?=some s:=by rw [List.getElem?_take_of_lt (by omega)]; exact hjs
       obtain ⟨q1,q2⟩:=z6s (t:=(zbc s ⟨1,y⟩).1) hk
       have hf:zaz bins (r::rs) b=r::zaz bins rs b:=by unfold zaz; rw [List.filter_cons,if_pos hB']
       rw [hf,z2k,hy,Option.getD_some,List.length_cons]
       omega
      ·have hB' : ¬ zh9 bins b r=true:=by rw [hB]; simpa using hjb
       have hf:zaz bins (r::rs) b=zaz bins rs b:=by unfold zaz; rw [List.filter_cons,if_neg hB']
       rw [List.set_eq_of_length_le (by simp; omega)] at e1 e2
       rw [hf]
       exact ⟨e1,e2⟩
     ·cases e
theorem z48 {bins g:List Int} {b:Int} : ∀ rows:List Int,(∀ r∈rows,∃ x,atI bins r=some x)→(zaz bins rows b).length+(za7 bins rows b).length=rows.length∧zf0 g (zaz bins rows b)+zf0 g (za7 bins rows b)=zf0 g rows
 | [],_=>by simp [zaz,za7,zf0]
 | r::rs,h=>by
  obtain ⟨x,hx⟩:=h r (by simp)
  obtain ⟨h1,h2⟩:=z48 (b:=b) (g:=g) rs (fun r hr=>h r (by simp [hr]))
  have hB:zh9 bins b r=decide (x≤b):=by unfold zh9; rw [hx]
  have hC:zny bins b r = !decide (x≤b):=by unfold zny; rw [hx]
  unfold zaz za7 at *
  rw [List.filter_cons,List.filter_cons,hB,hC]
  by_cases hxb:x≤b
  ·simp only [decide_eq_true hxb,Bool.not_true,Bool.false_eq_true,if_true,if_false,z2k,List.length_cons]
   omega
  ·simp only [decide_eq_false hxb,Bool.not_false,Bool.false_eq_true,if_true,if_false,z2k,List.length_cons]
   omega
theorem y01 {c v:List (List Int)} {g:List Int} {k:Cfg}:(zc8 c v g k).2=zd7 c v g k:=by
 unfold zc8
 cases zd7 c v g k <;> rfl
def zga (s:Sl):Sl:=⟨s.n,-s.g⟩
def ygt (g:List Int):List Int:=g.map fun x => -x
def smS (m:Int) (s:Sl):Prop:=0≤s.n∧s.n≤m ∧ -(2199023255552*m)≤s.g∧s.g≤2199023255552*m
theorem z2b {a b:Int} (h1 : -4611686018427387904≤a+b) (h2:a+b≤4611686018427387904):adi a b=(a+b,true):=by unfold adi; rw [if_pos (by omega)]
theorem z18 {a b:Int} (h1 : -4611686018427387904≤a-b) (h2:a-b≤4611686018427387904):sbi a b=(a-b,true):=by unfold sbi; rw [if_pos (by omega)]
theorem z25 {a b:Sl} {m k:Int} (ha:smS m a) (hb:smS k b) (hm:m+k≤1048576):zbc a b=(⟨a.n+b.n,a.g+b.g⟩,true)∧zbc (zga a) (zga b)=(zga ⟨a.n+b.n,a.g+b.g⟩,true)∧smS (m+k) ⟨a.n+b.n,a.g+b.g⟩:=by
 obtain ⟨a1,a2,a3,a4⟩:=ha
 obtain ⟨b1,b2,b3,b4⟩:=hb
 refine ⟨?_,?_,⟨by simp only; omega,by simp only; omega,by simp only; omega,by simp only; omega⟩⟩
 ·unfold zbc; rw [z2b (by omega) (by omega),z2b (by omega) (by omega)]; rfl
 ·unfold zbc zga
  simp only
  rw [z2b (by omega) (by omega),z2b (by omega) (by omega)]
  simp; omega
theorem y0b {a b:Sl} {m k:Int} (ha:smS m a) (hb:smS k b) (hm:m+k≤1048576):zex a b=(⟨a.n-b.n,a.g-b.g⟩,true)∧zex (zga a) (zga b)=(zga ⟨a.n-b.n,a.g-b.g⟩,true):=by
 obtain ⟨a1,a2,a3,a4⟩:=ha
 obtain ⟨b1,b2,b3,b4⟩:=hb
 constructor
 ·unfold zex; rw [z18 (by omega) (by omega),z18 (by omega) (by omega)]; rfl
 ·unfold zex zga
  simp only
  rw [z18 (by omega) (by omega),z18 (by omega) (by omega)]
  simp; omega
theorem yhx {α β:Type} (f:α→β) (l:List α) (i:Int):atI (l.map f) i=(atI l i).map f:=by
 unfold atI; split <;> simp
theorem y19 (h:List Sl) (i:Nat) (s:Sl):(h.map zga).set i (zga s)=(h.set i s).map zga:=by rw [List.map_set]
theorem ykm {b g:List Int} (hg : ∀ x∈g,-2199023255552≤x∧x≤2199023255552) : ∀ (rows:List Int) (h:List Sl) (m:Int),(∀ s∈h,smS m s)→0≤m→m+rows.length≤1048575→zb3 b (ygt g) rows (h.map zga)=(zb3 b g rows h).map (List.map zga)∧∀ h',zb3 b g rows h=some h'→∀ s∈h',smS (m+rows.length) s
 | [],h,m,hs,h0,hm=>by
  refine ⟨by simp [zb3],fun h' e => ?_⟩
  simp only [zb3,Option.some.injEq] at e
  subst e
  simpa using hs
 | r::rs,h,m,hs,h0,hm=>by
  simp only [List.length_cons] at hm
  unfold zb3
  have e1:atI (ygt g) r=(atI g r).map fun x => -x:=yhx _ g r
  rw [e1]
  cases hx:atI b r with
  | none=>simp
  | some x =>
   cases hy:atI g r with
   | none=>simp
   | some y =>
    simp only [Option.map_some]
    rw [yhx]
    cases hh:atI h x with
    | none=>simp
    | some s =>
     simp only [Option.map_some]
     obtain ⟨_,_,hgm,_⟩:=ze0 hy
     obtain ⟨j,rfl,hhm,_⟩:=ze0 hh
     have hy2:=hg y (List.mem_of_getElem? hgm)
     have s2:smS 1 ⟨1,y⟩:=⟨by simp,by simp,by simp only; omega,by simp only; omega⟩
     obtain ⟨p1,p2,p3⟩:=z25 (hs s (List.mem_of_getElem? hhm)) s2 (by omega)
     have e2:zga ⟨1,y⟩=⟨1,-y⟩:=rfl
     rw [e2] at p2
     rw [p1,p2]
     simp only [if_true,Int.toNat_natCast]
     rw [y19]
     have hs' : ∀ t∈h.set j ⟨s.n+1,s.g+y⟩,smS (m+1) t:=fun t ht=>by
      rcases List.mem_or_eq_of_mem_set ht with ht | ht
      ·obtain ⟨a1,a2,a3,a4⟩:=hs t ht
       exact ⟨a1,by omega,by omega,by omega⟩
      ·subst ht; exact p3
     obtain ⟨q1,q2⟩:=ykm hg rs (h.set j ⟨s.n+1,s.g+y⟩) (m+1) hs' (by omega) (by omega)
     refine ⟨q1,fun h' e => ?_⟩
     have:=q2 h' e
     have e3:m+1+(rs.length:Int)=m+((r::rs).length:Int):=by simp; omega
     rw [← e3]; exact this
theorem yc2 {m k:Int} {s:Sl} (h:smS m s) (hk:m≤k):smS k s:=by
 obtain ⟨a1,a2,a3,a4⟩:=h
 exact ⟨a1,by omega,by omega,by omega⟩
theorem yxo (cs:List PV) (h:zca [.int .u8] cs) : ∃ n:Int,[PV.v (.int .u8 n)]=cs∧True:=by
 simp only [zca,Shp] at h
 obtain ⟨_,_,rfl,⟨a,rfl,h1⟩,rfl⟩:=h
 exact ⟨a,rfl,trivial⟩
theorem ywe {c:PV} (h:zlj false [.sl [.int .u8]] c) : ∃ B:List Int,c = .sl 1 (zbo B)∧B.length≤9223372036854775807:=by
 simp only [zlj,Bool.false_eq_true,if_false,zca,Shp] at h
 obtain ⟨c',r,e,⟨es,he,h1,h2⟩,hr⟩:=h
 simp only [List.cons.injEq] at e
 obtain ⟨l,hl,hp⟩:=yiz (f:=fun n:Int=>[PV.v (.int .u8 n)]) (tys:=[.int .u8]) yxo h2
 subst hl
 simp [maxLen] at h1
 exact ⟨l,e.1.trans he,by omega⟩
def PGt (r:List PV×List PV):Prop := ∃ (c v:List (List Int)) (g:List Int) (k:Cfg),(c.length≤8∧v.length≤8∧(∀ l∈c,l.length≤64)∧∀ l∈v,l.length≤64)∧g.length≤64∧(∀ x∈g,inI x)∧k.sg.length≤64∧r=([.agg [.own 1 (rws true c),.own 1 (rws true v)],.own 1 (zac g),zkh k],[])
theorem yvl (B:List Int) (hB:B.length≤9223372036854775807) : ∃ r,RUN T zou [.sl 1 (zbo B)]=some r∧PGt r:=by
 refine zd9 z7x rfl ?_
 obtain ⟨r1,h1,p,sd,c,v,g,k,hp,hgb,hg,hgi,hk,rfl⟩:=yvk B hB
 simp only [zkh] at h1
 simp [-getElem?_pos,zv0,zv1,h1]
 exact ⟨c,v,g,k,hgb,hg,hgi,hk,rfl⟩
inductive SN where
 | mk (f c v:Int) (ks:List SN)
def zgi (q:Bool) (es:List (List PV)):PV:=if q then .own 4 es else .sl 4 es
mutual
def snC (q:Bool):SN→List PV
 | .mk f c v ks=>[iv f,iv c,iv v,zgi q (snL q ks)]
def snL (q:Bool):List SN→List (List PV)
 | []=>[]
 | s::ss=>snC q s::snL q ss
end
mutual
def szN:SN→Nat
 | .mk _ _ _ ks=>szK ks
def szK:List SN→Nat
 | []=>0
 | s::ss=>1+szN s+szK ss
end
theorem z6c (q:Bool) : ∀ ks:List SN,snL q ks=ks.map (snC q)
 | []=>by simp [snL]
 | k::ks=>by simp [snL,z6c q ks]
@[simp] theorem qjb (q:Bool) (ks:List SN):(snL q ks).length=ks.length:=by rw [z6c]; simp
theorem yew {q:Bool} {ks:List SN} {i:Nat} {k:SN} (h:ks[i]?=some k):(snL q ks)[i]?=some (snC q k):=by rw [z6c]; simp [h]
theorem ye0 : ∀ {ks:List SN} {k:SN},k∈ks→szN k<szK ks
 | s::ss,k,h=>by
  unfold szK
  rcases List.mem_cons.mp h with e | e
  ·subst e; omega
  ·have:=ye0 e; omega
inductive LnN (n:Nat):SN→Prop
 | mk {f c v:Int} {ks:List SN} (h:ks.length≤n) (t : ∀ k∈ks,LnN n k):LnN n (.mk f c v ks)
@[simp] theorem qh0 (q:Bool) (es:List (List PV)):fz (zgi q es) = .sl 4 es:=by cases q <;> simp [zgi]
def snA (q:Bool):SN→List PV
 | .mk f c v ks=>[iv f,iv c,iv v,.sl 4 (snL q ks)]
def gS (s:Sl):Prop:=0≤s.n∧s.n≤40 ∧ -87960930222080≤s.g∧s.g≤87960930222080
structure smF (M D:Int) (f:Fr):Prop where
 wf:wfU f.w
 ok:wok f.w=true
 nn:f.w.n=false
 mg:mag f.w≤M
 d1:1≤f.d
 d2:f.d≤D
theorem smF.frB {M D:Int} {f:Fr} (h:smF M D f) (hd:D≤1000000):frB f=true:=by
 unfold Go.Pe.frB
 rw [h.ok,Bool.true_and]
 exact zax.mpr ⟨h.d1,by have:=h.d2; omega⟩
theorem smF.I {M D:Int} {f:Fr} (h:smF M D f) (hd:D≤1000000):frI f:=⟨h.wf,by have:=h.d1; have:=h.d2; exact ⟨by omega,by omega⟩⟩
theorem yjs {M D m d:Int} (h0:0≤m) (hm:m≤M) (hM:M<170141183460469231731687303715884105728) (h1:1≤d) (h2:d≤D) (hD:D≤1000000):zcm (mkW false m) d=(⟨mkW false m,d⟩,true)∧smF M D ⟨mkW false m,d⟩:=by
 have ok:wok (mkW false m)=true:=by rw [zrr h0]; simp; omega
 have s:smF M D ⟨mkW false m,d⟩:=⟨zrs h0 (by omega),ok,by simp [mkW],by show mag (mkW false m)≤M; rw [z1t]; exact hm,h1,h2⟩
 refine ⟨?_,s⟩
 unfold zcm
 rw [if_pos (s.frB hD)]
theorem yyf (g:Int):zcr g g=mkW false ((g.natAbs:Int)*g.natAbs):=by unfold zcr; simp
theorem yv1 {g K:Int} (h1 : -K≤g) (h2:g≤K):0≤(g.natAbs:Int)*g.natAbs∧(g.natAbs:Int)*g.natAbs≤K*K:=by
 have h3:(g.natAbs:Int)≤K:=by omega
 have h4:(0:Int)≤g.natAbs:=by omega
 exact ⟨Int.mul_nonneg h4 h4,Int.mul_le_mul h3 h3 h4 (by omega)⟩
theorem z64 {s:Sl} {l:Int} (h:gS s) (h1:1≤l) (h2:l≤100):(zcm (zcr s.g s.g) (s.n+l)).2=true∧smF 7737125245533626718119526400 140 (zcm (zcr s.g s.g) (s.n+l)).1:=by
 obtain ⟨a1,a2,a3,a4⟩:=h
 obtain ⟨b1,b2⟩:=yv1 (K:=87960930222080) (by omega) a4
 obtain ⟨e1,e2⟩:=yjs (M:=7737125245533626718119526400) (D:=140) (m:=(s.g.natAbs:Int)*s.g.natAbs) (d:=s.n+l) b1 (by omega) (by omega) (by omega) (by omega) (by omega)
 rw [yyf,e1]
 exact ⟨rfl,e2⟩
theorem ydb {s:Sl} {l:Int} (h:gS s) (h1:1≤l) (h2:l≤100):zhd s.n l=true:=by
 unfold zhd
 rw [zax.mpr ⟨h.1,h.2.1⟩,zax.mpr ⟨h1,h2⟩]; rfl
theorem z4z {s:Sl} {l:Int} (h:gS s) (h1:1≤l) (h2:l≤100):zct s l=zcm (zcr s.g s.g) (s.n+l):=by
 unfold zct
 rw [if_pos (ydb h h1 h2)]
theorem z19 {M D E:Int} {f:Fr} {k:Int} (h:smF M D f) (h1:1≤k) (h2:k≤E) (hM:M*E<170141183460469231731687303715884105728):zcp f.w k=(mkW false (mag f.w*k),true)∧0≤mag f.w*k∧mag f.w*k≤M*E:=by
 have m0:=z16 h.wf
 have m1:=h.mg
 have k1:((k.natAbs:Nat):Int)=k:=by omega
 have l1:mag f.w*k≤M*E:=Int.mul_le_mul m1 h2 (by omega) (by omega)
 refine ⟨?_,Int.mul_nonneg m0 (by omega),l1⟩
 unfold zcp
 rw [k1,if_pos ⟨h.ok,by omega⟩,h.nn]
 have:decide (k<0)=false:=by simp; omega
 rw [this]; rfl
theorem ykf {M D N E:Int} {a b:Fr} (ha:smF M D a) (hb:smF N E b) (hD:D≤1000000) (hE:E≤1000000) (h1:M*E<170141183460469231731687303715884105728) (h2:N*D<170141183460469231731687303715884105728):zbi a b=(mkW false (mag a.w*b.d),mkW false (mag b.w*a.d),true):=by
 unfold zbi
 rw [ha.frB hD,hb.frB hE,(z19 ha hb.d1 hb.d2 h1).1,(z19 hb ha.d1 ha.d2 h2).1]
 rfl
theorem yjo {M D N E:Int} {a b:Fr} (ha:smF M D a) (hb:smF N E b) (hD:D≤1000000) (hE:E≤1000000) (h1:M*E<170141183460469231731687303715884105728) (h2:N*D<170141183460469231731687303715884105728):(zdu a b).2=true:=by
 unfold zdu
 rw [ykf ha hb hD hE h1 h2]
 rfl
theorem y2j {M D N E:Int} {a b:Fr} (ha:smF M D a) (hb:smF N E b) (hD:D≤1000000) (hE:E≤1000000) (h1:M*E+N*D<170141183460469231731687303715884105728) (h2:D*E≤1000000) (hM:0≤M*E) (hN:0≤N*D):(zfc a b).2=true∧smF (M*E+N*D) (D*E) (zfc a b).1:=by
 obtain ⟨x1,x2,x3⟩:=z19 ha hb.d1 hb.d2 (by omega:M*E<170141183460469231731687303715884105728)
 obtain ⟨y1,y2,y3⟩:=z19 hb ha.d1 ha.d2 (by omega:N*D<170141183460469231731687303715884105728)
 have hc:=ykf ha hb hD hE (by omega) (by omega)
 have ok1:wok (mkW false (mag a.w*b.d))=true:=by rw [zrr x2]; simp; omega
 have ok2:wok (mkW false (mag b.w*a.d))=true:=by rw [zrr y2]; simp; omega
 have hs:=yf2 (zrs (n:=false) x2 (by omega)) (zrs (n:=false) y2 (by omega)) ok1 ok2 (by simp [mkW])
 rw [z1t,z1t,if_pos (by omega)] at hs
 have hn:(mkW false (mag a.w*b.d)).n=false:=by simp [mkW]
 rw [hn] at hs
 have a1:=ha.d1
 have a2:=ha.d2
 have b1:=hb.d1
 have b2:=hb.d2
 have d0:1≤a.d*b.d:=by
  have:=Int.mul_le_mul a1 b1 (by omega) (by omega)
  omega
 have d1:a.d*b.d≤D*E:=Int.mul_le_mul a2 b2 (by omega) (by omega)
 obtain ⟨f1,f2⟩:=yjs (M:=M*E+N*D) (D:=D*E) (m:=mag a.w*b.d+mag b.w*a.d) (d:=a.d*b.d) (by omega) (by omega) h1 d0 d1 h2
 unfold zfc
 rw [hc]
 simp only [hs,if_true,f1]
 exact ⟨trivial,f2⟩
theorem z5f {x:Cnd} {l:Int} (ha:gS x.a) (hz:gS x.z) (h1:1≤l) (h2:l≤100):zav x l=zfc (zcm (zcr x.a.g x.a.g) (x.a.n+l)).1 (zcm (zcr x.z.g x.z.g) (x.z.n+l)).1∧(zav x l).2=true∧smF 2166395068749415481073467392000 19600 (zav x l).1:=by
 obtain ⟨a1,a2⟩:=z64 ha h1 h2
 obtain ⟨b1,b2⟩:=z64 hz h1 h2
 have e:zav x l=zfc (zcm (zcr x.a.g x.a.g) (x.a.n+l)).1 (zcm (zcr x.z.g x.z.g) (x.z.n+l)).1:=by
  unfold zav
  rw [z4z ha h1 h2,z4z hz h1 h2,a1,b1]
  exact if_pos rfl
 obtain ⟨c1,c2⟩:=y2j a2 b2 (by omega) (by omega) (by omega) (by omega) (by omega) (by omega)
 refine ⟨e,?_⟩
 rw [e]
 exact ⟨c1,c2⟩
theorem z2i {s:Sl} {l:Int} {b:Bd} (h:gS s) (h1:1≤l) (h2:l≤100) (hb:zc3 b=true):zdj s l b=(zb7 (fdv s.g (s.n+l)).1 b.lo b.hi,true):=by
 unfold zdj
 rw [ydb h h1 h2,hb]
 rfl
def wyB (c:Cfg) (b:Bd) (x:Cnd) (w:Sl):Bool:=decide (c.rw≤x.a.n) && (decide (c.rw≤x.z.n) && (decide (0<(zdu (zav x c.la).1 (zcm (zcr w.g w.g) (w.n+c.la)).1).1) && zlq (zdm c x.f) (zb7 (fdv x.a.g (x.a.n+c.la)).1 b.lo b.hi) (zb7 (fdv x.z.g (x.z.n+c.la)).1 b.lo b.hi)))
theorem ywt {c:Cfg} {b:Bd} {x:Cnd} {w:Sl} (hc:zcn c=true) (hb:zc3 b=true) (ha:gS x.a) (hz:gS x.z) (hw:gS w) (hp:zbc x.a x.z=(w,true)) (h1:1≤c.la) (h2:c.la≤100):zbj c b x=wyB c b x w:=by
 obtain ⟨_,a1,a2⟩:=z5f ha hz h1 h2
 obtain ⟨b1,b2⟩:=z64 hw h1 h2
 unfold zbj wyB zby zjt
 rw [hc,z2i ha h1 h2 hb,z2i hz h1 h2 hb,hp,z4z hw h1 h2,a1,b1,yjo a2 b2 (by omega) (by omega) (by omega) (by omega)]
 simp only [Bool.true_and,Bool.and_self,if_true]
 cases decide (c.rw≤x.a.n) <;> cases decide (c.rw≤x.z.n) <;> simp [Bool.and_comm]
theorem yju {c:Cfg} (h:zcn c=true):1≤c.la∧c.la≤100∧0≤c.de∧c.de≤4:=by
 unfold zcn at h
 simp only [Bool.and_eq_true,zax] at h
 omega
theorem zjx {g rows:List Int} (hg : ∀ x∈g,-2199023255552≤x∧x≤2199023255552) (hl:rows.length≤40):gS (zat g rows):=by
 have key : ∀ l:List Int,-(2199023255552*(l.length:Int))≤(l.map fun r=>(atI g r).getD 0).sum∧(l.map fun r=>(atI g r).getD 0).sum≤2199023255552*(l.length:Int):=by
  intro l
  induction l with
  | nil=>simp
  | cons a l ih =>
   have hv : -2199023255552≤(atI g a).getD 0∧(atI g a).getD 0≤2199023255552:=by
    cases e:atI g a with
    | none=>simp
    | some y =>
     obtain ⟨j,_,h2,_⟩:=ze0 e
     exact hg y (List.mem_of_getElem? h2)
   simp only [List.map_cons,List.sum_cons,List.length_cons]
   omega
 have:=key rows
 refine ⟨?_,?_,?_,?_⟩ <;> simp only [zat] <;> omega
def za8 (v:List (List Int)) (g rows:List Int) (f k:Nat):Cnd:=⟨f,k,zat g (zaz (v.getD f []) rows k),zat g (za7 (v.getD f []) rows k)⟩
def zj0 (cfg:Cfg) (b:Bd) (acc:Option Cnd) (x:Cnd):Option Cnd:=if zbj cfg b x=true then (match acc with
 | none=>some x
 | some y=>if zcd x y cfg.la=true then some x else some y) else acc
def zgp (v:List (List Int)) (g:List Int) (cfg:Cfg) (rows:List Int) (b:Bd) (f:Nat) (acc:Option Cnd) (n:Nat):Option Cnd:=(List.range n).foldl (fun a k=>zj0 cfg b a (za8 v g rows f k)) acc
def ze8 (c v:List (List Int)) (g:List Int) (cfg:Cfg) (rows:List Int) (b:Bd) (m:Nat):Option Cnd:=(List.range m).foldl (fun a f=>zgp v g cfg rows b f a (c.getD f []).length) none
theorem zvl {v:List (List Int)} {g:List Int} {cfg:Cfg} {rows:List Int} {b:Bd} {f:Nat} {acc:Option Cnd} {n:Nat}:zgp v g cfg rows b f acc (n+1)=zj0 cfg b (zgp v g cfg rows b f acc n) (za8 v g rows f n):=by
 unfold zgp; rw [List.range_succ,List.foldl_append]; rfl
theorem z6f {c v:List (List Int)} {g:List Int} {cfg:Cfg} {rows:List Int} {b:Bd} {m:Nat}:ze8 c v g cfg rows b (m+1)=zgp v g cfg rows b m (ze8 c v g cfg rows b m) (c.getD m []).length:=by
 unfold ze8; rw [List.range_succ,List.foldl_append]; rfl
def bfr (v:List (List Int)) (g rows:List Int) (c:List (List Int)) (cfg:Cfg) (b:Bd) (f k:Nat) (a:Option Cnd):Prop := ∀ x,a=some x→∃ f' k':Nat,x=za8 v g rows f' k'∧(f'<f∨(f'=f∧k'<k))∧f'<c.length∧k'<(c.getD f' []).length∧zbj cfg b x=true
theorem y0i {v:List (List Int)} {g rows:List Int} {c:List (List Int)} {cfg:Cfg} {b:Bd} {f k:Nat} {a:Option Cnd} (h:bfr v g rows c cfg b f k a) (hf:f<c.length) (hk:k<(c.getD f []).length):bfr v g rows c cfg b f (k+1) (zj0 cfg b a (za8 v g rows f k)):=by
 have old:bfr v g rows c cfg b f (k+1) a:=fun x hx=>by
  obtain ⟨f',k',h1,h2,h3⟩:=h x hx
  exact ⟨f',k',h1,by omega,h3⟩
 unfold zj0
 split
 ·rename_i hm
  have new:bfr v g rows c cfg b f (k+1) (some (za8 v g rows f k)):=fun x hx=>by
   cases hx
   exact ⟨f,k,rfl,by omega,hf,hk,hm⟩
  split
  ·exact new
  ·split
   ·exact new
   ·exact old
 ·exact old
theorem y1x {v:List (List Int)} {g rows:List Int} {c:List (List Int)} {cfg:Cfg} {b:Bd} {f k:Nat} {a:Option Cnd} (h:bfr v g rows c cfg b f k a):bfr v g rows c cfg b (f+1) 0 a:=fun x hx=>by
 obtain ⟨f',k',h1,h2,h3⟩:=h x hx
 exact ⟨f',k',h1,by omega,h3⟩
theorem y14 {v:List (List Int)} {g rows:List Int} {c:List (List Int)} {cfg:Cfg} {b:Bd} {f k:Nat}:bfr v g rows c cfg b f k none:=fun x hx=>by cases hx
theorem z66 {v:List (List Int)} {g rows:List Int} {c:List (List Int)} {cfg:Cfg} {b:Bd} {f:Nat} {a:Option Cnd} (h:bfr v g rows c cfg b f 0 a) (hf:f<c.length) : ∀ n:Nat,n≤(c.getD f []).length→bfr v g rows c cfg b f n (zgp v g cfg rows b f a n)
 | 0,_=>h
 | n+1,hn=>by
  rw [zvl]
  exact y0i (z66 h hf n (by omega)) hf (by omega)
theorem ygd {v:List (List Int)} {g rows:List Int} {c:List (List Int)} {cfg:Cfg} {b:Bd} : ∀ m:Nat,m≤c.length→bfr v g rows c cfg b m 0 (ze8 c v g cfg rows b m)
 | 0,_=>y14
 | m+1,hm=>by
  rw [z6f]
  exact y1x (z66 (ygd m (by omega)) (by omega) _ (Nat.le_refl _))
def zvc (g:List Int) (cfg:Cfg) (x:Pnd):Int:=(zdj (zat g x.r) cfg.la x.b).1
def zds (c v:List (List Int)) (g:List Int) (cfg:Cfg):Nat→Pnd→SN
 | 0,x => .mk (-1) 0 (zvc g cfg x) []
 | n+1,x=>match ze8 c v g cfg x.r x.b c.length with
  | none => .mk (-1) 0 (zvc g cfg x) []
  | some k => .mk k.f ((atI ((atI c k.f).getD []) k.b).getD 0) 0 [zds c v g cfg n (zc6 c v cfg x k),zds c v g cfg n (zda c v cfg x k)]
theorem z2v {s:Int} {b:Bd} {l r:Int} (h:zc3 b=true):zc3 (zej s b l r).1=true∧zc3 (zej s b l r).2=true:=by
 have hx:b.lo≤zb7 (zfy l r) b.lo b.hi∧zb7 (zfy l r) b.lo b.hi≤b.hi:=by
  unfold zc3 at h
  simp only [Bool.and_eq_true,decide_eq_true_eq] at h
  unfold zb7
  split
  ·omega
  ·split <;> omega
 unfold zej
 rw [if_pos h]
 unfold zc3 zfn at h
 simp only [Bool.and_eq_true,decide_eq_true_eq,zax] at h
 generalize zb7 (zfy l r) b.lo b.hi=m at *
 unfold zc3 zfn
 split
 ·simp only [Bool.and_eq_true,decide_eq_true_eq,zax]; omega
 ·split
  ·simp only [Bool.and_eq_true,decide_eq_true_eq,zax]; omega
  ·simp only [Bool.and_eq_true,decide_eq_true_eq,zax]; omega
theorem z2u {s:Sl} (h:gS s):slI s:=by
 obtain ⟨a1,a2,a3,a4⟩:=h
 exact ⟨⟨by omega,by omega⟩,⟨by omega,by omega⟩⟩
def NI (S:Nat→Option Ob) (nx k:Nat) (m:List Int) (x:PV):Prop:=(x = .e0∧m=[])∨∃ o e,x = .ref o none e 0 m.length∧k<o∧o<nx∧S o=some (.row 1 (zac m))
theorem NI.up {S S':Nat→Option Ob} {nx nx' k:Nat} {l:List Int} {Y:PV} (h:NI S nx k l Y) (hn:nx≤nx') (hS : ∀ o e n,Y = .ref o none e 0 n→k<o→o<nx→S' o=S o):NI S' nx' k l Y:=by
 rcases h with h | ⟨o,e,h1,h2,h3,h4⟩
 ·exact .inl h
 ·exact .inr ⟨o,e,h1,h2,by omega,by rw [hS o e _ h1 h2 h3]; exact h4⟩
theorem ykp {c v:List (List Int)} (h:zdl c v=true) {f:Nat} (hf:f<c.length) : ∃ a y,c[f]?=some a∧v[f]?=some y∧y.length=zcl v∧a.length≤7∧∀ x∈y,0≤x∧x≤a.length:=by
 have hl:=(zrp h).1
 unfold zdl at h
 simp only [Bool.and_eq_true] at h
 have hF:=List.all_eq_true.mp h.2 f (by simpa using hf)
 obtain ⟨a,ha⟩ : ∃ a,c[f]?=some a:=⟨_,List.getElem?_eq_getElem hf⟩
 obtain ⟨y,hy⟩ : ∃ y,v[f]?=some y:=⟨_,List.getElem?_eq_getElem (by omega)⟩
 unfold zft at hF
 rw [ha,hy] at hF
 simp only [Bool.and_eq_true,decide_eq_true_eq] at hF
 refine ⟨a,y,ha,hy,by omega,?_,fun x hx=>zax.mp (List.all_eq_true.mp hF.2 x hx)⟩
 have:=hF.1.1
 unfold zf6 at this
 simp only [Bool.and_eq_true,decide_eq_true_eq] at this
 omega
theorem z2e {s:Sl} (h:gS s):smS 40 s:=by
 obtain ⟨a1,a2,a3,a4⟩:=h
 exact ⟨a1,a2,by omega,by omega⟩
theorem y1r {y g rows:List Int} {k:Int} (hv : ∀ r∈rows,∃ x,atI y r=some x) (hg : ∀ x∈g,-2199023255552≤x∧x≤2199023255552) (hl:rows.length≤40):zbc (zat g (zaz y rows k)) (zat g (za7 y rows k))=(zat g rows,true):=by
 have gA:=zjx (rows:=zaz y rows k) hg (Nat.le_trans (List.length_filter_le _ _) hl)
 have gZ:=zjx (rows:=za7 y rows k) hg (Nat.le_trans (List.length_filter_le _ _) hl)
 rw [(z25 (z2e gA) (z2e gZ) (by omega)).1]
 obtain ⟨a1,a2⟩:=z48 (g:=g) (b:=k) rows hv
 unfold zat
 have g1 : ∀ r:List Int,(r.map fun r=>(atI g r).getD 0).sum=zf0 g r:=fun r=>rfl
 rw [g1,g1,g1]
 simp only [Prod.mk.injEq,Sl.mk.injEq,and_true]
 omega
structure GH (c v:List (List Int)) (g:List Int) (cfg:Cfg):Prop where
 tk:zd7 c v g cfg=true
 sg:cfg.sg.length≤1048576
theorem GH.la {c v:List (List Int)} {g:List Int} {cfg:Cfg} (h:GH c v g cfg):1≤cfg.la∧cfg.la≤100∧0≤cfg.de∧cfg.de≤4:=yju (zhi h.tk).2.1
theorem GH.gb {c v:List (List Int)} {g:List Int} {cfg:Cfg} (h:GH c v g cfg) : ∀ x∈g,-2199023255552≤x∧x≤2199023255552:=(zhi h.tk).2.2.2
theorem GH.gl {c v:List (List Int)} {g:List Int} {cfg:Cfg} (h:GH c v g cfg):g.length≤40∧c.length≤4∧v.length≤4:=by
 obtain ⟨h1,_,h3,_⟩:=zhi h.tk
 have:=z1s h1
 have:=zrp h1
 omega
theorem GH.at {c v:List (List Int)} {g:List Int} {cfg:Cfg} (h:GH c v g cfg) {f:Nat} (hf:f<c.length) : ∃ a y,c[f]?=some a∧v[f]?=some y∧y.length=g.length∧a.length≤7:=by
 obtain ⟨h1,_,h3,_⟩:=zhi h.tk
 obtain ⟨a,y,e1,e2,e3,e4,_⟩:=ykp h1 hf
 exact ⟨a,y,e1,e2,by omega,e4⟩
theorem GH.may {c v:List (List Int)} {g:List Int} {cfg:Cfg} (h:GH c v g cfg) {x:Pnd} (hx:zjs g.length cfg.de x) (hb:zc3 x.b=true) {f k:Nat} (hf:f<c.length):zbj cfg x.b (za8 v g x.r f k)=wyB cfg x.b (za8 v g x.r f k) (zat g x.r)∧gS (za8 v g x.r f k).a∧gS (za8 v g x.r f k).z:=by
 obtain ⟨a,y,e1,e2,e3,_⟩:=h.at hf
 have hyd:v.getD f []=y:=by simp [e2]
 have hl:=h.gl
 have hr40:x.r.length≤40:=by have:=hx.2.1; omega
 have hv : ∀ r∈x.r,∃ z,atI y r=some z:=fun r hr=>by
  obtain ⟨r0,r1⟩:=hx.1 r hr
  obtain ⟨rn,rfl⟩ : ∃ rn:Nat,r=rn:=⟨r.toNat,by omega⟩
  refine ⟨y[rn]'(by omega),?_⟩
  unfold atI
  simp
 have gA:=zjx (rows:=zaz y x.r k) h.gb (Nat.le_trans (List.length_filter_le _ _) hr40)
 have gZ:=zjx (rows:=za7 y x.r k) h.gb (Nat.le_trans (List.length_filter_le _ _) hr40)
 unfold za8
 rw [hyd]
 exact ⟨ywt (zhi h.tk).2.1 hb gA gZ (zjx h.gb hr40) (y1r hv h.gb hr40) h.la.1 h.la.2.1,gA,gZ⟩
def WB (v:List (List Int)) (g rows:List Int) (la:Int) (S:Nat→Option Ob) (nx:Nat) (acc:Option Cnd) (B:List PV) (fd:PV):Prop:=(acc=none∧B=[iv 0,iv 0,.e0,.e0,bv false,uv 0,uv 0,iv 0]∧fd=bv false)∨∃ (f k o e p e':Nat),acc=some (za8 v g rows f k)∧B=[iv f,iv k,.ref o none e 0 (zaz (v.getD f []) rows k).length,.ref p none e' 0 (za7 (v.getD f []) rows k).length]++frc (zav (za8 v g rows f k) la).1∧fd=bv true∧4<o∧o<nx∧4<p∧p<nx∧¬ o=p∧S o=some (.row 1 (zac (zaz (v.getD f []) rows k)))∧S p=some (.row 1 (zac (za7 (v.getD f []) rows k)))
theorem WB.up {v:List (List Int)} {g rows:List Int} {la:Int} {S S':Nat→Option Ob} {nx nx':Nat} {acc:Option Cnd} {B:List PV} {fd:PV} (h:WB v g rows la S nx acc B fd) (hn:nx≤nx') (hS : ∀ o,4<o→o<nx→S' o=S o):WB v g rows la S' nx' acc B fd:=by
 rcases h with h | ⟨f,k,o,e,p,e',h1,h2,h3,h4,h5,h6,h7,h8,h9,h10⟩
 ·exact .inl h
 ·exact .inr ⟨f,k,o,e,p,e',h1,h2,h3,h4,by omega,h6,by omega,h8,by rw [hS o h4 h5]; exact h9,by rw [hS p h6 h7]; exact h10⟩
theorem yvu {b:Bd} (h:zc3 b=true):inI b.lo∧inI b.hi:=by
 unfold zc3 zfn at h
 simp only [Bool.and_eq_true,decide_eq_true_eq,zax] at h
 exact ⟨⟨by omega,by omega⟩,⟨by omega,by omega⟩⟩
theorem yem {x lo hi:Int} (h1:inI lo) (h2:inI hi):inI (zb7 x lo hi):=by
 unfold zb7
 obtain ⟨a1,a2⟩:=h1
 obtain ⟨a3,a4⟩:=h2
 split
 ·exact ⟨a1,a2⟩
 ·split
  ·exact ⟨a3,a4⟩
  ·exact ⟨by omega,by omega⟩
def NB (acc:Option Cnd) (B:List PV) (fd:PV):Prop:=(acc=none∧B=cnd zhh∧fd=bv false)∨∃ x,acc=some x∧B=cnd x∧fd=bv true
abbrev zu6 (q:Bool) (c v:List (List Int)) (g:List Int) (cfg:Cfg) (x:Pnd):List PV:=[.agg [.sl 1 (rws q c),.sl 1 (rws q v),.sl 1 (zac g),iv cfg.ro,iv cfg.de,iv cfg.bi,iv cfg.la,iv cfg.rw,iv cfg.nu,iv cfg.dn,.sl 1 (zac cfg.sg)],.sl 1 (zac x.r),.agg (bnd x.b),iv x.l]
theorem z6v {v:List (List Int)} {g rows:List Int} {f k:Nat} (hf:f≤4) (hk:k≤7) (ha:gS (za8 v g rows f k).a) (hz:gS (za8 v g rows f k).z):zeb (za8 v g rows f k):=by
 refine ⟨?_,?_,z2u ha,z2u hz⟩ <;> simp only [za8,inI] <;> omega
set_option maxHeartbeats 4000000 in
set_option maxRecDepth 4000 in
theorem yvm (q:Bool) {c v:List (List Int)} {g:List Int} {cfg:Cfg} (H:GH c v g cfg) : ∀ (N:Nat) (x:Pnd),zjs g.length cfg.de x→zc3 x.b=true→(cfg.de-x.l).toNat=N→RUN T zkp (zu6 q c v g cfg x)=some ([.agg (snC true (zds c v g cfg N x))],[]):=by
 intro N
 induction N with
 | zero =>
  intro x hx hb hN
  have hle : ¬ x.l<cfg.de:=by omega
  have hle':cfg.de≤x.l:=by omega
  have hgl:=H.gl
  have hr40:x.r.length≤40:=by have:=hx.2.1; omega
  have gW:=zjx (g:=g) (rows:=x.r) H.gb hr40
  have e1:=zul g x.r H.gb hx.1 (by omega)
  have e2:=zuk (zat g x.r) cfg.la x.b (z2u gW)
  simp only [zds,zvc]
  generalize zdj (zat g x.r) cfg.la x.b=V at *
  obtain ⟨V,Vb⟩:=V
  generalize zat g x.r=SW at *
  obtain ⟨wn,wg⟩:=SW
  obtain ⟨xr,⟨lo,hi⟩,xl⟩:=x
  simp only [slc,bnd,cfS,zu6,snC,snL,zgi,if_true] at *
  refine zag z3t rfl ?_
  simp [-getElem?_pos,zti,ztj,e1,e2,hle']
 | succ N ih =>
  intro x hx hb hN
  have hgl:=H.gl
  have hr40:x.r.length≤40:=by have:=hx.2.1; omega
  have hBf:=ygd (v:=v) (g:=g) (rows:=x.r) (c:=c) (cfg:=cfg) (b:=x.b)
  obtain ⟨R,hR⟩ : ∃ R,R=snC true (zds c v g cfg (N+1) x):=⟨_,rfl⟩
  rw [← hR]
  have hlv:x.l<cfg.de:=by omega
  have hlv' : ¬ cfg.de≤x.l:=by omega
  have gW:=zjx (g:=g) (rows:=x.r) H.gb hr40
  have e1:=zul g x.r H.gb hx.1 (by omega)
  have e2:=zuk (zat g x.r) cfg.la x.b (z2u gW)
  obtain ⟨V,hV⟩ : ∃ V,V=zvc g cfg x:=⟨_,rfl⟩
  have hVa:(zdj (zat g x.r) cfg.la x.b).1=V:=hV.symm
  rw [hVa] at e2
  generalize (zdj (zat g x.r) cfg.la x.b).2=Vb at *
  obtain ⟨xr,⟨lo,hi⟩,xl⟩:=x
  simp only at hr40 hBf hlv hN e1 e2 hlv'
  generalize zat g xr=SW at *
  obtain ⟨wn,wg⟩:=SW
  simp only [slc,bnd,zu6] at *
  refine zag z3t rfl ?_
  simp [-getElem?_pos,zti,ztj,e1,e2,hlv']
  refine za4 (fun n st => ∃ (f:Nat) (B:List PV) (fd:PV),f+n=c.length∧5<st.nx∧st.V 55=iv f∧NB (ze8 c v g cfg xr ⟨lo,hi⟩ f) B fd∧st.V 1 = .sl 1 (zac xr)∧st.V 3=iv xl∧st.V 4 = .ptr 0 none 0 0 0∧st.V 6 = .ptr 1 none 0 0 0∧st.V 8 = .ptr 2 none 0 0 0∧st.V 12 = .ptr 4 none 0 0 0∧st.V 13 = .ptr 5 none 0 0 0∧st.V 14=fd∧st.V 53 = .sl 1 (rws q c)∧st.V 54=iv c.length∧st.S 0=some (.box [.sl 1 (rws q c),.sl 1 (rws q v),.sl 1 (zac g),iv cfg.ro,iv cfg.de,iv cfg.bi,iv cfg.la,iv cfg.rw,iv cfg.nu,iv cfg.dn,.sl 1 (zac cfg.sg)])∧st.S 1=some (.box [iv lo,iv hi])∧st.S 2=some (.box [iv 0,iv 0,iv 0,.e0])∧st.S 4=some (.box [iv (-1),iv 0,iv V,.e0])∧st.S 5=some (.box B)) ?_ c.length _ ⟨0,_,_,by omega,by simp,by simp,.inl ⟨rfl,rfl,rfl⟩,by simp [cnd,zhh]⟩
  clear gW e1 e2 hVa
  rintro n st ⟨f,B,fd,hfn,hnx,v55,hW,v1,v3,v4,v6,v8,v12,v13,v14,v53,v54,S0,S1,S2,S4,S5⟩
  by_cases hf:f<c.length
  ·obtain ⟨a,y,ha,hy,hyl,ha7⟩:=H.at hf
   have ha':=zd1 (q:=q) ha
   have hy':=zd1 (q:=q) hy
   have hcd:c.getD f []=a:=by simp [ha]
   have hyd:v.getD f []=y:=by simp [hy]
   have hfl:f<v.length:=(List.getElem?_eq_some_iff.mp hy).1
   have hwf:=wS hf (by omega:c.length≤9223372036854775807)
   simp [-getElem?_pos,zxo,v1,v3,v4,v6,v8,v12,v13,v14,v53,v54,S0,S1,S2,S4,S5,v55,hf,ha']
   refine za4 (fun n st => ∃ (k:Nat) (B:List PV) (fd:PV),k+n=a.length∧5<st.nx∧st.V 55=iv f∧st.V 15=iv f∧st.V 61=iv a.length∧st.V 62=iv k∧NB (zgp v g cfg xr ⟨lo,hi⟩ f (ze8 c v g cfg xr ⟨lo,hi⟩ f) k) B fd∧st.V 1 = .sl 1 (zac xr)∧st.V 3=iv xl∧st.V 4 = .ptr 0 none 0 0 0∧st.V 6 = .ptr 1 none 0 0 0∧st.V 8 = .ptr 2 none 0 0 0∧st.V 12 = .ptr 4 none 0 0 0∧st.V 13 = .ptr 5 none 0 0 0∧st.V 14=fd∧st.V 53 = .sl 1 (rws q c)∧st.V 54=iv c.length∧st.S 0=some (.box [.sl 1 (rws q c),.sl 1 (rws q v),.sl 1 (zac g),iv cfg.ro,iv cfg.de,iv cfg.bi,iv cfg.la,iv cfg.rw,iv cfg.nu,iv cfg.dn,.sl 1 (zac cfg.sg)])∧st.S 1=some (.box [iv lo,iv hi])∧st.S 2=some (.box [iv 0,iv 0,iv 0,.e0])∧st.S 4=some (.box [iv (-1),iv 0,iv V,.e0])∧st.S 5=some (.box B)) ?_ a.length _ ⟨0,B,fd,by omega,by simp; omega,by simp [v55],by simp,by simp,by simp,hW,by simp [v1,v3,v4,v6,v8,v12,v13,v14,v53,v54,S0,S1,S2,S4,S5]⟩
   clear hW v1 v3 v4 v6 v8 v12 v13 v14 v53 v54 S0 S1 S2 S4 S5 v55 hnx
   clear B fd
   rintro m st ⟨k,B,fd,hkm,hnx,v55,v15,v61,v62,hW,v1,v3,v4,v6,v8,v12,v13,v14,v53,v54,S0,S1,S2,S4,S5⟩
   have q0:=fr (by omega:0<st.nx)
   have q1:=fr (by omega:1<st.nx)
   have q2:=fr (by omega:2<st.nx)
   have q3:=fr (by omega:3<st.nx)
   have q4:=fr (by omega:4<st.nx)
   have q5:=fr (by omega:5<st.nx)
   have n0 : ¬ st.nx=0:=by omega
   have n1 : ¬ st.nx=1:=by omega
   have n2 : ¬ st.nx=2:=by omega
   have n3 : ¬ st.nx=3:=by omega
   have n4 : ¬ st.nx=4:=by omega
   have n5 : ¬ st.nx=5:=by omega
   by_cases hk:k<a.length
   ·have e3:=z4g y xr k (by omega) (by omega)
    have e4:=zul g (zaz y xr k) H.gb (fun r hr=>hx.1 r (z28.1 hr)) (Nat.le_trans (List.length_filter_le _ _) (by omega))
    have e5:=zul g (za7 y xr k) H.gb (fun r hr=>hx.1 r (z28.2 hr)) (Nat.le_trans (List.length_filter_le _ _) (by omega))
    obtain ⟨m1,m2,m3⟩:=H.may hx hb (k:=k) hf
    simp only at m1 m2 m3
    have hI:=z6v (by omega) (by omega) m2 m3
    have e6:=ycw cfg ⟨lo,hi⟩ (za8 v g xr f k) hI (by have:=H.sg; omega)
    have hwk:=wS hk (by omega:a.length≤9223372036854775807)
    have hcv:cnd (za8 v g xr f k)=[iv f,iv k,iv (zat g (zaz y xr k)).n,iv (zat g (zaz y xr k)).g,iv (zat g (za7 y xr k)).n,iv (zat g (za7 y xr k)).g]:=by simp only [cnd,za8,hyd]
    rw [hcv] at e6
    cases hm:zbj cfg ⟨lo,hi⟩ (za8 v g xr f k) with
    | false =>
     rw [hm] at e6
     have hst:zgp v g cfg xr ⟨lo,hi⟩ f (ze8 c v g cfg xr ⟨lo,hi⟩ f) (k+1)=zgp v g cfg xr ⟨lo,hi⟩ f (ze8 c v g cfg xr ⟨lo,hi⟩ f) k:=by rw [zvl]; unfold zj0; rw [if_neg (by rw [hm]; simp)]
     rw [← hst] at hW
     clear hcv hI m2 m3 m1
     generalize zat g (zaz y xr k)=SA at *
     generalize zat g (za7 y xr k)=SZ at *
     obtain ⟨an,ag⟩:=SA
     obtain ⟨zn,zg⟩:=SZ
     generalize zaz y xr k=L1 at *
     generalize za7 y xr k=L2 at *
     simp only [slc,bnd] at *
     simp [-getElem?_pos,zq2,v1,v3,v4,v6,v8,v12,v13,v14,v53,v54,S0,S1,S2,S4,S5,v55,v15,v61,v62,hy',hfl,hk,hwk,e3,e4,e5,e6,zbn,q0,q1,q2,q3,q4,q5,n0,n1,n2,n3,n4,n5]
     exact zam (m-1) (by omega) ⟨k+1,B,fd,by omega,by simp; omega,by simp [v55],by simp [v15],by simp [v61],by simp,hW,by simp [v1],by simp [v3],by simp [v4],by simp [v6],by simp [v8],by simp [v12],by simp [v13],by simp [v14],by simp [v53],by simp [v54],by simp [S0,q0,q1,q2,q3,q4,q5,n0,n1,n2,n3,n4,n5],by simp [S1,q0,q1,q2,q3,q4,q5,n0,n1,n2,n3,n4,n5],by simp [S2,q0,q1,q2,q3,q4,q5,n0,n1,n2,n3,n4,n5],by simp [S4,q0,q1,q2,q3,q4,q5,n0,n1,n2,n3,n4,n5],by simp [S5,q0,q1,q2,q3,q4,q5,n0,n1,n2,n3,n4,n5]⟩
    | true =>
     rw [hm] at e6
     have nW:NB (some (za8 v g xr f k)) [iv f,iv k,iv (zat g (zaz y xr k)).n,iv (zat g (zaz y xr k)).g,iv (zat g (za7 y xr k)).n,iv (zat g (za7 y xr k)).g] (bv true) := .inr ⟨_,rfl,hcv.symm,rfl⟩
     rcases hW with ⟨w1,w2,w3⟩ | ⟨x,w1,w2,w3⟩
     ·have hst:zgp v g cfg xr ⟨lo,hi⟩ f (ze8 c v g cfg xr ⟨lo,hi⟩ f) (k+1)=some (za8 v g xr f k):=by rw [zvl,w1]; unfold zj0; rw [if_pos hm]
      rw [← hst] at nW
      subst w2 w3
      clear hcv hI m2 m3 m1
      generalize zat g (zaz y xr k)=SA at *
      generalize zat g (za7 y xr k)=SZ at *
      obtain ⟨an,ag⟩:=SA
      obtain ⟨zn,zg⟩:=SZ
      generalize zaz y xr k=L1 at *
      generalize za7 y xr k=L2 at *
      simp only [slc,bnd] at *
      simp [-getElem?_pos,zq2,v1,v3,v4,v6,v8,v12,v13,v14,v53,v54,S0,S1,S2,S4,S5,v55,v15,v61,v62,hy',hfl,hk,hwk,e3,e4,e5,e6,zbn,cnd,zhh,q0,q1,q2,q3,q4,q5,n0,n1,n2,n3,n4,n5]
      exact zam (m-1) (by omega) ⟨k+1,_,_,by omega,by simp; omega,by simp [v55],by simp [v15],by simp [v61],by simp,nW,by simp [v1],by simp [v3],by simp [v4],by simp [v6],by simp [v8],by simp [v12],by simp [v13],by simp,by simp [v53],by simp [v54],by simp [S0,q0,q1,q2,q3,q4,q5,n0,n1,n2,n3,n4,n5],by simp [S1,q0,q1,q2,q3,q4,q5,n0,n1,n2,n3,n4,n5],by simp [S2,q0,q1,q2,q3,q4,q5,n0,n1,n2,n3,n4,n5],by simp [S4,q0,q1,q2,q3,q4,q5,n0,n1,n2,n3,n4,n5],by simp⟩
     ·have hb0:=z66 (f:=f) (a:=ze8 c v g cfg xr ⟨lo,hi⟩ f) (hBf f (by omega)) hf k (by rw [hcd]; omega)
      rw [w1] at hb0
      obtain ⟨f2,k2,x1,_,x3,x6,_⟩:=hb0 _ rfl
      obtain ⟨a2,y2,ha2,_,_,ha72⟩:=H.at x3
      have hcd2:c.getD f2 []=a2:=by simp [ha2]
      rw [hcd2] at x6
      obtain ⟨_,m5,m6⟩:=H.may hx hb (k:=k2) x3
      have hIx:zeb x:=by rw [x1]; exact z6v (by omega) (by omega) m5 m6
      have e7:=ycv (za8 v g xr f k) x cfg.la hI hIx
      rw [hcv,← w2] at e7
      have oW:NB (some x) B fd := .inr ⟨_,rfl,w2,w3⟩
      have hst:zgp v g cfg xr ⟨lo,hi⟩ f (ze8 c v g cfg xr ⟨lo,hi⟩ f) (k+1)=if zcd (za8 v g xr f k) x cfg.la=true then some (za8 v g xr f k) else some x:=by rw [zvl,w1]; unfold zj0; rw [if_pos hm]
      have v14':=v14
      rw [w3] at v14'
      obtain ⟨B1,B2,B3,B4,B5,B6,hB6⟩ : ∃ B1 B2 B3 B4 B5 B6:Int,B=[iv B1,iv B2,iv B3,iv B4,iv B5,iv B6]:=⟨_,_,_,_,_,_,w2⟩
      rw [hB6] at e7
      have S5':=S5
      rw [hB6] at S5'
      clear hcv hI m2 m3 m1 w2 w1 hb0 m5 m6
      cases hbt:zcd (za8 v g xr f k) x cfg.la with
      | true =>
       rw [hbt] at e7 hst
       rw [if_pos rfl] at hst
       rw [← hst] at nW
       clear oW hst S5
       generalize zat g (zaz y xr k)=SA at *
       generalize zat g (za7 y xr k)=SZ at *
       obtain ⟨an,ag⟩:=SA
       obtain ⟨zn,zg⟩:=SZ
       generalize zaz y xr k=L1 at *
       generalize za7 y xr k=L2 at *
       simp only [slc,bnd] at *
       simp [-getElem?_pos,zq2,v1,v3,v4,v6,v8,v12,v13,v14',v53,v54,S0,S1,S2,S4,S5',v55,v15,v61,v62,hy',hfl,hk,hwk,e3,e4,e5,e6,e7,zbn,q0,q1,q2,q3,q4,q5,n0,n1,n2,n3,n4,n5]
       exact zam (m-1) (by omega) ⟨k+1,_,_,by omega,by simp; omega,by simp [v55],by simp [v15],by simp [v61],by simp,nW,by simp [v1],by simp [v3],by simp [v4],by simp [v6],by simp [v8],by simp [v12],by simp [v13],by simp,by simp [v53],by simp [v54],by simp [S0,q0,q1,q2,q3,q4,q5,n0,n1,n2,n3,n4,n5],by simp [S1,q0,q1,q2,q3,q4,q5,n0,n1,n2,n3,n4,n5],by simp [S2,q0,q1,q2,q3,q4,q5,n0,n1,n2,n3,n4,n5],by simp [S4,q0,q1,q2,q3,q4,q5,n0,n1,n2,n3,n4,n5],by simp⟩
      | false =>
       rw [hbt] at e7 hst
       rw [if_neg (by simp)] at hst
       rw [← hst] at oW
       clear nW hst
       generalize zat g (zaz y xr k)=SA at *
       generalize zat g (za7 y xr k)=SZ at *
       obtain ⟨an,ag⟩:=SA
       obtain ⟨zn,zg⟩:=SZ
       generalize zaz y xr k=L1 at *
       generalize za7 y xr k=L2 at *
       simp only [slc,bnd] at *
       simp [-getElem?_pos,zq2,v1,v3,v4,v6,v8,v12,v13,v14',v53,v54,S0,S1,S2,S4,S5',v55,v15,v61,v62,hy',hfl,hk,hwk,e3,e4,e5,e6,e7,zbn,q0,q1,q2,q3,q4,q5,n0,n1,n2,n3,n4,n5]
       exact zam (m-1) (by omega) ⟨k+1,B,fd,by omega,by simp; omega,by simp [v55],by simp [v15],by simp [v61],by simp,oW,by simp [v1],by simp [v3],by simp [v4],by simp [v6],by simp [v8],by simp [v12],by simp [v13],by simp [v14],by simp [v53],by simp [v54],by simp [S0,q0,q1,q2,q3,q4,q5,n0,n1,n2,n3,n4,n5],by simp [S1,q0,q1,q2,q3,q4,q5,n0,n1,n2,n3,n4,n5],by simp [S2,q0,q1,q2,q3,q4,q5,n0,n1,n2,n3,n4,n5],by simp [S4,q0,q1,q2,q3,q4,q5,n0,n1,n2,n3,n4,n5],by simp [S5,q0,q1,q2,q3,q4,q5,n0,n1,n2,n3,n4,n5]⟩
   ·have hke:k=a.length:=by omega
    subst hke
    have hst:ze8 c v g cfg xr ⟨lo,hi⟩ (f+1)=zgp v g cfg xr ⟨lo,hi⟩ f (ze8 c v g cfg xr ⟨lo,hi⟩ f) a.length:=by rw [z6f,hcd]
    rw [← hst] at hW
    simp [-getElem?_pos,zq2,v1,v3,v4,v6,v8,v12,v13,v14,v53,v54,S0,S1,S2,S4,S5,v55,v15,v61,v62,hf,hwf,q0,q1,q2,q3,q4,q5,n0,n1,n2,n3,n4,n5]
    exact zam (n-1) (by omega) ⟨f+1,B,fd,by omega,by simp; omega,by simp,hW,by simp [v1,v3,v4,v6,v8,v12,v13,v14,v53,v54,S0,S1,S2,S4,S5]⟩
  ·have hfe:f=c.length:=by omega
   subst hfe
   have q0:=fr (by omega:0<st.nx)
   have q1:=fr (by omega:1<st.nx)
   have q2:=fr (by omega:2<st.nx)
   have q3:=fr (by omega:3<st.nx)
   have q4:=fr (by omega:4<st.nx)
   have q5:=fr (by omega:5<st.nx)
   have n0 : ¬ st.nx=0:=by omega
   have n1 : ¬ st.nx=1:=by omega
   have n2 : ¬ st.nx=2:=by omega
   have n3 : ¬ st.nx=3:=by omega
   have n4 : ¬ st.nx=4:=by omega
   have n5 : ¬ st.nx=5:=by omega
   have hb0:=hBf c.length (Nat.le_refl _)
   rcases hW with ⟨w1,w2,w3⟩ | ⟨x,w1,w2,w3⟩
   ·subst w2 w3
    have hR2:R=[iv (-1),iv 0,iv V,.own 4 []]:=by
     rw [hR,hV]
     simp only [zds,w1,snC,snL,zgi,if_true]
    rw [hR2]
    clear hR hR2 hV
    simp [-getElem?_pos,zxo,v1,v3,v4,v6,v8,v12,v13,v14,v53,v54,S0,S1,S2,S4,S5,v55,q0,q1,q2,q3,q4,q5,n0,n1,n2,n3,n4,n5]
   ·rw [w1] at hb0
    obtain ⟨f',k',x1,_,hf',hk',_⟩:=hb0 _ rfl
    subst x1
    obtain ⟨a,y,ha,hy,hyl,ha7⟩:=H.at hf'
    have ha':=zd1 (q:=q) ha
    have hy':=zd1 (q:=q) hy
    have hfv:f'<v.length:=(List.getElem?_eq_some_iff.mp hy).1
    have hcd:c.getD f' []=a:=by simp [ha]
    have hyd:v.getD f' []=y:=by simp [hy]
    rw [hcd] at hk'
    obtain ⟨u,hu⟩ : ∃ u,a[k']?=some u:=⟨_,List.getElem?_eq_getElem hk'⟩
    have hu':=zbg hu
    obtain ⟨_,gA,gZ⟩:=H.may hx hb (k:=k') hf'
    have hI:=z6v (by omega) (by omega) gA gZ
    have e3:=z4g y xr k' (by omega) (by omega)
    have e4:=z4e cfg ⟨lo,hi⟩ (za8 v g xr f' k') hI
    simp only [za8,hyd] at gA gZ
    have hsd:zby cfg ⟨lo,hi⟩ (za8 v g xr f' k')=(zb7 (fdv (zat g (zaz y xr k')).g ((zat g (zaz y xr k')).n+cfg.la)).1 lo hi,zb7 (fdv (zat g (za7 y xr k')).g ((zat g (za7 y xr k')).n+cfg.la)).1 lo hi,true):=by
     unfold zby za8
     simp only [hyd,z2i gA H.la.1 H.la.2.1 hb,z2i gZ H.la.1 H.la.2.1 hb,Bool.and_self,if_true]
    rw [hsd,← w2] at e4
    have hBq:B=[iv f',iv k',iv (zat g (zaz y xr k')).n,iv (zat g (zaz y xr k')).g,iv (zat g (za7 y xr k')).n,iv (zat g (za7 y xr k')).g]:=by rw [w2]; simp only [cnd,za8,hyd]
    have hK1:zc6 c v cfg ⟨xr,⟨lo,hi⟩,xl⟩ (za8 v g xr f' k')=⟨zaz y xr k',(zej (zdm cfg f') ⟨lo,hi⟩ (zb7 (fdv (zat g (zaz y xr k')).g ((zat g (zaz y xr k')).n+cfg.la)).1 lo hi) (zb7 (fdv (zat g (za7 y xr k')).g ((zat g (za7 y xr k')).n+cfg.la)).1 lo hi)).1,xl+1⟩:=by
     unfold zc6
     rw [hsd]
     have:atI v (f':Int)=some y:=by unfold atI; simp [hy]
     simp only [za8,this,Option.getD_some]
    have hK2:zda c v cfg ⟨xr,⟨lo,hi⟩,xl⟩ (za8 v g xr f' k')=⟨za7 y xr k',(zej (zdm cfg f') ⟨lo,hi⟩ (zb7 (fdv (zat g (zaz y xr k')).g ((zat g (zaz y xr k')).n+cfg.la)).1 lo hi) (zb7 (fdv (zat g (za7 y xr k')).g ((zat g (za7 y xr k')).n+cfg.la)).1 lo hi)).2,xl+1⟩:=by
     unfold zda
     rw [hsd]
     have:atI v (f':Int)=some y:=by unfold atI; simp [hy]
     simp only [za8,this,Option.getD_some]
    have i1:=ih _ (z13 (c:=c) (v:=v) (k:=za8 v g xr f' k') hx hlv).1 (by unfold zc6; exact (z2v hb).1) (by simp only [zc6]; omega)
    have i2:=ih _ (z13 (c:=c) (v:=v) (k:=za8 v g xr f' k') hx hlv).2 (by unfold zda; exact (z2v hb).2) (by simp only [zda]; omega)
    have hcut:(atI ((atI c (f':Int)).getD []) (k':Int)).getD 0=u:=by
     have:atI c (f':Int)=some a:=by unfold atI; simp [ha]
     rw [this]
     unfold atI
     simp [hu]
    have hR2:R=snC true (.mk f' u 0 [zds c v g cfg N (zc6 c v cfg ⟨xr,⟨lo,hi⟩,xl⟩ (za8 v g xr f' k')),zds c v g cfg N (zda c v cfg ⟨xr,⟨lo,hi⟩,xl⟩ (za8 v g xr f' k'))]):=by
     rw [hR]
     simp only [zds,w1]
     congr 2
    rw [hK1,hK2] at hR2
    rw [hK1] at i1
    rw [hK2] at i2
    rw [hR2]
    clear hR hR2 hK1 hK2 hsd
    have e5:=z4f cfg f' (by have:=H.sg; omega)
    obtain ⟨b1,b2⟩:=yvu hb
    have e6:=ycx (zdm cfg f') ⟨lo,hi⟩ (zb7 (fdv (zat g (zaz y xr k')).g ((zat g (zaz y xr k')).n+cfg.la)).1 lo hi) (zb7 (fdv (zat g (za7 y xr k')).g ((zat g (za7 y xr k')).n+cfg.la)).1 lo hi) (yem b1 b2) (yem b1 b2)
    have hx3:=hx.2.2.1
    simp only at hx3
    have wl:=w64 (x:=xl+1) (by omega) (by have:=H.la; omega)
    rw [hBq] at e4 S5
    subst w3
    clear w2 hBq hI
    generalize zb7 (fdv (zat g (zaz y xr k')).g ((zat g (zaz y xr k')).n+cfg.la)).1 lo hi=V1 at *
    generalize zb7 (fdv (zat g (za7 y xr k')).g ((zat g (za7 y xr k')).n+cfg.la)).1 lo hi=V2 at *
    generalize zdm cfg f'=SG at *
    generalize zej SG ⟨lo,hi⟩ V1 V2=SB at *
    obtain ⟨⟨l1,h1⟩,⟨l2,h2⟩⟩:=SB
    simp only at i1 i2 e6 e4
    generalize zds c v g cfg N ⟨zaz y xr k',⟨l1,h1⟩,xl+1⟩=T1 at *
    generalize zds c v g cfg N ⟨za7 y xr k',⟨l2,h2⟩,xl+1⟩=T2 at *
    obtain ⟨t11,t12,t13,t14⟩:=T1
    obtain ⟨t21,t22,t23,t24⟩:=T2
    generalize zat g (zaz y xr k')=SA at *
    generalize zat g (za7 y xr k')=SZ at *
    obtain ⟨an,ag⟩:=SA
    obtain ⟨zn,zg⟩:=SZ
    generalize zaz y xr k'=L1 at *
    generalize za7 y xr k'=L2 at *
    have hr2:zak 48 2=true:=by decide
    have d1 : ¬ st.nx=st.nx+1+2:=by omega
    have d2 : ¬ st.nx+1=st.nx+1+2:=by omega
    have d3 : ¬ st.nx=st.nx+2+1:=by omega
    have d4 : ¬ st.nx+1=st.nx+2+1:=by omega
    have d5 : ¬ st.nx=st.nx+1+1:=by omega
    simp only [slc,bnd,cfS,zu6,snC,snL,zgi,if_true] at *
    clear hBf hb0 w1 gA gZ ih hV
    simp [-getElem?_pos,zxo,v1,v3,v4,v6,v8,v12,v13,v14,v53,v54,S0,S1,S2,S4,S5,v55,e3,e4,e5,e6,i1,i2,wl,ha',hy',hu',hk',hf',hfv,zbn,hr2,d1,d2,d3,d4,d5,q0,q1,q2,q3,q4,q5,n0,n1,n2,n3,n4,n5]
theorem z6i {c v:List (List Int)} {g:List Int} {cfg:Cfg} : ∀ (n:Nat) (x:Pnd),LnN 9223372036854775807 (zds c v g cfg n x)
 | 0,x=>by unfold zds; exact .mk (by simp) (by simp)
 | n+1,x=>by
  unfold zds
  split
  ·exact .mk (by simp) (by simp)
  ·refine .mk (by simp) (fun k hk => ?_)
   simp only [List.mem_cons,List.not_mem_nil,or_false] at hk
   rcases hk with rfl | rfl
   ·exact z6i n _
   ·exact z6i n _
theorem z69 {c v:List (List Int)} {g:List Int} {cfg:Cfg} : ∀ (n:Nat) (x:Pnd),szN (zds c v g cfg n x)+2≤2 ^ (n+1)
 | 0,x=>by unfold zds; simp [szN,szK]
 | n+1,x=>by
  unfold zds
  split
  ·simp only [szN,szK]
   have:2 ^ 1≤2 ^ (n+1+1):=Nat.pow_le_pow_right (by omega) (by omega)
   omega
  ·rename_i k _
   have h1:=z69 (c:=c) (v:=v) (g:=g) (cfg:=cfg) n (zc6 c v cfg x k)
   have h2:=z69 (c:=c) (v:=v) (g:=g) (cfg:=cfg) n (zda c v cfg x k)
   simp only [szN,szK]
   rw [Nat.pow_succ 2 (n+1)]
   omega
def zep (c v:List (List Int)) (g:List Int) (cfg:Cfg):SN×Bool:=if zd7 c v g cfg=true then (zds c v g cfg cfg.de.toNat (zbl g),true) else (.mk 0 0 0 [],false)
end Go.Pe
