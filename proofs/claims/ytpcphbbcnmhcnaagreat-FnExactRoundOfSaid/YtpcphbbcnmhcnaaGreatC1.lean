/- What each function answers by the evaluator,and the law; for each answer its own conditions stand ahead of it. -/
import Derived.Test.YtpcphbbcnmhcnaaGreatC0
import Derived.Test.YtpcphbbcnmhcnaaGreatEvB2
import Derived.IntWalk
set_option linter.all false
set_option maxHeartbeats 8000000
set_option maxRecDepth 8000
namespace Go.Pe
open Go
theorem y9y (c:Cfg) (b:Bd) (l:List Cnd) (hl:l.length<=1048576) (hc:c.sg.length<=1048576) (hi : ∀ x∈l,zeu x):RUN T zsc [cfS c,.agg (bnd b),.sl 6 (zcb l)]=some ([.agg (cnd (ze0 c b l).1),bv (ze0 c b l).2],[]):=by
 have eM : ∀ x∈l,RUN T zju [cfS c,.agg (bnd b),.agg (cnd x)]=some ([bv (zdy c b x)],[]):=fun x hx=>y9x c b x (hi x hx) (by omega);have eB : ∀ x∈l,∀ y∈l,RUN T zln [.agg (cnd x),.agg (cnd y),iv c.la]=some ([bv (zdr x y c.la)],[]):=fun x hx y hy=>y9v x y c.la (hi x hx) (hi y hy);obtain ⟨R,hR⟩ : ∃ R,R=ze0 c b l:=⟨_,rfl⟩;unfold ze0 at hR;rw [show ze0 c b l=R by rw [hR]; rfl];simp only [bnd] at eM ⊢;refine zae rfl rfl ?_;simp [-getElem?_pos,z42,z4r];refine zao (fun n st => ∃ i:Nat,i+n=l.length/\(l.drop i).find? (zmr c b l)=l.find? (zmr c b l)/\st.V 2 = .sl 6 (zcb l)/\st.V 3 = .ptr 0 none 0 0 0/\st.V 4 = .ptr 1 none 0 0 0/\st.V 6 = .ptr 2 none 0 0 0/\st.V 8=iv i/\st.S 0=some (.box [iv c.ro,iv c.de,iv c.bi,iv c.la,iv c.rw,iv c.nu,iv c.dn,.sl 1 (zab c.sg)])/\st.S 1=some (.box [iv b.lo,iv b.hi])/\st.S 2=some (.box [iv 0,iv 0,iv 0,iv 0,iv 0,iv 0])) ?_ l.length _ ⟨0,by simp⟩;rintro n st ⟨i,hin,hf,v2,v3,v4,v6,v8,hS0,hS1,hS2⟩
 by_cases h:i<l.length
 ·obtain ⟨x,hx⟩ : ∃ x,l[i]?=some x:=⟨_,bG h⟩;have hx':=zx3 hx;have hxm:=bF hx;have hws:=wS h (by omega:l.length<=9223372036854775807);rw [zc3 hx,List.find?_cons] at hf;have e1:=eM x hxm;simp only [cnd] at e1;have eB' : ∀ y∈l,RUN T zln [.agg [iv y.f,iv y.b,iv y.a.n,iv y.a.g,iv y.z.n,iv y.z.g],.agg [iv x.f,iv x.b,iv x.a.n,iv x.a.g,iv x.z.n,iv x.z.g],iv c.la]=some ([bv (zdr y x c.la)],[]):=fun y hy=>eB y hy x hxm;have eM' : ∀ y∈l,RUN T zju [cfS c,.agg [iv b.lo,iv b.hi],.agg [iv y.f,iv y.b,iv y.a.n,iv y.a.g,iv y.z.n,iv y.z.g]]=some ([bv (zdy c b y)],[]):=fun y hy=>eM y hy;clear eM eB;obtain ⟨kb0,hkb⟩ : ∃ k,k=zmr c b l x:=⟨_,rfl⟩;rw [<- hkb] at hf;have hkb2:kb0=(zdy c b x && (l.drop 0).all (noB c b x)):=by rw [hkb]; rfl
  clear hkb;generalize hmx:zdy c b x=mx at *;simp [-getElem?_pos,yar,v2,v3,v4,v6,v8,hS0,hS1,hS2,h,hx',cnd,e1];refine zao (fun n' s => ∃ (j:Nat) (k:Bool),j+n'=l.length/\(k && (l.drop j).all (noB c b x))=kb0/\s.V 2 = .sl 6 (zcb l)/\s.V 3 = .ptr 0 none 0 0 0/\s.V 4 = .ptr 1 none 0 0 0/\s.V 6 = .ptr 2 none 0 0 0/\s.V 8=iv i/\s.V 9=bv k/\s.V 10=iv j/\s.S 0=some (.box [iv c.ro,iv c.de,iv c.bi,iv c.la,iv c.rw,iv c.nu,iv c.dn,.sl 1 (zab c.sg)])/\s.S 1=some (.box [iv b.lo,iv b.hi])/\s.S 2=some (.box [iv 0,iv 0,iv 0,iv 0,iv 0,iv 0])) ?_ l.length _ ⟨0,mx,by omega,hkb2.symm,by simp [v2,v3,v4,v6,v8,hS0,hS1,hS2]⟩;clear v2 v3 v4 v6 v8 hS0 hS1 hS2;rintro n' s ⟨j,k,hj,hk,v2,v3,v4,v6,v8,v9,v10,hS0,hS1,hS2⟩
  by_cases hjl:j<l.length
  ·cases k with
   | true =>
    obtain ⟨y,hy⟩ : ∃ y,l[j]?=some y:=⟨_,bG hjl⟩;have hy':=zx3 hy;have hym:=bF hy;have hwj:=wS hjl (by omega:l.length<=9223372036854775807);have e2:=eM' y hym;have e3:=eB' y hym;rw [zc3 hy,List.all_cons] at hk;have hno:noB c b x y=(!zdy c b y || !zdr y x c.la):=rfl;rw [hno] at hk;clear eM' eB' e1 hno;generalize zdy c b y=my at *;generalize zdr y x c.la=by' at *
    cases my <;> cases by' <;> simp [-getElem?_pos,zws,v2,v3,v4,v6,v8,hS0,hS1,hS2,v9,v10,hjl,h,hx',hy',cnd,e2,e3,hwj]
    all_goals first
     | exact zai (n'-1) (by omega) ⟨j+1,true,by omega,(by simpa using hk),by simp [v2,v3,v4,v6,v8,hS0,hS1,hS2]⟩
     | exact zai (n'-1) (by omega) ⟨j+1,false,by omega,(by simpa using hk),by simp [v2,v3,v4,v6,v8,hS0,hS1,hS2]⟩
   | false =>
    have hk0:kb0=false:=by rw [<- hk]; rfl
    subst hk0;simp only at hf;simp [-getElem?_pos,zws,v2,v3,v4,v6,v8,hS0,hS1,hS2,v9,v10,hjl,hws];exact zai (n-1) (by omega) ⟨i+1,by omega,hf,by simp [v2,v3,v4,v6,hS0,hS1,hS2]⟩
  ·rw [List.drop_eq_nil_of_le (by omega)] at hk;simp only [List.all_nil,Bool.and_true] at hk;subst hk;cases k with
   | true =>
    simp only at hf;rw [<- hf] at hR;simp only at hR;subst hR;simp [-getElem?_pos,zws,v2,v3,v4,v6,v8,hS0,hS1,hS2,v9,v10,hjl,h,hx',cnd]
   | false =>
    simp only at hf;simp [-getElem?_pos,zws,v2,v3,v4,v6,v8,hS0,hS1,hS2,v9,v10,hjl,hws];exact zai (n-1) (by omega) ⟨i+1,by omega,hf,by simp [v2,v3,v4,v6,hS0,hS1,hS2]⟩
 ·rw [List.drop_eq_nil_of_le (by omega)] at hf;rw [<- hf] at hR;simp only [List.find?_nil] at hR;subst hR;simp [-getElem?_pos,yar,v2,v6,v8,hS2,h,zko,cnd]
theorem qfo (a:Wd):ze4 a a=0:=by
 have h : ∀ x,zci x x=0:=fun x=>by
  unfold zci;rw [if_neg (by omega),if_neg (by omega)]
 unfold ze4;rw [h,h,if_pos rfl]
theorem qd4 (a:Wd):zkr a a=0:=by
 unfold zkr;rw [qfo];split <;> simp_all
theorem qh4 (a:Fr):(zfm a a).1=0:=by
 unfold zfm;split
 ·rename_i h;have:(zbm a a).1=(zbm a a).2.1:=by
   unfold zbm;split <;> rfl
  simp only;rw [this,qd4]
 ·rfl
theorem qhx (x:Cnd) (l:Int):zdr x x l=false:=by
 have h1:=qh4 (zb4 x l).1;have h2:zi3 x x=false:=by
  unfold zi3;rw [decide_eq_false (show ¬ x.f<x.f by omega),decide_eq_false (show ¬ x.b<x.b by omega)];simp
 unfold zdr;rw [h1,h2];simp
theorem qi1 {p q:Cnd->Bool} (l:List Cnd):(l.filter p).all q=l.all fun y => !p y || q y:=by
 induction l with
 | nil=>rfl
 | cons y l ih =>
  simp only [List.filter_cons,List.all_cons];cases h:p y with
  | true=>simp [ih]
  | false=>simp [ih]
theorem qf5 {p q:Cnd->Bool} (l:List Cnd):(l.filter p).find? q=l.find? fun x=>p x && q x:=by
 induction l with
 | nil=>rfl
 | cons y l ih =>
  simp only [List.filter_cons,List.find?_cons];cases h:p y with
  | true =>
   simp only [if_true,List.find?_cons,Bool.true_and];cases q y <;> simp [ih]
  | false=>simp [ih]
theorem qes (c:Cfg) (b:Bd) (l:List Cnd):l.find? (zmr c b l)=(l.filter (zdy c b)).find? fun x=>(l.filter (zdy c b)).all fun y => !zdr y x c.la:=by
 rw [qf5]
 congr 1
 funext x
 unfold zmr;rw [qi1];rfl
theorem y9z (c:Cfg) (b:Bd) (l:List Cnd) (hl:l.length<=1048576) (hc:c.sg.length<=1048576) (hi : ∀ x∈l,zeu x):RUN T zr8 [cfS c,.agg (bnd b),.sl 6 (zcb l)]=some ([.agg (cnd (ze0 c b l).1),bv (ze0 c b l).2],[]):=by
 have eM : ∀ x∈l,RUN T znu [cfS c,.agg [iv b.lo,iv b.hi],.agg [iv x.f,iv x.b,iv x.a.n,iv x.a.g,iv x.z.n,iv x.z.g]]=some ([bv (zdy c b x)],[]):=fun x hx=>y9w c b x (hi x hx) (by omega);have eB : ∀ x∈l,∀ y∈l,RUN T znv [.agg [iv x.f,iv x.b,iv x.a.n,iv x.a.g,iv x.z.n,iv x.z.g],.agg [iv y.f,iv y.b,iv y.a.n,iv y.a.g,iv y.z.n,iv y.z.g],iv c.la]=some ([bv (zdr x y c.la)],[]):=fun x hx y hy=>y9u x y c.la (hi x hx) (hi y hy);obtain ⟨R,hR⟩ : ∃ R,R=ze0 c b l:=⟨_,rfl⟩;unfold ze0 at hR;rw [show ze0 c b l=R by rw [hR]; rfl];rw [qes] at hR;simp only [bnd];refine zae rfl rfl ?_;have hr0:zah 48 0=true:=by decide
 have hr1:zah 48 1=true:=by decide
 simp [-getElem?_pos,z4q,z4r,hr0];refine zao (fun n st => ∃ (i o e:Nat) (m:List Cnd),i+n=l.length/\m=(l.take i).filter (zdy c b)/\st.V 3 = .ptr 0 none 0 0 0/\st.V 4 = .ptr 1 none 0 0 0/\st.V 6 = .ptr 2 none 0 0 0/\st.V 8 = .ref o none e 0 m.length/\st.V 17 = .sl 6 (zcb l)/\st.V 18=iv l.length/\st.V 19=iv i/\2<o/\o<st.nx/\st.S 0=some (.box [iv c.ro,iv c.de,iv c.bi,iv c.la,iv c.rw,iv c.nu,iv c.dn,.sl 1 (zab c.sg)])/\st.S 1=some (.box [iv b.lo,iv b.hi])/\st.S 2=some (.box [iv 0,iv 0,iv 0,iv 0,iv 0,iv 0])/\st.S o=some (.row 6 (zcb m))) ?_ l.length _ ⟨0,3,0,[],by simp [zcb]⟩;rintro n st ⟨i,o,e,m,hin,hm,v3,v4,v6,v8,v17,v18,v19,ho,hox,hS0,hS1,hS2,hSo⟩;obtain ⟨a01,a02,a03,a04⟩:=fr (show 0<st.nx by omega);obtain ⟨a11,a12,a13,a14⟩:=fr (show 1<st.nx by omega);obtain ⟨a21,a22,a23,a24⟩:=fr (show 2<st.nx by omega);obtain ⟨a31,a32,a33,a34⟩:=fr (show 0<o by omega);obtain ⟨a41,a42,a43,a44⟩:=fr (show 1<o by omega);obtain ⟨a51,a52,a53,a54⟩:=fr (show 2<o by omega);obtain ⟨a61,a62,a63,a64⟩:=fr (show o<st.nx by omega);obtain ⟨a71,a72,a73,a74⟩:=fr (show o<st.nx+1 by omega)
 by_cases h:i<l.length
 ·obtain ⟨x,hx⟩ : ∃ x,l[i]?=some x:=⟨_,bG h⟩;have hx':=zx3 hx;have hxm:=bF hx;have hws:=wS h (by omega:l.length<=9223372036854775807);have e1:=eM x hxm;have hml:m.length<=i:=by rw [hm]; exact Nat.le_trans (List.length_filter_le _ _) (by simp; omega)
  have hr48:zah 48 (m.length+1)=true:=by simp [zah]; omega
  have htk:(l.take (i+1)).filter (zdy c b)=if zdy c b x=true then m++[x] else m:=by
   rw [List.take_succ,hx,List.filter_append,<- hm]
   by_cases c':zdy c b x=true <;> simp [c']
  have hsn:zcb m++[[iv x.f,iv x.b,iv x.a.n,iv x.a.g,iv x.z.n,iv x.z.g]]=zcb (m++[x]):=by simp [zcb,cnd]
  clear eM eB hm;cases hmx:zdy c b x with
  | true =>
   rw [hmx] at e1;rw [if_pos hmx] at htk;simp [-getElem?_pos,z4p,v3,v4,v6,v8,v17,v18,v19,hS0,hS1,hS2,hSo,h,hx',cnd,e1,hws,hr1,hr48,hsn,a01,a02,a03,a04,a11,a12,a13,a14,a21,a22,a23,a24,a31,a32,a33,a34,a41,a42,a43,a44,a51,a52,a53,a54,a61,a62,a63,a64,a71,a72,a73,a74];exact zai (n-1) (by omega) ⟨i+1,st.nx+2,st.ep,m++[x],by omega,htk.symm,by simp [v3],by simp [v4],by simp [v6],by simp,by simp [v17],by simp [v18],by simp,by omega,by simp [a01,a02,a03,a04,a11,a12,a13,a14,a21,a22,a23,a24,a31,a32,a33,a34,a41,a42,a43,a44,a51,a52,a53,a54,a61,a62,a63,a64,a71,a72,a73,a74,hS0,hS1,hS2]⟩
  | false =>
   rw [hmx] at e1;rw [if_neg (by simp [hmx])] at htk;simp [-getElem?_pos,z4p,v3,v4,v6,v8,v17,v18,v19,hS0,hS1,hS2,hSo,h,hx',cnd,e1,hws,a01,a02,a03,a04,a11,a12,a13,a14,a21,a22,a23,a24,a31,a32,a33,a34,a41,a42,a43,a44,a51,a52,a53,a54,a61,a62,a63,a64,a71,a72,a73,a74];exact zai (n-1) (by omega) ⟨i+1,o,e,m,by omega,htk.symm,by simp [v3],by simp [v4],by simp [v6],by simp [v8],by simp [v17],by simp [v18],by simp,by omega,by simp; omega,by simp [a01,a02,a03,a04,a11,a12,a13,a14,a21,a22,a23,a24,a31,a32,a33,a34,a41,a42,a43,a44,a51,a52,a53,a54,a61,a62,a63,a64,a71,a72,a73,a74,hS0,hS1,hS2,hSo]⟩
 ·rw [List.take_of_length_le (by omega)] at hm;rw [<- hm] at hR;have hmem : ∀ y∈m,y∈l:=fun y hy=>by rw [hm] at hy; exact (List.mem_filter.mp hy).1
  have hml:m.length<=1048576:=by rw [hm]; exact Nat.le_trans (List.length_filter_le _ _) hl
  simp [-getElem?_pos,z4p,v8,v18,v19,hSo,h];obtain ⟨q,hq⟩ : ∃ q:Cnd->Bool,q=fun x=>m.all fun y => !zdr y x c.la:=⟨_,rfl⟩;rw [<- hq] at hR;clear eM hm hin;refine zao (fun n st => ∃ i:Nat,i+n=m.length/\(m.drop i).find? q=m.find? q/\st.V 3 = .ptr 0 none 0 0 0/\st.V 4 = .ptr 1 none 0 0 0/\st.V 6 = .ptr 2 none 0 0 0/\st.V 8 = .ref o none e 0 m.length/\st.V 32 = .ref o none e 0 m.length/\st.V 33=iv m.length/\st.V 34=iv i/\2<o/\o<st.nx/\st.S 0=some (.box [iv c.ro,iv c.de,iv c.bi,iv c.la,iv c.rw,iv c.nu,iv c.dn,.sl 1 (zab c.sg)])/\st.S 1=some (.box [iv b.lo,iv b.hi])/\st.S 2=some (.box [iv 0,iv 0,iv 0,iv 0,iv 0,iv 0])/\st.S o=some (.row 6 (zcb m))) ?_ m.length _ ⟨0,by simp,by simp,by simp [v3],by simp [v4],by simp [v6],by simp [v8],by simp,by simp,by simp,ho,by simp [hox,hS0,hS1,hS2,hSo]⟩;clear v3 v4 v6 v8 v17 v18 v19 hS0 hS1 hS2 hSo hox ho;clear a01 a02 a03 a04 a11 a12 a13 a14 a21 a22 a23 a24 a31 a32 a33 a34 a41 a42 a43 a44 a51 a52 a53 a54 a61 a62 a63 a64 a71 a72 a73 a74;rintro n st ⟨i,hin,hf,v3,v4,v6,v8,v32,v33,v34,ho,hox,hS0,hS1,hS2,hSo⟩;obtain ⟨b01,b02,b03,b04⟩:=fr (show 0<st.nx by omega);obtain ⟨b11,b12,b13,b14⟩:=fr (show 1<st.nx by omega);obtain ⟨b21,b22,b23,b24⟩:=fr (show 2<st.nx by omega);obtain ⟨b31,b32,b33,b34⟩:=fr (show 0<o by omega);obtain ⟨b41,b42,b43,b44⟩:=fr (show 1<o by omega);obtain ⟨b51,b52,b53,b54⟩:=fr (show 2<o by omega);obtain ⟨b61,b62,b63,b64⟩:=fr (show o<st.nx by omega)
  by_cases h:i<m.length
  ·obtain ⟨x,hx⟩ : ∃ x,m[i]?=some x:=⟨_,bG h⟩;have hx':=zx3 hx;have hxm:=bF hx;have hws:=wS h (by omega:m.length<=9223372036854775807);rw [zc3 hx,List.find?_cons] at hf;obtain ⟨kb0,hkb⟩ : ∃ k,k=q x:=⟨_,rfl⟩;rw [<- hkb] at hf;have hkb2:kb0=(true && (m.drop 0).all fun y => !zdr y x c.la):=by rw [hkb,hq]; rfl
   clear hkb hq;simp [-getElem?_pos,yaq,v3,v4,v6,v8,v32,v33,v34,hS0,hS1,hS2,hSo,h,hx',cnd,b01,b02,b03,b04,b11,b12,b13,b14,b21,b22,b23,b24,b31,b32,b33,b34,b41,b42,b43,b44,b51,b52,b53,b54,b61,b62,b63,b64];generalize hpp:st.nx=pp at *;refine zao (fun n' s => ∃ (j:Nat) (k:Bool),j+n'=m.length/\(k && (m.drop j).all fun y => !zdr y x c.la)=kb0/\s.V 3 = .ptr 0 none 0 0 0/\s.V 4 = .ptr 1 none 0 0 0/\s.V 6 = .ptr 2 none 0 0 0/\s.V 8 = .ref o none e 0 m.length/\s.V 32 = .ref o none e 0 m.length/\s.V 33=iv m.length/\s.V 34=iv i/\s.V 11=iv i/\s.V 12 = .ptr pp none st.ep 0 0/\s.V 13=bv k/\s.V 39 = .ref o none e 0 m.length/\s.V 40=iv m.length/\s.V 41=iv j/\pp<s.nx/\s.S 0=some (.box [iv c.ro,iv c.de,iv c.bi,iv c.la,iv c.rw,iv c.nu,iv c.dn,.sl 1 (zab c.sg)])/\s.S 1=some (.box [iv b.lo,iv b.hi])/\s.S 2=some (.box [iv 0,iv 0,iv 0,iv 0,iv 0,iv 0])/\s.S o=some (.row 6 (zcb m))/\s.S pp=some (.box [iv x.f,iv x.b,iv x.a.n,iv x.a.g,iv x.z.n,iv x.z.g])) ?_ m.length _ ⟨0,true,by omega,hkb2.symm,by simp [v3,v4,v6,v8,v32,v33,v34,b01,b02,b03,b04,b11,b12,b13,b14,b21,b22,b23,b24,b31,b32,b33,b34,b41,b42,b43,b44,b51,b52,b53,b54,b61,b62,b63,b64,hS0,hS1,hS2,hSo]⟩;clear v3 v4 v6 v8 v32 v33 v34 hS0 hS1 hS2 hSo;rintro n' s ⟨j,k,hj,hk,v3,v4,v6,v8,v32,v33,v34,v11,v12,v13,v39,v40,v41,hpn,hS0,hS1,hS2,hSo,hSp⟩;have Z1:=bI hS0 <| bI hS1 <| bI hS2 <| bI hSo hSp
   obtain ⟨d01,d02,d03,d04⟩:=fr (show 0<s.nx by omega);obtain ⟨d11,d12,d13,d14⟩:=fr (show 1<s.nx by omega);obtain ⟨d21,d22,d23,d24⟩:=fr (show 2<s.nx by omega);obtain ⟨d31,d32,d33,d34⟩:=fr (show 0<o by omega);obtain ⟨d41,d42,d43,d44⟩:=fr (show 1<o by omega);obtain ⟨d51,d52,d53,d54⟩:=fr (show 2<o by omega);obtain ⟨d61,d62,d63,d64⟩:=fr (show o<s.nx by omega);obtain ⟨d71,d72,d73,d74⟩:=fr (show 0<pp by omega);obtain ⟨d81,d82,d83,d84⟩:=fr (show 1<pp by omega);obtain ⟨d91,d92,d93,d94⟩:=fr (show 2<pp by omega);obtain ⟨d101,d102,d103,d104⟩:=fr (show o<pp by omega);obtain ⟨d111,d112,d113,d114⟩:=fr (show pp<s.nx by omega);have Z0:=bI d01 <| bI d02 <| bI d03 <| bI d04 <| bI d11 <| bI d12 <| bI d13 <| bI d14 <| bI d21 <| bI d22 <| bI d23 <| bI d24 <| bI d31 <| bI d32 <| bI d33 <| bI d34 <| bI d41 <| bI d42 <| bI d43 <| bI d44 <| bI d51 <| bI d52 <| bI d53 <| bI d54 <| bI d61 <| bI d62 <| bI d63 <| bI d64 <| bI d71 <| bI d72 <| bI d73 <| bI d74 <| bI d81 <| bI d82 <| bI d83 <| bI d84 <| bI d91 <| bI d92 <| bI d93 <| bI d94 <| bI d101 <| bI d102 <| bI d103 <| bI d104 <| bI d111 <| bI d112 <| bI d113 d114
   by_cases hjl:j<m.length
   ·obtain ⟨y,hy⟩ : ∃ y,m[j]?=some y:=⟨_,bG hjl⟩;have hy':=zx3 hy;have hym:=bF hy;have hwj:=wS hjl (by omega:m.length<=9223372036854775807);have e3:=eB y (hmem y hym) x (hmem x hxm);rw [zc3 hy,List.all_cons] at hk;clear eB;cases k with
    | false =>
     have hk':(false && (m.drop (j+1)).all fun y => !zdr y x c.la)=kb0:=by rw [<- hk]; rfl
     simp [-getElem?_pos,zof,v3,v4,v6,v8,v11,v12,v13,v39,v40,v41,Z1,hjl,hy',cnd,hwj,Z0];exact zai (n'-1) (by omega) ⟨j+1,false,by omega,hk',by simp [v3],by simp [v4],by simp [v6],by simp [v8],by simp [v32],by simp [v33],by simp [v34],by simp [v11],by simp [v12],by simp [v13],by simp [v39],by simp [v40],by simp,by simp; omega,by simp [Z0,Z1]⟩
    | true =>
     by_cases hij:j=i
     ·have hyx:y=x:=by
       subst hij;rw [hx] at hy; exact (Option.some.inj hy).symm
      subst hyx;rw [qhx] at hk;have hk':(true && (m.drop (j+1)).all fun z => !zdr z y c.la)=kb0:=by rw [<- hk]; rfl
      subst hij;simp [-getElem?_pos,zof,v3,v4,v6,v8,v11,v12,v13,v39,v40,v41,Z1,hjl,hy',cnd,hwj,Z0];exact zai (n'-1) (by omega) ⟨j+1,true,by omega,hk',by simp [v3],by simp [v4],by simp [v6],by simp [v8],by simp [v32],by simp [v33],by simp [v34],by simp [v11],by simp [v12],by simp [v13],by simp [v39],by simp [v40],by simp,by simp; omega,by simp [Z0,Z1]⟩
     ·have h1:((j:Int)=i)=False:=eq_false (by omega);have h2:((i:Int)=j)=False:=eq_false (by omega);have hji : ¬ i=j:=fun e=>hij e.symm;generalize zdr y x c.la=bb at *;cases bb with
      | true =>
       have hk':(false && (m.drop (j+1)).all fun y => !zdr y x c.la)=kb0:=by rw [<- hk]; rfl
       simp [-getElem?_pos,zof,v3,v4,v6,v8,v11,v12,v13,v39,v40,v41,Z1,hjl,hy',cnd,hwj,Z0,h1,h2,hij,hji,e3];exact zai (n'-1) (by omega) ⟨j+1,false,by omega,hk',by simp [v3],by simp [v4],by simp [v6],by simp [v8],by simp [v32],by simp [v33],by simp [v34],by simp [v11],by simp [v12],by simp [v13],by simp [v39],by simp [v40],by simp,by simp; omega,by simp [Z0,Z1]⟩
      | false =>
       have hk':(true && (m.drop (j+1)).all fun y => !zdr y x c.la)=kb0:=by rw [<- hk]; rfl
       simp [-getElem?_pos,zof,v3,v4,v6,v8,v11,v12,v13,v39,v40,v41,Z1,hjl,hy',cnd,hwj,Z0,h1,h2,hij,hji,e3];exact zai (n'-1) (by omega) ⟨j+1,true,by omega,hk',by simp [v3],by simp [v4],by simp [v6],by simp [v8],by simp [v32],by simp [v33],by simp [v34],by simp [v11],by simp [v12],by simp [v13],by simp [v39],by simp [v40],by simp,by simp; omega,by simp [Z0,Z1]⟩
   ·rw [List.drop_eq_nil_of_le (by omega)] at hk;simp only [List.all_nil,Bool.and_true] at hk;subst hk;cases k with
    | true =>
     simp only at hf;rw [<- hf] at hR;simp only at hR;subst hR;simp [-getElem?_pos,zof,v3,v4,v6,v8,v11,v12,v13,v39,v40,v41,Z1,hjl,cnd,Z0]
    | false =>
     simp only at hf;simp [-getElem?_pos,zof,v3,v4,v6,v8,v11,v12,v13,v34,v39,v40,v41,Z1,hjl,hws,Z0];exact zai (n-1) (by omega) ⟨i+1,by omega,hf,by simp [v3],by simp [v4],by simp [v6],by simp [v8],by simp [v32],by simp [v33],by simp,ho,by simp; omega,by simp [hS0,hS1,hS2,hSo]⟩
  ·rw [List.drop_eq_nil_of_le (by omega)] at hf;rw [<- hf] at hR;simp only [List.find?_nil] at hR;subst hR;simp [-getElem?_pos,yaq,v6,v33,v34,hS2,h,zko,cnd]
def zd0 (a b:Sl):Sl×Bool:=if ((sbi a.n b.n).2 && (sbi a.g b.g).2)=true then (⟨(sbi a.n b.n).1,(sbi a.g b.g).1⟩,true) else (⟨0,0⟩,false)
theorem ysb {a b:Int}:inI (sbi a b).1:=by
 unfold sbi inI;split
 ·rename_i h; simpa using h
 ·simp
theorem qex (a b:Sl):slI (zd0 a b).1:=by
 unfold zd0;split
 ·exact ⟨ysb,ysb⟩
 ·unfold slI inI; simp
def zc2 (s:Sl):List Sl->Option (List Sl)
 | []=>some []
 | x::xs=>if (zbh s x).2=true then (zc2 (zbh s x).1 xs).map ((zbh s x).1 :: ·) else none
def zck (h:List Sl):List Sl×Bool:=match zc2 ⟨0,0⟩ h with
 | some l=>(l,true)
 | none=>([],false)
theorem ytd : ∀ (h:List Sl) (s:Sl) (l:List Sl),slI s->zc2 s h=some l->l.length=h.length/\∀ x∈l,slI x
 | [],s,l,_,e=>by simp [zc2] at e; subst e; simp
 | x::xs,s,l,hs,e=>by
  simp only [zc2] at e;split at e
  ·simp only [bB] at e;obtain ⟨l',h1,rfl⟩:=e;have hp:=zmo (b:=x) hs;obtain ⟨h2,h3⟩:=ytd xs _ _ hp h1;refine ⟨by simp [h2],fun y hy => ?_⟩;rcases List.mem_cons.mp hy with e | e
   ·subst e; exact hp
   ·exact h3 y e
  ·cases e
theorem z9g:slI ⟨0,0⟩:=⟨by unfold inI; simp,by unfold inI; simp⟩
theorem ycq (h:List Sl):(zck h).1.length<=h.length/\(∀ x∈(zck h).1,slI x)/\((zck h).2=true->(zck h).1.length=h.length):=by
 unfold zck;cases e:zc2 ⟨0,0⟩ h with
 | none=>simp
 | some l =>
  obtain ⟨h1,h2⟩:=ytd h _ l z9g e;exact ⟨by simp [h1],h2,fun _=>h1⟩
def zfj (f:Int) (all:Sl) (least:Int):Int->List Sl->List Cnd->Option (List Cnd)
 | b,x::y::xs,acc=>if (zd0 all x).2=true then zfj f all least (b+1) (y::xs) (if least<=x.n/\least<=(zd0 all x).1.n then acc++[⟨f,b,x,(zd0 all x).1⟩] else acc) else none
 | _,_,acc=>some acc
def zgz (l:List Sl):Sl:=l.getLast?.getD ⟨0,0⟩
def zd2 (least:Int):Int->List (List Sl)->List Cnd->Option (List Cnd)
 | _,[],acc=>some acc
 | f,h::hs,acc=>if (zck h).2=true then match zfj f (zgz (zck h).1) least 0 (zck h).1 acc with
  | some a=>zd2 least (f+1) hs a
  | none=>none
  else none
def zep (H:List (List Sl)) (least:Int):List Cnd:=(zd2 least 0 H []).getD []
theorem z9y {f:Int} {all:Sl} {least:Int} {l:List Sl} {i:Nat} {x:Sl} (acc:List Cnd) (hx:l[i]?=some x) (hi:i+1<l.length):zfj f all least i (l.drop i) acc=if (zd0 all x).2=true then zfj f all least (i+1:Nat) (l.drop (i+1)) (if least<=x.n/\least<=(zd0 all x).1.n then acc++[⟨f,i,x,(zd0 all x).1⟩] else acc) else none:=by
 rw [zc3 hx,zc3 (bG hi),zfj];simp
theorem zu3 {f:Int} {all:Sl} {least:Int} {l:List Sl} {i:Nat} (acc:List Cnd) (hi : ¬ i+1<l.length):zfj f all least i (l.drop i) acc=some acc:=by
 match h:l.drop i with
 | []=>rw [zfj]; simp
 | [x]=>rw [zfj]; simp
 | x::y::xs =>
  have:=congrArg List.length h;simp at this; omega
theorem ytu {l:List Sl} {x:Sl} (h:l[l.length-1]?=some x):zgz l=x:=by
 unfold zgz; rw [List.getLast?_eq_getElem?,h]; rfl
def zux (H:List (List Sl)) (x:Cnd):Prop := ∃ (f b:Nat) (h:List Sl),x.f=f/\x.b=b/\H[f]?=some h/\b+1<h.length/\slI x.a/\slI x.z
theorem ydw {f:Int} {all:Sl} {least:Int} {p:Cnd->Prop} {l:List Sl} (hl : ∀ x∈l,slI x) (hp : ∀ (b:Nat) (x z:Sl),b+1<l.length->slI x->slI z->p ⟨f,b,x,z⟩) : ∀ (k i:Nat) (acc a:List Cnd),i+k=l.length->(∀ x∈acc,p x)->zfj f all least i (l.drop i) acc=some a->a.length<=acc.length+k/\∀ x∈a,p x
 | 0,i,acc,a,hk,ha,h=>by
  rw [zu3 acc (by omega)] at h;cases h;exact ⟨by omega,ha⟩
 | k+1,i,acc,a,hk,ha,h=>by
  by_cases hi:i+1<l.length
  ·obtain ⟨x,hx⟩ : ∃ x,l[i]?=some x:=⟨_,bG (by omega)⟩;rw [z9y acc hx hi] at h;have hxi:=hl x (bF hx);split at h
   ·split at h
    ·obtain ⟨h1,h2⟩:=ydw hl hp k (i+1) _ _ (by omega) (fun y hy=>by
      rcases List.mem_append.mp hy with e | e
      ·exact ha y e
      ·simp only [List.mem_singleton] at e; subst e; exact hp i x _ hi hxi (qex _ _)) h
     exact ⟨by simp at h1; omega,h2⟩
    ·obtain ⟨h1,h2⟩:=ydw hl hp k (i+1) _ _ (by omega) ha h;exact ⟨by omega,h2⟩
   ·cases h
  ·rw [zu3 acc hi] at h;cases h;exact ⟨by omega,ha⟩
theorem z9s {least:Int} {H:List (List Sl)} {i:Nat} {h:List Sl} (acc:List Cnd) (hx:H[i]?=some h):zd2 least i (H.drop i) acc=if (zck h).2=true then match zfj i (zgz (zck h).1) least 0 (zck h).1 acc with
  | some a=>zd2 least (i+1:Nat) (H.drop (i+1)) a
  | none=>none
  else none:=by
 rw [zc3 hx,zd2];simp
theorem yor {least:Int} {H:List (List Sl)} {m:Nat} (hm : ∀ l∈H,l.length<=m) : ∀ (k i:Nat) (acc a:List Cnd),i+k=H.length->(∀ x∈acc,zux H x)->zd2 least i (H.drop i) acc=some a->a.length<=acc.length+m*k/\∀ x∈a,zux H x
 | 0,i,acc,a,hk,ha,h=>by
  rw [List.drop_eq_nil_of_le (by omega),zd2] at h;cases h;exact ⟨by omega,ha⟩
 | k+1,i,acc,a,hk,ha,h=>by
  obtain ⟨l,hx⟩ : ∃ x,H[i]?=some x:=⟨_,bG (by omega)⟩;rw [z9s acc hx] at h;obtain ⟨p1,p2,p3⟩:=ycq l;split at h
  ·rename_i hp;split at h
   ·rename_i a' h';have h'':zfj i (zgz (zck l).1) least ((0:Nat):Int) ((zck l).1.drop 0) acc=some a':=by simpa using h'
    obtain ⟨q1,q2⟩:=ydw (p:=zux H) p2 (fun b x z hb hx' hz'=>⟨i,b,l,rfl,rfl,hx,by omega,hx',hz'⟩) (zck l).1.length 0 acc a' (by omega) ha h'';obtain ⟨r1,r2⟩:=yor hm k (i+1) a' a (by omega) q2 h;have:=hm l (bF hx);refine ⟨?_,r2⟩;rw [Nat.mul_add];omega
   ·cases h
  ·cases h
theorem yrf {least:Int} {H:List (List Sl)} {m:Nat} (hm : ∀ l∈H,l.length<=m):(zep H least).length<=m*H.length/\∀ x∈zep H least,zux H x:=by
 unfold zep;cases h:zd2 least 0 H [] with
 | none=>simp
 | some a =>
  have h':zd2 least ((0:Nat):Int) (H.drop 0) []=some a:=by simpa using h
  obtain ⟨h1,h2⟩:=yor hm H.length 0 [] a (by omega) (fun x hx=>by cases hx) h';exact ⟨by simpa using h1,h2⟩
theorem ynk {H:List (List Sl)} {x:Cnd} (hH:H.length<=1048576) (hl : ∀ l∈H,l.length<=1048576) (h:zux H x):zeu x:=by
 obtain ⟨f,b,l,h1,h2,h3,h4,h5,h6⟩:=h;have:=(bD h3).1;have:=hl l (bF h3);exact ⟨by unfold inI; omega,by unfold inI; omega,h5,h6⟩
theorem yu5 {c:Cfg} {b:Bd} {l:List Cnd} (h:(ze0 c b l).2=true):(ze0 c b l).1∈l/\zdy c b (ze0 c b l).1=true/\∀ y∈l,zdy c b y=true->zdr y (ze0 c b l).1 c.la=false:=by
 unfold ze0 at h ⊢;cases e:l.find? (zmr c b l) with
 | none=>rw [e] at h; cases h
 | some x =>
  simp only;have h1:=List.mem_of_find?_eq_some e;have h2:=List.find?_some e;unfold zmr at h2;simp only [Bool.and_eq_true] at h2;refine ⟨h1,h2.1,fun y hy hm => ?_⟩;have:=List.all_eq_true.mp h2.2 y hy;unfold noB at this;rw [hm] at this;simpa using this
theorem qil : ∀ x y:Nat,2*(x &&& y)+(x ^^^ y)=x+y:=by
 intro x
 induction x using Nat.strongRecOn with
 | _ x ih =>
  intro y
  by_cases hx:x=0
  ·subst hx; simp
  ·have h1:=ih (x / 2) (by omega) (y / 2);have h2:(x &&& y) / 2=x / 2 &&& y / 2:=by rw [Nat.and_div_two]
   have h3:(x ^^^ y) / 2=x / 2 ^^^ y / 2:=by rw [Nat.xor_div_two]
   have h4:(x &&& y) % 2=1↔x % 2=1/\y % 2=1:=Nat.and_mod_two_eq_one;have h5:(x ^^^ y) % 2=1↔¬ (x % 2=1↔y % 2=1):=Nat.xor_mod_two_eq_one;omega
def zcy (a:Int):Nat:=(a % 18446744073709551616).toNat
theorem z87 {a:Int} (h:inI a):(zcy a:Int)=if a<0 then a+18446744073709551616 else a:=by
 unfold inI at h;unfold zcy;split <;> omega
theorem z9u (a:Int):zcy a<18446744073709551616:=by
 unfold zcy; omega
theorem ybr {n:Nat} (h:n<18446744073709551616):IntKind.i64.wrap n=if n<9223372036854775808 then (n:Int) else n-18446744073709551616:=by
 split
 ·exact w64 (by omega) (by omega)
 ·simp [IntKind.wrap,IntKind.signed,IntKind.bits];omega
theorem qb9 (x y:Nat) (hx:x<18446744073709551616) (hy:y<18446744073709551616):(9223372036854775808<=(x &&& y)↔9223372036854775808<=x/\9223372036854775808<=y)/\(9223372036854775808<=(x ^^^ y)↔¬ (9223372036854775808<=x↔9223372036854775808<=y)):=by
 have h1:(x &&& y) >>> 63=x >>> 63 &&& y >>> 63:=Nat.shiftRight_and_distrib;have h2:(x ^^^ y) >>> 63=x >>> 63 ^^^ y >>> 63:=Nat.shiftRight_xor_distrib;rw [Nat.shiftRight_eq_div_pow,Nat.shiftRight_eq_div_pow,Nat.shiftRight_eq_div_pow] at h1 h2;have hx':x / 2 ^ 63=0\/x / 2 ^ 63=1:=by omega
 have hy':y / 2 ^ 63=0\/y / 2 ^ 63=1:=by omega
 rcases hx' with e1 | e1 <;> rcases hy' with e2 | e2 <;> rw [e1,e2] at h1 h2 <;> simp at h1 h2 <;> omega
theorem ytr {x y:Nat} (hx:x<18446744073709551616):(x &&& y)<18446744073709551616:=Nat.lt_of_le_of_lt Nat.and_le_left hx
theorem qc7 {x y:Nat} (hx:x<18446744073709551616) (hy:y<18446744073709551616):(x ^^^ y)<18446744073709551616:=Nat.xor_lt_two_pow (n:=64) hx hy
theorem qey {a b:Int} (ha:inI a) (hb:inI b):2*IntKind.i64.wrap ((zcy a &&& zcy b:Nat):Int)+IntKind.i64.wrap ((zcy a ^^^ zcy b:Nat):Int)=a+b:=by
 have la:=z9u a;have lb:=z9u b;have ea:=z87 ha;have eb:=z87 hb;obtain ⟨t1,t2⟩:=qb9 _ _ la lb;have hs:=qil (zcy a) (zcy b);rw [ybr (ytr la),ybr (qc7 la lb)];unfold inI at ha hb;generalize zcy a &&& zcy b=p at *;generalize zcy a ^^^ zcy b=q at *;split at ea <;> split at eb <;> split <;> split <;> omega
theorem yrd {a b:Int} (ha:inI a) (hb:inI b):inI (IntKind.i64.wrap ((zcy a &&& zcy b:Nat):Int))/\(IntKind.i64.wrap ((zcy a &&& zcy b:Nat):Int) % 2=1↔a % 2=1/\b % 2=1):=by
 have la:=z9u a;have lb:=z9u b;have ea:=z87 ha;have eb:=z87 hb;have h4:(zcy a &&& zcy b) % 2=1↔zcy a % 2=1/\zcy b % 2=1:=Nat.and_mod_two_eq_one;have hl:=ytr (y:=zcy b) la;rw [ybr hl];unfold inI at *;generalize zcy a &&& zcy b=p at *;split at ea <;> split at eb <;> split <;> omega
def zf9 (a b:Int):Int:=(a+b) / 2
theorem y90 (a b:Int) (ha:inI a) (hb:inI b):RUN T zse [iv a,iv b]=some ([iv (zf9 a b)],[]):=by
 refine zae rfl rfl ?_;have h:=qey ha hb;obtain ⟨h1,_⟩:=yrd ha hb;unfold zcy at h h1;unfold inI at ha hb h1;have hb64:IntKind.i64.bits=64:=rfl;simp [z5a,zyz,hb64];rw [Int.fdiv_eq_ediv_of_nonneg _ (by omega)];unfold zf9;generalize IntKind.i64.wrap (((a % 18446744073709551616).toNat &&& (b % 18446744073709551616).toNat:Nat):Int)=p at *;generalize IntKind.i64.wrap (((a % 18446744073709551616).toNat ^^^ (b % 18446744073709551616).toNat:Nat):Int)=q at *;rw [w64 (by omega) (by omega)];omega
theorem y91 (a b:Int) (ha:inI a) (hb:inI b):RUN T zsa [iv a,iv b]=some ([iv (zf9 a b)],[]):=by
 refine zae rfl rfl ?_;obtain ⟨h1,h2⟩:=yrd ha hb;unfold zcy at h1 h2;unfold inI at ha hb h1;have hb64:IntKind.i64.bits=64:=rfl;simp [z4z,zyz,hb64];rw [Int.fdiv_eq_ediv_of_nonneg _ (by omega),Int.fdiv_eq_ediv_of_nonneg _ (by omega)];unfold zf9;generalize IntKind.i64.wrap (((a % 18446744073709551616).toNat &&& (b % 18446744073709551616).toNat:Nat):Int)=p at *;have h3:max (p % 18446744073709551616) 0 % 2=p % 2:=by omega
 rw [h3,w64 (x:=p % 2) (by omega) (by omega),w64 (x:=a / 2+b / 2) (by omega) (by omega),w64 (by omega) (by omega)];omega
def zfe (s:Int) (b:Bd) (l r:Int):Bd×Bd:=if zha b=true then (if s=1 then (⟨b.lo,zfi (zf9 l r) b.lo b.hi⟩,⟨zfi (zf9 l r) b.lo b.hi,b.hi⟩) else if s = -1 then (⟨zfi (zf9 l r) b.lo b.hi,b.hi⟩,⟨b.lo,zfi (zf9 l r) b.lo b.hi⟩) else (b,b)) else (b,b)
theorem y92 (s:Int) (b:Bd) (l r:Int) (hl:inI l) (hr:inI r):RUN T zrs [iv s,.agg (bnd b),iv l,iv r]=some ([.agg (bnd (zfe s b l r).1),.agg (bnd (zfe s b l r).2)],[]):=by
 have e1:=ymu b;have e2:=y90 l r hl hr;have e3:=ymw (zf9 l r) b.lo b.hi;refine zae rfl rfl ?_;unfold zfe;generalize zha b=q at *;generalize zfi (zf9 l r) b.lo b.hi=m at *;obtain ⟨lo,hi⟩:=b;simp only [bnd] at *;cases q with
 | false=>simp [zt0,ztv,e1]
 | true =>
  by_cases h1:s=1
  ·simp [zt0,ztv,e1,e2,e3,h1]
  ·by_cases h2:s = -1 <;> simp [zt0,ztv,e1,e2,e3,h1,h2]
theorem y93 (s:Int) (b:Bd) (l r:Int) (hl:inI l) (hr:inI r):RUN T zrj [iv s,.agg (bnd b),iv l,iv r]=some ([.agg (bnd (zfe s b l r).1),.agg (bnd (zfe s b l r).2)],[]):=by
 have e1:=ymt b;have e2:=y91 l r hl hr;have e3:=ymv (zf9 l r) b.lo b.hi;refine zae rfl rfl ?_;unfold zfe;generalize zha b=q at *;generalize zfi (zf9 l r) b.lo b.hi=m at *;obtain ⟨lo,hi⟩:=b;simp only [bnd] at *;cases q with
 | false=>simp [ztu,ztv,e1,e2,e3]
 | true =>
  by_cases h1:s=1
  ·simp [ztu,ztv,e1,e2,e3,h1]
  ·by_cases h2:s = -1 <;> simp [ztu,ztv,e1,e2,e3,h1,h2]
theorem y94 (a b:Sl) (ha:slI a) (hb:slI b):RUN T zsm [.agg (slc a),.agg (slc b)]=some ([.agg (slc (zd0 a b).1),bv (zd0 a b).2],[]):=by
 have e1:=ya8 a.n b.n ha.1 hb.1;have e2:=ya8 a.g b.g ha.2 hb.2;unfold zd0;generalize sbi a.n b.n=x at *;generalize sbi a.g b.g=y at *;obtain ⟨x,xb⟩:=x;obtain ⟨y,yb⟩:=y;simp only at e1 e2 ⊢;refine zae rfl rfl ?_;cases xb <;> cases yb <;> simp [z5t,z5u,e1,e2,slc]
theorem yt6 (m:List Sl) (x:Sl):zbf m++[[iv x.n,iv x.g]]=zbf (m++[x]):=by simp [zbf,slc]
theorem yn3 {s x:Sl} {h:List Sl} {i:Nat} (hx:h[i]?=some x):zc2 s (h.drop i)=if (zbh s x).2=true then (zc2 (zbh s x).1 (h.drop (i+1))).map ((zbh s x).1 :: ·) else none:=by
 rw [zc3 hx,zc2]
theorem y95 (h:List Sl) (hl:h.length<=1048576) (hi : ∀ x∈h,slI x):RUN T zsl [.sl 2 (zbf h)]=some ([.own 2 (zbf (zck h).1),bv (zck h).2],[]):=by
 obtain ⟨R,hR⟩ : ∃ R,R=zck h:=⟨_,rfl⟩;have hR':R=match zc2 ⟨0,0⟩ h with
  | some l=>(l,true)
  | none=>([],false):=by rw [hR]; rfl
 rw [<- hR];clear hR;have hr0:zah 16 0=true:=by decide
 have hr1:zah 16 1=true:=by decide
 refine zae rfl rfl ?_;simp [-getElem?_pos,z5r,z5s,hr0];refine zao (fun n st => ∃ (i o e:Nat) (m:List Sl) (s:Sl),i+n=h.length/\m.length=i/\slI s/\zc2 ⟨0,0⟩ h=(zc2 s (h.drop i)).map (m ++ ·)/\st.V 4 = .ref o none e 0 m.length/\st.V 5 = .ptr 1 none 0 0 0/\st.V 12 = .sl 2 (zbf h)/\st.V 13=iv h.length/\st.V 14=iv i/\¬ o=1/\o<st.nx/\1<st.nx/\st.S o=some (.row 2 (zbf m))/\st.S 1=some (.box [iv s.n,iv s.g])) ?_ h.length _ ⟨0,0,0,[],⟨0,0⟩,by omega,rfl,z9g,by simp [zbf]⟩;rintro n st ⟨i,o,ep,m,s,hin,hm,hs,hp,v4,v5,v12,v13,v14,ho1,hox,h1x,hSo,hS1⟩;obtain ⟨x1,x2,x3,x4⟩:=fr hox;obtain ⟨z1,z2,z3,z4⟩:=fr h1x;obtain ⟨a1,a2,a3,a4⟩:=fr (show o<st.nx+1 by omega);obtain ⟨b1,b2,b3,b4⟩:=fr (show o<st.nx+2 by omega);obtain ⟨c1,c2,c3,c4⟩:=fr (show 1<st.nx+1 by omega);obtain ⟨d1,d2,d3,d4⟩:=fr (show 1<st.nx+2 by omega);have ho2 : ¬ 1=o:=fun e=>ho1 e.symm;have hn0 : ¬ st.nx=0:=by omega
 have hn1 : ¬ 1=st.nx+1:=by omega
 by_cases hlt:i<h.length
 ·obtain ⟨x,hx⟩ : ∃ x,h[i]?=some x:=⟨_,bG hlt⟩;have hx':=zml hx;have hws:=wS hlt (by omega:h.length<=9223372036854775807);have hr16:zah 16 (m.length+1)=true:=by simp [zah]; omega
  have e1:=ybh s x hs (hi x (bF hx));have hpi:=zmo (b:=x) hs;rw [yn3 hx] at hp;generalize zbh s x=p at *;obtain ⟨⟨pn,pg⟩,pb⟩:=p;simp only [slc] at e1 hp hpi;cases pb with
  | false =>
   rw [if_neg (by simp)] at hp;rw [hp] at hR';subst hR';simp [-getElem?_pos,z5q,v4,v5,v12,v13,v14,hlt,hx',hSo,hS1,e1,ho1,ho2,hn0,x1,x2,x3,x4,z1,z2,z3,z4,a1,a2,a3,a4,b1,b2,b3,b4,c1,c2,c3,c4,d1,d2,d3,d4];simp [zbf]
  | true =>
   rw [if_pos rfl] at hp;have hsn:=yt6 m ⟨pn,pg⟩;simp only at hsn;simp [-getElem?_pos,z5q,v4,v5,v12,v13,v14,hlt,hx',hSo,hS1,hr1,hr16,hws,hsn,e1,ho1,ho2,hn0,x1,x2,x3,x4,z1,z2,z3,z4,a1,a2,a3,a4,b1,b2,b3,b4,c1,c2,c3,c4,d1,d2,d3,d4];exact zai (n-1) (by omega) ⟨i+1,st.nx+1+2,st.ep,m++[⟨pn,pg⟩],⟨pn,pg⟩,by omega,by simp [hm],hpi,by rw [hp]; cases zc2 ⟨pn,pg⟩ (h.drop (i+1)) <;> simp,by simp,by simp [v5],by simp [v12],by simp [v13],by simp,by omega,by simp,by simp <;> omega,by simp [hn0]⟩
 ·rw [List.drop_eq_nil_of_le (by omega),zc2] at hp;simp only [Option.map_some,List.append_nil] at hp;rw [hp] at hR';subst hR';simp [-getElem?_pos,z5q,v4,v13,v14,hlt,hSo]
theorem y96 (h:List Sl) (hl:h.length<=1048576) (hi : ∀ x∈h,slI x):RUN T zsp [.sl 2 (zbf h)]=some ([.own 2 (zbf (zck h).1),bv (zck h).2],[]):=by
 obtain ⟨R,hR⟩ : ∃ R,R=zck h:=⟨_,rfl⟩;have hR':R=match zc2 ⟨0,0⟩ h with
  | some l=>(l,true)
  | none=>([],false):=by rw [hR]; rfl
 rw [<- hR];clear hR;have hr0:zah 16 0=true:=by decide
 have hr1:zah 16 1=true:=by decide
 refine zae rfl rfl ?_;simp [-getElem?_pos,z54,z5s,hr0];refine zao (fun n st => ∃ (i o e:Nat) (m:List Sl) (s:Sl),i+n=h.length/\m.length=i/\slI s/\zc2 ⟨0,0⟩ h=(zc2 s (h.drop i)).map (m ++ ·)/\st.V 0 = .sl 2 (zbf h)/\st.V 4 = .ref o none e 0 m.length/\st.V 5 = .ptr 1 none 0 0 0/\st.V 6=iv i/\¬ o=1/\o<st.nx/\1<st.nx/\st.S o=some (.row 2 (zbf m))/\st.S 1=some (.box [iv s.n,iv s.g])) ?_ h.length _ ⟨0,0,0,[],⟨0,0⟩,by omega,rfl,z9g,by simp [zbf]⟩;rintro n st ⟨i,o,ep,m,s,hin,hm,hs,hp,v0,v4,v5,v6,ho1,hox,h1x,hSo,hS1⟩;obtain ⟨x1,x2,x3,x4⟩:=fr hox;obtain ⟨z1,z2,z3,z4⟩:=fr h1x;obtain ⟨a1,a2,a3,a4⟩:=fr (show o<st.nx+1 by omega);obtain ⟨c1,c2,c3,c4⟩:=fr (show 1<st.nx+1 by omega);have ho2 : ¬ 1=o:=fun e=>ho1 e.symm;have hn0 : ¬ st.nx=0:=by omega
 have hn1 : ¬ 1=st.nx+1:=by omega
 by_cases hlt:i<h.length
 ·obtain ⟨x,hx⟩ : ∃ x,h[i]?=some x:=⟨_,bG hlt⟩;have hx':=zml hx;have hws:=wS hlt (by omega:h.length<=9223372036854775807);have hr16:zah 16 (m.length+1)=true:=by simp [zah]; omega
  have e1:=ybi s x hs (hi x (bF hx));have hpi:=zmo (b:=x) hs;rw [yn3 hx] at hp;generalize zbh s x=p at *;obtain ⟨⟨pn,pg⟩,pb⟩:=p;simp only [slc] at e1 hp hpi;cases pb with
  | false =>
   rw [if_neg (by simp)] at hp;rw [hp] at hR';subst hR';simp [-getElem?_pos,z52,v0,v4,v5,v6,hlt,hx',hSo,hS1,hr0,e1,ho1,ho2,hn0,x1,x2,x3,x4,z1,z2,z3,z4,a1,a2,a3,a4,c1,c2,c3,c4];simp [zbf]
  | true =>
   rw [if_pos rfl] at hp;have hsn:=yt6 m ⟨pn,pg⟩;simp only at hsn;simp [-getElem?_pos,z52,v0,v4,v5,v6,hlt,hx',hSo,hS1,hr1,hr16,hws,hsn,e1,ho1,ho2,hn0,x1,x2,x3,x4,z1,z2,z3,z4,a1,a2,a3,a4,c1,c2,c3,c4];exact zai (n-1) (by omega) ⟨i+1,st.nx+2,st.ep,m++[⟨pn,pg⟩],⟨pn,pg⟩,by omega,by simp [hm],hpi,by rw [hp]; cases zc2 ⟨pn,pg⟩ (h.drop (i+1)) <;> simp,by simp [v0],by simp,by simp [v5],by simp,by omega,by simp,by simp <;> omega,by simp [hn0,ho1,ho2]⟩
 ·rw [List.drop_eq_nil_of_le (by omega),zc2] at hp;simp only [Option.map_some,List.append_nil] at hp;rw [hp] at hR';subst hR';simp [-getElem?_pos,z52,v0,v4,v6,hlt,hSo]
theorem yno (m:List Cnd) (x:Cnd):zcb m++[[iv x.f,iv x.b,iv x.a.n,iv x.a.g,iv x.z.n,iv x.z.g]]=zcb (m++[x]):=by simp [zcb,cnd]
theorem y97 (q:Bool) (H:List (List Sl)) (least:Int) (hH:H.length<=16) (hl : ∀ l∈H,l.length<=16) (hi : ∀ l∈H,∀ x∈l,slI x):RUN T zr9 [.sl 1 (rss q H),iv least]=some ([.own 6 (zcb (zep H least))],[]):=by
 obtain ⟨R,hR⟩ : ∃ R,R=zep H least:=⟨_,rfl⟩;have hR':R=(zd2 least 0 H []).getD []:=hR;rw [<- hR];clear hR;have hr0:zah 48 0=true:=by decide
 have hr1:zah 48 1=true:=by decide
 refine zae rfl rfl ?_;simp [-getElem?_pos,z4t,z4u,hr0];refine zao (fun n st => ∃ (i o e:Nat) (acc:List Cnd),i+n=H.length/\acc.length<=16*i/\zd2 least i (H.drop i) acc=zd2 least 0 H []/\st.V 1=iv least/\st.V 5 = .ref o none e 0 acc.length/\st.V 14 = .sl 1 (rss q H)/\st.V 15=iv H.length/\st.V 16=iv i/\o<st.nx/\st.S o=some (.row 6 (zcb acc))) ?_ H.length _ ⟨0,0,0,[],by omega,by simp [zcb]⟩;rintro n st ⟨i,o,ep,acc,hin,hacc,hF,v1,v5,v14,v15,v16,hox,hSo⟩;obtain ⟨x1,x2,x3,x4⟩:=fr hox
 by_cases hlt:i<H.length
 ·obtain ⟨l,hx⟩ : ∃ x,H[i]?=some x:=⟨_,bG hlt⟩;have hx':=yr0 (q:=q) hx;have hlm:=bF hx;have hws:=wS hlt (by omega:H.length<=9223372036854775807);have hll:=hl l hlm;have e1:=y95 l (by omega) (hi l hlm);obtain ⟨p1,p2,p3⟩:=ycq l;rw [z9s acc hx] at hF;generalize zck l=p at *;obtain ⟨sums,pb⟩:=p;simp only at e1 p1 p2 p3 hF;cases pb with
  | false =>
   rw [if_neg (by simp)] at hF;rw [<- hF] at hR';subst hR';simp [-getElem?_pos,z4s,v1,v5,v14,v15,v16,hlt,hx',hSo,e1,x1,x2,x3,x4];simp [zcb]
  | true =>
   rw [if_pos rfl] at hF;have p3:=p3 rfl;simp [-getElem?_pos,z4s,v1,v5,v14,v15,v16,hlt,hx',hSo,e1,x1,x2,x3,x4];obtain ⟨tgt,htgt⟩ : ∃ t,t=zfj i (zgz sums) least 0 sums acc:=⟨_,rfl⟩;rw [<- htgt] at hF;obtain ⟨p,hpe⟩ : ∃ p,p=st.nx:=⟨_,rfl⟩;refine zao (fun n' s => ∃ (b o' e':Nat) (acc':List Cnd),b+n'=sums.length/\acc'.length<=16*i+b/\zfj i (zgz sums) least b (sums.drop b) acc'=tgt/\s.V 1=iv least/\s.V 5 = .ref o' none e' 0 acc'.length/\s.V 6=iv i/\s.V 8 = .ref p none st.ep 0 sums.length/\s.V 10=iv b/\s.V 14 = .sl 1 (rss q H)/\s.V 15=iv H.length/\s.V 16=iv i/\¬ o'=p/\o'<s.nx/\p<s.nx/\s.S o'=some (.row 6 (zcb acc'))/\s.S p=some (.row 2 (zbf sums))) ?_ sums.length _ ⟨0,o,ep,acc,by omega,by omega,by rw [htgt]; simp,by simp [v1],by simp [v5],by simp,by simp [hpe],by simp,by simp [v14],by simp [v15],by simp [v16],by omega,by simp; omega,by simp; omega,by simp [x1,x2,x3,x4,hSo,hpe]⟩;clear v1 v5 v14 v15 v16 hox hSo x1 x2 x3 x4;generalize st.ep=ep2;rintro n' s ⟨b,o',e',acc',hbn,hacc',hB,v1,v5,v6,v8,v10,v14,v15,v16,hop,hox,hpx,hSo,hSp⟩;obtain ⟨x1,x2,x3,x4⟩:=fr hox;obtain ⟨z1,z2,z3,z4⟩:=fr hpx;obtain ⟨a1,a2,a3,a4⟩:=fr (show o'<s.nx+1 by omega);obtain ⟨c1,c2,c3,c4⟩:=fr (show p<s.nx+1 by omega);have hpo : ¬ p=o':=fun e=>hop e.symm
   by_cases hb:b+1<sums.length
   ·obtain ⟨x,hx⟩ : ∃ x,sums[b]?=some x:=⟨_,bG (by omega)⟩;obtain ⟨y,hy⟩ : ∃ x,sums[sums.length-1]?=some x:=⟨_,bG (by omega)⟩;have hxs:=zml hx;have hys:=zml hy;have hly:=ytu hy;have w1:IntKind.i64.wrap ((sums.length:Int)-1)=((sums.length-1:Nat):Int):=by rw [w64 (by omega) (by omega)]; omega
    have w2:=w64 (x:=(b:Int)+1) (by omega) (by omega);have k1:b<sums.length-1:=by omega
    have k2:b<sums.length:=by omega
    have k3:sums.length-1<sums.length:=by omega
    have hr48:zah 48 (acc'.length+1)=true:=by simp [zah]; omega
    have e2:=y94 y x (p2 y (bF hy)) (p2 x (bF hx));rw [z9y acc' hx hb,hly] at hB;generalize zd0 y x=d at *;obtain ⟨⟨dn,dg⟩,db⟩:=d;simp only [slc] at e2 hB;cases db with
    | false =>
     rw [if_neg (by simp)] at hB;rw [<- hB] at hF;simp only at hF;rw [<- hF] at hR';simp only [Option.getD_none] at hR';subst hR';simp [-getElem?_pos,zt2,v1,v5,v6,v8,v10,v14,v15,v16,hSo,hSp,hxs,hys,w1,k1,k2,k3,e2,hop,hpo,x1,x2,x3,x4,z1,z2,z3,z4];simp [zcb]
    | true =>
     rw [if_pos rfl] at hB
     by_cases g1:least<=x.n
     ·by_cases g2:least<=dn
      ·rw [if_pos ⟨g1,g2⟩] at hB;have hsn:=yno acc' ⟨i,b,x,⟨dn,dg⟩⟩;simp only at hsn;simp [-getElem?_pos,zt2,v1,v5,v6,v8,v10,v14,v15,v16,hSo,hSp,hxs,hys,w1,w2,k1,k2,k3,e2,g1,g2,hr1,hr48,hsn,hop,hpo,x1,x2,x3,x4,z1,z2,z3,z4,a1,a2,a3,a4,c1,c2,c3,c4];refine zai (n'-1) (by omega) ⟨b+1,s.nx+2,s.ep,acc'++[⟨i,b,x,⟨dn,dg⟩⟩],by omega,by simp; omega,by rw [hly]; exact hB,by simp [v1],by simp,by simp [v6],by simp [v8],by simp,by simp [v14],by simp [v15],by simp [v16],by omega,by simp,by simp; omega,by simp [hop,hpo,x1,x2,x3,x4,z1,z2,z3,z4,hSp]⟩
      ·rw [if_neg (fun h=>g2 h.2)] at hB;simp [-getElem?_pos,zt2,v1,v5,v6,v8,v10,v14,v15,v16,hSo,hSp,hxs,hys,w1,w2,k1,k2,k3,e2,g1,g2,hop,hpo,x1,x2,x3,x4,z1,z2,z3,z4];refine zai (n'-1) (by omega) ⟨b+1,o',e',acc',by omega,by omega,by rw [hly]; exact hB,by simp [v1],by simp [v5],by simp [v6],by simp [v8],by simp,by simp [v14],by simp [v15],by simp [v16],hop,by simp; omega,by simp; omega,by simp [x1,x2,x3,x4,hSo,z1,z2,z3,z4,hSp]⟩
     ·rw [if_neg (fun h=>g1 h.1)] at hB;simp [-getElem?_pos,zt2,v1,v5,v6,v8,v10,v14,v15,v16,hSo,hSp,hxs,hys,w1,w2,k1,k2,k3,e2,g1,hop,hpo,x1,x2,x3,x4,z1,z2,z3,z4];refine zai (n'-1) (by omega) ⟨b+1,o',e',acc',by omega,by omega,by rw [hly]; exact hB,by simp [v1],by simp [v5],by simp [v6],by simp [v8],by simp,by simp [v14],by simp [v15],by simp [v16],hop,by simp; omega,by simp; omega,by simp [x1,x2,x3,x4,hSo,z1,z2,z3,z4,hSp]⟩
   ·rw [zu3 acc' hb] at hB;rw [<- hB] at hF;simp only at hF;have w1:IntKind.i64.wrap ((sums.length:Int)-1)=(sums.length:Int)-1:=w64 (by omega) (by omega);have k1 : ¬ (b:Int)<(sums.length:Int)-1:=by omega
    simp [-getElem?_pos,zt2,v8,v10,v16,hSp,w1,k1,hws];exact zai (n-1) (by omega) ⟨i+1,o',e',acc',by omega,by omega,hF,by simp [v1,v5,v14,v15,hox,hSo]⟩
 ·rw [List.drop_eq_nil_of_le (by omega),zd2] at hF;rw [<- hF] at hR';simp only [Option.getD_some] at hR';subst hR';simp [-getElem?_pos,z4s,v5,v15,v16,hlt,hSo]
theorem y98 (q:Bool) (H:List (List Sl)) (least:Int) (hH:H.length<=16) (hl : ∀ l∈H,l.length<=16) (hi : ∀ l∈H,∀ x∈l,slI x):RUN T zsd [.sl 1 (rss q H),iv least]=some ([.own 6 (zcb (zep H least))],[]):=by
 obtain ⟨R,hR⟩ : ∃ R,R=zep H least:=⟨_,rfl⟩;have hR':R=(zd2 least 0 H []).getD []:=hR;rw [<- hR];clear hR;have hr0:zah 48 0=true:=by decide
 have hr1:zah 48 1=true:=by decide
 refine zae rfl rfl ?_;simp [-getElem?_pos,z45,z4u,hr0];refine zao (fun n st => ∃ (i o e:Nat) (acc:List Cnd),i+n=H.length/\acc.length<=16*i/\zd2 least i (H.drop i) acc=zd2 least 0 H []/\st.V 1=iv least/\st.V 5 = .ref o none e 0 acc.length/\st.V 0 = .sl 1 (rss q H)/\st.V 6=iv i/\o<st.nx/\st.S o=some (.row 6 (zcb acc))) ?_ H.length _ ⟨0,0,0,[],by omega,by simp [zcb]⟩;rintro n st ⟨i,o,ep,acc,hin,hacc,hF,v1,v5,v0,v6,hox,hSo⟩;obtain ⟨x1,x2,x3,x4⟩:=fr hox
 by_cases hlt:i<H.length
 ·obtain ⟨l,hx⟩ : ∃ x,H[i]?=some x:=⟨_,bG hlt⟩;have hx':=yr0 (q:=q) hx;have hlm:=bF hx;have hws:=wS hlt (by omega:H.length<=9223372036854775807);have hll:=hl l hlm;have e1:=y96 l (by omega) (hi l hlm);obtain ⟨p1,p2,p3⟩:=ycq l;rw [z9s acc hx] at hF;generalize zck l=p at *;obtain ⟨sums,pb⟩:=p;simp only at e1 p1 p2 p3 hF;cases pb with
  | false =>
   rw [if_neg (by simp)] at hF;rw [<- hF] at hR';subst hR';simp [-getElem?_pos,z44,v0,v1,v5,v6,hlt,hx',hSo,e1,hr0,x1,x2,x3,x4];simp [zcb]
  | true =>
   rw [if_pos rfl] at hF;have p3:=p3 rfl;simp [-getElem?_pos,z44,v0,v1,v5,v6,hlt,hx',hSo,e1,hr0,x1,x2,x3,x4];obtain ⟨tgt,htgt⟩ : ∃ t,t=zfj i (zgz sums) least 0 sums acc:=⟨_,rfl⟩;rw [<- htgt] at hF;obtain ⟨p,hpe⟩ : ∃ p,p=st.nx:=⟨_,rfl⟩;refine zao (fun n' s => ∃ (b o' e':Nat) (acc':List Cnd),b+n'=sums.length/\acc'.length<=16*i+b/\zfj i (zgz sums) least b (sums.drop b) acc'=tgt/\s.V 0 = .sl 1 (rss q H)/\s.V 1=iv least/\s.V 5 = .ref o' none e' 0 acc'.length/\s.V 6=iv i/\s.V 7 = .ref p none st.ep 0 sums.length/\s.V 9=iv b/\¬ o'=p/\o'<s.nx/\p<s.nx/\s.S o'=some (.row 6 (zcb acc'))/\s.S p=some (.row 2 (zbf sums))) ?_ sums.length _ ⟨0,o,ep,acc,by omega,by omega,by rw [htgt]; simp,by simp [v0],by simp [v1],by simp [v5],by simp [v6],by simp [hpe],by simp,by omega,by simp; omega,by simp; omega,by simp [x1,x2,x3,x4,hSo,hpe]⟩;clear v0 v1 v5 v6 hox hSo x1 x2 x3 x4;generalize st.ep=ep2;rintro n' s ⟨b,o',e',acc',hbn,hacc',hB,v0,v1,v5,v6,v7,v9,hop,hox,hpx,hSo,hSp⟩;obtain ⟨x1,x2,x3,x4⟩:=fr hox;obtain ⟨z1,z2,z3,z4⟩:=fr hpx;obtain ⟨a1,a2,a3,a4⟩:=fr (show o'<s.nx+1 by omega);obtain ⟨c1,c2,c3,c4⟩:=fr (show p<s.nx+1 by omega);have hpo : ¬ p=o':=fun e=>hop e.symm;have Z0:=bI hop <| bI hpo <| bI x1 <| bI x2 <| bI x3 <| bI x4 <| bI z1 <| bI z2 <| bI z3 z4
   by_cases hb:b+1<sums.length
   ·obtain ⟨x,hx⟩ : ∃ x,sums[b]?=some x:=⟨_,bG (by omega)⟩;obtain ⟨y,hy⟩ : ∃ x,sums[sums.length-1]?=some x:=⟨_,bG (by omega)⟩;have hxs:=zml hx;have hys:=zml hy;have hly:=ytu hy;have w1:IntKind.i64.wrap ((sums.length:Int)-1)=((sums.length-1:Nat):Int):=by rw [w64 (by omega) (by omega)]; omega
    have w2:=w64 (x:=(b:Int)+1) (by omega) (by omega);have k1:(b:Int)+1<(sums.length:Int):=by omega
    have k2:b<sums.length:=by omega
    have k3:sums.length-1<sums.length:=by omega
    have hr48:zah 48 (acc'.length+1)=true:=by simp [zah]; omega
    have e2:=ya9 y.n x.n (p2 y (bF hy)).1 (p2 x (bF hx)).1;have e3:=ya9 y.g x.g (p2 y (bF hy)).2 (p2 x (bF hx)).2;rw [z9y acc' hx hb,hly] at hB;unfold zd0 at hB;generalize sbi y.n x.n=d at *;generalize sbi y.g x.g=d' at *;obtain ⟨dn,db⟩:=d;obtain ⟨dg,db'⟩:=d';simp only at e2 e3 hB;obtain ⟨dd,hdd⟩ : ∃ dd,dd=(db && db'):=⟨_,rfl⟩;rw [<- hdd] at hB;cases dd with
    | false =>
     simp only [Bool.false_eq_true,if_false] at hB;rw [<- hB] at hF;simp only at hF;rw [<- hF] at hR';simp only [Option.getD_none] at hR';subst hR';cases db with
     | false =>
      simp [-getElem?_pos,zoi,v0,v1,v5,v6,v7,v9,hSo,hSp,hxs,hys,w1,w2,k1,k2,k3,e2,e3,hr0,Z0,a1,a2,a3,a4,c1,c2,c3,c4];simp [zcb]
     | true =>
      have hd2:db'=false:=by simpa using hdd.symm
      subst hd2;simp [-getElem?_pos,zoi,v0,v1,v5,v6,v7,v9,hSo,hSp,hxs,hys,w1,w2,k1,k2,k3,e2,e3,hr0,Z0,a1,a2,a3,a4,c1,c2,c3,c4];simp [zcb]
    | true =>
     obtain ⟨hd1,hd2⟩:db=true/\db'=true:=by simpa using hdd.symm
     subst hd1 hd2;simp only [if_true] at hB
     by_cases g1:least<=x.n
     ·by_cases g2:least<=dn
      ·rw [if_pos ⟨g1,g2⟩] at hB;have hsn:=yno acc' ⟨i,b,x,⟨dn,dg⟩⟩;simp only at hsn;simp [-getElem?_pos,zoi,v0,v1,v5,v6,v7,v9,hSo,hSp,hxs,hys,w1,w2,k1,k2,k3,e2,e3,hr0,Z0,a1,a2,a3,a4,c1,c2,c3,c4,g1,g2,hr1,hr48,hsn];refine zai (n'-1) (by omega) ⟨b+1,s.nx+2,s.ep,acc'++[⟨i,b,x,⟨dn,dg⟩⟩],by omega,by simp; omega,by rw [hly]; exact hB,by simp [v0],by simp [v1],by simp,by simp [v6],by simp [v7],by simp,by omega,by simp,by simp; omega,by simp [Z0,hSp]⟩
      ·rw [if_neg (fun h=>g2 h.2)] at hB;simp [-getElem?_pos,zoi,v0,v1,v5,v6,v7,v9,hSo,hSp,hxs,hys,w1,w2,k1,k2,k3,e2,e3,hr0,Z0,a1,a2,a3,a4,c1,c2,c3,c4,g1,g2];refine zai (n'-1) (by omega) ⟨b+1,o',e',acc',by omega,by omega,by rw [hly]; exact hB,by simp [v0],by simp [v1],by simp [v5],by simp [v6],by simp [v7],by simp,hop,by simp; omega,by simp; omega,by simp [x1,x2,x3,x4,hSo,z1,z2,z3,z4,hSp]⟩
     ·rw [if_neg (fun h=>g1 h.1)] at hB;simp [-getElem?_pos,zoi,v0,v1,v5,v6,v7,v9,hSo,hSp,hxs,hys,w1,w2,k1,k2,k3,e2,e3,hr0,Z0,a1,a2,a3,a4,c1,c2,c3,c4,g1];refine zai (n'-1) (by omega) ⟨b+1,o',e',acc',by omega,by omega,by rw [hly]; exact hB,by simp [v0],by simp [v1],by simp [v5],by simp [v6],by simp [v7],by simp,hop,by simp; omega,by simp; omega,by simp [x1,x2,x3,x4,hSo,z1,z2,z3,z4,hSp]⟩
   ·rw [zu3 acc' hb] at hB;rw [<- hB] at hF;simp only at hF;have w1:IntKind.i64.wrap ((sums.length:Int)-1)=(sums.length:Int)-1:=w64 (by omega) (by omega);have w2:=w64 (x:=(b:Int)+1) (by omega) (by omega);have k1 : ¬ (b:Int)+1<(sums.length:Int):=by omega
    simp [-getElem?_pos,zoi,v6,v7,v9,hSp,w2,k1,hws];exact zai (n-1) (by omega) ⟨i+1,o',e',acc',by omega,by omega,hF,by simp [v1,v5,v0,hox,hSo]⟩
 ·rw [List.drop_eq_nil_of_le (by omega),zd2] at hF;rw [<- hF] at hR';simp only [Option.getD_some] at hR';subst hR';simp [-getElem?_pos,z44,v0,v5,v6,hlt,hSo]
def zbe (c v:List (List Int)) (g:List Int) (cfg:Cfg) (rows:List Int) (b:Bd):Cnd×Bool:=if zge c v g cfg=true then (if (zbt c v g rows).2=true then ze0 cfg b (zep (zbt c v g rows).1 cfg.rw) else (zko,false)) else (zko,false)
theorem yva {b g:List Int} : ∀ (rows:List Int) (h h':List Sl),(∀ x∈h,slI x)->zcf b g rows h=some h'->∀ x∈h',slI x
 | [],h,h',hh,e=>by simp [zcf] at e; subst e; exact hh
 | r::rs,h,h',hh,e=>by
  simp only [zcf] at e;split at e
  ·split at e
   ·rename_i s hs;split at e
    ·refine yva rs _ _ (fun x hx => ?_) e;rcases List.mem_or_eq_of_mem_set hx with h1 | h1
     ·exact hh x h1
     ·subst h1;obtain ⟨_,_,h3,_⟩:=zgf hs;exact zmo (hh _ (bF h3))
    ·cases e
   ·cases e
  ·cases e
theorem qhb (b g rows:List Int) (k:Int) : ∀ x∈(zce b g rows k).1,slI x:=by
 unfold zce;split
 ·cases h:zcf b g rows (List.replicate k.toNat ⟨0,0⟩) with
  | none=>simp
  | some h'=>exact yva _ _ _ (fun x hx=>by rw [List.eq_of_mem_replicate hx]; exact z9g) h
 ·simp
theorem ysk {g rows:List Int} : ∀ (c v:List (List Int)) (H:List (List Sl)),zbw g rows c v=some H->∀ l∈H,∀ x∈l,slI x
 | [],v,H,h=>by simp [zbw] at h; subst h; simp
 | x::c,[],H,h=>by simp [zbw] at h; subst h; simp
 | x::c,y::v,H,h=>by
  simp only [zbw] at h;split at h
  ·simp only [bB] at h;obtain ⟨H',h1,rfl⟩:=h;intro l hl;rcases List.mem_cons.mp hl with e | e
   ·subst e; exact qhb _ _ _ _
   ·exact ysk c v H' h1 l e
  ·cases h
theorem yro (c v:List (List Int)) (g rows:List Int) : ∀ l∈(zbt c v g rows).1,∀ x∈l,slI x:=by
 unfold zbt;split
 ·cases h:zbw g rows c v with
  | none=>simp
  | some H=>exact ysk c v H h
 ·simp
theorem z8i (c v:List (List Int)) (g rows:List Int):(zbt c v g rows).1.length<=4:=by
 by_cases h:zds c v=true
 ·have:=(zuj c v g rows).1;have:=ycd h;omega
 ·unfold zbt;rw [if_neg h]; simp
theorem yqk (c v:List (List Int)) (g rows:List Int) (least:Int):(zep (zbt c v g rows).1 least).length<=1048576/\∀ x∈zep (zbt c v g rows).1 least,zeu x:=by
 have h1:=z8i c v g rows;have h2:=(zuj c v g rows).2;obtain ⟨h3,h4⟩:=yrf (least:=least) h2;exact ⟨by omega,fun x hx=>ynk (by omega) (fun l hl=>Nat.le_trans (h2 l hl) (by omega)) (h4 x hx)⟩
theorem y99 (q:Bool) (c v:List (List Int)) (g:List Int) (cfg:Cfg) (rows:List Int) (b:Bd) (hc : ∀ l∈c,l.length<=1048576) (hv : ∀ l∈v,l.length<=1048576) (hg:g.length<=1048576) (hr:rows.length<=1048576) (hs:cfg.sg.length<=1048576) (hgi : ∀ x∈g,inI x):RUN T zrh [.agg [.sl 1 (rws q c),.sl 1 (rws q v)],.sl 1 (zab g),cfS cfg,.sl 1 (zab rows),.agg (bnd b)]=some ([.agg (cnd (zbe c v g cfg rows b).1),bv (zbe c v g cfg rows b).2],[]):=by
 have e1:=yl9 q c v g cfg (fun l hl=>Nat.le_trans (hc l hl) (by omega)) (fun l hl=>Nat.le_trans (hv l hl) (by omega)) (by omega) (by omega);have e2:=y9e q c v g rows hc hv hg hr hgi;obtain ⟨f1,f2⟩:=yqk c v g rows cfg.rw;have e3:=y97 true (zbt c v g rows).1 cfg.rw (by have:=z8i c v g rows; omega) (fun l hl=>by have:=(zuj c v g rows).2 l hl; omega) (yro c v g rows);have e4:=y9z cfg b (zep (zbt c v g rows).1 cfg.rw) f1 hs f2;unfold zbe;simp only [zb6,bnd] at e1 e4;generalize zge c v g cfg=t at *;generalize zbt c v g rows=H at *;obtain ⟨H,hb⟩:=H;simp only at e2 e3 e4 ⊢;generalize ze0 cfg b (zep H cfg.rw)=r at *;generalize zep H cfg.rw=L at *;obtain ⟨r,rb⟩:=r;simp only [cnd] at e4 ⊢;refine zae rfl rfl ?_;cases t with
 | false=>simp [-getElem?_pos,zts,ztt,bnd,e1,zko]
 | true =>
  cases hb with
  | false=>simp [-getElem?_pos,zts,ztt,bnd,e1,e2,zko]
  | true =>
   simp [-getElem?_pos,zts,ztt,bnd,e1,e2,e3,e4]
theorem qaa (q:Bool) (c v:List (List Int)) (g:List Int) (cfg:Cfg) (rows:List Int) (b:Bd) (hc : ∀ l∈c,l.length<=1048576) (hv : ∀ l∈v,l.length<=1048576) (hg:g.length<=1048576) (hr:rows.length<=1048576) (hs:cfg.sg.length<=1048576) (hgi : ∀ x∈g,inI x):RUN T zrp [.agg [.sl 1 (rws q c),.sl 1 (rws q v)],.sl 1 (zab g),cfS cfg,.sl 1 (zab rows),.agg (bnd b)]=some ([.agg (cnd (zbe c v g cfg rows b).1),bv (zbe c v g cfg rows b).2],[]):=by
 have e1:=yma q c v g cfg (fun l hl=>Nat.le_trans (hc l hl) (by omega)) (fun l hl=>Nat.le_trans (hv l hl) (by omega)) (by omega) (by omega);have e2:=y9f q c v g rows hc hv hg hr hgi;obtain ⟨f1,f2⟩:=yqk c v g rows cfg.rw;have e3:=y98 true (zbt c v g rows).1 cfg.rw (by have:=z8i c v g rows; omega) (fun l hl=>by have:=(zuj c v g rows).2 l hl; omega) (yro c v g rows);have e4:=y9y cfg b (zep (zbt c v g rows).1 cfg.rw) f1 hs f2;unfold zbe;simp only [zb6,bnd] at e1 e4;generalize zge c v g cfg=t at *;generalize zbt c v g rows=H at *;obtain ⟨H,hb⟩:=H;simp only at e2 e3 e4 ⊢;generalize ze0 cfg b (zep H cfg.rw)=r at *;generalize zep H cfg.rw=L at *;obtain ⟨r,rb⟩:=r;simp only [cnd] at e4 ⊢;refine zae rfl rfl ?_;cases t with
 | false=>simp [-getElem?_pos,ztw,ztt,bnd,e1,zko]
 | true =>
  cases hb with
  | false=>simp [-getElem?_pos,ztw,ztt,bnd,e1,e2,zko]
  | true =>
   simp [-getElem?_pos,ztw,ztt,bnd,e1,e2,e3,e4]
def zek (g:List Int) (rows:List Int):Sl:=⟨rows.length,(rows.map fun r=>(atI g r).getD 0).sum⟩
def zig (bins:List Int) (b r:Int):Bool:=match atI bins r with
 | some x=>decide (x<=b)
 | none=>false
def zpe (bins:List Int) (b r:Int):Bool:=match atI bins r with
 | some x => !decide (x<=b)
 | none=>false
def zcl (bins rows:List Int) (b:Int):List Int:=rows.filter (zig bins b)
def zd7 (bins rows:List Int) (b:Int):List Int:=rows.filter (zpe bins b)
structure Pnd where
 r:List Int
 b:Bd
 l:Int
def zi5 (c v:List (List Int)) (cfg:Cfg) (x:Pnd) (k:Cnd):Pnd:=⟨zcl ((atI v k.f).getD []) x.r k.b,(zfe (zd6 cfg k.f) x.b (zbr cfg x.b k).1 (zbr cfg x.b k).2.1).1,x.l+1⟩
def zis (c v:List (List Int)) (cfg:Cfg) (x:Pnd) (k:Cnd):Pnd:=⟨zd7 ((atI v k.f).getD []) x.r k.b,(zfe (zd6 cfg k.f) x.b (zbr cfg x.b k).1 (zbr cfg x.b k).2.1).2,x.l+1⟩
def zdb (g:List Int) (cfg:Cfg) (x:Pnd):Nd:=⟨-1,0,0,0,(zd4 (zek g x.r) cfg.la x.b).1⟩
def zmj (c:List (List Int)) (k:Cnd) (n:Nat):Nd:=⟨k.f,(atI ((atI c k.f).getD []) k.b).getD 0,n,n+1,0⟩
def goes (c v:List (List Int)) (g:List Int) (cfg:Cfg) (x:Pnd):Bool:=decide (x.l<cfg.de) && (zbe c v g cfg x.r x.b).2
def zdu (c v:List (List Int)) (g:List Int) (cfg:Cfg):Nat->List Pnd->Nat->List Nd->List Nd
 | 0,_,_,out=>out
 | n+1,q,i,out=>match q[i]? with
  | none=>out
  | some x=>if goes c v g cfg x=true then zdu c v g cfg n (q++[zi5 c v cfg x (zbe c v g cfg x.r x.b).1,zis c v cfg x (zbe c v g cfg x.r x.b).1]) (i+1) (out++[zmj c (zbe c v g cfg x.r x.b).1 q.length]) else zdu c v g cfg n q (i+1) (out++[zdb g cfg x])
def zkm:Bd:=⟨-1099511627776,1099511627776⟩
def zei (g:List Int):Pnd:=⟨(List.range g.length).map fun (i:Nat)=>(i:Int),zkm,0⟩
def zco (c v:List (List Int)) (g:List Int) (cfg:Cfg):List Nd×Bool:=if zge c v g cfg=true then (zdu c v g cfg 32 [zei g] 0 [],true) else ([],false)
def pot (d:Int) (x:Pnd):Nat:=2 ^ (d+1-x.l).toNat-1
def zi9 (d:Int) (l:List Pnd):Nat:=(l.map (pot d)).sum
theorem z88 (d:Int) (x:Pnd) (l:List Pnd):zi9 d (x::l)=pot d x+zi9 d l:=by simp [zi9]
theorem qfz (d:Int) (l m:List Pnd):zi9 d (l++m)=zi9 d l+zi9 d m:=by simp [zi9]
theorem qb7 {d:Int} {x:Pnd} (h:x.l<=d):1<=pot d x:=by
 unfold pot;obtain ⟨k,hk⟩ : ∃ k,(d+1-x.l).toNat=k+1:=⟨(d-x.l).toNat,by omega⟩;rw [hk,Nat.pow_succ];have:=Nat.one_le_two_pow (n:=k);omega
theorem qc0 {d:Int} {x y z:Pnd} (h:x.l<d) (hy:y.l=x.l+1) (hz:z.l=x.l+1):pot d x=pot d y+pot d z+1:=by
 unfold pot;rw [hy,hz];obtain ⟨k,hk⟩ : ∃ k,(d+1-x.l).toNat=k+1:=⟨(d-x.l).toNat,by omega⟩;have hk2:(d+1-(x.l+1)).toNat=k:=by omega
 rw [hk,hk2,Nat.pow_succ];have:=Nat.one_le_two_pow (n:=k);omega
def zxm (n:Nat) (d:Int) (x:Pnd):Prop:=(∀ r∈x.r,0<=r/\r<n)/\x.r.length<=n/\0<=x.l/\x.l<=d
theorem ynq {bins rows:List Int} {b r:Int}:(r∈zcl bins rows b->r∈rows)/\(r∈zd7 bins rows b->r∈rows):=⟨fun h=>(List.mem_filter.mp h).1,fun h=>(List.mem_filter.mp h).1⟩
theorem qfe {n:Nat} {c v:List (List Int)} {cfg:Cfg} {x:Pnd} {k:Cnd} (h:zxm n cfg.de x) (hl:x.l<cfg.de):zxm n cfg.de (zi5 c v cfg x k)/\zxm n cfg.de (zis c v cfg x k):=by
 obtain ⟨h1,h2,h3,h4⟩:=h;refine ⟨⟨fun r hr=>h1 r (ynq.1 hr),Nat.le_trans (List.length_filter_le _ _) h2,?_,?_⟩,⟨fun r hr=>h1 r (ynq.2 hr),Nat.le_trans (List.length_filter_le _ _) h2,?_,?_⟩⟩
 ·show 0<=x.l+1; omega
 ·show x.l+1<=cfg.de; omega
 ·show 0<=x.l+1; omega
 ·show x.l+1<=cfg.de; omega
theorem zyu {c v:List (List Int)} {g:List Int} {cfg:Cfg} (h:zge c v g cfg=true):zds c v=true/\zb1 cfg=true/\g.length=zdq v/\(∀ x∈g,-2199023255552<=x/\x<=2199023255552):=by
 unfold zge at h;simp only [Bool.and_eq_true,decide_eq_true_eq] at h;exact ⟨h.1.1.1,h.1.1.2,by omega,fun x hx=>za3.mp (List.all_eq_true.mp h.2 x hx)⟩
theorem ypb {c v:List (List Int)} (h:zds c v=true):1<=zdq v/\zdq v<=40:=by
 unfold zds at h;simp only [Bool.and_eq_true] at h;have:=za3.mp h.1.2;omega
theorem yc3 {cfg:Cfg} (h:zb1 cfg=true):(0<=cfg.de/\cfg.de<=4)/\cfg.sg.length<=4/\(1<=cfg.la/\cfg.la<=100):=by
 unfold zb1 at h;simp only [Bool.and_eq_true,decide_eq_true_eq] at h;have h1:=za3.mp h.1.1.1.1.1.1.1.2;have h2:=za3.mp h.1.1.1.1.1.2;omega
theorem ynw {c v:List (List Int)} {g:List Int} {cfg:Cfg} {rows:List Int} {b:Bd} (h:(zbe c v g cfg rows b).2=true):zux (zbt c v g rows).1 (zbe c v g cfg rows b).1/\(zbt c v g rows).2=true:=by
 unfold zbe at h ⊢;split
 ·rename_i h1;rw [if_pos h1] at h;split
  ·rename_i h2;rw [if_pos h2] at h;obtain ⟨h3,_,_⟩:=yu5 h;exact ⟨(yrf (zuj c v g rows).2).2 _ h3,h2⟩
  ·rename_i h2;rw [if_neg h2] at h; cases h
 ·rename_i h1;rw [if_neg h1] at h; cases h
theorem qab:RUN T zro []=some ([.agg (bnd zkm)],[]):=by
 refine zae rfl rfl ?_;simp [z3h,z23,bnd,zkm]
theorem qac:RUN T zrg []=some ([.agg (bnd zkm)],[]):=by
 refine zae rfl rfl ?_;simp [z21,z23,bnd,zkm]
def upl (n:Nat):List Int:=(List.range n).map fun (i:Nat)=>(i:Int)
theorem yon (n:Nat):upl n++[(n:Int)]=upl (n+1):=by simp [upl,List.range_succ]
@[simp] theorem qud (n:Nat):(upl n).length=n:=by simp [upl]
@[simp] theorem q39:upl 0=[]:=rfl
theorem qad (n:Nat) (h1:1<=n) (h2:n<=40):RUN T zrf [iv n]=some ([.own 1 (zab (upl n))],[]):=by
 have e:=zcq n 1 40;rw [za3.mpr (by omega)] at e;have hr0:zah 8 0=true:=by decide
 have hr1:zah 8 1=true:=by decide
 refine zae rfl rfl ?_;simp [-getElem?_pos,z2z,zzx,-zbi,e,hr0];refine zao (fun k st => ∃ (i o e:Nat),i+k=n/\st.V 3 = .ref o none e 0 i/\st.V 10=iv n/\st.V 11=iv i/\o<st.nx/\st.S o=some (.row 1 (zab (upl i)))) ?_ n _ ⟨0,0,0,by omega,by simp⟩;rintro k st ⟨i,o,ep,hi,v3,v10,v11,hox,hSo⟩;obtain ⟨x1,x2,x3,x4⟩:=fr hox
 by_cases hlt:i<n
 ·have hws:=wS hlt (by omega:n<=9223372036854775807);have hr8:=zdc (n:=i+1) (by omega);have hsn:zab (upl i)++[[iv (i:Int)]]=zab (upl (i+1)):=by rw [zc6,yon]
  simp [-getElem?_pos,yal,v3,v10,v11,hSo,hlt,hws,hr1,hr8,hsn,x1,x2,x3,x4];exact zai (k-1) (by omega) ⟨i+1,st.nx+1,st.ep,by omega,by simp [v10]⟩
 ·have hin:i=n:=by omega
  subst hin;simp [-getElem?_pos,yal,v3,v10,v11,hSo,hlt]
theorem qae (n:Nat) (h2:n<=40):RUN T zrn [iv n]=some ([.own 1 (zab (upl n))],[]):=by
 have hr0:zah 8 0=true:=by decide
 have hr1:zah 8 1=true:=by decide
 refine zae rfl rfl ?_;simp [-getElem?_pos,z3f,zzx,hr0];refine zao (fun k st => ∃ (i o e:Nat),i+k=n/\st.V 0=iv n/\st.V 3 = .ref o none e 0 i/\st.V 4=iv i/\o<st.nx/\st.S o=some (.row 1 (zab (upl i)))) ?_ n _ ⟨0,0,0,by omega,by simp⟩;rintro k st ⟨i,o,ep,hi,v0,v3,v4,hox,hSo⟩;obtain ⟨x1,x2,x3,x4⟩:=fr hox;have h3:(n:Int)<=40:=by omega
 by_cases hlt:i<n
 ·have hws:=wS hlt (by omega:n<=9223372036854775807);have hr8:=zdc (n:=i+1) (by omega);have hsn:zab (upl i)++[[iv (i:Int)]]=zab (upl (i+1)):=by rw [zc6,yon]
  simp [-getElem?_pos,yan,v0,v3,v4,hSo,hlt,h3,hws,hr1,hr8,hsn,x1,x2,x3,x4];exact zai (k-1) (by omega) ⟨i+1,st.nx+1,st.ep,by omega,by simp [v0]⟩
 ·have hin:i=n:=by omega
  subst hin;simp [-getElem?_pos,yan,v0,v3,v4,hSo,hlt]
def zfk (g rows:List Int) (i:Nat):Int:=((rows.take i).map fun r=>(atI g r).getD 0).sum
theorem yrk {g rows:List Int} {i:Nat} {r x:Int} (hr:rows[i]?=some r) (hx:atI g r=some x):zfk g rows (i+1)=zfk g rows i+x:=by
 unfold zfk;rw [List.take_succ,hr];simp [hx]
theorem z81 {g rows:List Int} (hg : ∀ x∈g,-2199023255552<=x/\x<=2199023255552) : ∀ i:Nat,i<=rows.length -> -2199023255552*(i:Int)<=zfk g rows i/\zfk g rows i<=2199023255552*(i:Int)
 | 0,_=>by simp [zfk]
 | i+1,h=>by
  have ih:=z81 (rows:=rows) hg i (by omega);obtain ⟨r,hr⟩ : ∃ r,rows[i]?=some r:=⟨_,bG (by omega)⟩;have e:zfk g rows (i+1)=zfk g rows i+(atI g r).getD 0:=by
   unfold zfk;rw [List.take_succ,hr];simp
  rw [e];cases hx:atI g r with
  | none=>simp only [Option.getD_none]; omega
  | some x =>
   obtain ⟨_,_,h3,_⟩:=zgf hx;have:=hg x (bF h3);simp only [Option.getD_some]; omega
theorem ycc (g rows:List Int):zek g rows=⟨rows.length,zfk g rows rows.length⟩:=by simp [zek,zfk]
theorem yq7 {g rows:List Int} (hg : ∀ x∈g,-2199023255552<=x/\x<=2199023255552) (hl:rows.length<=1048576):slI (zek g rows):=by
 rw [ycc];have:=z81 (rows:=rows) hg rows.length (by omega);exact ⟨by unfold inI; simp only; omega,by unfold inI; simp only; omega⟩
theorem qaf (g rows:List Int) (hg : ∀ x∈g,-2199023255552<=x/\x<=2199023255552) (hr : ∀ r∈rows,0<=r/\r<g.length) (hl:rows.length<=1048576):RUN T zri [.sl 1 (zab g),.sl 1 (zab rows)]=some ([.agg (slc (zek g rows))],[]):=by
 rw [ycc];refine zae rfl rfl ?_;simp [-getElem?_pos,z24,z25];refine zao (fun k st => ∃ i:Nat,i+k=rows.length/\st.V 0 = .sl 1 (zab g)/\st.V 4 = .ptr 0 none 0 0 0/\st.V 5 = .ptr 1 none 0 0 0/\st.V 11 = .sl 1 (zab rows)/\st.V 12=iv rows.length/\st.V 13=iv i/\1<st.nx/\st.S 1=some (.box [iv rows.length,iv (zfk g rows i)])/\st.S 0=some (.box [iv 0,iv 0])) ?_ rows.length _ ⟨0,by omega,by simp [zfk]⟩;rintro k st ⟨i,hi,v0,v4,v5,v11,v12,v13,h1x,hS1,hS0⟩;obtain ⟨z1,z2,z3,z4⟩:=fr h1x
 by_cases hlt:i<rows.length
 ·obtain ⟨r,hrr⟩ : ∃ r,rows[i]?=some r:=⟨_,bG hlt⟩;obtain ⟨r0,r1⟩:=hr r (bF hrr);obtain ⟨rn,rfl⟩ : ∃ n:Nat,r=n:=⟨r.toNat,by omega⟩;obtain ⟨x,hx⟩ : ∃ x,g[rn]?=some x:=⟨_,bG (by omega)⟩;have hrn:rn<g.length:=by omega
  have hr':=zay hrr;have hx':=zay hx;have hws:=wS hlt (by omega:rows.length<=9223372036854775807);have hs:=yrk (g:=g) hrr (x:=x) (by unfold atI; rw [if_pos r0]; simpa using hx);have b1:=z81 (rows:=rows) hg (i+1) (by omega);rw [hs] at b1;have hw:=w64 (x:=zfk g rows i+x) (by omega) (by omega);simp [-getElem?_pos,yam,v0,v4,v5,v11,v12,v13,hS1,hS0,hlt,hr',hx',hrn,hw,hws,z1,z2,z3,z4];exact zai (k-1) (by omega) ⟨i+1,by omega,by simp [v0,v4,v5,v11,v12,h1x,hs,hS0]⟩
 ·have hin:i=rows.length:=by omega
  subst hin;simp [-getElem?_pos,yam,v4,v5,v12,v13,hS1,hS0,slc]
theorem qag (g rows:List Int) (hg : ∀ x∈g,-2199023255552<=x/\x<=2199023255552) (hr : ∀ r∈rows,0<=r/\r<g.length) (hl:rows.length<=1048576):RUN T zrq [.sl 1 (zab g),.sl 1 (zab rows)]=some ([.agg (slc (zek g rows))],[]):=by
 rw [ycc];refine zae rfl rfl ?_;simp [-getElem?_pos,z3j,z25];refine zao (fun k st => ∃ i:Nat,i+k=rows.length/\st.V 0 = .sl 1 (zab g)/\st.V 1 = .sl 1 (zab rows)/\st.V 4 = .ptr 0 none 0 0 0/\st.V 5 = .ptr 1 none 0 0 0/\st.V 6=iv i/\1<st.nx/\st.S 1=some (.box [iv i,iv (zfk g rows i)])/\st.S 0=some (.box [iv 0,iv 0])) ?_ rows.length _ ⟨0,by omega,by simp [zfk]⟩;rintro k st ⟨i,hi,v0,v1,v4,v5,v6,h1x,hS1,hS0⟩;obtain ⟨z1,z2,z3,z4⟩:=fr h1x
 by_cases hlt:i<rows.length
 ·obtain ⟨r,hrr⟩ : ∃ r,rows[i]?=some r:=⟨_,bG hlt⟩;obtain ⟨r0,r1⟩:=hr r (bF hrr);obtain ⟨rn,rfl⟩ : ∃ n:Nat,r=n:=⟨r.toNat,by omega⟩;obtain ⟨x,hx⟩ : ∃ x,g[rn]?=some x:=⟨_,bG (by omega)⟩;have hrn:rn<g.length:=by omega
  have hr':=zay hrr;have hx':=zay hx;have hws:=wS hlt (by omega:rows.length<=9223372036854775807);have hs:=yrk (g:=g) hrr (x:=x) (by unfold atI; rw [if_pos r0]; simpa using hx);have b1:=z81 (rows:=rows) hg (i+1) (by omega);rw [hs] at b1;have hw:=w64 (x:=zfk g rows i+x) (by omega) (by omega);simp [-getElem?_pos,yao,v0,v1,v4,v5,v6,hS1,hS0,hlt,hr',hx',hrn,hw,hws,z1,z2,z3,z4];exact zai (k-1) (by omega) ⟨i+1,by omega,by simp [v0,v1,v4,v5,h1x,hs,hS0]⟩
 ·have hin:i=rows.length:=by omega
  subst hin;simp [-getElem?_pos,yao,v1,v4,v5,v6,hS1,hS0,slc]
theorem qah (bins rows:List Int) (b:Int) (hb:bins.length<=1048576) (hl:rows.length<=1048576):RUN T zrk [.sl 1 (zab bins),.sl 1 (zab rows),iv b]=some ([.own 1 (zab (zcl bins rows b)),.own 1 (zab (zd7 bins rows b))],[]):=by
 have hr0:zah 8 0=true:=by decide
 have hr1:zah 8 1=true:=by decide
 have w1:=w64 (x:=(bins.length:Int)-1) (by omega) (by omega);refine zae rfl rfl ?_;simp [-getElem?_pos,z29,z3a,hr0];refine zao (fun k st => ∃ (i o e p e2:Nat) (m l:List Int),i+k=rows.length/\m.length<=i/\l.length<=i/\m++(rows.drop i).filter (zig bins b)=zcl bins rows b/\l++(rows.drop i).filter (zpe bins b)=zd7 bins rows b/\st.V 0 = .sl 1 (zab bins)/\st.V 2=iv b/\st.V 8 = .ref o none e 0 m.length/\st.V 9 = .ref p none e2 0 l.length/\st.V 14 = .sl 1 (zab rows)/\st.V 15=iv rows.length/\st.V 16=iv i/\¬ o=p/\o<st.nx/\p<st.nx/\st.S o=some (.row 1 (zab m))/\st.S p=some (.row 1 (zab l))) ?_ rows.length _ ⟨0,0,0,1,0,[],[],by omega,by simp [zcl,zd7]⟩;rintro k st ⟨i,o,e,p,e2,m,l,hi,hml,hll,hm,hl2,v0,v2,v8,v9,v14,v15,v16,hop,hox,hpx,hSo,hSp⟩;obtain ⟨x1,x2,x3,x4⟩:=fr hox;obtain ⟨z1,z2,z3,z4⟩:=fr hpx;have hpo : ¬ p=o:=fun e=>hop e.symm
 by_cases hlt:i<rows.length
 ·obtain ⟨r,hrr⟩ : ∃ r,rows[i]?=some r:=⟨_,bG hlt⟩;have hr':=zay hrr;have hws:=wS hlt (by omega:rows.length<=9223372036854775807);have e1:=zcq r 0 ((bins.length:Int)-1);rw [zc3 hrr,List.filter_cons] at hm hl2;have hB:zig bins b r=match atI bins r with
   | some x=>decide (x<=b)
   | none=>false:=rfl
  have hC:zpe bins b r=match atI bins r with
   | some x => !decide (x<=b)
   | none=>false:=rfl
  have r1:=zdc (n:=m.length+1) (by omega);have r2:=zdc (n:=l.length+1) (by omega);have s1:=zc6 m r;have s2:=zc6 l r;cases hx:atI bins r with
  | none =>
   have hn:=ziu hx;rw [show zaj r 0 ((bins.length:Int)-1)=false from by
    cases hw:zaj r 0 ((bins.length:Int)-1) with
    | false=>rfl
    | true=>have:=za3.mp hw; omega] at e1
   rw [hx] at hB hC;rw [hB] at hm;rw [hC] at hl2;simp [-getElem?_pos,zv7,-zbi,v0,v2,v8,v9,v14,v15,v16,hSo,hSp,hlt,hr',hws,w1,e1];exact zai (k-1) (by omega) ⟨i+1,o,e,p,e2,m,l,by omega,by omega,by omega,by simpa using hm,by simpa using hl2,by simp [v0],by simp [v2],by simp [v8],by simp [v9],by simp [v14],by simp [v15],by simp,hop,by simp [hox,hpx,hSo,hSp]⟩
  | some x =>
   obtain ⟨rn,rfl,hbr,hbl⟩:=zgf hx;rw [show zaj rn 0 ((bins.length:Int)-1)=true from za3.mpr (by omega)] at e1;rw [hx] at hB hC;rw [hB] at hm;rw [hC] at hl2;have hb':=zay hbr
   by_cases hc:x<=b
   ·have d1:decide (x<=b)=true:=decide_eq_true hc;simp only [d1,if_true,Bool.not_true,Bool.false_eq_true,if_false] at hm hl2;simp [-getElem?_pos,zv7,-zbi,v0,v2,v8,v9,v14,v15,v16,hSo,hSp,hlt,hr',hws,w1,e1,hb',hbl,hc,hr1,r1,s1,hop,hpo,x1,x2,x3,x4,z1,z2,z3,z4];exact zai (k-1) (by omega) ⟨i+1,st.nx+1,st.ep,p,e2,m++[(rn:Int)],l,by omega,by simp; omega,by omega,by simpa using hm,hl2,by simp [v0],by simp [v2],by simp,by simp [v9],by simp [v14],by simp [v15],by simp,by omega,by simp,by simp; omega,by simp [hop,hpo,x1,x2,x3,x4,z1,z2,z3,z4,hSp]⟩
   ·have d1:decide (x<=b)=false:=decide_eq_false hc;simp only [d1,if_true,Bool.not_false,Bool.false_eq_true,if_false] at hm hl2;simp [-getElem?_pos,zv7,-zbi,v0,v2,v8,v9,v14,v15,v16,hSo,hSp,hlt,hr',hws,w1,e1,hb',hbl,hc,hr1,r2,s2,hop,hpo,x1,x2,x3,x4,z1,z2,z3,z4];exact zai (k-1) (by omega) ⟨i+1,o,e,st.nx+1,st.ep,m,l++[(rn:Int)],by omega,by omega,by simp; omega,hm,by simpa using hl2,by simp [v0],by simp [v2],by simp [v8],by simp,by simp [v14],by simp [v15],by simp,by omega,by simp; omega,by simp [hop,hpo,x1,x2,x3,x4,z1,z2,z3,z4,hSo]⟩
 ·rw [List.drop_eq_nil_of_le (by omega)] at hm hl2;simp only [List.filter_nil,List.append_nil] at hm hl2;subst hm hl2;simp [-getElem?_pos,zv7,v8,v9,v14,v15,v16,hSo,hSp,hlt,hop,hpo]
theorem qai (bins rows:List Int) (b:Int) (hb:bins.length<=1048576) (hl:rows.length<=1048576):RUN T zrr [.sl 1 (zab bins),.sl 1 (zab rows),iv b]=some ([.own 1 (zab (zcl bins rows b)),.own 1 (zab (zd7 bins rows b))],[]):=by
 have hr0:zah 8 0=true:=by decide
 have hr1:zah 8 1=true:=by decide
 have w1:=w64 (x:=(bins.length:Int)-1) (by omega) (by omega);refine zae rfl rfl ?_;simp [-getElem?_pos,z3l,z3a,hr0];refine zao (fun k st => ∃ (i o e p e2:Nat) (m l:List Int),i+k=rows.length/\m.length<=i/\l.length<=i/\m++(rows.drop i).filter (zig bins b)=zcl bins rows b/\l++(rows.drop i).filter (zpe bins b)=zd7 bins rows b/\st.V 0 = .sl 1 (zab bins)/\st.V 1 = .sl 1 (zab rows)/\st.V 2=iv b/\st.V 8 = .ref o none e 0 m.length/\st.V 9 = .ref p none e2 0 l.length/\st.V 10=iv i/\¬ o=p/\o<st.nx/\p<st.nx/\st.S o=some (.row 1 (zab m))/\st.S p=some (.row 1 (zab l))) ?_ rows.length _ ⟨0,0,0,1,0,[],[],by omega,by simp [zcl,zd7]⟩;rintro k st ⟨i,o,e,p,e2,m,l,hi,hml,hll,hm,hl2,v0,v1,v2,v8,v9,v10,hop,hox,hpx,hSo,hSp⟩;obtain ⟨x1,x2,x3,x4⟩:=fr hox;obtain ⟨z1,z2,z3,z4⟩:=fr hpx;have hpo : ¬ p=o:=fun e=>hop e.symm
 by_cases hlt:i<rows.length
 ·obtain ⟨r,hrr⟩ : ∃ r,rows[i]?=some r:=⟨_,bG hlt⟩;have hr':=zay hrr;have hws:=wS hlt (by omega:rows.length<=9223372036854775807);have e1:=zbj r 0 ((bins.length:Int)-1);rw [zc3 hrr,List.filter_cons] at hm hl2;have hB:zig bins b r=match atI bins r with
   | some x=>decide (x<=b)
   | none=>false:=rfl
  have hC:zpe bins b r=match atI bins r with
   | some x => !decide (x<=b)
   | none=>false:=rfl
  have r1:=zdc (n:=m.length+1) (by omega);have r2:=zdc (n:=l.length+1) (by omega);have s1:=zc6 m r;have s2:=zc6 l r;cases hx:atI bins r with
  | none =>
   have hn:=ziu hx;rw [show zaj r 0 ((bins.length:Int)-1)=false from by
    cases hw:zaj r 0 ((bins.length:Int)-1) with
    | false=>rfl
    | true=>have:=za3.mp hw; omega] at e1
   rw [hx] at hB hC;rw [hB] at hm;rw [hC] at hl2;simp [-getElem?_pos,zwa,-za1,v0,v1,v2,v8,v9,v10,hSo,hSp,hlt,hr',hws,w1,e1];exact zai (k-1) (by omega) ⟨i+1,o,e,p,e2,m,l,by omega,by omega,by omega,by simpa using hm,by simpa using hl2,by simp [v0],by simp [v1],by simp [v2],by simp [v8],by simp [v9],by simp,hop,by simp [hox,hpx,hSo,hSp]⟩
  | some x =>
   obtain ⟨rn,rfl,hbr,hbl⟩:=zgf hx;rw [show zaj rn 0 ((bins.length:Int)-1)=true from za3.mpr (by omega)] at e1;rw [hx] at hB hC;rw [hB] at hm;rw [hC] at hl2;have hb':=zay hbr
   by_cases hc:x<=b
   ·have d1:decide (x<=b)=true:=decide_eq_true hc;simp only [d1,if_true,Bool.not_true,Bool.false_eq_true,if_false] at hm hl2;simp [-getElem?_pos,zwa,-za1,v0,v1,v2,v8,v9,v10,hSo,hSp,hlt,hr',hws,w1,e1,hb',hbl,hc,hr1,r1,s1,hop,hpo,x1,x2,x3,x4,z1,z2,z3,z4];exact zai (k-1) (by omega) ⟨i+1,st.nx+1,st.ep,p,e2,m++[(rn:Int)],l,by omega,by simp; omega,by omega,by simpa using hm,hl2,by simp [v0],by simp [v1],by simp [v2],by simp,by simp [v9],by simp,by omega,by simp,by simp; omega,by simp [hop,hpo,x1,x2,x3,x4,z1,z2,z3,z4,hSp]⟩
   ·have d1:decide (x<=b)=false:=decide_eq_false hc;simp only [d1,if_true,Bool.not_false,Bool.false_eq_true,if_false] at hm hl2;simp [-getElem?_pos,zwa,-za1,v0,v1,v2,v8,v9,v10,hSo,hSp,hlt,hr',hws,w1,e1,hb',hbl,hc,hr1,r2,s2,hop,hpo,x1,x2,x3,x4,z1,z2,z3,z4];exact zai (k-1) (by omega) ⟨i+1,o,e,st.nx+1,st.ep,m,l++[(rn:Int)],by omega,by omega,by simp; omega,hm,by simpa using hl2,by simp [v0],by simp [v1],by simp [v2],by simp [v8],by simp,by simp,by omega,by simp; omega,by simp [hop,hpo,x1,x2,x3,x4,z1,z2,z3,z4,hSo]⟩
 ·rw [List.drop_eq_nil_of_le (by omega)] at hm hl2;simp only [List.filter_nil,List.append_nil] at hm hl2;subst hm hl2;simp [-getElem?_pos,zwa,v1,v8,v9,v10,hSo,hSp,hlt,hop,hpo]
def pnd (x:Pnd):List PV:=[.own 1 (zab x.r),iv x.b.lo,iv x.b.hi,iv x.l]
def zgo (l:List Pnd):List (List PV):=l.map pnd
@[simp] theorem qzo (l:List Pnd):(zgo l).length=l.length:=by simp [zgo]
theorem ycj {l:List Pnd} {i:Nat} {x:Pnd} (h:l[i]?=some x):(zgo l)[i]?=some [.own 1 (zab x.r),iv x.b.lo,iv x.b.hi,iv x.l]:=by simp [zgo,h,pnd]
theorem yuz {l:List Pnd} {i:Nat} {x:Pnd} (h:l[i]?=some x):zbv (zgo l) i 0=some (1,zab x.r):=by simp [zbv,ycj h]
theorem yne (l:List Pnd) (x y:Pnd):zgo l++[[.own 1 (zab x.r),iv x.b.lo,iv x.b.hi,iv x.l],[.own 1 (zab y.r),iv y.b.lo,iv y.b.hi,iv y.l]]=zgo (l++[x,y]):=by simp [zgo,pnd]
theorem zmd {α:Type} {l:List α} {i:Nat} {x:α} (h:l[i]?=some x):atI l (i:Int)=some x:=by
 unfold atI;rw [if_pos (by omega)];simpa using h
theorem qda {b g rows:List Int} {k:Int} (h:(zce b g rows k).2=true):((zce b g rows k).1.length:Int)=k:=by
 unfold zce at h ⊢;split
 ·rename_i hk;rw [if_pos hk] at h;have hk':=za3.mp hk;cases e:zcf b g rows (List.replicate k.toNat ⟨0,0⟩) with
  | none=>rw [e] at h; cases h
  | some h'=>have:=ydc _ _ _ e; simp at this; simp only; omega
 ·rename_i hk;rw [if_neg hk] at h; cases h
theorem yua {g rows:List Int} : ∀ (c v:List (List Int)) (H:List (List Sl)) (f:Nat) (h:List Sl),zbw g rows c v=some H->H[f]?=some h->∃ x y,c[f]?=some x/\v[f]?=some y/\h.length=x.length+1
 | [],v,H,f,h,e,hf=>by simp [zbw] at e; subst e; simp at hf
 | x::c,[],H,f,h,e,hf=>by simp [zbw] at e; subst e; simp at hf
 | x::c,y::v,H,f,h,e,hf=>by
  simp only [zbw] at e;split at e
  ·rename_i hp;simp only [bB] at e;obtain ⟨H',h1,rfl⟩:=e;cases f with
   | zero =>
    simp at hf;subst hf;have:=qda hp;exact ⟨x,y,rfl,rfl,by omega⟩
   | succ f =>
    simp at hf;obtain ⟨x',y',h2,h3,h4⟩:=yua c v H' f h h1 hf;exact ⟨x',y',by simpa using h2,by simpa using h3,h4⟩
  ·cases e
theorem qi4 {c v:List (List Int)} {g rows:List Int} {f:Nat} {h:List Sl} (hb:(zbt c v g rows).2=true) (hf:(zbt c v g rows).1[f]?=some h) : ∃ x y,c[f]?=some x/\v[f]?=some y/\h.length=x.length+1:=by
 unfold zbt at hb hf;split at hb
 ·rename_i hg;rw [if_pos hg] at hf;cases e:zbw g rows c v with
  | none=>rw [e] at hb; cases hb
  | some H=>rw [e] at hf; exact yua c v H f h e hf
 ·cases hb
theorem ytx {c v:List (List Int)} {g:List Int} {cfg:Cfg} {rows:List Int} {b:Bd} (h:(zbe c v g cfg rows b).2=true) : ∃ (f k:Nat) (x y:List Int) (z:Int),(zbe c v g cfg rows b).1.f=f/\(zbe c v g cfg rows b).1.b=k/\c[f]?=some x/\v[f]?=some y/\x[k]?=some z/\zeu (zbe c v g cfg rows b).1:=by
 obtain ⟨h1,h2⟩:=ynw h;have hI:=ynk (by have:=z8i c v g rows; omega) (fun l hl=>Nat.le_trans ((zuj c v g rows).2 l hl) (by omega)) h1;obtain ⟨f,k,l,e1,e2,e3,e4,_,_⟩:=h1;obtain ⟨x,y,hx,hy,hl⟩:=qi4 h2 e3;exact ⟨f,k,x,y,x[k]'(by omega),e1,e2,hx,hy,bG (by omega),hI⟩
theorem qgp {x lo hi:Int} (h:lo<=hi):lo<=zfi x lo hi/\zfi x lo hi<=hi:=by
 unfold zfi;split
 ·omega
 ·split <;> omega
theorem qdm {b:Bd} (h:zha b=true):b.lo<=b.hi /\ -1099511627776<=b.lo/\b.hi<=1099511627776:=by
 unfold zha at h;simp only [Bool.and_eq_true,decide_eq_true_eq] at h;have h1:=h.1.2;have h2:=h.2;unfold zfq at h1 h2;have:=za3.mp h1;have:=za3.mp h2;omega
theorem ypi (s:Sl) (l:Int) (b:Bd) : -1099511627776<=(zd4 s l b).1/\(zd4 s l b).1<=1099511627776:=by
 unfold zd4;split
 ·rename_i h;simp only [Bool.and_eq_true] at h;obtain ⟨h1,h2,h3⟩:=qdm h.2;have:=qgp (x:=(fdv s.g (s.n+l)).1) h1;simp only; omega
 ·simp
theorem z8x (c:Cfg) (b:Bd) (x:Cnd):inI (zbr c b x).1/\inI (zbr c b x).2.1:=by
 have h1:=ypi x.a c.la b;have h2:=ypi x.z c.la b;unfold zbr inI;split
 ·simp only; omega
 ·simp
def NC (S:Nat->Option Ob) (nx oq:Nat) (m:List Nd) (x:PV):Prop:=(x = .e0/\m=[])\/∃ o e,x = .ref o none e 0 m.length/\5<o/\o<nx/\¬ o=oq/\S o=some (.row 5 (m.map nd))
theorem yce {c v:List (List Int)} {g:List Int} {cfg:Cfg} {n:Nat} {q:List Pnd} {i:Nat} {out:List Nd} (h:q[i]?=none):zdu c v g cfg n q i out=out:=by
 cases n with
 | zero=>rfl
 | succ n=>rw [zdu,h]
theorem ysm {c v:List (List Int)} {g:List Int} {cfg:Cfg} {n:Nat} {q:List Pnd} {i:Nat} {out:List Nd} {x:Pnd} (h:q[i]?=some x) (hg:goes c v g cfg x=false):zdu c v g cfg (n+1) q i out=zdu c v g cfg n q (i+1) (out++[zdb g cfg x]):=by
 rw [zdu,h]; simp [hg]
theorem ytp {c v:List (List Int)} {g:List Int} {cfg:Cfg} {n:Nat} {q:List Pnd} {i:Nat} {out:List Nd} {x:Pnd} (h:q[i]?=some x) (hg:goes c v g cfg x=true):zdu c v g cfg (n+1) q i out=zdu c v g cfg n (q++[zi5 c v cfg x (zbe c v g cfg x.r x.b).1,zis c v cfg x (zbe c v g cfg x.r x.b).1]) (i+1) (out++[zmj c (zbe c v g cfg x.r x.b).1 q.length]):=by
 rw [zdu,h]; simp [hg]
structure GI (c v:List (List Int)) (g:List Int) (cfg:Cfg) (n:Nat) (q:List Pnd) (i:Nat) (out:List Nd):Prop where
 n1:i+n=32
 le:i<=q.length
 ql:q.length<=2*i+1
 ol:out.length=i
 po:zi9 cfg.de (q.drop i)<=n
 ok : ∀ x∈q,zxm g.length cfg.de x
 go:zdu c v g cfg n q i out=zdu c v g cfg 32 [zei g] 0 []
theorem GI.leaf {c v:List (List Int)} {g:List Int} {cfg:Cfg} {n:Nat} {q:List Pnd} {i:Nat} {out:List Nd} {x:Pnd} (h:GI c v g cfg n q i out) (hx:q[i]?=some x) (hg:goes c v g cfg x=false):1<=n/\GI c v g cfg (n-1) q (i+1) (out++[zdb g cfg x]):=by
 have hp:=h.po;rw [zc3 hx,z88] at hp;have:=qb7 (h.ok x (bF hx)).2.2.2;have hlt:=(bD hx).1;obtain ⟨m,rfl⟩ : ∃ m,n=m+1:=⟨n-1,by omega⟩;have:=h.n1;have:=h.ql;exact ⟨by omega,by simp; omega,by omega,by omega,by simp [h.ol],by simp; omega,h.ok,by rw [<- h.go,ysm hx hg]; rfl⟩
theorem GI.cut {c v:List (List Int)} {g:List Int} {cfg:Cfg} {n:Nat} {q:List Pnd} {i:Nat} {out:List Nd} {x:Pnd} (h:GI c v g cfg n q i out) (hx:q[i]?=some x) (hg:goes c v g cfg x=true):1<=n/\GI c v g cfg (n-1) (q++[zi5 c v cfg x (zbe c v g cfg x.r x.b).1,zis c v cfg x (zbe c v g cfg x.r x.b).1]) (i+1) (out++[zmj c (zbe c v g cfg x.r x.b).1 q.length]):=by
 have hp:=h.po;have hlt:=(bD hx).1;have hxo:=h.ok x (bF hx);rw [zc3 hx,z88] at hp;have hlv:x.l<cfg.de:=by
  unfold goes at hg;simp only [Bool.and_eq_true,decide_eq_true_eq] at hg;exact hg.1
 have hk:=qc0 (y:=zi5 c v cfg x (zbe c v g cfg x.r x.b).1) (z:=zis c v cfg x (zbe c v g cfg x.r x.b).1) hlv rfl rfl;obtain ⟨m,rfl⟩ : ∃ m,n=m+1:=⟨n-1,by omega⟩;have:=h.n1;have:=h.ql;obtain ⟨ko1,ko2⟩:=qfe (c:=c) (v:=v) (k:=(zbe c v g cfg x.r x.b).1) hxo hlv;refine ⟨by omega,by simp; omega,by simp; omega,by simp; omega,by simp [h.ol],?_,fun y hy => ?_,by rw [<- h.go,ytp hx hg]; rfl⟩
 ·rw [List.drop_append_of_le_length (by omega),qfz,z88,z88];have:zi9 cfg.de ([]:List Pnd)=0:=rfl;simp only [Nat.add_sub_cancel];omega
 ·rcases List.mem_append.mp hy with e | e
  ·exact h.ok y e
  ·simp only [List.mem_cons,List.not_mem_nil,or_false] at e;rcases e with e | e
   ·subst e; exact ko1
   ·subst e; exact ko2
theorem GI.start {c v:List (List Int)} {g:List Int} {cfg:Cfg} (h:zge c v g cfg=true):GI c v g cfg 32 [zei g] 0 []:=by
 obtain ⟨h1,h2,h3,h4⟩:=zyu h;obtain ⟨d1,d2⟩:=(yc3 h2).1;refine ⟨rfl,by simp,by simp,rfl,?_,fun x hx => ?_,rfl⟩
 ·simp only [List.drop_zero,zi9,List.map_cons,List.map_nil,List.sum_cons,List.sum_nil,pot,zei];have:(cfg.de+1-0).toNat<=5:=by omega
  have:=Nat.pow_le_pow_right (n:=2) (by omega) this;omega
 ·simp only [List.mem_singleton] at hx;subst hx;refine ⟨fun r hr => ?_,by simp [zei],by simp [zei],d1⟩;simp only [zei,List.mem_map,List.mem_range] at hr;obtain ⟨j,hj,rfl⟩:=hr;omega
theorem qaj (q:Bool) (c v:List (List Int)) (g:List Int) (cfg:Cfg) (hc : ∀ l∈c,l.length<=1048576) (hv : ∀ l∈v,l.length<=1048576) (hg:g.length<=1048576) (hs:cfg.sg.length<=1048576) (hgi : ∀ x∈g,inI x):RUN T zqo [.agg [.sl 1 (rws q c),.sl 1 (rws q v)],.sl 1 (zab g),cfS cfg]=some ([.agg [.own 5 ((zco c v g cfg).1.map nd)],bv (zco c v g cfg).2],[]):=by
 have e1:=yl9 q c v g cfg (fun l hl=>Nat.le_trans (hc l hl) (by omega)) (fun l hl=>Nat.le_trans (hv l hl) (by omega)) (by omega) (by omega);simp only [zb6] at e1;cases ht:zge c v g cfg with
 | false =>
  rw [ht] at e1;have hR:zco c v g cfg=([],false):=by unfold zco; rw [ht]; rfl
  rw [hR];refine zae rfl rfl ?_;simp [-getElem?_pos,zvq,zvr,e1]
 | true =>
  rw [ht] at e1;have hR:zco c v g cfg=(zdu c v g cfg 32 [zei g] 0 [],true):=by unfold zco; rw [if_pos ht]
  rw [hR];obtain ⟨R,hR'⟩ : ∃ R,R=zdu c v g cfg 32 [zei g] 0 []:=⟨_,rfl⟩;rw [<- hR'];obtain ⟨t1,t2,t3,t4⟩:=zyu ht;obtain ⟨t5,t6⟩:=ypb t1;have e2:=ya2 q c v;have e3:=qad (zdq v) t5 t6;have e4:=qac;have hr48:zah 48 1=true:=by decide
  have hG:=GI.start ht;have hroot:zgo [zei g]=[[.own 1 (zab (upl (zdq v))),iv zkm.lo,iv zkm.hi,iv 0]]:=by simp [zgo,pnd,zei,t3,upl]
  simp only [bnd] at e4;refine zae rfl rfl ?_;simp [-getElem?_pos,zvq,zvr,e1,e2,e3,e4,hr48];refine zao (fun n st => ∃ (i o e:Nat) (Q:List Pnd) (out:List Nd) (x:PV),GI c v g cfg n Q i out/\st.V 1 = .sl 1 (zab g)/\st.V 3 = .ptr 0 none 0 0 0/\st.V 5 = .ptr 1 none 0 0 0/\st.V 6 = .ptr 2 none 0 0 0/\st.V 8 = .ref o none e 0 Q.length/\st.V 9 = .ptr 5 none 0 0 0/\st.V 10=iv i/\3<o/\¬ o=5/\o<st.nx/\5<st.nx/\st.S 0=some (.box [.sl 1 (rws q c),.sl 1 (rws q v)])/\st.S 1=some (.box [iv cfg.ro,iv cfg.de,iv cfg.bi,iv cfg.la,iv cfg.rw,iv cfg.nu,iv cfg.dn,.sl 1 (zab cfg.sg)])/\st.S 2=some (.box [.e0])/\st.S 5=some (.box [x])/\st.S o=some (.row 4 (zgo Q))/\NC st.S st.nx o out x) ?_ 32 _ ⟨0,4,0,[zei g],[],.e0,hG,?_⟩
  ·rintro n st ⟨i,o,ep,Q,out,x,hG,v1,v3,v5,v6,v8,v9,v10,ho3,ho5,hox,h5x,hS0,hS1,hS2,hS5,hSo,hN⟩;have Z2:=bI v1 <| bI v3 <| bI v5 <| bI v6 <| bI v8 <| bI v9 <| bI v10 <| bI hS0 <| bI hS1 <| bI hS2 <| bI hS5 hSo
   obtain ⟨Fa01,Fa02,Fa03,Fa04⟩:=fr (show 0<st.nx by omega);obtain ⟨Fb01,Fb02,Fb03,Fb04⟩:=fr (show 1<st.nx by omega);obtain ⟨Fc01,Fc02,Fc03,Fc04⟩:=fr (show 2<st.nx by omega);obtain ⟨Fd01,Fd02,Fd03,Fd04⟩:=fr (show 5<st.nx by omega);obtain ⟨Fo01,Fo02,Fo03,Fo04⟩:=fr (show o<st.nx by omega);have N0a:(o=0)=False:=eq_false (by omega);have N0b:(0=o)=False:=eq_false (by omega);have N1a:(o=1)=False:=eq_false (by omega);have N1b:(1=o)=False:=eq_false (by omega);have N2a:(o=2)=False:=eq_false (by omega);have N2b:(2=o)=False:=eq_false (by omega);have N3a:(o=5)=False:=eq_false (by omega);have N3b:(5=o)=False:=eq_false (by omega);have y0:(st.nx=0)=False:=eq_false (by omega);have y1:(st.nx=1)=False:=eq_false (by omega);have y2:(st.nx=2)=False:=eq_false (by omega);have y3:(st.nx=3)=False:=eq_false (by omega);have y4:(st.nx=4)=False:=eq_false (by omega);have y5:(st.nx=5)=False:=eq_false (by omega);have na : ∀ a b:Nat,st.nx+a+b=st.nx+(a+b):=fun a b=>Nat.add_assoc _ _ _;have Z0:=bI Fa01 <| bI Fa02 <| bI Fa03 <| bI Fa04 <| bI Fb01 <| bI Fb02 <| bI Fb03 <| bI Fb04 <| bI Fc01 <| bI Fc02 <| bI Fc03 <| bI Fc04 <| bI Fd01 <| bI Fd02 <| bI Fd03 <| bI Fd04 <| bI Fo01 <| bI Fo02 <| bI Fo03 <| bI Fo04 <| bI N0a <| bI N0b <| bI N1a <| bI N1b <| bI N2a <| bI N2b <| bI N3a <| bI N3b <| bI y0 <| bI y1 <| bI y2 <| bI y3 <| bI y4 <| bI y5 na
   by_cases hlt:i<Q.length
   ·obtain ⟨p,hp⟩ : ∃ p,Q[i]?=some p:=⟨_,bG hlt⟩;have hp':=ycj hp;have hps:=yuz hp;have hpo:=hG.ok p (bF hp);obtain ⟨p1,p2,p3,p4⟩:=hpo;have hn1:=hG.n1;have hql:=hG.ql;have hws:=wS hlt (by omega:Q.length<=9223372036854775807);have f1:=y99 q c v g cfg p.r p.b hc hv hg (by omega) hs hgi;have f2:=qaf g p.r t4 p1 (by omega);have f3:=ybk (zek g p.r) cfg.la p.b (yq7 t4 (by omega));have hr40:zah 40 1=true:=by decide
    have hr41:zah 40 (out.length+1)=true:=by have:=hG.ol; simp [zah]; omega
    have hsn:=z8c out (zdb g cfg p);simp only [zdb] at hsn;simp only [bnd] at f1 f3;obtain ⟨K,hK⟩ : ∃ K,K=zbe c v g cfg p.r p.b:=⟨_,rfl⟩;obtain ⟨G,hGg⟩ : ∃ G,G=goes c v g cfg p:=⟨_,rfl⟩;have hG2:G=(decide (p.l<cfg.de) && K.2):=by rw [hGg,hK]; rfl
    cases G with
    | false =>
     obtain ⟨m1,hG'⟩:=hG.leaf hp hGg.symm;rw [<- hK] at f1;simp only [slc] at f2 f3
     by_cases hlv:p.l<cfg.de
     ·have hK2:K.2=false:=by simpa [hlv] using hG2.symm
      obtain ⟨K,Kb⟩:=K;simp only at hK2 f1;subst hK2;simp only [cnd] at f1;rcases hN with ⟨rfl,rfl⟩ | ⟨w,ew,rfl,hw5,hwx,hwo,hSw⟩
      ·simp [-getElem?_pos,zj8,Z2,hlt,hp',hps,hlv,f1,f2,f3,hws,hr40,Z0];refine zai (n-1) (by omega) ⟨i+1,o,ep,Q,[zdb g cfg p],.ref (st.nx+3) none st.ep 0 1,hG',by simp [v1],by simp [v3],by simp [v5],by simp [v6],by simp [v8],by simp [v9],by simp,ho3,ho5,(by simp <;> omega),by simp <;> omega,by simp [Z0,hS0],by simp [Z0,hS1],by simp [Z0,hS2],by simp [Z0],by simp [Z0,hSo],.inr ⟨st.nx+3,st.ep,by simp,by omega,by simp <;> omega,by omega,by simp [nd,zdb,y0,y1,y2,y3,y4,y5]⟩⟩
      ·obtain ⟨Fw01,Fw02,Fw03,Fw04⟩:=fr (show w<st.nx by omega);have M0a:(w=0)=False:=eq_false (by omega);have M0b:(0=w)=False:=eq_false (by omega);have M1a:(w=1)=False:=eq_false (by omega);have M1b:(1=w)=False:=eq_false (by omega);have M2a:(w=2)=False:=eq_false (by omega);have M2b:(2=w)=False:=eq_false (by omega);have M3a:(w=5)=False:=eq_false (by omega);have M3b:(5=w)=False:=eq_false (by omega);have M4a:(w=o)=False:=eq_false (by omega);have M4b:(o=w)=False:=eq_false (by omega);have Z1:=bI Z0 <| bI Fw01 <| bI Fw02 <| bI Fw03 <| bI Fw04 <| bI M0a <| bI M0b <| bI M1a <| bI M1b <| bI M2a <| bI M2b <| bI M3a <| bI M3b <| bI M4a M4b
       simp [-getElem?_pos,zj8,Z2,hSw,hlt,hp',hps,hlv,f1,f2,f3,hws,hr40,hr41,hsn,Z1];refine zai (n-1) (by omega) ⟨i+1,o,ep,Q,out++[zdb g cfg p],.ref (st.nx+3) none st.ep 0 (out.length+1),hG',by simp [v1],by simp [v3],by simp [v5],by simp [v6],by simp [v8],by simp [v9],by simp,ho3,ho5,(by simp <;> omega),by simp <;> omega,by simp [Z1,hS0],by simp [Z1,hS1],by simp [Z1,hS2],by simp [Z1],by simp [Z1,hSo],.inr ⟨st.nx+3,st.ep,by simp,by omega,by simp <;> omega,by omega,by simp [nd,zdb,y0,y1,y2,y3,y4,y5]⟩⟩
     ·rcases hN with ⟨rfl,rfl⟩ | ⟨w,ew,rfl,hw5,hwx,hwo,hSw⟩
      ·simp [-getElem?_pos,zj8,Z2,hlt,hp',hps,hlv,f2,f3,hws,hr40,Z0];refine zai (n-1) (by omega) ⟨i+1,o,ep,Q,[zdb g cfg p],.ref (st.nx+3) none st.ep 0 1,hG',by simp [v1],by simp [v3],by simp [v5],by simp [v6],by simp [v8],by simp [v9],by simp,ho3,ho5,(by simp <;> omega),by simp <;> omega,by simp [Z0,hS0],by simp [Z0,hS1],by simp [Z0,hS2],by simp [Z0],by simp [Z0,hSo],.inr ⟨st.nx+3,st.ep,by simp,by omega,by simp <;> omega,by omega,by simp [nd,zdb,y0,y1,y2,y3,y4,y5]⟩⟩
      ·obtain ⟨Fw01,Fw02,Fw03,Fw04⟩:=fr (show w<st.nx by omega);have M0a:(w=0)=False:=eq_false (by omega);have M0b:(0=w)=False:=eq_false (by omega);have M1a:(w=1)=False:=eq_false (by omega);have M1b:(1=w)=False:=eq_false (by omega);have M2a:(w=2)=False:=eq_false (by omega);have M2b:(2=w)=False:=eq_false (by omega);have M3a:(w=5)=False:=eq_false (by omega);have M3b:(5=w)=False:=eq_false (by omega);have M4a:(w=o)=False:=eq_false (by omega);have M4b:(o=w)=False:=eq_false (by omega);have Z1:=bI Z0 <| bI Fw01 <| bI Fw02 <| bI Fw03 <| bI Fw04 <| bI M0a <| bI M0b <| bI M1a <| bI M1b <| bI M2a <| bI M2b <| bI M3a <| bI M3b <| bI M4a M4b
       simp [-getElem?_pos,zj8,Z2,hSw,hlt,hp',hps,hlv,f2,f3,hws,hr40,hr41,hsn,Z1];refine zai (n-1) (by omega) ⟨i+1,o,ep,Q,out++[zdb g cfg p],.ref (st.nx+3) none st.ep 0 (out.length+1),hG',by simp [v1],by simp [v3],by simp [v5],by simp [v6],by simp [v8],by simp [v9],by simp,ho3,ho5,(by simp <;> omega),by simp <;> omega,by simp [Z1,hS0],by simp [Z1,hS1],by simp [Z1,hS2],by simp [Z1],by simp [Z1,hSo],.inr ⟨st.nx+3,st.ep,by simp,by omega,by simp <;> omega,by omega,by simp [nd,zdb,y0,y1,y2,y3,y4,y5]⟩⟩
    | true =>
     obtain ⟨m1,hG'⟩:=hG.cut hp hGg.symm;have t7:=yc3 t2;have hlv:p.l<cfg.de:=by
      have h9:=hG2.symm;simp only [Bool.and_eq_true,decide_eq_true_eq] at h9;exact h9.1
     have hK2:K.2=true:=by
      have h9:=hG2.symm;simp only [Bool.and_eq_true,decide_eq_true_eq] at h9;exact h9.2
     obtain ⟨kf,kb,X,Y,z,k1,k2,hX,hY,hz,kI⟩:=ytx (c:=c) (v:=v) (g:=g) (cfg:=cfg) (rows:=p.r) (b:=p.b) (by rw [<- hK]; exact hK2);rw [<- hK] at f1 hG' k1 k2 kI;obtain ⟨⟨kf',kb',ka,kz⟩,Kb⟩:=K;simp only at hK2 k1 k2 kI f1 hG';subst hK2 k1 k2;have hfc:=(bD hX).1;have hfv:=(bD hY).1;have hbx:=(bD hz).1;have hX':=zct (q:=q) hX;have hY':=zct (q:=q) hY;have hz':=zay hz;have f4:=ymx cfg p.b ⟨kf,kb,ka,kz⟩ kI;have f5:=ymz cfg kf (by omega);have f6:=y93 (zd6 cfg kf) p.b (zbr cfg p.b ⟨kf,kb,ka,kz⟩).1 (zbr cfg p.b ⟨kf,kb,ka,kz⟩).2.1 (z8x _ _ _).1 (z8x _ _ _).2;have f7:=qah Y p.r kb (hv Y (bF hY)) (by omega);have hkl:zi5 c v cfg p ⟨kf,kb,ka,kz⟩=⟨zcl Y p.r kb,(zfe (zd6 cfg kf) p.b (zbr cfg p.b ⟨kf,kb,ka,kz⟩).1 (zbr cfg p.b ⟨kf,kb,ka,kz⟩).2.1).1,p.l+1⟩:=by
      unfold zi5;simp only [zmd hY,Option.getD_some]
     have hkr:zis c v cfg p ⟨kf,kb,ka,kz⟩=⟨zd7 Y p.r kb,(zfe (zd6 cfg kf) p.b (zbr cfg p.b ⟨kf,kb,ka,kz⟩).1 (zbr cfg p.b ⟨kf,kb,ka,kz⟩).2.1).2,p.l+1⟩:=by
      unfold zis;simp only [zmd hY,Option.getD_some]
     have hcn:zmj c ⟨kf,kb,ka,kz⟩ Q.length=⟨kf,z,Q.length,Q.length+1,0⟩:=by
      unfold zmj;simp only [zmd hX,Option.getD_some,zmd hz]
     rw [hkl,hkr,hcn] at hG';clear hkl hkr hcn;generalize zbr cfg p.b ⟨kf,kb,ka,kz⟩=sv at *;obtain ⟨sl,sr,sb⟩:=sv;simp only at f4 f6 hG';generalize zd6 cfg kf=sg at *;generalize zfe sg p.b sl sr=bb at *;obtain ⟨⟨ll,lh⟩,⟨rl,rh⟩⟩:=bb;generalize zcl Y p.r kb=L1 at *;generalize zd7 Y p.r kb=R1 at *;simp only [bnd,cnd] at f1 f4 f6 hG';have hQ:=yne Q ⟨L1,⟨ll,lh⟩,p.l+1⟩ ⟨R1,⟨rl,rh⟩,p.l+1⟩;have hsn2:=z8c out ⟨kf,z,Q.length,Q.length+1,0⟩;simp only at hQ hsn2;have wl:=w64 (x:=p.l+1) (by omega) (by omega);have wq:=w64 (x:=(Q.length:Int)+1) (by omega) (by omega);have hr482:zah 48 2=true:=by decide
     have hr483:zah 48 (Q.length+2)=true:=by simp [zah]; omega
     rcases hN with ⟨rfl,rfl⟩ | ⟨w,ew,rfl,hw5,hwx,hwo,hSw⟩
     ·simp [-getElem?_pos,zj8,Z2,hlt,hp',hps,hlv,f1,f4,f5,f6,f7,hX',hY',hz',hfc,hfv,hbx,wl,wq,hr482,hr483,hQ,hws,hr40,Z0];refine zai (n-1) (by omega) ⟨i+1,st.nx+9,st.ep,(Q++[⟨L1,⟨ll,lh⟩,p.l+1⟩,⟨R1,⟨rl,rh⟩,p.l+1⟩]),[⟨kf,z,Q.length,Q.length+1,0⟩],.ref (st.nx+7) none st.ep 0 1,hG',by simp [v1],by simp [v3],by simp [v5],by simp [v6],by simp,by simp [v9],by simp,by omega,by omega,by simp,by simp <;> omega,by simp [Z0,hS0],by simp [Z0,hS1],by simp [Z0,hS2],by simp [Z0],by simp [Z0],.inr ⟨st.nx+7,st.ep,by simp,by omega,by simp [nd,Fo03,Fo04,Fo01,Fo02,y0,y1,y2,y3,y4,y5]⟩⟩
     ·obtain ⟨Fw01,Fw02,Fw03,Fw04⟩:=fr (show w<st.nx by omega);have M0a:(w=0)=False:=eq_false (by omega);have M0b:(0=w)=False:=eq_false (by omega);have M1a:(w=1)=False:=eq_false (by omega);have M1b:(1=w)=False:=eq_false (by omega);have M2a:(w=2)=False:=eq_false (by omega);have M2b:(2=w)=False:=eq_false (by omega);have M3a:(w=5)=False:=eq_false (by omega);have M3b:(5=w)=False:=eq_false (by omega);have M4a:(w=o)=False:=eq_false (by omega);have M4b:(o=w)=False:=eq_false (by omega);have Z1:=bI Z0 <| bI Fw01 <| bI Fw02 <| bI Fw03 <| bI Fw04 <| bI M0a <| bI M0b <| bI M1a <| bI M1b <| bI M2a <| bI M2b <| bI M3a <| bI M3b <| bI M4a M4b
      simp [-getElem?_pos,zj8,Z2,hSw,hlt,hp',hps,hlv,f1,f4,f5,f6,f7,hX',hY',hz',hfc,hfv,hbx,wl,wq,hr482,hr483,hQ,hws,hr40,hr41,hsn2,Z1];refine zai (n-1) (by omega) ⟨i+1,st.nx+9,st.ep,(Q++[⟨L1,⟨ll,lh⟩,p.l+1⟩,⟨R1,⟨rl,rh⟩,p.l+1⟩]),(out++[⟨kf,z,Q.length,Q.length+1,0⟩]),.ref (st.nx+7) none st.ep 0 (out.length+1),hG',by simp [v1],by simp [v3],by simp [v5],by simp [v6],by simp,by simp [v9],by simp,by omega,by omega,by simp,by simp <;> omega,by simp [Z1,hS0],by simp [Z1,hS1],by simp [Z1,hS2],by simp [Z1],by simp [Z1],.inr ⟨st.nx+7,st.ep,by simp,by omega,by simp [nd,Fo03,Fo04,Fo01,Fo02,y0,y1,y2,y3,y4,y5]⟩⟩
   ·have hiq:i=Q.length:=by have:=hG.le; omega
    have hgo:=hG.go;rw [yce (List.getElem?_eq_none (by omega)),<- hR'] at hgo;subst hgo;have hol:=hG.ol;rcases hN with ⟨rfl,rfl⟩ | ⟨w,ew,rfl,hw5,hwx,hwo,hSw⟩
    ·simp [-getElem?_pos,zj8,Z2,hlt,Z0]
    ·obtain ⟨Fw01,Fw02,Fw03,Fw04⟩:=fr (show w<st.nx by omega);have M0a:(w=0)=False:=eq_false (by omega);have M0b:(0=w)=False:=eq_false (by omega);have M1a:(w=1)=False:=eq_false (by omega);have M1b:(1=w)=False:=eq_false (by omega);have M2a:(w=2)=False:=eq_false (by omega);have M2b:(2=w)=False:=eq_false (by omega);have M3a:(w=5)=False:=eq_false (by omega);have M3b:(5=w)=False:=eq_false (by omega);have M4a:(w=o)=False:=eq_false (by omega);have M4b:(o=w)=False:=eq_false (by omega);have Z1:=bI Z0 <| bI Fw01 <| bI Fw02 <| bI Fw03 <| bI Fw04 <| bI M0a <| bI M0b <| bI M1a <| bI M1b <| bI M2a <| bI M2b <| bI M3a <| bI M3b <| bI M4a M4b
     simp [-getElem?_pos,zj8,Z2,hSw,hlt,Z1]
  ·refine ⟨by simp,by simp,by simp,by simp,by simp,by simp,by simp,by simp,by simp,by simp,by simp,by simp,by simp,by simp,by simp,by simp [hroot],.inl ⟨rfl,rfl⟩⟩
theorem qak (q:Bool) (c v:List (List Int)) (g:List Int) (cfg:Cfg) (hc : ∀ l∈c,l.length<=1048576) (hv : ∀ l∈v,l.length<=1048576) (hg:g.length<=1048576) (hs:cfg.sg.length<=1048576) (hgi : ∀ x∈g,inI x):RUN T zqs [.agg [.sl 1 (rws q c),.sl 1 (rws q v)],.sl 1 (zab g),cfS cfg]=some ([.agg [.own 5 ((zco c v g cfg).1.map nd)],bv (zco c v g cfg).2],[]):=by
 have e1:=yma q c v g cfg (fun l hl=>Nat.le_trans (hc l hl) (by omega)) (fun l hl=>Nat.le_trans (hv l hl) (by omega)) (by omega) (by omega);simp only [zb6] at e1;cases ht:zge c v g cfg with
 | false =>
  rw [ht] at e1;have hR:zco c v g cfg=([],false):=by unfold zco; rw [ht]; rfl
  rw [hR];refine zae rfl rfl ?_;simp [-getElem?_pos,zvu,zvr,e1]
 | true =>
  rw [ht] at e1;have hR:zco c v g cfg=(zdu c v g cfg 32 [zei g] 0 [],true):=by unfold zco; rw [if_pos ht]
  rw [hR];obtain ⟨R,hR'⟩ : ∃ R,R=zdu c v g cfg 32 [zei g] 0 []:=⟨_,rfl⟩;rw [<- hR'];obtain ⟨t1,t2,t3,t4⟩:=zyu ht;obtain ⟨t5,t6⟩:=ypb t1;have e3:=qae g.length (by omega);have e4:=qab;have hr48:zah 48 1=true:=by decide
  have hG:=GI.start ht;have hroot:zgo [zei g]=[[.own 1 (zab (upl g.length)),iv zkm.lo,iv zkm.hi,iv 0]]:=by simp [zgo,pnd,zei,upl]
  simp only [bnd] at e4;refine zae rfl rfl ?_;simp [-getElem?_pos,zvu,zvr,e1,e3,e4,hr48];refine zao (fun n st => ∃ (i o e:Nat) (Q:List Pnd) (out:List Nd) (x:PV),GI c v g cfg n Q i out/\st.V 1 = .sl 1 (zab g)/\st.V 3 = .ptr 0 none 0 0 0/\st.V 5 = .ptr 1 none 0 0 0/\st.V 6 = .ptr 2 none 0 0 0/\st.V 8 = .ptr 3 none 0 0 0/\st.V 9 = .ref o none e 0 Q.length/\st.V 10=iv i/\4<o/\o<st.nx/\3<st.nx/\st.S 0=some (.box [.sl 1 (rws q c),.sl 1 (rws q v)])/\st.S 1=some (.box [iv cfg.ro,iv cfg.de,iv cfg.bi,iv cfg.la,iv cfg.rw,iv cfg.nu,iv cfg.dn,.sl 1 (zab cfg.sg)])/\st.S 2=some (.box [.e0])/\st.S 3=some (.box [x])/\st.S o=some (.row 4 (zgo Q))/\NC st.S st.nx o out x) ?_ 32 _ ⟨0,5,0,[zei g],[],.e0,hG,?_⟩
  ·rintro n st ⟨i,o,ep,Q,out,x,hG,v1,v3,v5,v6,v8,v9,v10,ho3,hox,h3x,hS0,hS1,hS2,hS3,hSo,hN⟩;have Z2:=bI v1 <| bI v3 <| bI v5 <| bI v6 <| bI v8 <| bI v9 <| bI v10 <| bI hS0 <| bI hS1 <| bI hS2 <| bI hS3 hSo
   obtain ⟨Fa01,Fa02,Fa03,Fa04⟩:=fr (show 0<st.nx by omega);obtain ⟨Fb01,Fb02,Fb03,Fb04⟩:=fr (show 1<st.nx by omega);obtain ⟨Fc01,Fc02,Fc03,Fc04⟩:=fr (show 2<st.nx by omega);obtain ⟨Fd01,Fd02,Fd03,Fd04⟩:=fr (show 3<st.nx by omega);obtain ⟨Fo01,Fo02,Fo03,Fo04⟩:=fr (show o<st.nx by omega);have N0a:(o=0)=False:=eq_false (by omega);have N0b:(0=o)=False:=eq_false (by omega);have N1a:(o=1)=False:=eq_false (by omega);have N1b:(1=o)=False:=eq_false (by omega);have N2a:(o=2)=False:=eq_false (by omega);have N2b:(2=o)=False:=eq_false (by omega);have N3a:(o=3)=False:=eq_false (by omega);have N3b:(3=o)=False:=eq_false (by omega);have y0:(st.nx=0)=False:=eq_false (by omega);have y1:(st.nx=1)=False:=eq_false (by omega);have y2:(st.nx=2)=False:=eq_false (by omega);have y3:(st.nx=3)=False:=eq_false (by omega);have y4:(st.nx=4)=False:=eq_false (by omega);have y5:(st.nx=5)=False:=eq_false (by omega);have na : ∀ a b:Nat,st.nx+a+b=st.nx+(a+b):=fun a b=>Nat.add_assoc _ _ _;have Z0:=bI Fa01 <| bI Fa02 <| bI Fa03 <| bI Fa04 <| bI Fb01 <| bI Fb02 <| bI Fb03 <| bI Fb04 <| bI Fc01 <| bI Fc02 <| bI Fc03 <| bI Fc04 <| bI Fd01 <| bI Fd02 <| bI Fd03 <| bI Fd04 <| bI Fo01 <| bI Fo02 <| bI Fo03 <| bI Fo04 <| bI N0a <| bI N0b <| bI N1a <| bI N1b <| bI N2a <| bI N2b <| bI N3a <| bI N3b <| bI y0 <| bI y1 <| bI y2 <| bI y3 <| bI y4 <| bI y5 na
   by_cases hlt:i<Q.length
   ·obtain ⟨p,hp⟩ : ∃ p,Q[i]?=some p:=⟨_,bG hlt⟩;have hp':=ycj hp;have hps:=yuz hp;have hpo:=hG.ok p (bF hp);obtain ⟨p1,p2,p3,p4⟩:=hpo;have hn1:=hG.n1;have hql:=hG.ql;have hws:=wS hlt (by omega:Q.length<=9223372036854775807);have f1:=qaa q c v g cfg p.r p.b hc hv hg (by omega) hs hgi;have f2:=qag g p.r t4 p1 (by omega);have f3:=ybl (zek g p.r) cfg.la p.b (yq7 t4 (by omega));have hr40:zah 40 1=true:=by decide
    have hr41:zah 40 (out.length+1)=true:=by have:=hG.ol; simp [zah]; omega
    have hsn:=z8c out (zdb g cfg p);simp only [zdb] at hsn;simp only [bnd] at f1 f3;obtain ⟨K,hK⟩ : ∃ K,K=zbe c v g cfg p.r p.b:=⟨_,rfl⟩;obtain ⟨G,hGg⟩ : ∃ G,G=goes c v g cfg p:=⟨_,rfl⟩;have hG2:G=(decide (p.l<cfg.de) && K.2):=by rw [hGg,hK]; rfl
    cases G with
    | false =>
     obtain ⟨m1,hG'⟩:=hG.leaf hp hGg.symm;rw [<- hK] at f1;simp only [slc] at f2 f3
     by_cases hlv:p.l<cfg.de
     ·have hK2:K.2=false:=by simpa [hlv] using hG2.symm
      obtain ⟨K,Kb⟩:=K;simp only at hK2 f1;subst hK2;simp only [cnd] at f1;have hge : ¬ cfg.de<=p.l:=by omega
      rcases hN with ⟨rfl,rfl⟩ | ⟨w,ew,rfl,hw5,hwx,hwo,hSw⟩
      ·simp [-getElem?_pos,zj9,Z2,hlt,hp',hps,hge,f1,f2,f3,hws,hr40,Z0];refine zai (n-1) (by omega) ⟨i+1,o,ep,Q,[zdb g cfg p],.ref (st.nx+3) none st.ep 0 1,hG',by simp [v1],by simp [v3],by simp [v5],by simp [v6],by simp [v8],by simp [v9],by simp,ho3,(by simp <;> omega),by simp <;> omega,by simp [Z0,hS0],by simp [Z0,hS1],by simp [Z0,hS2],by simp [Z0],by simp [Z0,hSo],.inr ⟨st.nx+3,st.ep,by simp,by omega,by simp <;> omega,by omega,by simp [nd,zdb,y0,y1,y2,y3,y4,y5]⟩⟩
      ·obtain ⟨Fw01,Fw02,Fw03,Fw04⟩:=fr (show w<st.nx by omega);have M0a:(w=0)=False:=eq_false (by omega);have M0b:(0=w)=False:=eq_false (by omega);have M1a:(w=1)=False:=eq_false (by omega);have M1b:(1=w)=False:=eq_false (by omega);have M2a:(w=2)=False:=eq_false (by omega);have M2b:(2=w)=False:=eq_false (by omega);have M3a:(w=3)=False:=eq_false (by omega);have M3b:(3=w)=False:=eq_false (by omega);have M4a:(w=o)=False:=eq_false (by omega);have M4b:(o=w)=False:=eq_false (by omega);have Z1:=bI Z0 <| bI Fw01 <| bI Fw02 <| bI Fw03 <| bI Fw04 <| bI M0a <| bI M0b <| bI M1a <| bI M1b <| bI M2a <| bI M2b <| bI M3a <| bI M3b <| bI M4a M4b
       simp [-getElem?_pos,zj9,Z2,hSw,hlt,hp',hps,hge,f1,f2,f3,hws,hr40,hr41,hsn,Z1];refine zai (n-1) (by omega) ⟨i+1,o,ep,Q,out++[zdb g cfg p],.ref (st.nx+3) none st.ep 0 (out.length+1),hG',by simp [v1],by simp [v3],by simp [v5],by simp [v6],by simp [v8],by simp [v9],by simp,ho3,(by simp <;> omega),by simp <;> omega,by simp [Z1,hS0],by simp [Z1,hS1],by simp [Z1,hS2],by simp [Z1],by simp [Z1,hSo],.inr ⟨st.nx+3,st.ep,by simp,by omega,by simp <;> omega,by omega,by simp [nd,zdb,y0,y1,y2,y3,y4,y5]⟩⟩
     ·obtain ⟨K,Kb⟩:=K;simp only [cnd] at f1;have hge:cfg.de<=p.l:=by omega
      rcases hN with ⟨rfl,rfl⟩ | ⟨w,ew,rfl,hw5,hwx,hwo,hSw⟩
      ·simp [-getElem?_pos,zj9,Z2,hlt,hp',hps,hge,f1,f2,f3,hws,hr40,Z0];refine zai (n-1) (by omega) ⟨i+1,o,ep,Q,[zdb g cfg p],.ref (st.nx+3) none st.ep 0 1,hG',by simp [v1],by simp [v3],by simp [v5],by simp [v6],by simp [v8],by simp [v9],by simp,ho3,(by simp <;> omega),by simp <;> omega,by simp [Z0,hS0],by simp [Z0,hS1],by simp [Z0,hS2],by simp [Z0],by simp [Z0,hSo],.inr ⟨st.nx+3,st.ep,by simp,by omega,by simp <;> omega,by omega,by simp [nd,zdb,y0,y1,y2,y3,y4,y5]⟩⟩
      ·obtain ⟨Fw01,Fw02,Fw03,Fw04⟩:=fr (show w<st.nx by omega);have M0a:(w=0)=False:=eq_false (by omega);have M0b:(0=w)=False:=eq_false (by omega);have M1a:(w=1)=False:=eq_false (by omega);have M1b:(1=w)=False:=eq_false (by omega);have M2a:(w=2)=False:=eq_false (by omega);have M2b:(2=w)=False:=eq_false (by omega);have M3a:(w=3)=False:=eq_false (by omega);have M3b:(3=w)=False:=eq_false (by omega);have M4a:(w=o)=False:=eq_false (by omega);have M4b:(o=w)=False:=eq_false (by omega);have Z1:=bI Z0 <| bI Fw01 <| bI Fw02 <| bI Fw03 <| bI Fw04 <| bI M0a <| bI M0b <| bI M1a <| bI M1b <| bI M2a <| bI M2b <| bI M3a <| bI M3b <| bI M4a M4b
       simp [-getElem?_pos,zj9,Z2,hSw,hlt,hp',hps,hge,f1,f2,f3,hws,hr40,hr41,hsn,Z1];refine zai (n-1) (by omega) ⟨i+1,o,ep,Q,out++[zdb g cfg p],.ref (st.nx+3) none st.ep 0 (out.length+1),hG',by simp [v1],by simp [v3],by simp [v5],by simp [v6],by simp [v8],by simp [v9],by simp,ho3,(by simp <;> omega),by simp <;> omega,by simp [Z1,hS0],by simp [Z1,hS1],by simp [Z1,hS2],by simp [Z1],by simp [Z1,hSo],.inr ⟨st.nx+3,st.ep,by simp,by omega,by simp <;> omega,by omega,by simp [nd,zdb,y0,y1,y2,y3,y4,y5]⟩⟩
    | true =>
     obtain ⟨m1,hG'⟩:=hG.cut hp hGg.symm;have t7:=yc3 t2;have hlv:p.l<cfg.de:=by
      have h9:=hG2.symm;simp only [Bool.and_eq_true,decide_eq_true_eq] at h9;exact h9.1
     have hK2:K.2=true:=by
      have h9:=hG2.symm;simp only [Bool.and_eq_true,decide_eq_true_eq] at h9;exact h9.2
     obtain ⟨kf,kb,X,Y,z,k1,k2,hX,hY,hz,kI⟩:=ytx (c:=c) (v:=v) (g:=g) (cfg:=cfg) (rows:=p.r) (b:=p.b) (by rw [<- hK]; exact hK2);rw [<- hK] at f1 hG' k1 k2 kI;obtain ⟨⟨kf',kb',ka,kz⟩,Kb⟩:=K;simp only at hK2 k1 k2 kI f1 hG';subst hK2 k1 k2;have hfc:=(bD hX).1;have hfv:=(bD hY).1;have hbx:=(bD hz).1;have hX':=zct (q:=q) hX;have hY':=zct (q:=q) hY;have hz':=zay hz;have f4:=ymy cfg p.b ⟨kf,kb,ka,kz⟩ kI;have f5:=ym0 cfg kf (by omega);have f6:=y92 (zd6 cfg kf) p.b (zbr cfg p.b ⟨kf,kb,ka,kz⟩).1 (zbr cfg p.b ⟨kf,kb,ka,kz⟩).2.1 (z8x _ _ _).1 (z8x _ _ _).2;have f7:=qai Y p.r kb (hv Y (bF hY)) (by omega);have hkl:zi5 c v cfg p ⟨kf,kb,ka,kz⟩=⟨zcl Y p.r kb,(zfe (zd6 cfg kf) p.b (zbr cfg p.b ⟨kf,kb,ka,kz⟩).1 (zbr cfg p.b ⟨kf,kb,ka,kz⟩).2.1).1,p.l+1⟩:=by
      unfold zi5;simp only [zmd hY,Option.getD_some]
     have hkr:zis c v cfg p ⟨kf,kb,ka,kz⟩=⟨zd7 Y p.r kb,(zfe (zd6 cfg kf) p.b (zbr cfg p.b ⟨kf,kb,ka,kz⟩).1 (zbr cfg p.b ⟨kf,kb,ka,kz⟩).2.1).2,p.l+1⟩:=by
      unfold zis;simp only [zmd hY,Option.getD_some]
     have hcn:zmj c ⟨kf,kb,ka,kz⟩ Q.length=⟨kf,z,Q.length,Q.length+1,0⟩:=by
      unfold zmj;simp only [zmd hX,Option.getD_some,zmd hz]
     rw [hkl,hkr,hcn] at hG';clear hkl hkr hcn;generalize zbr cfg p.b ⟨kf,kb,ka,kz⟩=sv at *;obtain ⟨sl,sr,sb⟩:=sv;simp only at f4 f6 hG';generalize zd6 cfg kf=sg at *;generalize zfe sg p.b sl sr=bb at *;obtain ⟨⟨ll,lh⟩,⟨rl,rh⟩⟩:=bb;generalize zcl Y p.r kb=L1 at *;generalize zd7 Y p.r kb=R1 at *;simp only [bnd,cnd] at f1 f4 f6 hG';have hQ:=yne Q ⟨L1,⟨ll,lh⟩,p.l+1⟩ ⟨R1,⟨rl,rh⟩,p.l+1⟩;have hsn2:=z8c out ⟨kf,z,Q.length,Q.length+1,0⟩;simp only at hQ hsn2;have wl:=w64 (x:=p.l+1) (by omega) (by omega);have wq:=w64 (x:=(Q.length:Int)+1) (by omega) (by omega);have hge : ¬ cfg.de<=p.l:=by omega
     have hr482:zah 48 2=true:=by decide
     have hr483:zah 48 (Q.length+2)=true:=by simp [zah]; omega
     rcases hN with ⟨rfl,rfl⟩ | ⟨w,ew,rfl,hw5,hwx,hwo,hSw⟩
     ·simp [-getElem?_pos,zj9,Z2,hlt,hp',hps,hge,f1,f4,f5,f6,f7,hX',hY',hz',hfc,hfv,hbx,wl,wq,hr482,hr483,hQ,hws,hr40,Z0];refine zai (n-1) (by omega) ⟨i+1,st.nx+9,st.ep,(Q++[⟨L1,⟨ll,lh⟩,p.l+1⟩,⟨R1,⟨rl,rh⟩,p.l+1⟩]),[⟨kf,z,Q.length,Q.length+1,0⟩],.ref (st.nx+7) none st.ep 0 1,hG',by simp [v1],by simp [v3],by simp [v5],by simp [v6],by simp [v8],by simp,by simp,by omega,by simp,by simp <;> omega,by simp [Z0,hS0],by simp [Z0,hS1],by simp [Z0,hS2],by simp [Z0],by simp [Z0],.inr ⟨st.nx+7,st.ep,by simp,by omega,by simp [nd,Fo03,Fo04,Fo01,Fo02,y0,y1,y2,y3,y4,y5]⟩⟩
     ·obtain ⟨Fw01,Fw02,Fw03,Fw04⟩:=fr (show w<st.nx by omega);have M0a:(w=0)=False:=eq_false (by omega);have M0b:(0=w)=False:=eq_false (by omega);have M1a:(w=1)=False:=eq_false (by omega);have M1b:(1=w)=False:=eq_false (by omega);have M2a:(w=2)=False:=eq_false (by omega);have M2b:(2=w)=False:=eq_false (by omega);have M3a:(w=3)=False:=eq_false (by omega);have M3b:(3=w)=False:=eq_false (by omega);have M4a:(w=o)=False:=eq_false (by omega);have M4b:(o=w)=False:=eq_false (by omega);have Z1:=bI Z0 <| bI Fw01 <| bI Fw02 <| bI Fw03 <| bI Fw04 <| bI M0a <| bI M0b <| bI M1a <| bI M1b <| bI M2a <| bI M2b <| bI M3a <| bI M3b <| bI M4a M4b
      simp [-getElem?_pos,zj9,Z2,hSw,hlt,hp',hps,hge,f1,f4,f5,f6,f7,hX',hY',hz',hfc,hfv,hbx,wl,wq,hr482,hr483,hQ,hws,hr40,hr41,hsn2,Z1];refine zai (n-1) (by omega) ⟨i+1,st.nx+9,st.ep,(Q++[⟨L1,⟨ll,lh⟩,p.l+1⟩,⟨R1,⟨rl,rh⟩,p.l+1⟩]),(out++[⟨kf,z,Q.length,Q.length+1,0⟩]),.ref (st.nx+7) none st.ep 0 (out.length+1),hG',by simp [v1],by simp [v3],by simp [v5],by simp [v6],by simp [v8],by simp,by simp,by omega,by simp,by simp <;> omega,by simp [Z1,hS0],by simp [Z1,hS1],by simp [Z1,hS2],by simp [Z1],by simp [Z1],.inr ⟨st.nx+7,st.ep,by simp,by omega,by simp [nd,Fo03,Fo04,Fo01,Fo02,y0,y1,y2,y3,y4,y5]⟩⟩
   ·have hiq:i=Q.length:=by have:=hG.le; omega
    have hgo:=hG.go;rw [yce (List.getElem?_eq_none (by omega)),<- hR'] at hgo;subst hgo;have hol:=hG.ol;rcases hN with ⟨rfl,rfl⟩ | ⟨w,ew,rfl,hw5,hwx,hwo,hSw⟩
    ·simp [-getElem?_pos,zj9,Z2,hlt,Z0]
    ·obtain ⟨Fw01,Fw02,Fw03,Fw04⟩:=fr (show w<st.nx by omega);have M0a:(w=0)=False:=eq_false (by omega);have M0b:(0=w)=False:=eq_false (by omega);have M1a:(w=1)=False:=eq_false (by omega);have M1b:(1=w)=False:=eq_false (by omega);have M2a:(w=2)=False:=eq_false (by omega);have M2b:(2=w)=False:=eq_false (by omega);have M3a:(w=3)=False:=eq_false (by omega);have M3b:(3=w)=False:=eq_false (by omega);have M4a:(w=o)=False:=eq_false (by omega);have M4b:(o=w)=False:=eq_false (by omega);have Z1:=bI Z0 <| bI Fw01 <| bI Fw02 <| bI Fw03 <| bI Fw04 <| bI M0a <| bI M0b <| bI M1a <| bI M1b <| bI M2a <| bI M2b <| bI M3a <| bI M3b <| bI M4a M4b
     simp [-getElem?_pos,zj9,Z2,hSw,hlt,Z1]
  ·refine ⟨by simp,by simp,by simp,by simp,by simp,by simp,by simp,by simp,by simp,by simp,by simp,by simp,by simp,by simp,by simp [hroot],.inl ⟨rfl,rfl⟩⟩
theorem qal (c:Cfg) (k:Int) (h0:0<=k) (hk:k+c.sg.length<=9223372036854775806):RUN T zp2 [z9f c,iv k]=some ([iv (k+c.sg.length)],[.own 1 (zab (upto k c.sg.length))]):=by
 have e:=zxd c.sg k h0 hk;have hu:(upto k c.sg.length).length=c.sg.length:=by simp [upto]
 generalize upto k c.sg.length=u at *;refine zae rfl rfl ?_;simp [-getElem?_pos,zze,zyz,z9f,e,hu]
theorem qam (k:Int) (n:Nat) (h0:0<=k) (hk:k+5*n<=9223372036854775806):RUN T zrx [.sl 5 ((zff k n).map nd),iv k]=some ([iv (k+5*n)],[]):=by
 refine zae rfl rfl ?_;have hl:(zff k n).length=n:=by simp [zff]
 simp [z31,zyz];refine zao (fun q st => ∃ i:Nat,i+q=n/\st.V 0 = .sl 5 ((zff k n).map nd)/\st.V 1=iv (k+5*i)/\st.V 5=iv i) ?_ n _ ⟨0,by simp⟩;rintro q st ⟨i,hi,v0,v1,v5⟩
 by_cases h:i<n
 ·have hw:=wS h (by omega:n<=9223372036854775807);have w1:IntKind.i64.wrap (k+5*(i:Int)+1)=k+5*(i:Int)+1:=w64 (by omega) (by omega);have w2:IntKind.i64.wrap (k+5*(i:Int)+1+1)=k+5*(i:Int)+2:=by rw [w64 (by omega) (by omega)]; omega
  have w3:IntKind.i64.wrap (k+5*(i:Int)+2+1)=k+5*(i:Int)+3:=by rw [w64 (by omega) (by omega)]; omega
  have w4:IntKind.i64.wrap (k+5*(i:Int)+3+1)=k+5*(i:Int)+4:=by rw [w64 (by omega) (by omega)]; omega
  have w5:IntKind.i64.wrap (k+5*(i:Int)+4+1)=k+5*((i:Int)+1):=by rw [w64 (by omega) (by omega)]; omega
  have hx':((zff k n).map nd)[i]?=some [iv (k+5*(i:Int)),iv (k+5*(i:Int)+1),iv (k+5*(i:Int)+2),iv (k+5*(i:Int)+3),iv (k+5*(i:Int)+4)]:=by simp [zff,h,nd]
  have hL:((zff k n).map nd).length=n:=by simp [zff]
  generalize (zff k n).map nd=L at *;simp [-getElem?_pos,yap,v0,v1,v5,h,hL,hx',hw,w1,w2,w3,w4,w5];exact zai (q-1) (by omega) ⟨i+1,by omega,by simp [v0]⟩
 ·simp [-getElem?_pos,yap,v0,v1,v5,h,hl];omega
theorem ydd {c v:List (List Int)} {g:List Int} {cfg:Cfg} : ∀ (n:Nat) (q:List Pnd) (i:Nat) (out:List Nd),(zdu c v g cfg n q i out).length<=out.length+n
 | 0,q,i,out=>by simp [zdu]
 | n+1,q,i,out=>by
  rw [zdu];split
  ·omega
  ·split
   ·refine Nat.le_trans (ydd n _ _ _) ?_;simp; omega
   ·refine Nat.le_trans (ydd n _ _ _) ?_;simp; omega
theorem yb6 (c v:List (List Int)) (g:List Int) (cfg:Cfg):(zco c v g cfg).1.length<=32:=by
 unfold zco;split
 ·have:=ydd (c:=c) (v:=v) (g:=g) (cfg:=cfg) 32 [zei g] 0 [];simpa using this
 ·simp
theorem qan {q:Bool} {f:Nat} {cs:List PV} {p:List Int->Bool} (M:List (List Int)) (hl:M.length<=9223372036854775807) (hm:zac T f=[]) (hp : ∀ t∈M,RUN T f [.sl 1 (zab t),.fptr cs 0]=some ([bv (p t)],[])) :
  RUN T zr0 [.sl 1 (rws q M),.fn f [.fptr cs 0]]=some ([iv (zik p M)],[]):=by
 refine zae rfl rfl ?_;simp [z37,zyz];refine zao (fun n st => ∃ i:Nat,i+n=M.length/\st.V 0 = .sl 1 (rws q M)/\st.V 1 = .fn f [.fptr cs 0]/\st.V 8=iv i/\st.V 7=iv M.length/\∀ (j:Nat) (x:List Int),j<i->M[j]?=some x->p x=false) ?_ M.length _ ⟨0,by simp⟩;rintro n st ⟨i,hi,h0,h1,h8,h7,hj⟩;simp [yfr,h0,h1,h8,h7];refine zaw (fun h => ?_) (fun h => ?_)
 ·simp at h;obtain ⟨x,hx⟩ : ∃ x,M[i]?=some x:=⟨_,bG h⟩;have hw:=wS h hl;have hx':=zct (q:=q) hx;have hpx:=hp x (bF hx);simp [-getElem?_pos,h0,h1,h8,h7,hx',hw,hm,hpx,h];refine zaw (fun b0 => ?_) (fun b0 => ?_) <;> (try simp at b0) <;> simp [-getElem?_pos,b0,h0,h1,h8,h7,hx',hw]
  all_goals first
   | exact (z80 hx b0 hj).symm
   | exact zai (n-1) (by omega) ⟨i+1,by omega,by simp [h0],by simp [h1],by simp,by simp [h7],ydq hj hx b0⟩
 ·simp at h;simp [h];exact (z8d fun j x hl hx=>hj j x (by omega) hx).symm
theorem qao {q:Bool} {f:Nat} {cs:List PV} {p:List Int->Bool} (M:List (List Int)) (hl:M.length<=9223372036854775807) (hm:zac T f=[]) (hp : ∀ t∈M,RUN T f [.sl 1 (zab t),.fptr cs 0]=some ([bv (p t)],[])) :
  RUN T zq5 [.sl 1 (rws q M),.fn f [.fptr cs 0]]=some ([bv (M.any p)],[]):=by
 refine zae rfl rfl ?_;have e:=qan (q:=q) M hl hm hp;simp [z1z,zyz,e,z9o]
def zfu (n:Nat) (r:List Int):Bool:=decide ((r.length:Int)=n) && r.all zcc
def zgp (t:Ta):Bool:=zaj t.ns.length 1 4 && zg7 (t.ns++[t.nm]) && zaj t.rw.length 1 40 && decide ((t.lb.length:Int)=t.rw.length) && t.lb.all zcc && t.rw.all (zfu t.ns.length)
theorem yn5 {L:List ByteArray} {x:ByteArray} {i:Nat} (h:i<L.length):nmB (L++[x]) i=nmB L i:=by
 obtain ⟨y,hy⟩ : ∃ y,L[i]?=some y:=⟨_,bG h⟩;have hy2:(L++[x])[i]?=some y:=by rw [List.getElem?_append_left h]; exact hy
 rw [zxl hy,zxl hy2,List.take_append_of_le_length (by omega)]
theorem qc8 {L:List ByteArray} {x:ByteArray}:nmB (L++[x]) L.length=(zd1 x && !zgb L x):=by
 rw [zxl (x:=x) (by simp)];simp
theorem qfq (L:List ByteArray) (x:ByteArray):zg7 (L++[x])=(zg7 L && (zd1 x && !zgb L x)):=by
 unfold zg7;rw [show (L++[x]).length=L.length+1 by simp,List.range_succ,List.all_append];simp only [List.all_cons,List.all_nil,Bool.and_true];rw [qc8]
 congr 1
 rw [Bool.eq_iff_iff,List.all_eq_true,List.all_eq_true];constructor
 ·intro h j hj; rw [<- yn5 (x:=x) (List.mem_range.mp hj)]; exact h j hj
 ·intro h j hj; rw [yn5 (List.mem_range.mp hj)]; exact h j hj
theorem qh8 (l:List ByteArray):zch (za4 l)=true:=by
 induction l with
 | nil=>rfl
 | cons x l ih=>simpa [za4,zch] using ih
theorem qd3 (l:List Int):zch (zab l)=true:=by
 induction l with
 | nil=>rfl
 | cons x l ih=>simpa [zab,zch] using ih
theorem qjm (l:List Nd):zch (l.map nd)=true:=by
 induction l with
 | nil=>rfl
 | cons x l ih=>simpa [nd,zch] using ih
theorem qap (l:List ByteArray) (hl:l.length<=1048576):RUN T zqa [.sl 1 (za4 l)]=some ([.own 1 (za4 l)],[]) :=
 yd7 ygw (qh8 l) (by simp [zah]; omega)
theorem qaq (l:List Int) (hl:l.length<=1048576):RUN T zqb [.sl 1 (zab l)]=some ([.own 1 (zab l)],[]) :=
 yd7 ygx (qd3 l) (by simp [zah]; omega)
theorem qar (l:List Nd) (hl:l.length<=1048576):RUN T zr1 [.sl 5 (l.map nd)]=some ([.own 5 (l.map nd)],[]) :=
 yd7 yjh (qjm l) (by simp [zah]; omega)
theorem qas (q:Bool) (t:Ta) (r:List Int) (hr:r.length<=9223372036854775807):RUN T zm3 [.sl 1 (zab r),.fptr [.sl 1 (za4 t.ns),.v (.string t.nm),.sl 1 (rws q t.rw),.sl 1 (zab t.lb)] 0]=some ([bv (!zfu t.ns.length r)],[]):=by
 have e:=ya1 r hr;unfold zfu;generalize r.all zcc=a at *;refine zae rfl rfl ?_;rcases Classical.propComplete ((r.length:Int)=t.ns.length) with h | h <;> cases a <;> simp [-getElem?_pos,z13,z16,e,h]
theorem qfr (l:List ByteArray) (x:ByteArray):za4 l++[[.v (.string x)]]=za4 (l++[x]):=by simp [za4]
theorem ym1 (q:Bool) (t:Ta) (ht:TaL 1048576 t):RUN T zm1 [taS q t]=some ([bv (zgp t)],[]):=by
 have h0:=qap t.ns ht.ns;have h1:=y80 (t.ns++[t.nm]) (by have:=ht.ns; simp; omega) (fun x hx=>by
  rcases List.mem_append.mp hx with e | e
  ·exact Nat.le_trans (ht.ss x e) (by omega)
  ·simp at e; subst e; exact Nat.le_trans ht.nm (by omega))
 have h2:=ya1 t.lb (Nat.le_trans ht.lb (by omega));have h3:=qao (q:=q) (f:=zm3) (cs:=[.sl 1 (za4 t.ns),.v (.string t.nm),.sl 1 (rws q t.rw),.sl 1 (zab t.lb)]) (p:=fun r => !zfu t.ns.length r) t.rw (Nat.le_trans ht.rw (by omega)) (by simp) (fun r hr=>qas q t r (Nat.le_trans (ht.rr r hr) (by omega)));have e3:(!(t.rw.any fun r => !zfu t.ns.length r))=t.rw.all (zfu t.ns.length):=by simp [List.any_eq_not_all_not]
 have g1:=zcq t.ns.length 1 4;have g2:=zcq t.rw.length 1 40;have hsn:=qfr t.ns t.nm;have hns:=ht.ns;have hr1:zah 16 1=true:=by decide
 have hr2:zah 16 (t.ns.length+1)=true:=by simp [zah]; omega
 have Z0:=bI g1 <| bI g2 <| bI h0 <| bI h1 <| bI h2 <| bI h3 <| bI hsn <| bI hr1 hr2
 unfold zgp;rw [<- e3];clear e3;generalize zg7 (t.ns++[t.nm])=a1 at *;generalize t.lb.all zcc=a2 at *;generalize (t.rw.any fun r => !zfu t.ns.length r)=a3 at *;generalize zaj t.ns.length 1 4=b1 at *;generalize zaj t.rw.length 1 40=b2 at *;refine zae rfl rfl ?_;cases b1 with
 | false=>simp [-getElem?_pos,zj4,zjz,-zbi,Z0]
 | true =>
 cases a1 with
 | false=>simp [-getElem?_pos,zj4,zjz,-zbi,Z0]
 | true =>
 cases b2 with
 | false=>simp [-getElem?_pos,zj4,zjz,-zbi,Z0]
 | true =>
 rcases Classical.propComplete ((t.lb.length:Int)=t.rw.length) with h | h
 ·cases a2 with
  | false=>simp [-getElem?_pos,zj4,zjz,-zbi,Z0,h]
  | true=>cases a3 <;> simp [-getElem?_pos,zj4,zjz,-zbi,Z0,h]
 ·simp [-getElem?_pos,zj4,zjz,-zbi,Z0,h]
abbrev taB (q:Bool) (t:Ta):List PV:=[.sl 1 (za4 t.ns),.v (.string t.nm),.sl 1 (rws q t.rw),.sl 1 (zab t.lb)]
theorem qc9 (q:Bool) (t:Ta) (ht:TaL 9223372036854775807 t) {Q:Ex->St->Prop} {st:St} (h1:st.V 1 = .ptr 0 none 0 0 0) (h3:st.V 3=iv t.ns.length) (h4:st.V 4=iv (0:Nat)) (hS:st.S 0=some (.box (taB q t)))
  (hr:zg7 t.ns=false->∀ s:St,s.V 2=bv false->Q .ret s) (he:zg7 t.ns=true->∀ s:St,s.V 1 = .ptr 0 none 0 0 0->s.V 3=iv t.ns.length->s.S 0=some (.box (taB q t))->Q (.exit 0) s):W (zac T) (RUN T) (.loop zta) st Q:=by
 refine zao (fun n st => ∃ i:Nat,i+n=t.ns.length/\(∀ j,j<i->nmB t.ns j=true)/\st.V 1 = .ptr 0 none 0 0 0/\st.V 3=iv t.ns.length/\st.V 4=iv i/\st.S 0=some (.box (taB q t))) ?_ t.ns.length _ ⟨0,by omega,fun _ h=>by omega,h1,h3,h4,hS⟩;clear h1 h3 h4 hS;rintro n st ⟨i,hi,hj,v1,v3,v4,hS⟩
 by_cases h:i<t.ns.length
 ·obtain ⟨x,hx⟩ : ∃ x,t.ns[i]?=some x:=⟨_,bG h⟩;have hx':=zmq hx;have hw:=wS h ht.ns;have hml:=ht.ns;have hN:=ymb x (ht.ss x (bF hx));have hC:=ymc (t.ns.take i) x (by simp; omega);have hc:=zxl hx;have hil:i<=t.ns.length:=by omega
  cases a1:zd1 x with
  | false =>
   rw [a1] at hN hc;simp [-getElem?_pos,zta,v1,v3,v4,hS,hx',h,hw,hN];exact hr (zgv h (by rw [hc]; rfl)) _ (by simp)
  | true =>
   rw [a1] at hN hc;cases a2:zgb (t.ns.take i) x with
   | true =>
    rw [a2] at hC hc;simp [-getElem?_pos,zta,v1,v3,v4,hS,hx',h,hw,hN,hC,hil,z98];exact hr (zgv h (by rw [hc]; rfl)) _ (by simp)
   | false =>
    rw [a2] at hC hc;simp [-getElem?_pos,zta,v1,v3,v4,hS,hx',h,hw,hN,hC,hil,z98];exact zai (n-1) (by omega) ⟨i+1,by omega,zia hj (by rw [hc]; rfl),by simp [v1,v3,hS]⟩
 ·simp [-getElem?_pos,zta,v3,v4,h];exact he (zuh fun j hj'=>hj j (by omega)) _ (by simp [v1]) (by simp [v3]) (by simp [hS])
theorem qc1 (q:Bool) (t:Ta) (ht:TaL 9223372036854775807 t) {r:List Int} {j:Nat} (hj:t.rw[j]?=some r) (hl:r.length=t.ns.length) {Q:Ex->St->Prop} {st:St} (h1:st.V 1 = .ptr 0 none 0 0 0) (h3:st.V 3=iv t.ns.length) (h5:st.V 5=iv j) (h6:st.V 6=iv (0:Nat)) (hS:st.S 0=some (.box (taB q t)))
  (hr:r.all zcc=false->∀ s:St,s.V 2=bv false->Q .ret s) (he:r.all zcc=true->∀ s:St,s.V 1 = .ptr 0 none 0 0 0->s.V 3=iv t.ns.length->s.V 5=iv j->s.S 0=some (.box (taB q t))->Q (.exit 4) s):W (zac T) (RUN T) (.loop zvd) st Q:=by
 have hj':=zct (q:=q) hj;have hjl:=(bD hj).1;refine zao (fun n st => ∃ i:Nat,i+n=r.length/\(∀ (k:Nat) (x:Int),k<i->r[k]?=some x->zcc x=true)/\st.V 1 = .ptr 0 none 0 0 0/\st.V 3=iv t.ns.length/\st.V 5=iv j/\st.V 6=iv i/\st.S 0=some (.box (taB q t))) ?_ r.length _ ⟨0,by omega,fun _ _ h=>by omega,h1,h3,h5,h6,hS⟩;clear h1 h3 h5 h6 hS;rintro n st ⟨i,hi,hk,v1,v3,v5,v6,hS⟩
 by_cases h:i<t.ns.length
 ·obtain ⟨x,hx⟩ : ∃ x,r[i]?=some x:=⟨_,bG (by omega)⟩;have hx':=zay hx;have hw:=wS h ht.ns;have hir:i<r.length:=by omega
  have hD:=zos x;cases a1:zcc x with
  | false =>
   rw [a1] at hD;simp [-getElem?_pos,zvd,-zos,v1,v3,v5,v6,hS,hj',hjl,hir,hx',h,hw,hD];exact hr (zx0 hx a1) _ (by simp)
  | true =>
   rw [a1] at hD;simp [-getElem?_pos,zvd,-zos,v1,v3,v5,v6,hS,hj',hjl,hir,hx',h,hw,hD];exact zai (n-1) (by omega) ⟨i+1,by omega,zkz (P:=fun _ x=>zcc x=true) hk hx a1,by simp [v1,v3,v5,hS]⟩
 ·simp [-getElem?_pos,zvd,v3,v6,h];exact he (zx7 fun k a h1 h2=>hk k a (by omega) h2) _ (by simp [v1]) (by simp [v3]) (by simp [v5]) (by simp [hS])
theorem yrr {M:List (List Int)} {p:List Int->Bool} {j:Nat} {a:List Int} (h1:M[j]?=some a) (h2:p a=false):M.all p=false:=by
 cases e:M.all p with
 | false=>rfl
 | true=>rw [List.all_eq_true.mp e a (bF h1)] at h2; cases h2
theorem qit {M:List (List Int)} {p:List Int->Bool} (h : ∀ (j:Nat) (a:List Int),j<M.length->M[j]?=some a->p a=true):M.all p=true:=by
 rw [List.all_eq_true];intro x hx;obtain ⟨j,hj⟩:=bH hx;exact h j x (bD hj).1 hj
theorem qd5 (q:Bool) (t:Ta) (ht:TaL 9223372036854775807 t) (hyl:t.lb.length=t.rw.length) {Q:Ex->St->Prop} {st:St} (h1:st.V 1 = .ptr 0 none 0 0 0) (h3:st.V 3=iv t.ns.length) (h5:st.V 5=iv (0:Nat)) (hS:st.S 0=some (.box (taB q t)))
  (hr:(t.lb.all zcc && t.rw.all (zfu t.ns.length))=false->∀ s:St,s.V 2=bv false->Q .ret s) (he:(t.lb.all zcc && t.rw.all (zfu t.ns.length))=true->∀ s:St,Q (.exit 2) s):W (zac T) (RUN T) (.loop ztb) st Q:=by
 refine zao (fun n st => ∃ i:Nat,i+n=t.rw.length/\(∀ (k:Nat) (x:Int),k<i->t.lb[k]?=some x->zcc x=true)/\(∀ (k:Nat) (x:List Int),k<i->t.rw[k]?=some x->zfu t.ns.length x=true)/\st.V 1 = .ptr 0 none 0 0 0/\st.V 3=iv t.ns.length/\st.V 5=iv i/\st.S 0=some (.box (taB q t))) ?_ t.rw.length _ ⟨0,by omega,fun _ _ h=>by omega,fun _ _ h=>by omega,h1,h3,h5,hS⟩;clear h1 h3 h5 hS;rintro n st ⟨i,hi,hk,hk2,v1,v3,v5,hS⟩
 by_cases h:i<t.rw.length
 ·obtain ⟨r,hx⟩ : ∃ x,t.rw[i]?=some x:=⟨_,bG h⟩;obtain ⟨y,hy⟩ : ∃ x,t.lb[i]?=some x:=⟨_,bG (by omega)⟩;have hx':=zct (q:=q) hx;have hy':=zay hy;have hw:=wS h ht.rw;have hil:i<t.lb.length:=by omega
  have hD:=zos y;have hrb:zfu t.ns.length r=(decide ((r.length:Int)=t.ns.length) && r.all zcc):=rfl;rcases Classical.propComplete ((r.length:Int)=t.ns.length) with e1 | e1
  ·cases a1:zcc y with
   | false =>
    rw [a1] at hD;simp [-getElem?_pos,ztb,-zos,v1,v3,v5,hS,hx',hy',h,hil,hD,e1];exact hr (by rw [zx0 hy a1]; rfl) _ (by simp)
   | true =>
    rw [a1] at hD;have e2:(r.length:Int)=t.ns.length:=by rw [e1]; trivial
    simp [-getElem?_pos,ztb,-zos,v1,v3,v5,hS,hx',hy',h,hil,hD,e1];refine qc1 q t ht hx (by omega) (by simp [v1]) (by simp [v3]) (by simp [v5]) (by simp) (by simp [hS]) (fun no s h2 => ?_) (fun ok s w1 w3 w5 wS => ?_)
    ·simp;refine hr ?_ _ (by simp [h2]);rw [yrr hx (by rw [hrb,no]; simp)]; simp
    ·simp [-getElem?_pos,w1,w3,w5,wS,hw];exact zai (n-1) (by omega) ⟨i+1,by omega,zkz (P:=fun _ x=>zcc x=true) hk hy a1,(fun k x h1 h2=>by
      rcases Nat.lt_or_ge k i with h3 | h3
      ·exact hk2 k x h3 h2
      ·have:k=i:=by omega
       subst this;rw [hx] at h2; cases h2;rw [hrb,ok,decide_eq_true e2]; rfl),by simp [w1,w3,wS]⟩
  ·simp [-getElem?_pos,ztb,-zos,v1,v3,v5,hS,hx',hy',h,hil,e1];refine hr ?_ _ (by simp);rw [yrr hx (by rw [hrb]; simp [e1])]; simp
 ·simp [-getElem?_pos,ztb,v1,v5,hS,h];exact he (by rw [zx7 fun k a h1 h2=>hk k a (by omega) h2,qit fun k a h1 h2=>hk2 k a (by omega) h2]; rfl) _
theorem ym2 (q:Bool) (t:Ta) (ht:TaL 9223372036854775807 t):RUN T zmw [taS q t]=some ([bv (zgp t)],[]):=by
 have g1:=zbj t.ns.length 1 4;have g2:=zbj t.rw.length 1 40;have g3:=ymb t.nm ht.nm;have g4:=ymc t.ns t.nm ht.ns;have mod:zgp t=(zaj t.ns.length 1 4 && (zg7 t.ns && (zd1 t.nm && !zgb t.ns t.nm)) && zaj t.rw.length 1 40 && decide ((t.lb.length:Int)=t.rw.length) && t.lb.all zcc && t.rw.all (zfu t.ns.length)):=by
  unfold zgp;rw [qfq]
 rw [mod];clear mod;generalize zaj t.ns.length 1 4=b1 at *;generalize zaj t.rw.length 1 40=b2 at *;generalize zd1 t.nm=b3 at *;generalize zgb t.ns t.nm=b4 at *;obtain ⟨R,hR⟩ : ∃ R,R=(b1 && (zg7 t.ns && (b3 && !b4)) && b2 && decide ((t.lb.length:Int)=t.rw.length) && t.lb.all zcc && t.rw.all (zfu t.ns.length)):=⟨_,rfl⟩;rw [<- hR];refine zae rfl rfl ?_;cases b1 with
 | false =>
  have hR:R=false:=by rw [hR]; simp
  subst hR;simp [-getElem?_pos,zjy,zjz,-za1,g1]
 | true =>
 cases b3 with
 | false =>
  have hR:R=false:=by rw [hR]; simp
  subst hR;simp [-getElem?_pos,zjy,zjz,-za1,g1,g3]
 | true =>
 cases b4 with
 | true =>
  have hR:R=false:=by rw [hR]; simp
  subst hR;simp [-getElem?_pos,zjy,zjz,-za1,g1,g3,g4]
 | false =>
 cases b2 with
 | false =>
  have hR:R=false:=by rw [hR]; simp
  subst hR;simp [-getElem?_pos,zjy,zjz,-za1,g1,g2,g3,g4]
 | true =>
 by_cases e2:(t.lb.length:Int)=t.rw.length
 ·have e1:((t.lb.length:Int)=t.rw.length)=True:=eq_true e2;rw [decide_eq_true e2] at hR;simp [-getElem?_pos,zjy,zjz,-za1,g1,g2,g3,g4,e1];refine qc9 q t ht (by simp) (by simp) (by simp) (by simp) (fun no s h2 => ?_) (fun ok s u1 u3 uS => ?_)
  ·have hR:R=false:=by rw [hR,no]; simp
   simp [h2,hR]
  ·simp [-getElem?_pos,u1,u3,uS];refine qd5 q t ht (by omega) (by simp [u1]) (by simp [u3]) (by simp) (by simp [uS]) (fun no s h2 => ?_) (fun ok2 s => ?_)
   ·have hR:R=false:=by rw [hR,ok]; generalize t.lb.all zcc=a at *; generalize t.rw.all (zfu t.ns.length)=b at *; cases a <;> cases b <;> first | rfl | cases no
    simp [h2,hR]
   ·have hR:R=true:=by rw [hR,ok]; generalize t.lb.all zcc=a at *; generalize t.rw.all (zfu t.ns.length)=b at *; cases a <;> cases b <;> first | rfl | cases ok2
    simp [hR]
 ·have e1:((t.lb.length:Int)=t.rw.length)=False:=eq_false e2;have hR:R=false:=by rw [hR,decide_eq_false e2]; simp
  subst hR;simp [-getElem?_pos,zjy,zjz,-za1,g1,g2,g3,g4,e1]
theorem ym3 (t:List Nd) (hl:t.length<=1048576):RUN T zm5 [.agg [.sl 5 (t.map nd)]]=some ([.agg [.own 5 (t.map nd)]],[]):=by
 have e:=qar t hl;refine zae rfl rfl ?_;simp [-getElem?_pos,z19,z2a,e]
theorem ym4 (t:List Nd) (hl:t.length<=1048576):RUN T zm7 [.agg [.sl 5 (t.map nd)]]=some ([.agg [.own 5 (t.map nd)]],[]):=by
 have h0:zah 40 0=true:=by decide
 have h1:zah 40 t.length=true:=by simp [zah]; omega
 have h2:=qdt t;refine zae rfl rfl ?_;simp [-getElem?_pos,z2d,z2a,h0,h1,h2]
theorem qat (q:Bool) (M:List (List Nd)) (hl:M.length<=1048576) (ht : ∀ t∈M,t.length<=1048576):RUN T zqc [.sl 1 (trs q M)]=some ([.own 1 (trs true M)],[]):=by
 have hr0:zah 24 0=true:=by decide
 have hr1:zah 24 1=true:=by decide
 refine zae rfl rfl ?_;simp [-getElem?_pos,zz4,zzx,hr0];refine zao (fun n st => ∃ (i o e:Nat),i+n=M.length/\st.V 3 = .ref o none e 0 i/\st.V 7 = .sl 1 (trs q M)/\st.V 8=iv M.length/\st.V 9=iv i/\o<st.nx/\st.S o=some (.row 1 (trs true (M.take i)))) ?_ M.length _ ⟨0,0,0,by omega,by simp [trs]⟩;rintro n st ⟨i,o,ep,hi,v3,v7,v8,v9,hox,hSo⟩;obtain ⟨x1,x2,x3,x4⟩:=fr hox;have na : ∀ a b:Nat,st.nx+a+b=st.nx+(a+b):=fun a b=>Nat.add_assoc _ _ _
 by_cases h:i<M.length
 ·obtain ⟨t,hx⟩ : ∃ t,M[i]?=some t:=⟨_,bG h⟩;have hx':=zmm (q:=q) hx;have hw:=wS h (by omega:M.length<=9223372036854775807);have e1:=ym3 t (ht t (bF hx));have hr24:zah 24 (i+1)=true:=by simp [zah]; omega
  have hsn:trs true (M.take i)++[[.own 5 (t.map nd)]]=trs true (M.take (i+1)):=by rw [yqq,List.take_succ,hx]; rfl
  have hml:(M.take i).length=i:=by simp; omega
  simp [-getElem?_pos,yac,v3,v7,v8,v9,hSo,h,hx',hw,e1,hr1,hr24,hsn,hml,x1,x2,x3,x4,na];exact zai (n-1) (by omega) ⟨i+1,st.nx+3,st.ep,by omega,by simp; omega,by simp [v7,v8]⟩
 ·have e:i=M.length:=by omega
  subst e;rw [List.take_length] at hSo;simp [-getElem?_pos,yac,v3,v8,v9,hSo,h]
theorem qau (q:Bool) (M:List (List Nd)) (hl:M.length<=1048576) (ht : ∀ t∈M,t.length<=1048576):RUN T zqd [.sl 1 (trs q M)]=some ([.own 1 (trs true M)],[]):=by
 have hr0:zah 24 0=true:=by decide
 have hr1:zah 24 1=true:=by decide
 refine zae rfl rfl ?_;simp [-getElem?_pos,zz6,zzx,hr0];refine zao (fun n st => ∃ (i o e:Nat),i+n=M.length/\st.V 0 = .sl 1 (trs q M)/\st.V 3 = .ref o none e 0 i/\st.V 4=iv i/\o<st.nx/\st.S o=some (.row 1 (trs true (M.take i)))) ?_ M.length _ ⟨0,0,0,by omega,by simp [trs]⟩;rintro n st ⟨i,o,ep,hi,v0,v3,v4,hox,hSo⟩;obtain ⟨x1,x2,x3,x4⟩:=fr hox;have na : ∀ a b:Nat,st.nx+a+b=st.nx+(a+b):=fun a b=>Nat.add_assoc _ _ _
 by_cases h:i<M.length
 ·obtain ⟨t,hx⟩ : ∃ t,M[i]?=some t:=⟨_,bG h⟩;have hx':=zmm (q:=q) hx;have hw:=wS h (by omega:M.length<=9223372036854775807);have e1:=ym4 t (ht t (bF hx));have hr24:zah 24 (i+1)=true:=by simp [zah]; omega
  have hsn:trs true (M.take i)++[[.own 5 (t.map nd)]]=trs true (M.take (i+1)):=by rw [yqq,List.take_succ,hx]; rfl
  have hml:(M.take i).length=i:=by simp; omega
  simp [-getElem?_pos,yad,v0,v3,v4,hSo,h,hx',hw,e1,hr1,hr24,hsn,hml,x1,x2,x3,x4,na];exact zai (n-1) (by omega) ⟨i+1,st.nx+2,st.ep,by omega,by simp [v0],by simp; omega,by simp⟩
 ·have e:i=M.length:=by omega
  subst e;rw [List.take_length] at hSo;simp [-getElem?_pos,yad,v0,v3,v4,hSo,h]
open Classical in
noncomputable def zx8 (k:Int):ByteArray:=if h : ∃ s:ByteArray,RUN T zjt [iv k]=some ([.v (.string s)],[]) then Classical.choose h else ⟨#[]⟩
theorem qav (k:Int) (hk:k<=4611686018427387904):RUN T zjt [iv k]=some ([.v (.string (zx8 k))],[]):=by
 obtain ⟨r,h1,s,rfl⟩:=y86 k hk;have h : ∃ s:ByteArray,RUN T zjt [iv k]=some ([.v (.string s)],[]):=⟨s,h1⟩;unfold zx8;rw [dif_pos h];exact Classical.choose_spec h
noncomputable def zfs (k:Int) (n:Nat):List ByteArray:=(List.range n).map fun (i:Nat)=>zx8 (k+i)
theorem zo1 (k:Int) (n:Nat):(zfs k n).length=n:=by simp [zfs]
theorem qeg (k:Int) (n:Nat):zfs k (n+1)=zfs k n++[zx8 (k+n)]:=by simp [zfs,List.range_succ]
theorem qaw (l:List ByteArray) (k:Int) (h0:0<=k) (hk:k+l.length<=4611686018427387904):RUN T zqz [.own 1 (za4 l),iv k]=some ([iv (k+l.length)],[.own 1 (za4 (zfs k l.length))]):=by
 refine zae rfl rfl ?_;simp [-getElem?_pos,z1h,zyz];refine zao (fun n st => ∃ i:Nat,i+n=l.length/\st.V 0 = .ref 0 none 0 0 l.length/\st.V 1=iv (k+i)/\st.V 5=iv i/\st.S 0=some (.row 1 (za4 (zfs k i++l.drop i)))) ?_ l.length _ ⟨0,by omega,by simp [zfs]⟩;rintro n st ⟨i,hi,v0,v1,v5,hS⟩;have hll:(zfs k i++l.drop i).length=l.length:=by simp [zo1]; omega
 by_cases h:i<l.length
 ·have h1:=qav (k+i) (by omega);obtain ⟨x,hx⟩ : ∃ x,l[i]?=some x:=⟨_,bG h⟩;have hx2:(zfs k i++l.drop i)[i]?=some x:=by
   rw [List.getElem?_append_right (by rw [zo1]; omega),zo1];simpa using hx
  have hx':=zmq hx2;have hset:(za4 (zfs k i++l.drop i)).set i [.v (.string (zx8 (k+i)))]=za4 (zfs k (i+1)++l.drop (i+1)):=by
   rw [qjf,List.set_append_right _ _ (by rw [zo1]; omega),zo1,Nat.sub_self,zc3 hx,qeg];simp
  have hw:=wS h (by omega:l.length<=9223372036854775807);have hw2:=w64 (x:=k+i+1) (by omega) (by omega);generalize zfs k i++l.drop i=A at *;generalize hA2:zfs k (i+1)++l.drop (i+1)=A' at *;have hsl:(za4 A).length=l.length:=by simpa [za4] using hll
  simp [-getElem?_pos,yag,v0,v1,v5,hS,hll,hsl,h,h1,hx',hset,hw,hw2];exact zai (n-1) (by omega) ⟨i+1,by omega,by simp [v0],by simp; omega,by simp [hA2]⟩
 ·have e:i=l.length:=by omega
  subst e;rw [List.drop_length,List.append_nil] at hS;have hll:=zo1 k l.length;generalize zfs k l.length=A at *;simp [-getElem?_pos,yag,v0,v1,v5,hS,hll,h]
theorem qax (L:List (List Nd)) (k:Int) (h0:0<=k) (hk:k+5*zba L<=9223372036854775806) (hL:L.length<=9223372036854775807):RUN T zq2 [.sl 1 (trs true ((List.range L.length).map (zgh k L))),iv k]=some ([iv (k+5*zba L)],[]):=by
 obtain ⟨M,hM⟩ : ∃ M,M=(List.range L.length).map (zgh k L):=⟨_,rfl⟩;have hMl:M.length=L.length:=by rw [hM]; simp
 rw [<- hM];refine zae rfl rfl ?_;simp [-getElem?_pos,z1r,zyz];refine zao (fun n st => ∃ i:Nat,i+n=L.length/\st.V 0 = .sl 1 (trs true M)/\st.V 1=iv (k+5*zba (L.take i))/\st.V 5=iv i) ?_ L.length _ ⟨0,by simp [zba]⟩;rintro n st ⟨i,hi,v0,v1,v5⟩
 by_cases h:i<L.length
 ·obtain ⟨l,hx⟩ : ∃ l,L[i]?=some l:=⟨_,bG h⟩;have hw:=wS h hL;have hle:=yuo L (i+1);have htk:=yn9 hx;have hm:M[i]?=some (zff (k+5*zba (L.take i)) l.length):=by
   have hli:L[i]=l:=by rw [bG h] at hx; exact Option.some.inj hx
   rw [hM]; simp [h,zgh,hli]
  have hm':=zmm (q:=true) hm;have hh:=qam (k+5*zba (L.take i)) l.length (by omega) (by omega);have hn : ¬ k+5*(zba (L.take i):Int)+5*(l.length:Int)<0:=by omega
  simp only [zfa,if_true] at hm';generalize zff (k+5*zba (L.take i)) l.length=nn at *;simp [-getElem?_pos,yah,v0,v1,v5,hMl,h,hm',hh,hw,hn];exact zai (n-1) (by omega) ⟨i+1,by omega,by simp [v0],by simp [htk]; omega,by simp⟩
 ·have e:i=L.length:=by omega
  subst e;rw [List.take_length] at v1;simp [-getElem?_pos,yah,v0,v1,v5,hMl,h]
theorem qay (t:Ta) (k:Int) (h0:0<=k) (hk:k<=1048576) (ht:TaL 1048576 t) (hr:za7 t.rw<=1048576) : ∃ t':Ta,t'.ns.length=t.ns.length/\t'.rw.length=t.rw.length/\t'.lb.length=t.lb.length/\RUN T zp1 [taO t,iv k]=some ([iv (k+t.ns.length+za7 t.rw+t.lb.length)],[.own 1 (za4 t'.ns),.own 1 (rws true t'.rw),.own 1 (zab t'.lb)]):=by
 have hm1:=ht.ns;have hm2:=ht.rw;have hm3:=ht.lb;have h1:=qaw t.ns k h0 (by omega);have h2:=yba t.rw (k+t.ns.length) (by omega) (by omega) (by omega);have h3:=zxd t.lb (k+t.ns.length+za7 t.rw) (by omega) (by omega);have hsl:=zo1 k t.ns.length;generalize hM:(List.range t.rw.length).map (zox (k+t.ns.length) t.rw)=M at *;have hMl:M.length=t.rw.length:=by rw [<- hM]; simp
 generalize hu:upto (k+t.ns.length+za7 t.rw) t.lb.length=u at *;have hul:u.length=t.lb.length:=by rw [<- hu]; simp [upto]
 generalize zfs k t.ns.length=A at *;refine ⟨⟨A,t.nm,M,u⟩,hsl,hMl,hul,zae rfl rfl ?_⟩;simp [-getElem?_pos,zzc,zyz,h1,h2,h3,taO,hsl,hul,hMl,qfp]
theorem qaz (s:Sta) (k:Int) (h0:0<=k) (hk:k<=16777216) (hs:zfg 1048576 s) (hr:zba s.ts<=1048576) : ∃ s':Sta,s'.sm.length=s.sm.length/\s'.ts.length=s.ts.length/\RUN T zk5 [stO s,iv k]=some ([iv (k+s.sm.length+5*zba s.ts)],[.own 1 (zab s'.sm),.own 1 (trs true s'.ts)]):=by
 have hm1:=hs.sm;have hm2:=hs.ts;have h1:=zxd s.sm k h0 (by omega);have h2:=ymi s.ts (k+s.sm.length) (by omega) (by omega) (by omega);generalize hM:(List.range s.ts.length).map (zgh (k+s.sm.length) s.ts)=M at *;have hMl:M.length=s.ts.length:=by rw [<- hM]; simp
 generalize hu:upto k s.sm.length=u at *;have hul:u.length=s.sm.length:=by rw [<- hu]; simp [upto]
 refine ⟨⟨u,M⟩,hul,hMl,zae rfl rfl ?_⟩;simp [-getElem?_pos,zvg,zyz,h1,h2,stO,hul,hMl]
def zjd (c:Cfg) (x:Nd):Nd:=if x.f = -1 then ⟨x.f,x.c,x.l,x.r,(shr x.v c).1⟩ else x
def zms (c:Cfg) (x:Nd):Bool := !decide (x.f = -1) || (shr x.v c).2
def zgw (c:Cfg) (t:List Nd):List Nd×Bool:=if t.all (zms c)=true then (t.map (zjd c),true) else ([],false)
theorem yra : ∀ (t:List Nd) (i:Int) (j:Int),j∈lvs t i↔∃ (k:Nat) (x:Nd),j=i+k/\t[k]?=some x/\x.f = -1
 | [],i,j=>by simp [lvs]
 | x::xs,i,j=>by
  have ih:=yra xs (i+1) j;have key:(∃ (k:Nat) (y:Nd),j=i+k/\(x::xs)[k]?=some y/\y.f = -1)↔(j=i/\x.f = -1)\/∃ (k:Nat) (y:Nd),j=i+1+k/\xs[k]?=some y/\y.f = -1:=by
   constructor
   ·rintro ⟨k,y,h1,h2,h3⟩;cases k with
    | zero=>simp at h2; subst h2; exact .inl ⟨by omega,h3⟩
    | succ k=>exact .inr ⟨k,y,by omega,by simpa using h2,h3⟩
   ·rintro (⟨h1,h2⟩ | ⟨k,y,h1,h2,h3⟩)
    ·exact ⟨0,x,by omega,rfl,h2⟩
    ·exact ⟨k+1,y,by omega,by simpa using h2,h3⟩
  rw [key,<- ih];simp only [lvs];split
  ·rename_i hf;rw [List.mem_cons];constructor
   ·rintro (h | h)
    ·exact .inl ⟨h,hf⟩
    ·exact .inr h
   ·rintro (h | h)
    ·exact .inl h.1
    ·exact .inr h
  ·rename_i hf;constructor
   ·exact .inr
   ·rintro (h | h)
    ·exact absurd h.2 hf
    ·exact h
def zu0 (c:Cfg) (t C:List Nd) (p:Nat->Prop):Prop:=C.length=t.length/\∀ (j:Nat) (x:Nd),t[j]?=some x->(p j->C[j]?=some (zjd c x))/\(¬ p j->C[j]?=some x)
theorem yo5 {c:Cfg} {t C:List Nd} {p:Nat->Prop} (h:zu0 c t C p) (hp : ∀ (j:Nat) (x:Nd),t[j]?=some x->x.f = -1->p j):C=t.map (zjd c):=by
 refine List.ext_getElem? fun j => ?_;rcases Nat.lt_or_ge j t.length with hj | hj
 ·obtain ⟨x,hx⟩ : ∃ x,t[j]?=some x:=⟨_,bG hj⟩;obtain ⟨h1,h2⟩:=h.2 j x hx;rw [List.getElem?_map,hx,Option.map_some];rcases Classical.em (p j) with hpj | hpj
  ·exact h1 hpj
  ·rw [h2 hpj]
   by_cases hf:x.f = -1
   ·exact absurd (hp j x hx hf) hpj
   ·unfold zjd; rw [if_neg hf]
 ·rw [List.getElem?_eq_none (by rw [h.1]; omega),List.getElem?_eq_none (by simpa using hj)]
theorem yo1 {c:Cfg} {t C:List Nd} {p:Nat->Prop} {i:Nat} {x:Nd} (h:zu0 c t C p) (hx:t[i]?=some x) (hf:x.f = -1):zu0 c t (C.set i ⟨x.f,x.c,x.l,x.r,(shr x.v c).1⟩) (fun j=>p j\/j=i):=by
 refine ⟨by rw [List.length_set,h.1],fun j y hy => ?_⟩;obtain ⟨h1,h2⟩:=h.2 j y hy;have hi:=(bD hx).1
 by_cases e:j=i
 ·subst e;rw [hx] at hy; cases hy;refine ⟨fun _ => ?_,fun hn=>absurd (.inr rfl) hn⟩;rw [List.getElem?_set_self (by rw [h.1]; exact hi)];unfold zjd; rw [if_pos hf]
 ·rw [List.getElem?_set_ne (fun h=>e h.symm)];exact ⟨fun hp=>h1 (hp.resolve_right e),fun hn=>h2 fun hp=>hn (.inl hp)⟩
theorem yo6 {c:Cfg} {t C:List Nd} {p:Nat->Prop} {i:Nat} {x:Nd} (h:zu0 c t C p) (hx:t[i]?=some x) : ∃ v,C[i]?=some ⟨x.f,x.c,x.l,x.r,v⟩:=by
 obtain ⟨h1,h2⟩:=h.2 i x hx;rcases Classical.em (p i) with hp | hp
 ·rw [h1 hp];unfold zjd;split
  ·exact ⟨_,rfl⟩
  ·exact ⟨x.v,rfl⟩
 ·exact ⟨x.v,h2 hp⟩
theorem yu9 {c:Cfg} {t:List Nd} {i:Nat} {x:Nd} (hx:t[i]?=some x) (hf:x.f = -1) (hs:(shr x.v c).2=false):t.all (zms c)=false:=by
 cases e:t.all (zms c) with
 | false=>rfl
 | true =>
  have:=List.all_eq_true.mp e x (bF hx);unfold zms at this;rw [hs,decide_eq_true hf] at this;cases this
theorem yq1 {c:Cfg} {t:List Nd} (h : ∀ (j:Nat) (x:Nd),t[j]?=some x->x.f = -1->(shr x.v c).2=true):t.all (zms c)=true:=by
 rw [List.all_eq_true];intro x hx;obtain ⟨j,hj⟩:=bH hx;unfold zms
 by_cases hf:x.f = -1
 ·rw [h j x hj hf]; simp
 ·rw [decide_eq_false hf]; rfl
theorem qa0 (t:List Nd) (c:Cfg) (hl:t.length<=1048576) (hc:c.sg.length<=1048576):RUN T zqt [.agg [.sl 5 (t.map nd)],zb6 c]=some ([.agg [.own 5 ((zgw c t).1.map nd)],bv (zgw c t).2],[]):=by
 have e1:=ym4 t hl;obtain ⟨R,hR⟩ : ∃ R,R=zgw c t:=⟨_,rfl⟩;have hR':R=if t.all (zms c)=true then (t.map (zjd c),true) else ([],false):=hR
 rw [<- hR];clear hR;simp only [zb6];refine zae rfl rfl ?_;simp [-getElem?_pos,z0t,z0q,e1];refine zao (fun n st => ∃ (i:Nat) (C:List Nd),i+n=t.length/\zu0 c t C (fun j=>j<i)/\(∀ (j:Nat) (x:Nd),j<i->t[j]?=some x->(x.f = -1->(shr x.v c).2=true))/\st.V 2 = .ptr 0 none 0 0 0/\st.V 3 = .ptr 1 none 0 0 0/\st.V 4 = .ptr 2 none 0 0 0/\st.V 6 = .ptr 4 none 0 0 0/\st.V 7=iv i/\4<st.nx/\st.S 0=some (.box [.sl 5 (t.map nd)])/\st.S 1=some (.box [iv c.ro,iv c.de,iv c.bi,iv c.la,iv c.rw,iv c.nu,iv c.dn,.sl 1 (zab c.sg)])/\st.S 2=some (.box [.e0])/\st.S 4=some (.box [.ref 3 none 0 0 t.length])/\st.S 3=some (.row 5 (C.map nd))) ?_ t.length _ ⟨0,t,by omega,⟨rfl,fun j x hx=>⟨fun h=>by omega,fun _=>hx⟩⟩,fun j x h=>by omega,by simp⟩;rintro n st ⟨i,C,hi,hC,hok,v2,v3,v4,v6,v7,h4x,hS0,hS1,hS2,hS4,hS3⟩;have Z0:=bI hS0 <| bI hS1 <| bI hS2 hS4
 obtain ⟨z1,z2,z3,z4⟩:=fr h4x
 by_cases h:i<t.length
 ·obtain ⟨x,hx⟩ : ∃ x,t[i]?=some x:=⟨_,bG h⟩;have hx':=z9d hx;have hw:=wS h (by omega:t.length<=9223372036854775807);have f1:=y8b x.v c (by omega);obtain ⟨v,hv⟩:=yo6 hC hx;have hv':=z9d hv;have hCl:i<C.length:=by rw [hC.1]; exact h
  simp only [zb6] at f1;rcases Classical.propComplete (x.f = -1) with hf | hf
  ·have hf':x.f = -1:=by rw [hf]; trivial
   have hset:=yoe C i x.f x.c x.l x.r (shr x.v c).1;have hI:=yo1 hC hx hf';cases hb:(shr x.v c).2 with
   | false =>
    rw [yu9 hx hf' hb,if_neg (by simp)] at hR';subst hR';rw [hb] at f1;simp [-getElem?_pos,zvw,v2,v3,v4,v6,v7,Z0,hS3,h,hx',hf,f1]
   | true =>
    have hok2:=zkz (P:=fun _ x=>x.f = -1->(shr x.v c).2=true) hok hx (fun _=>hb);rw [hb] at f1;simp [-getElem?_pos,zvw,v2,v3,v4,v6,v7,Z0,hS3,h,hx',hw,hf,f1,hv',hCl,hC.1,hset];exact zai (n-1) (by omega) ⟨i+1,_,by omega,⟨hI.1,fun j y hy=>⟨fun hj=>(hI.2 j y hy).1 (by omega),fun hj=>(hI.2 j y hy).2 (by omega)⟩⟩,hok2,by simp [v2,v3,v4,v6,h4x,Z0]⟩
  ·have hf' : ¬ x.f = -1:=by rw [hf]; exact id
   have hok2:=zkz (P:=fun _ x=>x.f = -1->(shr x.v c).2=true) hok hx (fun h=>absurd h hf');simp [-getElem?_pos,zvw,v2,v3,v4,v6,v7,Z0,hS3,h,hx',hw,hf];refine zai (n-1) (by omega) ⟨i+1,C,by omega,⟨hC.1,fun j y hy=>⟨fun hj => ?_,fun hj=>(hC.2 j y hy).2 (by omega)⟩⟩,hok2,by simp [v2,v3,v4,v6,h4x,Z0,hS3]⟩
   by_cases e:j=i
   ·subst e;rw [hx] at hy; cases hy;rw [(hC.2 j x hx).2 (by omega)];unfold zjd; rw [if_neg hf']
   ·exact (hC.2 j y hy).1 (by omega)
 ·have hall:=yo5 hC (fun j x hx _=>by have:=(bD hx).1; omega);rw [yq1 (fun j x hx hf=>hok j x (by have:=(bD hx).1; omega) hx hf),if_pos rfl,<- hall] at hR';have hCl:=hC.1;subst hR';simp [-getElem?_pos,zvw,v2,v4,v6,v7,hS0,hS2,hS4,hS3,h,hCl]
theorem qa1 (t:List Nd) (c:Cfg) (hl:t.length<=1048576) (hc:c.sg.length<=1048576):RUN T zqp [.agg [.sl 5 (t.map nd)],zb6 c]=some ([.agg [.own 5 ((zgw c t).1.map nd)],bv (zgw c t).2],[]):=by
 have e1:=ym3 t hl;have e2:=y71 t hl;have hll:=ybs t 0;have hmem:=yra t 0;generalize lvs t 0=L at *;obtain ⟨R,hR⟩ : ∃ R,R=zgw c t:=⟨_,rfl⟩;have hR':R=if t.all (zms c)=true then (t.map (zjd c),true) else ([],false):=hR
 rw [<- hR];clear hR;simp only [zb6];refine zae rfl rfl ?_;simp [-getElem?_pos,z0p,z0q,e1,e2];refine zao (fun n st => ∃ (i:Nat) (C:List Nd),i+n=L.length/\zu0 c t C (fun j=>(j:Int)∈L.take i)/\(∀ (k:Nat) (y:Int),k<i->L[k]?=some y->∀ (j:Nat) (x:Nd),y=j->t[j]?=some x->(shr x.v c).2=true)/\st.V 2 = .ptr 0 none 0 0 0/\st.V 3 = .ptr 1 none 0 0 0/\st.V 4 = .ptr 2 none 0 0 0/\st.V 6 = .ptr 4 none 0 0 0/\st.V 14 = .ref 5 none 0 0 L.length/\st.V 15=iv L.length/\st.V 16=iv i/\5<st.nx/\st.S 0=some (.box [.sl 5 (t.map nd)])/\st.S 1=some (.box [iv c.ro,iv c.de,iv c.bi,iv c.la,iv c.rw,iv c.nu,iv c.dn,.sl 1 (zab c.sg)])/\st.S 2=some (.box [.e0])/\st.S 4=some (.box [.ref 3 none 0 0 t.length])/\st.S 5=some (.row 1 (zab L))/\st.S 3=some (.row 5 (C.map nd))) ?_ L.length _ ⟨0,t,by omega,⟨rfl,fun j x hx=>⟨fun h=>by simp at h,fun _=>hx⟩⟩,fun k y h=>by omega,by simp⟩;rintro n st ⟨i,C,hi,hC,hok,v2,v3,v4,v6,v14,v15,v16,h5x,hS0,hS1,hS2,hS4,hS5,hS3⟩;obtain ⟨z1,z2,z3,z4⟩:=fr h5x
 by_cases h:i<L.length
 ·obtain ⟨y,hy⟩ : ∃ y,L[i]?=some y:=⟨_,bG h⟩;obtain ⟨k,x,hyk,hx,hf'⟩:=(hmem y).mp (bF hy);have hyk:y=(k:Int):=by omega
  subst hyk;have hy':=zay hy;have hkt:=(bD hx).1;have hx':=z9d hx;have hw:=wS h (by omega:L.length<=9223372036854775807);have f1:=y8c x.v c (by omega);obtain ⟨v,hv⟩:=yo6 hC hx;have hv':=z9d hv;have hCl:k<C.length:=by rw [hC.1]; exact hkt
  simp only [zb6] at f1;have hset:=yoe C k x.f x.c x.l x.r (shr x.v c).1;have hI:=yo1 hC hx hf';have htk:L.take (i+1)=L.take i++[(k:Int)]:=by rw [List.take_succ,hy]; rfl
  cases hb:(shr x.v c).2 with
  | false =>
   rw [yu9 hx hf' hb,if_neg (by simp)] at hR';subst hR';rw [hb] at f1;simp [-getElem?_pos,z0o,v2,v3,v4,v6,v14,v15,v16,hS0,hS1,hS2,hS4,hS5,hS3,h,hy',hkt,hx',f1]
  | true =>
   rw [hb] at f1;have hok2 : ∀ (k':Nat) (y:Int),k'<i+1->L[k']?=some y->∀ (j:Nat) (x:Nd),y=j->t[j]?=some x->(shr x.v c).2=true:=by
    intro k' y hk' hy2 j x2 e1 e2;rcases Nat.lt_or_ge k' i with h3 | h3
    ·exact hok k' y h3 hy2 j x2 e1 e2
    ·have e3:k'=i:=by omega
     subst e3;rw [hy] at hy2; cases hy2;have e4:j=k:=by omega
     subst e4;rw [hx] at e2; cases e2;exact hb
   simp [-getElem?_pos,z0o,v2,v3,v4,v6,v14,v15,v16,hS0,hS1,hS2,hS4,hS5,hS3,h,hy',hkt,hx',hw,f1,hv',hCl,hC.1,hset];refine zai (n-1) (by omega) ⟨i+1,_,by omega,⟨hI.1,fun j y hy2=>⟨fun hj=>(hI.2 j y hy2).1 ?_,fun hj=>(hI.2 j y hy2).2 ?_⟩⟩,hok2,by simp [v2,v3,v4,v6,v14,v15,h5x,hS0,hS1,hS2,hS4,hS5]⟩
   ·rw [htk,List.mem_append,List.mem_singleton] at hj;exact hj.imp id (fun e=>by omega)
   ·intro hp;apply hj;rw [htk,List.mem_append,List.mem_singleton];exact hp.imp id (fun e=>by omega)
 ·have hiL:i=L.length:=by omega
  subst hiL;rw [List.take_length] at hC;have hin : ∀ (j:Nat) (x:Nd),t[j]?=some x->x.f = -1->(j:Int)∈L:=fun j x hx hf=>(hmem j).mpr ⟨j,x,by omega,hx,hf⟩;have hall:=yo5 hC hin;rw [yq1 (fun j x hx hf=>by
   obtain ⟨k,hk⟩:=bH (hin j x hx hf);exact hok k j (bD hk).1 hk j x rfl hx),if_pos rfl,<- hall] at hR'
  have hCl:=hC.1;subst hR';simp [-getElem?_pos,z0o,v2,v4,v6,v14,v15,v16,hS0,hS2,hS4,hS3,h,hCl]
theorem yep (c:Cfg) (t:List Nd):(zgw c t).1.length<=t.length:=by
 unfold zgw;split
 ·simp
 ·simp
theorem z8a (l:List Int):(zd3 l).length=l.length:=by
 unfold zd3;rw [qiw]; simp
theorem yuw (x:Int) (l:List Int) : ∀ k:Nat,(∀ j,pos x l k<=j->j<k->x<l.getD j 0)/\(pos x l k=0\/l.getD (pos x l k-1) 0<=x)
 | 0=>by
  refine ⟨fun j _ h=>by omega,.inl ?_⟩;simp only [pos]
 | k+1=>by
  obtain ⟨h1,h2⟩:=yuw x l k;rw [yd0]
  by_cases hc:x<l.getD k 0
  ·rw [if_pos hc];refine ⟨fun j hj hk => ?_,h2⟩
   by_cases hjk:j=k
   ·subst hjk; exact hc
   ·exact h1 j hj (by omega)
  ·rw [if_neg hc];refine ⟨fun j hj hk=>by omega,.inr ?_⟩;simp only [Nat.add_sub_cancel];omega
def srt (l:List Int):Prop:=l.Pairwise fun a b=>a<=b
theorem zoy {l:List Int} (h:srt l) {i j:Nat} {a b:Int} (hij:i<=j) (ha:l[i]?=some a) (hb:l[j]?=some b):a<=b:=by
 by_cases e:i=j
 ·subst e; rw [ha] at hb; cases hb; exact Int.le_refl _
 ·obtain ⟨hi,rfl⟩:=bD ha;obtain ⟨hj,rfl⟩:=bD hb;exact List.pairwise_iff_getElem.mp h i j hi hj (by omega)
theorem qfw {l:List Int} (h:srt l) (x:Int):srt (ins l x):=by
 obtain ⟨P,hP⟩:=zec.ex x l l.length;rw [z8l hP];have hp:pos x l l.length=P:=by unfold zec at hP; exact hP
 obtain ⟨h1,h2⟩:=yuw x l l.length;rw [hp] at h1 h2;have hle:=yei x l l.length;rw [hp] at hle;unfold srt;rw [List.pairwise_append];refine ⟨h.sublist (List.take_sublist _ _),?_,?_⟩
 ·rw [List.pairwise_cons];refine ⟨fun b hb => ?_,h.sublist (List.drop_sublist _ _)⟩;obtain ⟨j,hj⟩:=bH hb;rw [List.getElem?_drop] at hj;have hlt:=(bD hj).1;have:=h1 (P+j) (by omega) hlt;rw [List.getD,hj,Option.getD_some] at this;omega
 ·intro a ha b hb;obtain ⟨i,hi⟩:=bH ha;have hi2:i<P:=by
   have:=(bD hi).1;simp at this; omega
  rw [List.getElem?_take_of_lt hi2] at hi;have hax:a<=x:=by
   rcases h2 with h2 | h2
   ·omega
   ·obtain ⟨y,hy⟩ : ∃ y,l[P-1]?=some y:=⟨_,bG (by omega)⟩;rw [List.getD,hy,Option.getD_some] at h2;have:=zoy h (by omega:i<=P-1) hi hy;omega
  rcases List.mem_cons.mp hb with rfl | hb
  ·exact hax
  ·obtain ⟨j,hj⟩:=bH hb;rw [List.getElem?_drop] at hj;exact zoy h (by omega:i<=P+j) hi hj
theorem qb4 (l:List Int) (x:Int):(ins l x).Perm (x::l):=by
 obtain ⟨P,hP⟩:=zec.ex x l l.length;rw [z8l hP];have:=List.perm_middle (a:=x) (l₁:=l.take P) (l₂:=l.drop P)
 rwa [List.take_append_drop] at this
theorem zxz : ∀ (l a:List Int),srt a->srt (l.foldl ins a)/\(l.foldl ins a).Perm (a++l)
 | [],a,h=>⟨h,by simp⟩
 | x::l,a,h=>by
  obtain ⟨h1,h2⟩:=zxz l (ins a x) (qfw h x);refine ⟨h1,h2.trans ?_⟩;refine ((qb4 a x).append_right l).trans ?_;exact List.perm_middle.symm
theorem qfn (l:List Int):zh8 l=zd3 l:=by
 obtain ⟨h1,h2⟩:=zxz l [] List.Pairwise.nil;have h3:srt (zh8 l):=by
  have:=List.pairwise_mergeSort (le:=fun x y:Int=>decide (x<=y)) (fun a b c h1 h2=>by simp at *; omega) (fun a b=>by simp; omega) l;unfold srt zh8;exact this.imp fun h=>by simpa using h
 refine List.Perm.eq_of_pairwise (le:=fun a b=>a<=b) (fun a b _ _ h1 h2=>by omega) h3 h1 ?_;exact (List.mergeSort_perm _ _).trans (by have h4:=h2.symm; rw [List.nil_append] at h4; exact h4)
theorem qa2 (l:List Int) (hl:l.length<=1048576):RUN T zsi [.own 1 (zab l)]=some ([],[.own 1 (zab (zd3 l))]):=by
 rw [<- qfn];exact qh5 yka (by omega)
theorem qa3 (l:List Int) (hl:l.length<=1048576):RUN T zr6 [.own 1 (zab l)]=some ([.own 1 (zab (Lib.compact l))],[.undef]):=qew yjp (by omega)
theorem qa4 (l:List Int) (hl:l.length<=1048576):RUN T zr5 [.sl 1 (zab l)]=some ([.own 1 (zab (zd3 l))],[]):=by
 have e1:=qaq l hl;have e2:=qa2 l hl;have hl2:=z8a l;generalize zd3 l=a at *;refine zae rfl rfl ?_;simp [-getElem?_pos,z4k,zzx,e1,e2,hl2]
theorem yug {a:List Int} {i:Nat} {x:Int} (h:a[i]?=some x):Lib.compactUpTo a.toArray (i+1)=if (i=0\/¬ a[i-1]?=some x) then Lib.compactUpTo a.toArray i++[x] else Lib.compactUpTo a.toArray i:=by
 have hx:a.toArray[i]! = x:=by simp [h]
 have hlt:=(bD h).1;unfold Lib.compactUpTo;rw [List.range_succ,List.filter_append,List.map_append];have hk:Lib.keeps a.toArray i=decide (i=0\/¬ a[i-1]?=some x):=by
  unfold Lib.keeps
  by_cases h0:i=0
  ·simp [h0]
  ·obtain ⟨y,hy⟩ : ∃ y,a[i-1]?=some y:=⟨_,bG (by omega)⟩;have hy':a.toArray[i-1]! = y:=by simp [hy]
   rw [hx,hy',hy];simp only [h0,false_or,bC]
   congr 1
   simp only [ne_eq,eq_comm]
 simp only [List.filter_cons,List.filter_nil,hk]
 by_cases hc:i=0\/¬ a[i-1]?=some x
 ·simp only [hc,decide_true,if_true,List.map_cons,List.map_nil,hx]
 ·simp only [hc,decide_false,if_false,Bool.false_eq_true,List.map_nil,List.append_nil]
theorem qa5 (l:List Int) (hl:l.length<=1048576):RUN T zr2 [.sl 1 (zab l)]=some ([.own 1 (zab (Lib.compact (zd3 l)))],[]):=by
 have e1:=ymj l hl;have hsl:=z8a l;generalize zd3 l=a at *;have hr0:zah 8 0=true:=by decide
 have hr1:zah 8 1=true:=by decide
 refine zae rfl rfl ?_;simp [-getElem?_pos,z4c,zzx,hr0,e1];refine zao (fun n st => ∃ (i o e q e2:Nat) (m:List Int),i+n=l.length/\m=Lib.compactUpTo a.toArray i/\m.length<=i/\st.V 3 = .ref o none e 0 m.length/\st.V 4 = .ref q none e2 0 a.length/\st.V 5=iv i/\¬ o=q/\o<st.nx/\q<st.nx/\st.S o=some (.row 1 (zab m))/\st.S q=some (.row 1 (zab a))) ?_ l.length _ ⟨0,0,0,1,0,[],by omega,rfl,by simp,by simp,by simp,by simp,by omega,by simp [zab]⟩;rintro n st ⟨i,o,e,q,e2,m,hi,hmm,hm,v3,v4,v5,hoq,hox,hqx,hSo,hSq⟩;obtain ⟨x1,x2,x3,x4⟩:=fr hox;obtain ⟨z1,z2,z3,z4⟩:=fr hqx;have hqo : ¬ q=o:=fun e=>hoq e.symm
 by_cases h:i<a.length
 ·obtain ⟨x,hx⟩ : ∃ x,a[i]?=some x:=⟨_,bG h⟩;have hx':=zay hx;have hw:=wS h (by omega:a.length<=9223372036854775807);have hr8:=zdc (n:=m.length+1) (by omega);have hsn:=zc6 m x;have hcs:=yug hx;rw [<- hmm] at hcs
  by_cases h0:i=0
  ·subst h0;rw [if_pos (.inl rfl)] at hcs;simp [-getElem?_pos,zwh,v3,v4,v5,hSo,hSq,h,hx',hw,hr1,hr8,hsn,hoq,hqo,x1,x2,x3,x4,z1,z2,z3,z4];exact zai (n-1) (by omega) ⟨1,st.nx+1,st.ep,q,e2,m++[x],by omega,hcs.symm,by rw [List.length_append]; simp only [List.length_cons,List.length_nil]; omega,by simp,by simp [v4],by simp,by omega,by simp,by simp; omega,by simp [hoq,hqo,x1,x2,x3,x4,z1,z2,z3,z4,hSq]⟩
  ·obtain ⟨y,hy⟩ : ∃ x,a[i-1]?=some x:=⟨_,bG (by omega)⟩;have hy':=zay hy;have w1:IntKind.i64.wrap ((i:Int)-1)=((i-1:Nat):Int):=by rw [w64 (by omega) (by omega)]; omega
   have hil:i-1<a.length:=by omega
   rw [hy] at hcs
   by_cases hxy:x=y
   ·subst hxy;rw [if_neg (by simp [h0])] at hcs;simp [-getElem?_pos,zwh,v3,v4,v5,hSo,hSq,h,h0,hil,hx',hy',hw,w1,hoq,hqo,x1,x2,x3,x4,z1,z2,z3,z4];exact zai (n-1) (by omega) ⟨i+1,o,e,q,e2,m,by omega,hcs.symm,by omega,by simp [v3],by simp [v4],by simp,hoq,by simp [hox,hqx,hSo,hSq]⟩
   ·rw [if_pos (.inr (fun e=>hxy (by cases e; rfl)))] at hcs;simp [-getElem?_pos,zwh,v3,v4,v5,hSo,hSq,h,h0,hil,hx',hy',hw,w1,hxy,hr1,hr8,hsn,hoq,hqo,x1,x2,x3,x4,z1,z2,z3,z4];exact zai (n-1) (by omega) ⟨i+1,st.nx+1,st.ep,q,e2,m++[x],by omega,hcs.symm,by simp; omega,by simp,by simp [v4],by simp,by omega,by simp,by simp; omega,by simp [hoq,hqo,x1,x2,x3,x4,z1,z2,z3,z4,hSq]⟩
 ·have hia:i=a.length:=by omega
  have hR:Lib.compact a=m:=by rw [hmm,hia]; rfl
  rw [hR];simp [-getElem?_pos,zwh,v3,v4,v5,hSo,hSq,h]
def zdv (c:List Int) (v:Int):Nat:=(c.filter fun x=>decide (x<v)).length
def zb7 (t:Ta) (f:Nat):List Int:=t.rw.map fun r=>r.getD f 0
def zhg (a:List Int) (b k:Nat):Nat:=a.length*k / b
def zjf (a:List Int) (b k:Nat):List Int:=if 1<=zhg a b k/\a.getD (zhg a b k-1) 0≠a.getD (a.length-1) 0 then [a.getD (zhg a b k-1) 0] else []
def zea (a:List Int) (b:Nat):Nat->List Int
 | 0=>[]
 | k+1=>zea a b k++zjf a b (k+1)
def zb0 (l:List Int) (b:Int):List Int:=if (zaj b 2 8 && zaj l.length 1 40)=true then Lib.compact (zea (zd3 l) b.toNat (b.toNat-1)) else []
def zpa (t:Ta) (b:Int) (f:Nat):List Int:=(zb7 t f).map fun v=>(zdv (zb0 (zb7 t f) b) v:Int)
def zcm (t:Ta) (b:Int):List (List Int):=if (zgp t && zaj b 2 8)=true then (List.range t.ns.length).map fun f=>zb0 (zb7 t f) b else []
def zcz (t:Ta) (b:Int):List (List Int):=if (zgp t && zaj b 2 8)=true then (List.range t.ns.length).map (zpa t b) else []
theorem yp6 (l:List Int):(Lib.compact l).length<=l.length:=by
 unfold Lib.compact Lib.compactUpTo;rw [List.length_map];exact Nat.le_trans (List.length_filter_le _ _) (by simp)
theorem ysn {a:List Int} (ha:srt a) : ∀ i:Nat,i<=a.length->(Lib.compactUpTo a.toArray i).Pairwise (fun x y=>x<y)/\∀ y,y∈Lib.compactUpTo a.toArray i↔∃ j,j<i/\a[j]?=some y
 | 0,_=>by
  refine ⟨List.Pairwise.nil,fun y => ?_⟩;constructor
  ·intro h; exact absurd h (by simp [Lib.compactUpTo])
  ·rintro ⟨j,h,_⟩; omega
 | i+1,hi=>by
  obtain ⟨h1,h2⟩:=ysn ha i (by omega);obtain ⟨x,hx⟩ : ∃ x,a[i]?=some x:=⟨_,bG (by omega)⟩;rw [yug hx]
  by_cases hc:i=0\/¬ a[i-1]?=some x
  ·rw [if_pos hc];refine ⟨?_,fun y => ?_⟩
   ·rw [List.pairwise_append];refine ⟨h1,by simp,fun y hy z hz => ?_⟩;simp only [List.mem_singleton] at hz;subst hz;obtain ⟨j,hj,hjy⟩:=(h2 y).mp hy;rcases hc with hc | hc
    ·omega
    ·obtain ⟨w,hw⟩ : ∃ w,a[i-1]?=some w:=⟨_,bG (by omega)⟩;have e1:=zoy ha (by omega:j<=i-1) hjy hw;have e2:=zoy ha (by omega:i-1<=i) hw hx;have e3:w≠z:=fun e=>hc (by rw [hw,e]);omega
   ·rw [List.mem_append,List.mem_singleton,h2 y];constructor
    ·rintro (⟨j,hj,e⟩ | rfl)
     ·exact ⟨j,by omega,e⟩
     ·exact ⟨i,by omega,hx⟩
    ·rintro ⟨j,hj,e⟩
     by_cases hji:j<i
     ·exact .inl ⟨j,hji,e⟩
     ·obtain rfl:j=i:=by omega
      rw [hx] at e; cases e;exact .inr rfl
  ·rw [if_neg hc];refine ⟨h1,fun y => ?_⟩;rw [h2 y];constructor
   ·rintro ⟨j,hj,e⟩; exact ⟨j,by omega,e⟩
   ·rintro ⟨j,hj,e⟩
    by_cases hji:j<i
    ·exact ⟨j,hji,e⟩
    ·obtain rfl:j=i:=by omega
     rw [hx] at e; cases e;have hc1 : ¬ j=0:=fun h=>hc (.inl h);have hc2:a[j-1]?=some x:=Classical.byContradiction fun h=>hc (.inr h);exact ⟨j-1,by omega,hc2⟩
theorem zxr {t:Ta} (h:zgp t=true):1<=t.ns.length/\t.ns.length<=4/\1<=t.rw.length/\t.rw.length<=40/\t.lb.length=t.rw.length/\∀ r∈t.rw,r.length=t.ns.length:=by
 unfold zgp at h;simp only [Bool.and_eq_true,decide_eq_true_eq,List.all_eq_true] at h;obtain ⟨⟨⟨⟨⟨h1,_⟩,h3⟩,h4⟩,_⟩,h6⟩:=h;have h1:=za3.mp h1;have h3:=za3.mp h3;refine ⟨by omega,by omega,by omega,by omega,by omega,fun r hr => ?_⟩;have:=h6 r hr;unfold zfu at this;simp only [Bool.and_eq_true,decide_eq_true_eq] at this;omega
theorem z86 (l:List Int):srt (zd3 l):=(zxz l [] List.Pairwise.nil).1
theorem qbr {l:List Int} (h:srt l):zd3 l=l:=by
 have h2:=(zxz l [] List.Pairwise.nil).2;refine List.Perm.eq_of_pairwise (le:=fun a b=>a<=b) (fun a b _ _ h1 h2=>by omega) (z86 l) h ?_;rw [List.nil_append] at h2;exact h2
theorem qdw {l:List Int} {x:Int}:x∈zd3 l↔x∈l:=by
 have h2:=(zxz l [] List.Pairwise.nil).2;rw [List.nil_append] at h2;exact h2.mem_iff
theorem qgm (a:List Int) (b k:Nat):(zjf a b k).length<=1:=by unfold zjf; split <;> simp
theorem yo8 (a:List Int) (b:Nat) : ∀ k,(zea a b k).length<=k
 | 0=>by simp [zea]
 | k+1=>by
  have:=yo8 a b k;have:=qgm a b (k+1);simp only [zea,List.length_append]; omega
theorem qhk {a:List Int} {b k:Nat} (hk:k<=b):zhg a b k<=a.length:=by
 unfold zhg;exact Nat.div_le_of_le_mul (by rw [Nat.mul_comm b]; exact Nat.mul_le_mul_left _ hk)
theorem ysz {a:List Int} {b k:Nat}:zhg a b k<=zhg a b (k+1):=Nat.div_le_div_right (Nat.mul_le_mul_left _ (Nat.le_succ k))
theorem ym9 {a:List Int} {b k:Nat} (hk:k<=b) {x:Int} (h:x∈zjf a b k) : ∃ j,j+1=zhg a b k/\a[j]?=some x:=by
 unfold zjf at h;split at h
 ·rename_i hc;simp only [List.mem_singleton] at h;have:=qhk (a:=a) hk;refine ⟨zhg a b k-1,by omega,?_⟩;rw [h,List.getD_eq_getElem?_getD,bG (by omega)];rfl
 ·simp at h
theorem yb7 {a:List Int} {b:Nat} : ∀ k,k<=b->∀ x∈zea a b k,∃ j,j<zhg a b k/\a[j]?=some x
 | 0,_,x,h=>by simp [zea] at h
 | k+1,hk,x,h=>by
  rw [zea] at h;rcases List.mem_append.mp h with h | h
  ·obtain ⟨j,h1,h2⟩:=yb7 k (by omega) x h;exact ⟨j,Nat.lt_of_lt_of_le h1 ysz,h2⟩
  ·obtain ⟨j,h1,h2⟩:=ym9 hk h;exact ⟨j,by omega,h2⟩
theorem yd6 {a:List Int} {b:Nat} (ha:srt a) : ∀ k,k<=b->srt (zea a b k)
 | 0,_=>by unfold zea; exact List.Pairwise.nil
 | k+1,hk=>by
  rw [zea];unfold srt;rw [List.pairwise_append];refine ⟨yd6 ha k (by omega),?_,fun x hx y hy => ?_⟩
  ·unfold zjf; split <;> simp
  ·obtain ⟨i,h1,h2⟩:=yb7 k (by omega) x hx;obtain ⟨j,h3,h4⟩:=ym9 hk hy;have:=ysz (a:=a) (b:=b) (k:=k);exact zoy ha (by omega) h2 h4
theorem yqi (l:List Int) (b:Int):(zb0 l b).Pairwise (fun x y=>x<y)/\(∀ x∈zb0 l b,x∈l)/\(zb0 l b).length<=7:=by
 unfold zb0;split
 ·rename_i hc;simp only [Bool.and_eq_true] at hc;have hb:=za3.mp hc.1;have hs:=yd6 (z86 l) (b:=b.toNat) (b.toNat-1) (by omega);obtain ⟨h1,h2⟩:=ysn hs _ (Nat.le_refl _);refine ⟨h1,fun x hx => ?_,?_⟩
  ·obtain ⟨j,_,hj⟩:=(h2 x).mp hx;obtain ⟨i,_,hi⟩:=yb7 (a:=zd3 l) (b:=b.toNat) (b.toNat-1) (by omega) x (bF hj);exact qdw.mp (bF hi)
  ·have:=yp6 (zea (zd3 l) b.toNat (b.toNat-1));have:=yo8 (zd3 l) b.toNat (b.toNat-1);omega
 ·exact ⟨List.Pairwise.nil,by simp⟩
theorem yp7 (c:List Int) (v x:Int):zdv (c++[x]) v=zdv c v+if x<v then 1 else 0:=by
 unfold zdv;rw [List.filter_append,List.length_append]
 by_cases h:x<v <;> simp [h]
theorem zvb {α:Type} {l:List α} {i:Nat} {x:α} (h:l[i]?=some x):l.take (i+1)=l.take i++[x]:=by
 rw [List.take_add_one,h]; rfl
theorem qa6 (c:List Int) (v:Int) (hc:c.length<=1048576):RUN T zq8 [.sl 1 (zab c),iv v]=some ([iv (zdv c v)],[]):=by
 refine zae rfl rfl ?_;simp [-getElem?_pos,z2i,zyz];refine zao (fun n st => ∃ i m:Nat,i+n=c.length/\m<=i/\m=zdv (c.take i) v/\st.V 0 = .sl 1 (zab c)/\st.V 1=iv v/\st.V 5=iv m/\st.V 6=iv i) ?_ c.length _ ⟨0,0,by omega,by omega,by simp [zdv]⟩;rintro n st ⟨i,m,hi,hm,hmv,v0,v1,v5,v6⟩
 by_cases h:i<c.length
 ·obtain ⟨x,hx⟩ : ∃ x,c[i]?=some x:=⟨_,bG h⟩;have hx':=zay hx;have hw:=wS h (by omega:c.length<=9223372036854775807);have hw2:=w64 (x:=(m:Int)+1) (by omega) (by omega);have hs:=yp7 (c.take i) v x;rw [<- zvb hx,<- hmv] at hs
  by_cases hl:x<v
  ·rw [if_pos hl] at hs;simp [-getElem?_pos,z2h,v0,v1,v5,v6,h,hx',hw,hw2,hl];exact zai (n-1) (by omega) ⟨i+1,m+1,by omega,by omega,hs.symm,by simp [v0,v1]⟩
  ·rw [if_neg hl] at hs;simp [-getElem?_pos,z2h,v0,v1,v5,v6,h,hx',hw,hl];exact zai (n-1) (by omega) ⟨i+1,m,by omega,by omega,hs.symm,by simp [v0,v1,v5]⟩
 ·rw [List.take_of_length_le (by omega)] at hmv;rw [<- hmv];simp [-getElem?_pos,z2h,v0,v5,v6,h]
theorem qa7 (l:List Int) (b:Int) (hl:l.length<=1048576):RUN T zq7 [.sl 1 (zab l),iv b]=some ([.own 1 (zab (zb0 l b))],[]):=by
 have e1:=ymj l hl;have hsl:=z8a l;have hss:=z86 l;have hr0:zah 8 0=true:=by decide
 have hr1:zah 8 1=true:=by decide
 have g1:=zbj b 2 8;have g2:=zbj l.length 1 40;cases c1:zaj b 2 8 with
 | false =>
  have hv:zb0 l b=[]:=by unfold zb0; rw [c1]; rfl
  rw [hv];rw [c1] at g1;refine zae rfl rfl ?_;simp [-getElem?_pos,zto,z2g,-za1,g1,hr0]
 | true =>
 cases c2:zaj l.length 1 40 with
 | false =>
  have hv:zb0 l b=[]:=by unfold zb0; rw [c1,c2]; rfl
  rw [hv];rw [c1] at g1;rw [c2] at g2;refine zae rfl rfl ?_;simp [-getElem?_pos,zto,z2g,-za1,g1,g2,hr0]
 | true =>
 have hv:zb0 l b=Lib.compact (zea (zd3 l) b.toNat (b.toNat-1)):=by unfold zb0; rw [c1,c2]; rfl
 rw [hv];rw [c1] at g1;rw [c2] at g2;have hb:=za3.mp c1;have h12:=za3.mp c2;have h1:1<=l.length:=by omega
 have h2:l.length<=40:=by omega
 clear c1 c2 h12 hv;generalize zd3 l=a at *;obtain ⟨bn,rfl⟩ : ∃ n:Nat,b=n:=⟨b.toNat,by omega⟩;rw [Int.toNat_natCast];refine zae rfl rfl ?_;simp [-getElem?_pos,zto,z2g,-za1,g1,g2,hr0,e1];refine zao (fun n st => ∃ (i o e:Nat) (m:List Int),1<=i/\i+n=bn/\m.length<i/\m=zea a bn (i-1)/\st.V 1=iv bn/\st.V 5=iv l.length/\st.V 6 = .ref 0 none 0 0 a.length/\st.V 7 = .ref o none e 0 m.length/\st.V 8=iv i/\0<o/\o<st.nx/\st.S o=some (.row 1 (zab m))/\st.S 0=some (.row 1 (zab a))) ?_ (bn-1) _ ⟨1,1,0,[],by omega,by omega,by simp,rfl,by simp [zab]⟩;rintro n st ⟨i,o,e,m,hi1,hi,hm,hmp,v1,v5,v6,v7,v8,ho,hox,hSo,hS0⟩;obtain ⟨x1,x2,x3,x4⟩:=fr hox;obtain ⟨g1,g2,g3,g4⟩:=fr ho;obtain ⟨z1,z2,z3,z4⟩:=fr (show 0<st.nx by omega)
 by_cases h:i<bn
 ·have hw:=wS h (by omega:bn<=9223372036854775807);have hb0 : ¬ bn=0:=by omega
  have hq:(l.length:Int)*i<=40*8:=Int.mul_le_mul (by omega) (by omega) (by omega) (by omega);have hq0:0<=(l.length:Int)*i:=Int.mul_nonneg (by omega) (by omega);have w1:=w64 (x:=(l.length:Int)*i) (by omega) (by omega);obtain ⟨k,hkk⟩ : ∃ k:Nat,k=l.length*i / bn:=⟨_,rfl⟩;have hk:((l.length:Int)*i).tdiv bn=k:=by
   rw [Int.tdiv_eq_ediv_of_nonneg hq0,hkk]
   push_cast
   rfl
  have hcs:zea a bn i=m++zjf a bn i:=by
   obtain ⟨j,rfl⟩ : ∃ j,i=j+1:=⟨i-1,by omega⟩;rw [hmp]; rfl
  unfold zjf zhg at hcs;rw [hsl,<- hkk] at hcs;have hkl:k<=l.length:=by
   have h3:((l.length:Int)*i).tdiv bn<=l.length:=by
    rw [Int.tdiv_eq_ediv_of_nonneg hq0];refine Int.ediv_le_of_le_mul (by omega) ?_;exact Int.mul_le_mul_of_nonneg_left (by omega) (by omega)
   omega
  have w2:=w64 (x:=(k:Int)) (by omega) (by omega)
  by_cases hk1:1<=k
  ·obtain ⟨x,hx⟩ : ∃ x,a[k-1]?=some x:=⟨_,bG (by omega)⟩;obtain ⟨y,hy⟩ : ∃ x,a[a.length-1]?=some x:=⟨_,bG (by omega)⟩;have hx':=zay hx;have hy':=zay hy;rw [hsl] at hy';have w3:IntKind.i64.wrap ((k:Int)-1)=((k-1:Nat):Int):=by rw [w64 (by omega) (by omega)]; omega
   have w4:IntKind.i64.wrap ((l.length:Int)-1)=((l.length-1:Nat):Int):=by rw [w64 (by omega) (by omega)]; omega
   have c1:k-1<l.length:=by omega
   have c2:l.length-1<l.length:=by omega
   have hk1':(1:Int)<=k:=by omega
   have hr8:=zdc (n:=m.length+1) (by omega);have hsn:=zc6 m x;have gx:a.getD (k-1) 0=x:=by rw [List.getD_eq_getElem?_getD,hx]; rfl
   have gy:a.getD (l.length-1) 0=y:=by rw [<- hsl,List.getD_eq_getElem?_getD,hy]; rfl
   rw [gx,gy] at hcs;have hle:=zoy hss (by omega:k-1<=a.length-1) hx hy
   by_cases hxy:x<y
   ·rw [if_pos ⟨hk1,by omega⟩] at hcs;simp [-getElem?_pos,zvx,v1,v5,v6,v7,v8,hSo,hS0,h,hw,hb0,w1,w2,w3,w4,hk,hk1,hk1',hx',hy',hsl,c1,c2,hxy,hr1,hr8,hsn,g1,g2,g3,g4,x1,x2,x3,x4,z1,z2,z3,z4];exact zai (n-1) (by omega) ⟨i+1,st.nx+1,st.ep,m++[x],by omega,by omega,by simp; omega,hcs.symm,by simp [v1],by simp [v5],by simp [v6,hsl],by simp,by simp,by omega,by simp [g1,g2,g3,g4,x1,x2,x3,x4,z1,z2,z3,z4,hS0]⟩
   ·rw [if_neg (by omega),List.append_nil] at hcs;simp [-getElem?_pos,zvx,v1,v5,v6,v7,v8,hSo,hS0,h,hw,hb0,w1,w2,w3,w4,hk,hk1,hk1',hx',hy',hsl,c1,c2,hxy,g1,g2,g3,g4,x1,x2,x3,x4,z1,z2,z3,z4];exact zai (n-1) (by omega) ⟨i+1,o,e,m,by omega,by omega,by omega,hcs.symm,by simp [v1],by simp [v5],by simp [v6,hsl],by simp [v7],by simp,ho,by simp [hox,hSo,hS0]⟩
  ·have hk0:k=0:=by omega
   rw [if_neg (by omega),List.append_nil] at hcs;rw [hk0] at hk w2;clear hkk hkl;subst hk0;simp [-getElem?_pos,zvx,v1,v5,v6,v7,v8,hSo,hS0,h,hw,hb0,w1,w2,hk];exact zai (n-1) (by omega) ⟨i+1,o,e,m,by omega,by omega,by omega,hcs.symm,by simp [v1],by simp [v5],by simp [v6],by simp [v7],by simp,ho,by simp [hox,hSo,hS0]⟩
 ·have h3:=qa5 m (by omega);have hib:i=bn:=by omega
  have hsm:=yd6 (b:=bn) hss (bn-1) (by omega);have hm2:m=zea a bn (bn-1):=by rw [hmp,hib]
  rw [<- hm2] at hsm;rw [qbr hsm] at h3;rw [<- hm2];have hmm:(Lib.compact m).length<=m.length:=yp6 m;generalize Lib.compact m=z at *;simp [-getElem?_pos,zvx,v1,v7,v8,hSo,h,h3]
theorem qa8 (q:Bool) (t:Ta) (f:Nat) (ht:TaL 1048576 t) (hf:f<t.ns.length) (h40:t.rw.length<=40) (hr : ∀ r∈t.rw,r.length=t.ns.length):RUN T zq6 [taS q t,iv f]=some ([.own 1 (zab (zb7 t f))],[]):=by
 have hr0:zah 8 0=true:=by decide
 have hr1:zah 8 1=true:=by decide
 have hns:=ht.ns;have g1:=zbj f 0 ((t.ns.length:Int)-1);rw [za3.mpr (by omega)] at g1;have w1:=w64 (x:=(t.ns.length:Int)-1) (by omega) (by omega);refine zae rfl rfl ?_;simp [-getElem?_pos,z2f,z2g,hr0];refine zao (fun n st => ∃ (i o e:Nat) (m:List Int),i+n=t.rw.length/\m=(t.rw.take i).map (fun r=>r.getD f 0)/\m.length=i/\st.V 1=iv f/\st.V 2 = .ptr 0 none 0 0 0/\st.V 5 = .ref o none e 0 m.length/\st.V 6=iv i/\0<o/\o<st.nx/\st.S o=some (.row 1 (zab m))/\st.S 0=some (.box (taB q t))) ?_ t.rw.length _ ⟨0,1,0,[],by omega,rfl,rfl,by simp [zab]⟩;rintro n st ⟨i,o,e,m,hi,hmv,hm,v1,v2,v5,v6,ho,hox,hSo,hS0⟩;obtain ⟨x1,x2,x3,x4⟩:=fr hox;obtain ⟨g1',g2,g3,g4⟩:=fr ho;obtain ⟨z1,z2,z3,z4⟩:=fr (show 0<st.nx by omega)
 by_cases h:i<t.rw.length
 ·obtain ⟨r,hx⟩ : ∃ x,t.rw[i]?=some x:=⟨_,bG h⟩;have hx':=zct (q:=q) hx;have hrl:=hr r (bF hx);obtain ⟨y,hy⟩ : ∃ x,r[f]?=some x:=⟨_,bG (by omega)⟩;have hy':=zay hy;have hfr:f<r.length:=by omega
  have hw:=wS h (by omega:t.rw.length<=9223372036854775807);have hr8:=zdc (n:=m.length+1) (by omega);have hsn:=zc6 m y;have hmn:m++[y]=(t.rw.take (i+1)).map (fun r=>r.getD f 0):=by
   rw [zvb hx,List.map_append,<- hmv,List.map_singleton,List.getD_eq_getElem?_getD,hy]; rfl
  simp [-getElem?_pos,yai,-za1,v1,v2,v5,v6,hSo,hS0,h,hx',hy',hfr,g1,w1,hw,hr1,hr8,hsn,g1',g2,g3,g4,x1,x2,x3,x4,z1,z2,z3,z4];exact zai (n-1) (by omega) ⟨i+1,st.nx+1,st.ep,m++[y],by omega,hmn,by simp [hm],by simp [v1],by simp [v2],by simp,by simp,by omega,by simp [g1',g2,g3,g4,x1,x2,x3,x4,z1,z2,z3,z4,hS0]⟩
 ·rw [List.take_of_length_le (by omega)] at hmv;have hcv:zb7 t f=m:=hmv.symm;rw [hcv];simp [-getElem?_pos,yai,-za1,v1,v2,v5,v6,hSo,hS0,h]
theorem qfv (cuts col:List Int) (hcu:cuts.length<=8) (hco:col.length<=40) {st:St} {q1 e1 q2 e2 q3 e3:Nat} {Q:Ex->St->Prop} (v7:st.V 7 = .ref q1 none e1 0 col.length) (v8:st.V 8 = .ref q2 none e2 0 cuts.length) (v9:st.V 9 = .ref q3 none e3 0 0) (v10:st.V 10=iv (0:Nat)) (h1:q1<q3) (h2:q2<q3) (h3:q3<st.nx) (hS1:st.S q1=some (.row 1 (zab col))) (hS2:st.S q2=some (.row 1 (zab cuts))) (hS3:st.S q3=some (.row 1 []))
  (hQ : ∀ (s':St) (q' e':Nat) (bins:List Int),bins.length=col.length->bins=col.map (fun v=>(zdv cuts v:Int))->(∀ k,k≠9->k≠10->s'.V k=st.V k)->s'.V 9 = .ref q' none e' 0 bins.length->q3<=q'->q'<s'.nx->st.nx<=s'.nx->s'.S q'=some (.row 1 (zab bins))->(∀ k,k<q3->s'.S k=st.S k)->Q (.exit 2) s') :
  W (zac T) (RUN T) (.loop zz8) st Q:=by
 refine zao (fun m s' => ∃ (i q' e':Nat) (bins:List Int),i+m=col.length/\bins.length=i/\bins=(col.take i).map (fun v=>(zdv cuts v:Int))/\(∀ k,k≠9->k≠10->s'.V k=st.V k)/\s'.V 9 = .ref q' none e' 0 bins.length/\s'.V 10=iv i/\q3<=q'/\q'<s'.nx/\st.nx<=s'.nx/\s'.S q'=some (.row 1 (zab bins))/\(∀ k,k<q3->s'.S k=st.S k)) ?_ col.length _ ⟨0,q3,e3,[],by omega,rfl,rfl,fun _ _ _=>rfl,by simpa using v9,by simpa using v10,by omega,h3,Nat.le_refl _,by simpa [zab] using hS3,fun _ _=>rfl⟩;rintro m s' ⟨i,q',e',bins,hi,hb,hbb,hV,v9',v10',hq,hqx,hnx,hSq,hfr⟩;have v7':s'.V 7 = .ref q1 none e1 0 col.length:=by rw [hV 7 (by decide) (by decide)]; exact v7
 have v8':s'.V 8 = .ref q2 none e2 0 cuts.length:=by rw [hV 8 (by decide) (by decide)]; exact v8
 have hS1':s'.S q1=some (.row 1 (zab col)):=by rw [hfr q1 h1]; exact hS1
 have hS2':s'.S q2=some (.row 1 (zab cuts)):=by rw [hfr q2 h2]; exact hS2
 by_cases h:i<col.length
 ·obtain ⟨x,hx⟩ : ∃ x,col[i]?=some x:=⟨_,bG h⟩;have hx':=zay hx;have hw:=wS h (by omega:col.length<=9223372036854775807);have hr1:zah 8 1=true:=by decide
  have hr8:=zdc (n:=bins.length+1) (by omega);have h4:=qa6 cuts x (by omega);have hbn:bins++[(zdv cuts x:Int)]=(col.take (i+1)).map (fun v=>(zdv cuts v:Int)):=by rw [zvb hx,List.map_append,<- hbb]; rfl
  generalize zdv cuts x=y at *;have hsn:=zc6 bins (y:Int);have a1:=fr hqx;have a2:=fr (show q1<q' by omega);have a3:=fr (show q2<q' by omega);have a4:=fr (show q1<s'.nx by omega);have a5:=fr (show q2<s'.nx by omega);simp [-getElem?_pos,zz8,v7',v8',v9',v10',hS1',hS2',hSq,h,hx',h4,hw,hr1,hr8,hsn,a1,a2,a3,a4,a5];refine zai (m-1) (by omega) ⟨i+1,s'.nx+1,s'.ep,bins++[(y:Int)],by omega,by simp [hb],hbn,fun k k1 k2 => ?_,by simp,by simp,by omega,by simp,by simp; omega,by simp,fun k k1 => ?_⟩
  ·simp [k1,k2]; exact hV k k1 k2
  ·have b1:(k=s'.nx)=False:=eq_false (by omega);have b2:(k=s'.nx+1)=False:=eq_false (by omega);have b3:(k=q')=False:=eq_false (by omega);simp [b1,b2,b3];exact hfr k k1
 ·have hin:i=col.length:=by omega
  simp [-getElem?_pos,zz8,v7',v10',hS1',h];exact hQ _ q' e' bins (by omega) (by rw [hbb,List.take_of_length_le (by omega)]) (fun k k1 k2=>by simp; exact hV k k1 k2) (by simp [v9']) hq (by simp [hqx]) (by simp [hnx]) (by simp [hSq]) (fun k k1=>by simp; exact hfr k k1)
def LG (S:Nat->Option Ob) (nx:Nat) (C D:List (List Int)) (x y:PV):Prop:=(x = .e0/\y = .e0/\C=[]/\D=[])\/∃ o e o' e',x = .ref o none e 0 C.length/\y = .ref o' none e' 0 D.length/\2<o/\o<nx/\2<o'/\o'<nx/\o≠o'/\S o=some (.row 1 (rws true C))/\S o'=some (.row 1 (rws true D))
theorem LG.mono {S S':Nat->Option Ob} {nx nx':Nat} {C D:List (List Int)} {x y:PV} (h:LG S nx C D x y) (hn:nx<=nx') (hS : ∀ k,2<k->k<nx->S' k=S k):LG S' nx' C D x y:=by
 rcases h with h | ⟨o,e,o',e',h1,h2,h3,h4,h5,h6,h7,h8,h9⟩
 ·exact .inl h
 ·exact .inr ⟨o,e,o',e',h1,h2,h3,by omega,h5,by omega,h7,by rw [hS o h3 h4]; exact h8,by rw [hS o' h5 h6]; exact h9⟩
theorem qa9 (q:Bool) (t:Ta) (b:Int) (ht:TaL 1048576 t):RUN T zqg [taS q t,iv b]=some ([.agg [.own 1 (rws true (zcm t b)),.own 1 (rws true (zcz t b))]],[]):=by
 have e1:=ym2 q t ⟨Nat.le_trans ht.ns (by omega),fun x hx=>Nat.le_trans (ht.ss x hx) (by omega),Nat.le_trans ht.nm (by omega),Nat.le_trans ht.rw (by omega),fun x hx=>Nat.le_trans (ht.rr x hx) (by omega),Nat.le_trans ht.lb (by omega)⟩;have g1:=zbj b 2 8;cases hok:zgp t with
 | false =>
  have hC:zcm t b=[]:=by unfold zcm; rw [hok]; rfl
  have hW:zcz t b=[]:=by unfold zcz; rw [hok]; rfl
  rw [hC,hW];rw [hok] at e1;simp only [taS] at *;refine zae rfl rfl ?_;simp [-getElem?_pos,ztk,ztl,-za1,e1,show rws true []=[] from rfl]
 | true =>
 cases hbi:zaj b 2 8 with
 | false =>
  have hC:zcm t b=[]:=by unfold zcm; rw [hbi,Bool.and_false]; rfl
  have hW:zcz t b=[]:=by unfold zcz; rw [hbi,Bool.and_false]; rfl
  rw [hC,hW];rw [hok] at e1;rw [hbi] at g1;simp only [taS] at *;refine zae rfl rfl ?_;simp [-getElem?_pos,ztk,ztl,-za1,e1,g1,show rws true []=[] from rfl]
 | true =>
 have hb:=za3.mp hbi;rw [hok] at e1;rw [hbi] at g1;obtain ⟨t1,t2,t3,t4,t5,t6⟩:=zxr hok;have hgC:zcm t b=(List.range t.ns.length).map fun f=>zb0 (zb7 t f) b:=by unfold zcm; rw [hok,hbi]; rfl
 have hgW:zcz t b=(List.range t.ns.length).map (zpa t b):=by unfold zcz; rw [hok,hbi]; rfl
 rw [hgC,hgW];have hr1:zah 24 1=true:=by decide
 have hr0:zah 8 0=true:=by decide
 have cl:=qa8 q t;simp only [taS] at *;refine zae rfl rfl ?_;simp [-getElem?_pos,ztk,ztl,-za1,e1,g1];refine zao (fun n st => ∃ (i:Nat) (C D:List (List Int)) (x y:PV),i+n=t.ns.length/\C.length=i/\D.length=i/\C=(List.range i).map (fun f=>zb0 (zb7 t f) b)/\D=(List.range i).map (zpa t b)/\st.V 1=iv b/\st.V 2 = .ptr 0 none 0 0 0/\st.V 4 = .ptr 1 none 0 0 0/\st.V 5 = .ptr 2 none 0 0 0/\st.V 6=iv i/\2<st.nx/\LG st.S st.nx C D x y/\st.S 0=some (.box [.sl 1 (za4 t.ns),.v (.string t.nm),.sl 1 (rws q t.rw),.sl 1 (zab t.lb)])/\st.S 1=some (.box [.e0,.e0])/\st.S 2=some (.box [x,y])) ?_ t.ns.length _ ⟨0,[],[],.e0,.e0,by omega,rfl,rfl,rfl,rfl,by simp,by simp,by simp,by simp,by simp,by simp,.inl ⟨rfl,rfl,rfl,rfl⟩,by simp⟩;rintro n st ⟨i,C,D,x,y,hi,hC,hD,hC8,hD8,v1,v2,v4,v5,v6,hnx,hx,hS0,hS1,hS2⟩;have z1:=fr hnx;have z2:=fr (show 1<st.nx by omega);have z3:=fr (show 0<st.nx by omega)
 by_cases h:i<t.ns.length
 ·have hw:=wS h (by omega:t.ns.length<=9223372036854775807);have h1:=cl i ht h t4 t6;have hcol:(zb7 t i).length=t.rw.length:=by simp [zb7]
  have h2:=qa7 (zb7 t i) b (by omega);have hcu:(zb0 (zb7 t i) b).length<=8:=Nat.le_trans (yqi (zb7 t i) b).2.2 (by omega);have hCn:C++[zb0 (zb7 t i) b]=(List.range (i+1)).map (fun f=>zb0 (zb7 t f) b):=by rw [List.range_succ,List.map_append,<- hC8]; rfl
  have hDn:D++[(zb7 t i).map fun v=>(zdv (zb0 (zb7 t i) b) v:Int)]=(List.range (i+1)).map (zpa t b):=by rw [List.range_succ,List.map_append,<- hD8]; rfl
  generalize zb0 (zb7 t i) b=cuts at *;generalize zb7 t i=col at *;simp [-getElem?_pos,yae,-za1,v1,v2,v4,v5,v6,hS0,hS1,hS2,h,h1,h2,hr0,z1,z2,z3];refine qfv cuts col hcu (by omega) (q1:=st.nx) (q2:=st.nx+1) (q3:=st.nx+2) (by simp; rfl) (by simp; rfl) (by simp; rfl) (by simp) (by omega) (by omega) (by simp) (by simp) (by simp) (by simp) ?_;intro s' q' e' bins hbl hbb hV w9 hq hqx hnx' hSq hfr;simp only at hq hnx';have w1:s'.V 1=iv b:=by rw [hV 1 (by decide) (by decide)]; simp [v1]
  have w2:s'.V 2 = .ptr 0 none 0 0 0:=by rw [hV 2 (by decide) (by decide)]; simp [v2]
  have w4:s'.V 4 = .ptr 1 none 0 0 0:=by rw [hV 4 (by decide) (by decide)]; simp [v4]
  have w5:s'.V 5 = .ptr 2 none 0 0 0:=by rw [hV 5 (by decide) (by decide)]; simp [v5]
  have w6:s'.V 6=iv i:=by rw [hV 6 (by decide) (by decide)]; simp [v6]
  obtain ⟨e8,w8⟩ : ∃ e,s'.V 8 = .ref (st.nx+1) none e 0 cuts.length:=⟨_,by rw [hV 8 (by decide) (by decide)]; simp; rfl⟩;have hT0:s'.S 0=some (.box [.sl 1 (za4 t.ns),.v (.string t.nm),.sl 1 (rws q t.rw),.sl 1 (zab t.lb)]):=by rw [hfr 0 (by omega)]; simp [z1,z2,z3,hS0]
  have hT1:s'.S 1=some (.box [.e0,.e0]):=by rw [hfr 1 (by omega)]; simp [z1,z2,z3,hS1]
  have hT2:s'.S 2=some (.box [x,y]):=by rw [hfr 2 (by omega)]; simp [z1,z2,z3,hS2]
  have hT8:s'.S (st.nx+1)=some (.row 1 (zab cuts)):=by rw [hfr _ (by omega)]; simp
  have hL:LG s'.S s'.nx C D x y:=hx.mono (by omega) (fun k k1 k2=>by
   rw [hfr k (by omega)];have b1:(k=st.nx)=False:=eq_false (by omega);have b2:(k=st.nx+1)=False:=eq_false (by omega);have b3:(k=st.nx+2)=False:=eq_false (by omega);simp [b1,b2,b3])
  have hr24:zah 24 (C.length+1)=true:=by simp [zah]; omega
  have hr24':zah 24 (D.length+1)=true:=by simp [zah]; omega
  have s1:=z9n C cuts;have s2:=z9n D bins;obtain ⟨p8,hp8⟩ : ∃ p8,p8=st.nx+1:=⟨_,rfl⟩;rw [<- hp8] at w8 hT8;have hp8q:p8<q':=by omega
  have hp82:2<p8:=by omega
  have hL':LG s'.S p8 C D x y:=by
   rcases hx with hx | ⟨o,e,o',e',k1,k2,k3,k4,k5,k6,k7,k8,k9⟩
   ·exact .inl hx
   ·rcases hL with ⟨l1,_⟩ | ⟨o2,e2,o2',e2',l1,l2,l3,l4,l5,l6,l7,l8,l9⟩
    ·rw [k1] at l1; cases l1
    ·rw [k1] at l1; cases l1;rw [k2] at l2; cases l2;exact .inr ⟨o,e,o',e',k1,k2,k3,by omega,k5,by omega,k7,l8,l9⟩
  clear hL hx hfr hV hp8 hS0 hS1 hS2 v1 v2 v4 v5 v6 z1 z2 z3 h1 h2;have a1:=fr hqx;have a2:=fr hp8q;have a3:=fr (show p8<s'.nx by omega);have a4:=fr hp82;have a5:=fr (show 2<q' by omega);have a6:=fr (show 2<s'.nx by omega);have b1:=fr (show 1<p8 by omega);have b2:=fr (show 1<q' by omega);have b3:=fr (show 1<s'.nx by omega);have b4:=fr (show 0<p8 by omega);have b5:=fr (show 0<q' by omega);have b6:=fr (show 0<s'.nx by omega);have nn1 : ¬ s'.nx=1:=by omega
  have nn2 : ¬ s'.nx+1=q':=by omega
  have na : ∀ a b:Nat,s'.nx+a+b=s'.nx+(a+b):=fun a b=>Nat.add_assoc _ _ _;rw [<- hbb] at hDn;rcases hL' with ⟨rfl,rfl,hC0,hD0⟩ | ⟨o,e,o',e',rfl,rfl,ho,hox,ho',hox',hoo,hSo,hSo'⟩
  ·subst hC0 hD0;simp only [List.nil_append] at hCn hDn;simp [-getElem?_pos,w1,w2,w4,w5,w6,w8,w9,hT0,hT1,hT2,hT8,hSq,hw,hr1,na,a1,a2,a3,a4,a5,a6,b1,b2,b3,b4,b5,b6];exact zai (n-1) (by omega) ⟨i+1,[cuts],[bins],.ref (s'.nx+1) none s'.ep 0 1,.ref (s'.nx+3) none s'.ep 0 1,by omega,by simp at hC; simp; omega,by simp at hC; simp; omega,hCn,hDn,by simp [w1],by simp [w2],by simp [w4],by simp [w5],by simp,by first | (simp; done) | (simp; omega),.inr ⟨s'.nx+1,s'.ep,s'.nx+3,s'.ep,rfl,rfl,by omega,by simp,by omega,by simp,by omega,by simp [nn1,nn2,rws,cel]⟩,by simp [a1,a2,a3,a4,a5,a6,b1,b2,b3,b4,b5,b6,hT0,hT1]⟩
  ·have c1:=fr ho;have c2:=fr hox;have c3:=fr ho';have c4:=fr hox';have c5:=fr (show o<q' by omega);have c6:=fr (show o'<q' by omega);have d1:=fr (show o<s'.nx by omega);have d2:=fr (show o'<s'.nx by omega);have d3:=fr (show 1<o by omega);have d4:=fr (show 1<o' by omega);have d5:=fr (show 0<o by omega);have d6:=fr (show 0<o' by omega);have hoo2 : ¬ o'=o:=fun e=>hoo e.symm;have nn3 : ¬ s'.nx+1=o':=by omega
   simp [-getElem?_pos,w1,w2,w4,w5,w6,w8,w9,hT0,hT1,hT2,hT8,hSq,hSo,hSo',hoo,hoo2,hw,hr1,hr24,hr24',s1,s2,na,a1,a2,a3,a4,a5,a6,b1,b2,b3,b4,b5,b6,c1,c2,c3,c4,c5,c6,d1,d2,d3,d4,d5,d6];exact zai (n-1) (by omega) ⟨i+1,C++[cuts],D++[bins],.ref (s'.nx+1) none s'.ep 0 (C.length+1),.ref (s'.nx+3) none s'.ep 0 (D.length+1),by omega,by simp [hC],by simp [hD],hCn,hDn,by simp [w1],by simp [w2],by simp [w4],by simp [w5],by simp,by first | (simp; done) | (simp; omega),.inr ⟨s'.nx+1,s'.ep,s'.nx+3,s'.ep,by simp,by simp,by omega,by simp,by omega,by simp,by omega,by simp [nn1,nn2,nn3]⟩,by simp [a1,a2,a3,a4,a5,a6,b1,b2,b3,b4,b5,b6,c1,c2,c3,c4,c5,c6,d1,d2,d3,d4,d5,d6,hT0,hT1]⟩
 ·have hin:i=t.ns.length:=by omega
  rcases hx with ⟨rfl,rfl,hC0,hD0⟩ | ⟨o,e,o',e',rfl,rfl,ho,hox,ho',hox',hoo,hSo,hSo'⟩
  ·subst hC0;simp at hC; omega
  ·have c1:=fr ho;have c3:=fr ho';have d3:=fr (show 1<o by omega);have d4:=fr (show 1<o' by omega);have d5:=fr (show 0<o by omega);have d6:=fr (show 0<o' by omega);have hoo2 : ¬ o'=o:=fun e=>hoo e.symm;simp [-getElem?_pos,yae,v1,v2,v4,v5,v6,hS0,hS1,hS2,h,hSo,hSo',hoo,hoo2,c1,c3,d3,d4,d5,d6];rw [hC8,hD8,hin];exact ⟨rfl,rfl⟩
def ze2:List Sl->Int
 | []=>0
 | x::xs=>x.n+ze2 xs
def zev:List Sl->Int
 | []=>0
 | x::xs=>x.g+zev xs
theorem ydg : ∀ {l:List Sl} {i:Nat} {s t:Sl},l[i]?=some s->ze2 (l.set i t)=ze2 l-s.n+t.n/\zev (l.set i t)=zev l-s.g+t.g
 | [],i,s,t,h=>by simp at h
 | x::xs,0,s,t,h=>by
  simp at h; subst h;simp only [List.set_cons_zero,ze2,zev]; omega
 | x::xs,i+1,s,t,h=>by
  have h':xs[i]?=some s:=by simpa using h
  have:=ydg (t:=t) h';simp only [List.set_cons_succ,ze2,zev]; omega
theorem yqb (n:Nat):ze2 (List.replicate n ⟨0,0⟩)=0/\zev (List.replicate n ⟨0,0⟩)=0:=by
 induction n with
 | zero=>exact ⟨rfl,rfl⟩
 | succ n ih=>simp only [List.replicate_succ,ze2,zev]; omega
theorem ys8 {a b:Int} (h:(adi a b).2=true):(adi a b).1=a+b:=by
 unfold adi at h ⊢;split
 ·rfl
 ·rename_i hc; rw [if_neg hc] at h; cases h
theorem z9x {a b:Sl} (h:(zbh a b).2=true):(zbh a b).1.n=a.n+b.n/\(zbh a b).1.g=a.g+b.g:=by
 unfold zbh at h ⊢;split
 ·rename_i hc;simp only [Bool.and_eq_true] at hc;exact ⟨ys8 hc.1,ys8 hc.2⟩
 ·rename_i hc; rw [if_neg hc] at h; cases h
def zg9 (g rows:List Int):Int:=(rows.map fun r=>(atI g r).getD 0).sum
theorem z77 (g:List Int) (r:Int) (rs:List Int):zg9 g (r::rs)=(atI g r).getD 0+zg9 g rs:=by simp [zg9]
theorem ypj {b g:List Int} : ∀ (rows:List Int) (h h':List Sl),zcf b g rows h=some h'->ze2 h'=ze2 h+rows.length/\zev h'=zev h+zg9 g rows
 | [],h,h',e=>by
  simp only [zcf,bC] at e;subst e;simp [zg9]
 | r::rs,h,h',e=>by
  unfold zcf at e;cases hx:atI b r with
  | none=>rw [hx] at e; cases e
  | some x =>
   cases hy:atI g r with
   | none=>rw [hx,hy] at e; cases e
   | some y =>
    rw [hx,hy] at e;simp only at e;cases hs:atI h x with
    | none=>rw [hs] at e; cases e
    | some s =>
     rw [hs] at e;simp only at e;split at e
     ·rename_i hp;obtain ⟨p1,p2⟩:=z9x hp;obtain ⟨e1,e2⟩:=ypj rs _ _ e;obtain ⟨j,rfl,hjs,_⟩:=zgf hs;rw [Int.toNat_natCast] at e1 e2;obtain ⟨q1,q2⟩:=ydg (t:=(zbh s ⟨1,y⟩).1) hjs;simp only [z77,hy,Option.getD_some,List.length_cons];simp only at p1 p2;omega
     ·cases e
theorem yo9 : ∀ (h:List Sl) (s:Sl) (l:List Sl),zc2 s h=some l->(l.getLast?.getD s).n=s.n+ze2 h/\(l.getLast?.getD s).g=s.g+zev h
 | [],s,l,e=>by
  simp only [zc2,bC] at e;subst e;simp [ze2,zev]
 | x::xs,s,l,e=>by
  unfold zc2 at e;split at e
  ·rename_i hp;obtain ⟨p1,p2⟩:=z9x hp;simp only [bB] at e;obtain ⟨l',h1,rfl⟩:=e;obtain ⟨q1,q2⟩:=yo9 xs _ _ h1;rw [List.getLast?_cons,Option.getD_some];simp only [ze2,zev];omega
  ·cases e
theorem qgv {b g rows:List Int} {k:Int} (h:(zce b g rows k).2=true):ze2 (zce b g rows k).1=rows.length/\zev (zce b g rows k).1=zg9 g rows:=by
 unfold zce at h ⊢;split at h
 ·rename_i hc;rw [if_pos hc];cases e:zcf b g rows (List.replicate k.toNat ⟨0,0⟩) with
  | none=>rw [e] at h; cases h
  | some h' =>
   obtain ⟨h1,h2⟩:=ypj rows _ _ e;obtain ⟨h3,h4⟩:=yqb k.toNat;simp only;omega
 ·cases h
theorem ynt : ∀ (h:List Sl) (s:Sl) (l:List Sl),zc2 s h=some l->∀ (b:Nat) (x:Sl),l[b]?=some x->x.n=s.n+ze2 (h.take (b+1))/\x.g=s.g+zev (h.take (b+1))
 | [],s,l,e,b,x,hx=>by simp only [zc2,bC] at e; subst e; simp at hx
 | y::ys,s,l,e,b,x,hx=>by
  unfold zc2 at e;split at e
  ·rename_i hp;obtain ⟨p1,p2⟩:=z9x hp;simp only [bB] at e;obtain ⟨l',h1,rfl⟩:=e;cases b with
   | zero =>
    simp at hx;subst hx;simp [ze2,zev,p1,p2]
   | succ b =>
    have hx':l'[b]?=some x:=by simpa using hx
    obtain ⟨q1,q2⟩:=ynt ys _ _ h1 b x hx';rw [List.take_succ_cons];simp only [ze2,zev];omega
  ·cases e
theorem yrv {bins g:List Int} : ∀ (rows:List Int) (h h':List Sl),zcf bins g rows h=some h'->∀ b:Nat,ze2 (h'.take (b+1))=ze2 (h.take (b+1))+(zcl bins rows b).length/\zev (h'.take (b+1))=zev (h.take (b+1))+zg9 g (zcl bins rows b)
 | [],h,h',e,b=>by
  simp only [zcf,bC] at e;subst e;simp [zg9,zcl]
 | r::rs,h,h',e,b=>by
  unfold zcf at e;cases hx:atI bins r with
  | none=>rw [hx] at e; cases e
  | some x =>
   cases hy:atI g r with
   | none=>rw [hx,hy] at e; cases e
   | some y =>
    rw [hx,hy] at e;simp only at e;cases hs:atI h x with
    | none=>rw [hs] at e; cases e
    | some s =>
     rw [hs] at e;simp only at e;split at e
     ·rename_i hp;obtain ⟨p1,p2⟩:=z9x hp;obtain ⟨e1,e2⟩:=yrv rs _ _ e b;obtain ⟨j,rfl,hjs,_⟩:=zgf hs;rw [Int.toNat_natCast,List.take_set] at e1 e2;simp only at p1 p2;have hB:zig bins b r=decide ((j:Int)<=b):=by unfold zig; rw [hx]
      by_cases hjb:j<=b
      ·have hB':zig bins b r=true:=by rw [hB]; simpa using hjb
       have hk:(h.take (b+1))[j]?=some s:=by rw [List.getElem?_take_of_lt (by omega)]; exact hjs
       obtain ⟨q1,q2⟩:=ydg (t:=(zbh s ⟨1,y⟩).1) hk;have hf:zcl bins (r::rs) b=r::zcl bins rs b:=by unfold zcl; rw [List.filter_cons,if_pos hB']
       rw [hf,z77,hy,Option.getD_some,List.length_cons];omega
      ·have hB' : ¬ zig bins b r=true:=by rw [hB]; simpa using hjb
       have hf:zcl bins (r::rs) b=zcl bins rs b:=by unfold zcl; rw [List.filter_cons,if_neg hB']
       rw [List.set_eq_of_length_le (by simp; omega)] at e1 e2;rw [hf];exact ⟨e1,e2⟩
     ·cases e
theorem yt4 {bins g:List Int} : ∀ (rows:List Int) (h h':List Sl),zcf bins g rows h=some h'->∀ r∈rows,∃ x,atI bins r=some x
 | [],h,h',e,r,hr=>by cases hr
 | r0::rs,h,h',e,r,hr=>by
  unfold zcf at e;split at e
  ·rename_i x y hx hy;split at e
   ·split at e
    ·rcases List.mem_cons.mp hr with rfl | hr
     ·exact ⟨x,hx⟩
     ·exact yt4 rs _ _ e r hr
    ·cases e
   ·cases e
  ·cases e
theorem yq5 {bins g:List Int} {b:Int} : ∀ rows:List Int,(∀ r∈rows,∃ x,atI bins r=some x)->(zcl bins rows b).length+(zd7 bins rows b).length=rows.length/\zg9 g (zcl bins rows b)+zg9 g (zd7 bins rows b)=zg9 g rows
 | [],_=>by simp [zcl,zd7,zg9]
 | r::rs,h=>by
  obtain ⟨x,hx⟩:=h r (by simp);obtain ⟨h1,h2⟩:=yq5 (b:=b) (g:=g) rs (fun r hr=>h r (by simp [hr]));have hB:zig bins b r=decide (x<=b):=by unfold zig; rw [hx]
  have hC:zpe bins b r = !decide (x<=b):=by unfold zpe; rw [hx]
  unfold zcl zd7 at *;rw [List.filter_cons,List.filter_cons,hB,hC]
  by_cases hxb:x<=b
  ·simp only [decide_eq_true hxb,Bool.not_true,Bool.false_eq_true,if_true,if_false,z77,List.length_cons];omega
  ·simp only [decide_eq_false hxb,Bool.not_false,Bool.false_eq_true,if_true,if_false,z77,List.length_cons];omega
theorem ycs {f:Int} {all:Sl} {least:Int} {p:Cnd->Prop} {l:List Sl} (hp : ∀ (b:Nat) (x:Sl),l[b]?=some x->(zd0 all x).2=true->p ⟨f,b,x,(zd0 all x).1⟩) : ∀ (k i:Nat) (acc a:List Cnd),i+k=l.length->(∀ x∈acc,p x)->zfj f all least i (l.drop i) acc=some a->∀ x∈a,p x
 | 0,i,acc,a,hk,ha,h=>by
  rw [zu3 acc (by omega)] at h;cases h;exact ha
 | k+1,i,acc,a,hk,ha,h=>by
  by_cases hi:i+1<l.length
  ·obtain ⟨x,hx⟩ : ∃ x,l[i]?=some x:=⟨_,bG (by omega)⟩;rw [z9y acc hx hi] at h;split at h
   ·rename_i hm;split at h
    ·exact ycs hp k (i+1) _ _ (by omega) (fun y hy=>by
      rcases List.mem_append.mp hy with e | e
      ·exact ha y e
      ·simp only [List.mem_singleton] at e; subst e; exact hp i x hx hm) h
    ·exact ycs hp k (i+1) _ _ (by omega) ha h
   ·cases h
  ·rw [zu3 acc hi] at h;cases h;exact ha
def z9b (H:List (List Sl)) (x:Cnd):Prop := ∃ (f b:Nat) (h:List Sl),x.f=f/\x.b=b/\H[f]?=some h/\(zck h).2=true/\(zck h).1[b]?=some x.a/\(zd0 (zgz (zck h).1) x.a).2=true/\x.z=(zd0 (zgz (zck h).1) x.a).1
theorem yoc {least:Int} {H:List (List Sl)} : ∀ (k i:Nat) (acc a:List Cnd),i+k=H.length->(∀ x∈acc,z9b H x)->zd2 least i (H.drop i) acc=some a->∀ x∈a,z9b H x
 | 0,i,acc,a,hk,ha,h=>by
  rw [List.drop_eq_nil_of_le (by omega),zd2] at h;cases h;exact ha
 | k+1,i,acc,a,hk,ha,h=>by
  obtain ⟨l,hx⟩ : ∃ x,H[i]?=some x:=⟨_,bG (by omega)⟩;rw [z9s acc hx] at h;split at h
  ·rename_i hp;split at h
   ·rename_i a' h';have h'':zfj i (zgz (zck l).1) least ((0:Nat):Int) ((zck l).1.drop 0) acc=some a':=by simpa using h'
    exact yoc k (i+1) a' a (by omega) (ycs (p:=z9b H) (fun b x hb hm=>⟨i,b,l,rfl,rfl,hx,hp,hb,hm,rfl⟩) (zck l).1.length 0 acc a' (by omega) ha h'') h
   ·cases h
  ·cases h
theorem qe7 {least:Int} {H:List (List Sl)} : ∀ x∈zep H least,z9b H x:=by
 unfold zep;cases h:zd2 least 0 H [] with
 | none=>simp
 | some a =>
  have h':zd2 least ((0:Nat):Int) (H.drop 0) []=some a:=by simpa using h
  exact yoc H.length 0 [] a (by omega) (fun x hx=>by cases hx) h'
theorem ytg {a b:Int} (h:(sbi a b).2=true):(sbi a b).1=a-b:=by
 unfold sbi at h ⊢;split
 ·rfl
 ·rename_i hc; rw [if_neg hc] at h; cases h
theorem qds {a b:Sl} (h:(zd0 a b).2=true):(zd0 a b).1.n=a.n-b.n/\(zd0 a b).1.g=a.g-b.g:=by
 unfold zd0 at h ⊢;split
 ·rename_i hc;simp only [Bool.and_eq_true] at hc;exact ⟨ytg hc.1,ytg hc.2⟩
 ·rename_i hc; rw [if_neg hc] at h; cases h
theorem yol {g rows:List Int} : ∀ (c v:List (List Int)) (H:List (List Sl)) (f:Nat) (h:List Sl),zbw g rows c v=some H->H[f]?=some h->∃ x y:List Int,v[f]?=some y/\(zce y g rows (x.length+1:Nat)).2=true/\h=(zce y g rows (x.length+1:Nat)).1
 | [],v,H,f,h,e,hf=>by simp [zbw] at e; subst e; simp at hf
 | x::c,[],H,f,h,e,hf=>by simp [zbw] at e; subst e; simp at hf
 | x::c,y::v,H,f,h,e,hf=>by
  simp only [zbw] at e;split at e
  ·rename_i hp;simp only [bB] at e;obtain ⟨H',h1,rfl⟩:=e;cases f with
   | zero =>
    simp at hf;exact ⟨x,y,rfl,by simpa using hp,by rw [<- hf]; simp⟩
   | succ f =>
    simp at hf;obtain ⟨x',y',h2,h3⟩:=yol c v H' f h h1 hf;exact ⟨x',y',by simpa using h2,h3⟩
  ·cases e
theorem qe2 {c v:List (List Int)} {g:List Int} {cfg:Cfg} {rows:List Int} {b:Bd} (h:(zbe c v g cfg rows b).2=true) : ∃ (f k:Nat) (y:List Int),(zbe c v g cfg rows b).1.f=f/\(zbe c v g cfg rows b).1.b=k/\v[f]?=some y/\zek g (zcl y rows k)=(zbe c v g cfg rows b).1.a/\zek g (zd7 y rows k)=(zbe c v g cfg rows b).1.z:=by
 obtain ⟨h1,h2⟩:=ynw h;have hc:(zbe c v g cfg rows b).1∈zep (zbt c v g rows).1 cfg.rw:=by
  unfold zbe at h ⊢;split
  ·rename_i e1;rw [if_pos e1,if_pos h2] at h;exact (yu5 h).1
  ·rename_i e1;rw [if_neg e1] at h; cases h
 obtain ⟨f,k,l,e1,e2,e3,e4,e5,e6,e7⟩:=qe7 _ hc;have hN : ∃ H,zbw g rows c v=some H/\(zbt c v g rows).1=H:=by
  unfold zbt at h2 ⊢;split at h2
  ·rename_i hg;rw [if_pos hg];cases e:zbw g rows c v with
   | none=>rw [e] at h2; cases h2
   | some H=>exact ⟨H,rfl,rfl⟩
  ·cases h2
 obtain ⟨H,hH,hH2⟩:=hN;rw [hH2] at e3;obtain ⟨x,y,hy,hok,rfl⟩:=yol c v H f l hH e3;generalize (zbe c v g cfg rows b).1=C at *;obtain ⟨Cf,Cb,Ca,Cz⟩:=C;simp only at e1 e2 e5 e6 e7 ⊢;refine ⟨f,k,y,e1,e2,hy,?_⟩;have ⟨hs1,hs2⟩:=qgv hok;unfold zce at hok e4 e5 e6 e7 hs1 hs2;split at hok
 ·rename_i hw;rw [if_pos hw] at e4 e5 e6 e7 hs1 hs2;cases eh:zcf y g rows (List.replicate (((x.length+1:Nat):Int)).toNat ⟨0,0⟩) with
  | none=>rw [eh] at hok; cases hok
  | some hh =>
   rw [eh] at e4 e5 e6 e7 hs1 hs2;simp only at e4 e5 e6 e7 hs1 hs2;obtain ⟨t1,t2⟩:=yrv rows _ _ eh k;rw [List.take_replicate] at t1 t2;obtain ⟨z1,z2⟩:=yqb (min (k+1) (((x.length+1:Nat):Int)).toNat);rw [z1] at t1;rw [z2] at t2;have hval:=yt4 rows _ _ eh;obtain ⟨a1,a2⟩:=yq5 (g:=g) (b:=(k:Int)) rows hval;unfold zck at e4 e5 e6 e7;cases ep:zc2 ⟨0,0⟩ hh with
   | none=>rw [ep] at e4; cases e4
   | some pl =>
    rw [ep] at e5 e6 e7;simp only at e5 e6 e7;obtain ⟨p1,p2⟩:=ynt hh _ _ ep k Ca e5;obtain ⟨m1,m2⟩:=qds e6;obtain ⟨q1,q2⟩:=yo9 hh _ _ ep;rw [<- e7] at m1 m2;simp only [zgz] at m1 m2;obtain ⟨an,ag⟩:=Ca;obtain ⟨zn,zg⟩:=Cz;simp only at p1 p2 q1 q2 m1 m2;unfold zek;have g1 : ∀ r:List Int,(r.map fun r=>(atI g r).getD 0).sum=zg9 g r:=fun r=>rfl;rw [g1,g1];simp only [Sl.mk.injEq];omega
 ·cases hok
inductive SN where
 | mk (f c v:Int) (ks:List SN)
def yc7 (q:Bool) (es:List (List PV)):PV:=if q then .own 4 es else .sl 4 es
mutual
def snC (q:Bool):SN->List PV
 | .mk f c v ks=>[iv f,iv c,iv v,yc7 q (snL q ks)]
def snL (q:Bool):List SN->List (List PV)
 | []=>[]
 | s::ss=>snC q s::snL q ss
end
theorem yn4 (q:Bool) : ∀ ks:List SN,snL q ks=ks.map (snC q)
 | []=>by simp [snL]
 | k::ks=>by simp [snL,yn4 q ks]
@[simp] theorem q13 (q:Bool) (ks:List SN):(snL q ks).length=ks.length:=by rw [yn4]; simp
@[simp] theorem qvp (q:Bool) (es:List (List PV)):fz (yc7 q es) = .sl 4 es:=by cases q <;> simp [yc7]
theorem qjs {c:Cfg} (h:zb1 c=true):1<=c.la/\c.la<=100/\0<=c.de/\c.de<=4:=by
 unfold zb1 at h;simp only [Bool.and_eq_true,za3] at h;omega
def yni (v:List (List Int)) (g rows:List Int) (f k:Nat):Cnd:=⟨f,k,zek g (zcl (v.getD f []) rows k),zek g (zd7 (v.getD f []) rows k)⟩
def NI (S:Nat->Option Ob) (nx k:Nat) (m:List Int) (x:PV):Prop:=(x = .e0/\m=[])\/∃ o e,x = .ref o none e 0 m.length/\k<o/\o<nx/\S o=some (.row 1 (zab m))
theorem NI.up {S S':Nat->Option Ob} {nx nx' k:Nat} {l:List Int} {Y:PV} (h:NI S nx k l Y) (hn:nx<=nx') (hS : ∀ o e n,Y = .ref o none e 0 n->k<o->o<nx->S' o=S o):NI S' nx' k l Y:=by
 rcases h with h | ⟨o,e,h1,h2,h3,h4⟩
 ·exact .inl h
 ·exact .inr ⟨o,e,h1,h2,by omega,by rw [hS o e _ h1 h2 h3]; exact h4⟩
structure GH (c v:List (List Int)) (g:List Int) (cfg:Cfg):Prop where
 tk:zge c v g cfg=true
 sg:cfg.sg.length<=1048576
theorem GH.la {c v:List (List Int)} {g:List Int} {cfg:Cfg} (h:GH c v g cfg):1<=cfg.la/\cfg.la<=100/\0<=cfg.de/\cfg.de<=4:=qjs (zyu h.tk).2.1
def WB (v:List (List Int)) (g rows:List Int) (la:Int) (S:Nat->Option Ob) (nx:Nat) (acc:Option Cnd) (B:List PV) (fd:PV):Prop:=(acc=none/\B=[iv 0,iv 0,.e0,.e0,bv false,uv 0,uv 0,iv 0]/\fd=bv false)\/∃ (f k o e p e':Nat),acc=some (yni v g rows f k)/\B=[iv f,iv k,.ref o none e 0 (zcl (v.getD f []) rows k).length,.ref p none e' 0 (zd7 (v.getD f []) rows k).length]++frc (zb4 (yni v g rows f k) la).1/\fd=bv true/\4<o/\o<nx/\4<p/\p<nx/\¬ o=p/\S o=some (.row 1 (zab (zcl (v.getD f []) rows k)))/\S p=some (.row 1 (zab (zd7 (v.getD f []) rows k)))
theorem WB.up {v:List (List Int)} {g rows:List Int} {la:Int} {S S':Nat->Option Ob} {nx nx':Nat} {acc:Option Cnd} {B:List PV} {fd:PV} (h:WB v g rows la S nx acc B fd) (hn:nx<=nx') (hS : ∀ o,4<o->o<nx->S' o=S o):WB v g rows la S' nx' acc B fd:=by
 rcases h with h | ⟨f,k,o,e,p,e',h1,h2,h3,h4,h5,h6,h7,h8,h9,h10⟩
 ·exact .inl h
 ·exact .inr ⟨f,k,o,e,p,e',h1,h2,h3,h4,by omega,h6,by omega,h8,by rw [hS o h4 h5]; exact h9,by rw [hS p h6 h7]; exact h10⟩
theorem NC.up {S S':Nat->Option Ob} {nx nx' oq oq':Nat} {m:List Nd} {x:PV} (h:NC S nx oq m x) (hn:nx<=nx') (ho:oq'=oq\/nx<=oq') (hS : ∀ p,5<p->p<nx->¬ p=oq->S' p=S p):NC S' nx' oq' m x:=by
 rcases h with h | ⟨p,e,h1,h2,h3,h4,h5⟩
 ·exact .inl h
 ·exact .inr ⟨p,e,h1,h2,by omega,by omega,by rw [hS p h2 h3 h4]; exact h5⟩
def okP (g:List Int) (cfg:Cfg) (x:Pnd):Prop:=zxm g.length cfg.de x/\zha x.b=true
def Str (c v:List (List Int)) (g:List Int) (cfg:Cfg) (Q:List Pnd) (F:List Nd) (j:Nat):Prop := ∃ (x:Pnd) (L:Nat),Q[j]?=some x/\okP g cfg x/\F[j]?=some (if goes c v g cfg x=true then zmj c (zbe c v g cfg x.r x.b).1 L else zdb g cfg x)/\(goes c v g cfg x=true->j<L/\Q[L]?=some (zi5 c v cfg x (zbe c v g cfg x.r x.b).1)/\Q[L+1]?=some (zis c v cfg x (zbe c v g cfg x.r x.b).1))
theorem z9z {α:Type} {l m:List α} {i:Nat} {x:α} (h:l[i]?=some x):(l++m)[i]?=some x:=by
 rw [List.getElem?_append_left (bD h).1]; exact h
theorem Str.up {c v:List (List Int)} {g:List Int} {cfg:Cfg} {Q R:List Pnd} {F E:List Nd} {j:Nat} (h:Str c v g cfg Q F j):Str c v g cfg (Q++R) (F++E) j:=by
 obtain ⟨x,L,h1,h2,h3,h4⟩:=h;exact ⟨x,L,z9z h1,h2,z9z h3,fun hg=>⟨(h4 hg).1,z9z (h4 hg).2.1,z9z (h4 hg).2.2⟩⟩
def inR (R x:Int):Prop := -R<=x/\x<=R
def bdR (R:Int) (b:Bd):Prop:=b.lo<=R /\ -R<=b.hi
theorem yt9 {a m R:Int} (hm:0<m) (h1 : -(R*m)<=a) (h2:a<=R*m):inR R (a.fdiv m):=by
 rw [Int.fdiv_eq_ediv_of_nonneg _ (by omega)];exact ⟨(Int.le_ediv_iff_mul_le hm).mpr (by rw [Int.neg_mul]; exact h1),Int.ediv_le_of_le_mul hm h2⟩
theorem zjb {R:Int} (h:0<=R):inR R 0:=⟨by omega,h⟩
theorem yn7 {R x:Int} {b:Bd} (h:inR R x) (hb:bdR R b):inR R (zfi x b.lo b.hi):=by
 unfold zfi inR bdR at *;split
 ·omega
 ·split <;> omega
theorem qf6 {R:Int} {g:List Int} (hR:0<=R) (hg : ∀ x∈g,inR R x) (r:Int):inR R ((atI g r).getD 0):=by
 unfold atI;split
 ·cases h:g[r.toNat]? with
  | none=>exact zjb hR
  | some x=>exact hg x (bF h)
 ·exact zjb hR
theorem yov {R:Int} {g:List Int} (hR:0<=R) (hg : ∀ x∈g,inR R x) : ∀ rows:List Int,-(R*rows.length)<=(zek g rows).g/\(zek g rows).g<=R*rows.length
 | []=>by simp [zek]
 | r::rs=>by
  have ih:=yov hR hg rs;have h1:=qf6 hR hg r;have e:R*((r::rs).length:Int)=R*rs.length+R:=by
   simp only [List.length_cons]; push_cast; rw [Int.mul_add,Int.mul_one]
  rw [e];unfold inR at h1;simp only [zek,List.map_cons,List.sum_cons] at *;omega
theorem ycm {R:Int} {g:List Int} (hR:0<=R) (hg : ∀ x∈g,inR R x) (rows:List Int) (l:Int) {b:Bd} (hb:bdR R b):inR R (zd4 (zek g rows) l b).1:=by
 unfold zd4;split
 ·rename_i hc;simp only [Bool.and_eq_true] at hc;have h1:=hc.1;unfold zhz at h1;simp only [Bool.and_eq_true] at h1;have hn:=za3.mp h1.1;have hl:=za3.mp h1.2;refine yn7 ?_ hb;unfold fdv;split
  ·exact zjb hR
  ·obtain ⟨s1,s2⟩:=yov hR hg rows;have e:(zek g rows).n=rows.length:=rfl;rw [e];have hm:R*rows.length<=R*(rows.length+l):=Int.mul_le_mul_of_nonneg_left (by omega) hR;exact yt9 (by omega) (by omega) (by omega)
 ·exact zjb hR
theorem qgd {R:Int} {c v:List (List Int)} {g rows:List Int} {cfg:Cfg} {b:Bd} (hR:0<=R) (hg : ∀ x∈g,inR R x) (hb:bdR R b) (h:(zbe c v g cfg rows b).2=true):inR R (zbr cfg b (zbe c v g cfg rows b).1).1/\inR R (zbr cfg b (zbe c v g cfg rows b).1).2.1:=by
 obtain ⟨f,k,y,_,_,_,ha,hz⟩:=qe2 h;unfold zbr;rw [<- ha,<- hz];split
 ·exact ⟨ycm hR hg _ _ hb,ycm hR hg _ _ hb⟩
 ·exact ⟨zjb hR,zjb hR⟩
theorem qel {R s l r:Int} {b:Bd} (hb:bdR R b) (hl:inR R l) (hr:inR R r):bdR R (zfe s b l r).1/\bdR R (zfe s b l r).2:=by
 have hh:inR R (zf9 l r):=by unfold zf9 inR at *; omega
 have hm:=yn7 hh hb;unfold zfe;generalize zfi (zf9 l r) b.lo b.hi=m at *;unfold inR bdR at *;split
 ·split
  ·simp only; omega
  ·split <;> simp only <;> omega
 ·simp only; omega
theorem yc0 {R:Int} {c v:List (List Int)} {g:List Int} {cfg:Cfg} (hR:0<=R) (hg : ∀ x∈g,inR R x) : ∀ (n:Nat) (q:List Pnd) (i:Nat) (out:List Nd),(∀ x∈q,bdR R x.b)->(∀ x∈out,inR R x.v)->∀ x∈zdu c v g cfg n q i out,inR R x.v
 | 0,q,i,out,_,ho=>ho
 | n+1,q,i,out,hq,ho=>by
  cases hx:q[i]? with
  | none=>rw [yce hx]; exact ho
  | some x =>
   have hb:=hq x (bF hx);cases hgo:goes c v g cfg x with
   | false =>
    rw [ysm hx hgo];refine yc0 hR hg n _ _ _ hq fun y hy => ?_;rcases List.mem_append.mp hy with hy | hy
    ·exact ho y hy
    ·simp only [List.mem_singleton] at hy;subst hy;exact ycm hR hg _ _ hb
   | true =>
    rw [ytp hx hgo];have hp:(zbe c v g cfg x.r x.b).2=true:=by
     unfold goes at hgo;simp only [Bool.and_eq_true] at hgo;exact hgo.2
    obtain ⟨s1,s2⟩:=qgd hR hg hb hp;obtain ⟨k1,k2⟩:=qel (s:=zd6 cfg (zbe c v g cfg x.r x.b).1.f) hb s1 s2;refine yc0 hR hg n _ _ _ (fun y hy => ?_) fun y hy => ?_
    ·rcases List.mem_append.mp hy with hy | hy
     ·exact hq y hy
     ·simp only [List.mem_cons,List.not_mem_nil,or_false] at hy;rcases hy with rfl | rfl
      ·exact k1
      ·exact k2
    ·rcases List.mem_append.mp hy with hy | hy
     ·exact ho y hy
     ·simp only [List.mem_singleton] at hy;subst hy;exact zjb hR
theorem qd8 {R:Int} {c v:List (List Int)} {g:List Int} {cfg:Cfg} (hR:0<=R) (hg : ∀ x∈g,inR R x) : ∀ x∈(zco c v g cfg).1,inR R x.v:=by
 unfold zco;split
 ·show ∀ x∈zdu c v g cfg 32 [zei g] 0 [],inR R x.v;refine yc0 hR hg 32 _ _ _ (fun x hx => ?_) (fun x hx=>by cases hx);simp only [List.mem_singleton] at hx;subst hx;exact ⟨by show -1099511627776<=R; omega,by show -R<=1099511627776; omega⟩
 ·simp
theorem qei {R v:Int} {c:Cfg} (hR:0<=R) (h:inR R v):inR R (shr v c).1:=by
 unfold shr;split
 ·rename_i hc;simp only [Bool.and_eq_true] at hc;obtain ⟨_,_,_,_,_,hd,hn,_⟩:=ysi hc.1;obtain ⟨h1,h2⟩:=h;have a1:v*c.nu<=R*c.nu:=Int.mul_le_mul_of_nonneg_right h2 (by omega);have a2:R*c.nu<=R*c.dn:=Int.mul_le_mul_of_nonneg_left (by omega) hR;have a3 : -R*c.nu<=v*c.nu:=Int.mul_le_mul_of_nonneg_right h1 (by omega);rw [Int.neg_mul] at a3;exact yt9 (by omega) (by omega) (by omega)
 ·exact zjb hR
theorem yo0 {R:Int} {c:Cfg} {t:List Nd} (hR:0<=R) (h : ∀ x∈t,inR R x.v) : ∀ x∈(zgw c t).1,inR R x.v:=by
 unfold zgw;split
 ·intro x hx;obtain ⟨y,hy,rfl⟩:=List.mem_map.mp hx;unfold zjd;split
  ·exact qei hR (h y hy)
  ·exact h y hy
 ·simp
theorem yuq {R:Int} {t:List Nd} (hR:0<=R) (h : ∀ x∈t,inR R x.v) (row:List Int):inR R (evt t row):=by
 unfold evt;split
 ·exact zjb hR
 ·cases e:t[(rto t row).toNat]? with
  | none=>exact zjb hR
  | some x=>exact h x (bF e)
def noS:Sta:=⟨[],[]⟩
def zd8 (tr:List Nd):List Int->List (List Int)->Option (List Int)
 | p::ps,r::rs=>if (adi p (evt tr r)).2=true then (zd8 tr ps rs).map ((adi p (evt tr r)).1 :: ·) else none
 | _,_=>some []
def zkp (t:Ta) (c v:List (List Int)) (cfg:Cfg) (s:Sta):List Nd×Bool:=if ((zfv t.lb s.sm).2 && (zco c v (zfv t.lb s.sm).1 cfg).2)=true then zgw cfg (zco c v (zfv t.lb s.sm).1 cfg).1 else ([],false)
def zi0 (t:Ta) (tr:List Nd) (s:Sta):Sta×Bool:=match zd8 tr s.sm t.rw with
 | some p=>(⟨p,s.ts++[tr]⟩,true)
 | none=>(noS,false)
def zus (t:Ta) (c v:List (List Int)) (cfg:Cfg) (s:Sta):Sta×Bool:=if (zkp t c v cfg s).2=true then zi0 t (zkp t c v cfg s).1 s else (noS,false)
def zc7 (t:Ta) (c v:List (List Int)) (cfg:Cfg) (s:Sta):Sta×Bool:=if zgp t=true/\c=zcm t cfg.bi/\v=zcz t cfg.bi then zus t c v cfg s else (noS,false)
theorem qba (c:List Int) (v:Int) (hc:c.length<=1048576):RUN T zre [.sl 1 (zab c),iv v]=some ([iv (zdv c v)],[]):=by
 refine zae rfl rfl ?_;simp [-getElem?_pos,z2x,zyz];refine zao (fun n st => ∃ i m:Nat,i+n=c.length/\m<=i/\m=zdv (c.take i) v/\st.V 8 = .sl 1 (zab c)/\st.V 1=iv v/\st.V 5=iv m/\st.V 10=iv i/\st.V 9=iv c.length) ?_ c.length _ ⟨0,0,by omega,by omega,by simp [zdv]⟩;rintro n st ⟨i,m,hi,hm,hmv,v8,v1,v5,v10,v9⟩
 by_cases h:i<c.length
 ·obtain ⟨x,hx⟩ : ∃ x,c[i]?=some x:=⟨_,bG h⟩;have hx':=zay hx;have hw:=wS h (by omega:c.length<=9223372036854775807);have hw2:=w64 (x:=(m:Int)+1) (by omega) (by omega);have hs:=yp7 (c.take i) v x;rw [<- zvb hx,<- hmv] at hs
  by_cases hl:x<v
  ·rw [if_pos hl] at hs;simp [-getElem?_pos,z2w,v8,v1,v5,v10,v9,h,hx',hw,hw2,hl];exact zai (n-1) (by omega) ⟨i+1,m+1,by omega,by omega,hs.symm,by simp [v8,v1,v9]⟩
  ·rw [if_neg hl] at hs;simp [-getElem?_pos,z2w,v8,v1,v5,v10,v9,h,hx',hw,hl];exact zai (n-1) (by omega) ⟨i+1,m,by omega,by omega,hs.symm,by simp [v8,v1,v5,v9]⟩
 ·rw [List.take_of_length_le (by omega)] at hmv;rw [<- hmv];simp [-getElem?_pos,z2w,v8,v5,v10,v9,h]
end Go.Pe
