/- What each function answers by the evaluator,and the law; for each answer its own conditions stand ahead of it. -/
import Derived.Test.YtpcphbbcnmhcnaaGreatC0
import Derived.Test.YtpcphbbcnmhcnaaGreatEvB2
import Derived.IntWalk
set_option linter.all false
set_option maxHeartbeats 8000000
set_option maxRecDepth 8000
namespace Go.Pe
open Go
theorem y9c (c:Cfg) (b:Bd) (l:List Cnd) (hl:l.length<=1048576) (hc:c.sg.length<=1048576) (hi : ∀ x∈l,zeq x):RUN T zr6 [cfS c,.agg (bnd b),.sl 6 (zcd l)]=some ([.agg (cnd (zex c b l).1),bv (zex c b l).2],[]):=by
 have eM : ∀ x∈l,RUN T znq [cfS c,.agg [iv b.lo,iv b.hi],.agg [iv x.f,iv x.b,iv x.a.n,iv x.a.g,iv x.z.n,iv x.z.g]]=some ([bv (zdz c b x)],[]):=fun x hx=>y89 c b x (hi x hx) (by omega);have eB : ∀ x∈l,∀ y∈l,RUN T znr [.agg [iv x.f,iv x.b,iv x.a.n,iv x.a.g,iv x.z.n,iv x.z.g],.agg [iv y.f,iv y.b,iv y.a.n,iv y.a.g,iv y.z.n,iv y.z.g],iv c.la]=some ([bv (zd0 x y c.la)],[]):=fun x hx y hy=>y87 x y c.la (hi x hx) (hi y hy);obtain ⟨R,hR⟩ : ∃ R,R=zex c b l:=⟨_,rfl⟩;unfold zex at hR;rw [show zex c b l=R by rw [hR]; rfl];rw [qef] at hR;simp only [bnd];refine zae rfl rfl ?_;have hr0:zaj 48 0=true:=by decide
 have hr1:zaj 48 1=true:=by decide
 simp [-getElem?_pos,z4g,z4h,hr0];refine zan (fun n st => ∃ (i o e:Nat) (m:List Cnd),i+n=l.length/\m=(l.take i).filter (zdz c b)/\st.V 3 = .ptr 0 none 0 0 0/\st.V 4 = .ptr 1 none 0 0 0/\st.V 6 = .ptr 2 none 0 0 0/\st.V 8 = .ref o none e 0 m.length/\st.V 17 = .sl 6 (zcd l)/\st.V 18=iv l.length/\st.V 19=iv i/\2<o/\o<st.nx/\st.S 0=some (.box [iv c.ro,iv c.de,iv c.bi,iv c.la,iv c.rw,iv c.nu,iv c.dn,.sl 1 (zab c.sg)])/\st.S 1=some (.box [iv b.lo,iv b.hi])/\st.S 2=some (.box [iv 0,iv 0,iv 0,iv 0,iv 0,iv 0])/\st.S o=some (.row 6 (zcd m))) ?_ l.length _ ⟨0,3,0,[],by simp [zcd]⟩;rintro n st ⟨i,o,e,m,hin,hm,v3,v4,v6,v8,v17,v18,v19,ho,hox,hS0,hS1,hS2,hSo⟩;obtain ⟨a01,a02,a03,a04⟩:=fr (show 0<st.nx by omega);obtain ⟨a11,a12,a13,a14⟩:=fr (show 1<st.nx by omega);obtain ⟨a21,a22,a23,a24⟩:=fr (show 2<st.nx by omega);obtain ⟨a31,a32,a33,a34⟩:=fr (show 0<o by omega);obtain ⟨a41,a42,a43,a44⟩:=fr (show 1<o by omega);obtain ⟨a51,a52,a53,a54⟩:=fr (show 2<o by omega);obtain ⟨a61,a62,a63,a64⟩:=fr (show o<st.nx by omega);obtain ⟨a71,a72,a73,a74⟩:=fr (show o<st.nx+1 by omega)
 by_cases h:i<l.length
 ·obtain ⟨x,hx⟩ : ∃ x,l[i]?=some x:=⟨_,bG h⟩;have hx':=zxn hx;have hxm:=bF hx;have hws:=wS h (by omega:l.length<=9223372036854775807);have e1:=eM x hxm;have hml:m.length<=i:=by rw [hm]; exact Nat.le_trans (List.length_filter_le _ _) (by simp; omega)
  have hr48:zaj 48 (m.length+1)=true:=by simp [zaj]; omega
  have htk:(l.take (i+1)).filter (zdz c b)=if zdz c b x=true then m++[x] else m:=by
   rw [List.take_succ,hx,List.filter_append,<- hm]
   by_cases c':zdz c b x=true <;> simp [c']
  have hsn:zcd m++[[iv x.f,iv x.b,iv x.a.n,iv x.a.g,iv x.z.n,iv x.z.g]]=zcd (m++[x]):=by simp [zcd,cnd]
  clear eM eB hm;cases hmx:zdz c b x with
  | true =>
   rw [hmx] at e1;rw [if_pos hmx] at htk;simp [-getElem?_pos,z4f,v3,v4,v6,v8,v17,v18,v19,hS0,hS1,hS2,hSo,h,hx',cnd,e1,hws,hr1,hr48,hsn,a01,a02,a03,a04,a11,a12,a13,a14,a21,a22,a23,a24,a31,a32,a33,a34,a41,a42,a43,a44,a51,a52,a53,a54,a61,a62,a63,a64,a71,a72,a73,a74];exact zai (n-1) (by omega) ⟨i+1,st.nx+2,st.ep,m++[x],by omega,htk.symm,by simp [v3],by simp [v4],by simp [v6],by simp,by simp [v17],by simp [v18],by simp,by omega,by simp [a01,a02,a03,a04,a11,a12,a13,a14,a21,a22,a23,a24,a31,a32,a33,a34,a41,a42,a43,a44,a51,a52,a53,a54,a61,a62,a63,a64,a71,a72,a73,a74,hS0,hS1,hS2]⟩
  | false =>
   rw [hmx] at e1;rw [if_neg (by simp [hmx])] at htk;simp [-getElem?_pos,z4f,v3,v4,v6,v8,v17,v18,v19,hS0,hS1,hS2,hSo,h,hx',cnd,e1,hws,a01,a02,a03,a04,a11,a12,a13,a14,a21,a22,a23,a24,a31,a32,a33,a34,a41,a42,a43,a44,a51,a52,a53,a54,a61,a62,a63,a64,a71,a72,a73,a74];exact zai (n-1) (by omega) ⟨i+1,o,e,m,by omega,htk.symm,by simp [v3],by simp [v4],by simp [v6],by simp [v8],by simp [v17],by simp [v18],by simp,by omega,by simp; omega,by simp [a01,a02,a03,a04,a11,a12,a13,a14,a21,a22,a23,a24,a31,a32,a33,a34,a41,a42,a43,a44,a51,a52,a53,a54,a61,a62,a63,a64,a71,a72,a73,a74,hS0,hS1,hS2,hSo]⟩
 ·rw [List.take_of_length_le (by omega)] at hm;rw [<- hm] at hR;have hmem : ∀ y∈m,y∈l:=fun y hy=>by rw [hm] at hy; exact (List.mem_filter.mp hy).1
  have hml:m.length<=1048576:=by rw [hm]; exact Nat.le_trans (List.length_filter_le _ _) hl
  simp [-getElem?_pos,z4f,v8,v18,v19,hSo,h];obtain ⟨q,hq⟩ : ∃ q:Cnd->Bool,q=fun x=>m.all fun y => !zd0 y x c.la:=⟨_,rfl⟩;rw [<- hq] at hR;clear eM hm hin;refine zan (fun n st => ∃ i:Nat,i+n=m.length/\(m.drop i).find? q=m.find? q/\st.V 3 = .ptr 0 none 0 0 0/\st.V 4 = .ptr 1 none 0 0 0/\st.V 6 = .ptr 2 none 0 0 0/\st.V 8 = .ref o none e 0 m.length/\st.V 32 = .ref o none e 0 m.length/\st.V 33=iv m.length/\st.V 34=iv i/\2<o/\o<st.nx/\st.S 0=some (.box [iv c.ro,iv c.de,iv c.bi,iv c.la,iv c.rw,iv c.nu,iv c.dn,.sl 1 (zab c.sg)])/\st.S 1=some (.box [iv b.lo,iv b.hi])/\st.S 2=some (.box [iv 0,iv 0,iv 0,iv 0,iv 0,iv 0])/\st.S o=some (.row 6 (zcd m))) ?_ m.length _ ⟨0,by simp,by simp,by simp [v3],by simp [v4],by simp [v6],by simp [v8],by simp,by simp,by simp,ho,by simp [hox,hS0,hS1,hS2,hSo]⟩;clear v3 v4 v6 v8 v17 v18 v19 hS0 hS1 hS2 hSo hox ho;clear a01 a02 a03 a04 a11 a12 a13 a14 a21 a22 a23 a24 a31 a32 a33 a34 a41 a42 a43 a44 a51 a52 a53 a54 a61 a62 a63 a64 a71 a72 a73 a74;rintro n st ⟨i,hin,hf,v3,v4,v6,v8,v32,v33,v34,ho,hox,hS0,hS1,hS2,hSo⟩;obtain ⟨b01,b02,b03,b04⟩:=fr (show 0<st.nx by omega);obtain ⟨b11,b12,b13,b14⟩:=fr (show 1<st.nx by omega);obtain ⟨b21,b22,b23,b24⟩:=fr (show 2<st.nx by omega);obtain ⟨b31,b32,b33,b34⟩:=fr (show 0<o by omega);obtain ⟨b41,b42,b43,b44⟩:=fr (show 1<o by omega);obtain ⟨b51,b52,b53,b54⟩:=fr (show 2<o by omega);obtain ⟨b61,b62,b63,b64⟩:=fr (show o<st.nx by omega)
  by_cases h:i<m.length
  ·obtain ⟨x,hx⟩ : ∃ x,m[i]?=some x:=⟨_,bG h⟩;have hx':=zxn hx;have hxm:=bF hx;have hws:=wS h (by omega:m.length<=9223372036854775807);rw [zc3 hx,List.find?_cons] at hf;obtain ⟨kb0,hkb⟩ : ∃ k,k=q x:=⟨_,rfl⟩;rw [<- hkb] at hf;have hkb2:kb0=(true && (m.drop 0).all fun y => !zd0 y x c.la):=by rw [hkb,hq]; rfl
   clear hkb hq;simp [-getElem?_pos,yaj,v3,v4,v6,v8,v32,v33,v34,hS0,hS1,hS2,hSo,h,hx',cnd,b01,b02,b03,b04,b11,b12,b13,b14,b21,b22,b23,b24,b31,b32,b33,b34,b41,b42,b43,b44,b51,b52,b53,b54,b61,b62,b63,b64];generalize hpp:st.nx=pp at *;refine zan (fun n' s => ∃ (j:Nat) (k:Bool),j+n'=m.length/\(k && (m.drop j).all fun y => !zd0 y x c.la)=kb0/\s.V 3 = .ptr 0 none 0 0 0/\s.V 4 = .ptr 1 none 0 0 0/\s.V 6 = .ptr 2 none 0 0 0/\s.V 8 = .ref o none e 0 m.length/\s.V 32 = .ref o none e 0 m.length/\s.V 33=iv m.length/\s.V 34=iv i/\s.V 11=iv i/\s.V 12 = .ptr pp none st.ep 0 0/\s.V 13=bv k/\s.V 39 = .ref o none e 0 m.length/\s.V 40=iv m.length/\s.V 41=iv j/\pp<s.nx/\s.S 0=some (.box [iv c.ro,iv c.de,iv c.bi,iv c.la,iv c.rw,iv c.nu,iv c.dn,.sl 1 (zab c.sg)])/\s.S 1=some (.box [iv b.lo,iv b.hi])/\s.S 2=some (.box [iv 0,iv 0,iv 0,iv 0,iv 0,iv 0])/\s.S o=some (.row 6 (zcd m))/\s.S pp=some (.box [iv x.f,iv x.b,iv x.a.n,iv x.a.g,iv x.z.n,iv x.z.g])) ?_ m.length _ ⟨0,true,by omega,hkb2.symm,by simp [v3,v4,v6,v8,v32,v33,v34,b01,b02,b03,b04,b11,b12,b13,b14,b21,b22,b23,b24,b31,b32,b33,b34,b41,b42,b43,b44,b51,b52,b53,b54,b61,b62,b63,b64,hS0,hS1,hS2,hSo]⟩;clear v3 v4 v6 v8 v32 v33 v34 hS0 hS1 hS2 hSo;rintro n' s ⟨j,k,hj,hk,v3,v4,v6,v8,v32,v33,v34,v11,v12,v13,v39,v40,v41,hpn,hS0,hS1,hS2,hSo,hSp⟩;have Z1:=bI hS0 <| bI hS1 <| bI hS2 <| bI hSo hSp
   obtain ⟨d01,d02,d03,d04⟩:=fr (show 0<s.nx by omega);obtain ⟨d11,d12,d13,d14⟩:=fr (show 1<s.nx by omega);obtain ⟨d21,d22,d23,d24⟩:=fr (show 2<s.nx by omega);obtain ⟨d31,d32,d33,d34⟩:=fr (show 0<o by omega);obtain ⟨d41,d42,d43,d44⟩:=fr (show 1<o by omega);obtain ⟨d51,d52,d53,d54⟩:=fr (show 2<o by omega);obtain ⟨d61,d62,d63,d64⟩:=fr (show o<s.nx by omega);obtain ⟨d71,d72,d73,d74⟩:=fr (show 0<pp by omega);obtain ⟨d81,d82,d83,d84⟩:=fr (show 1<pp by omega);obtain ⟨d91,d92,d93,d94⟩:=fr (show 2<pp by omega);obtain ⟨d101,d102,d103,d104⟩:=fr (show o<pp by omega);obtain ⟨d111,d112,d113,d114⟩:=fr (show pp<s.nx by omega);have Z0:=bI d01 <| bI d02 <| bI d03 <| bI d04 <| bI d11 <| bI d12 <| bI d13 <| bI d14 <| bI d21 <| bI d22 <| bI d23 <| bI d24 <| bI d31 <| bI d32 <| bI d33 <| bI d34 <| bI d41 <| bI d42 <| bI d43 <| bI d44 <| bI d51 <| bI d52 <| bI d53 <| bI d54 <| bI d61 <| bI d62 <| bI d63 <| bI d64 <| bI d71 <| bI d72 <| bI d73 <| bI d74 <| bI d81 <| bI d82 <| bI d83 <| bI d84 <| bI d91 <| bI d92 <| bI d93 <| bI d94 <| bI d101 <| bI d102 <| bI d103 <| bI d104 <| bI d111 <| bI d112 <| bI d113 d114
   by_cases hjl:j<m.length
   ·obtain ⟨y,hy⟩ : ∃ y,m[j]?=some y:=⟨_,bG hjl⟩;have hy':=zxn hy;have hym:=bF hy;have hwj:=wS hjl (by omega:m.length<=9223372036854775807);have e3:=eB y (hmem y hym) x (hmem x hxm);rw [zc3 hy,List.all_cons] at hk;clear eB;cases k with
    | false =>
     have hk':(false && (m.drop (j+1)).all fun y => !zd0 y x c.la)=kb0:=by rw [<- hk]; rfl
     simp [-getElem?_pos,zob,v3,v4,v6,v8,v11,v12,v13,v39,v40,v41,Z1,hjl,hy',cnd,hwj,Z0];exact zai (n'-1) (by omega) ⟨j+1,false,by omega,hk',by simp [v3],by simp [v4],by simp [v6],by simp [v8],by simp [v32],by simp [v33],by simp [v34],by simp [v11],by simp [v12],by simp [v13],by simp [v39],by simp [v40],by simp,by simp; omega,by simp [Z0,Z1]⟩
    | true =>
     by_cases hij:j=i
     ·have hyx:y=x:=by
       subst hij;rw [hx] at hy; exact (Option.some.inj hy).symm
      subst hyx;rw [qfs] at hk;have hk':(true && (m.drop (j+1)).all fun z => !zd0 z y c.la)=kb0:=by rw [<- hk]; rfl
      subst hij;simp [-getElem?_pos,zob,v3,v4,v6,v8,v11,v12,v13,v39,v40,v41,Z1,hjl,hy',cnd,hwj,Z0];exact zai (n'-1) (by omega) ⟨j+1,true,by omega,hk',by simp [v3],by simp [v4],by simp [v6],by simp [v8],by simp [v32],by simp [v33],by simp [v34],by simp [v11],by simp [v12],by simp [v13],by simp [v39],by simp [v40],by simp,by simp; omega,by simp [Z0,Z1]⟩
     ·have h1:((j:Int)=i)=False:=eq_false (by omega);have h2:((i:Int)=j)=False:=eq_false (by omega);have hji : ¬ i=j:=fun e=>hij e.symm;generalize zd0 y x c.la=bb at *;cases bb with
      | true =>
       have hk':(false && (m.drop (j+1)).all fun y => !zd0 y x c.la)=kb0:=by rw [<- hk]; rfl
       simp [-getElem?_pos,zob,v3,v4,v6,v8,v11,v12,v13,v39,v40,v41,Z1,hjl,hy',cnd,hwj,Z0,h1,h2,hij,hji,e3];exact zai (n'-1) (by omega) ⟨j+1,false,by omega,hk',by simp [v3],by simp [v4],by simp [v6],by simp [v8],by simp [v32],by simp [v33],by simp [v34],by simp [v11],by simp [v12],by simp [v13],by simp [v39],by simp [v40],by simp,by simp; omega,by simp [Z0,Z1]⟩
      | false =>
       have hk':(true && (m.drop (j+1)).all fun y => !zd0 y x c.la)=kb0:=by rw [<- hk]; rfl
       simp [-getElem?_pos,zob,v3,v4,v6,v8,v11,v12,v13,v39,v40,v41,Z1,hjl,hy',cnd,hwj,Z0,h1,h2,hij,hji,e3];exact zai (n'-1) (by omega) ⟨j+1,true,by omega,hk',by simp [v3],by simp [v4],by simp [v6],by simp [v8],by simp [v32],by simp [v33],by simp [v34],by simp [v11],by simp [v12],by simp [v13],by simp [v39],by simp [v40],by simp,by simp; omega,by simp [Z0,Z1]⟩
   ·rw [List.drop_eq_nil_of_le (by omega)] at hk;simp only [List.all_nil,Bool.and_true] at hk;subst hk;cases k with
    | true =>
     simp only at hf;rw [<- hf] at hR;simp only at hR;subst hR;simp [-getElem?_pos,zob,v3,v4,v6,v8,v11,v12,v13,v39,v40,v41,Z1,hjl,cnd,Z0]
    | false =>
     simp only at hf;simp [-getElem?_pos,zob,v3,v4,v6,v8,v11,v12,v13,v34,v39,v40,v41,Z1,hjl,hws,Z0];exact zai (n-1) (by omega) ⟨i+1,by omega,hf,by simp [v3],by simp [v4],by simp [v6],by simp [v8],by simp [v32],by simp [v33],by simp,ho,by simp; omega,by simp [hS0,hS1,hS2,hSo]⟩
  ·rw [List.drop_eq_nil_of_le (by omega)] at hf;rw [<- hf] at hR;simp only [List.find?_nil] at hR;subst hR;simp [-getElem?_pos,yaj,v6,v33,v34,hS2,h,zky,cnd]
def zd4 (a b:Sl):Sl×Bool:=if ((sbi a.n b.n).2 && (sbi a.g b.g).2)=true then (⟨(sbi a.n b.n).1,(sbi a.g b.g).1⟩,true) else (⟨0,0⟩,false)
theorem yp0 {a b:Int}:inI (sbi a b).1:=by
 unfold sbi inI;split
 ·rename_i h; simpa using h
 ·simp
theorem qcn (a b:Sl):slI (zd4 a b).1:=by
 unfold zd4;split
 ·exact ⟨yp0,yp0⟩
 ·unfold slI inI; simp
def zc9 (s:Sl):List Sl->Option (List Sl)
 | []=>some []
 | x::xs=>if (zbj s x).2=true then (zc9 (zbj s x).1 xs).map ((zbj s x).1 :: ·) else none
def zcm (h:List Sl):List Sl×Bool:=match zc9 ⟨0,0⟩ h with
 | some l=>(l,true)
 | none=>([],false)
theorem yrw : ∀ (h:List Sl) (s:Sl) (l:List Sl),slI s->zc9 s h=some l->l.length=h.length/\∀ x∈l,slI x
 | [],s,l,_,e=>by simp [zc9] at e; subst e; simp
 | x::xs,s,l,hs,e=>by
  simp only [zc9] at e;split at e
  ·simp only [bB] at e;obtain ⟨l',h1,rfl⟩:=e;have hp:=zmo (b:=x) hs;obtain ⟨h2,h3⟩:=yrw xs _ _ hp h1;refine ⟨by simp [h2],fun y hy => ?_⟩;rcases List.mem_cons.mp hy with e | e
   ·subst e; exact hp
   ·exact h3 y e
  ·cases e
theorem z78:slI ⟨0,0⟩:=⟨by unfold inI; simp,by unfold inI; simp⟩
theorem ybi (h:List Sl):(zcm h).1.length<=h.length/\(∀ x∈(zcm h).1,slI x)/\((zcm h).2=true->(zcm h).1.length=h.length):=by
 unfold zcm;cases e:zc9 ⟨0,0⟩ h with
 | none=>simp
 | some l =>
  obtain ⟨h1,h2⟩:=yrw h _ l z78 e;exact ⟨by simp [h1],h2,fun _=>h1⟩
def zfm (f:Int) (all:Sl) (least:Int):Int->List Sl->List Cnd->Option (List Cnd)
 | b,x::y::xs,acc=>if (zd4 all x).2=true then zfm f all least (b+1) (y::xs) (if least<=x.n/\least<=(zd4 all x).1.n then acc++[⟨f,b,x,(zd4 all x).1⟩] else acc) else none
 | _,_,acc=>some acc
def zgx (l:List Sl):Sl:=l.getLast?.getD ⟨0,0⟩
def zd5 (least:Int):Int->List (List Sl)->List Cnd->Option (List Cnd)
 | _,[],acc=>some acc
 | f,h::hs,acc=>if (zcm h).2=true then match zfm f (zgx (zcm h).1) least 0 (zcm h).1 acc with
  | some a=>zd5 least (f+1) hs a
  | none=>none
  else none
def zel (H:List (List Sl)) (least:Int):List Cnd:=(zd5 least 0 H []).getD []
theorem z80 {f:Int} {all:Sl} {least:Int} {l:List Sl} {i:Nat} {x:Sl} (acc:List Cnd) (hx:l[i]?=some x) (hi:i+1<l.length):zfm f all least i (l.drop i) acc=if (zd4 all x).2=true then zfm f all least (i+1:Nat) (l.drop (i+1)) (if least<=x.n/\least<=(zd4 all x).1.n then acc++[⟨f,i,x,(zd4 all x).1⟩] else acc) else none:=by
 rw [zc3 hx,zc3 (bG hi),zfm];simp
theorem zu6 {f:Int} {all:Sl} {least:Int} {l:List Sl} {i:Nat} (acc:List Cnd) (hi : ¬ i+1<l.length):zfm f all least i (l.drop i) acc=some acc:=by
 match h:l.drop i with
 | []=>rw [zfm]; simp
 | [x]=>rw [zfm]; simp
 | x::y::xs =>
  have:=congrArg List.length h;simp at this; omega
theorem ysi {l:List Sl} {x:Sl} (h:l[l.length-1]?=some x):zgx l=x:=by
 unfold zgx; rw [List.getLast?_eq_getElem?,h]; rfl
def zuw (H:List (List Sl)) (x:Cnd):Prop := ∃ (f b:Nat) (h:List Sl),x.f=f/\x.b=b/\H[f]?=some h/\b+1<h.length/\slI x.a/\slI x.z
theorem yew {f:Int} {all:Sl} {least:Int} {p:Cnd->Prop} {l:List Sl} (hl : ∀ x∈l,slI x) (hp : ∀ (b:Nat) (x z:Sl),b+1<l.length->slI x->slI z->p ⟨f,b,x,z⟩) : ∀ (k i:Nat) (acc a:List Cnd),i+k=l.length->(∀ x∈acc,p x)->zfm f all least i (l.drop i) acc=some a->a.length<=acc.length+k/\∀ x∈a,p x
 | 0,i,acc,a,hk,ha,h=>by
  rw [zu6 acc (by omega)] at h;cases h;exact ⟨by omega,ha⟩
 | k+1,i,acc,a,hk,ha,h=>by
  by_cases hi:i+1<l.length
  ·obtain ⟨x,hx⟩ : ∃ x,l[i]?=some x:=⟨_,bG (by omega)⟩;rw [z80 acc hx hi] at h;have hxi:=hl x (bF hx);split at h
   ·split at h
    ·obtain ⟨h1,h2⟩:=yew hl hp k (i+1) _ _ (by omega) (fun y hy=>by
      rcases List.mem_append.mp hy with e | e
      ·exact ha y e
      ·simp only [List.mem_singleton] at e; subst e; exact hp i x _ hi hxi (qcn _ _)) h
     exact ⟨by simp at h1; omega,h2⟩
    ·obtain ⟨h1,h2⟩:=yew hl hp k (i+1) _ _ (by omega) ha h;exact ⟨by omega,h2⟩
   ·cases h
  ·rw [zu6 acc hi] at h;cases h;exact ⟨by omega,ha⟩
theorem z9t {least:Int} {H:List (List Sl)} {i:Nat} {h:List Sl} (acc:List Cnd) (hx:H[i]?=some h):zd5 least i (H.drop i) acc=if (zcm h).2=true then match zfm i (zgx (zcm h).1) least 0 (zcm h).1 acc with
  | some a=>zd5 least (i+1:Nat) (H.drop (i+1)) a
  | none=>none
  else none:=by
 rw [zc3 hx,zd5];simp
theorem yon {least:Int} {H:List (List Sl)} {m:Nat} (hm : ∀ l∈H,l.length<=m) : ∀ (k i:Nat) (acc a:List Cnd),i+k=H.length->(∀ x∈acc,zuw H x)->zd5 least i (H.drop i) acc=some a->a.length<=acc.length+m*k/\∀ x∈a,zuw H x
 | 0,i,acc,a,hk,ha,h=>by
  rw [List.drop_eq_nil_of_le (by omega),zd5] at h;cases h;exact ⟨by omega,ha⟩
 | k+1,i,acc,a,hk,ha,h=>by
  obtain ⟨l,hx⟩ : ∃ x,H[i]?=some x:=⟨_,bG (by omega)⟩;rw [z9t acc hx] at h;obtain ⟨p1,p2,p3⟩:=ybi l;split at h
  ·rename_i hp;split at h
   ·rename_i a' h';have h'':zfm i (zgx (zcm l).1) least ((0:Nat):Int) ((zcm l).1.drop 0) acc=some a':=by simpa using h'
    obtain ⟨q1,q2⟩:=yew (p:=zuw H) p2 (fun b x z hb hx' hz'=>⟨i,b,l,rfl,rfl,hx,by omega,hx',hz'⟩) (zcm l).1.length 0 acc a' (by omega) ha h'';obtain ⟨r1,r2⟩:=yon hm k (i+1) a' a (by omega) q2 h;have:=hm l (bF hx);refine ⟨?_,r2⟩;rw [Nat.mul_add];omega
   ·cases h
  ·cases h
theorem ys6 {least:Int} {H:List (List Sl)} {m:Nat} (hm : ∀ l∈H,l.length<=m):(zel H least).length<=m*H.length/\∀ x∈zel H least,zuw H x:=by
 unfold zel;cases h:zd5 least 0 H [] with
 | none=>simp
 | some a =>
  have h':zd5 least ((0:Nat):Int) (H.drop 0) []=some a:=by simpa using h
  obtain ⟨h1,h2⟩:=yon hm H.length 0 [] a (by omega) (fun x hx=>by cases hx) h';exact ⟨by simpa using h1,h2⟩
theorem yux {H:List (List Sl)} {x:Cnd} (hH:H.length<=1048576) (hl : ∀ l∈H,l.length<=1048576) (h:zuw H x):zeq x:=by
 obtain ⟨f,b,l,h1,h2,h3,h4,h5,h6⟩:=h;have:=(bD h3).1;have:=hl l (bF h3);exact ⟨by unfold inI; omega,by unfold inI; omega,h5,h6⟩
theorem yt5 {c:Cfg} {b:Bd} {l:List Cnd} (h:(zex c b l).2=true):(zex c b l).1∈l/\zdz c b (zex c b l).1=true/\∀ y∈l,zdz c b y=true->zd0 y (zex c b l).1 c.la=false:=by
 unfold zex at h ⊢;cases e:l.find? (zmk c b l) with
 | none=>rw [e] at h; cases h
 | some x =>
  simp only;have h1:=List.mem_of_find?_eq_some e;have h2:=List.find?_some e;unfold zmk at h2;simp only [Bool.and_eq_true] at h2;refine ⟨h1,h2.1,fun y hy hm => ?_⟩;have:=List.all_eq_true.mp h2.2 y hy;unfold noB at this;rw [hm] at this;simpa using this
theorem qig : ∀ x y:Nat,2*(x &&& y)+(x ^^^ y)=x+y:=by
 intro x
 induction x using Nat.strongRecOn with
 | _ x ih =>
  intro y
  by_cases hx:x=0
  ·subst hx; simp
  ·have h1:=ih (x / 2) (by omega) (y / 2);have h2:(x &&& y) / 2=x / 2 &&& y / 2:=by rw [Nat.and_div_two]
   have h3:(x ^^^ y) / 2=x / 2 ^^^ y / 2:=by rw [Nat.xor_div_two]
   have h4:(x &&& y) % 2=1↔x % 2=1/\y % 2=1:=Nat.and_mod_two_eq_one;have h5:(x ^^^ y) % 2=1↔¬ (x % 2=1↔y % 2=1):=Nat.xor_mod_two_eq_one;omega
def zc1 (a:Int):Nat:=(a % 18446744073709551616).toNat
theorem z77 {a:Int} (h:inI a):(zc1 a:Int)=if a<0 then a+18446744073709551616 else a:=by
 unfold inI at h;unfold zc1;split <;> omega
theorem z8t (a:Int):zc1 a<18446744073709551616:=by
 unfold zc1; omega
theorem ycv {n:Nat} (h:n<18446744073709551616):IntKind.i64.wrap n=if n<9223372036854775808 then (n:Int) else n-18446744073709551616:=by
 split
 ·exact w64 (by omega) (by omega)
 ·simp [IntKind.wrap,IntKind.signed,IntKind.bits];omega
theorem qij (x y:Nat) (hx:x<18446744073709551616) (hy:y<18446744073709551616):(9223372036854775808<=(x &&& y)↔9223372036854775808<=x/\9223372036854775808<=y)/\(9223372036854775808<=(x ^^^ y)↔¬ (9223372036854775808<=x↔9223372036854775808<=y)):=by
 have h1:(x &&& y) >>> 63=x >>> 63 &&& y >>> 63:=Nat.shiftRight_and_distrib;have h2:(x ^^^ y) >>> 63=x >>> 63 ^^^ y >>> 63:=Nat.shiftRight_xor_distrib;rw [Nat.shiftRight_eq_div_pow,Nat.shiftRight_eq_div_pow,Nat.shiftRight_eq_div_pow] at h1 h2;have hx':x / 2 ^ 63=0\/x / 2 ^ 63=1:=by omega
 have hy':y / 2 ^ 63=0\/y / 2 ^ 63=1:=by omega
 rcases hx' with e1 | e1 <;> rcases hy' with e2 | e2 <;> rw [e1,e2] at h1 h2 <;> simp at h1 h2 <;> omega
theorem ysw {x y:Nat} (hx:x<18446744073709551616):(x &&& y)<18446744073709551616:=Nat.lt_of_le_of_lt Nat.and_le_left hx
theorem qg1 {x y:Nat} (hx:x<18446744073709551616) (hy:y<18446744073709551616):(x ^^^ y)<18446744073709551616:=Nat.xor_lt_two_pow (n:=64) hx hy
theorem qfb {a b:Int} (ha:inI a) (hb:inI b):2*IntKind.i64.wrap ((zc1 a &&& zc1 b:Nat):Int)+IntKind.i64.wrap ((zc1 a ^^^ zc1 b:Nat):Int)=a+b:=by
 have la:=z8t a;have lb:=z8t b;have ea:=z77 ha;have eb:=z77 hb;obtain ⟨t1,t2⟩:=qij _ _ la lb;have hs:=qig (zc1 a) (zc1 b);rw [ycv (ysw la),ycv (qg1 la lb)];unfold inI at ha hb;generalize zc1 a &&& zc1 b=p at *;generalize zc1 a ^^^ zc1 b=q at *;split at ea <;> split at eb <;> split <;> split <;> omega
theorem ysd {a b:Int} (ha:inI a) (hb:inI b):inI (IntKind.i64.wrap ((zc1 a &&& zc1 b:Nat):Int))/\(IntKind.i64.wrap ((zc1 a &&& zc1 b:Nat):Int) % 2=1↔a % 2=1/\b % 2=1):=by
 have la:=z8t a;have lb:=z8t b;have ea:=z77 ha;have eb:=z77 hb;have h4:(zc1 a &&& zc1 b) % 2=1↔zc1 a % 2=1/\zc1 b % 2=1:=Nat.and_mod_two_eq_one;have hl:=ysw (y:=zc1 b) la;rw [ycv hl];unfold inI at *;generalize zc1 a &&& zc1 b=p at *;split at ea <;> split at eb <;> split <;> omega
def zge (a b:Int):Int:=(a+b) / 2
theorem y9d (a b:Int) (ha:inI a) (hb:inI b):RUN T zsc [iv a,iv b]=some ([iv (zge a b)],[]):=by
 refine zae rfl rfl ?_;have h:=qfb ha hb;obtain ⟨h1,_⟩:=ysd ha hb;unfold zc1 at h h1;unfold inI at ha hb h1;have hb64:IntKind.i64.bits=64:=rfl;simp [z4z,zs6,hb64];rw [Int.fdiv_eq_ediv_of_nonneg _ (by omega)];unfold zge;generalize IntKind.i64.wrap (((a % 18446744073709551616).toNat &&& (b % 18446744073709551616).toNat:Nat):Int)=p at *;generalize IntKind.i64.wrap (((a % 18446744073709551616).toNat ^^^ (b % 18446744073709551616).toNat:Nat):Int)=q at *;rw [w64 (by omega) (by omega)];omega
theorem y9e (a b:Int) (ha:inI a) (hb:inI b):RUN T zr8 [iv a,iv b]=some ([iv (zge a b)],[]):=by
 refine zae rfl rfl ?_;obtain ⟨h1,h2⟩:=ysd ha hb;unfold zc1 at h1 h2;unfold inI at ha hb h1;have hb64:IntKind.i64.bits=64:=rfl;simp [z4p,zs6,hb64];rw [Int.fdiv_eq_ediv_of_nonneg _ (by omega),Int.fdiv_eq_ediv_of_nonneg _ (by omega)];unfold zge;generalize IntKind.i64.wrap (((a % 18446744073709551616).toNat &&& (b % 18446744073709551616).toNat:Nat):Int)=p at *;have h3:max (p % 18446744073709551616) 0 % 2=p % 2:=by omega
 rw [h3,w64 (x:=p % 2) (by omega) (by omega),w64 (x:=a / 2+b / 2) (by omega) (by omega),w64 (by omega) (by omega)];omega
def zfo (s:Int) (b:Bd) (l r:Int):Bd×Bd:=if zgz b=true then (if s=1 then (⟨b.lo,zfq (zge l r) b.lo b.hi⟩,⟨zfq (zge l r) b.lo b.hi,b.hi⟩) else if s = -1 then (⟨zfq (zge l r) b.lo b.hi,b.hi⟩,⟨b.lo,zfq (zge l r) b.lo b.hi⟩) else (b,b)) else (b,b)
theorem y9f (s:Int) (b:Bd) (l r:Int) (hl:inI l) (hr:inI r):RUN T zrs [iv s,.agg (bnd b),iv l,iv r]=some ([.agg (bnd (zfo s b l r).1),.agg (bnd (zfo s b l r).2)],[]):=by
 have e1:=ymi b;have e2:=y9d l r hl hr;have e3:=ymk (zge l r) b.lo b.hi;refine zae rfl rfl ?_;unfold zfo;generalize zgz b=q at *;generalize zfq (zge l r) b.lo b.hi=m at *;obtain ⟨lo,hi⟩:=b;simp only [bnd] at *;cases q with
 | false=>simp [ztx,zts,e1]
 | true =>
  by_cases h1:s=1
  ·simp [ztx,zts,e1,e2,e3,h1]
  ·by_cases h2:s = -1 <;> simp [ztx,zts,e1,e2,e3,h1,h2]
theorem y9g (s:Int) (b:Bd) (l r:Int) (hl:inI l) (hr:inI r):RUN T zrj [iv s,.agg (bnd b),iv l,iv r]=some ([.agg (bnd (zfo s b l r).1),.agg (bnd (zfo s b l r).2)],[]):=by
 have e1:=ymh b;have e2:=y9e l r hl hr;have e3:=ymj (zge l r) b.lo b.hi;refine zae rfl rfl ?_;unfold zfo;generalize zgz b=q at *;generalize zfq (zge l r) b.lo b.hi=m at *;obtain ⟨lo,hi⟩:=b;simp only [bnd] at *;cases q with
 | false=>simp [ztr,zts,e1,e2,e3]
 | true =>
  by_cases h1:s=1
  ·simp [ztr,zts,e1,e2,e3,h1]
  ·by_cases h2:s = -1 <;> simp [ztr,zts,e1,e2,e3,h1,h2]
theorem y9h (a b:Sl) (ha:slI a) (hb:slI b):RUN T zsi [.agg (slc a),.agg (slc b)]=some ([.agg (slc (zd4 a b).1),bv (zd4 a b).2],[]):=by
 have e1:=yay a.n b.n ha.1 hb.1;have e2:=yay a.g b.g ha.2 hb.2;unfold zd4;generalize sbi a.n b.n=x at *;generalize sbi a.g b.g=y at *;obtain ⟨x,xb⟩:=x;obtain ⟨y,yb⟩:=y;simp only at e1 e2 ⊢;refine zae rfl rfl ?_;cases xb <;> cases yb <;> simp [z5f,z5g,e1,e2,slc]
theorem ytw (m:List Sl) (x:Sl):zbe m++[[iv x.n,iv x.g]]=zbe (m++[x]):=by simp [zbe,slc]
theorem ytz {s x:Sl} {h:List Sl} {i:Nat} (hx:h[i]?=some x):zc9 s (h.drop i)=if (zbj s x).2=true then (zc9 (zbj s x).1 (h.drop (i+1))).map ((zbj s x).1 :: ·) else none:=by
 rw [zc3 hx,zc9]
theorem y9i (h:List Sl) (hl:h.length<=1048576) (hi : ∀ x∈h,slI x):RUN T zsh [.sl 2 (zbe h)]=some ([.own 2 (zbe (zcm h).1),bv (zcm h).2],[]):=by
 obtain ⟨R,hR⟩ : ∃ R,R=zcm h:=⟨_,rfl⟩;have hR':R=match zc9 ⟨0,0⟩ h with
  | some l=>(l,true)
  | none=>([],false):=by rw [hR]; rfl
 rw [<- hR];clear hR;have hr0:zaj 16 0=true:=by decide
 have hr1:zaj 16 1=true:=by decide
 refine zae rfl rfl ?_;simp [-getElem?_pos,z5d,z5e,hr0];refine zan (fun n st => ∃ (i o e:Nat) (m:List Sl) (s:Sl),i+n=h.length/\m.length=i/\slI s/\zc9 ⟨0,0⟩ h=(zc9 s (h.drop i)).map (m ++ ·)/\st.V 4 = .ref o none e 0 m.length/\st.V 5 = .ptr 1 none 0 0 0/\st.V 12 = .sl 2 (zbe h)/\st.V 13=iv h.length/\st.V 14=iv i/\¬ o=1/\o<st.nx/\1<st.nx/\st.S o=some (.row 2 (zbe m))/\st.S 1=some (.box [iv s.n,iv s.g])) ?_ h.length _ ⟨0,0,0,[],⟨0,0⟩,by omega,rfl,z78,by simp [zbe]⟩;rintro n st ⟨i,o,ep,m,s,hin,hm,hs,hp,v4,v5,v12,v13,v14,ho1,hox,h1x,hSo,hS1⟩;obtain ⟨x1,x2,x3,x4⟩:=fr hox;obtain ⟨z1,z2,z3,z4⟩:=fr h1x;obtain ⟨a1,a2,a3,a4⟩:=fr (show o<st.nx+1 by omega);obtain ⟨b1,b2,b3,b4⟩:=fr (show o<st.nx+2 by omega);obtain ⟨c1,c2,c3,c4⟩:=fr (show 1<st.nx+1 by omega);obtain ⟨d1,d2,d3,d4⟩:=fr (show 1<st.nx+2 by omega);have ho2 : ¬ 1=o:=fun e=>ho1 e.symm;have hn0 : ¬ st.nx=0:=by omega
 have hn1 : ¬ 1=st.nx+1:=by omega
 by_cases hlt:i<h.length
 ·obtain ⟨x,hx⟩ : ∃ x,h[i]?=some x:=⟨_,bG hlt⟩;have hx':=zmq hx;have hws:=wS hlt (by omega:h.length<=9223372036854775807);have hr16:zaj 16 (m.length+1)=true:=by simp [zaj]; omega
  have e1:=ya6 s x hs (hi x (bF hx));have hpi:=zmo (b:=x) hs;rw [ytz hx] at hp;generalize zbj s x=p at *;obtain ⟨⟨pn,pg⟩,pb⟩:=p;simp only [slc] at e1 hp hpi;cases pb with
  | false =>
   rw [if_neg (by simp)] at hp;rw [hp] at hR';subst hR';simp [-getElem?_pos,z5c,v4,v5,v12,v13,v14,hlt,hx',hSo,hS1,e1,ho1,ho2,hn0,x1,x2,x3,x4,z1,z2,z3,z4,a1,a2,a3,a4,b1,b2,b3,b4,c1,c2,c3,c4,d1,d2,d3,d4];simp [zbe]
  | true =>
   rw [if_pos rfl] at hp;have hsn:=ytw m ⟨pn,pg⟩;simp only at hsn;simp [-getElem?_pos,z5c,v4,v5,v12,v13,v14,hlt,hx',hSo,hS1,hr1,hr16,hws,hsn,e1,ho1,ho2,hn0,x1,x2,x3,x4,z1,z2,z3,z4,a1,a2,a3,a4,b1,b2,b3,b4,c1,c2,c3,c4,d1,d2,d3,d4];exact zai (n-1) (by omega) ⟨i+1,st.nx+1+2,st.ep,m++[⟨pn,pg⟩],⟨pn,pg⟩,by omega,by simp [hm],hpi,by rw [hp]; cases zc9 ⟨pn,pg⟩ (h.drop (i+1)) <;> simp,by simp,by simp [v5],by simp [v12],by simp [v13],by simp,by omega,by simp,by simp <;> omega,by simp [hn0]⟩
 ·rw [List.drop_eq_nil_of_le (by omega),zc9] at hp;simp only [Option.map_some,List.append_nil] at hp;rw [hp] at hR';subst hR';simp [-getElem?_pos,z5c,v4,v13,v14,hlt,hSo]
theorem y9j (h:List Sl) (hl:h.length<=1048576) (hi : ∀ x∈h,slI x):RUN T zsl [.sl 2 (zbe h)]=some ([.own 2 (zbe (zcm h).1),bv (zcm h).2],[]):=by
 obtain ⟨R,hR⟩ : ∃ R,R=zcm h:=⟨_,rfl⟩;have hR':R=match zc9 ⟨0,0⟩ h with
  | some l=>(l,true)
  | none=>([],false):=by rw [hR]; rfl
 rw [<- hR];clear hR;have hr0:zaj 16 0=true:=by decide
 have hr1:zaj 16 1=true:=by decide
 refine zae rfl rfl ?_;simp [-getElem?_pos,z5o,z5e,hr0];refine zan (fun n st => ∃ (i o e:Nat) (m:List Sl) (s:Sl),i+n=h.length/\m.length=i/\slI s/\zc9 ⟨0,0⟩ h=(zc9 s (h.drop i)).map (m ++ ·)/\st.V 0 = .sl 2 (zbe h)/\st.V 4 = .ref o none e 0 m.length/\st.V 5 = .ptr 1 none 0 0 0/\st.V 6=iv i/\¬ o=1/\o<st.nx/\1<st.nx/\st.S o=some (.row 2 (zbe m))/\st.S 1=some (.box [iv s.n,iv s.g])) ?_ h.length _ ⟨0,0,0,[],⟨0,0⟩,by omega,rfl,z78,by simp [zbe]⟩;rintro n st ⟨i,o,ep,m,s,hin,hm,hs,hp,v0,v4,v5,v6,ho1,hox,h1x,hSo,hS1⟩;obtain ⟨x1,x2,x3,x4⟩:=fr hox;obtain ⟨z1,z2,z3,z4⟩:=fr h1x;obtain ⟨a1,a2,a3,a4⟩:=fr (show o<st.nx+1 by omega);obtain ⟨c1,c2,c3,c4⟩:=fr (show 1<st.nx+1 by omega);have ho2 : ¬ 1=o:=fun e=>ho1 e.symm;have hn0 : ¬ st.nx=0:=by omega
 have hn1 : ¬ 1=st.nx+1:=by omega
 by_cases hlt:i<h.length
 ·obtain ⟨x,hx⟩ : ∃ x,h[i]?=some x:=⟨_,bG hlt⟩;have hx':=zmq hx;have hws:=wS hlt (by omega:h.length<=9223372036854775807);have hr16:zaj 16 (m.length+1)=true:=by simp [zaj]; omega
  have e1:=ya7 s x hs (hi x (bF hx));have hpi:=zmo (b:=x) hs;rw [ytz hx] at hp;generalize zbj s x=p at *;obtain ⟨⟨pn,pg⟩,pb⟩:=p;simp only [slc] at e1 hp hpi;cases pb with
  | false =>
   rw [if_neg (by simp)] at hp;rw [hp] at hR';subst hR';simp [-getElem?_pos,z5n,v0,v4,v5,v6,hlt,hx',hSo,hS1,hr0,e1,ho1,ho2,hn0,x1,x2,x3,x4,z1,z2,z3,z4,a1,a2,a3,a4,c1,c2,c3,c4];simp [zbe]
  | true =>
   rw [if_pos rfl] at hp;have hsn:=ytw m ⟨pn,pg⟩;simp only at hsn;simp [-getElem?_pos,z5n,v0,v4,v5,v6,hlt,hx',hSo,hS1,hr1,hr16,hws,hsn,e1,ho1,ho2,hn0,x1,x2,x3,x4,z1,z2,z3,z4,a1,a2,a3,a4,c1,c2,c3,c4];exact zai (n-1) (by omega) ⟨i+1,st.nx+2,st.ep,m++[⟨pn,pg⟩],⟨pn,pg⟩,by omega,by simp [hm],hpi,by rw [hp]; cases zc9 ⟨pn,pg⟩ (h.drop (i+1)) <;> simp,by simp [v0],by simp,by simp [v5],by simp,by omega,by simp,by simp <;> omega,by simp [hn0,ho1,ho2]⟩
 ·rw [List.drop_eq_nil_of_le (by omega),zc9] at hp;simp only [Option.map_some,List.append_nil] at hp;rw [hp] at hR';subst hR';simp [-getElem?_pos,z5n,v0,v4,v6,hlt,hSo]
theorem ymv (m:List Cnd) (x:Cnd):zcd m++[[iv x.f,iv x.b,iv x.a.n,iv x.a.g,iv x.z.n,iv x.z.g]]=zcd (m++[x]):=by simp [zcd,cnd]
theorem y9k (q:Bool) (H:List (List Sl)) (least:Int) (hH:H.length<=16) (hl : ∀ l∈H,l.length<=16) (hi : ∀ l∈H,∀ x∈l,slI x):RUN T zr7 [.sl 1 (rss q H),iv least]=some ([.own 6 (zcd (zel H least))],[]):=by
 obtain ⟨R,hR⟩ : ∃ R,R=zel H least:=⟨_,rfl⟩;have hR':R=(zd5 least 0 H []).getD []:=hR;rw [<- hR];clear hR;have hr0:zaj 48 0=true:=by decide
 have hr1:zaj 48 1=true:=by decide
 refine zae rfl rfl ?_;simp [-getElem?_pos,z4j,z4k,hr0];refine zan (fun n st => ∃ (i o e:Nat) (acc:List Cnd),i+n=H.length/\acc.length<=16*i/\zd5 least i (H.drop i) acc=zd5 least 0 H []/\st.V 1=iv least/\st.V 5 = .ref o none e 0 acc.length/\st.V 14 = .sl 1 (rss q H)/\st.V 15=iv H.length/\st.V 16=iv i/\o<st.nx/\st.S o=some (.row 6 (zcd acc))) ?_ H.length _ ⟨0,0,0,[],by omega,by simp [zcd]⟩;rintro n st ⟨i,o,ep,acc,hin,hacc,hF,v1,v5,v14,v15,v16,hox,hSo⟩;obtain ⟨x1,x2,x3,x4⟩:=fr hox
 by_cases hlt:i<H.length
 ·obtain ⟨l,hx⟩ : ∃ x,H[i]?=some x:=⟨_,bG hlt⟩;have hx':=yt1 (q:=q) hx;have hlm:=bF hx;have hws:=wS hlt (by omega:H.length<=9223372036854775807);have hll:=hl l hlm;have e1:=y9i l (by omega) (hi l hlm);obtain ⟨p1,p2,p3⟩:=ybi l;rw [z9t acc hx] at hF;generalize zcm l=p at *;obtain ⟨sums,pb⟩:=p;simp only at e1 p1 p2 p3 hF;cases pb with
  | false =>
   rw [if_neg (by simp)] at hF;rw [<- hF] at hR';subst hR';simp [-getElem?_pos,z4i,v1,v5,v14,v15,v16,hlt,hx',hSo,e1,x1,x2,x3,x4];simp [zcd]
  | true =>
   rw [if_pos rfl] at hF;have p3:=p3 rfl;simp [-getElem?_pos,z4i,v1,v5,v14,v15,v16,hlt,hx',hSo,e1,x1,x2,x3,x4];obtain ⟨tgt,htgt⟩ : ∃ t,t=zfm i (zgx sums) least 0 sums acc:=⟨_,rfl⟩;rw [<- htgt] at hF;obtain ⟨p,hpe⟩ : ∃ p,p=st.nx:=⟨_,rfl⟩;refine zan (fun n' s => ∃ (b o' e':Nat) (acc':List Cnd),b+n'=sums.length/\acc'.length<=16*i+b/\zfm i (zgx sums) least b (sums.drop b) acc'=tgt/\s.V 1=iv least/\s.V 5 = .ref o' none e' 0 acc'.length/\s.V 6=iv i/\s.V 8 = .ref p none st.ep 0 sums.length/\s.V 10=iv b/\s.V 14 = .sl 1 (rss q H)/\s.V 15=iv H.length/\s.V 16=iv i/\¬ o'=p/\o'<s.nx/\p<s.nx/\s.S o'=some (.row 6 (zcd acc'))/\s.S p=some (.row 2 (zbe sums))) ?_ sums.length _ ⟨0,o,ep,acc,by omega,by omega,by rw [htgt]; simp,by simp [v1],by simp [v5],by simp,by simp [hpe],by simp,by simp [v14],by simp [v15],by simp [v16],by omega,by simp; omega,by simp; omega,by simp [x1,x2,x3,x4,hSo,hpe]⟩;clear v1 v5 v14 v15 v16 hox hSo x1 x2 x3 x4;generalize st.ep=ep2;rintro n' s ⟨b,o',e',acc',hbn,hacc',hB,v1,v5,v6,v8,v10,v14,v15,v16,hop,hox,hpx,hSo,hSp⟩;obtain ⟨x1,x2,x3,x4⟩:=fr hox;obtain ⟨z1,z2,z3,z4⟩:=fr hpx;obtain ⟨a1,a2,a3,a4⟩:=fr (show o'<s.nx+1 by omega);obtain ⟨c1,c2,c3,c4⟩:=fr (show p<s.nx+1 by omega);have hpo : ¬ p=o':=fun e=>hop e.symm
   by_cases hb:b+1<sums.length
   ·obtain ⟨x,hx⟩ : ∃ x,sums[b]?=some x:=⟨_,bG (by omega)⟩;obtain ⟨y,hy⟩ : ∃ x,sums[sums.length-1]?=some x:=⟨_,bG (by omega)⟩;have hxs:=zmq hx;have hys:=zmq hy;have hly:=ysi hy;have w1:IntKind.i64.wrap ((sums.length:Int)-1)=((sums.length-1:Nat):Int):=by rw [w64 (by omega) (by omega)]; omega
    have w2:=w64 (x:=(b:Int)+1) (by omega) (by omega);have k1:b<sums.length-1:=by omega
    have k2:b<sums.length:=by omega
    have k3:sums.length-1<sums.length:=by omega
    have hr48:zaj 48 (acc'.length+1)=true:=by simp [zaj]; omega
    have e2:=y9h y x (p2 y (bF hy)) (p2 x (bF hx));rw [z80 acc' hx hb,hly] at hB;generalize zd4 y x=d at *;obtain ⟨⟨dn,dg⟩,db⟩:=d;simp only [slc] at e2 hB;cases db with
    | false =>
     rw [if_neg (by simp)] at hB;rw [<- hB] at hF;simp only at hF;rw [<- hF] at hR';simp only [Option.getD_none] at hR';subst hR';simp [-getElem?_pos,ztz,v1,v5,v6,v8,v10,v14,v15,v16,hSo,hSp,hxs,hys,w1,k1,k2,k3,e2,hop,hpo,x1,x2,x3,x4,z1,z2,z3,z4];simp [zcd]
    | true =>
     rw [if_pos rfl] at hB
     by_cases g1:least<=x.n
     ·by_cases g2:least<=dn
      ·rw [if_pos ⟨g1,g2⟩] at hB;have hsn:=ymv acc' ⟨i,b,x,⟨dn,dg⟩⟩;simp only at hsn;simp [-getElem?_pos,ztz,v1,v5,v6,v8,v10,v14,v15,v16,hSo,hSp,hxs,hys,w1,w2,k1,k2,k3,e2,g1,g2,hr1,hr48,hsn,hop,hpo,x1,x2,x3,x4,z1,z2,z3,z4,a1,a2,a3,a4,c1,c2,c3,c4];refine zai (n'-1) (by omega) ⟨b+1,s.nx+2,s.ep,acc'++[⟨i,b,x,⟨dn,dg⟩⟩],by omega,by simp; omega,by rw [hly]; exact hB,by simp [v1],by simp,by simp [v6],by simp [v8],by simp,by simp [v14],by simp [v15],by simp [v16],by omega,by simp,by simp; omega,by simp [hop,hpo,x1,x2,x3,x4,z1,z2,z3,z4,hSp]⟩
      ·rw [if_neg (fun h=>g2 h.2)] at hB;simp [-getElem?_pos,ztz,v1,v5,v6,v8,v10,v14,v15,v16,hSo,hSp,hxs,hys,w1,w2,k1,k2,k3,e2,g1,g2,hop,hpo,x1,x2,x3,x4,z1,z2,z3,z4];refine zai (n'-1) (by omega) ⟨b+1,o',e',acc',by omega,by omega,by rw [hly]; exact hB,by simp [v1],by simp [v5],by simp [v6],by simp [v8],by simp,by simp [v14],by simp [v15],by simp [v16],hop,by simp; omega,by simp; omega,by simp [x1,x2,x3,x4,hSo,z1,z2,z3,z4,hSp]⟩
     ·rw [if_neg (fun h=>g1 h.1)] at hB;simp [-getElem?_pos,ztz,v1,v5,v6,v8,v10,v14,v15,v16,hSo,hSp,hxs,hys,w1,w2,k1,k2,k3,e2,g1,hop,hpo,x1,x2,x3,x4,z1,z2,z3,z4];refine zai (n'-1) (by omega) ⟨b+1,o',e',acc',by omega,by omega,by rw [hly]; exact hB,by simp [v1],by simp [v5],by simp [v6],by simp [v8],by simp,by simp [v14],by simp [v15],by simp [v16],hop,by simp; omega,by simp; omega,by simp [x1,x2,x3,x4,hSo,z1,z2,z3,z4,hSp]⟩
   ·rw [zu6 acc' hb] at hB;rw [<- hB] at hF;simp only at hF;have w1:IntKind.i64.wrap ((sums.length:Int)-1)=(sums.length:Int)-1:=w64 (by omega) (by omega);have k1 : ¬ (b:Int)<(sums.length:Int)-1:=by omega
    simp [-getElem?_pos,ztz,v8,v10,v16,hSp,w1,k1,hws];exact zai (n-1) (by omega) ⟨i+1,o',e',acc',by omega,by omega,hF,by simp [v1,v5,v14,v15,hox,hSo]⟩
 ·rw [List.drop_eq_nil_of_le (by omega),zd5] at hF;rw [<- hF] at hR';simp only [Option.getD_some] at hR';subst hR';simp [-getElem?_pos,z4i,v5,v15,v16,hlt,hSo]
theorem y9l (q:Bool) (H:List (List Sl)) (least:Int) (hH:H.length<=16) (hl : ∀ l∈H,l.length<=16) (hi : ∀ l∈H,∀ x∈l,slI x):RUN T zsb [.sl 1 (rss q H),iv least]=some ([.own 6 (zcd (zel H least))],[]):=by
 obtain ⟨R,hR⟩ : ∃ R,R=zel H least:=⟨_,rfl⟩;have hR':R=(zd5 least 0 H []).getD []:=hR;rw [<- hR];clear hR;have hr0:zaj 48 0=true:=by decide
 have hr1:zaj 48 1=true:=by decide
 refine zae rfl rfl ?_;simp [-getElem?_pos,z4v,z4k,hr0];refine zan (fun n st => ∃ (i o e:Nat) (acc:List Cnd),i+n=H.length/\acc.length<=16*i/\zd5 least i (H.drop i) acc=zd5 least 0 H []/\st.V 1=iv least/\st.V 5 = .ref o none e 0 acc.length/\st.V 0 = .sl 1 (rss q H)/\st.V 6=iv i/\o<st.nx/\st.S o=some (.row 6 (zcd acc))) ?_ H.length _ ⟨0,0,0,[],by omega,by simp [zcd]⟩;rintro n st ⟨i,o,ep,acc,hin,hacc,hF,v1,v5,v0,v6,hox,hSo⟩;obtain ⟨x1,x2,x3,x4⟩:=fr hox
 by_cases hlt:i<H.length
 ·obtain ⟨l,hx⟩ : ∃ x,H[i]?=some x:=⟨_,bG hlt⟩;have hx':=yt1 (q:=q) hx;have hlm:=bF hx;have hws:=wS hlt (by omega:H.length<=9223372036854775807);have hll:=hl l hlm;have e1:=y9j l (by omega) (hi l hlm);obtain ⟨p1,p2,p3⟩:=ybi l;rw [z9t acc hx] at hF;generalize zcm l=p at *;obtain ⟨sums,pb⟩:=p;simp only at e1 p1 p2 p3 hF;cases pb with
  | false =>
   rw [if_neg (by simp)] at hF;rw [<- hF] at hR';subst hR';simp [-getElem?_pos,z4u,v0,v1,v5,v6,hlt,hx',hSo,e1,hr0,x1,x2,x3,x4];simp [zcd]
  | true =>
   rw [if_pos rfl] at hF;have p3:=p3 rfl;simp [-getElem?_pos,z4u,v0,v1,v5,v6,hlt,hx',hSo,e1,hr0,x1,x2,x3,x4];obtain ⟨tgt,htgt⟩ : ∃ t,t=zfm i (zgx sums) least 0 sums acc:=⟨_,rfl⟩;rw [<- htgt] at hF;obtain ⟨p,hpe⟩ : ∃ p,p=st.nx:=⟨_,rfl⟩;refine zan (fun n' s => ∃ (b o' e':Nat) (acc':List Cnd),b+n'=sums.length/\acc'.length<=16*i+b/\zfm i (zgx sums) least b (sums.drop b) acc'=tgt/\s.V 0 = .sl 1 (rss q H)/\s.V 1=iv least/\s.V 5 = .ref o' none e' 0 acc'.length/\s.V 6=iv i/\s.V 7 = .ref p none st.ep 0 sums.length/\s.V 9=iv b/\¬ o'=p/\o'<s.nx/\p<s.nx/\s.S o'=some (.row 6 (zcd acc'))/\s.S p=some (.row 2 (zbe sums))) ?_ sums.length _ ⟨0,o,ep,acc,by omega,by omega,by rw [htgt]; simp,by simp [v0],by simp [v1],by simp [v5],by simp [v6],by simp [hpe],by simp,by omega,by simp; omega,by simp; omega,by simp [x1,x2,x3,x4,hSo,hpe]⟩;clear v0 v1 v5 v6 hox hSo x1 x2 x3 x4;generalize st.ep=ep2;rintro n' s ⟨b,o',e',acc',hbn,hacc',hB,v0,v1,v5,v6,v7,v9,hop,hox,hpx,hSo,hSp⟩;obtain ⟨x1,x2,x3,x4⟩:=fr hox;obtain ⟨z1,z2,z3,z4⟩:=fr hpx;obtain ⟨a1,a2,a3,a4⟩:=fr (show o'<s.nx+1 by omega);obtain ⟨c1,c2,c3,c4⟩:=fr (show p<s.nx+1 by omega);have hpo : ¬ p=o':=fun e=>hop e.symm;have Z0:=bI hop <| bI hpo <| bI x1 <| bI x2 <| bI x3 <| bI x4 <| bI z1 <| bI z2 <| bI z3 z4
   by_cases hb:b+1<sums.length
   ·obtain ⟨x,hx⟩ : ∃ x,sums[b]?=some x:=⟨_,bG (by omega)⟩;obtain ⟨y,hy⟩ : ∃ x,sums[sums.length-1]?=some x:=⟨_,bG (by omega)⟩;have hxs:=zmq hx;have hys:=zmq hy;have hly:=ysi hy;have w1:IntKind.i64.wrap ((sums.length:Int)-1)=((sums.length-1:Nat):Int):=by rw [w64 (by omega) (by omega)]; omega
    have w2:=w64 (x:=(b:Int)+1) (by omega) (by omega);have k1:(b:Int)+1<(sums.length:Int):=by omega
    have k2:b<sums.length:=by omega
    have k3:sums.length-1<sums.length:=by omega
    have hr48:zaj 48 (acc'.length+1)=true:=by simp [zaj]; omega
    have e2:=yaz y.n x.n (p2 y (bF hy)).1 (p2 x (bF hx)).1;have e3:=yaz y.g x.g (p2 y (bF hy)).2 (p2 x (bF hx)).2;rw [z80 acc' hx hb,hly] at hB;unfold zd4 at hB;generalize sbi y.n x.n=d at *;generalize sbi y.g x.g=d' at *;obtain ⟨dn,db⟩:=d;obtain ⟨dg,db'⟩:=d';simp only at e2 e3 hB;obtain ⟨dd,hdd⟩ : ∃ dd,dd=(db && db'):=⟨_,rfl⟩;rw [<- hdd] at hB;cases dd with
    | false =>
     simp only [Bool.false_eq_true,if_false] at hB;rw [<- hB] at hF;simp only at hF;rw [<- hF] at hR';simp only [Option.getD_none] at hR';subst hR';cases db with
     | false =>
      simp [-getElem?_pos,zoe,v0,v1,v5,v6,v7,v9,hSo,hSp,hxs,hys,w1,w2,k1,k2,k3,e2,e3,hr0,Z0,a1,a2,a3,a4,c1,c2,c3,c4];simp [zcd]
     | true =>
      have hd2:db'=false:=by simpa using hdd.symm
      subst hd2;simp [-getElem?_pos,zoe,v0,v1,v5,v6,v7,v9,hSo,hSp,hxs,hys,w1,w2,k1,k2,k3,e2,e3,hr0,Z0,a1,a2,a3,a4,c1,c2,c3,c4];simp [zcd]
    | true =>
     obtain ⟨hd1,hd2⟩:db=true/\db'=true:=by simpa using hdd.symm
     subst hd1 hd2;simp only [if_true] at hB
     by_cases g1:least<=x.n
     ·by_cases g2:least<=dn
      ·rw [if_pos ⟨g1,g2⟩] at hB;have hsn:=ymv acc' ⟨i,b,x,⟨dn,dg⟩⟩;simp only at hsn;simp [-getElem?_pos,zoe,v0,v1,v5,v6,v7,v9,hSo,hSp,hxs,hys,w1,w2,k1,k2,k3,e2,e3,hr0,Z0,a1,a2,a3,a4,c1,c2,c3,c4,g1,g2,hr1,hr48,hsn];refine zai (n'-1) (by omega) ⟨b+1,s.nx+2,s.ep,acc'++[⟨i,b,x,⟨dn,dg⟩⟩],by omega,by simp; omega,by rw [hly]; exact hB,by simp [v0],by simp [v1],by simp,by simp [v6],by simp [v7],by simp,by omega,by simp,by simp; omega,by simp [Z0,hSp]⟩
      ·rw [if_neg (fun h=>g2 h.2)] at hB;simp [-getElem?_pos,zoe,v0,v1,v5,v6,v7,v9,hSo,hSp,hxs,hys,w1,w2,k1,k2,k3,e2,e3,hr0,Z0,a1,a2,a3,a4,c1,c2,c3,c4,g1,g2];refine zai (n'-1) (by omega) ⟨b+1,o',e',acc',by omega,by omega,by rw [hly]; exact hB,by simp [v0],by simp [v1],by simp [v5],by simp [v6],by simp [v7],by simp,hop,by simp; omega,by simp; omega,by simp [x1,x2,x3,x4,hSo,z1,z2,z3,z4,hSp]⟩
     ·rw [if_neg (fun h=>g1 h.1)] at hB;simp [-getElem?_pos,zoe,v0,v1,v5,v6,v7,v9,hSo,hSp,hxs,hys,w1,w2,k1,k2,k3,e2,e3,hr0,Z0,a1,a2,a3,a4,c1,c2,c3,c4,g1];refine zai (n'-1) (by omega) ⟨b+1,o',e',acc',by omega,by omega,by rw [hly]; exact hB,by simp [v0],by simp [v1],by simp [v5],by simp [v6],by simp [v7],by simp,hop,by simp; omega,by simp; omega,by simp [x1,x2,x3,x4,hSo,z1,z2,z3,z4,hSp]⟩
   ·rw [zu6 acc' hb] at hB;rw [<- hB] at hF;simp only at hF;have w1:IntKind.i64.wrap ((sums.length:Int)-1)=(sums.length:Int)-1:=w64 (by omega) (by omega);have w2:=w64 (x:=(b:Int)+1) (by omega) (by omega);have k1 : ¬ (b:Int)+1<(sums.length:Int):=by omega
    simp [-getElem?_pos,zoe,v6,v7,v9,hSp,w2,k1,hws];exact zai (n-1) (by omega) ⟨i+1,o',e',acc',by omega,by omega,hF,by simp [v1,v5,v0,hox,hSo]⟩
 ·rw [List.drop_eq_nil_of_le (by omega),zd5] at hF;rw [<- hF] at hR';simp only [Option.getD_some] at hR';subst hR';simp [-getElem?_pos,z4u,v0,v5,v6,hlt,hSo]
def zbd (c v:List (List Int)) (g:List Int) (cfg:Cfg) (rows:List Int) (b:Bd):Cnd×Bool:=if zf8 c v g cfg=true then (if (zbz c v g rows).2=true then zex cfg b (zel (zbz c v g rows).1 cfg.rw) else (zky,false)) else (zky,false)
theorem yq7 {b g:List Int} : ∀ (rows:List Int) (h h':List Sl),(∀ x∈h,slI x)->zci b g rows h=some h'->∀ x∈h',slI x
 | [],h,h',hh,e=>by simp [zci] at e; subst e; exact hh
 | r::rs,h,h',hh,e=>by
  simp only [zci] at e;split at e
  ·split at e
   ·rename_i s hs;split at e
    ·refine yq7 rs _ _ (fun x hx => ?_) e;rcases List.mem_or_eq_of_mem_set hx with h1 | h1
     ·exact hh x h1
     ·subst h1;obtain ⟨_,_,h3,_⟩:=zgn hs;exact zmo (hh _ (bF h3))
    ·cases e
   ·cases e
  ·cases e
theorem qgs (b g rows:List Int) (k:Int) : ∀ x∈(zch b g rows k).1,slI x:=by
 unfold zch;split
 ·cases h:zci b g rows (List.replicate k.toNat ⟨0,0⟩) with
  | none=>simp
  | some h'=>exact yq7 _ _ _ (fun x hx=>by rw [List.eq_of_mem_replicate hx]; exact z78) h
 ·simp
theorem yur {g rows:List Int} : ∀ (c v:List (List Int)) (H:List (List Sl)),zb2 g rows c v=some H->∀ l∈H,∀ x∈l,slI x
 | [],v,H,h=>by simp [zb2] at h; subst h; simp
 | x::c,[],H,h=>by simp [zb2] at h; subst h; simp
 | x::c,y::v,H,h=>by
  simp only [zb2] at h;split at h
  ·simp only [bB] at h;obtain ⟨H',h1,rfl⟩:=h;intro l hl;rcases List.mem_cons.mp hl with e | e
   ·subst e; exact qgs _ _ _ _
   ·exact yur c v H' h1 l e
  ·cases h
theorem yrn (c v:List (List Int)) (g rows:List Int) : ∀ l∈(zbz c v g rows).1,∀ x∈l,slI x:=by
 unfold zbz;split
 ·cases h:zb2 g rows c v with
  | none=>simp
  | some H=>exact yur c v H h
 ·simp
theorem z9c (c v:List (List Int)) (g rows:List Int):(zbz c v g rows).1.length<=4:=by
 by_cases h:zdg c v=true
 ·have:=(zuy c v g rows).1;have:=yc6 h;omega
 ·unfold zbz;rw [if_neg h]; simp
theorem yop (c v:List (List Int)) (g rows:List Int) (least:Int):(zel (zbz c v g rows).1 least).length<=1048576/\∀ x∈zel (zbz c v g rows).1 least,zeq x:=by
 have h1:=z9c c v g rows;have h2:=(zuy c v g rows).2;obtain ⟨h3,h4⟩:=ys6 (least:=least) h2;exact ⟨by omega,fun x hx=>yux (by omega) (fun l hl=>Nat.le_trans (h2 l hl) (by omega)) (h4 x hx)⟩
theorem y9m (q:Bool) (c v:List (List Int)) (g:List Int) (cfg:Cfg) (rows:List Int) (b:Bd) (hc : ∀ l∈c,l.length<=1048576) (hv : ∀ l∈v,l.length<=1048576) (hg:g.length<=1048576) (hr:rows.length<=1048576) (hs:cfg.sg.length<=1048576) (hgi : ∀ x∈g,inI x):RUN T zrh [.agg [.sl 1 (rws q c),.sl 1 (rws q v)],.sl 1 (zab g),cfS cfg,.sl 1 (zab rows),.agg (bnd b)]=some ([.agg (cnd (zbd c v g cfg rows b).1),bv (zbd c v g cfg rows b).2],[]):=by
 have e1:=ylz q c v g cfg (fun l hl=>Nat.le_trans (hc l hl) (by omega)) (fun l hl=>Nat.le_trans (hv l hl) (by omega)) (by omega) (by omega);have e2:=y8s q c v g rows hc hv hg hr hgi;obtain ⟨f1,f2⟩:=yop c v g rows cfg.rw;have e3:=y9k true (zbz c v g rows).1 cfg.rw (by have:=z9c c v g rows; omega) (fun l hl=>by have:=(zuy c v g rows).2 l hl; omega) (yrn c v g rows);have e4:=y9c cfg b (zel (zbz c v g rows).1 cfg.rw) f1 hs f2;unfold zbd;simp only [zcj,bnd] at e1 e4;generalize zf8 c v g cfg=t at *;generalize zbz c v g rows=H at *;obtain ⟨H,hb⟩:=H;simp only at e2 e3 e4 ⊢;generalize zex cfg b (zel H cfg.rw)=r at *;generalize zel H cfg.rw=L at *;obtain ⟨r,rb⟩:=r;simp only [cnd] at e4 ⊢;refine zae rfl rfl ?_;cases t with
 | false=>simp [-getElem?_pos,ztp,ztq,bnd,e1,zky]
 | true =>
  cases hb with
  | false=>simp [-getElem?_pos,ztp,ztq,bnd,e1,e2,zky]
  | true =>
   simp [-getElem?_pos,ztp,ztq,bnd,e1,e2,e3,e4]
theorem y9n (q:Bool) (c v:List (List Int)) (g:List Int) (cfg:Cfg) (rows:List Int) (b:Bd) (hc : ∀ l∈c,l.length<=1048576) (hv : ∀ l∈v,l.length<=1048576) (hg:g.length<=1048576) (hr:rows.length<=1048576) (hs:cfg.sg.length<=1048576) (hgi : ∀ x∈g,inI x):RUN T zrp [.agg [.sl 1 (rws q c),.sl 1 (rws q v)],.sl 1 (zab g),cfS cfg,.sl 1 (zab rows),.agg (bnd b)]=some ([.agg (cnd (zbd c v g cfg rows b).1),bv (zbd c v g cfg rows b).2],[]):=by
 have e1:=yl0 q c v g cfg (fun l hl=>Nat.le_trans (hc l hl) (by omega)) (fun l hl=>Nat.le_trans (hv l hl) (by omega)) (by omega) (by omega);have e2:=y8t q c v g rows hc hv hg hr hgi;obtain ⟨f1,f2⟩:=yop c v g rows cfg.rw;have e3:=y9l true (zbz c v g rows).1 cfg.rw (by have:=z9c c v g rows; omega) (fun l hl=>by have:=(zuy c v g rows).2 l hl; omega) (yrn c v g rows);have e4:=y9b cfg b (zel (zbz c v g rows).1 cfg.rw) f1 hs f2;unfold zbd;simp only [zcj,bnd] at e1 e4;generalize zf8 c v g cfg=t at *;generalize zbz c v g rows=H at *;obtain ⟨H,hb⟩:=H;simp only at e2 e3 e4 ⊢;generalize zex cfg b (zel H cfg.rw)=r at *;generalize zel H cfg.rw=L at *;obtain ⟨r,rb⟩:=r;simp only [cnd] at e4 ⊢;refine zae rfl rfl ?_;cases t with
 | false=>simp [-getElem?_pos,ztt,ztq,bnd,e1,zky]
 | true =>
  cases hb with
  | false=>simp [-getElem?_pos,ztt,ztq,bnd,e1,e2,zky]
  | true =>
   simp [-getElem?_pos,ztt,ztq,bnd,e1,e2,e3,e4]
def zev (g:List Int) (rows:List Int):Sl:=⟨rows.length,(rows.map fun r=>(atI g r).getD 0).sum⟩
def zio (bins:List Int) (b r:Int):Bool:=match atI bins r with
 | some x=>decide (x<=b)
 | none=>false
def zov (bins:List Int) (b r:Int):Bool:=match atI bins r with
 | some x => !decide (x<=b)
 | none=>false
def zcr (bins rows:List Int) (b:Int):List Int:=rows.filter (zio bins b)
def zd8 (bins rows:List Int) (b:Int):List Int:=rows.filter (zov bins b)
structure Pnd where
 r:List Int
 b:Bd
 l:Int
def zjd (c v:List (List Int)) (cfg:Cfg) (x:Pnd) (k:Cnd):Pnd:=⟨zcr ((atI v k.f).getD []) x.r k.b,(zfo (zej cfg k.f) x.b (zbx cfg x.b k).1 (zbx cfg x.b k).2.1).1,x.l+1⟩
def zjg (c v:List (List Int)) (cfg:Cfg) (x:Pnd) (k:Cnd):Pnd:=⟨zd8 ((atI v k.f).getD []) x.r k.b,(zfo (zej cfg k.f) x.b (zbx cfg x.b k).1 (zbx cfg x.b k).2.1).2,x.l+1⟩
def zdh (g:List Int) (cfg:Cfg) (x:Pnd):Nd:=⟨-1,0,0,0,(zeb (zev g x.r) cfg.la x.b).1⟩
def zml (c:List (List Int)) (k:Cnd) (n:Nat):Nd:=⟨k.f,(atI ((atI c k.f).getD []) k.b).getD 0,n,n+1,0⟩
def goes (c v:List (List Int)) (g:List Int) (cfg:Cfg) (x:Pnd):Bool:=decide (x.l<cfg.de) && (zbd c v g cfg x.r x.b).2
def zdx (c v:List (List Int)) (g:List Int) (cfg:Cfg):Nat->List Pnd->Nat->List Nd->List Nd
 | 0,_,_,out=>out
 | n+1,q,i,out=>match q[i]? with
  | none=>out
  | some x=>if goes c v g cfg x=true then zdx c v g cfg n (q++[zjd c v cfg x (zbd c v g cfg x.r x.b).1,zjg c v cfg x (zbd c v g cfg x.r x.b).1]) (i+1) (out++[zml c (zbd c v g cfg x.r x.b).1 q.length]) else zdx c v g cfg n q (i+1) (out++[zdh g cfg x])
def zkl:Bd:=⟨-1099511627776,1099511627776⟩
def zew (g:List Int):Pnd:=⟨(List.range g.length).map fun (i:Nat)=>(i:Int),zkl,0⟩
def zb3 (c v:List (List Int)) (g:List Int) (cfg:Cfg):List Nd×Bool:=if zf8 c v g cfg=true then (zdx c v g cfg 32 [zew g] 0 [],true) else ([],false)
def pot (d:Int) (x:Pnd):Nat:=2 ^ (d+1-x.l).toNat-1
def ziy (d:Int) (l:List Pnd):Nat:=(l.map (pot d)).sum
theorem z83 (d:Int) (x:Pnd) (l:List Pnd):ziy d (x::l)=pot d x+ziy d l:=by simp [ziy]
theorem qc2 (d:Int) (l m:List Pnd):ziy d (l++m)=ziy d l+ziy d m:=by simp [ziy]
theorem qf2 {d:Int} {x:Pnd} (h:x.l<=d):1<=pot d x:=by
 unfold pot;obtain ⟨k,hk⟩ : ∃ k,(d+1-x.l).toNat=k+1:=⟨(d-x.l).toNat,by omega⟩;rw [hk,Nat.pow_succ];have:=Nat.one_le_two_pow (n:=k);omega
theorem qcg {d:Int} {x y z:Pnd} (h:x.l<d) (hy:y.l=x.l+1) (hz:z.l=x.l+1):pot d x=pot d y+pot d z+1:=by
 unfold pot;rw [hy,hz];obtain ⟨k,hk⟩ : ∃ k,(d+1-x.l).toNat=k+1:=⟨(d-x.l).toNat,by omega⟩;have hk2:(d+1-(x.l+1)).toNat=k:=by omega
 rw [hk,hk2,Nat.pow_succ];have:=Nat.one_le_two_pow (n:=k);omega
def zyc (n:Nat) (d:Int) (x:Pnd):Prop:=(∀ r∈x.r,0<=r/\r<n)/\x.r.length<=n/\0<=x.l/\x.l<=d
theorem ytf {bins rows:List Int} {b r:Int}:(r∈zcr bins rows b->r∈rows)/\(r∈zd8 bins rows b->r∈rows):=⟨fun h=>(List.mem_filter.mp h).1,fun h=>(List.mem_filter.mp h).1⟩
theorem qdw {n:Nat} {c v:List (List Int)} {cfg:Cfg} {x:Pnd} {k:Cnd} (h:zyc n cfg.de x) (hl:x.l<cfg.de):zyc n cfg.de (zjd c v cfg x k)/\zyc n cfg.de (zjg c v cfg x k):=by
 obtain ⟨h1,h2,h3,h4⟩:=h;refine ⟨⟨fun r hr=>h1 r (ytf.1 hr),Nat.le_trans (List.length_filter_le _ _) h2,?_,?_⟩,⟨fun r hr=>h1 r (ytf.2 hr),Nat.le_trans (List.length_filter_le _ _) h2,?_,?_⟩⟩
 ·show 0<=x.l+1; omega
 ·show x.l+1<=cfg.de; omega
 ·show 0<=x.l+1; omega
 ·show x.l+1<=cfg.de; omega
theorem zx1 {c v:List (List Int)} {g:List Int} {cfg:Cfg} (h:zf8 c v g cfg=true):zdg c v=true/\zbk cfg=true/\g.length=zdj v/\(∀ x∈g,-2199023255552<=x/\x<=2199023255552):=by
 unfold zf8 at h;simp only [Bool.and_eq_true,decide_eq_true_eq] at h;exact ⟨h.1.1.1,h.1.1.2,by omega,fun x hx=>zaw.mp (List.all_eq_true.mp h.2 x hx)⟩
theorem yq5 {c v:List (List Int)} (h:zdg c v=true):1<=zdj v/\zdj v<=40:=by
 unfold zdg at h;simp only [Bool.and_eq_true] at h;have:=zaw.mp h.1.2;omega
theorem ydm {cfg:Cfg} (h:zbk cfg=true):(0<=cfg.de/\cfg.de<=4)/\cfg.sg.length<=4/\(1<=cfg.la/\cfg.la<=100):=by
 unfold zbk at h;simp only [Bool.and_eq_true,decide_eq_true_eq] at h;have h1:=zaw.mp h.1.1.1.1.1.1.1.2;have h2:=zaw.mp h.1.1.1.1.1.2;omega
theorem yq6 {c v:List (List Int)} {g:List Int} {cfg:Cfg} {rows:List Int} {b:Bd} (h:(zbd c v g cfg rows b).2=true):zuw (zbz c v g rows).1 (zbd c v g cfg rows b).1/\(zbz c v g rows).2=true:=by
 unfold zbd at h ⊢;split
 ·rename_i h1;rw [if_pos h1] at h;split
  ·rename_i h2;rw [if_pos h2] at h;obtain ⟨h3,_,_⟩:=yt5 h;exact ⟨(ys6 (zuy c v g rows).2).2 _ h3,h2⟩
  ·rename_i h2;rw [if_neg h2] at h; cases h
 ·rename_i h1;rw [if_neg h1] at h; cases h
theorem y9o:RUN T zro []=some ([.agg (bnd zkl)],[]):=by
 refine zae rfl rfl ?_;simp [z29,z2u,bnd,zkl]
theorem y9p:RUN T zrg []=some ([.agg (bnd zkl)],[]):=by
 refine zae rfl rfl ?_;simp [z2t,z2u,bnd,zkl]
def upl (n:Nat):List Int:=(List.range n).map fun (i:Nat)=>(i:Int)
theorem yny (n:Nat):upl n++[(n:Int)]=upl (n+1):=by simp [upl,List.range_succ]
@[simp] theorem qs6 (n:Nat):(upl n).length=n:=by simp [upl]
@[simp] theorem qsq:upl 0=[]:=rfl
theorem y9q (n:Nat) (h1:1<=n) (h2:n<=40):RUN T zrf [iv n]=some ([.own 1 (zab (upl n))],[]):=by
 have e:=zcs n 1 40;rw [zaw.mpr (by omega)] at e;have hr0:zaj 8 0=true:=by decide
 have hr1:zaj 8 1=true:=by decide
 refine zae rfl rfl ?_;simp [-getElem?_pos,z2r,zzr,-zbm,e,hr0];refine zan (fun k st => ∃ (i o e:Nat),i+k=n/\st.V 3 = .ref o none e 0 i/\st.V 10=iv n/\st.V 11=iv i/\o<st.nx/\st.S o=some (.row 1 (zab (upl i)))) ?_ n _ ⟨0,0,0,by omega,by simp⟩;rintro k st ⟨i,o,ep,hi,v3,v10,v11,hox,hSo⟩;obtain ⟨x1,x2,x3,x4⟩:=fr hox
 by_cases hlt:i<n
 ·have hws:=wS hlt (by omega:n<=9223372036854775807);have hr8:=zc4 (n:=i+1) (by omega);have hsn:zab (upl i)++[[iv (i:Int)]]=zab (upl (i+1)):=by rw [zc8,yny]
  simp [-getElem?_pos,yae,v3,v10,v11,hSo,hlt,hws,hr1,hr8,hsn,x1,x2,x3,x4];exact zai (k-1) (by omega) ⟨i+1,st.nx+1,st.ep,by omega,by simp [v10]⟩
 ·have hin:i=n:=by omega
  subst hin;simp [-getElem?_pos,yae,v3,v10,v11,hSo,hlt]
theorem y9r (n:Nat) (h2:n<=40):RUN T zrn [iv n]=some ([.own 1 (zab (upl n))],[]):=by
 have hr0:zaj 8 0=true:=by decide
 have hr1:zaj 8 1=true:=by decide
 refine zae rfl rfl ?_;simp [-getElem?_pos,z26,zzr,hr0];refine zan (fun k st => ∃ (i o e:Nat),i+k=n/\st.V 0=iv n/\st.V 3 = .ref o none e 0 i/\st.V 4=iv i/\o<st.nx/\st.S o=some (.row 1 (zab (upl i)))) ?_ n _ ⟨0,0,0,by omega,by simp⟩;rintro k st ⟨i,o,ep,hi,v0,v3,v4,hox,hSo⟩;obtain ⟨x1,x2,x3,x4⟩:=fr hox;have h3:(n:Int)<=40:=by omega
 by_cases hlt:i<n
 ·have hws:=wS hlt (by omega:n<=9223372036854775807);have hr8:=zc4 (n:=i+1) (by omega);have hsn:zab (upl i)++[[iv (i:Int)]]=zab (upl (i+1)):=by rw [zc8,yny]
  simp [-getElem?_pos,yag,v0,v3,v4,hSo,hlt,h3,hws,hr1,hr8,hsn,x1,x2,x3,x4];exact zai (k-1) (by omega) ⟨i+1,st.nx+1,st.ep,by omega,by simp [v0]⟩
 ·have hin:i=n:=by omega
  subst hin;simp [-getElem?_pos,yag,v0,v3,v4,hSo,hlt]
def zfi (g rows:List Int) (i:Nat):Int:=((rows.take i).map fun r=>(atI g r).getD 0).sum
theorem yqt {g rows:List Int} {i:Nat} {r x:Int} (hr:rows[i]?=some r) (hx:atI g r=some x):zfi g rows (i+1)=zfi g rows i+x:=by
 unfold zfi;rw [List.take_succ,hr];simp [hx]
theorem z8n {g rows:List Int} (hg : ∀ x∈g,-2199023255552<=x/\x<=2199023255552) : ∀ i:Nat,i<=rows.length -> -2199023255552*(i:Int)<=zfi g rows i/\zfi g rows i<=2199023255552*(i:Int)
 | 0,_=>by simp [zfi]
 | i+1,h=>by
  have ih:=z8n (rows:=rows) hg i (by omega);obtain ⟨r,hr⟩ : ∃ r,rows[i]?=some r:=⟨_,bG (by omega)⟩;have e:zfi g rows (i+1)=zfi g rows i+(atI g r).getD 0:=by
   unfold zfi;rw [List.take_succ,hr];simp
  rw [e];cases hx:atI g r with
  | none=>simp only [Option.getD_none]; omega
  | some x =>
   obtain ⟨_,_,h3,_⟩:=zgn hx;have:=hg x (bF h3);simp only [Option.getD_some]; omega
theorem yes (g rows:List Int):zev g rows=⟨rows.length,zfi g rows rows.length⟩:=by simp [zev,zfi]
theorem yt8 {g rows:List Int} (hg : ∀ x∈g,-2199023255552<=x/\x<=2199023255552) (hl:rows.length<=1048576):slI (zev g rows):=by
 rw [yes];have:=z8n (rows:=rows) hg rows.length (by omega);exact ⟨by unfold inI; simp only; omega,by unfold inI; simp only; omega⟩
theorem y9s (g rows:List Int) (hg : ∀ x∈g,-2199023255552<=x/\x<=2199023255552) (hr : ∀ r∈rows,0<=r/\r<g.length) (hl:rows.length<=1048576):RUN T zri [.sl 1 (zab g),.sl 1 (zab rows)]=some ([.agg (slc (zev g rows))],[]):=by
 rw [yes];refine zae rfl rfl ?_;simp [-getElem?_pos,z2v,z2w];refine zan (fun k st => ∃ i:Nat,i+k=rows.length/\st.V 0 = .sl 1 (zab g)/\st.V 4 = .ptr 0 none 0 0 0/\st.V 5 = .ptr 1 none 0 0 0/\st.V 11 = .sl 1 (zab rows)/\st.V 12=iv rows.length/\st.V 13=iv i/\1<st.nx/\st.S 1=some (.box [iv rows.length,iv (zfi g rows i)])/\st.S 0=some (.box [iv 0,iv 0])) ?_ rows.length _ ⟨0,by omega,by simp [zfi]⟩;rintro k st ⟨i,hi,v0,v4,v5,v11,v12,v13,h1x,hS1,hS0⟩;obtain ⟨z1,z2,z3,z4⟩:=fr h1x
 by_cases hlt:i<rows.length
 ·obtain ⟨r,hrr⟩ : ∃ r,rows[i]?=some r:=⟨_,bG hlt⟩;obtain ⟨r0,r1⟩:=hr r (bF hrr);obtain ⟨rn,rfl⟩ : ∃ n:Nat,r=n:=⟨r.toNat,by omega⟩;obtain ⟨x,hx⟩ : ∃ x,g[rn]?=some x:=⟨_,bG (by omega)⟩;have hrn:rn<g.length:=by omega
  have hr':=zaz hrr;have hx':=zaz hx;have hws:=wS hlt (by omega:rows.length<=9223372036854775807);have hs:=yqt (g:=g) hrr (x:=x) (by unfold atI; rw [if_pos r0]; simpa using hx);have b1:=z8n (rows:=rows) hg (i+1) (by omega);rw [hs] at b1;have hw:=w64 (x:=zfi g rows i+x) (by omega) (by omega);simp [-getElem?_pos,yaf,v0,v4,v5,v11,v12,v13,hS1,hS0,hlt,hr',hx',hrn,hw,hws,z1,z2,z3,z4];exact zai (k-1) (by omega) ⟨i+1,by omega,by simp [v0,v4,v5,v11,v12,h1x,hs,hS0]⟩
 ·have hin:i=rows.length:=by omega
  subst hin;simp [-getElem?_pos,yaf,v4,v5,v12,v13,hS1,hS0,slc]
theorem y9t (g rows:List Int) (hg : ∀ x∈g,-2199023255552<=x/\x<=2199023255552) (hr : ∀ r∈rows,0<=r/\r<g.length) (hl:rows.length<=1048576):RUN T zrq [.sl 1 (zab g),.sl 1 (zab rows)]=some ([.agg (slc (zev g rows))],[]):=by
 rw [yes];refine zae rfl rfl ?_;simp [-getElem?_pos,z3b,z2w];refine zan (fun k st => ∃ i:Nat,i+k=rows.length/\st.V 0 = .sl 1 (zab g)/\st.V 1 = .sl 1 (zab rows)/\st.V 4 = .ptr 0 none 0 0 0/\st.V 5 = .ptr 1 none 0 0 0/\st.V 6=iv i/\1<st.nx/\st.S 1=some (.box [iv i,iv (zfi g rows i)])/\st.S 0=some (.box [iv 0,iv 0])) ?_ rows.length _ ⟨0,by omega,by simp [zfi]⟩;rintro k st ⟨i,hi,v0,v1,v4,v5,v6,h1x,hS1,hS0⟩;obtain ⟨z1,z2,z3,z4⟩:=fr h1x
 by_cases hlt:i<rows.length
 ·obtain ⟨r,hrr⟩ : ∃ r,rows[i]?=some r:=⟨_,bG hlt⟩;obtain ⟨r0,r1⟩:=hr r (bF hrr);obtain ⟨rn,rfl⟩ : ∃ n:Nat,r=n:=⟨r.toNat,by omega⟩;obtain ⟨x,hx⟩ : ∃ x,g[rn]?=some x:=⟨_,bG (by omega)⟩;have hrn:rn<g.length:=by omega
  have hr':=zaz hrr;have hx':=zaz hx;have hws:=wS hlt (by omega:rows.length<=9223372036854775807);have hs:=yqt (g:=g) hrr (x:=x) (by unfold atI; rw [if_pos r0]; simpa using hx);have b1:=z8n (rows:=rows) hg (i+1) (by omega);rw [hs] at b1;have hw:=w64 (x:=zfi g rows i+x) (by omega) (by omega);simp [-getElem?_pos,yah,v0,v1,v4,v5,v6,hS1,hS0,hlt,hr',hx',hrn,hw,hws,z1,z2,z3,z4];exact zai (k-1) (by omega) ⟨i+1,by omega,by simp [v0,v1,v4,v5,h1x,hs,hS0]⟩
 ·have hin:i=rows.length:=by omega
  subst hin;simp [-getElem?_pos,yah,v1,v4,v5,v6,hS1,hS0,slc]
theorem y9u (bins rows:List Int) (b:Int) (hb:bins.length<=1048576) (hl:rows.length<=1048576):RUN T zrk [.sl 1 (zab bins),.sl 1 (zab rows),iv b]=some ([.own 1 (zab (zcr bins rows b)),.own 1 (zab (zd8 bins rows b))],[]):=by
 have hr0:zaj 8 0=true:=by decide
 have hr1:zaj 8 1=true:=by decide
 have w1:=w64 (x:=(bins.length:Int)-1) (by omega) (by omega);refine zae rfl rfl ?_;simp [-getElem?_pos,z2z,z20,hr0];refine zan (fun k st => ∃ (i o e p e2:Nat) (m l:List Int),i+k=rows.length/\m.length<=i/\l.length<=i/\m++(rows.drop i).filter (zio bins b)=zcr bins rows b/\l++(rows.drop i).filter (zov bins b)=zd8 bins rows b/\st.V 0 = .sl 1 (zab bins)/\st.V 2=iv b/\st.V 8 = .ref o none e 0 m.length/\st.V 9 = .ref p none e2 0 l.length/\st.V 14 = .sl 1 (zab rows)/\st.V 15=iv rows.length/\st.V 16=iv i/\¬ o=p/\o<st.nx/\p<st.nx/\st.S o=some (.row 1 (zab m))/\st.S p=some (.row 1 (zab l))) ?_ rows.length _ ⟨0,0,0,1,0,[],[],by omega,by simp [zcr,zd8]⟩;rintro k st ⟨i,o,e,p,e2,m,l,hi,hml,hll,hm,hl2,v0,v2,v8,v9,v14,v15,v16,hop,hox,hpx,hSo,hSp⟩;obtain ⟨x1,x2,x3,x4⟩:=fr hox;obtain ⟨z1,z2,z3,z4⟩:=fr hpx;have hpo : ¬ p=o:=fun e=>hop e.symm
 by_cases hlt:i<rows.length
 ·obtain ⟨r,hrr⟩ : ∃ r,rows[i]?=some r:=⟨_,bG hlt⟩;have hr':=zaz hrr;have hws:=wS hlt (by omega:rows.length<=9223372036854775807);have e1:=zcs r 0 ((bins.length:Int)-1);rw [zc3 hrr,List.filter_cons] at hm hl2;have hB:zio bins b r=match atI bins r with
   | some x=>decide (x<=b)
   | none=>false:=rfl
  have hC:zov bins b r=match atI bins r with
   | some x => !decide (x<=b)
   | none=>false:=rfl
  have r1:=zc4 (n:=m.length+1) (by omega);have r2:=zc4 (n:=l.length+1) (by omega);have s1:=zc8 m r;have s2:=zc8 l r;cases hx:atI bins r with
  | none =>
   have hn:=zi2 hx;rw [show zah r 0 ((bins.length:Int)-1)=false from by
    cases hw:zah r 0 ((bins.length:Int)-1) with
    | false=>rfl
    | true=>have:=zaw.mp hw; omega] at e1
   rw [hx] at hB hC;rw [hB] at hm;rw [hC] at hl2;simp [-getElem?_pos,zwc,-zbm,v0,v2,v8,v9,v14,v15,v16,hSo,hSp,hlt,hr',hws,w1,e1];exact zai (k-1) (by omega) ⟨i+1,o,e,p,e2,m,l,by omega,by omega,by omega,by simpa using hm,by simpa using hl2,by simp [v0],by simp [v2],by simp [v8],by simp [v9],by simp [v14],by simp [v15],by simp,hop,by simp [hox,hpx,hSo,hSp]⟩
  | some x =>
   obtain ⟨rn,rfl,hbr,hbl⟩:=zgn hx;rw [show zah rn 0 ((bins.length:Int)-1)=true from zaw.mpr (by omega)] at e1;rw [hx] at hB hC;rw [hB] at hm;rw [hC] at hl2;have hb':=zaz hbr
   by_cases hc:x<=b
   ·have d1:decide (x<=b)=true:=decide_eq_true hc;simp only [d1,if_true,Bool.not_true,Bool.false_eq_true,if_false] at hm hl2;simp [-getElem?_pos,zwc,-zbm,v0,v2,v8,v9,v14,v15,v16,hSo,hSp,hlt,hr',hws,w1,e1,hb',hbl,hc,hr1,r1,s1,hop,hpo,x1,x2,x3,x4,z1,z2,z3,z4];exact zai (k-1) (by omega) ⟨i+1,st.nx+1,st.ep,p,e2,m++[(rn:Int)],l,by omega,by simp; omega,by omega,by simpa using hm,hl2,by simp [v0],by simp [v2],by simp,by simp [v9],by simp [v14],by simp [v15],by simp,by omega,by simp,by simp; omega,by simp [hop,hpo,x1,x2,x3,x4,z1,z2,z3,z4,hSp]⟩
   ·have d1:decide (x<=b)=false:=decide_eq_false hc;simp only [d1,if_true,Bool.not_false,Bool.false_eq_true,if_false] at hm hl2;simp [-getElem?_pos,zwc,-zbm,v0,v2,v8,v9,v14,v15,v16,hSo,hSp,hlt,hr',hws,w1,e1,hb',hbl,hc,hr1,r2,s2,hop,hpo,x1,x2,x3,x4,z1,z2,z3,z4];exact zai (k-1) (by omega) ⟨i+1,o,e,st.nx+1,st.ep,m,l++[(rn:Int)],by omega,by omega,by simp; omega,hm,by simpa using hl2,by simp [v0],by simp [v2],by simp [v8],by simp,by simp [v14],by simp [v15],by simp,by omega,by simp; omega,by simp [hop,hpo,x1,x2,x3,x4,z1,z2,z3,z4,hSo]⟩
 ·rw [List.drop_eq_nil_of_le (by omega)] at hm hl2;simp only [List.filter_nil,List.append_nil] at hm hl2;subst hm hl2;simp [-getElem?_pos,zwc,v8,v9,v14,v15,v16,hSo,hSp,hlt,hop,hpo]
theorem y9v (bins rows:List Int) (b:Int) (hb:bins.length<=1048576) (hl:rows.length<=1048576):RUN T zrr [.sl 1 (zab bins),.sl 1 (zab rows),iv b]=some ([.own 1 (zab (zcr bins rows b)),.own 1 (zab (zd8 bins rows b))],[]):=by
 have hr0:zaj 8 0=true:=by decide
 have hr1:zaj 8 1=true:=by decide
 have w1:=w64 (x:=(bins.length:Int)-1) (by omega) (by omega);refine zae rfl rfl ?_;simp [-getElem?_pos,z3d,z20,hr0];refine zan (fun k st => ∃ (i o e p e2:Nat) (m l:List Int),i+k=rows.length/\m.length<=i/\l.length<=i/\m++(rows.drop i).filter (zio bins b)=zcr bins rows b/\l++(rows.drop i).filter (zov bins b)=zd8 bins rows b/\st.V 0 = .sl 1 (zab bins)/\st.V 1 = .sl 1 (zab rows)/\st.V 2=iv b/\st.V 8 = .ref o none e 0 m.length/\st.V 9 = .ref p none e2 0 l.length/\st.V 10=iv i/\¬ o=p/\o<st.nx/\p<st.nx/\st.S o=some (.row 1 (zab m))/\st.S p=some (.row 1 (zab l))) ?_ rows.length _ ⟨0,0,0,1,0,[],[],by omega,by simp [zcr,zd8]⟩;rintro k st ⟨i,o,e,p,e2,m,l,hi,hml,hll,hm,hl2,v0,v1,v2,v8,v9,v10,hop,hox,hpx,hSo,hSp⟩;obtain ⟨x1,x2,x3,x4⟩:=fr hox;obtain ⟨z1,z2,z3,z4⟩:=fr hpx;have hpo : ¬ p=o:=fun e=>hop e.symm
 by_cases hlt:i<rows.length
 ·obtain ⟨r,hrr⟩ : ∃ r,rows[i]?=some r:=⟨_,bG hlt⟩;have hr':=zaz hrr;have hws:=wS hlt (by omega:rows.length<=9223372036854775807);have e1:=zbn r 0 ((bins.length:Int)-1);rw [zc3 hrr,List.filter_cons] at hm hl2;have hB:zio bins b r=match atI bins r with
   | some x=>decide (x<=b)
   | none=>false:=rfl
  have hC:zov bins b r=match atI bins r with
   | some x => !decide (x<=b)
   | none=>false:=rfl
  have r1:=zc4 (n:=m.length+1) (by omega);have r2:=zc4 (n:=l.length+1) (by omega);have s1:=zc8 m r;have s2:=zc8 l r;cases hx:atI bins r with
  | none =>
   have hn:=zi2 hx;rw [show zah r 0 ((bins.length:Int)-1)=false from by
    cases hw:zah r 0 ((bins.length:Int)-1) with
    | false=>rfl
    | true=>have:=zaw.mp hw; omega] at e1
   rw [hx] at hB hC;rw [hB] at hm;rw [hC] at hl2;simp [-getElem?_pos,zwf,-za3,v0,v1,v2,v8,v9,v10,hSo,hSp,hlt,hr',hws,w1,e1];exact zai (k-1) (by omega) ⟨i+1,o,e,p,e2,m,l,by omega,by omega,by omega,by simpa using hm,by simpa using hl2,by simp [v0],by simp [v1],by simp [v2],by simp [v8],by simp [v9],by simp,hop,by simp [hox,hpx,hSo,hSp]⟩
  | some x =>
   obtain ⟨rn,rfl,hbr,hbl⟩:=zgn hx;rw [show zah rn 0 ((bins.length:Int)-1)=true from zaw.mpr (by omega)] at e1;rw [hx] at hB hC;rw [hB] at hm;rw [hC] at hl2;have hb':=zaz hbr
   by_cases hc:x<=b
   ·have d1:decide (x<=b)=true:=decide_eq_true hc;simp only [d1,if_true,Bool.not_true,Bool.false_eq_true,if_false] at hm hl2;simp [-getElem?_pos,zwf,-za3,v0,v1,v2,v8,v9,v10,hSo,hSp,hlt,hr',hws,w1,e1,hb',hbl,hc,hr1,r1,s1,hop,hpo,x1,x2,x3,x4,z1,z2,z3,z4];exact zai (k-1) (by omega) ⟨i+1,st.nx+1,st.ep,p,e2,m++[(rn:Int)],l,by omega,by simp; omega,by omega,by simpa using hm,hl2,by simp [v0],by simp [v1],by simp [v2],by simp,by simp [v9],by simp,by omega,by simp,by simp; omega,by simp [hop,hpo,x1,x2,x3,x4,z1,z2,z3,z4,hSp]⟩
   ·have d1:decide (x<=b)=false:=decide_eq_false hc;simp only [d1,if_true,Bool.not_false,Bool.false_eq_true,if_false] at hm hl2;simp [-getElem?_pos,zwf,-za3,v0,v1,v2,v8,v9,v10,hSo,hSp,hlt,hr',hws,w1,e1,hb',hbl,hc,hr1,r2,s2,hop,hpo,x1,x2,x3,x4,z1,z2,z3,z4];exact zai (k-1) (by omega) ⟨i+1,o,e,st.nx+1,st.ep,m,l++[(rn:Int)],by omega,by omega,by simp; omega,hm,by simpa using hl2,by simp [v0],by simp [v1],by simp [v2],by simp [v8],by simp,by simp,by omega,by simp; omega,by simp [hop,hpo,x1,x2,x3,x4,z1,z2,z3,z4,hSo]⟩
 ·rw [List.drop_eq_nil_of_le (by omega)] at hm hl2;simp only [List.filter_nil,List.append_nil] at hm hl2;subst hm hl2;simp [-getElem?_pos,zwf,v1,v8,v9,v10,hSo,hSp,hlt,hop,hpo]
def pnd (x:Pnd):List PV:=[.own 1 (zab x.r),iv x.b.lo,iv x.b.hi,iv x.l]
def zgm (l:List Pnd):List (List PV):=l.map pnd
@[simp] theorem qy3 (l:List Pnd):(zgm l).length=l.length:=by simp [zgm]
theorem ydv {l:List Pnd} {i:Nat} {x:Pnd} (h:l[i]?=some x):(zgm l)[i]?=some [.own 1 (zab x.r),iv x.b.lo,iv x.b.hi,iv x.l]:=by simp [zgm,h,pnd]
theorem yqh {l:List Pnd} {i:Nat} {x:Pnd} (h:l[i]?=some x):zbl (zgm l) i 0=some (1,zab x.r):=by simp [zbl,ydv h]
theorem ym1 (l:List Pnd) (x y:Pnd):zgm l++[[.own 1 (zab x.r),iv x.b.lo,iv x.b.hi,iv x.l],[.own 1 (zab y.r),iv y.b.lo,iv y.b.hi,iv y.l]]=zgm (l++[x,y]):=by simp [zgm,pnd]
theorem zme {α:Type} {l:List α} {i:Nat} {x:α} (h:l[i]?=some x):atI l (i:Int)=some x:=by
 unfold atI;rw [if_pos (by omega)];simpa using h
theorem qhg {b g rows:List Int} {k:Int} (h:(zch b g rows k).2=true):((zch b g rows k).1.length:Int)=k:=by
 unfold zch at h ⊢;split
 ·rename_i hk;rw [if_pos hk] at h;have hk':=zaw.mp hk;cases e:zci b g rows (List.replicate k.toNat ⟨0,0⟩) with
  | none=>rw [e] at h; cases h
  | some h'=>have:=yb1 _ _ _ e; simp at this; simp only; omega
 ·rename_i hk;rw [if_neg hk] at h; cases h
theorem ynf {g rows:List Int} : ∀ (c v:List (List Int)) (H:List (List Sl)) (f:Nat) (h:List Sl),zb2 g rows c v=some H->H[f]?=some h->∃ x y,c[f]?=some x/\v[f]?=some y/\h.length=x.length+1
 | [],v,H,f,h,e,hf=>by simp [zb2] at e; subst e; simp at hf
 | x::c,[],H,f,h,e,hf=>by simp [zb2] at e; subst e; simp at hf
 | x::c,y::v,H,f,h,e,hf=>by
  simp only [zb2] at e;split at e
  ·rename_i hp;simp only [bB] at e;obtain ⟨H',h1,rfl⟩:=e;cases f with
   | zero =>
    simp at hf;subst hf;have:=qhg hp;exact ⟨x,y,rfl,rfl,by omega⟩
   | succ f =>
    simp at hf;obtain ⟨x',y',h2,h3,h4⟩:=ynf c v H' f h h1 hf;exact ⟨x',y',by simpa using h2,by simpa using h3,h4⟩
  ·cases e
theorem qcv {c v:List (List Int)} {g rows:List Int} {f:Nat} {h:List Sl} (hb:(zbz c v g rows).2=true) (hf:(zbz c v g rows).1[f]?=some h) : ∃ x y,c[f]?=some x/\v[f]?=some y/\h.length=x.length+1:=by
 unfold zbz at hb hf;split at hb
 ·rename_i hg;rw [if_pos hg] at hf;cases e:zb2 g rows c v with
  | none=>rw [e] at hb; cases hb
  | some H=>rw [e] at hf; exact ynf c v H f h e hf
 ·cases hb
theorem yob {c v:List (List Int)} {g:List Int} {cfg:Cfg} {rows:List Int} {b:Bd} (h:(zbd c v g cfg rows b).2=true) : ∃ (f k:Nat) (x y:List Int) (z:Int),(zbd c v g cfg rows b).1.f=f/\(zbd c v g cfg rows b).1.b=k/\c[f]?=some x/\v[f]?=some y/\x[k]?=some z/\zeq (zbd c v g cfg rows b).1:=by
 obtain ⟨h1,h2⟩:=yq6 h;have hI:=yux (by have:=z9c c v g rows; omega) (fun l hl=>Nat.le_trans ((zuy c v g rows).2 l hl) (by omega)) h1;obtain ⟨f,k,l,e1,e2,e3,e4,_,_⟩:=h1;obtain ⟨x,y,hx,hy,hl⟩:=qcv h2 e3;exact ⟨f,k,x,y,x[k]'(by omega),e1,e2,hx,hy,bG (by omega),hI⟩
theorem qf9 {x lo hi:Int} (h:lo<=hi):lo<=zfq x lo hi/\zfq x lo hi<=hi:=by
 unfold zfq;split
 ·omega
 ·split <;> omega
theorem qej {b:Bd} (h:zgz b=true):b.lo<=b.hi /\ -1099511627776<=b.lo/\b.hi<=1099511627776:=by
 unfold zgz at h;simp only [Bool.and_eq_true,decide_eq_true_eq] at h;have h1:=h.1.2;have h2:=h.2;unfold zfs at h1 h2;have:=zaw.mp h1;have:=zaw.mp h2;omega
theorem ysn (s:Sl) (l:Int) (b:Bd) : -1099511627776<=(zeb s l b).1/\(zeb s l b).1<=1099511627776:=by
 unfold zeb;split
 ·rename_i h;simp only [Bool.and_eq_true] at h;obtain ⟨h1,h2,h3⟩:=qej h.2;have:=qf9 (x:=(fdv s.g (s.n+l)).1) h1;simp only; omega
 ·simp
theorem z8c (c:Cfg) (b:Bd) (x:Cnd):inI (zbx c b x).1/\inI (zbx c b x).2.1:=by
 have h1:=ysn x.a c.la b;have h2:=ysn x.z c.la b;unfold zbx inI;split
 ·simp only; omega
 ·simp
def NC (S:Nat->Option Ob) (nx oq:Nat) (m:List Nd) (x:PV):Prop:=(x = .e0/\m=[])\/∃ o e,x = .ref o none e 0 m.length/\5<o/\o<nx/\¬ o=oq/\S o=some (.row 5 (m.map nd))
theorem ydg {c v:List (List Int)} {g:List Int} {cfg:Cfg} {n:Nat} {q:List Pnd} {i:Nat} {out:List Nd} (h:q[i]?=none):zdx c v g cfg n q i out=out:=by
 cases n with
 | zero=>rfl
 | succ n=>rw [zdx,h]
theorem yn6 {c v:List (List Int)} {g:List Int} {cfg:Cfg} {n:Nat} {q:List Pnd} {i:Nat} {out:List Nd} {x:Pnd} (h:q[i]?=some x) (hg:goes c v g cfg x=false):zdx c v g cfg (n+1) q i out=zdx c v g cfg n q (i+1) (out++[zdh g cfg x]):=by
 rw [zdx,h]; simp [hg]
theorem ypg {c v:List (List Int)} {g:List Int} {cfg:Cfg} {n:Nat} {q:List Pnd} {i:Nat} {out:List Nd} {x:Pnd} (h:q[i]?=some x) (hg:goes c v g cfg x=true):zdx c v g cfg (n+1) q i out=zdx c v g cfg n (q++[zjd c v cfg x (zbd c v g cfg x.r x.b).1,zjg c v cfg x (zbd c v g cfg x.r x.b).1]) (i+1) (out++[zml c (zbd c v g cfg x.r x.b).1 q.length]):=by
 rw [zdx,h]; simp [hg]
structure GI (c v:List (List Int)) (g:List Int) (cfg:Cfg) (n:Nat) (q:List Pnd) (i:Nat) (out:List Nd):Prop where
 n1:i+n=32
 le:i<=q.length
 ql:q.length<=2*i+1
 ol:out.length=i
 po:ziy cfg.de (q.drop i)<=n
 ok : ∀ x∈q,zyc g.length cfg.de x
 go:zdx c v g cfg n q i out=zdx c v g cfg 32 [zew g] 0 []
theorem GI.leaf {c v:List (List Int)} {g:List Int} {cfg:Cfg} {n:Nat} {q:List Pnd} {i:Nat} {out:List Nd} {x:Pnd} (h:GI c v g cfg n q i out) (hx:q[i]?=some x) (hg:goes c v g cfg x=false):1<=n/\GI c v g cfg (n-1) q (i+1) (out++[zdh g cfg x]):=by
 have hp:=h.po;rw [zc3 hx,z83] at hp;have:=qf2 (h.ok x (bF hx)).2.2.2;have hlt:=(bD hx).1;obtain ⟨m,rfl⟩ : ∃ m,n=m+1:=⟨n-1,by omega⟩;have:=h.n1;have:=h.ql;exact ⟨by omega,by simp; omega,by omega,by omega,by simp [h.ol],by simp; omega,h.ok,by rw [<- h.go,yn6 hx hg]; rfl⟩
theorem GI.cut {c v:List (List Int)} {g:List Int} {cfg:Cfg} {n:Nat} {q:List Pnd} {i:Nat} {out:List Nd} {x:Pnd} (h:GI c v g cfg n q i out) (hx:q[i]?=some x) (hg:goes c v g cfg x=true):1<=n/\GI c v g cfg (n-1) (q++[zjd c v cfg x (zbd c v g cfg x.r x.b).1,zjg c v cfg x (zbd c v g cfg x.r x.b).1]) (i+1) (out++[zml c (zbd c v g cfg x.r x.b).1 q.length]):=by
 have hp:=h.po;have hlt:=(bD hx).1;have hxo:=h.ok x (bF hx);rw [zc3 hx,z83] at hp;have hlv:x.l<cfg.de:=by
  unfold goes at hg;simp only [Bool.and_eq_true,decide_eq_true_eq] at hg;exact hg.1
 have hk:=qcg (y:=zjd c v cfg x (zbd c v g cfg x.r x.b).1) (z:=zjg c v cfg x (zbd c v g cfg x.r x.b).1) hlv rfl rfl;obtain ⟨m,rfl⟩ : ∃ m,n=m+1:=⟨n-1,by omega⟩;have:=h.n1;have:=h.ql;obtain ⟨ko1,ko2⟩:=qdw (c:=c) (v:=v) (k:=(zbd c v g cfg x.r x.b).1) hxo hlv;refine ⟨by omega,by simp; omega,by simp; omega,by simp; omega,by simp [h.ol],?_,fun y hy => ?_,by rw [<- h.go,ypg hx hg]; rfl⟩
 ·rw [List.drop_append_of_le_length (by omega),qc2,z83,z83];have:ziy cfg.de ([]:List Pnd)=0:=rfl;simp only [Nat.add_sub_cancel];omega
 ·rcases List.mem_append.mp hy with e | e
  ·exact h.ok y e
  ·simp only [List.mem_cons,List.not_mem_nil,or_false] at e;rcases e with e | e
   ·subst e; exact ko1
   ·subst e; exact ko2
theorem GI.start {c v:List (List Int)} {g:List Int} {cfg:Cfg} (h:zf8 c v g cfg=true):GI c v g cfg 32 [zew g] 0 []:=by
 obtain ⟨h1,h2,h3,h4⟩:=zx1 h;obtain ⟨d1,d2⟩:=(ydm h2).1;refine ⟨rfl,by simp,by simp,rfl,?_,fun x hx => ?_,rfl⟩
 ·simp only [List.drop_zero,ziy,List.map_cons,List.map_nil,List.sum_cons,List.sum_nil,pot,zew];have:(cfg.de+1-0).toNat<=5:=by omega
  have:=Nat.pow_le_pow_right (n:=2) (by omega) this;omega
 ·simp only [List.mem_singleton] at hx;subst hx;refine ⟨fun r hr => ?_,by simp [zew],by simp [zew],d1⟩;simp only [zew,List.mem_map,List.mem_range] at hr;obtain ⟨j,hj,rfl⟩:=hr;omega
theorem y9w (q:Bool) (c v:List (List Int)) (g:List Int) (cfg:Cfg) (hc : ∀ l∈c,l.length<=1048576) (hv : ∀ l∈v,l.length<=1048576) (hg:g.length<=1048576) (hs:cfg.sg.length<=1048576) (hgi : ∀ x∈g,inI x):RUN T zql [.agg [.sl 1 (rws q c),.sl 1 (rws q v)],.sl 1 (zab g),cfS cfg]=some ([.agg [.own 5 ((zb3 c v g cfg).1.map nd)],bv (zb3 c v g cfg).2],[]):=by
 have e1:=ylz q c v g cfg (fun l hl=>Nat.le_trans (hc l hl) (by omega)) (fun l hl=>Nat.le_trans (hv l hl) (by omega)) (by omega) (by omega);simp only [zcj] at e1;cases ht:zf8 c v g cfg with
 | false =>
  rw [ht] at e1;have hR:zb3 c v g cfg=([],false):=by unfold zb3; rw [ht]; rfl
  rw [hR];refine zae rfl rfl ?_;simp [-getElem?_pos,zvs,zvt,e1]
 | true =>
  rw [ht] at e1;have hR:zb3 c v g cfg=(zdx c v g cfg 32 [zew g] 0 [],true):=by unfold zb3; rw [if_pos ht]
  rw [hR];obtain ⟨R,hR'⟩ : ∃ R,R=zdx c v g cfg 32 [zew g] 0 []:=⟨_,rfl⟩;rw [<- hR'];obtain ⟨t1,t2,t3,t4⟩:=zx1 ht;obtain ⟨t5,t6⟩:=yq5 t1;have e2:=yax q c v;have e3:=y9q (zdj v) t5 t6;have e4:=y9p;have hr48:zaj 48 1=true:=by decide
  have hG:=GI.start ht;have hroot:zgm [zew g]=[[.own 1 (zab (upl (zdj v))),iv zkl.lo,iv zkl.hi,iv 0]]:=by simp [zgm,pnd,zew,t3,upl]
  simp only [bnd] at e4;refine zae rfl rfl ?_;simp [-getElem?_pos,zvs,zvt,e1,e2,e3,e4,hr48];refine zan (fun n st => ∃ (i o e:Nat) (Q:List Pnd) (out:List Nd) (x:PV),GI c v g cfg n Q i out/\st.V 1 = .sl 1 (zab g)/\st.V 3 = .ptr 0 none 0 0 0/\st.V 5 = .ptr 1 none 0 0 0/\st.V 6 = .ptr 2 none 0 0 0/\st.V 8 = .ref o none e 0 Q.length/\st.V 9 = .ptr 5 none 0 0 0/\st.V 10=iv i/\3<o/\¬ o=5/\o<st.nx/\5<st.nx/\st.S 0=some (.box [.sl 1 (rws q c),.sl 1 (rws q v)])/\st.S 1=some (.box [iv cfg.ro,iv cfg.de,iv cfg.bi,iv cfg.la,iv cfg.rw,iv cfg.nu,iv cfg.dn,.sl 1 (zab cfg.sg)])/\st.S 2=some (.box [.e0])/\st.S 5=some (.box [x])/\st.S o=some (.row 4 (zgm Q))/\NC st.S st.nx o out x) ?_ 32 _ ⟨0,4,0,[zew g],[],.e0,hG,?_⟩
  ·rintro n st ⟨i,o,ep,Q,out,x,hG,v1,v3,v5,v6,v8,v9,v10,ho3,ho5,hox,h5x,hS0,hS1,hS2,hS5,hSo,hN⟩;have Z2:=bI v1 <| bI v3 <| bI v5 <| bI v6 <| bI v8 <| bI v9 <| bI v10 <| bI hS0 <| bI hS1 <| bI hS2 <| bI hS5 hSo
   obtain ⟨Fa01,Fa02,Fa03,Fa04⟩:=fr (show 0<st.nx by omega);obtain ⟨Fb01,Fb02,Fb03,Fb04⟩:=fr (show 1<st.nx by omega);obtain ⟨Fc01,Fc02,Fc03,Fc04⟩:=fr (show 2<st.nx by omega);obtain ⟨Fd01,Fd02,Fd03,Fd04⟩:=fr (show 5<st.nx by omega);obtain ⟨Fo01,Fo02,Fo03,Fo04⟩:=fr (show o<st.nx by omega);have N0a:(o=0)=False:=eq_false (by omega);have N0b:(0=o)=False:=eq_false (by omega);have N1a:(o=1)=False:=eq_false (by omega);have N1b:(1=o)=False:=eq_false (by omega);have N2a:(o=2)=False:=eq_false (by omega);have N2b:(2=o)=False:=eq_false (by omega);have N3a:(o=5)=False:=eq_false (by omega);have N3b:(5=o)=False:=eq_false (by omega);have y0:(st.nx=0)=False:=eq_false (by omega);have y1:(st.nx=1)=False:=eq_false (by omega);have y2:(st.nx=2)=False:=eq_false (by omega);have y3:(st.nx=3)=False:=eq_false (by omega);have y4:(st.nx=4)=False:=eq_false (by omega);have y5:(st.nx=5)=False:=eq_false (by omega);have na : ∀ a b:Nat,st.nx+a+b=st.nx+(a+b):=fun a b=>Nat.add_assoc _ _ _;have Z0:=bI Fa01 <| bI Fa02 <| bI Fa03 <| bI Fa04 <| bI Fb01 <| bI Fb02 <| bI Fb03 <| bI Fb04 <| bI Fc01 <| bI Fc02 <| bI Fc03 <| bI Fc04 <| bI Fd01 <| bI Fd02 <| bI Fd03 <| bI Fd04 <| bI Fo01 <| bI Fo02 <| bI Fo03 <| bI Fo04 <| bI N0a <| bI N0b <| bI N1a <| bI N1b <| bI N2a <| bI N2b <| bI N3a <| bI N3b <| bI y0 <| bI y1 <| bI y2 <| bI y3 <| bI y4 <| bI y5 na
   by_cases hlt:i<Q.length
   ·obtain ⟨p,hp⟩ : ∃ p,Q[i]?=some p:=⟨_,bG hlt⟩;have hp':=ydv hp;have hps:=yqh hp;have hpo:=hG.ok p (bF hp);obtain ⟨p1,p2,p3,p4⟩:=hpo;have hn1:=hG.n1;have hql:=hG.ql;have hws:=wS hlt (by omega:Q.length<=9223372036854775807);have f1:=y9m q c v g cfg p.r p.b hc hv hg (by omega) hs hgi;have f2:=y9s g p.r t4 p1 (by omega);have f3:=ya9 (zev g p.r) cfg.la p.b (yt8 t4 (by omega));have hr40:zaj 40 1=true:=by decide
    have hr41:zaj 40 (out.length+1)=true:=by have:=hG.ol; simp [zaj]; omega
    have hsn:=z8p out (zdh g cfg p);simp only [zdh] at hsn;simp only [bnd] at f1 f3;obtain ⟨K,hK⟩ : ∃ K,K=zbd c v g cfg p.r p.b:=⟨_,rfl⟩;obtain ⟨G,hGg⟩ : ∃ G,G=goes c v g cfg p:=⟨_,rfl⟩;have hG2:G=(decide (p.l<cfg.de) && K.2):=by rw [hGg,hK]; rfl
    cases G with
    | false =>
     obtain ⟨m1,hG'⟩:=hG.leaf hp hGg.symm;rw [<- hK] at f1;simp only [slc] at f2 f3
     by_cases hlv:p.l<cfg.de
     ·have hK2:K.2=false:=by simpa [hlv] using hG2.symm
      obtain ⟨K,Kb⟩:=K;simp only at hK2 f1;subst hK2;simp only [cnd] at f1;rcases hN with ⟨rfl,rfl⟩ | ⟨w,ew,rfl,hw5,hwx,hwo,hSw⟩
      ·simp [-getElem?_pos,zka,Z2,hlt,hp',hps,hlv,f1,f2,f3,hws,hr40,Z0];refine zai (n-1) (by omega) ⟨i+1,o,ep,Q,[zdh g cfg p],.ref (st.nx+3) none st.ep 0 1,hG',by simp [v1],by simp [v3],by simp [v5],by simp [v6],by simp [v8],by simp [v9],by simp,ho3,ho5,(by simp <;> omega),by simp <;> omega,by simp [Z0,hS0],by simp [Z0,hS1],by simp [Z0,hS2],by simp [Z0],by simp [Z0,hSo],.inr ⟨st.nx+3,st.ep,by simp,by omega,by simp <;> omega,by omega,by simp [nd,zdh,y0,y1,y2,y3,y4,y5]⟩⟩
      ·obtain ⟨Fw01,Fw02,Fw03,Fw04⟩:=fr (show w<st.nx by omega);have M0a:(w=0)=False:=eq_false (by omega);have M0b:(0=w)=False:=eq_false (by omega);have M1a:(w=1)=False:=eq_false (by omega);have M1b:(1=w)=False:=eq_false (by omega);have M2a:(w=2)=False:=eq_false (by omega);have M2b:(2=w)=False:=eq_false (by omega);have M3a:(w=5)=False:=eq_false (by omega);have M3b:(5=w)=False:=eq_false (by omega);have M4a:(w=o)=False:=eq_false (by omega);have M4b:(o=w)=False:=eq_false (by omega);have Z1:=bI Z0 <| bI Fw01 <| bI Fw02 <| bI Fw03 <| bI Fw04 <| bI M0a <| bI M0b <| bI M1a <| bI M1b <| bI M2a <| bI M2b <| bI M3a <| bI M3b <| bI M4a M4b
       simp [-getElem?_pos,zka,Z2,hSw,hlt,hp',hps,hlv,f1,f2,f3,hws,hr40,hr41,hsn,Z1];refine zai (n-1) (by omega) ⟨i+1,o,ep,Q,out++[zdh g cfg p],.ref (st.nx+3) none st.ep 0 (out.length+1),hG',by simp [v1],by simp [v3],by simp [v5],by simp [v6],by simp [v8],by simp [v9],by simp,ho3,ho5,(by simp <;> omega),by simp <;> omega,by simp [Z1,hS0],by simp [Z1,hS1],by simp [Z1,hS2],by simp [Z1],by simp [Z1,hSo],.inr ⟨st.nx+3,st.ep,by simp,by omega,by simp <;> omega,by omega,by simp [nd,zdh,y0,y1,y2,y3,y4,y5]⟩⟩
     ·rcases hN with ⟨rfl,rfl⟩ | ⟨w,ew,rfl,hw5,hwx,hwo,hSw⟩
      ·simp [-getElem?_pos,zka,Z2,hlt,hp',hps,hlv,f2,f3,hws,hr40,Z0];refine zai (n-1) (by omega) ⟨i+1,o,ep,Q,[zdh g cfg p],.ref (st.nx+3) none st.ep 0 1,hG',by simp [v1],by simp [v3],by simp [v5],by simp [v6],by simp [v8],by simp [v9],by simp,ho3,ho5,(by simp <;> omega),by simp <;> omega,by simp [Z0,hS0],by simp [Z0,hS1],by simp [Z0,hS2],by simp [Z0],by simp [Z0,hSo],.inr ⟨st.nx+3,st.ep,by simp,by omega,by simp <;> omega,by omega,by simp [nd,zdh,y0,y1,y2,y3,y4,y5]⟩⟩
      ·obtain ⟨Fw01,Fw02,Fw03,Fw04⟩:=fr (show w<st.nx by omega);have M0a:(w=0)=False:=eq_false (by omega);have M0b:(0=w)=False:=eq_false (by omega);have M1a:(w=1)=False:=eq_false (by omega);have M1b:(1=w)=False:=eq_false (by omega);have M2a:(w=2)=False:=eq_false (by omega);have M2b:(2=w)=False:=eq_false (by omega);have M3a:(w=5)=False:=eq_false (by omega);have M3b:(5=w)=False:=eq_false (by omega);have M4a:(w=o)=False:=eq_false (by omega);have M4b:(o=w)=False:=eq_false (by omega);have Z1:=bI Z0 <| bI Fw01 <| bI Fw02 <| bI Fw03 <| bI Fw04 <| bI M0a <| bI M0b <| bI M1a <| bI M1b <| bI M2a <| bI M2b <| bI M3a <| bI M3b <| bI M4a M4b
       simp [-getElem?_pos,zka,Z2,hSw,hlt,hp',hps,hlv,f2,f3,hws,hr40,hr41,hsn,Z1];refine zai (n-1) (by omega) ⟨i+1,o,ep,Q,out++[zdh g cfg p],.ref (st.nx+3) none st.ep 0 (out.length+1),hG',by simp [v1],by simp [v3],by simp [v5],by simp [v6],by simp [v8],by simp [v9],by simp,ho3,ho5,(by simp <;> omega),by simp <;> omega,by simp [Z1,hS0],by simp [Z1,hS1],by simp [Z1,hS2],by simp [Z1],by simp [Z1,hSo],.inr ⟨st.nx+3,st.ep,by simp,by omega,by simp <;> omega,by omega,by simp [nd,zdh,y0,y1,y2,y3,y4,y5]⟩⟩
    | true =>
     obtain ⟨m1,hG'⟩:=hG.cut hp hGg.symm;have t7:=ydm t2;have hlv:p.l<cfg.de:=by
      have h9:=hG2.symm;simp only [Bool.and_eq_true,decide_eq_true_eq] at h9;exact h9.1
     have hK2:K.2=true:=by
      have h9:=hG2.symm;simp only [Bool.and_eq_true,decide_eq_true_eq] at h9;exact h9.2
     obtain ⟨kf,kb,X,Y,z,k1,k2,hX,hY,hz,kI⟩:=yob (c:=c) (v:=v) (g:=g) (cfg:=cfg) (rows:=p.r) (b:=p.b) (by rw [<- hK]; exact hK2);rw [<- hK] at f1 hG' k1 k2 kI;obtain ⟨⟨kf',kb',ka,kz⟩,Kb⟩:=K;simp only at hK2 k1 k2 kI f1 hG';subst hK2 k1 k2;have hfc:=(bD hX).1;have hfv:=(bD hY).1;have hbx:=(bD hz).1;have hX':=zcu (q:=q) hX;have hY':=zcu (q:=q) hY;have hz':=zaz hz;have f4:=yml cfg p.b ⟨kf,kb,ka,kz⟩ kI;have f5:=ymn cfg kf (by omega);have f6:=y9g (zej cfg kf) p.b (zbx cfg p.b ⟨kf,kb,ka,kz⟩).1 (zbx cfg p.b ⟨kf,kb,ka,kz⟩).2.1 (z8c _ _ _).1 (z8c _ _ _).2;have f7:=y9u Y p.r kb (hv Y (bF hY)) (by omega);have hkl:zjd c v cfg p ⟨kf,kb,ka,kz⟩=⟨zcr Y p.r kb,(zfo (zej cfg kf) p.b (zbx cfg p.b ⟨kf,kb,ka,kz⟩).1 (zbx cfg p.b ⟨kf,kb,ka,kz⟩).2.1).1,p.l+1⟩:=by
      unfold zjd;simp only [zme hY,Option.getD_some]
     have hkr:zjg c v cfg p ⟨kf,kb,ka,kz⟩=⟨zd8 Y p.r kb,(zfo (zej cfg kf) p.b (zbx cfg p.b ⟨kf,kb,ka,kz⟩).1 (zbx cfg p.b ⟨kf,kb,ka,kz⟩).2.1).2,p.l+1⟩:=by
      unfold zjg;simp only [zme hY,Option.getD_some]
     have hcn:zml c ⟨kf,kb,ka,kz⟩ Q.length=⟨kf,z,Q.length,Q.length+1,0⟩:=by
      unfold zml;simp only [zme hX,Option.getD_some,zme hz]
     rw [hkl,hkr,hcn] at hG';clear hkl hkr hcn;generalize zbx cfg p.b ⟨kf,kb,ka,kz⟩=sv at *;obtain ⟨sl,sr,sb⟩:=sv;simp only at f4 f6 hG';generalize zej cfg kf=sg at *;generalize zfo sg p.b sl sr=bb at *;obtain ⟨⟨ll,lh⟩,⟨rl,rh⟩⟩:=bb;generalize zcr Y p.r kb=L1 at *;generalize zd8 Y p.r kb=R1 at *;simp only [bnd,cnd] at f1 f4 f6 hG';have hQ:=ym1 Q ⟨L1,⟨ll,lh⟩,p.l+1⟩ ⟨R1,⟨rl,rh⟩,p.l+1⟩;have hsn2:=z8p out ⟨kf,z,Q.length,Q.length+1,0⟩;simp only at hQ hsn2;have wl:=w64 (x:=p.l+1) (by omega) (by omega);have wq:=w64 (x:=(Q.length:Int)+1) (by omega) (by omega);have hr482:zaj 48 2=true:=by decide
     have hr483:zaj 48 (Q.length+2)=true:=by simp [zaj]; omega
     rcases hN with ⟨rfl,rfl⟩ | ⟨w,ew,rfl,hw5,hwx,hwo,hSw⟩
     ·simp [-getElem?_pos,zka,Z2,hlt,hp',hps,hlv,f1,f4,f5,f6,f7,hX',hY',hz',hfc,hfv,hbx,wl,wq,hr482,hr483,hQ,hws,hr40,Z0];refine zai (n-1) (by omega) ⟨i+1,st.nx+9,st.ep,(Q++[⟨L1,⟨ll,lh⟩,p.l+1⟩,⟨R1,⟨rl,rh⟩,p.l+1⟩]),[⟨kf,z,Q.length,Q.length+1,0⟩],.ref (st.nx+7) none st.ep 0 1,hG',by simp [v1],by simp [v3],by simp [v5],by simp [v6],by simp,by simp [v9],by simp,by omega,by omega,by simp,by simp <;> omega,by simp [Z0,hS0],by simp [Z0,hS1],by simp [Z0,hS2],by simp [Z0],by simp [Z0],.inr ⟨st.nx+7,st.ep,by simp,by omega,by simp [nd,Fo03,Fo04,Fo01,Fo02,y0,y1,y2,y3,y4,y5]⟩⟩
     ·obtain ⟨Fw01,Fw02,Fw03,Fw04⟩:=fr (show w<st.nx by omega);have M0a:(w=0)=False:=eq_false (by omega);have M0b:(0=w)=False:=eq_false (by omega);have M1a:(w=1)=False:=eq_false (by omega);have M1b:(1=w)=False:=eq_false (by omega);have M2a:(w=2)=False:=eq_false (by omega);have M2b:(2=w)=False:=eq_false (by omega);have M3a:(w=5)=False:=eq_false (by omega);have M3b:(5=w)=False:=eq_false (by omega);have M4a:(w=o)=False:=eq_false (by omega);have M4b:(o=w)=False:=eq_false (by omega);have Z1:=bI Z0 <| bI Fw01 <| bI Fw02 <| bI Fw03 <| bI Fw04 <| bI M0a <| bI M0b <| bI M1a <| bI M1b <| bI M2a <| bI M2b <| bI M3a <| bI M3b <| bI M4a M4b
      simp [-getElem?_pos,zka,Z2,hSw,hlt,hp',hps,hlv,f1,f4,f5,f6,f7,hX',hY',hz',hfc,hfv,hbx,wl,wq,hr482,hr483,hQ,hws,hr40,hr41,hsn2,Z1];refine zai (n-1) (by omega) ⟨i+1,st.nx+9,st.ep,(Q++[⟨L1,⟨ll,lh⟩,p.l+1⟩,⟨R1,⟨rl,rh⟩,p.l+1⟩]),(out++[⟨kf,z,Q.length,Q.length+1,0⟩]),.ref (st.nx+7) none st.ep 0 (out.length+1),hG',by simp [v1],by simp [v3],by simp [v5],by simp [v6],by simp,by simp [v9],by simp,by omega,by omega,by simp,by simp <;> omega,by simp [Z1,hS0],by simp [Z1,hS1],by simp [Z1,hS2],by simp [Z1],by simp [Z1],.inr ⟨st.nx+7,st.ep,by simp,by omega,by simp [nd,Fo03,Fo04,Fo01,Fo02,y0,y1,y2,y3,y4,y5]⟩⟩
   ·have hiq:i=Q.length:=by have:=hG.le; omega
    have hgo:=hG.go;rw [ydg (List.getElem?_eq_none (by omega)),<- hR'] at hgo;subst hgo;have hol:=hG.ol;rcases hN with ⟨rfl,rfl⟩ | ⟨w,ew,rfl,hw5,hwx,hwo,hSw⟩
    ·simp [-getElem?_pos,zka,Z2,hlt,Z0]
    ·obtain ⟨Fw01,Fw02,Fw03,Fw04⟩:=fr (show w<st.nx by omega);have M0a:(w=0)=False:=eq_false (by omega);have M0b:(0=w)=False:=eq_false (by omega);have M1a:(w=1)=False:=eq_false (by omega);have M1b:(1=w)=False:=eq_false (by omega);have M2a:(w=2)=False:=eq_false (by omega);have M2b:(2=w)=False:=eq_false (by omega);have M3a:(w=5)=False:=eq_false (by omega);have M3b:(5=w)=False:=eq_false (by omega);have M4a:(w=o)=False:=eq_false (by omega);have M4b:(o=w)=False:=eq_false (by omega);have Z1:=bI Z0 <| bI Fw01 <| bI Fw02 <| bI Fw03 <| bI Fw04 <| bI M0a <| bI M0b <| bI M1a <| bI M1b <| bI M2a <| bI M2b <| bI M3a <| bI M3b <| bI M4a M4b
     simp [-getElem?_pos,zka,Z2,hSw,hlt,Z1]
  ·refine ⟨by simp,by simp,by simp,by simp,by simp,by simp,by simp,by simp,by simp,by simp,by simp,by simp,by simp,by simp,by simp,by simp [hroot],.inl ⟨rfl,rfl⟩⟩
theorem y9x (q:Bool) (c v:List (List Int)) (g:List Int) (cfg:Cfg) (hc : ∀ l∈c,l.length<=1048576) (hv : ∀ l∈v,l.length<=1048576) (hg:g.length<=1048576) (hs:cfg.sg.length<=1048576) (hgi : ∀ x∈g,inI x):RUN T zqp [.agg [.sl 1 (rws q c),.sl 1 (rws q v)],.sl 1 (zab g),cfS cfg]=some ([.agg [.own 5 ((zb3 c v g cfg).1.map nd)],bv (zb3 c v g cfg).2],[]):=by
 have e1:=yl0 q c v g cfg (fun l hl=>Nat.le_trans (hc l hl) (by omega)) (fun l hl=>Nat.le_trans (hv l hl) (by omega)) (by omega) (by omega);simp only [zcj] at e1;cases ht:zf8 c v g cfg with
 | false =>
  rw [ht] at e1;have hR:zb3 c v g cfg=([],false):=by unfold zb3; rw [ht]; rfl
  rw [hR];refine zae rfl rfl ?_;simp [-getElem?_pos,zvw,zvt,e1]
 | true =>
  rw [ht] at e1;have hR:zb3 c v g cfg=(zdx c v g cfg 32 [zew g] 0 [],true):=by unfold zb3; rw [if_pos ht]
  rw [hR];obtain ⟨R,hR'⟩ : ∃ R,R=zdx c v g cfg 32 [zew g] 0 []:=⟨_,rfl⟩;rw [<- hR'];obtain ⟨t1,t2,t3,t4⟩:=zx1 ht;obtain ⟨t5,t6⟩:=yq5 t1;have e3:=y9r g.length (by omega);have e4:=y9o;have hr48:zaj 48 1=true:=by decide
  have hG:=GI.start ht;have hroot:zgm [zew g]=[[.own 1 (zab (upl g.length)),iv zkl.lo,iv zkl.hi,iv 0]]:=by simp [zgm,pnd,zew,upl]
  simp only [bnd] at e4;refine zae rfl rfl ?_;simp [-getElem?_pos,zvw,zvt,e1,e3,e4,hr48];refine zan (fun n st => ∃ (i o e:Nat) (Q:List Pnd) (out:List Nd) (x:PV),GI c v g cfg n Q i out/\st.V 1 = .sl 1 (zab g)/\st.V 3 = .ptr 0 none 0 0 0/\st.V 5 = .ptr 1 none 0 0 0/\st.V 6 = .ptr 2 none 0 0 0/\st.V 8 = .ptr 3 none 0 0 0/\st.V 9 = .ref o none e 0 Q.length/\st.V 10=iv i/\4<o/\o<st.nx/\3<st.nx/\st.S 0=some (.box [.sl 1 (rws q c),.sl 1 (rws q v)])/\st.S 1=some (.box [iv cfg.ro,iv cfg.de,iv cfg.bi,iv cfg.la,iv cfg.rw,iv cfg.nu,iv cfg.dn,.sl 1 (zab cfg.sg)])/\st.S 2=some (.box [.e0])/\st.S 3=some (.box [x])/\st.S o=some (.row 4 (zgm Q))/\NC st.S st.nx o out x) ?_ 32 _ ⟨0,5,0,[zew g],[],.e0,hG,?_⟩
  ·rintro n st ⟨i,o,ep,Q,out,x,hG,v1,v3,v5,v6,v8,v9,v10,ho3,hox,h3x,hS0,hS1,hS2,hS3,hSo,hN⟩;have Z2:=bI v1 <| bI v3 <| bI v5 <| bI v6 <| bI v8 <| bI v9 <| bI v10 <| bI hS0 <| bI hS1 <| bI hS2 <| bI hS3 hSo
   obtain ⟨Fa01,Fa02,Fa03,Fa04⟩:=fr (show 0<st.nx by omega);obtain ⟨Fb01,Fb02,Fb03,Fb04⟩:=fr (show 1<st.nx by omega);obtain ⟨Fc01,Fc02,Fc03,Fc04⟩:=fr (show 2<st.nx by omega);obtain ⟨Fd01,Fd02,Fd03,Fd04⟩:=fr (show 3<st.nx by omega);obtain ⟨Fo01,Fo02,Fo03,Fo04⟩:=fr (show o<st.nx by omega);have N0a:(o=0)=False:=eq_false (by omega);have N0b:(0=o)=False:=eq_false (by omega);have N1a:(o=1)=False:=eq_false (by omega);have N1b:(1=o)=False:=eq_false (by omega);have N2a:(o=2)=False:=eq_false (by omega);have N2b:(2=o)=False:=eq_false (by omega);have N3a:(o=3)=False:=eq_false (by omega);have N3b:(3=o)=False:=eq_false (by omega);have y0:(st.nx=0)=False:=eq_false (by omega);have y1:(st.nx=1)=False:=eq_false (by omega);have y2:(st.nx=2)=False:=eq_false (by omega);have y3:(st.nx=3)=False:=eq_false (by omega);have y4:(st.nx=4)=False:=eq_false (by omega);have y5:(st.nx=5)=False:=eq_false (by omega);have na : ∀ a b:Nat,st.nx+a+b=st.nx+(a+b):=fun a b=>Nat.add_assoc _ _ _;have Z0:=bI Fa01 <| bI Fa02 <| bI Fa03 <| bI Fa04 <| bI Fb01 <| bI Fb02 <| bI Fb03 <| bI Fb04 <| bI Fc01 <| bI Fc02 <| bI Fc03 <| bI Fc04 <| bI Fd01 <| bI Fd02 <| bI Fd03 <| bI Fd04 <| bI Fo01 <| bI Fo02 <| bI Fo03 <| bI Fo04 <| bI N0a <| bI N0b <| bI N1a <| bI N1b <| bI N2a <| bI N2b <| bI N3a <| bI N3b <| bI y0 <| bI y1 <| bI y2 <| bI y3 <| bI y4 <| bI y5 na
   by_cases hlt:i<Q.length
   ·obtain ⟨p,hp⟩ : ∃ p,Q[i]?=some p:=⟨_,bG hlt⟩;have hp':=ydv hp;have hps:=yqh hp;have hpo:=hG.ok p (bF hp);obtain ⟨p1,p2,p3,p4⟩:=hpo;have hn1:=hG.n1;have hql:=hG.ql;have hws:=wS hlt (by omega:Q.length<=9223372036854775807);have f1:=y9n q c v g cfg p.r p.b hc hv hg (by omega) hs hgi;have f2:=y9t g p.r t4 p1 (by omega);have f3:=yba (zev g p.r) cfg.la p.b (yt8 t4 (by omega));have hr40:zaj 40 1=true:=by decide
    have hr41:zaj 40 (out.length+1)=true:=by have:=hG.ol; simp [zaj]; omega
    have hsn:=z8p out (zdh g cfg p);simp only [zdh] at hsn;simp only [bnd] at f1 f3;obtain ⟨K,hK⟩ : ∃ K,K=zbd c v g cfg p.r p.b:=⟨_,rfl⟩;obtain ⟨G,hGg⟩ : ∃ G,G=goes c v g cfg p:=⟨_,rfl⟩;have hG2:G=(decide (p.l<cfg.de) && K.2):=by rw [hGg,hK]; rfl
    cases G with
    | false =>
     obtain ⟨m1,hG'⟩:=hG.leaf hp hGg.symm;rw [<- hK] at f1;simp only [slc] at f2 f3
     by_cases hlv:p.l<cfg.de
     ·have hK2:K.2=false:=by simpa [hlv] using hG2.symm
      obtain ⟨K,Kb⟩:=K;simp only at hK2 f1;subst hK2;simp only [cnd] at f1;have hge : ¬ cfg.de<=p.l:=by omega
      rcases hN with ⟨rfl,rfl⟩ | ⟨w,ew,rfl,hw5,hwx,hwo,hSw⟩
      ·simp [-getElem?_pos,zkb,Z2,hlt,hp',hps,hge,f1,f2,f3,hws,hr40,Z0];refine zai (n-1) (by omega) ⟨i+1,o,ep,Q,[zdh g cfg p],.ref (st.nx+3) none st.ep 0 1,hG',by simp [v1],by simp [v3],by simp [v5],by simp [v6],by simp [v8],by simp [v9],by simp,ho3,(by simp <;> omega),by simp <;> omega,by simp [Z0,hS0],by simp [Z0,hS1],by simp [Z0,hS2],by simp [Z0],by simp [Z0,hSo],.inr ⟨st.nx+3,st.ep,by simp,by omega,by simp <;> omega,by omega,by simp [nd,zdh,y0,y1,y2,y3,y4,y5]⟩⟩
      ·obtain ⟨Fw01,Fw02,Fw03,Fw04⟩:=fr (show w<st.nx by omega);have M0a:(w=0)=False:=eq_false (by omega);have M0b:(0=w)=False:=eq_false (by omega);have M1a:(w=1)=False:=eq_false (by omega);have M1b:(1=w)=False:=eq_false (by omega);have M2a:(w=2)=False:=eq_false (by omega);have M2b:(2=w)=False:=eq_false (by omega);have M3a:(w=3)=False:=eq_false (by omega);have M3b:(3=w)=False:=eq_false (by omega);have M4a:(w=o)=False:=eq_false (by omega);have M4b:(o=w)=False:=eq_false (by omega);have Z1:=bI Z0 <| bI Fw01 <| bI Fw02 <| bI Fw03 <| bI Fw04 <| bI M0a <| bI M0b <| bI M1a <| bI M1b <| bI M2a <| bI M2b <| bI M3a <| bI M3b <| bI M4a M4b
       simp [-getElem?_pos,zkb,Z2,hSw,hlt,hp',hps,hge,f1,f2,f3,hws,hr40,hr41,hsn,Z1];refine zai (n-1) (by omega) ⟨i+1,o,ep,Q,out++[zdh g cfg p],.ref (st.nx+3) none st.ep 0 (out.length+1),hG',by simp [v1],by simp [v3],by simp [v5],by simp [v6],by simp [v8],by simp [v9],by simp,ho3,(by simp <;> omega),by simp <;> omega,by simp [Z1,hS0],by simp [Z1,hS1],by simp [Z1,hS2],by simp [Z1],by simp [Z1,hSo],.inr ⟨st.nx+3,st.ep,by simp,by omega,by simp <;> omega,by omega,by simp [nd,zdh,y0,y1,y2,y3,y4,y5]⟩⟩
     ·obtain ⟨K,Kb⟩:=K;simp only [cnd] at f1;have hge:cfg.de<=p.l:=by omega
      rcases hN with ⟨rfl,rfl⟩ | ⟨w,ew,rfl,hw5,hwx,hwo,hSw⟩
      ·simp [-getElem?_pos,zkb,Z2,hlt,hp',hps,hge,f1,f2,f3,hws,hr40,Z0];refine zai (n-1) (by omega) ⟨i+1,o,ep,Q,[zdh g cfg p],.ref (st.nx+3) none st.ep 0 1,hG',by simp [v1],by simp [v3],by simp [v5],by simp [v6],by simp [v8],by simp [v9],by simp,ho3,(by simp <;> omega),by simp <;> omega,by simp [Z0,hS0],by simp [Z0,hS1],by simp [Z0,hS2],by simp [Z0],by simp [Z0,hSo],.inr ⟨st.nx+3,st.ep,by simp,by omega,by simp <;> omega,by omega,by simp [nd,zdh,y0,y1,y2,y3,y4,y5]⟩⟩
      ·obtain ⟨Fw01,Fw02,Fw03,Fw04⟩:=fr (show w<st.nx by omega);have M0a:(w=0)=False:=eq_false (by omega);have M0b:(0=w)=False:=eq_false (by omega);have M1a:(w=1)=False:=eq_false (by omega);have M1b:(1=w)=False:=eq_false (by omega);have M2a:(w=2)=False:=eq_false (by omega);have M2b:(2=w)=False:=eq_false (by omega);have M3a:(w=3)=False:=eq_false (by omega);have M3b:(3=w)=False:=eq_false (by omega);have M4a:(w=o)=False:=eq_false (by omega);have M4b:(o=w)=False:=eq_false (by omega);have Z1:=bI Z0 <| bI Fw01 <| bI Fw02 <| bI Fw03 <| bI Fw04 <| bI M0a <| bI M0b <| bI M1a <| bI M1b <| bI M2a <| bI M2b <| bI M3a <| bI M3b <| bI M4a M4b
       simp [-getElem?_pos,zkb,Z2,hSw,hlt,hp',hps,hge,f1,f2,f3,hws,hr40,hr41,hsn,Z1];refine zai (n-1) (by omega) ⟨i+1,o,ep,Q,out++[zdh g cfg p],.ref (st.nx+3) none st.ep 0 (out.length+1),hG',by simp [v1],by simp [v3],by simp [v5],by simp [v6],by simp [v8],by simp [v9],by simp,ho3,(by simp <;> omega),by simp <;> omega,by simp [Z1,hS0],by simp [Z1,hS1],by simp [Z1,hS2],by simp [Z1],by simp [Z1,hSo],.inr ⟨st.nx+3,st.ep,by simp,by omega,by simp <;> omega,by omega,by simp [nd,zdh,y0,y1,y2,y3,y4,y5]⟩⟩
    | true =>
     obtain ⟨m1,hG'⟩:=hG.cut hp hGg.symm;have t7:=ydm t2;have hlv:p.l<cfg.de:=by
      have h9:=hG2.symm;simp only [Bool.and_eq_true,decide_eq_true_eq] at h9;exact h9.1
     have hK2:K.2=true:=by
      have h9:=hG2.symm;simp only [Bool.and_eq_true,decide_eq_true_eq] at h9;exact h9.2
     obtain ⟨kf,kb,X,Y,z,k1,k2,hX,hY,hz,kI⟩:=yob (c:=c) (v:=v) (g:=g) (cfg:=cfg) (rows:=p.r) (b:=p.b) (by rw [<- hK]; exact hK2);rw [<- hK] at f1 hG' k1 k2 kI;obtain ⟨⟨kf',kb',ka,kz⟩,Kb⟩:=K;simp only at hK2 k1 k2 kI f1 hG';subst hK2 k1 k2;have hfc:=(bD hX).1;have hfv:=(bD hY).1;have hbx:=(bD hz).1;have hX':=zcu (q:=q) hX;have hY':=zcu (q:=q) hY;have hz':=zaz hz;have f4:=ymm cfg p.b ⟨kf,kb,ka,kz⟩ kI;have f5:=ymo cfg kf (by omega);have f6:=y9f (zej cfg kf) p.b (zbx cfg p.b ⟨kf,kb,ka,kz⟩).1 (zbx cfg p.b ⟨kf,kb,ka,kz⟩).2.1 (z8c _ _ _).1 (z8c _ _ _).2;have f7:=y9v Y p.r kb (hv Y (bF hY)) (by omega);have hkl:zjd c v cfg p ⟨kf,kb,ka,kz⟩=⟨zcr Y p.r kb,(zfo (zej cfg kf) p.b (zbx cfg p.b ⟨kf,kb,ka,kz⟩).1 (zbx cfg p.b ⟨kf,kb,ka,kz⟩).2.1).1,p.l+1⟩:=by
      unfold zjd;simp only [zme hY,Option.getD_some]
     have hkr:zjg c v cfg p ⟨kf,kb,ka,kz⟩=⟨zd8 Y p.r kb,(zfo (zej cfg kf) p.b (zbx cfg p.b ⟨kf,kb,ka,kz⟩).1 (zbx cfg p.b ⟨kf,kb,ka,kz⟩).2.1).2,p.l+1⟩:=by
      unfold zjg;simp only [zme hY,Option.getD_some]
     have hcn:zml c ⟨kf,kb,ka,kz⟩ Q.length=⟨kf,z,Q.length,Q.length+1,0⟩:=by
      unfold zml;simp only [zme hX,Option.getD_some,zme hz]
     rw [hkl,hkr,hcn] at hG';clear hkl hkr hcn;generalize zbx cfg p.b ⟨kf,kb,ka,kz⟩=sv at *;obtain ⟨sl,sr,sb⟩:=sv;simp only at f4 f6 hG';generalize zej cfg kf=sg at *;generalize zfo sg p.b sl sr=bb at *;obtain ⟨⟨ll,lh⟩,⟨rl,rh⟩⟩:=bb;generalize zcr Y p.r kb=L1 at *;generalize zd8 Y p.r kb=R1 at *;simp only [bnd,cnd] at f1 f4 f6 hG';have hQ:=ym1 Q ⟨L1,⟨ll,lh⟩,p.l+1⟩ ⟨R1,⟨rl,rh⟩,p.l+1⟩;have hsn2:=z8p out ⟨kf,z,Q.length,Q.length+1,0⟩;simp only at hQ hsn2;have wl:=w64 (x:=p.l+1) (by omega) (by omega);have wq:=w64 (x:=(Q.length:Int)+1) (by omega) (by omega);have hge : ¬ cfg.de<=p.l:=by omega
     have hr482:zaj 48 2=true:=by decide
     have hr483:zaj 48 (Q.length+2)=true:=by simp [zaj]; omega
     rcases hN with ⟨rfl,rfl⟩ | ⟨w,ew,rfl,hw5,hwx,hwo,hSw⟩
     ·simp [-getElem?_pos,zkb,Z2,hlt,hp',hps,hge,f1,f4,f5,f6,f7,hX',hY',hz',hfc,hfv,hbx,wl,wq,hr482,hr483,hQ,hws,hr40,Z0];refine zai (n-1) (by omega) ⟨i+1,st.nx+9,st.ep,(Q++[⟨L1,⟨ll,lh⟩,p.l+1⟩,⟨R1,⟨rl,rh⟩,p.l+1⟩]),[⟨kf,z,Q.length,Q.length+1,0⟩],.ref (st.nx+7) none st.ep 0 1,hG',by simp [v1],by simp [v3],by simp [v5],by simp [v6],by simp [v8],by simp,by simp,by omega,by simp,by simp <;> omega,by simp [Z0,hS0],by simp [Z0,hS1],by simp [Z0,hS2],by simp [Z0],by simp [Z0],.inr ⟨st.nx+7,st.ep,by simp,by omega,by simp [nd,Fo03,Fo04,Fo01,Fo02,y0,y1,y2,y3,y4,y5]⟩⟩
     ·obtain ⟨Fw01,Fw02,Fw03,Fw04⟩:=fr (show w<st.nx by omega);have M0a:(w=0)=False:=eq_false (by omega);have M0b:(0=w)=False:=eq_false (by omega);have M1a:(w=1)=False:=eq_false (by omega);have M1b:(1=w)=False:=eq_false (by omega);have M2a:(w=2)=False:=eq_false (by omega);have M2b:(2=w)=False:=eq_false (by omega);have M3a:(w=3)=False:=eq_false (by omega);have M3b:(3=w)=False:=eq_false (by omega);have M4a:(w=o)=False:=eq_false (by omega);have M4b:(o=w)=False:=eq_false (by omega);have Z1:=bI Z0 <| bI Fw01 <| bI Fw02 <| bI Fw03 <| bI Fw04 <| bI M0a <| bI M0b <| bI M1a <| bI M1b <| bI M2a <| bI M2b <| bI M3a <| bI M3b <| bI M4a M4b
      simp [-getElem?_pos,zkb,Z2,hSw,hlt,hp',hps,hge,f1,f4,f5,f6,f7,hX',hY',hz',hfc,hfv,hbx,wl,wq,hr482,hr483,hQ,hws,hr40,hr41,hsn2,Z1];refine zai (n-1) (by omega) ⟨i+1,st.nx+9,st.ep,(Q++[⟨L1,⟨ll,lh⟩,p.l+1⟩,⟨R1,⟨rl,rh⟩,p.l+1⟩]),(out++[⟨kf,z,Q.length,Q.length+1,0⟩]),.ref (st.nx+7) none st.ep 0 (out.length+1),hG',by simp [v1],by simp [v3],by simp [v5],by simp [v6],by simp [v8],by simp,by simp,by omega,by simp,by simp <;> omega,by simp [Z1,hS0],by simp [Z1,hS1],by simp [Z1,hS2],by simp [Z1],by simp [Z1],.inr ⟨st.nx+7,st.ep,by simp,by omega,by simp [nd,Fo03,Fo04,Fo01,Fo02,y0,y1,y2,y3,y4,y5]⟩⟩
   ·have hiq:i=Q.length:=by have:=hG.le; omega
    have hgo:=hG.go;rw [ydg (List.getElem?_eq_none (by omega)),<- hR'] at hgo;subst hgo;have hol:=hG.ol;rcases hN with ⟨rfl,rfl⟩ | ⟨w,ew,rfl,hw5,hwx,hwo,hSw⟩
    ·simp [-getElem?_pos,zkb,Z2,hlt,Z0]
    ·obtain ⟨Fw01,Fw02,Fw03,Fw04⟩:=fr (show w<st.nx by omega);have M0a:(w=0)=False:=eq_false (by omega);have M0b:(0=w)=False:=eq_false (by omega);have M1a:(w=1)=False:=eq_false (by omega);have M1b:(1=w)=False:=eq_false (by omega);have M2a:(w=2)=False:=eq_false (by omega);have M2b:(2=w)=False:=eq_false (by omega);have M3a:(w=3)=False:=eq_false (by omega);have M3b:(3=w)=False:=eq_false (by omega);have M4a:(w=o)=False:=eq_false (by omega);have M4b:(o=w)=False:=eq_false (by omega);have Z1:=bI Z0 <| bI Fw01 <| bI Fw02 <| bI Fw03 <| bI Fw04 <| bI M0a <| bI M0b <| bI M1a <| bI M1b <| bI M2a <| bI M2b <| bI M3a <| bI M3b <| bI M4a M4b
     simp [-getElem?_pos,zkb,Z2,hSw,hlt,Z1]
  ·refine ⟨by simp,by simp,by simp,by simp,by simp,by simp,by simp,by simp,by simp,by simp,by simp,by simp,by simp,by simp,by simp [hroot],.inl ⟨rfl,rfl⟩⟩
theorem y9y (c:Cfg) (k:Int) (h0:0<=k) (hk:k+c.sg.length<=9223372036854775806):RUN T zp1 [z71 c,iv k]=some ([iv (k+c.sg.length)],[.own 1 (zab (upto k c.sg.length))]):=by
 have e:=z7p c.sg k h0 hk;have hu:(upto k c.sg.length).length=c.sg.length:=by simp [upto]
 generalize upto k c.sg.length=u at *;refine zae rfl rfl ?_;simp [-getElem?_pos,zze,zs6,z71,e,hu]
theorem y9z (k:Int) (n:Nat) (h0:0<=k) (hk:k+5*n<=9223372036854775806):RUN T zrx [.sl 5 ((zfd k n).map nd),iv k]=some ([iv (k+5*n)],[]):=by
 refine zae rfl rfl ?_;have hl:(zfd k n).length=n:=by simp [zfd]
 simp [z3t,zs6];refine zan (fun q st => ∃ i:Nat,i+q=n/\st.V 0 = .sl 5 ((zfd k n).map nd)/\st.V 1=iv (k+5*i)/\st.V 5=iv i) ?_ n _ ⟨0,by simp⟩;rintro q st ⟨i,hi,v0,v1,v5⟩
 by_cases h:i<n
 ·have hw:=wS h (by omega:n<=9223372036854775807);have w1:IntKind.i64.wrap (k+5*(i:Int)+1)=k+5*(i:Int)+1:=w64 (by omega) (by omega);have w2:IntKind.i64.wrap (k+5*(i:Int)+1+1)=k+5*(i:Int)+2:=by rw [w64 (by omega) (by omega)]; omega
  have w3:IntKind.i64.wrap (k+5*(i:Int)+2+1)=k+5*(i:Int)+3:=by rw [w64 (by omega) (by omega)]; omega
  have w4:IntKind.i64.wrap (k+5*(i:Int)+3+1)=k+5*(i:Int)+4:=by rw [w64 (by omega) (by omega)]; omega
  have w5:IntKind.i64.wrap (k+5*(i:Int)+4+1)=k+5*((i:Int)+1):=by rw [w64 (by omega) (by omega)]; omega
  have hx':((zfd k n).map nd)[i]?=some [iv (k+5*(i:Int)),iv (k+5*(i:Int)+1),iv (k+5*(i:Int)+2),iv (k+5*(i:Int)+3),iv (k+5*(i:Int)+4)]:=by simp [zfd,h,nd]
  have hL:((zfd k n).map nd).length=n:=by simp [zfd]
  generalize (zfd k n).map nd=L at *;simp [-getElem?_pos,yai,v0,v1,v5,h,hL,hx',hw,w1,w2,w3,w4,w5];exact zai (q-1) (by omega) ⟨i+1,by omega,by simp [v0]⟩
 ·simp [-getElem?_pos,yai,v0,v1,v5,h,hl];omega
theorem ybo {c v:List (List Int)} {g:List Int} {cfg:Cfg} : ∀ (n:Nat) (q:List Pnd) (i:Nat) (out:List Nd),(zdx c v g cfg n q i out).length<=out.length+n
 | 0,q,i,out=>by simp [zdx]
 | n+1,q,i,out=>by
  rw [zdx];split
  ·omega
  ·split
   ·refine Nat.le_trans (ybo n _ _ _) ?_;simp; omega
   ·refine Nat.le_trans (ybo n _ _ _) ?_;simp; omega
theorem ydb (c v:List (List Int)) (g:List Int) (cfg:Cfg):(zb3 c v g cfg).1.length<=32:=by
 unfold zb3;split
 ·have:=ybo (c:=c) (v:=v) (g:=g) (cfg:=cfg) 32 [zew g] 0 [];simpa using this
 ·simp
theorem y90 {q:Bool} {f:Nat} {cs:List PV} {p:List Int->Bool} (M:List (List Int)) (hl:M.length<=9223372036854775807) (hm:zad T f=[]) (hp : ∀ t∈M,RUN T f [.sl 1 (zab t),.fptr cs 0]=some ([bv (p t)],[])) :
  RUN T zry [.sl 1 (rws q M),.fn f [.fptr cs 0]]=some ([iv (zh2 p M)],[]):=by
 refine zae rfl rfl ?_;simp [z3x,zs6];refine zan (fun n st => ∃ i:Nat,i+n=M.length/\st.V 0 = .sl 1 (rws q M)/\st.V 1 = .fn f [.fptr cs 0]/\st.V 8=iv i/\st.V 7=iv M.length/\∀ (j:Nat) (x:List Int),j<i->M[j]?=some x->p x=false) ?_ M.length _ ⟨0,by simp⟩;rintro n st ⟨i,hi,h0,h1,h8,h7,hj⟩;simp [yfs,h0,h1,h8,h7];refine zay (fun h => ?_) (fun h => ?_)
 ·simp at h;obtain ⟨x,hx⟩ : ∃ x,M[i]?=some x:=⟨_,bG h⟩;have hw:=wS h hl;have hx':=zcu (q:=q) hx;have hpx:=hp x (bF hx);simp [-getElem?_pos,h0,h1,h8,h7,hx',hw,hm,hpx,h];refine zay (fun b0 => ?_) (fun b0 => ?_) <;> (try simp at b0) <;> simp [-getElem?_pos,b0,h0,h1,h8,h7,hx',hw]
  all_goals first
   | exact (z9q hx b0 hj).symm
   | exact zai (n-1) (by omega) ⟨i+1,by omega,by simp [h0],by simp [h1],by simp,by simp [h7],ydu hj hx b0⟩
 ·simp at h;simp [h];exact (z9f fun j x hl hx=>hj j x (by omega) hx).symm
theorem y91 {q:Bool} {f:Nat} {cs:List PV} {p:List Int->Bool} (M:List (List Int)) (hl:M.length<=9223372036854775807) (hm:zad T f=[]) (hp : ∀ t∈M,RUN T f [.sl 1 (zab t),.fptr cs 0]=some ([bv (p t)],[])) :
  RUN T zq5 [.sl 1 (rws q M),.fn f [.fptr cs 0]]=some ([bv (M.any p)],[]):=by
 refine zae rfl rfl ?_;have e:=y90 (q:=q) M hl hm hp;simp [z1r,zs6,e,z81]
def zfh (n:Nat) (r:List Int):Bool:=decide ((r.length:Int)=n) && r.all zb7
def zbi (t:Ta):Bool:=zah t.ns.length 1 4 && zg0 (t.ns++[t.nm]) && zah t.rw.length 1 40 && decide ((t.lb.length:Int)=t.rw.length) && t.lb.all zb7 && t.rw.all (zfh t.ns.length)
theorem yrg {L:List ByteArray} {x:ByteArray} {i:Nat} (h:i<L.length):nmB (L++[x]) i=nmB L i:=by
 obtain ⟨y,hy⟩ : ∃ y,L[i]?=some y:=⟨_,bG h⟩;have hy2:(L++[x])[i]?=some y:=by rw [List.getElem?_append_left h]; exact hy
 rw [zxm hy,zxm hy2,List.take_append_of_le_length (by omega)]
theorem qgx {L:List ByteArray} {x:ByteArray}:nmB (L++[x]) L.length=(zd6 x && !zga L x):=by
 rw [zxm (x:=x) (by simp)];simp
theorem qfw (L:List ByteArray) (x:ByteArray):zg0 (L++[x])=(zg0 L && (zd6 x && !zga L x)):=by
 unfold zg0;rw [show (L++[x]).length=L.length+1 by simp,List.range_succ,List.all_append];simp only [List.all_cons,List.all_nil,Bool.and_true];rw [qgx]
 congr 1
 rw [Bool.eq_iff_iff,List.all_eq_true,List.all_eq_true];constructor
 ·intro h j hj; rw [<- yrg (x:=x) (List.mem_range.mp hj)]; exact h j hj
 ·intro h j hj; rw [yrg (List.mem_range.mp hj)]; exact h j hj
theorem qi1 (l:List ByteArray):zcl (za2 l)=true:=by
 induction l with
 | nil=>rfl
 | cons x l ih=>simpa [za2,zcl] using ih
theorem qgl (l:List Int):zcl (zab l)=true:=by
 induction l with
 | nil=>rfl
 | cons x l ih=>simpa [zab,zcl] using ih
theorem qez (l:List Nd):zcl (l.map nd)=true:=by
 induction l with
 | nil=>rfl
 | cons x l ih=>simpa [nd,zcl] using ih
theorem y92 (l:List ByteArray) (hl:l.length<=1048576):RUN T zp7 [.sl 1 (za2 l)]=some ([.own 1 (za2 l)],[]) :=
 yb2 ygs (qi1 l) (by simp [zaj]; omega)
theorem y93 (l:List Int) (hl:l.length<=1048576):RUN T zp8 [.sl 1 (zab l)]=some ([.own 1 (zab l)],[]) :=
 yb2 ygt (qgl l) (by simp [zaj]; omega)
theorem y94 (l:List Nd) (hl:l.length<=1048576):RUN T zrz [.sl 5 (l.map nd)]=some ([.own 5 (l.map nd)],[]) :=
 yb2 yjc (qez l) (by simp [zaj]; omega)
theorem y95 (q:Bool) (t:Ta) (r:List Int) (hr:r.length<=9223372036854775807):RUN T zm0 [.sl 1 (zab r),.fptr [.sl 1 (za2 t.ns),.v (.string t.nm),.sl 1 (rws q t.rw),.sl 1 (zab t.lb)] 0]=some ([bv (!zfh t.ns.length r)],[]):=by
 have e:=yaw r hr;unfold zfh;generalize r.all zb7=a at *;refine zae rfl rfl ?_;rcases Classical.propComplete ((r.length:Int)=t.ns.length) with h | h <;> cases a <;> simp [-getElem?_pos,z1t,z1u,e,h]
theorem qev (l:List ByteArray) (x:ByteArray):za2 l++[[.v (.string x)]]=za2 (l++[x]):=by simp [za2]
theorem ybf (q:Bool) (t:Ta) (ht:TaL 1048576 t):RUN T zla [taS q t]=some ([bv (zbi t)],[]):=by
 have h0:=y92 t.ns ht.ns;have h1:=y8d (t.ns++[t.nm]) (by have:=ht.ns; simp; omega) (fun x hx=>by
  rcases List.mem_append.mp hx with e | e
  ·exact Nat.le_trans (ht.ss x e) (by omega)
  ·simp at e; subst e; exact Nat.le_trans ht.nm (by omega))
 have h2:=yaw t.lb (Nat.le_trans ht.lb (by omega));have h3:=y91 (q:=q) (f:=zm0) (cs:=[.sl 1 (za2 t.ns),.v (.string t.nm),.sl 1 (rws q t.rw),.sl 1 (zab t.lb)]) (p:=fun r => !zfh t.ns.length r) t.rw (Nat.le_trans ht.rw (by omega)) (by simp) (fun r hr=>y95 q t r (Nat.le_trans (ht.rr r hr) (by omega)));have e3:(!(t.rw.any fun r => !zfh t.ns.length r))=t.rw.all (zfh t.ns.length):=by simp [List.any_eq_not_all_not]
 have g1:=zcs t.ns.length 1 4;have g2:=zcs t.rw.length 1 40;have hsn:=qev t.ns t.nm;have hns:=ht.ns;have hr1:zaj 16 1=true:=by decide
 have hr2:zaj 16 (t.ns.length+1)=true:=by simp [zaj]; omega
 have Z0:=bI g1 <| bI g2 <| bI h0 <| bI h1 <| bI h2 <| bI h3 <| bI hsn <| bI hr1 hr2
 unfold zbi;rw [<- e3];clear e3;generalize zg0 (t.ns++[t.nm])=a1 at *;generalize t.lb.all zb7=a2 at *;generalize (t.rw.any fun r => !zfh t.ns.length r)=a3 at *;generalize zah t.ns.length 1 4=b1 at *;generalize zah t.rw.length 1 40=b2 at *;refine zae rfl rfl ?_;cases b1 with
 | false=>simp [-getElem?_pos,zj6,zj1,-zbm,Z0]
 | true =>
 cases a1 with
 | false=>simp [-getElem?_pos,zj6,zj1,-zbm,Z0]
 | true =>
 cases b2 with
 | false=>simp [-getElem?_pos,zj6,zj1,-zbm,Z0]
 | true =>
 rcases Classical.propComplete ((t.lb.length:Int)=t.rw.length) with h | h
 ·cases a2 with
  | false=>simp [-getElem?_pos,zj6,zj1,-zbm,Z0,h]
  | true=>cases a3 <;> simp [-getElem?_pos,zj6,zj1,-zbm,Z0,h]
 ·simp [-getElem?_pos,zj6,zj1,-zbm,Z0,h]
abbrev taB (q:Bool) (t:Ta):List PV:=[.sl 1 (za2 t.ns),.v (.string t.nm),.sl 1 (rws q t.rw),.sl 1 (zab t.lb)]
theorem qfr (q:Bool) (t:Ta) (ht:TaL 9223372036854775807 t) {Q:Ex->St->Prop} {st:St} (h1:st.V 1 = .ptr 0 none 0 0 0) (h3:st.V 3=iv t.ns.length) (h4:st.V 4=iv (0:Nat)) (hS:st.S 0=some (.box (taB q t)))
  (hr:zg0 t.ns=false->∀ s:St,s.V 2=bv false->Q .ret s) (he:zg0 t.ns=true->∀ s:St,s.V 1 = .ptr 0 none 0 0 0->s.V 3=iv t.ns.length->s.S 0=some (.box (taB q t))->Q (.exit 0) s):W (zad T) (RUN T) (.loop zs7) st Q:=by
 refine zan (fun n st => ∃ i:Nat,i+n=t.ns.length/\(∀ j,j<i->nmB t.ns j=true)/\st.V 1 = .ptr 0 none 0 0 0/\st.V 3=iv t.ns.length/\st.V 4=iv i/\st.S 0=some (.box (taB q t))) ?_ t.ns.length _ ⟨0,by omega,fun _ h=>by omega,h1,h3,h4,hS⟩;clear h1 h3 h4 hS;rintro n st ⟨i,hi,hj,v1,v3,v4,hS⟩
 by_cases h:i<t.ns.length
 ·obtain ⟨x,hx⟩ : ∃ x,t.ns[i]?=some x:=⟨_,bG h⟩;have hx':=zmf hx;have hw:=wS h ht.ns;have hml:=ht.ns;have hN:=yl1 x (ht.ss x (bF hx));have hC:=yl2 (t.ns.take i) x (by simp; omega);have hc:=zxm hx;have hil:i<=t.ns.length:=by omega
  cases a1:zd6 x with
  | false =>
   rw [a1] at hN hc;simp [-getElem?_pos,zs7,v1,v3,v4,hS,hx',h,hw,hN];exact hr (zg4 h (by rw [hc]; rfl)) _ (by simp)
  | true =>
   rw [a1] at hN hc;cases a2:zga (t.ns.take i) x with
   | true =>
    rw [a2] at hC hc;simp [-getElem?_pos,zs7,v1,v3,v4,hS,hx',h,hw,hN,hC,hil,z8l];exact hr (zg4 h (by rw [hc]; rfl)) _ (by simp)
   | false =>
    rw [a2] at hC hc;simp [-getElem?_pos,zs7,v1,v3,v4,hS,hx',h,hw,hN,hC,hil,z8l];exact zai (n-1) (by omega) ⟨i+1,by omega,zik hj (by rw [hc]; rfl),by simp [v1,v3,hS]⟩
 ·simp [-getElem?_pos,zs7,v3,v4,h];exact he (zpa fun j hj'=>hj j (by omega)) _ (by simp [v1]) (by simp [v3]) (by simp [hS])
theorem qcr (q:Bool) (t:Ta) (ht:TaL 9223372036854775807 t) {r:List Int} {j:Nat} (hj:t.rw[j]?=some r) (hl:r.length=t.ns.length) {Q:Ex->St->Prop} {st:St} (h1:st.V 1 = .ptr 0 none 0 0 0) (h3:st.V 3=iv t.ns.length) (h5:st.V 5=iv j) (h6:st.V 6=iv (0:Nat)) (hS:st.S 0=some (.box (taB q t)))
  (hr:r.all zb7=false->∀ s:St,s.V 2=bv false->Q .ret s) (he:r.all zb7=true->∀ s:St,s.V 1 = .ptr 0 none 0 0 0->s.V 3=iv t.ns.length->s.V 5=iv j->s.S 0=some (.box (taB q t))->Q (.exit 4) s):W (zad T) (RUN T) (.loop zve) st Q:=by
 have hj':=zcu (q:=q) hj;have hjl:=(bD hj).1;refine zan (fun n st => ∃ i:Nat,i+n=r.length/\(∀ (k:Nat) (x:Int),k<i->r[k]?=some x->zb7 x=true)/\st.V 1 = .ptr 0 none 0 0 0/\st.V 3=iv t.ns.length/\st.V 5=iv j/\st.V 6=iv i/\st.S 0=some (.box (taB q t))) ?_ r.length _ ⟨0,by omega,fun _ _ h=>by omega,h1,h3,h5,h6,hS⟩;clear h1 h3 h5 h6 hS;rintro n st ⟨i,hi,hk,v1,v3,v5,v6,hS⟩
 by_cases h:i<t.ns.length
 ·obtain ⟨x,hx⟩ : ∃ x,r[i]?=some x:=⟨_,bG (by omega)⟩;have hx':=zaz hx;have hw:=wS h ht.ns;have hir:i<r.length:=by omega
  have hD:=zon x;cases a1:zb7 x with
  | false =>
   rw [a1] at hD;simp [-getElem?_pos,zve,-zon,v1,v3,v5,v6,hS,hj',hjl,hir,hx',h,hw,hD];exact hr (zxl hx a1) _ (by simp)
  | true =>
   rw [a1] at hD;simp [-getElem?_pos,zve,-zon,v1,v3,v5,v6,hS,hj',hjl,hir,hx',h,hw,hD];exact zai (n-1) (by omega) ⟨i+1,by omega,zku (P:=fun _ x=>zb7 x=true) hk hx a1,by simp [v1,v3,v5,hS]⟩
 ·simp [-getElem?_pos,zve,v3,v6,h];exact he (zx0 fun k a h1 h2=>hk k a (by omega) h2) _ (by simp [v1]) (by simp [v3]) (by simp [v5]) (by simp [hS])
theorem ypy {M:List (List Int)} {p:List Int->Bool} {j:Nat} {a:List Int} (h1:M[j]?=some a) (h2:p a=false):M.all p=false:=by
 cases e:M.all p with
 | false=>rfl
 | true=>rw [List.all_eq_true.mp e a (bF h1)] at h2; cases h2
theorem qdm {M:List (List Int)} {p:List Int->Bool} (h : ∀ (j:Nat) (a:List Int),j<M.length->M[j]?=some a->p a=true):M.all p=true:=by
 rw [List.all_eq_true];intro x hx;obtain ⟨j,hj⟩:=bH hx;exact h j x (bD hj).1 hj
theorem qf8 (q:Bool) (t:Ta) (ht:TaL 9223372036854775807 t) (hyl:t.lb.length=t.rw.length) {Q:Ex->St->Prop} {st:St} (h1:st.V 1 = .ptr 0 none 0 0 0) (h3:st.V 3=iv t.ns.length) (h5:st.V 5=iv (0:Nat)) (hS:st.S 0=some (.box (taB q t)))
  (hr:(t.lb.all zb7 && t.rw.all (zfh t.ns.length))=false->∀ s:St,s.V 2=bv false->Q .ret s) (he:(t.lb.all zb7 && t.rw.all (zfh t.ns.length))=true->∀ s:St,Q (.exit 2) s):W (zad T) (RUN T) (.loop zs8) st Q:=by
 refine zan (fun n st => ∃ i:Nat,i+n=t.rw.length/\(∀ (k:Nat) (x:Int),k<i->t.lb[k]?=some x->zb7 x=true)/\(∀ (k:Nat) (x:List Int),k<i->t.rw[k]?=some x->zfh t.ns.length x=true)/\st.V 1 = .ptr 0 none 0 0 0/\st.V 3=iv t.ns.length/\st.V 5=iv i/\st.S 0=some (.box (taB q t))) ?_ t.rw.length _ ⟨0,by omega,fun _ _ h=>by omega,fun _ _ h=>by omega,h1,h3,h5,hS⟩;clear h1 h3 h5 hS;rintro n st ⟨i,hi,hk,hk2,v1,v3,v5,hS⟩
 by_cases h:i<t.rw.length
 ·obtain ⟨r,hx⟩ : ∃ x,t.rw[i]?=some x:=⟨_,bG h⟩;obtain ⟨y,hy⟩ : ∃ x,t.lb[i]?=some x:=⟨_,bG (by omega)⟩;have hx':=zcu (q:=q) hx;have hy':=zaz hy;have hw:=wS h ht.rw;have hil:i<t.lb.length:=by omega
  have hD:=zon y;have hrb:zfh t.ns.length r=(decide ((r.length:Int)=t.ns.length) && r.all zb7):=rfl;rcases Classical.propComplete ((r.length:Int)=t.ns.length) with e1 | e1
  ·cases a1:zb7 y with
   | false =>
    rw [a1] at hD;simp [-getElem?_pos,zs8,-zon,v1,v3,v5,hS,hx',hy',h,hil,hD,e1];exact hr (by rw [zxl hy a1]; rfl) _ (by simp)
   | true =>
    rw [a1] at hD;have e2:(r.length:Int)=t.ns.length:=by rw [e1]; trivial
    simp [-getElem?_pos,zs8,-zon,v1,v3,v5,hS,hx',hy',h,hil,hD,e1];refine qcr q t ht hx (by omega) (by simp [v1]) (by simp [v3]) (by simp [v5]) (by simp) (by simp [hS]) (fun no s h2 => ?_) (fun ok s w1 w3 w5 wS => ?_)
    ·simp;refine hr ?_ _ (by simp [h2]);rw [ypy hx (by rw [hrb,no]; simp)]; simp
    ·simp [-getElem?_pos,w1,w3,w5,wS,hw];exact zai (n-1) (by omega) ⟨i+1,by omega,zku (P:=fun _ x=>zb7 x=true) hk hy a1,(fun k x h1 h2=>by
      rcases Nat.lt_or_ge k i with h3 | h3
      ·exact hk2 k x h3 h2
      ·have:k=i:=by omega
       subst this;rw [hx] at h2; cases h2;rw [hrb,ok,decide_eq_true e2]; rfl),by simp [w1,w3,wS]⟩
  ·simp [-getElem?_pos,zs8,-zon,v1,v3,v5,hS,hx',hy',h,hil,e1];refine hr ?_ _ (by simp);rw [ypy hx (by rw [hrb]; simp [e1])]; simp
 ·simp [-getElem?_pos,zs8,v1,v5,hS,h];exact he (by rw [zx0 fun k a h1 h2=>hk k a (by omega) h2,qdm fun k a h1 h2=>hk2 k a (by omega) h2]; rfl) _
theorem ybg (q:Bool) (t:Ta) (ht:TaL 9223372036854775807 t):RUN T zk7 [taS q t]=some ([bv (zbi t)],[]):=by
 have g1:=zbn t.ns.length 1 4;have g2:=zbn t.rw.length 1 40;have g3:=yl1 t.nm ht.nm;have g4:=yl2 t.ns t.nm ht.ns;have mod:zbi t=(zah t.ns.length 1 4 && (zg0 t.ns && (zd6 t.nm && !zga t.ns t.nm)) && zah t.rw.length 1 40 && decide ((t.lb.length:Int)=t.rw.length) && t.lb.all zb7 && t.rw.all (zfh t.ns.length)):=by
  unfold zbi;rw [qfw]
 rw [mod];clear mod;generalize zah t.ns.length 1 4=b1 at *;generalize zah t.rw.length 1 40=b2 at *;generalize zd6 t.nm=b3 at *;generalize zga t.ns t.nm=b4 at *;obtain ⟨R,hR⟩ : ∃ R,R=(b1 && (zg0 t.ns && (b3 && !b4)) && b2 && decide ((t.lb.length:Int)=t.rw.length) && t.lb.all zb7 && t.rw.all (zfh t.ns.length)):=⟨_,rfl⟩;rw [<- hR];refine zae rfl rfl ?_;cases b1 with
 | false =>
  have hR:R=false:=by rw [hR]; simp
  subst hR;simp [-getElem?_pos,zj0,zj1,-za3,g1]
 | true =>
 cases b3 with
 | false =>
  have hR:R=false:=by rw [hR]; simp
  subst hR;simp [-getElem?_pos,zj0,zj1,-za3,g1,g3]
 | true =>
 cases b4 with
 | true =>
  have hR:R=false:=by rw [hR]; simp
  subst hR;simp [-getElem?_pos,zj0,zj1,-za3,g1,g3,g4]
 | false =>
 cases b2 with
 | false =>
  have hR:R=false:=by rw [hR]; simp
  subst hR;simp [-getElem?_pos,zj0,zj1,-za3,g1,g2,g3,g4]
 | true =>
 by_cases e2:(t.lb.length:Int)=t.rw.length
 ·have e1:((t.lb.length:Int)=t.rw.length)=True:=eq_true e2;rw [decide_eq_true e2] at hR;simp [-getElem?_pos,zj0,zj1,-za3,g1,g2,g3,g4,e1];refine qfr q t ht (by simp) (by simp) (by simp) (by simp) (fun no s h2 => ?_) (fun ok s u1 u3 uS => ?_)
  ·have hR:R=false:=by rw [hR,no]; simp
   simp [h2,hR]
  ·simp [-getElem?_pos,u1,u3,uS];refine qf8 q t ht (by omega) (by simp [u1]) (by simp [u3]) (by simp) (by simp [uS]) (fun no s h2 => ?_) (fun ok2 s => ?_)
   ·have hR:R=false:=by rw [hR,ok]; generalize t.lb.all zb7=a at *; generalize t.rw.all (zfh t.ns.length)=b at *; cases a <;> cases b <;> first | rfl | cases no
    simp [h2,hR]
   ·have hR:R=true:=by rw [hR,ok]; generalize t.lb.all zb7=a at *; generalize t.rw.all (zfh t.ns.length)=b at *; cases a <;> cases b <;> first | rfl | cases ok2
    simp [hR]
 ·have e1:((t.lb.length:Int)=t.rw.length)=False:=eq_false e2;have hR:R=false:=by rw [hR,decide_eq_false e2]; simp
  subst hR;simp [-getElem?_pos,zj0,zj1,-za3,g1,g2,g3,g4,e1]
theorem ymp (t:List Nd) (hl:t.length<=1048576):RUN T zm2 [.agg [.sl 5 (t.map nd)]]=some ([.agg [.own 5 (t.map nd)]],[]):=by
 have e:=y94 t hl;refine zae rfl rfl ?_;simp [-getElem?_pos,z1x,z1y,e]
theorem ymq (t:List Nd) (hl:t.length<=1048576):RUN T zm3 [.agg [.sl 5 (t.map nd)]]=some ([.agg [.own 5 (t.map nd)]],[]):=by
 have h0:zaj 40 0=true:=by decide
 have h1:zaj 40 t.length=true:=by simp [zaj]; omega
 have h2:=qew t;refine zae rfl rfl ?_;simp [-getElem?_pos,z13,z1y,h0,h1,h2]
theorem y96 (q:Bool) (M:List (List Nd)) (hl:M.length<=1048576) (ht : ∀ t∈M,t.length<=1048576):RUN T zp9 [.sl 1 (trs q M)]=some ([.own 1 (trs true M)],[]):=by
 have hr0:zaj 24 0=true:=by decide
 have hr1:zaj 24 1=true:=by decide
 refine zae rfl rfl ?_;simp [-getElem?_pos,zzy,zzr,hr0];refine zan (fun n st => ∃ (i o e:Nat),i+n=M.length/\st.V 3 = .ref o none e 0 i/\st.V 7 = .sl 1 (trs q M)/\st.V 8=iv M.length/\st.V 9=iv i/\o<st.nx/\st.S o=some (.row 1 (trs true (M.take i)))) ?_ M.length _ ⟨0,0,0,by omega,by simp [trs]⟩;rintro n st ⟨i,o,ep,hi,v3,v7,v8,v9,hox,hSo⟩;obtain ⟨x1,x2,x3,x4⟩:=fr hox;have na : ∀ a b:Nat,st.nx+a+b=st.nx+(a+b):=fun a b=>Nat.add_assoc _ _ _
 by_cases h:i<M.length
 ·obtain ⟨t,hx⟩ : ∃ t,M[i]?=some t:=⟨_,bG h⟩;have hx':=zu3 (q:=q) hx;have hw:=wS h (by omega:M.length<=9223372036854775807);have e1:=ymp t (ht t (bF hx));have hr24:zaj 24 (i+1)=true:=by simp [zaj]; omega
  have hsn:trs true (M.take i)++[[.own 5 (t.map nd)]]=trs true (M.take (i+1)):=by rw [yup,List.take_succ,hx]; rfl
  have hml:(M.take i).length=i:=by simp; omega
  simp [-getElem?_pos,z95,v3,v7,v8,v9,hSo,h,hx',hw,e1,hr1,hr24,hsn,hml,x1,x2,x3,x4,na];exact zai (n-1) (by omega) ⟨i+1,st.nx+3,st.ep,by omega,by simp; omega,by simp [v7,v8]⟩
 ·have e:i=M.length:=by omega
  subst e;rw [List.take_length] at hSo;simp [-getElem?_pos,z95,v3,v8,v9,hSo,h]
theorem y97 (q:Bool) (M:List (List Nd)) (hl:M.length<=1048576) (ht : ∀ t∈M,t.length<=1048576):RUN T zqb [.sl 1 (trs q M)]=some ([.own 1 (trs true M)],[]):=by
 have hr0:zaj 24 0=true:=by decide
 have hr1:zaj 24 1=true:=by decide
 refine zae rfl rfl ?_;simp [-getElem?_pos,zz2,zzr,hr0];refine zan (fun n st => ∃ (i o e:Nat),i+n=M.length/\st.V 0 = .sl 1 (trs q M)/\st.V 3 = .ref o none e 0 i/\st.V 4=iv i/\o<st.nx/\st.S o=some (.row 1 (trs true (M.take i)))) ?_ M.length _ ⟨0,0,0,by omega,by simp [trs]⟩;rintro n st ⟨i,o,ep,hi,v0,v3,v4,hox,hSo⟩;obtain ⟨x1,x2,x3,x4⟩:=fr hox;have na : ∀ a b:Nat,st.nx+a+b=st.nx+(a+b):=fun a b=>Nat.add_assoc _ _ _
 by_cases h:i<M.length
 ·obtain ⟨t,hx⟩ : ∃ t,M[i]?=some t:=⟨_,bG h⟩;have hx':=zu3 (q:=q) hx;have hw:=wS h (by omega:M.length<=9223372036854775807);have e1:=ymq t (ht t (bF hx));have hr24:zaj 24 (i+1)=true:=by simp [zaj]; omega
  have hsn:trs true (M.take i)++[[.own 5 (t.map nd)]]=trs true (M.take (i+1)):=by rw [yup,List.take_succ,hx]; rfl
  have hml:(M.take i).length=i:=by simp; omega
  simp [-getElem?_pos,z96,v0,v3,v4,hSo,h,hx',hw,e1,hr1,hr24,hsn,hml,x1,x2,x3,x4,na];exact zai (n-1) (by omega) ⟨i+1,st.nx+2,st.ep,by omega,by simp [v0],by simp; omega,by simp⟩
 ·have e:i=M.length:=by omega
  subst e;rw [List.take_length] at hSo;simp [-getElem?_pos,z96,v0,v3,v4,hSo,h]
open Classical in
noncomputable def zx5 (k:Int):ByteArray:=if h : ∃ s:ByteArray,RUN T zjv [iv k]=some ([.v (.string s)],[]) then Classical.choose h else ⟨#[]⟩
theorem y98 (k:Int) (hk:k<=4611686018427387904):RUN T zjv [iv k]=some ([.v (.string (zx5 k))],[]):=by
 obtain ⟨r,h1,s,rfl⟩:=y8k k hk;have h : ∃ s:ByteArray,RUN T zjv [iv k]=some ([.v (.string s)],[]):=⟨s,h1⟩;unfold zx5;rw [dif_pos h];exact Classical.choose_spec h
noncomputable def zfw (k:Int) (n:Nat):List ByteArray:=(List.range n).map fun (i:Nat)=>zx5 (k+i)
theorem zo6 (k:Int) (n:Nat):(zfw k n).length=n:=by simp [zfw]
theorem qeo (k:Int) (n:Nat):zfw k (n+1)=zfw k n++[zx5 (k+n)]:=by simp [zfw,List.range_succ]
theorem y99 (l:List ByteArray) (k:Int) (h0:0<=k) (hk:k+l.length<=4611686018427387904):RUN T zqz [.own 1 (za2 l),iv k]=some ([iv (k+l.length)],[.own 1 (za2 (zfw k l.length))]):=by
 refine zae rfl rfl ?_;simp [-getElem?_pos,z1d,zs6];refine zan (fun n st => ∃ i:Nat,i+n=l.length/\st.V 0 = .ref 0 none 0 0 l.length/\st.V 1=iv (k+i)/\st.V 5=iv i/\st.S 0=some (.row 1 (za2 (zfw k i++l.drop i)))) ?_ l.length _ ⟨0,by omega,by simp [zfw]⟩;rintro n st ⟨i,hi,v0,v1,v5,hS⟩;have hll:(zfw k i++l.drop i).length=l.length:=by simp [zo6]; omega
 by_cases h:i<l.length
 ·have h1:=y98 (k+i) (by omega);obtain ⟨x,hx⟩ : ∃ x,l[i]?=some x:=⟨_,bG h⟩;have hx2:(zfw k i++l.drop i)[i]?=some x:=by
   rw [List.getElem?_append_right (by rw [zo6]; omega),zo6];simpa using hx
  have hx':=zmf hx2;have hset:(za2 (zfw k i++l.drop i)).set i [.v (.string (zx5 (k+i)))]=za2 (zfw k (i+1)++l.drop (i+1)):=by
   rw [qe7,List.set_append_right _ _ (by rw [zo6]; omega),zo6,Nat.sub_self,zc3 hx,qeo];simp
  have hw:=wS h (by omega:l.length<=9223372036854775807);have hw2:=w64 (x:=k+i+1) (by omega) (by omega);generalize zfw k i++l.drop i=A at *;generalize hA2:zfw k (i+1)++l.drop (i+1)=A' at *;have hsl:(za2 A).length=l.length:=by simpa [za2] using hll
  simp [-getElem?_pos,z99,v0,v1,v5,hS,hll,hsl,h,h1,hx',hset,hw,hw2];exact zai (n-1) (by omega) ⟨i+1,by omega,by simp [v0],by simp; omega,by simp [hA2]⟩
 ·have e:i=l.length:=by omega
  subst e;rw [List.drop_length,List.append_nil] at hS;have hll:=zo6 k l.length;generalize zfw k l.length=A at *;simp [-getElem?_pos,z99,v0,v1,v5,hS,hll,h]
theorem qaa (L:List (List Nd)) (k:Int) (h0:0<=k) (hk:k+5*zbw L<=9223372036854775806) (hL:L.length<=9223372036854775807):RUN T zq3 [.sl 1 (trs true ((List.range L.length).map (zha k L))),iv k]=some ([iv (k+5*zbw L)],[]):=by
 obtain ⟨M,hM⟩ : ∃ M,M=(List.range L.length).map (zha k L):=⟨_,rfl⟩;have hMl:M.length=L.length:=by rw [hM]; simp
 rw [<- hM];refine zae rfl rfl ?_;simp [-getElem?_pos,z1n,zs6];refine zan (fun n st => ∃ i:Nat,i+n=L.length/\st.V 0 = .sl 1 (trs true M)/\st.V 1=iv (k+5*zbw (L.take i))/\st.V 5=iv i) ?_ L.length _ ⟨0,by simp [zbw]⟩;rintro n st ⟨i,hi,v0,v1,v5⟩
 by_cases h:i<L.length
 ·obtain ⟨l,hx⟩ : ∃ l,L[i]?=some l:=⟨_,bG h⟩;have hw:=wS h hL;have hle:=yr2 L (i+1);have htk:=yt9 hx;have hm:M[i]?=some (zfd (k+5*zbw (L.take i)) l.length):=by
   have hli:L[i]=l:=by rw [bG h] at hx; exact Option.some.inj hx
   rw [hM]; simp [h,zha,hli]
  have hm':=zu3 (q:=true) hm;have hh:=y9z (k+5*zbw (L.take i)) l.length (by omega) (by omega);have hn : ¬ k+5*(zbw (L.take i):Int)+5*(l.length:Int)<0:=by omega
  simp only [zjk,if_true] at hm';generalize zfd (k+5*zbw (L.take i)) l.length=nn at *;simp [-getElem?_pos,yaa,v0,v1,v5,hMl,h,hm',hh,hw,hn];exact zai (n-1) (by omega) ⟨i+1,by omega,by simp [v0],by simp [htk]; omega,by simp⟩
 ·have e:i=L.length:=by omega
  subst e;rw [List.take_length] at v1;simp [-getElem?_pos,yaa,v0,v1,v5,hMl,h]
theorem qab (t:Ta) (k:Int) (h0:0<=k) (hk:k<=1048576) (ht:TaL 1048576 t) (hr:lens t.rw<=1048576) : ∃ t':Ta,t'.ns.length=t.ns.length/\t'.rw.length=t.rw.length/\t'.lb.length=t.lb.length/\RUN T zp0 [taO t,iv k]=some ([iv (k+t.ns.length+lens t.rw+t.lb.length)],[.own 1 (za2 t'.ns),.own 1 (rws true t'.rw),.own 1 (zab t'.lb)]):=by
 have hm1:=ht.ns;have hm2:=ht.rw;have hm3:=ht.lb;have h1:=y99 t.ns k h0 (by omega);have h2:=y8e t.rw (k+t.ns.length) (by omega) (by omega) (by omega);have h3:=z7p t.lb (k+t.ns.length+lens t.rw) (by omega) (by omega);have hsl:=zo6 k t.ns.length;generalize hM:(List.range t.rw.length).map (zxy (k+t.ns.length) t.rw)=M at *;have hMl:M.length=t.rw.length:=by rw [<- hM]; simp
 generalize hu:upto (k+t.ns.length+lens t.rw) t.lb.length=u at *;have hul:u.length=t.lb.length:=by rw [<- hu]; simp [upto]
 generalize zfw k t.ns.length=A at *;refine ⟨⟨A,t.nm,M,u⟩,hsl,hMl,hul,zae rfl rfl ?_⟩;simp [-getElem?_pos,zzc,zs6,h1,h2,h3,taO,hsl,hul,hMl,qcb]
def zgy (c:Cfg) (x:Nd):Nd:=if x.f = -1 then ⟨x.f,x.c,x.l,x.r,(shr x.v c).1⟩ else x
def zi7 (c:Cfg) (x:Nd):Bool := !decide (x.f = -1) || (shr x.v c).2
def zf4 (c:Cfg) (t:List Nd):List Nd×Bool:=if t.all (zi7 c)=true then (t.map (zgy c),true) else ([],false)
theorem ytc : ∀ (t:List Nd) (i:Int) (j:Int),j∈lvs t i↔∃ (k:Nat) (x:Nd),j=i+k/\t[k]?=some x/\x.f = -1
 | [],i,j=>by simp [lvs]
 | x::xs,i,j=>by
  have ih:=ytc xs (i+1) j;have key:(∃ (k:Nat) (y:Nd),j=i+k/\(x::xs)[k]?=some y/\y.f = -1)↔(j=i/\x.f = -1)\/∃ (k:Nat) (y:Nd),j=i+1+k/\xs[k]?=some y/\y.f = -1:=by
   constructor
   ·rintro ⟨k,y,h1,h2,h3⟩;cases k with
    | zero=>simp at h2; subst h2; exact .inl ⟨by omega,h3⟩
    | succ k=>exact .inr ⟨k,y,by omega,by simpa using h2,h3⟩
   ·rintro (⟨h1,h2⟩ | ⟨k,y,h1,h2,h3⟩)
    ·exact ⟨0,x,by omega,rfl,h2⟩
    ·exact ⟨k+1,y,by omega,by simpa using h2,h3⟩
  rw [key,<- ih];simp only [lvs];split
  ·rename_i hf;rw [List.mem_cons];constructor
   ·rintro (h | h)
    ·exact .inl ⟨h,hf⟩
    ·exact .inr h
   ·rintro (h | h)
    ·exact .inl h.1
    ·exact .inr h
  ·rename_i hf;constructor
   ·exact .inr
   ·rintro (h | h)
    ·exact absurd h.2 hf
    ·exact h
def zul (c:Cfg) (t C:List Nd) (p:Nat->Prop):Prop:=C.length=t.length/\∀ (j:Nat) (x:Nd),t[j]?=some x->(p j->C[j]?=some (zgy c x))/\(¬ p j->C[j]?=some x)
theorem yra {c:Cfg} {t C:List Nd} {p:Nat->Prop} (h:zul c t C p) (hp : ∀ (j:Nat) (x:Nd),t[j]?=some x->x.f = -1->p j):C=t.map (zgy c):=by
 refine List.ext_getElem? fun j => ?_;rcases Nat.lt_or_ge j t.length with hj | hj
 ·obtain ⟨x,hx⟩ : ∃ x,t[j]?=some x:=⟨_,bG hj⟩;obtain ⟨h1,h2⟩:=h.2 j x hx;rw [List.getElem?_map,hx,Option.map_some];rcases Classical.em (p j) with hpj | hpj
  ·exact h1 hpj
  ·rw [h2 hpj]
   by_cases hf:x.f = -1
   ·exact absurd (hp j x hx hf) hpj
   ·unfold zgy; rw [if_neg hf]
 ·rw [List.getElem?_eq_none (by rw [h.1]; omega),List.getElem?_eq_none (by simpa using hj)]
theorem yoy {c:Cfg} {t C:List Nd} {p:Nat->Prop} {i:Nat} {x:Nd} (h:zul c t C p) (hx:t[i]?=some x) (hf:x.f = -1):zul c t (C.set i ⟨x.f,x.c,x.l,x.r,(shr x.v c).1⟩) (fun j=>p j\/j=i):=by
 refine ⟨by rw [List.length_set,h.1],fun j y hy => ?_⟩;obtain ⟨h1,h2⟩:=h.2 j y hy;have hi:=(bD hx).1
 by_cases e:j=i
 ·subst e;rw [hx] at hy; cases hy;refine ⟨fun _ => ?_,fun hn=>absurd (.inr rfl) hn⟩;rw [List.getElem?_set_self (by rw [h.1]; exact hi)];unfold zgy; rw [if_pos hf]
 ·rw [List.getElem?_set_ne (fun h=>e h.symm)];exact ⟨fun hp=>h1 (hp.resolve_right e),fun hn=>h2 fun hp=>hn (.inl hp)⟩
theorem yr8 {c:Cfg} {t C:List Nd} {p:Nat->Prop} {i:Nat} {x:Nd} (h:zul c t C p) (hx:t[i]?=some x) : ∃ v,C[i]?=some ⟨x.f,x.c,x.l,x.r,v⟩:=by
 obtain ⟨h1,h2⟩:=h.2 i x hx;rcases Classical.em (p i) with hp | hp
 ·rw [h1 hp];unfold zgy;split
  ·exact ⟨_,rfl⟩
  ·exact ⟨x.v,rfl⟩
 ·exact ⟨x.v,h2 hp⟩
theorem yut {c:Cfg} {t:List Nd} {i:Nat} {x:Nd} (hx:t[i]?=some x) (hf:x.f = -1) (hs:(shr x.v c).2=false):t.all (zi7 c)=false:=by
 cases e:t.all (zi7 c) with
 | false=>rfl
 | true =>
  have:=List.all_eq_true.mp e x (bF hx);unfold zi7 at this;rw [hs,decide_eq_true hf] at this;cases this
theorem yom {c:Cfg} {t:List Nd} (h : ∀ (j:Nat) (x:Nd),t[j]?=some x->x.f = -1->(shr x.v c).2=true):t.all (zi7 c)=true:=by
 rw [List.all_eq_true];intro x hx;obtain ⟨j,hj⟩:=bH hx;unfold zi7
 by_cases hf:x.f = -1
 ·rw [h j x hj hf]; simp
 ·rw [decide_eq_false hf]; rfl
theorem qac (t:List Nd) (c:Cfg) (hl:t.length<=1048576) (hc:c.sg.length<=1048576):RUN T zqq [.agg [.sl 5 (t.map nd)],zcj c]=some ([.agg [.own 5 ((zf4 c t).1.map nd)],bv (zf4 c t).2],[]):=by
 have e1:=ymq t hl;obtain ⟨R,hR⟩ : ∃ R,R=zf4 c t:=⟨_,rfl⟩;have hR':R=if t.all (zi7 c)=true then (t.map (zgy c),true) else ([],false):=hR
 rw [<- hR];clear hR;simp only [zcj];refine zae rfl rfl ?_;simp [-getElem?_pos,z0p,z0m,e1];refine zan (fun n st => ∃ (i:Nat) (C:List Nd),i+n=t.length/\zul c t C (fun j=>j<i)/\(∀ (j:Nat) (x:Nd),j<i->t[j]?=some x->(x.f = -1->(shr x.v c).2=true))/\st.V 2 = .ptr 0 none 0 0 0/\st.V 3 = .ptr 1 none 0 0 0/\st.V 4 = .ptr 2 none 0 0 0/\st.V 6 = .ptr 4 none 0 0 0/\st.V 7=iv i/\4<st.nx/\st.S 0=some (.box [.sl 5 (t.map nd)])/\st.S 1=some (.box [iv c.ro,iv c.de,iv c.bi,iv c.la,iv c.rw,iv c.nu,iv c.dn,.sl 1 (zab c.sg)])/\st.S 2=some (.box [.e0])/\st.S 4=some (.box [.ref 3 none 0 0 t.length])/\st.S 3=some (.row 5 (C.map nd))) ?_ t.length _ ⟨0,t,by omega,⟨rfl,fun j x hx=>⟨fun h=>by omega,fun _=>hx⟩⟩,fun j x h=>by omega,by simp⟩;rintro n st ⟨i,C,hi,hC,hok,v2,v3,v4,v6,v7,h4x,hS0,hS1,hS2,hS4,hS3⟩;have Z0:=bI hS0 <| bI hS1 <| bI hS2 hS4
 obtain ⟨z1,z2,z3,z4⟩:=fr h4x
 by_cases h:i<t.length
 ·obtain ⟨x,hx⟩ : ∃ x,t[i]?=some x:=⟨_,bG h⟩;have hx':=z9l hx;have hw:=wS h (by omega:t.length<=9223372036854775807);have f1:=y7o x.v c (by omega);obtain ⟨v,hv⟩:=yr8 hC hx;have hv':=z9l hv;have hCl:i<C.length:=by rw [hC.1]; exact h
  simp only [zcj] at f1;rcases Classical.propComplete (x.f = -1) with hf | hf
  ·have hf':x.f = -1:=by rw [hf]; trivial
   have hset:=ypp C i x.f x.c x.l x.r (shr x.v c).1;have hI:=yoy hC hx hf';cases hb:(shr x.v c).2 with
   | false =>
    rw [yut hx hf' hb,if_neg (by simp)] at hR';subst hR';rw [hb] at f1;simp [-getElem?_pos,zvy,v2,v3,v4,v6,v7,Z0,hS3,h,hx',hf,f1]
   | true =>
    have hok2:=zku (P:=fun _ x=>x.f = -1->(shr x.v c).2=true) hok hx (fun _=>hb);rw [hb] at f1;simp [-getElem?_pos,zvy,v2,v3,v4,v6,v7,Z0,hS3,h,hx',hw,hf,f1,hv',hCl,hC.1,hset];exact zai (n-1) (by omega) ⟨i+1,_,by omega,⟨hI.1,fun j y hy=>⟨fun hj=>(hI.2 j y hy).1 (by omega),fun hj=>(hI.2 j y hy).2 (by omega)⟩⟩,hok2,by simp [v2,v3,v4,v6,h4x,Z0]⟩
  ·have hf' : ¬ x.f = -1:=by rw [hf]; exact id
   have hok2:=zku (P:=fun _ x=>x.f = -1->(shr x.v c).2=true) hok hx (fun h=>absurd h hf');simp [-getElem?_pos,zvy,v2,v3,v4,v6,v7,Z0,hS3,h,hx',hw,hf];refine zai (n-1) (by omega) ⟨i+1,C,by omega,⟨hC.1,fun j y hy=>⟨fun hj => ?_,fun hj=>(hC.2 j y hy).2 (by omega)⟩⟩,hok2,by simp [v2,v3,v4,v6,h4x,Z0,hS3]⟩
   by_cases e:j=i
   ·subst e;rw [hx] at hy; cases hy;rw [(hC.2 j x hx).2 (by omega)];unfold zgy; rw [if_neg hf']
   ·exact (hC.2 j y hy).1 (by omega)
 ·have hall:=yra hC (fun j x hx _=>by have:=(bD hx).1; omega);rw [yom (fun j x hx hf=>hok j x (by have:=(bD hx).1; omega) hx hf),if_pos rfl,<- hall] at hR';have hCl:=hC.1;subst hR';simp [-getElem?_pos,zvy,v2,v4,v6,v7,hS0,hS2,hS4,hS3,h,hCl]
theorem qad (t:List Nd) (c:Cfg) (hl:t.length<=1048576) (hc:c.sg.length<=1048576):RUN T zqm [.agg [.sl 5 (t.map nd)],zcj c]=some ([.agg [.own 5 ((zf4 c t).1.map nd)],bv (zf4 c t).2],[]):=by
 have e1:=ymp t hl;have e2:=y7e t hl;have hll:=ybz t 0;have hmem:=ytc t 0;generalize lvs t 0=L at *;obtain ⟨R,hR⟩ : ∃ R,R=zf4 c t:=⟨_,rfl⟩;have hR':R=if t.all (zi7 c)=true then (t.map (zgy c),true) else ([],false):=hR
 rw [<- hR];clear hR;simp only [zcj];refine zae rfl rfl ?_;simp [-getElem?_pos,z0l,z0m,e1,e2];refine zan (fun n st => ∃ (i:Nat) (C:List Nd),i+n=L.length/\zul c t C (fun j=>(j:Int)∈L.take i)/\(∀ (k:Nat) (y:Int),k<i->L[k]?=some y->∀ (j:Nat) (x:Nd),y=j->t[j]?=some x->(shr x.v c).2=true)/\st.V 2 = .ptr 0 none 0 0 0/\st.V 3 = .ptr 1 none 0 0 0/\st.V 4 = .ptr 2 none 0 0 0/\st.V 6 = .ptr 4 none 0 0 0/\st.V 14 = .ref 5 none 0 0 L.length/\st.V 15=iv L.length/\st.V 16=iv i/\5<st.nx/\st.S 0=some (.box [.sl 5 (t.map nd)])/\st.S 1=some (.box [iv c.ro,iv c.de,iv c.bi,iv c.la,iv c.rw,iv c.nu,iv c.dn,.sl 1 (zab c.sg)])/\st.S 2=some (.box [.e0])/\st.S 4=some (.box [.ref 3 none 0 0 t.length])/\st.S 5=some (.row 1 (zab L))/\st.S 3=some (.row 5 (C.map nd))) ?_ L.length _ ⟨0,t,by omega,⟨rfl,fun j x hx=>⟨fun h=>by simp at h,fun _=>hx⟩⟩,fun k y h=>by omega,by simp⟩;rintro n st ⟨i,C,hi,hC,hok,v2,v3,v4,v6,v14,v15,v16,h5x,hS0,hS1,hS2,hS4,hS5,hS3⟩;obtain ⟨z1,z2,z3,z4⟩:=fr h5x
 by_cases h:i<L.length
 ·obtain ⟨y,hy⟩ : ∃ y,L[i]?=some y:=⟨_,bG h⟩;obtain ⟨k,x,hyk,hx,hf'⟩:=(hmem y).mp (bF hy);have hyk:y=(k:Int):=by omega
  subst hyk;have hy':=zaz hy;have hkt:=(bD hx).1;have hx':=z9l hx;have hw:=wS h (by omega:L.length<=9223372036854775807);have f1:=y7p x.v c (by omega);obtain ⟨v,hv⟩:=yr8 hC hx;have hv':=z9l hv;have hCl:k<C.length:=by rw [hC.1]; exact hkt
  simp only [zcj] at f1;have hset:=ypp C k x.f x.c x.l x.r (shr x.v c).1;have hI:=yoy hC hx hf';have htk:L.take (i+1)=L.take i++[(k:Int)]:=by rw [List.take_succ,hy]; rfl
  cases hb:(shr x.v c).2 with
  | false =>
   rw [yut hx hf' hb,if_neg (by simp)] at hR';subst hR';rw [hb] at f1;simp [-getElem?_pos,z0k,v2,v3,v4,v6,v14,v15,v16,hS0,hS1,hS2,hS4,hS5,hS3,h,hy',hkt,hx',f1]
  | true =>
   rw [hb] at f1;have hok2 : ∀ (k':Nat) (y:Int),k'<i+1->L[k']?=some y->∀ (j:Nat) (x:Nd),y=j->t[j]?=some x->(shr x.v c).2=true:=by
    intro k' y hk' hy2 j x2 e1 e2;rcases Nat.lt_or_ge k' i with h3 | h3
    ·exact hok k' y h3 hy2 j x2 e1 e2
    ·have e3:k'=i:=by omega
     subst e3;rw [hy] at hy2; cases hy2;have e4:j=k:=by omega
     subst e4;rw [hx] at e2; cases e2;exact hb
   simp [-getElem?_pos,z0k,v2,v3,v4,v6,v14,v15,v16,hS0,hS1,hS2,hS4,hS5,hS3,h,hy',hkt,hx',hw,f1,hv',hCl,hC.1,hset];refine zai (n-1) (by omega) ⟨i+1,_,by omega,⟨hI.1,fun j y hy2=>⟨fun hj=>(hI.2 j y hy2).1 ?_,fun hj=>(hI.2 j y hy2).2 ?_⟩⟩,hok2,by simp [v2,v3,v4,v6,v14,v15,h5x,hS0,hS1,hS2,hS4,hS5]⟩
   ·rw [htk,List.mem_append,List.mem_singleton] at hj;exact hj.imp id (fun e=>by omega)
   ·intro hp;apply hj;rw [htk,List.mem_append,List.mem_singleton];exact hp.imp id (fun e=>by omega)
 ·have hiL:i=L.length:=by omega
  subst hiL;rw [List.take_length] at hC;have hin : ∀ (j:Nat) (x:Nd),t[j]?=some x->x.f = -1->(j:Int)∈L:=fun j x hx hf=>(hmem j).mpr ⟨j,x,by omega,hx,hf⟩;have hall:=yra hC hin;rw [yom (fun j x hx hf=>by
   obtain ⟨k,hk⟩:=bH (hin j x hx hf);exact hok k j (bD hk).1 hk j x rfl hx),if_pos rfl,<- hall] at hR'
  have hCl:=hC.1;subst hR';simp [-getElem?_pos,z0k,v2,v4,v6,v14,v15,v16,hS0,hS2,hS4,hS3,h,hCl]
theorem ytn (c:Cfg) (t:List Nd):(zf4 c t).1.length<=t.length:=by
 unfold zf4;split
 ·simp
 ·simp
def zc0 (t:Ta):Sta×Bool:=if zbi t=true then (⟨List.replicate t.lb.length (zca t.lb).1,[]⟩,true) else (⟨[],[]⟩,false)
theorem ypq (b:Int) (i:Nat):zab (List.replicate i b)++[[iv b]]=zab (List.replicate (i+1) b):=by
 rw [List.replicate_succ']; simp [zab]
theorem qae (q:Bool) (t:Ta) (ht:TaL 1048576 t) (hi : ∀ x∈t.lb,inI x):RUN T zq4 [taS q t]=some ([stO (zc0 t).1,bv (zc0 t).2],[]):=by
 have e1:=ybf q t ht;have e3:=y70 t.lb (Nat.le_trans ht.lb (by omega)) hi;have hlb:=ht.lb;unfold zc0;generalize zbi t=b1 at *;generalize zca t.lb=bs at *;obtain ⟨bs,bb⟩:=bs;simp only at e3 ⊢;have hr1:zaj 8 1=true:=by decide
 have zi:zab []=[]:=rfl;have zt:trs true []=[]:=rfl;refine zae rfl rfl ?_;cases b1 with
 | false=>simp [-getElem?_pos,zv0,zvn,e1,zi,zt]
 | true =>
  simp [-getElem?_pos,zv0,zvn,e1,e3];refine zan (fun n st => ∃ (i:Nat) (x:PV),i+n=t.lb.length/\st.V 2 = .ptr 1 none 0 0 0/\st.V 4=iv bs/\st.V 6 = .ptr 2 none 0 0 0/\st.V 20=iv t.lb.length/\st.V 21=iv i/\2<st.nx/\LC st.S st.nx 2 (List.replicate i bs) x/\st.S 1=some (.box [.e0,.e0])/\st.S 2=some (.box [x,.e0])) ?_ t.lb.length _ ⟨0,.e0,by omega,by simp,by simp,by simp,by simp,by simp,by simp,.inl ⟨rfl,rfl⟩,by simp⟩;rintro n st ⟨i,x,hin,v2,v4,v6,v20,v21,hnx,hx,hS1,hS2⟩;have z1:=fr hnx;have z2:=fr (by omega:1<st.nx);have nz0 : ¬ st.nx=0:=by omega
  by_cases h:i<t.lb.length
  ·have hw:=wS h (by omega:t.lb.length<=9223372036854775807);have hsn:=ypq bs i;rcases hx with ⟨rfl,hm⟩ | ⟨o,e,rfl,ho,hox,hSo⟩
   ·have hi0:i=0:=by cases i with | zero=>rfl | succ n=>simp [List.replicate_succ] at hm
    subst hi0;have hone:[[iv bs]]=zab (List.replicate 1 bs):=rfl;simp [-getElem?_pos,zvz,v2,v4,v6,v20,v21,hS1,hS2,z1,z2,h,hw,hr1];exact zai (n-1) (by omega) ⟨1,_,by omega,by simp [v2],by simp [v4],by simp [v6],by simp [v20],by simp,by simp; omega,.inr ⟨st.nx+1,st.ep,rfl,by omega,by simp,by
     have n2 : ¬ st.nx+1=2:=by omega
     simp [n2,zab]⟩,by simp [z1,z2,nz0,hS1]⟩
   ·have hr8:=zc4 (n:=i+1) (by omega);have y1:=fr hox;have y2:=fr ho;have y3:=fr (by omega:1<o);rw [List.length_replicate] at *;have hil:(zab (List.replicate i bs)).length=i:=by simp [zab]
    generalize zab (List.replicate i bs)=A at *;simp [-getElem?_pos,zvz,v2,v4,v6,v20,v21,hS1,hS2,hSo,z1,z2,y1,y2,y3,h,hw,hr8,hsn,hil];exact zai (n-1) (by omega) ⟨i+1,.ref (st.nx+1) none st.ep 0 (i+1),by omega,by simp [v2],by simp [v4],by simp [v6],by simp [v20],by simp,by simp; omega,.inr ⟨st.nx+1,st.ep,by simp,by omega,by simp,by
     have n2 : ¬ st.nx+1=2:=by omega
     simp [n2]⟩,by simp [z1,z2,nz0,y1,y2,y3,hS1]⟩
  ·have e:i=t.lb.length:=by omega
   subst e;rcases hx with ⟨rfl,hm⟩ | ⟨o,e,rfl,ho,hox,hSo⟩
   ·rw [hm];simp [-getElem?_pos,zvz,v2,v4,v6,v20,v21,hS1,hS2,h,zi,zt]
   ·have y2:=fr ho;have y3:=fr (by omega:1<o);rw [List.length_replicate] at *;simp [-getElem?_pos,zvz,v2,v4,v6,v20,v21,hS1,hS2,hSo,y2,y3,h,zt]
theorem qaf (q:Bool) (t:Ta) (ht:TaL 1048576 t) (hi : ∀ x∈t.lb,inI x):RUN T zqe [taS q t]=some ([stO (zc0 t).1,bv (zc0 t).2],[]):=by
 have e1:=ybg q t ⟨Nat.le_trans ht.ns (by omega),fun x hx=>Nat.le_trans (ht.ss x hx) (by omega),Nat.le_trans ht.nm (by omega),Nat.le_trans ht.rw (by omega),fun x hx=>Nat.le_trans (ht.rr x hx) (by omega),Nat.le_trans ht.lb (by omega)⟩;have e3:=y71 t.lb (Nat.le_trans ht.lb (by omega)) hi;have hlb:=ht.lb;unfold zc0;generalize zbi t=b1 at *;generalize zca t.lb=bs at *;obtain ⟨bs,bb⟩:=bs;simp only at e3 ⊢;have hr1:zaj 8 1=true:=by decide
 have zi:zab []=[]:=rfl;have zt:trs true []=[]:=rfl;refine zae rfl rfl ?_;cases b1 with
 | false=>simp [-getElem?_pos,zvm,zvn,e1,zi,zt]
 | true =>
  simp [-getElem?_pos,zvm,zvn,e1,e3];refine zan (fun n st => ∃ (i:Nat) (x:PV),i+n=t.lb.length/\st.V 1 = .ptr 0 none 0 0 0/\st.V 2 = .ptr 1 none 0 0 0/\st.V 5=iv bs/\st.V 4 = .ptr 2 none 0 0 0/\st.V 7=iv i/\2<st.nx/\LC st.S st.nx 2 (List.replicate i bs) x/\st.S 0=some (.box [.sl 1 (za2 t.ns),.v (.string t.nm),.sl 1 (rws q t.rw),.sl 1 (zab t.lb)])/\st.S 1=some (.box [.e0,.e0])/\st.S 2=some (.box [x,.e0])) ?_ t.lb.length _ ⟨0,.e0,by omega,by simp,by simp,by simp,by simp,by simp,by simp,.inl ⟨rfl,rfl⟩,by simp⟩;rintro n st ⟨i,x,hin,v1,v2,v5,v4,v7,hnx,hx,hS0,hS1,hS2⟩;have z1:=fr hnx;have z2:=fr (by omega:1<st.nx);have nz0 : ¬ st.nx=0:=by omega
  have z3:=fr (by omega:0<st.nx)
  by_cases h:i<t.lb.length
  ·have hw:=wS h (by omega:t.lb.length<=9223372036854775807);have hsn:=ypq bs i;rcases hx with ⟨rfl,hm⟩ | ⟨o,e,rfl,ho,hox,hSo⟩
   ·have hi0:i=0:=by cases i with | zero=>rfl | succ n=>simp [List.replicate_succ] at hm
    subst hi0;simp [-getElem?_pos,zvl,v1,v2,v4,v5,v7,hS0,hS1,hS2,z1,z2,z3,h,hw,hr1];exact zai (n-1) (by omega) ⟨1,_,by omega,by simp [v1],by simp [v2],by simp [v5],by simp [v4],by simp,by simp; omega,.inr ⟨st.nx+1,st.ep,rfl,by omega,by simp,by
     have n2 : ¬ st.nx+1=2:=by omega
     simp [n2,zab]⟩,by simp [z1,z2,z3,hS0,nz0,hS1]⟩
   ·have hr8:=zc4 (n:=i+1) (by omega);have y1:=fr hox;have y2:=fr ho;have y3:=fr (by omega:1<o);have y4:=fr (by omega:0<o);rw [List.length_replicate] at *;have hil:(zab (List.replicate i bs)).length=i:=by simp [zab]
    generalize zab (List.replicate i bs)=A at *;simp [-getElem?_pos,zvl,v1,v2,v4,v5,v7,hS0,hS1,hS2,hSo,z1,z2,z3,y1,y2,y3,y4,h,hw,hr8,hsn,hil];exact zai (n-1) (by omega) ⟨i+1,.ref (st.nx+1) none st.ep 0 (i+1),by omega,by simp [v1],by simp [v2],by simp [v5],by simp [v4],by simp,by simp; omega,.inr ⟨st.nx+1,st.ep,by simp,by omega,by simp,by
     have n2 : ¬ st.nx+1=2:=by omega
     simp [n2]⟩,by simp [z1,z2,z3,y1,y2,y3,y4,hS0,nz0,hS1]⟩
  ·have e:i=t.lb.length:=by omega
   subst e;rcases hx with ⟨rfl,hm⟩ | ⟨o,e,rfl,ho,hox,hSo⟩
   ·rw [hm];simp [-getElem?_pos,zvl,v1,v2,v4,v5,v7,hS0,hS1,hS2,h,zi,zt]
   ·have y2:=fr ho;have y3:=fr (by omega:1<o);rw [List.length_replicate] at *;simp [-getElem?_pos,zvl,v1,v2,v4,v5,v7,hS0,hS1,hS2,hSo,y2,y3,h,zt]
theorem z9z (l:List Int):(zd3 l).length=l.length:=by
 unfold zd3;rw [qd4]; simp
theorem yno (x:Int) (l:List Int) : ∀ k:Nat,(∀ j,pos x l k<=j->j<k->x<l.getD j 0)/\(pos x l k=0\/l.getD (pos x l k-1) 0<=x)
 | 0=>by
  refine ⟨fun j _ h=>by omega,.inl ?_⟩;simp only [pos]
 | k+1=>by
  obtain ⟨h1,h2⟩:=yno x l k;rw [ydp]
  by_cases hc:x<l.getD k 0
  ·rw [if_pos hc];refine ⟨fun j hj hk => ?_,h2⟩
   by_cases hjk:j=k
   ·subst hjk; exact hc
   ·exact h1 j hj (by omega)
  ·rw [if_neg hc];refine ⟨fun j hj hk=>by omega,.inr ?_⟩;simp only [Nat.add_sub_cancel];omega
def srt (l:List Int):Prop:=l.Pairwise fun a b=>a<=b
theorem zo5 {l:List Int} (h:srt l) {i j:Nat} {a b:Int} (hij:i<=j) (ha:l[i]?=some a) (hb:l[j]?=some b):a<=b:=by
 by_cases e:i=j
 ·subst e; rw [ha] at hb; cases hb; exact Int.le_refl _
 ·obtain ⟨hi,rfl⟩:=bD ha;obtain ⟨hj,rfl⟩:=bD hb;exact List.pairwise_iff_getElem.mp h i j hi hj (by omega)
theorem qfc {l:List Int} (h:srt l) (x:Int):srt (ins l x):=by
 obtain ⟨P,hP⟩:=zeh.ex x l l.length;rw [z9d hP];have hp:pos x l l.length=P:=by unfold zeh at hP; exact hP
 obtain ⟨h1,h2⟩:=yno x l l.length;rw [hp] at h1 h2;have hle:=yev x l l.length;rw [hp] at hle;unfold srt;rw [List.pairwise_append];refine ⟨h.sublist (List.take_sublist _ _),?_,?_⟩
 ·rw [List.pairwise_cons];refine ⟨fun b hb => ?_,h.sublist (List.drop_sublist _ _)⟩;obtain ⟨j,hj⟩:=bH hb;rw [List.getElem?_drop] at hj;have hlt:=(bD hj).1;have:=h1 (P+j) (by omega) hlt;rw [List.getD,hj,Option.getD_some] at this;omega
 ·intro a ha b hb;obtain ⟨i,hi⟩:=bH ha;have hi2:i<P:=by
   have:=(bD hi).1;simp at this; omega
  rw [List.getElem?_take_of_lt hi2] at hi;have hax:a<=x:=by
   rcases h2 with h2 | h2
   ·omega
   ·obtain ⟨y,hy⟩ : ∃ y,l[P-1]?=some y:=⟨_,bG (by omega)⟩;rw [List.getD,hy,Option.getD_some] at h2;have:=zo5 h (by omega:i<=P-1) hi hy;omega
  rcases List.mem_cons.mp hb with rfl | hb
  ·exact hax
  ·obtain ⟨j,hj⟩:=bH hb;rw [List.getElem?_drop] at hj;exact zo5 h (by omega:i<=P+j) hi hj
theorem qgm (l:List Int) (x:Int):(ins l x).Perm (x::l):=by
 obtain ⟨P,hP⟩:=zeh.ex x l l.length;rw [z9d hP];have:=List.perm_middle (a:=x) (l₁:=l.take P) (l₂:=l.drop P)
 rwa [List.take_append_drop] at this
theorem zyt : ∀ (l a:List Int),srt a->srt (l.foldl ins a)/\(l.foldl ins a).Perm (a++l)
 | [],a,h=>⟨h,by simp⟩
 | x::l,a,h=>by
  obtain ⟨h1,h2⟩:=zyt l (ins a x) (qfc h x);refine ⟨h1,h2.trans ?_⟩;refine ((qgm a x).append_right l).trans ?_;exact List.perm_middle.symm
theorem qgo (l:List Int):zh9 l=zd3 l:=by
 obtain ⟨h1,h2⟩:=zyt l [] List.Pairwise.nil;have h3:srt (zh9 l):=by
  have:=List.pairwise_mergeSort (le:=fun x y:Int=>decide (x<=y)) (fun a b c h1 h2=>by simp at *; omega) (fun a b=>by simp; omega) l;unfold srt zh9;exact this.imp fun h=>by simpa using h
 refine List.Perm.eq_of_pairwise (le:=fun a b=>a<=b) (fun a b _ _ h1 h2=>by omega) h3 h1 ?_;exact (List.mergeSort_perm _ _).trans (by have h4:=h2.symm; rw [List.nil_append] at h4; exact h4)
theorem qag (l:List Int) (hl:l.length<=1048576):RUN T zse [.own 1 (zab l)]=some ([],[.own 1 (zab (zd3 l))]):=by
 rw [<- qgo];exact qgk yj3 (by omega)
theorem qah (l:List Int) (hl:l.length<=1048576):RUN T zr4 [.own 1 (zab l)]=some ([.own 1 (zab (Lib.compact l))],[.undef]):=qg2 yjk (by omega)
theorem qai (l:List Int) (hl:l.length<=1048576):RUN T zr3 [.sl 1 (zab l)]=some ([.own 1 (zab (zd3 l))],[]):=by
 have e1:=y93 l hl;have e2:=qag l hl;have hl2:=z9z l;generalize zd3 l=a at *;refine zae rfl rfl ?_;simp [-getElem?_pos,z4a,zzr,e1,e2,hl2]
theorem ys7 {a:List Int} {i:Nat} {x:Int} (h:a[i]?=some x):Lib.compactUpTo a.toArray (i+1)=if (i=0\/¬ a[i-1]?=some x) then Lib.compactUpTo a.toArray i++[x] else Lib.compactUpTo a.toArray i:=by
 have hx:a.toArray[i]! = x:=by simp [h]
 have hlt:=(bD h).1;unfold Lib.compactUpTo;rw [List.range_succ,List.filter_append,List.map_append];have hk:Lib.keeps a.toArray i=decide (i=0\/¬ a[i-1]?=some x):=by
  unfold Lib.keeps
  by_cases h0:i=0
  ·simp [h0]
  ·obtain ⟨y,hy⟩ : ∃ y,a[i-1]?=some y:=⟨_,bG (by omega)⟩;have hy':a.toArray[i-1]! = y:=by simp [hy]
   rw [hx,hy',hy];simp only [h0,false_or,bC]
   congr 1
   simp only [ne_eq,eq_comm]
 simp only [List.filter_cons,List.filter_nil,hk]
 by_cases hc:i=0\/¬ a[i-1]?=some x
 ·simp only [hc,decide_true,if_true,List.map_cons,List.map_nil,hx]
 ·simp only [hc,decide_false,if_false,Bool.false_eq_true,List.map_nil,List.append_nil]
theorem qaj (l:List Int) (hl:l.length<=1048576):RUN T zr0 [.sl 1 (zab l)]=some ([.own 1 (zab (Lib.compact (zd3 l)))],[]):=by
 have e1:=yl8 l hl;have hsl:=z9z l;generalize zd3 l=a at *;have hr0:zaj 8 0=true:=by decide
 have hr1:zaj 8 1=true:=by decide
 refine zae rfl rfl ?_;simp [-getElem?_pos,z32,zzr,hr0,e1];refine zan (fun n st => ∃ (i o e q e2:Nat) (m:List Int),i+n=l.length/\m=Lib.compactUpTo a.toArray i/\m.length<=i/\st.V 3 = .ref o none e 0 m.length/\st.V 4 = .ref q none e2 0 a.length/\st.V 5=iv i/\¬ o=q/\o<st.nx/\q<st.nx/\st.S o=some (.row 1 (zab m))/\st.S q=some (.row 1 (zab a))) ?_ l.length _ ⟨0,0,0,1,0,[],by omega,rfl,by simp,by simp,by simp,by simp,by omega,by simp [zab]⟩;rintro n st ⟨i,o,e,q,e2,m,hi,hmm,hm,v3,v4,v5,hoq,hox,hqx,hSo,hSq⟩;obtain ⟨x1,x2,x3,x4⟩:=fr hox;obtain ⟨z1,z2,z3,z4⟩:=fr hqx;have hqo : ¬ q=o:=fun e=>hoq e.symm
 by_cases h:i<a.length
 ·obtain ⟨x,hx⟩ : ∃ x,a[i]?=some x:=⟨_,bG h⟩;have hx':=zaz hx;have hw:=wS h (by omega:a.length<=9223372036854775807);have hr8:=zc4 (n:=m.length+1) (by omega);have hsn:=zc8 m x;have hcs:=ys7 hx;rw [<- hmm] at hcs
  by_cases h0:i=0
  ·subst h0;rw [if_pos (.inl rfl)] at hcs;simp [-getElem?_pos,zwk,v3,v4,v5,hSo,hSq,h,hx',hw,hr1,hr8,hsn,hoq,hqo,x1,x2,x3,x4,z1,z2,z3,z4];exact zai (n-1) (by omega) ⟨1,st.nx+1,st.ep,q,e2,m++[x],by omega,hcs.symm,by rw [List.length_append]; simp only [List.length_cons,List.length_nil]; omega,by simp,by simp [v4],by simp,by omega,by simp,by simp; omega,by simp [hoq,hqo,x1,x2,x3,x4,z1,z2,z3,z4,hSq]⟩
  ·obtain ⟨y,hy⟩ : ∃ x,a[i-1]?=some x:=⟨_,bG (by omega)⟩;have hy':=zaz hy;have w1:IntKind.i64.wrap ((i:Int)-1)=((i-1:Nat):Int):=by rw [w64 (by omega) (by omega)]; omega
   have hil:i-1<a.length:=by omega
   rw [hy] at hcs
   by_cases hxy:x=y
   ·subst hxy;rw [if_neg (by simp [h0])] at hcs;simp [-getElem?_pos,zwk,v3,v4,v5,hSo,hSq,h,h0,hil,hx',hy',hw,w1,hoq,hqo,x1,x2,x3,x4,z1,z2,z3,z4];exact zai (n-1) (by omega) ⟨i+1,o,e,q,e2,m,by omega,hcs.symm,by omega,by simp [v3],by simp [v4],by simp,hoq,by simp [hox,hqx,hSo,hSq]⟩
   ·rw [if_pos (.inr (fun e=>hxy (by cases e; rfl)))] at hcs;simp [-getElem?_pos,zwk,v3,v4,v5,hSo,hSq,h,h0,hil,hx',hy',hw,w1,hxy,hr1,hr8,hsn,hoq,hqo,x1,x2,x3,x4,z1,z2,z3,z4];exact zai (n-1) (by omega) ⟨i+1,st.nx+1,st.ep,q,e2,m++[x],by omega,hcs.symm,by simp; omega,by simp,by simp [v4],by simp,by omega,by simp,by simp; omega,by simp [hoq,hqo,x1,x2,x3,x4,z1,z2,z3,z4,hSq]⟩
 ·have hia:i=a.length:=by omega
  have hR:Lib.compact a=m:=by rw [hmm,hia]; rfl
  rw [hR];simp [-getElem?_pos,zwk,v3,v4,v5,hSo,hSq,h]
def zdr (c:List Int) (v:Int):Nat:=(c.filter fun x=>decide (x<v)).length
def zbh (t:Ta) (f:Nat):List Int:=t.rw.map fun r=>r.getD f 0
def zhr (a:List Int) (b k:Nat):Nat:=a.length*k / b
def zi9 (a:List Int) (b k:Nat):List Int:=if 1<=zhr a b k/\a.getD (zhr a b k-1) 0≠a.getD (a.length-1) 0 then [a.getD (zhr a b k-1) 0] else []
def zed (a:List Int) (b:Nat):Nat->List Int
 | 0=>[]
 | k+1=>zed a b k++zi9 a b (k+1)
def zbu (l:List Int) (b:Int):List Int:=if (zah b 2 8 && zah l.length 1 40)=true then Lib.compact (zed (zd3 l) b.toNat (b.toNat-1)) else []
def zh4 (t:Ta) (b:Int) (f:Nat):List Int:=(zbh t f).map fun v=>(zdr (zbu (zbh t f) b) v:Int)
def za7 (t:Ta) (b:Int):List (List Int):=if (zbi t && zah b 2 8)=true then (List.range t.ns.length).map fun f=>zbu (zbh t f) b else []
def za6 (t:Ta) (b:Int):List (List Int):=if (zbi t && zah b 2 8)=true then (List.range t.ns.length).map (zh4 t b) else []
theorem ynl (l:List Int):(Lib.compact l).length<=l.length:=by
 unfold Lib.compact Lib.compactUpTo;rw [List.length_map];exact Nat.le_trans (List.length_filter_le _ _) (by simp)
theorem ys8 {a:List Int} (ha:srt a) : ∀ i:Nat,i<=a.length->(Lib.compactUpTo a.toArray i).Pairwise (fun x y=>x<y)/\∀ y,y∈Lib.compactUpTo a.toArray i↔∃ j,j<i/\a[j]?=some y
 | 0,_=>by
  refine ⟨List.Pairwise.nil,fun y => ?_⟩;constructor
  ·intro h; exact absurd h (by simp [Lib.compactUpTo])
  ·rintro ⟨j,h,_⟩; omega
 | i+1,hi=>by
  obtain ⟨h1,h2⟩:=ys8 ha i (by omega);obtain ⟨x,hx⟩ : ∃ x,a[i]?=some x:=⟨_,bG (by omega)⟩;rw [ys7 hx]
  by_cases hc:i=0\/¬ a[i-1]?=some x
  ·rw [if_pos hc];refine ⟨?_,fun y => ?_⟩
   ·rw [List.pairwise_append];refine ⟨h1,by simp,fun y hy z hz => ?_⟩;simp only [List.mem_singleton] at hz;subst hz;obtain ⟨j,hj,hjy⟩:=(h2 y).mp hy;rcases hc with hc | hc
    ·omega
    ·obtain ⟨w,hw⟩ : ∃ w,a[i-1]?=some w:=⟨_,bG (by omega)⟩;have e1:=zo5 ha (by omega:j<=i-1) hjy hw;have e2:=zo5 ha (by omega:i-1<=i) hw hx;have e3:w≠z:=fun e=>hc (by rw [hw,e]);omega
   ·rw [List.mem_append,List.mem_singleton,h2 y];constructor
    ·rintro (⟨j,hj,e⟩ | rfl)
     ·exact ⟨j,by omega,e⟩
     ·exact ⟨i,by omega,hx⟩
    ·rintro ⟨j,hj,e⟩
     by_cases hji:j<i
     ·exact .inl ⟨j,hji,e⟩
     ·obtain rfl:j=i:=by omega
      rw [hx] at e; cases e;exact .inr rfl
  ·rw [if_neg hc];refine ⟨h1,fun y => ?_⟩;rw [h2 y];constructor
   ·rintro ⟨j,hj,e⟩; exact ⟨j,by omega,e⟩
   ·rintro ⟨j,hj,e⟩
    by_cases hji:j<i
    ·exact ⟨j,hji,e⟩
    ·obtain rfl:j=i:=by omega
     rw [hx] at e; cases e;have hc1 : ¬ j=0:=fun h=>hc (.inl h);have hc2:a[j-1]?=some x:=Classical.byContradiction fun h=>hc (.inr h);exact ⟨j-1,by omega,hc2⟩
theorem zgu {t:Ta} (h:zbi t=true):1<=t.ns.length/\t.ns.length<=4/\1<=t.rw.length/\t.rw.length<=40/\t.lb.length=t.rw.length/\∀ r∈t.rw,r.length=t.ns.length:=by
 unfold zbi at h;simp only [Bool.and_eq_true,decide_eq_true_eq,List.all_eq_true] at h;obtain ⟨⟨⟨⟨⟨h1,_⟩,h3⟩,h4⟩,_⟩,h6⟩:=h;have h1:=zaw.mp h1;have h3:=zaw.mp h3;refine ⟨by omega,by omega,by omega,by omega,by omega,fun r hr => ?_⟩;have:=h6 r hr;unfold zfh at this;simp only [Bool.and_eq_true,decide_eq_true_eq] at this;omega
theorem z74 (l:List Int):srt (zd3 l):=(zyt l [] List.Pairwise.nil).1
theorem qdh {l:List Int} (h:srt l):zd3 l=l:=by
 have h2:=(zyt l [] List.Pairwise.nil).2;refine List.Perm.eq_of_pairwise (le:=fun a b=>a<=b) (fun a b _ _ h1 h2=>by omega) (z74 l) h ?_;rw [List.nil_append] at h2;exact h2
theorem qc1 {l:List Int} {x:Int}:x∈zd3 l↔x∈l:=by
 have h2:=(zyt l [] List.Pairwise.nil).2;rw [List.nil_append] at h2;exact h2.mem_iff
theorem qa6 (a:List Int) (b k:Nat):(zi9 a b k).length<=1:=by unfold zi9; split <;> simp
theorem ytq (a:List Int) (b:Nat) : ∀ k,(zed a b k).length<=k
 | 0=>by simp [zed]
 | k+1=>by
  have:=ytq a b k;have:=qa6 a b (k+1);simp only [zed,List.length_append]; omega
theorem qi9 {a:List Int} {b k:Nat} (hk:k<=b):zhr a b k<=a.length:=by
 unfold zhr;exact Nat.div_le_of_le_mul (by rw [Nat.mul_comm b]; exact Nat.mul_le_mul_left _ hk)
theorem ynj {a:List Int} {b k:Nat}:zhr a b k<=zhr a b (k+1):=Nat.div_le_div_right (Nat.mul_le_mul_left _ (Nat.le_succ k))
theorem ysb {a:List Int} {b k:Nat} (hk:k<=b) {x:Int} (h:x∈zi9 a b k) : ∃ j,j+1=zhr a b k/\a[j]?=some x:=by
 unfold zi9 at h;split at h
 ·rename_i hc;simp only [List.mem_singleton] at h;have:=qi9 (a:=a) hk;refine ⟨zhr a b k-1,by omega,?_⟩;rw [h,List.getD_eq_getElem?_getD,bG (by omega)];rfl
 ·simp at h
theorem ybl {a:List Int} {b:Nat} : ∀ k,k<=b->∀ x∈zed a b k,∃ j,j<zhr a b k/\a[j]?=some x
 | 0,_,x,h=>by simp [zed] at h
 | k+1,hk,x,h=>by
  rw [zed] at h;rcases List.mem_append.mp h with h | h
  ·obtain ⟨j,h1,h2⟩:=ybl k (by omega) x h;exact ⟨j,Nat.lt_of_lt_of_le h1 ynj,h2⟩
  ·obtain ⟨j,h1,h2⟩:=ysb hk h;exact ⟨j,by omega,h2⟩
theorem ycb {a:List Int} {b:Nat} (ha:srt a) : ∀ k,k<=b->srt (zed a b k)
 | 0,_=>by unfold zed; exact List.Pairwise.nil
 | k+1,hk=>by
  rw [zed];unfold srt;rw [List.pairwise_append];refine ⟨ycb ha k (by omega),?_,fun x hx y hy => ?_⟩
  ·unfold zi9; split <;> simp
  ·obtain ⟨i,h1,h2⟩:=ybl k (by omega) x hx;obtain ⟨j,h3,h4⟩:=ysb hk hy;have:=ynj (a:=a) (b:=b) (k:=k);exact zo5 ha (by omega) h2 h4
theorem z7v (l:List Int) (b:Int):(zbu l b).Pairwise (fun x y=>x<y)/\(∀ x∈zbu l b,x∈l)/\(zbu l b).length<=7:=by
 unfold zbu;split
 ·rename_i hc;simp only [Bool.and_eq_true] at hc;have hb:=zaw.mp hc.1;have hs:=ycb (z74 l) (b:=b.toNat) (b.toNat-1) (by omega);obtain ⟨h1,h2⟩:=ys8 hs _ (Nat.le_refl _);refine ⟨h1,fun x hx => ?_,?_⟩
  ·obtain ⟨j,_,hj⟩:=(h2 x).mp hx;obtain ⟨i,_,hi⟩:=ybl (a:=zd3 l) (b:=b.toNat) (b.toNat-1) (by omega) x (bF hj);exact qc1.mp (bF hi)
  ·have:=ynl (zed (zd3 l) b.toNat (b.toNat-1));have:=ytq (zd3 l) b.toNat (b.toNat-1);omega
 ·exact ⟨List.Pairwise.nil,by simp⟩
theorem ypf : ∀ {l:List Int},l.Pairwise (fun x y=>x<y)->adj (fun a b=>decide (b<=a)) l=false
 | [],_=>rfl
 | [x],_=>rfl
 | a::b::r,h=>by
  obtain ⟨h1,h2⟩:=List.pairwise_cons.mp h;have:=h1 b (by simp);rw [adj,ypf h2];simp; omega
theorem qbj {t:Ta} {f:Nat} (h:zbi t=true) (hf:f<t.ns.length) : ∀ x∈zbh t f,zb7 x=true:=by
 intro x hx;obtain ⟨r,hr,rfl⟩:=List.mem_map.mp hx;unfold zbi at h;simp only [Bool.and_eq_true,List.all_eq_true] at h;have h6:=h.2 r hr;unfold zfh at h6;simp only [Bool.and_eq_true,decide_eq_true_eq,List.all_eq_true] at h6;refine h6.2 _ ?_;rw [List.getD_eq_getElem?_getD,bG (by omega)];exact List.getElem_mem _
theorem qcs {t:Ta} {f:Nat} (h:zbi t=true) (hf:f<t.ns.length) (b:Int):zfx (zbu (zbh t f) b)=true:=by
 obtain ⟨h1,h2,h3⟩:=z7v (zbh t f) b;unfold zfx;rw [ypf h1,List.all_eq_true.mpr fun x hx=>qbj h hf x (h2 x hx),decide_eq_true (by omega)];rfl
theorem yn3 {t:Ta} {b:Int} (h:zbi t=true) (hb:zah b 2 8=true) {f:Nat} (hf:f<t.ns.length):(za7 t b)[f]?=some (zbu (zbh t f) b)/\(za6 t b)[f]?=some (zh4 t b f):=by
 have hc:(zbi t && zah b 2 8)=true:=by rw [h,hb]; rfl
 unfold za7 za6;rw [if_pos hc,if_pos hc,List.getElem?_map,List.getElem?_map,List.getElem?_range hf];exact ⟨rfl,rfl⟩
theorem ydc {t:Ta} {b:Int} (h:zbi t=true) (hb:zah b 2 8=true):(za7 t b).length=t.ns.length/\(za6 t b).length=t.ns.length:=by
 have hc:(zbi t && zah b 2 8)=true:=by rw [h,hb]; rfl
 unfold za7 za6;rw [if_pos hc,if_pos hc];simp
theorem ytu {t:Ta} {b:Int} (h:zbi t=true) (hb:zah b 2 8=true):zdj (za6 t b)=t.rw.length:=by
 have h1:=(yn3 h hb (f:=0) (by have:=(zgu h).1; omega)).2;cases e:za6 t b with
 | nil=>rw [e] at h1; cases h1
 | cons x l =>
  rw [e] at h1;simp only [List.getElem?_cons_zero,bC] at h1;rw [h1];simp [zdj,zh4,zbh]
theorem qfu {t:Ta} {b:Int} (h:zbi t=true) (hb:zah b 2 8=true):zdg (za7 t b) (za6 t b)=true:=by
 obtain ⟨t1,t2,t3,t4,t5,t6⟩:=zgu h;obtain ⟨l1,l2⟩:=ydc h hb;have hr:=ytu h hb;unfold zdg;rw [l1,l2,hr,zaw.mpr (by omega),zaw.mpr (by omega),decide_eq_true rfl,zpa fun f hf => ?_]
 ·rfl
 ·obtain ⟨g1,g2⟩:=yn3 h hb hf;unfold zft;rw [g1,g2,hr];simp only;rw [qcs h hf,decide_eq_true (by simp [zh4,zbh]),List.all_eq_true.mpr fun x hx => ?_]
  ·rfl
  ·obtain ⟨v,_,rfl⟩:=List.mem_map.mp hx;have:zdr (zbu (zbh t f) b) v<=(zbu (zbh t f) b).length:=List.length_filter_le _ _;exact zaw.mpr (by omega)
theorem yry {t:Ta} {b:Int}:(∀ l∈za7 t b,l.length<=7)/\∀ l∈za6 t b,l.length=t.rw.length:=by
 unfold za7 za6;split
 ·refine ⟨fun l hl => ?_,fun l hl => ?_⟩
  ·obtain ⟨f,_,rfl⟩:=List.mem_map.mp hl;exact (z7v _ _).2.2
  ·obtain ⟨f,_,rfl⟩:=List.mem_map.mp hl;simp [zh4,zbh]
 ·exact ⟨by simp,by simp⟩
theorem yp9 (c:List Int) (v x:Int):zdr (c++[x]) v=zdr c v+if x<v then 1 else 0:=by
 unfold zdr;rw [List.filter_append,List.length_append]
 by_cases h:x<v <;> simp [h]
theorem zuh {α:Type} {l:List α} {i:Nat} {x:α} (h:l[i]?=some x):l.take (i+1)=l.take i++[x]:=by
 rw [List.take_add_one,h]; rfl
theorem qak (c:List Int) (v:Int) (hc:c.length<=1048576):RUN T zq8 [.sl 1 (zab c),iv v]=some ([iv (zdr c v)],[]):=by
 refine zae rfl rfl ?_;simp [-getElem?_pos,z2a,zs6];refine zan (fun n st => ∃ i m:Nat,i+n=c.length/\m<=i/\m=zdr (c.take i) v/\st.V 0 = .sl 1 (zab c)/\st.V 1=iv v/\st.V 5=iv m/\st.V 6=iv i) ?_ c.length _ ⟨0,0,by omega,by omega,by simp [zdr]⟩;rintro n st ⟨i,m,hi,hm,hmv,v0,v1,v5,v6⟩
 by_cases h:i<c.length
 ·obtain ⟨x,hx⟩ : ∃ x,c[i]?=some x:=⟨_,bG h⟩;have hx':=zaz hx;have hw:=wS h (by omega:c.length<=9223372036854775807);have hw2:=w64 (x:=(m:Int)+1) (by omega) (by omega);have hs:=yp9 (c.take i) v x;rw [<- zuh hx,<- hmv] at hs
  by_cases hl:x<v
  ·rw [if_pos hl] at hs;simp [-getElem?_pos,z19,v0,v1,v5,v6,h,hx',hw,hw2,hl];exact zai (n-1) (by omega) ⟨i+1,m+1,by omega,by omega,hs.symm,by simp [v0,v1]⟩
  ·rw [if_neg hl] at hs;simp [-getElem?_pos,z19,v0,v1,v5,v6,h,hx',hw,hl];exact zai (n-1) (by omega) ⟨i+1,m,by omega,by omega,hs.symm,by simp [v0,v1,v5]⟩
 ·rw [List.take_of_length_le (by omega)] at hmv;rw [<- hmv];simp [-getElem?_pos,z19,v0,v5,v6,h]
theorem qal (l:List Int) (b:Int) (hl:l.length<=1048576):RUN T zq7 [.sl 1 (zab l),iv b]=some ([.own 1 (zab (zbu l b))],[]):=by
 have e1:=yl8 l hl;have hsl:=z9z l;have hss:=z74 l;have hr0:zaj 8 0=true:=by decide
 have hr1:zaj 8 1=true:=by decide
 have g1:=zbn b 2 8;have g2:=zbn l.length 1 40;cases c1:zah b 2 8 with
 | false =>
  have hv:zbu l b=[]:=by unfold zbu; rw [c1]; rfl
  rw [hv];rw [c1] at g1;refine zae rfl rfl ?_;simp [-getElem?_pos,ztl,z18,-za3,g1,hr0]
 | true =>
 cases c2:zah l.length 1 40 with
 | false =>
  have hv:zbu l b=[]:=by unfold zbu; rw [c1,c2]; rfl
  rw [hv];rw [c1] at g1;rw [c2] at g2;refine zae rfl rfl ?_;simp [-getElem?_pos,ztl,z18,-za3,g1,g2,hr0]
 | true =>
 have hv:zbu l b=Lib.compact (zed (zd3 l) b.toNat (b.toNat-1)):=by unfold zbu; rw [c1,c2]; rfl
 rw [hv];rw [c1] at g1;rw [c2] at g2;have hb:=zaw.mp c1;have h12:=zaw.mp c2;have h1:1<=l.length:=by omega
 have h2:l.length<=40:=by omega
 clear c1 c2 h12 hv;generalize zd3 l=a at *;obtain ⟨bn,rfl⟩ : ∃ n:Nat,b=n:=⟨b.toNat,by omega⟩;rw [Int.toNat_natCast];refine zae rfl rfl ?_;simp [-getElem?_pos,ztl,z18,-za3,g1,g2,hr0,e1];refine zan (fun n st => ∃ (i o e:Nat) (m:List Int),1<=i/\i+n=bn/\m.length<i/\m=zed a bn (i-1)/\st.V 1=iv bn/\st.V 5=iv l.length/\st.V 6 = .ref 0 none 0 0 a.length/\st.V 7 = .ref o none e 0 m.length/\st.V 8=iv i/\0<o/\o<st.nx/\st.S o=some (.row 1 (zab m))/\st.S 0=some (.row 1 (zab a))) ?_ (bn-1) _ ⟨1,1,0,[],by omega,by omega,by simp,rfl,by simp [zab]⟩;rintro n st ⟨i,o,e,m,hi1,hi,hm,hmp,v1,v5,v6,v7,v8,ho,hox,hSo,hS0⟩;obtain ⟨x1,x2,x3,x4⟩:=fr hox;obtain ⟨g1,g2,g3,g4⟩:=fr ho;obtain ⟨z1,z2,z3,z4⟩:=fr (show 0<st.nx by omega)
 by_cases h:i<bn
 ·have hw:=wS h (by omega:bn<=9223372036854775807);have hb0 : ¬ bn=0:=by omega
  have hq:(l.length:Int)*i<=40*8:=Int.mul_le_mul (by omega) (by omega) (by omega) (by omega);have hq0:0<=(l.length:Int)*i:=Int.mul_nonneg (by omega) (by omega);have w1:=w64 (x:=(l.length:Int)*i) (by omega) (by omega);obtain ⟨k,hkk⟩ : ∃ k:Nat,k=l.length*i / bn:=⟨_,rfl⟩;have hk:((l.length:Int)*i).tdiv bn=k:=by
   rw [Int.tdiv_eq_ediv_of_nonneg hq0,hkk]
   push_cast
   rfl
  have hcs:zed a bn i=m++zi9 a bn i:=by
   obtain ⟨j,rfl⟩ : ∃ j,i=j+1:=⟨i-1,by omega⟩;rw [hmp]; rfl
  unfold zi9 zhr at hcs;rw [hsl,<- hkk] at hcs;have hkl:k<=l.length:=by
   have h3:((l.length:Int)*i).tdiv bn<=l.length:=by
    rw [Int.tdiv_eq_ediv_of_nonneg hq0];refine Int.ediv_le_of_le_mul (by omega) ?_;exact Int.mul_le_mul_of_nonneg_left (by omega) (by omega)
   omega
  have w2:=w64 (x:=(k:Int)) (by omega) (by omega)
  by_cases hk1:1<=k
  ·obtain ⟨x,hx⟩ : ∃ x,a[k-1]?=some x:=⟨_,bG (by omega)⟩;obtain ⟨y,hy⟩ : ∃ x,a[a.length-1]?=some x:=⟨_,bG (by omega)⟩;have hx':=zaz hx;have hy':=zaz hy;rw [hsl] at hy';have w3:IntKind.i64.wrap ((k:Int)-1)=((k-1:Nat):Int):=by rw [w64 (by omega) (by omega)]; omega
   have w4:IntKind.i64.wrap ((l.length:Int)-1)=((l.length-1:Nat):Int):=by rw [w64 (by omega) (by omega)]; omega
   have c1:k-1<l.length:=by omega
   have c2:l.length-1<l.length:=by omega
   have hk1':(1:Int)<=k:=by omega
   have hr8:=zc4 (n:=m.length+1) (by omega);have hsn:=zc8 m x;have gx:a.getD (k-1) 0=x:=by rw [List.getD_eq_getElem?_getD,hx]; rfl
   have gy:a.getD (l.length-1) 0=y:=by rw [<- hsl,List.getD_eq_getElem?_getD,hy]; rfl
   rw [gx,gy] at hcs;have hle:=zo5 hss (by omega:k-1<=a.length-1) hx hy
   by_cases hxy:x<y
   ·rw [if_pos ⟨hk1,by omega⟩] at hcs;simp [-getElem?_pos,zv2,v1,v5,v6,v7,v8,hSo,hS0,h,hw,hb0,w1,w2,w3,w4,hk,hk1,hk1',hx',hy',hsl,c1,c2,hxy,hr1,hr8,hsn,g1,g2,g3,g4,x1,x2,x3,x4,z1,z2,z3,z4];exact zai (n-1) (by omega) ⟨i+1,st.nx+1,st.ep,m++[x],by omega,by omega,by simp; omega,hcs.symm,by simp [v1],by simp [v5],by simp [v6,hsl],by simp,by simp,by omega,by simp [g1,g2,g3,g4,x1,x2,x3,x4,z1,z2,z3,z4,hS0]⟩
   ·rw [if_neg (by omega),List.append_nil] at hcs;simp [-getElem?_pos,zv2,v1,v5,v6,v7,v8,hSo,hS0,h,hw,hb0,w1,w2,w3,w4,hk,hk1,hk1',hx',hy',hsl,c1,c2,hxy,g1,g2,g3,g4,x1,x2,x3,x4,z1,z2,z3,z4];exact zai (n-1) (by omega) ⟨i+1,o,e,m,by omega,by omega,by omega,hcs.symm,by simp [v1],by simp [v5],by simp [v6,hsl],by simp [v7],by simp,ho,by simp [hox,hSo,hS0]⟩
  ·have hk0:k=0:=by omega
   rw [if_neg (by omega),List.append_nil] at hcs;rw [hk0] at hk w2;clear hkk hkl;subst hk0;simp [-getElem?_pos,zv2,v1,v5,v6,v7,v8,hSo,hS0,h,hw,hb0,w1,w2,hk];exact zai (n-1) (by omega) ⟨i+1,o,e,m,by omega,by omega,by omega,hcs.symm,by simp [v1],by simp [v5],by simp [v6],by simp [v7],by simp,ho,by simp [hox,hSo,hS0]⟩
 ·have h3:=qaj m (by omega);have hib:i=bn:=by omega
  have hsm:=ycb (b:=bn) hss (bn-1) (by omega);have hm2:m=zed a bn (bn-1):=by rw [hmp,hib]
  rw [<- hm2] at hsm;rw [qdh hsm] at h3;rw [<- hm2];have hmm:(Lib.compact m).length<=m.length:=ynl m;generalize Lib.compact m=z at *;simp [-getElem?_pos,zv2,v1,v7,v8,hSo,h,h3]
theorem qam (q:Bool) (t:Ta) (f:Nat) (ht:TaL 1048576 t) (hf:f<t.ns.length) (h40:t.rw.length<=40) (hr : ∀ r∈t.rw,r.length=t.ns.length):RUN T zq6 [taS q t,iv f]=some ([.own 1 (zab (zbh t f))],[]):=by
 have hr0:zaj 8 0=true:=by decide
 have hr1:zaj 8 1=true:=by decide
 have hns:=ht.ns;have g1:=zbn f 0 ((t.ns.length:Int)-1);rw [zaw.mpr (by omega)] at g1;have w1:=w64 (x:=(t.ns.length:Int)-1) (by omega) (by omega);refine zae rfl rfl ?_;simp [-getElem?_pos,z17,z18,hr0];refine zan (fun n st => ∃ (i o e:Nat) (m:List Int),i+n=t.rw.length/\m=(t.rw.take i).map (fun r=>r.getD f 0)/\m.length=i/\st.V 1=iv f/\st.V 2 = .ptr 0 none 0 0 0/\st.V 5 = .ref o none e 0 m.length/\st.V 6=iv i/\0<o/\o<st.nx/\st.S o=some (.row 1 (zab m))/\st.S 0=some (.box (taB q t))) ?_ t.rw.length _ ⟨0,1,0,[],by omega,rfl,rfl,by simp [zab]⟩;rintro n st ⟨i,o,e,m,hi,hmv,hm,v1,v2,v5,v6,ho,hox,hSo,hS0⟩;obtain ⟨x1,x2,x3,x4⟩:=fr hox;obtain ⟨g1',g2,g3,g4⟩:=fr ho;obtain ⟨z1,z2,z3,z4⟩:=fr (show 0<st.nx by omega)
 by_cases h:i<t.rw.length
 ·obtain ⟨r,hx⟩ : ∃ x,t.rw[i]?=some x:=⟨_,bG h⟩;have hx':=zcu (q:=q) hx;have hrl:=hr r (bF hx);obtain ⟨y,hy⟩ : ∃ x,r[f]?=some x:=⟨_,bG (by omega)⟩;have hy':=zaz hy;have hfr:f<r.length:=by omega
  have hw:=wS h (by omega:t.rw.length<=9223372036854775807);have hr8:=zc4 (n:=m.length+1) (by omega);have hsn:=zc8 m y;have hmn:m++[y]=(t.rw.take (i+1)).map (fun r=>r.getD f 0):=by
   rw [zuh hx,List.map_append,<- hmv,List.map_singleton,List.getD_eq_getElem?_getD,hy]; rfl
  simp [-getElem?_pos,yab,-za3,v1,v2,v5,v6,hSo,hS0,h,hx',hy',hfr,g1,w1,hw,hr1,hr8,hsn,g1',g2,g3,g4,x1,x2,x3,x4,z1,z2,z3,z4];exact zai (n-1) (by omega) ⟨i+1,st.nx+1,st.ep,m++[y],by omega,hmn,by simp [hm],by simp [v1],by simp [v2],by simp,by simp,by omega,by simp [g1',g2,g3,g4,x1,x2,x3,x4,z1,z2,z3,z4,hS0]⟩
 ·rw [List.take_of_length_le (by omega)] at hmv;have hcv:zbh t f=m:=hmv.symm;rw [hcv];simp [-getElem?_pos,yab,-za3,v1,v2,v5,v6,hSo,hS0,h]
theorem qct (cuts col:List Int) (hcu:cuts.length<=8) (hco:col.length<=40) {st:St} {q1 e1 q2 e2 q3 e3:Nat} {Q:Ex->St->Prop} (v7:st.V 7 = .ref q1 none e1 0 col.length) (v8:st.V 8 = .ref q2 none e2 0 cuts.length) (v9:st.V 9 = .ref q3 none e3 0 0) (v10:st.V 10=iv (0:Nat)) (h1:q1<q3) (h2:q2<q3) (h3:q3<st.nx) (hS1:st.S q1=some (.row 1 (zab col))) (hS2:st.S q2=some (.row 1 (zab cuts))) (hS3:st.S q3=some (.row 1 []))
  (hQ : ∀ (s':St) (q' e':Nat) (bins:List Int),bins.length=col.length->bins=col.map (fun v=>(zdr cuts v:Int))->(∀ k,k≠9->k≠10->s'.V k=st.V k)->s'.V 9 = .ref q' none e' 0 bins.length->q3<=q'->q'<s'.nx->st.nx<=s'.nx->s'.S q'=some (.row 1 (zab bins))->(∀ k,k<q3->s'.S k=st.S k)->Q (.exit 2) s') :
  W (zad T) (RUN T) (.loop zz4) st Q:=by
 refine zan (fun m s' => ∃ (i q' e':Nat) (bins:List Int),i+m=col.length/\bins.length=i/\bins=(col.take i).map (fun v=>(zdr cuts v:Int))/\(∀ k,k≠9->k≠10->s'.V k=st.V k)/\s'.V 9 = .ref q' none e' 0 bins.length/\s'.V 10=iv i/\q3<=q'/\q'<s'.nx/\st.nx<=s'.nx/\s'.S q'=some (.row 1 (zab bins))/\(∀ k,k<q3->s'.S k=st.S k)) ?_ col.length _ ⟨0,q3,e3,[],by omega,rfl,rfl,fun _ _ _=>rfl,by simpa using v9,by simpa using v10,by omega,h3,Nat.le_refl _,by simpa [zab] using hS3,fun _ _=>rfl⟩;rintro m s' ⟨i,q',e',bins,hi,hb,hbb,hV,v9',v10',hq,hqx,hnx,hSq,hfr⟩;have v7':s'.V 7 = .ref q1 none e1 0 col.length:=by rw [hV 7 (by decide) (by decide)]; exact v7
 have v8':s'.V 8 = .ref q2 none e2 0 cuts.length:=by rw [hV 8 (by decide) (by decide)]; exact v8
 have hS1':s'.S q1=some (.row 1 (zab col)):=by rw [hfr q1 h1]; exact hS1
 have hS2':s'.S q2=some (.row 1 (zab cuts)):=by rw [hfr q2 h2]; exact hS2
 by_cases h:i<col.length
 ·obtain ⟨x,hx⟩ : ∃ x,col[i]?=some x:=⟨_,bG h⟩;have hx':=zaz hx;have hw:=wS h (by omega:col.length<=9223372036854775807);have hr1:zaj 8 1=true:=by decide
  have hr8:=zc4 (n:=bins.length+1) (by omega);have h4:=qak cuts x (by omega);have hbn:bins++[(zdr cuts x:Int)]=(col.take (i+1)).map (fun v=>(zdr cuts v:Int)):=by rw [zuh hx,List.map_append,<- hbb]; rfl
  generalize zdr cuts x=y at *;have hsn:=zc8 bins (y:Int);have a1:=fr hqx;have a2:=fr (show q1<q' by omega);have a3:=fr (show q2<q' by omega);have a4:=fr (show q1<s'.nx by omega);have a5:=fr (show q2<s'.nx by omega);simp [-getElem?_pos,zz4,v7',v8',v9',v10',hS1',hS2',hSq,h,hx',h4,hw,hr1,hr8,hsn,a1,a2,a3,a4,a5];refine zai (m-1) (by omega) ⟨i+1,s'.nx+1,s'.ep,bins++[(y:Int)],by omega,by simp [hb],hbn,fun k k1 k2 => ?_,by simp,by simp,by omega,by simp,by simp; omega,by simp,fun k k1 => ?_⟩
  ·simp [k1,k2]; exact hV k k1 k2
  ·have b1:(k=s'.nx)=False:=eq_false (by omega);have b2:(k=s'.nx+1)=False:=eq_false (by omega);have b3:(k=q')=False:=eq_false (by omega);simp [b1,b2,b3];exact hfr k k1
 ·have hin:i=col.length:=by omega
  simp [-getElem?_pos,zz4,v7',v10',hS1',h];exact hQ _ q' e' bins (by omega) (by rw [hbb,List.take_of_length_le (by omega)]) (fun k k1 k2=>by simp; exact hV k k1 k2) (by simp [v9']) hq (by simp [hqx]) (by simp [hnx]) (by simp [hSq]) (fun k k1=>by simp; exact hfr k k1)
def LG (S:Nat->Option Ob) (nx:Nat) (C D:List (List Int)) (x y:PV):Prop:=(x = .e0/\y = .e0/\C=[]/\D=[])\/∃ o e o' e',x = .ref o none e 0 C.length/\y = .ref o' none e' 0 D.length/\2<o/\o<nx/\2<o'/\o'<nx/\o≠o'/\S o=some (.row 1 (rws true C))/\S o'=some (.row 1 (rws true D))
theorem LG.mono {S S':Nat->Option Ob} {nx nx':Nat} {C D:List (List Int)} {x y:PV} (h:LG S nx C D x y) (hn:nx<=nx') (hS : ∀ k,2<k->k<nx->S' k=S k):LG S' nx' C D x y:=by
 rcases h with h | ⟨o,e,o',e',h1,h2,h3,h4,h5,h6,h7,h8,h9⟩
 ·exact .inl h
 ·exact .inr ⟨o,e,o',e',h1,h2,h3,by omega,h5,by omega,h7,by rw [hS o h3 h4]; exact h8,by rw [hS o' h5 h6]; exact h9⟩
theorem ymr (q:Bool) (t:Ta) (b:Int) (ht:TaL 1048576 t):RUN T zmy [taS q t,iv b]=some ([.agg [.own 1 (rws true (za7 t b)),.own 1 (rws true (za6 t b))]],[]):=by
 have e1:=ybg q t ⟨Nat.le_trans ht.ns (by omega),fun x hx=>Nat.le_trans (ht.ss x hx) (by omega),Nat.le_trans ht.nm (by omega),Nat.le_trans ht.rw (by omega),fun x hx=>Nat.le_trans (ht.rr x hx) (by omega),Nat.le_trans ht.lb (by omega)⟩;have g1:=zbn b 2 8;cases hok:zbi t with
 | false =>
  have hC:za7 t b=[]:=by unfold za7; rw [hok]; rfl
  have hW:za6 t b=[]:=by unfold za6; rw [hok]; rfl
  rw [hC,hW];rw [hok] at e1;simp only [taS] at *;refine zae rfl rfl ?_;simp [-getElem?_pos,zth,zti,-za3,e1,show rws true []=[] from rfl]
 | true =>
 cases hbi:zah b 2 8 with
 | false =>
  have hC:za7 t b=[]:=by unfold za7; rw [hbi,Bool.and_false]; rfl
  have hW:za6 t b=[]:=by unfold za6; rw [hbi,Bool.and_false]; rfl
  rw [hC,hW];rw [hok] at e1;rw [hbi] at g1;simp only [taS] at *;refine zae rfl rfl ?_;simp [-getElem?_pos,zth,zti,-za3,e1,g1,show rws true []=[] from rfl]
 | true =>
 have hb:=zaw.mp hbi;rw [hok] at e1;rw [hbi] at g1;obtain ⟨t1,t2,t3,t4,t5,t6⟩:=zgu hok;have hgC:za7 t b=(List.range t.ns.length).map fun f=>zbu (zbh t f) b:=by unfold za7; rw [hok,hbi]; rfl
 have hgW:za6 t b=(List.range t.ns.length).map (zh4 t b):=by unfold za6; rw [hok,hbi]; rfl
 rw [hgC,hgW];have hr1:zaj 24 1=true:=by decide
 have hr0:zaj 8 0=true:=by decide
 have cl:=qam q t;simp only [taS] at *;refine zae rfl rfl ?_;simp [-getElem?_pos,zth,zti,-za3,e1,g1];refine zan (fun n st => ∃ (i:Nat) (C D:List (List Int)) (x y:PV),i+n=t.ns.length/\C.length=i/\D.length=i/\C=(List.range i).map (fun f=>zbu (zbh t f) b)/\D=(List.range i).map (zh4 t b)/\st.V 1=iv b/\st.V 2 = .ptr 0 none 0 0 0/\st.V 4 = .ptr 1 none 0 0 0/\st.V 5 = .ptr 2 none 0 0 0/\st.V 6=iv i/\2<st.nx/\LG st.S st.nx C D x y/\st.S 0=some (.box [.sl 1 (za2 t.ns),.v (.string t.nm),.sl 1 (rws q t.rw),.sl 1 (zab t.lb)])/\st.S 1=some (.box [.e0,.e0])/\st.S 2=some (.box [x,y])) ?_ t.ns.length _ ⟨0,[],[],.e0,.e0,by omega,rfl,rfl,rfl,rfl,by simp,by simp,by simp,by simp,by simp,by simp,.inl ⟨rfl,rfl,rfl,rfl⟩,by simp⟩;rintro n st ⟨i,C,D,x,y,hi,hC,hD,hC8,hD8,v1,v2,v4,v5,v6,hnx,hx,hS0,hS1,hS2⟩;have z1:=fr hnx;have z2:=fr (show 1<st.nx by omega);have z3:=fr (show 0<st.nx by omega)
 by_cases h:i<t.ns.length
 ·have hw:=wS h (by omega:t.ns.length<=9223372036854775807);have h1:=cl i ht h t4 t6;have hcol:(zbh t i).length=t.rw.length:=by simp [zbh]
  have h2:=qal (zbh t i) b (by omega);have hcu:(zbu (zbh t i) b).length<=8:=Nat.le_trans (z7v (zbh t i) b).2.2 (by omega);have hCn:C++[zbu (zbh t i) b]=(List.range (i+1)).map (fun f=>zbu (zbh t f) b):=by rw [List.range_succ,List.map_append,<- hC8]; rfl
  have hDn:D++[(zbh t i).map fun v=>(zdr (zbu (zbh t i) b) v:Int)]=(List.range (i+1)).map (zh4 t b):=by rw [List.range_succ,List.map_append,<- hD8]; rfl
  generalize zbu (zbh t i) b=cuts at *;generalize zbh t i=col at *;simp [-getElem?_pos,z97,-za3,v1,v2,v4,v5,v6,hS0,hS1,hS2,h,h1,h2,hr0,z1,z2,z3];refine qct cuts col hcu (by omega) (q1:=st.nx) (q2:=st.nx+1) (q3:=st.nx+2) (by simp; rfl) (by simp; rfl) (by simp; rfl) (by simp) (by omega) (by omega) (by simp) (by simp) (by simp) (by simp) ?_;intro s' q' e' bins hbl hbb hV w9 hq hqx hnx' hSq hfr;simp only at hq hnx';have w1:s'.V 1=iv b:=by rw [hV 1 (by decide) (by decide)]; simp [v1]
  have w2:s'.V 2 = .ptr 0 none 0 0 0:=by rw [hV 2 (by decide) (by decide)]; simp [v2]
  have w4:s'.V 4 = .ptr 1 none 0 0 0:=by rw [hV 4 (by decide) (by decide)]; simp [v4]
  have w5:s'.V 5 = .ptr 2 none 0 0 0:=by rw [hV 5 (by decide) (by decide)]; simp [v5]
  have w6:s'.V 6=iv i:=by rw [hV 6 (by decide) (by decide)]; simp [v6]
  obtain ⟨e8,w8⟩ : ∃ e,s'.V 8 = .ref (st.nx+1) none e 0 cuts.length:=⟨_,by rw [hV 8 (by decide) (by decide)]; simp; rfl⟩;have hT0:s'.S 0=some (.box [.sl 1 (za2 t.ns),.v (.string t.nm),.sl 1 (rws q t.rw),.sl 1 (zab t.lb)]):=by rw [hfr 0 (by omega)]; simp [z1,z2,z3,hS0]
  have hT1:s'.S 1=some (.box [.e0,.e0]):=by rw [hfr 1 (by omega)]; simp [z1,z2,z3,hS1]
  have hT2:s'.S 2=some (.box [x,y]):=by rw [hfr 2 (by omega)]; simp [z1,z2,z3,hS2]
  have hT8:s'.S (st.nx+1)=some (.row 1 (zab cuts)):=by rw [hfr _ (by omega)]; simp
  have hL:LG s'.S s'.nx C D x y:=hx.mono (by omega) (fun k k1 k2=>by
   rw [hfr k (by omega)];have b1:(k=st.nx)=False:=eq_false (by omega);have b2:(k=st.nx+1)=False:=eq_false (by omega);have b3:(k=st.nx+2)=False:=eq_false (by omega);simp [b1,b2,b3])
  have hr24:zaj 24 (C.length+1)=true:=by simp [zaj]; omega
  have hr24':zaj 24 (D.length+1)=true:=by simp [zaj]; omega
  have s1:=z8j C cuts;have s2:=z8j D bins;obtain ⟨p8,hp8⟩ : ∃ p8,p8=st.nx+1:=⟨_,rfl⟩;rw [<- hp8] at w8 hT8;have hp8q:p8<q':=by omega
  have hp82:2<p8:=by omega
  have hL':LG s'.S p8 C D x y:=by
   rcases hx with hx | ⟨o,e,o',e',k1,k2,k3,k4,k5,k6,k7,k8,k9⟩
   ·exact .inl hx
   ·rcases hL with ⟨l1,_⟩ | ⟨o2,e2,o2',e2',l1,l2,l3,l4,l5,l6,l7,l8,l9⟩
    ·rw [k1] at l1; cases l1
    ·rw [k1] at l1; cases l1;rw [k2] at l2; cases l2;exact .inr ⟨o,e,o',e',k1,k2,k3,by omega,k5,by omega,k7,l8,l9⟩
  clear hL hx hfr hV hp8 hS0 hS1 hS2 v1 v2 v4 v5 v6 z1 z2 z3 h1 h2;have a1:=fr hqx;have a2:=fr hp8q;have a3:=fr (show p8<s'.nx by omega);have a4:=fr hp82;have a5:=fr (show 2<q' by omega);have a6:=fr (show 2<s'.nx by omega);have b1:=fr (show 1<p8 by omega);have b2:=fr (show 1<q' by omega);have b3:=fr (show 1<s'.nx by omega);have b4:=fr (show 0<p8 by omega);have b5:=fr (show 0<q' by omega);have b6:=fr (show 0<s'.nx by omega);have nn1 : ¬ s'.nx=1:=by omega
  have nn2 : ¬ s'.nx+1=q':=by omega
  have na : ∀ a b:Nat,s'.nx+a+b=s'.nx+(a+b):=fun a b=>Nat.add_assoc _ _ _;rw [<- hbb] at hDn;rcases hL' with ⟨rfl,rfl,hC0,hD0⟩ | ⟨o,e,o',e',rfl,rfl,ho,hox,ho',hox',hoo,hSo,hSo'⟩
  ·subst hC0 hD0;simp only [List.nil_append] at hCn hDn;simp [-getElem?_pos,w1,w2,w4,w5,w6,w8,w9,hT0,hT1,hT2,hT8,hSq,hw,hr1,na,a1,a2,a3,a4,a5,a6,b1,b2,b3,b4,b5,b6];exact zai (n-1) (by omega) ⟨i+1,[cuts],[bins],.ref (s'.nx+1) none s'.ep 0 1,.ref (s'.nx+3) none s'.ep 0 1,by omega,by simp at hC; simp; omega,by simp at hC; simp; omega,hCn,hDn,by simp [w1],by simp [w2],by simp [w4],by simp [w5],by simp,by first | (simp; done) | (simp; omega),.inr ⟨s'.nx+1,s'.ep,s'.nx+3,s'.ep,rfl,rfl,by omega,by simp,by omega,by simp,by omega,by simp [nn1,nn2,rws,cel]⟩,by simp [a1,a2,a3,a4,a5,a6,b1,b2,b3,b4,b5,b6,hT0,hT1]⟩
  ·have c1:=fr ho;have c2:=fr hox;have c3:=fr ho';have c4:=fr hox';have c5:=fr (show o<q' by omega);have c6:=fr (show o'<q' by omega);have d1:=fr (show o<s'.nx by omega);have d2:=fr (show o'<s'.nx by omega);have d3:=fr (show 1<o by omega);have d4:=fr (show 1<o' by omega);have d5:=fr (show 0<o by omega);have d6:=fr (show 0<o' by omega);have hoo2 : ¬ o'=o:=fun e=>hoo e.symm;have nn3 : ¬ s'.nx+1=o':=by omega
   simp [-getElem?_pos,w1,w2,w4,w5,w6,w8,w9,hT0,hT1,hT2,hT8,hSq,hSo,hSo',hoo,hoo2,hw,hr1,hr24,hr24',s1,s2,na,a1,a2,a3,a4,a5,a6,b1,b2,b3,b4,b5,b6,c1,c2,c3,c4,c5,c6,d1,d2,d3,d4,d5,d6];exact zai (n-1) (by omega) ⟨i+1,C++[cuts],D++[bins],.ref (s'.nx+1) none s'.ep 0 (C.length+1),.ref (s'.nx+3) none s'.ep 0 (D.length+1),by omega,by simp [hC],by simp [hD],hCn,hDn,by simp [w1],by simp [w2],by simp [w4],by simp [w5],by simp,by first | (simp; done) | (simp; omega),.inr ⟨s'.nx+1,s'.ep,s'.nx+3,s'.ep,by simp,by simp,by omega,by simp,by omega,by simp,by omega,by simp [nn1,nn2,nn3]⟩,by simp [a1,a2,a3,a4,a5,a6,b1,b2,b3,b4,b5,b6,c1,c2,c3,c4,c5,c6,d1,d2,d3,d4,d5,d6,hT0,hT1]⟩
 ·have hin:i=t.ns.length:=by omega
  rcases hx with ⟨rfl,rfl,hC0,hD0⟩ | ⟨o,e,o',e',rfl,rfl,ho,hox,ho',hox',hoo,hSo,hSo'⟩
  ·subst hC0;simp at hC; omega
  ·have c1:=fr ho;have c3:=fr ho';have d3:=fr (show 1<o by omega);have d4:=fr (show 1<o' by omega);have d5:=fr (show 0<o by omega);have d6:=fr (show 0<o' by omega);have hoo2 : ¬ o'=o:=fun e=>hoo e.symm;simp [-getElem?_pos,z97,v1,v2,v4,v5,v6,hS0,hS1,hS2,h,hSo,hSo',hoo,hoo2,c1,c3,d3,d4,d5,d6];rw [hC8,hD8,hin];exact ⟨rfl,rfl⟩
def ze4:List Sl->Int
 | []=>0
 | x::xs=>x.n+ze4 xs
def zfa:List Sl->Int
 | []=>0
 | x::xs=>x.g+zfa xs
theorem ycj : ∀ {l:List Sl} {i:Nat} {s t:Sl},l[i]?=some s->ze4 (l.set i t)=ze4 l-s.n+t.n/\zfa (l.set i t)=zfa l-s.g+t.g
 | [],i,s,t,h=>by simp at h
 | x::xs,0,s,t,h=>by
  simp at h; subst h;simp only [List.set_cons_zero,ze4,zfa]; omega
 | x::xs,i+1,s,t,h=>by
  have h':xs[i]?=some s:=by simpa using h
  have:=ycj (t:=t) h';simp only [List.set_cons_succ,ze4,zfa]; omega
theorem ynt (n:Nat):ze4 (List.replicate n ⟨0,0⟩)=0/\zfa (List.replicate n ⟨0,0⟩)=0:=by
 induction n with
 | zero=>exact ⟨rfl,rfl⟩
 | succ n ih=>simp only [List.replicate_succ,ze4,zfa]; omega
theorem yuc {a b:Int} (h:(adi a b).2=true):(adi a b).1=a+b:=by
 unfold adi at h ⊢;split
 ·rfl
 ·rename_i hc; rw [if_neg hc] at h; cases h
theorem z8y {a b:Sl} (h:(zbj a b).2=true):(zbj a b).1.n=a.n+b.n/\(zbj a b).1.g=a.g+b.g:=by
 unfold zbj at h ⊢;split
 ·rename_i hc;simp only [Bool.and_eq_true] at hc;exact ⟨yuc hc.1,yuc hc.2⟩
 ·rename_i hc; rw [if_neg hc] at h; cases h
def zhb (g rows:List Int):Int:=(rows.map fun r=>(atI g r).getD 0).sum
theorem z8w (g:List Int) (r:Int) (rs:List Int):zhb g (r::rs)=(atI g r).getD 0+zhb g rs:=by simp [zhb]
theorem yoi {b g:List Int} : ∀ (rows:List Int) (h h':List Sl),zci b g rows h=some h'->ze4 h'=ze4 h+rows.length/\zfa h'=zfa h+zhb g rows
 | [],h,h',e=>by
  simp only [zci,bC] at e;subst e;simp [zhb]
 | r::rs,h,h',e=>by
  unfold zci at e;cases hx:atI b r with
  | none=>rw [hx] at e; cases e
  | some x =>
   cases hy:atI g r with
   | none=>rw [hx,hy] at e; cases e
   | some y =>
    rw [hx,hy] at e;simp only at e;cases hs:atI h x with
    | none=>rw [hs] at e; cases e
    | some s =>
     rw [hs] at e;simp only at e;split at e
     ·rename_i hp;obtain ⟨p1,p2⟩:=z8y hp;obtain ⟨e1,e2⟩:=yoi rs _ _ e;obtain ⟨j,rfl,hjs,_⟩:=zgn hs;rw [Int.toNat_natCast] at e1 e2;obtain ⟨q1,q2⟩:=ycj (t:=(zbj s ⟨1,y⟩).1) hjs;simp only [z8w,hy,Option.getD_some,List.length_cons];simp only at p1 p2;omega
     ·cases e
theorem yre : ∀ (h:List Sl) (s:Sl) (l:List Sl),zc9 s h=some l->(l.getLast?.getD s).n=s.n+ze4 h/\(l.getLast?.getD s).g=s.g+zfa h
 | [],s,l,e=>by
  simp only [zc9,bC] at e;subst e;simp [ze4,zfa]
 | x::xs,s,l,e=>by
  unfold zc9 at e;split at e
  ·rename_i hp;obtain ⟨p1,p2⟩:=z8y hp;simp only [bB] at e;obtain ⟨l',h1,rfl⟩:=e;obtain ⟨q1,q2⟩:=yre xs _ _ h1;rw [List.getLast?_cons,Option.getD_some];simp only [ze4,zfa];omega
  ·cases e
theorem qgt {b g rows:List Int} {k:Int} (h:(zch b g rows k).2=true):ze4 (zch b g rows k).1=rows.length/\zfa (zch b g rows k).1=zhb g rows:=by
 unfold zch at h ⊢;split at h
 ·rename_i hc;rw [if_pos hc];cases e:zci b g rows (List.replicate k.toNat ⟨0,0⟩) with
  | none=>rw [e] at h; cases h
  | some h' =>
   obtain ⟨h1,h2⟩:=yoi rows _ _ e;obtain ⟨h3,h4⟩:=ynt k.toNat;simp only;omega
 ·cases h
theorem yrk : ∀ (h:List Sl) (s:Sl) (l:List Sl),zc9 s h=some l->∀ (b:Nat) (x:Sl),l[b]?=some x->x.n=s.n+ze4 (h.take (b+1))/\x.g=s.g+zfa (h.take (b+1))
 | [],s,l,e,b,x,hx=>by simp only [zc9,bC] at e; subst e; simp at hx
 | y::ys,s,l,e,b,x,hx=>by
  unfold zc9 at e;split at e
  ·rename_i hp;obtain ⟨p1,p2⟩:=z8y hp;simp only [bB] at e;obtain ⟨l',h1,rfl⟩:=e;cases b with
   | zero =>
    simp at hx;subst hx;simp [ze4,zfa,p1,p2]
   | succ b =>
    have hx':l'[b]?=some x:=by simpa using hx
    obtain ⟨q1,q2⟩:=yrk ys _ _ h1 b x hx';rw [List.take_succ_cons];simp only [ze4,zfa];omega
  ·cases e
theorem yrs {bins g:List Int} : ∀ (rows:List Int) (h h':List Sl),zci bins g rows h=some h'->∀ b:Nat,ze4 (h'.take (b+1))=ze4 (h.take (b+1))+(zcr bins rows b).length/\zfa (h'.take (b+1))=zfa (h.take (b+1))+zhb g (zcr bins rows b)
 | [],h,h',e,b=>by
  simp only [zci,bC] at e;subst e;simp [zhb,zcr]
 | r::rs,h,h',e,b=>by
  unfold zci at e;cases hx:atI bins r with
  | none=>rw [hx] at e; cases e
  | some x =>
   cases hy:atI g r with
   | none=>rw [hx,hy] at e; cases e
   | some y =>
    rw [hx,hy] at e;simp only at e;cases hs:atI h x with
    | none=>rw [hs] at e; cases e
    | some s =>
     rw [hs] at e;simp only at e;split at e
     ·rename_i hp;obtain ⟨p1,p2⟩:=z8y hp;obtain ⟨e1,e2⟩:=yrs rs _ _ e b;obtain ⟨j,rfl,hjs,_⟩:=zgn hs;rw [Int.toNat_natCast,List.take_set] at e1 e2;simp only at p1 p2;have hB:zio bins b r=decide ((j:Int)<=b):=by unfold zio; rw [hx]
      by_cases hjb:j<=b
      ·have hB':zio bins b r=true:=by rw [hB]; simpa using hjb
       have hk:(h.take (b+1))[j]?=some s:=by rw [List.getElem?_take_of_lt (by omega)]; exact hjs
       obtain ⟨q1,q2⟩:=ycj (t:=(zbj s ⟨1,y⟩).1) hk;have hf:zcr bins (r::rs) b=r::zcr bins rs b:=by unfold zcr; rw [List.filter_cons,if_pos hB']
       rw [hf,z8w,hy,Option.getD_some,List.length_cons];omega
      ·have hB' : ¬ zio bins b r=true:=by rw [hB]; simpa using hjb
       have hf:zcr bins (r::rs) b=zcr bins rs b:=by unfold zcr; rw [List.filter_cons,if_neg hB']
       rw [List.set_eq_of_length_le (by simp; omega)] at e1 e2;rw [hf];exact ⟨e1,e2⟩
     ·cases e
theorem yss {bins g:List Int} : ∀ (rows:List Int) (h h':List Sl),zci bins g rows h=some h'->∀ r∈rows,∃ x,atI bins r=some x
 | [],h,h',e,r,hr=>by cases hr
 | r0::rs,h,h',e,r,hr=>by
  unfold zci at e;split at e
  ·rename_i x y hx hy;split at e
   ·split at e
    ·rcases List.mem_cons.mp hr with rfl | hr
     ·exact ⟨x,hx⟩
     ·exact yss rs _ _ e r hr
    ·cases e
   ·cases e
  ·cases e
theorem yqo {bins g:List Int} {b:Int} : ∀ rows:List Int,(∀ r∈rows,∃ x,atI bins r=some x)->(zcr bins rows b).length+(zd8 bins rows b).length=rows.length/\zhb g (zcr bins rows b)+zhb g (zd8 bins rows b)=zhb g rows
 | [],_=>by simp [zcr,zd8,zhb]
 | r::rs,h=>by
  obtain ⟨x,hx⟩:=h r (by simp);obtain ⟨h1,h2⟩:=yqo (b:=b) (g:=g) rs (fun r hr=>h r (by simp [hr]));have hB:zio bins b r=decide (x<=b):=by unfold zio; rw [hx]
  have hC:zov bins b r = !decide (x<=b):=by unfold zov; rw [hx]
  unfold zcr zd8 at *;rw [List.filter_cons,List.filter_cons,hB,hC]
  by_cases hxb:x<=b
  ·simp only [decide_eq_true hxb,Bool.not_true,Bool.false_eq_true,if_true,if_false,z8w,List.length_cons];omega
  ·simp only [decide_eq_false hxb,Bool.not_false,Bool.false_eq_true,if_true,if_false,z8w,List.length_cons];omega
theorem yd7 {f:Int} {all:Sl} {least:Int} {p:Cnd->Prop} {l:List Sl} (hp : ∀ (b:Nat) (x:Sl),l[b]?=some x->(zd4 all x).2=true->p ⟨f,b,x,(zd4 all x).1⟩) : ∀ (k i:Nat) (acc a:List Cnd),i+k=l.length->(∀ x∈acc,p x)->zfm f all least i (l.drop i) acc=some a->∀ x∈a,p x
 | 0,i,acc,a,hk,ha,h=>by
  rw [zu6 acc (by omega)] at h;cases h;exact ha
 | k+1,i,acc,a,hk,ha,h=>by
  by_cases hi:i+1<l.length
  ·obtain ⟨x,hx⟩ : ∃ x,l[i]?=some x:=⟨_,bG (by omega)⟩;rw [z80 acc hx hi] at h;split at h
   ·rename_i hm;split at h
    ·exact yd7 hp k (i+1) _ _ (by omega) (fun y hy=>by
      rcases List.mem_append.mp hy with e | e
      ·exact ha y e
      ·simp only [List.mem_singleton] at e; subst e; exact hp i x hx hm) h
    ·exact yd7 hp k (i+1) _ _ (by omega) ha h
   ·cases h
  ·rw [zu6 acc hi] at h;cases h;exact ha
def z8m (H:List (List Sl)) (x:Cnd):Prop := ∃ (f b:Nat) (h:List Sl),x.f=f/\x.b=b/\H[f]?=some h/\(zcm h).2=true/\(zcm h).1[b]?=some x.a/\(zd4 (zgx (zcm h).1) x.a).2=true/\x.z=(zd4 (zgx (zcm h).1) x.a).1
theorem yru {least:Int} {H:List (List Sl)} : ∀ (k i:Nat) (acc a:List Cnd),i+k=H.length->(∀ x∈acc,z8m H x)->zd5 least i (H.drop i) acc=some a->∀ x∈a,z8m H x
 | 0,i,acc,a,hk,ha,h=>by
  rw [List.drop_eq_nil_of_le (by omega),zd5] at h;cases h;exact ha
 | k+1,i,acc,a,hk,ha,h=>by
  obtain ⟨l,hx⟩ : ∃ x,H[i]?=some x:=⟨_,bG (by omega)⟩;rw [z9t acc hx] at h;split at h
  ·rename_i hp;split at h
   ·rename_i a' h';have h'':zfm i (zgx (zcm l).1) least ((0:Nat):Int) ((zcm l).1.drop 0) acc=some a':=by simpa using h'
    exact yru k (i+1) a' a (by omega) (yd7 (p:=z8m H) (fun b x hb hm=>⟨i,b,l,rfl,rfl,hx,hp,hb,hm,rfl⟩) (zcm l).1.length 0 acc a' (by omega) ha h'') h
   ·cases h
  ·cases h
theorem qbc {least:Int} {H:List (List Sl)} : ∀ x∈zel H least,z8m H x:=by
 unfold zel;cases h:zd5 least 0 H [] with
 | none=>simp
 | some a =>
  have h':zd5 least ((0:Nat):Int) (H.drop 0) []=some a:=by simpa using h
  exact yru H.length 0 [] a (by omega) (fun x hx=>by cases hx) h'
theorem ys3 {a b:Int} (h:(sbi a b).2=true):(sbi a b).1=a-b:=by
 unfold sbi at h ⊢;split
 ·rfl
 ·rename_i hc; rw [if_neg hc] at h; cases h
theorem qe1 {a b:Sl} (h:(zd4 a b).2=true):(zd4 a b).1.n=a.n-b.n/\(zd4 a b).1.g=a.g-b.g:=by
 unfold zd4 at h ⊢;split
 ·rename_i hc;simp only [Bool.and_eq_true] at hc;exact ⟨ys3 hc.1,ys3 hc.2⟩
 ·rename_i hc; rw [if_neg hc] at h; cases h
theorem ytg {g rows:List Int} : ∀ (c v:List (List Int)) (H:List (List Sl)) (f:Nat) (h:List Sl),zb2 g rows c v=some H->H[f]?=some h->∃ x y:List Int,v[f]?=some y/\(zch y g rows (x.length+1:Nat)).2=true/\h=(zch y g rows (x.length+1:Nat)).1
 | [],v,H,f,h,e,hf=>by simp [zb2] at e; subst e; simp at hf
 | x::c,[],H,f,h,e,hf=>by simp [zb2] at e; subst e; simp at hf
 | x::c,y::v,H,f,h,e,hf=>by
  simp only [zb2] at e;split at e
  ·rename_i hp;simp only [bB] at e;obtain ⟨H',h1,rfl⟩:=e;cases f with
   | zero =>
    simp at hf;exact ⟨x,y,rfl,by simpa using hp,by rw [<- hf]; simp⟩
   | succ f =>
    simp at hf;obtain ⟨x',y',h2,h3⟩:=ytg c v H' f h h1 hf;exact ⟨x',y',by simpa using h2,h3⟩
  ·cases e
theorem qa2 {c v:List (List Int)} {g:List Int} {cfg:Cfg} {rows:List Int} {b:Bd} (h:(zbd c v g cfg rows b).2=true) : ∃ (f k:Nat) (y:List Int),(zbd c v g cfg rows b).1.f=f/\(zbd c v g cfg rows b).1.b=k/\v[f]?=some y/\zev g (zcr y rows k)=(zbd c v g cfg rows b).1.a/\zev g (zd8 y rows k)=(zbd c v g cfg rows b).1.z:=by
 obtain ⟨h1,h2⟩:=yq6 h;have hc:(zbd c v g cfg rows b).1∈zel (zbz c v g rows).1 cfg.rw:=by
  unfold zbd at h ⊢;split
  ·rename_i e1;rw [if_pos e1,if_pos h2] at h;exact (yt5 h).1
  ·rename_i e1;rw [if_neg e1] at h; cases h
 obtain ⟨f,k,l,e1,e2,e3,e4,e5,e6,e7⟩:=qbc _ hc;have hN : ∃ H,zb2 g rows c v=some H/\(zbz c v g rows).1=H:=by
  unfold zbz at h2 ⊢;split at h2
  ·rename_i hg;rw [if_pos hg];cases e:zb2 g rows c v with
   | none=>rw [e] at h2; cases h2
   | some H=>exact ⟨H,rfl,rfl⟩
  ·cases h2
 obtain ⟨H,hH,hH2⟩:=hN;rw [hH2] at e3;obtain ⟨x,y,hy,hok,rfl⟩:=ytg c v H f l hH e3;generalize (zbd c v g cfg rows b).1=C at *;obtain ⟨Cf,Cb,Ca,Cz⟩:=C;simp only at e1 e2 e5 e6 e7 ⊢;refine ⟨f,k,y,e1,e2,hy,?_⟩;have ⟨hs1,hs2⟩:=qgt hok;unfold zch at hok e4 e5 e6 e7 hs1 hs2;split at hok
 ·rename_i hw;rw [if_pos hw] at e4 e5 e6 e7 hs1 hs2;cases eh:zci y g rows (List.replicate (((x.length+1:Nat):Int)).toNat ⟨0,0⟩) with
  | none=>rw [eh] at hok; cases hok
  | some hh =>
   rw [eh] at e4 e5 e6 e7 hs1 hs2;simp only at e4 e5 e6 e7 hs1 hs2;obtain ⟨t1,t2⟩:=yrs rows _ _ eh k;rw [List.take_replicate] at t1 t2;obtain ⟨z1,z2⟩:=ynt (min (k+1) (((x.length+1:Nat):Int)).toNat);rw [z1] at t1;rw [z2] at t2;have hval:=yss rows _ _ eh;obtain ⟨a1,a2⟩:=yqo (g:=g) (b:=(k:Int)) rows hval;unfold zcm at e4 e5 e6 e7;cases ep:zc9 ⟨0,0⟩ hh with
   | none=>rw [ep] at e4; cases e4
   | some pl =>
    rw [ep] at e5 e6 e7;simp only at e5 e6 e7;obtain ⟨p1,p2⟩:=yrk hh _ _ ep k Ca e5;obtain ⟨m1,m2⟩:=qe1 e6;obtain ⟨q1,q2⟩:=yre hh _ _ ep;rw [<- e7] at m1 m2;simp only [zgx] at m1 m2;obtain ⟨an,ag⟩:=Ca;obtain ⟨zn,zg⟩:=Cz;simp only at p1 p2 q1 q2 m1 m2;unfold zev;have g1 : ∀ r:List Int,(r.map fun r=>(atI g r).getD 0).sum=zhb g r:=fun r=>rfl;rw [g1,g1];simp only [Sl.mk.injEq];omega
 ·cases hok
inductive SN where
 | mk (f c v:Int) (ks:List SN)
def yc9 (q:Bool) (es:List (List PV)):PV:=if q then .own 4 es else .sl 4 es
mutual
def snC (q:Bool):SN->List PV
 | .mk f c v ks=>[iv f,iv c,iv v,yc9 q (snL q ks)]
def snL (q:Bool):List SN->List (List PV)
 | []=>[]
 | s::ss=>snC q s::snL q ss
end
theorem ysp (q:Bool) : ∀ ks:List SN,snL q ks=ks.map (snC q)
 | []=>by simp [snL]
 | k::ks=>by simp [snL,ysp q ks]
@[simp] theorem q1i (q:Bool) (ks:List SN):(snL q ks).length=ks.length:=by rw [ysp]; simp
@[simp] theorem qyj (q:Bool) (es:List (List PV)):fz (yc9 q es) = .sl 4 es:=by cases q <;> simp [yc9]
theorem qdy {c:Cfg} (h:zbk c=true):1<=c.la/\c.la<=100/\0<=c.de/\c.de<=4:=by
 unfold zbk at h;simp only [Bool.and_eq_true,zaw] at h;omega
def ysg (v:List (List Int)) (g rows:List Int) (f k:Nat):Cnd:=⟨f,k,zev g (zcr (v.getD f []) rows k),zev g (zd8 (v.getD f []) rows k)⟩
def NI (S:Nat->Option Ob) (nx k:Nat) (m:List Int) (x:PV):Prop:=(x = .e0/\m=[])\/∃ o e,x = .ref o none e 0 m.length/\k<o/\o<nx/\S o=some (.row 1 (zab m))
theorem NI.up {S S':Nat->Option Ob} {nx nx' k:Nat} {l:List Int} {Y:PV} (h:NI S nx k l Y) (hn:nx<=nx') (hS : ∀ o e n,Y = .ref o none e 0 n->k<o->o<nx->S' o=S o):NI S' nx' k l Y:=by
 rcases h with h | ⟨o,e,h1,h2,h3,h4⟩
 ·exact .inl h
 ·exact .inr ⟨o,e,h1,h2,by omega,by rw [hS o e _ h1 h2 h3]; exact h4⟩
structure GH (c v:List (List Int)) (g:List Int) (cfg:Cfg):Prop where
 tk:zf8 c v g cfg=true
 sg:cfg.sg.length<=1048576
theorem GH.la {c v:List (List Int)} {g:List Int} {cfg:Cfg} (h:GH c v g cfg):1<=cfg.la/\cfg.la<=100/\0<=cfg.de/\cfg.de<=4:=qdy (zx1 h.tk).2.1
def WB (v:List (List Int)) (g rows:List Int) (la:Int) (S:Nat->Option Ob) (nx:Nat) (acc:Option Cnd) (B:List PV) (fd:PV):Prop:=(acc=none/\B=[iv 0,iv 0,.e0,.e0,bv false,uv 0,uv 0,iv 0]/\fd=bv false)\/∃ (f k o e p e':Nat),acc=some (ysg v g rows f k)/\B=[iv f,iv k,.ref o none e 0 (zcr (v.getD f []) rows k).length,.ref p none e' 0 (zd8 (v.getD f []) rows k).length]++frc (zcc (ysg v g rows f k) la).1/\fd=bv true/\4<o/\o<nx/\4<p/\p<nx/\¬ o=p/\S o=some (.row 1 (zab (zcr (v.getD f []) rows k)))/\S p=some (.row 1 (zab (zd8 (v.getD f []) rows k)))
theorem WB.up {v:List (List Int)} {g rows:List Int} {la:Int} {S S':Nat->Option Ob} {nx nx':Nat} {acc:Option Cnd} {B:List PV} {fd:PV} (h:WB v g rows la S nx acc B fd) (hn:nx<=nx') (hS : ∀ o,4<o->o<nx->S' o=S o):WB v g rows la S' nx' acc B fd:=by
 rcases h with h | ⟨f,k,o,e,p,e',h1,h2,h3,h4,h5,h6,h7,h8,h9,h10⟩
 ·exact .inl h
 ·exact .inr ⟨f,k,o,e,p,e',h1,h2,h3,h4,by omega,h6,by omega,h8,by rw [hS o h4 h5]; exact h9,by rw [hS p h6 h7]; exact h10⟩
theorem NC.up {S S':Nat->Option Ob} {nx nx' oq oq':Nat} {m:List Nd} {x:PV} (h:NC S nx oq m x) (hn:nx<=nx') (ho:oq'=oq\/nx<=oq') (hS : ∀ p,5<p->p<nx->¬ p=oq->S' p=S p):NC S' nx' oq' m x:=by
 rcases h with h | ⟨p,e,h1,h2,h3,h4,h5⟩
 ·exact .inl h
 ·exact .inr ⟨p,e,h1,h2,by omega,by omega,by rw [hS p h2 h3 h4]; exact h5⟩
def okP (g:List Int) (cfg:Cfg) (x:Pnd):Prop:=zyc g.length cfg.de x/\zgz x.b=true
def Str (c v:List (List Int)) (g:List Int) (cfg:Cfg) (Q:List Pnd) (F:List Nd) (j:Nat):Prop := ∃ (x:Pnd) (L:Nat),Q[j]?=some x/\okP g cfg x/\F[j]?=some (if goes c v g cfg x=true then zml c (zbd c v g cfg x.r x.b).1 L else zdh g cfg x)/\(goes c v g cfg x=true->j<L/\Q[L]?=some (zjd c v cfg x (zbd c v g cfg x.r x.b).1)/\Q[L+1]?=some (zjg c v cfg x (zbd c v g cfg x.r x.b).1))
theorem z79 {α:Type} {l m:List α} {i:Nat} {x:α} (h:l[i]?=some x):(l++m)[i]?=some x:=by
 rw [List.getElem?_append_left (bD h).1]; exact h
theorem Str.up {c v:List (List Int)} {g:List Int} {cfg:Cfg} {Q R:List Pnd} {F E:List Nd} {j:Nat} (h:Str c v g cfg Q F j):Str c v g cfg (Q++R) (F++E) j:=by
 obtain ⟨x,L,h1,h2,h3,h4⟩:=h;exact ⟨x,L,z79 h1,h2,z79 h3,fun hg=>⟨(h4 hg).1,z79 (h4 hg).2.1,z79 (h4 hg).2.2⟩⟩
def inR (R x:Int):Prop := -R<=x/\x<=R
def bdR (R:Int) (b:Bd):Prop:=b.lo<=R /\ -R<=b.hi
theorem yeo {a m R:Int} (hm:0<m) (h1 : -(R*m)<=a) (h2:a<=R*m):inR R (a.fdiv m):=by
 rw [Int.fdiv_eq_ediv_of_nonneg _ (by omega)];exact ⟨(Int.le_ediv_iff_mul_le hm).mpr (by rw [Int.neg_mul]; exact h1),Int.ediv_le_of_le_mul hm h2⟩
theorem zhq {R:Int} (h:0<=R):inR R 0:=⟨by omega,h⟩
theorem yqx {R x:Int} {b:Bd} (h:inR R x) (hb:bdR R b):inR R (zfq x b.lo b.hi):=by
 unfold zfq inR bdR at *;split
 ·omega
 ·split <;> omega
theorem qc7 {R:Int} {g:List Int} (hR:0<=R) (hg : ∀ x∈g,inR R x) (r:Int):inR R ((atI g r).getD 0):=by
 unfold atI;split
 ·cases h:g[r.toNat]? with
  | none=>exact zhq hR
  | some x=>exact hg x (bF h)
 ·exact zhq hR
theorem yrl {R:Int} {g:List Int} (hR:0<=R) (hg : ∀ x∈g,inR R x) : ∀ rows:List Int,-(R*rows.length)<=(zev g rows).g/\(zev g rows).g<=R*rows.length
 | []=>by simp [zev]
 | r::rs=>by
  have ih:=yrl hR hg rs;have h1:=qc7 hR hg r;have e:R*((r::rs).length:Int)=R*rs.length+R:=by
   simp only [List.length_cons]; push_cast; rw [Int.mul_add,Int.mul_one]
  rw [e];unfold inR at h1;simp only [zev,List.map_cons,List.sum_cons] at *;omega
theorem ydj {R:Int} {g:List Int} (hR:0<=R) (hg : ∀ x∈g,inR R x) (rows:List Int) (l:Int) {b:Bd} (hb:bdR R b):inR R (zeb (zev g rows) l b).1:=by
 unfold zeb;split
 ·rename_i hc;simp only [Bool.and_eq_true] at hc;have h1:=hc.1;unfold zic at h1;simp only [Bool.and_eq_true] at h1;have hn:=zaw.mp h1.1;have hl:=zaw.mp h1.2;refine yqx ?_ hb;unfold fdv;split
  ·exact zhq hR
  ·obtain ⟨s1,s2⟩:=yrl hR hg rows;have e:(zev g rows).n=rows.length:=rfl;rw [e];have hm:R*rows.length<=R*(rows.length+l):=Int.mul_le_mul_of_nonneg_left (by omega) hR;exact yeo (by omega) (by omega) (by omega)
 ·exact zhq hR
theorem qb8 {R:Int} {c v:List (List Int)} {g rows:List Int} {cfg:Cfg} {b:Bd} (hR:0<=R) (hg : ∀ x∈g,inR R x) (hb:bdR R b) (h:(zbd c v g cfg rows b).2=true):inR R (zbx cfg b (zbd c v g cfg rows b).1).1/\inR R (zbx cfg b (zbd c v g cfg rows b).1).2.1:=by
 obtain ⟨f,k,y,_,_,_,ha,hz⟩:=qa2 h;unfold zbx;rw [<- ha,<- hz];split
 ·exact ⟨ydj hR hg _ _ hb,ydj hR hg _ _ hb⟩
 ·exact ⟨zhq hR,zhq hR⟩
theorem qie {R s l r:Int} {b:Bd} (hb:bdR R b) (hl:inR R l) (hr:inR R r):bdR R (zfo s b l r).1/\bdR R (zfo s b l r).2:=by
 have hh:inR R (zge l r):=by unfold zge inR at *; omega
 have hm:=yqx hh hb;unfold zfo;generalize zfq (zge l r) b.lo b.hi=m at *;unfold inR bdR at *;split
 ·split
  ·simp only; omega
  ·split <;> simp only <;> omega
 ·simp only; omega
theorem ybh {R:Int} {c v:List (List Int)} {g:List Int} {cfg:Cfg} (hR:0<=R) (hg : ∀ x∈g,inR R x) : ∀ (n:Nat) (q:List Pnd) (i:Nat) (out:List Nd),(∀ x∈q,bdR R x.b)->(∀ x∈out,inR R x.v)->∀ x∈zdx c v g cfg n q i out,inR R x.v
 | 0,q,i,out,_,ho=>ho
 | n+1,q,i,out,hq,ho=>by
  cases hx:q[i]? with
  | none=>rw [ydg hx]; exact ho
  | some x =>
   have hb:=hq x (bF hx);cases hgo:goes c v g cfg x with
   | false =>
    rw [yn6 hx hgo];refine ybh hR hg n _ _ _ hq fun y hy => ?_;rcases List.mem_append.mp hy with hy | hy
    ·exact ho y hy
    ·simp only [List.mem_singleton] at hy;subst hy;exact ydj hR hg _ _ hb
   | true =>
    rw [ypg hx hgo];have hp:(zbd c v g cfg x.r x.b).2=true:=by
     unfold goes at hgo;simp only [Bool.and_eq_true] at hgo;exact hgo.2
    obtain ⟨s1,s2⟩:=qb8 hR hg hb hp;obtain ⟨k1,k2⟩:=qie (s:=zej cfg (zbd c v g cfg x.r x.b).1.f) hb s1 s2;refine ybh hR hg n _ _ _ (fun y hy => ?_) fun y hy => ?_
    ·rcases List.mem_append.mp hy with hy | hy
     ·exact hq y hy
     ·simp only [List.mem_cons,List.not_mem_nil,or_false] at hy;rcases hy with rfl | rfl
      ·exact k1
      ·exact k2
    ·rcases List.mem_append.mp hy with hy | hy
     ·exact ho y hy
     ·simp only [List.mem_singleton] at hy;subst hy;exact zhq hR
theorem yqf {R:Int} {c v:List (List Int)} {g:List Int} {cfg:Cfg} (hR:0<=R) (hg : ∀ x∈g,inR R x) : ∀ x∈(zb3 c v g cfg).1,inR R x.v:=by
 unfold zb3;split
 ·show ∀ x∈zdx c v g cfg 32 [zew g] 0 [],inR R x.v;refine ybh hR hg 32 _ _ _ (fun x hx => ?_) (fun x hx=>by cases hx);simp only [List.mem_singleton] at hx;subst hx;exact ⟨by show -1099511627776<=R; omega,by show -R<=1099511627776; omega⟩
 ·simp
theorem qg5 {R v:Int} {c:Cfg} (hR:0<=R) (h:inR R v):inR R (shr v c).1:=by
 unfold shr;split
 ·rename_i hc;simp only [Bool.and_eq_true] at hc;obtain ⟨_,_,_,_,_,hd,hn,_⟩:=zo9 hc.1;obtain ⟨h1,h2⟩:=h;have a1:v*c.nu<=R*c.nu:=Int.mul_le_mul_of_nonneg_right h2 (by omega);have a2:R*c.nu<=R*c.dn:=Int.mul_le_mul_of_nonneg_left (by omega) hR;have a3 : -R*c.nu<=v*c.nu:=Int.mul_le_mul_of_nonneg_right h1 (by omega);rw [Int.neg_mul] at a3;exact yeo (by omega) (by omega) (by omega)
 ·exact zhq hR
theorem ycu {R:Int} {c:Cfg} {t:List Nd} (hR:0<=R) (h : ∀ x∈t,inR R x.v) : ∀ x∈(zf4 c t).1,inR R x.v:=by
 unfold zf4;split
 ·intro x hx;obtain ⟨y,hy,rfl⟩:=List.mem_map.mp hx;unfold zgy;split
  ·exact qg5 hR (h y hy)
  ·exact h y hy
 ·simp
theorem yca {R:Int} {t:List Nd} (hR:0<=R) (h : ∀ x∈t,inR R x.v) (row:List Int):inR R (evt t row):=by
 unfold evt;split
 ·exact zhq hR
 ·cases e:t[(rto t row).toNat]? with
  | none=>exact zhq hR
  | some x=>exact h x (bF e)
def noS:Sta:=⟨[],[]⟩
def zfg (tr:List Nd):List Int->List (List Int)->Option (List Int)
 | p::ps,r::rs=>if (adi p (evt tr r)).2=true then (zfg tr ps rs).map ((adi p (evt tr r)).1 :: ·) else none
 | _,_=>some []
def zva (t:Ta) (c v:List (List Int)) (cfg:Cfg) (s:Sta):List Nd×Bool:=if ((zdb t.lb s.sm).2 && (zb3 c v (zdb t.lb s.sm).1 cfg).2)=true then zf4 cfg (zb3 c v (zdb t.lb s.sm).1 cfg).1 else ([],false)
def ziw (t:Ta) (tr:List Nd) (s:Sta):Sta×Bool:=match zfg tr s.sm t.rw with
 | some p=>(⟨p,s.ts++[tr]⟩,true)
 | none=>(noS,false)
def zuc (t:Ta) (c v:List (List Int)) (cfg:Cfg) (s:Sta):Sta×Bool:=if (zva t c v cfg s).2=true then ziw t (zva t c v cfg s).1 s else (noS,false)
def zea (t:Ta) (c v:List (List Int)) (cfg:Cfg) (s:Sta):Sta×Bool:=if zbi t=true/\c=za7 t cfg.bi/\v=za6 t cfg.bi then zuc t c v cfg s else (noS,false)
def rnd (t:Ta) (cfg:Cfg) (s:Sta):Sta×Bool:=zea t (za7 t cfg.bi) (za6 t cfg.bi) cfg s
def zgg (t:Ta) (cfg:Cfg):Nat->Option Sta
 | 0=>some (zc0 t).1
 | n+1=>(zgg t cfg n).bind fun s=>if (rnd t cfg s).2=true then some (rnd t cfg s).1 else none
def zc7 (t:Ta) (cfg:Cfg):Sta×Bool:=if (zbi t && zbk cfg)=true then match zgg t cfg cfg.ro.toNat with
 | some s=>(s,true)
 | none=>(noS,false)
 else (noS,false)
end Go.Pe
