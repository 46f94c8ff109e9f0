/- What each function answers by the evaluator,and the law; for each answer its own conditions stand ahead of it. -/
import Derived.Test.YtpcphbbcnmhcnaaGreatC0
import Derived.Test.YtpcphbbcnmhcnaaGreatEvB2
import Derived.IntWalk
set_option linter.all false
set_option maxHeartbeats 8000000
set_option maxRecDepth 8000
namespace Go.Pe
open Go
def zco (h:List Sl):List Sl×Bool:=match zc7 ⟨0,0⟩ h with
 | some l=>(l,true)
 | none=>([],false)
theorem yrm : ∀ (h:List Sl) (s:Sl) (l:List Sl),slI s->zc7 s h=some l->l.length=h.length/\∀ x∈l,slI x
 | [],s,l,_,e=>by simp [zc7] at e; subst e; simp
 | x::xs,s,l,hs,e=>by
  simp only [zc7] at e;split at e
  ·simp only [bB] at e;obtain ⟨l',h1,rfl⟩:=e;have hp:=zmh (b:=x) hs;obtain ⟨h2,h3⟩:=yrm xs _ _ hp h1;refine ⟨by simp [h2],fun y hy => ?_⟩;rcases List.mem_cons.mp hy with e | e
   ·subst e; exact hp
   ·exact h3 y e
  ·cases e
theorem z7i:slI ⟨0,0⟩:=⟨by unfold inI; simp,by unfold inI; simp⟩
theorem z95 (h:List Sl):(zco h).1.length<=h.length/\(∀ x∈(zco h).1,slI x)/\((zco h).2=true->(zco h).1.length=h.length):=by
 unfold zco;cases e:zc7 ⟨0,0⟩ h with
 | none=>simp
 | some l =>
  obtain ⟨h1,h2⟩:=yrm h _ l z7i e;exact ⟨by simp [h1],h2,fun _=>h1⟩
def zfn (f:Int) (all:Sl) (least:Int):Int->List Sl->List Cnd->Option (List Cnd)
 | b,x::y::xs,acc=>if (zd5 all x).2=true then zfn f all least (b+1) (y::xs) (if least<=x.n/\least<=(zd5 all x).1.n then acc++[⟨f,b,x,(zd5 all x).1⟩] else acc) else none
 | _,_,acc=>some acc
def zg0 (l:List Sl):Sl:=l.getLast?.getD ⟨0,0⟩
def zd3 (least:Int):Int->List (List Sl)->List Cnd->Option (List Cnd)
 | _,[],acc=>some acc
 | f,h::hs,acc=>if (zco h).2=true then match zfn f (zg0 (zco h).1) least 0 (zco h).1 acc with
  | some a=>zd3 least (f+1) hs a
  | none=>none
  else none
def zeu (H:List (List Sl)) (least:Int):List Cnd:=(zd3 least 0 H []).getD []
theorem z7l {f:Int} {all:Sl} {least:Int} {l:List Sl} {i:Nat} {x:Sl} (acc:List Cnd) (hx:l[i]?=some x) (hi:i+1<l.length):zfn f all least i (l.drop i) acc=if (zd5 all x).2=true then zfn f all least (i+1:Nat) (l.drop (i+1)) (if least<=x.n/\least<=(zd5 all x).1.n then acc++[⟨f,i,x,(zd5 all x).1⟩] else acc) else none:=by
 rw [zdi hx,zdi (bG hi),zfn];simp
theorem zu4 {f:Int} {all:Sl} {least:Int} {l:List Sl} {i:Nat} (acc:List Cnd) (hi : ¬ i+1<l.length):zfn f all least i (l.drop i) acc=some acc:=by
 match h:l.drop i with
 | []=>rw [zfn]; simp
 | [x]=>rw [zfn]; simp
 | x::y::xs =>
  have:=congrArg List.length h;simp at this; omega
theorem yof {l:List Sl} {x:Sl} (h:l[l.length-1]?=some x):zg0 l=x:=by
 unfold zg0; rw [List.getLast?_eq_getElem?,h]; rfl
def zul (H:List (List Sl)) (x:Cnd):Prop := ∃ (f b:Nat) (h:List Sl),x.f=f/\x.b=b/\H[f]?=some h/\b+1<h.length/\slI x.a/\slI x.z
theorem yb5 {f:Int} {all:Sl} {least:Int} {p:Cnd->Prop} {l:List Sl} (hl : ∀ x∈l,slI x) (hp : ∀ (b:Nat) (x z:Sl),b+1<l.length->slI x->slI z->p ⟨f,b,x,z⟩) : ∀ (k i:Nat) (acc a:List Cnd),i+k=l.length->(∀ x∈acc,p x)->zfn f all least i (l.drop i) acc=some a->a.length<=acc.length+k/\∀ x∈a,p x
 | 0,i,acc,a,hk,ha,h=>by
  rw [zu4 acc (by omega)] at h;cases h;exact ⟨by omega,ha⟩
 | k+1,i,acc,a,hk,ha,h=>by
  by_cases hi:i+1<l.length
  ·obtain ⟨x,hx⟩ : ∃ x,l[i]?=some x:=⟨_,bG (by omega)⟩;rw [z7l acc hx hi] at h;have hxi:=hl x (bF hx);split at h
   ·split at h
    ·obtain ⟨h1,h2⟩:=yb5 hl hp k (i+1) _ _ (by omega) (fun y hy=>by
      rcases List.mem_append.mp hy with e | e
      ·exact ha y e
      ·simp only [List.mem_singleton] at e; subst e; exact hp i x _ hi hxi (y7a _ _)) h
     exact ⟨by simp at h1; omega,h2⟩
    ·obtain ⟨h1,h2⟩:=yb5 hl hp k (i+1) _ _ (by omega) ha h;exact ⟨by omega,h2⟩
   ·cases h
  ·rw [zu4 acc hi] at h;cases h;exact ⟨by omega,ha⟩
theorem z7d {least:Int} {H:List (List Sl)} {i:Nat} {h:List Sl} (acc:List Cnd) (hx:H[i]?=some h):zd3 least i (H.drop i) acc=if (zco h).2=true then match zfn i (zg0 (zco h).1) least 0 (zco h).1 acc with
  | some a=>zd3 least (i+1:Nat) (H.drop (i+1)) a
  | none=>none
  else none:=by
 rw [zdi hx,zd3];simp
theorem yma {least:Int} {H:List (List Sl)} {m:Nat} (hm : ∀ l∈H,l.length<=m) : ∀ (k i:Nat) (acc a:List Cnd),i+k=H.length->(∀ x∈acc,zul H x)->zd3 least i (H.drop i) acc=some a->a.length<=acc.length+m*k/\∀ x∈a,zul H x
 | 0,i,acc,a,hk,ha,h=>by
  rw [List.drop_eq_nil_of_le (by omega),zd3] at h;cases h;exact ⟨by omega,ha⟩
 | k+1,i,acc,a,hk,ha,h=>by
  obtain ⟨l,hx⟩ : ∃ x,H[i]?=some x:=⟨_,bG (by omega)⟩;rw [z7d acc hx] at h;obtain ⟨p1,p2,p3⟩:=z95 l;split at h
  ·rename_i hp;split at h
   ·rename_i a' h';have h'':zfn i (zg0 (zco l).1) least ((0:Nat):Int) ((zco l).1.drop 0) acc=some a':=by simpa using h'
    obtain ⟨q1,q2⟩:=yb5 (p:=zul H) p2 (fun b x z hb hx' hz'=>⟨i,b,l,rfl,rfl,hx,by omega,hx',hz'⟩) (zco l).1.length 0 acc a' (by omega) ha h'';obtain ⟨r1,r2⟩:=yma hm k (i+1) a' a (by omega) q2 h;have:=hm l (bF hx);refine ⟨?_,r2⟩;rw [Nat.mul_add];omega
   ·cases h
  ·cases h
theorem yo3 {least:Int} {H:List (List Sl)} {m:Nat} (hm : ∀ l∈H,l.length<=m):(zeu H least).length<=m*H.length/\∀ x∈zeu H least,zul H x:=by
 unfold zeu;cases h:zd3 least 0 H [] with
 | none=>simp
 | some a =>
  have h':zd3 least ((0:Nat):Int) (H.drop 0) []=some a:=by simpa using h
  obtain ⟨h1,h2⟩:=yma hm H.length 0 [] a (by omega) (fun x hx=>by cases hx) h';exact ⟨by simpa using h1,h2⟩
theorem ynw {H:List (List Sl)} {x:Cnd} (hH:H.length<=1048576) (hl : ∀ l∈H,l.length<=1048576) (h:zul H x):zel x:=by
 obtain ⟨f,b,l,h1,h2,h3,h4,h5,h6⟩:=h;have:=(bD h3).1;have:=hl l (bF h3);exact ⟨by unfold inI; omega,by unfold inI; omega,h5,h6⟩
theorem yqt {c:Cfg} {b:Bd} {l:List Cnd} (h:(ze7 c b l).2=true):(ze7 c b l).1∈l/\zdw c b (ze7 c b l).1=true/\∀ y∈l,zdw c b y=true->zd2 y (ze7 c b l).1 c.la=false:=by
 unfold ze7 at h ⊢;cases e:l.find? (zmi c b l) with
 | none=>rw [e] at h; cases h
 | some x =>
  simp only;have h1:=List.mem_of_find?_eq_some e;have h2:=List.find?_some e;unfold zmi at h2;simp only [Bool.and_eq_true] at h2;refine ⟨h1,h2.1,fun y hy hm => ?_⟩;have:=List.all_eq_true.mp h2.2 y hy;unfold noB at this;rw [hm] at this;simpa using this
theorem qbi : ∀ x y:Nat,2*(x &&& y)+(x ^^^ y)=x+y:=by
 intro x
 induction x using Nat.strongRecOn with
 | _ x ih =>
  intro y
  by_cases hx:x=0
  ·subst hx; simp
  ·have h1:=ih (x / 2) (by omega) (y / 2);have h2:(x &&& y) / 2=x / 2 &&& y / 2:=by rw [Nat.and_div_two]
   have h3:(x ^^^ y) / 2=x / 2 ^^^ y / 2:=by rw [Nat.xor_div_two]
   have h4:(x &&& y) % 2=1↔x % 2=1/\y % 2=1:=Nat.and_mod_two_eq_one;have h5:(x ^^^ y) % 2=1↔¬ (x % 2=1↔y % 2=1):=Nat.xor_mod_two_eq_one;omega
def zc3 (a:Int):Nat:=(a % 18446744073709551616).toNat
theorem z7o {a:Int} (h:inI a):(zc3 a:Int)=if a<0 then a+18446744073709551616 else a:=by
 unfold inI at h;unfold zc3;split <;> omega
theorem z7n (a:Int):zc3 a<18446744073709551616:=by
 unfold zc3; omega
theorem ycb {n:Nat} (h:n<18446744073709551616):IntKind.i64.wrap n=if n<9223372036854775808 then (n:Int) else n-18446744073709551616:=by
 split
 ·exact w64 (by omega) (by omega)
 ·simp [IntKind.wrap,IntKind.signed,IntKind.bits];omega
theorem qbb (x y:Nat) (hx:x<18446744073709551616) (hy:y<18446744073709551616):(9223372036854775808<=(x &&& y)↔9223372036854775808<=x/\9223372036854775808<=y)/\(9223372036854775808<=(x ^^^ y)↔¬ (9223372036854775808<=x↔9223372036854775808<=y)):=by
 have h1:(x &&& y) >>> 63=x >>> 63 &&& y >>> 63:=Nat.shiftRight_and_distrib;have h2:(x ^^^ y) >>> 63=x >>> 63 ^^^ y >>> 63:=Nat.shiftRight_xor_distrib;rw [Nat.shiftRight_eq_div_pow,Nat.shiftRight_eq_div_pow,Nat.shiftRight_eq_div_pow] at h1 h2;have hx':x / 2 ^ 63=0\/x / 2 ^ 63=1:=by omega
 have hy':y / 2 ^ 63=0\/y / 2 ^ 63=1:=by omega
 rcases hx' with e1 | e1 <;> rcases hy' with e2 | e2 <;> rw [e1,e2] at h1 h2 <;> simp at h1 h2 <;> omega
theorem yph {x y:Nat} (hx:x<18446744073709551616):(x &&& y)<18446744073709551616:=Nat.lt_of_le_of_lt Nat.and_le_left hx
theorem y9u {x y:Nat} (hx:x<18446744073709551616) (hy:y<18446744073709551616):(x ^^^ y)<18446744073709551616:=Nat.xor_lt_two_pow (n:=64) hx hy
theorem y8a {a b:Int} (ha:inI a) (hb:inI b):2*IntKind.i64.wrap ((zc3 a &&& zc3 b:Nat):Int)+IntKind.i64.wrap ((zc3 a ^^^ zc3 b:Nat):Int)=a+b:=by
 have la:=z7n a;have lb:=z7n b;have ea:=z7o ha;have eb:=z7o hb;obtain ⟨t1,t2⟩:=qbb _ _ la lb;have hs:=qbi (zc3 a) (zc3 b);rw [ycb (yph la),ycb (y9u la lb)];unfold inI at ha hb;generalize zc3 a &&& zc3 b=p at *;generalize zc3 a ^^^ zc3 b=q at *;split at ea <;> split at eb <;> split <;> split <;> omega
theorem ykb {a b:Int} (ha:inI a) (hb:inI b):inI (IntKind.i64.wrap ((zc3 a &&& zc3 b:Nat):Int))/\(IntKind.i64.wrap ((zc3 a &&& zc3 b:Nat):Int) % 2=1↔a % 2=1/\b % 2=1):=by
 have la:=z7n a;have lb:=z7n b;have ea:=z7o ha;have eb:=z7o hb;have h4:(zc3 a &&& zc3 b) % 2=1↔zc3 a % 2=1/\zc3 b % 2=1:=Nat.and_mod_two_eq_one;have hl:=yph (y:=zc3 b) la;rw [ycb hl];unfold inI at *;generalize zc3 a &&& zc3 b=p at *;split at ea <;> split at eb <;> split <;> omega
def zgb (a b:Int):Int:=(a+b) / 2
theorem y44 (a b:Int) (ha:inI a) (hb:inI b):RUN T zr7 [iv a,iv b]=some ([iv (zgb a b)],[]):=by
 refine zae rfl rfl ?_;have h:=y8a ha hb;obtain ⟨h1,_⟩:=ykb ha hb;unfold zc3 at h h1;unfold inI at ha hb h1;have hb64:IntKind.i64.bits=64:=rfl;simp [z3q,zy0,hb64];rw [Int.fdiv_eq_ediv_of_nonneg _ (by omega)];unfold zgb;generalize IntKind.i64.wrap (((a % 18446744073709551616).toNat &&& (b % 18446744073709551616).toNat:Nat):Int)=p at *;generalize IntKind.i64.wrap (((a % 18446744073709551616).toNat ^^^ (b % 18446744073709551616).toNat:Nat):Int)=q at *;rw [w64 (by omega) (by omega)];omega
theorem y45 (a b:Int) (ha:inI a) (hb:inI b):RUN T zr3 [iv a,iv b]=some ([iv (zgb a b)],[]):=by
 refine zae rfl rfl ?_;obtain ⟨h1,h2⟩:=ykb ha hb;unfold zc3 at h1 h2;unfold inI at ha hb h1;have hb64:IntKind.i64.bits=64:=rfl;simp [z3g,zy0,hb64];rw [Int.fdiv_eq_ediv_of_nonneg _ (by omega),Int.fdiv_eq_ediv_of_nonneg _ (by omega)];unfold zgb;generalize IntKind.i64.wrap (((a % 18446744073709551616).toNat &&& (b % 18446744073709551616).toNat:Nat):Int)=p at *;have h3:max (p % 18446744073709551616) 0 % 2=p % 2:=by omega
 rw [h3,w64 (x:=p % 2) (by omega) (by omega),w64 (x:=a / 2+b / 2) (by omega) (by omega),w64 (by omega) (by omega)];omega
def zff (s:Int) (b:Bd) (l r:Int):Bd×Bd:=if zg9 b=true then (if s=1 then (⟨b.lo,zfd (zgb l r) b.lo b.hi⟩,⟨zfd (zgb l r) b.lo b.hi,b.hi⟩) else if s = -1 then (⟨zfd (zgb l r) b.lo b.hi,b.hi⟩,⟨b.lo,zfd (zgb l r) b.lo b.hi⟩) else (b,b)) else (b,b)
theorem y46 (s:Int) (b:Bd) (l r:Int) (hl:inI l) (hr:inI r):RUN T zrq [iv s,.agg (bnd b),iv l,iv r]=some ([.agg (bnd (zff s b l r).1),.agg (bnd (zff s b l r).2)],[]):=by
 have e1:=yjv b;have e2:=y44 l r hl hr;have e3:=yjx (zgb l r) b.lo b.hi;refine zae rfl rfl ?_;unfold zff;generalize zg9 b=q at *;generalize zfd (zgb l r) b.lo b.hi=m at *;obtain ⟨lo,hi⟩:=b;simp only [bnd] at *;cases q with
 | false=>simp [zts,ztn,e1]
 | true =>
  by_cases h1:s=1
  ·simp [zts,ztn,e1,e2,e3,h1]
  ·by_cases h2:s = -1 <;> simp [zts,ztn,e1,e2,e3,h1,h2]
theorem y47 (s:Int) (b:Bd) (l r:Int) (hl:inI l) (hr:inI r):RUN T zrh [iv s,.agg (bnd b),iv l,iv r]=some ([.agg (bnd (zff s b l r).1),.agg (bnd (zff s b l r).2)],[]):=by
 have e1:=yju b;have e2:=y45 l r hl hr;have e3:=yjw (zgb l r) b.lo b.hi;refine zae rfl rfl ?_;unfold zff;generalize zg9 b=q at *;generalize zfd (zgb l r) b.lo b.hi=m at *;obtain ⟨lo,hi⟩:=b;simp only [bnd] at *;cases q with
 | false=>simp [ztm,ztn,e1,e2,e3]
 | true =>
  by_cases h1:s=1
  ·simp [ztm,ztn,e1,e2,e3,h1]
  ·by_cases h2:s = -1 <;> simp [ztm,ztn,e1,e2,e3,h1,h2]
theorem y48 (a b:Sl) (ha:slI a) (hb:slI b):RUN T zsc [.agg (slc a),.agg (slc b)]=some ([.agg (slc (zd5 a b).1),bv (zd5 a b).2],[]):=by
 have e1:=z87 a.n b.n ha.1 hb.1;have e2:=z87 a.g b.g ha.2 hb.2;unfold zd5;generalize sbi a.n b.n=x at *;generalize sbi a.g b.g=y at *;obtain ⟨x,xb⟩:=x;obtain ⟨y,yb⟩:=y;simp only at e1 e2 ⊢;refine zae rfl rfl ?_;cases xb <;> cases yb <;> simp [z33,z34,e1,e2,slc]
theorem ym0 (m:List Sl) (x:Sl):zbh m++[[iv x.n,iv x.g]]=zbh (m++[x]):=by simp [zbh,slc]
theorem ym9 {s x:Sl} {h:List Sl} {i:Nat} (hx:h[i]?=some x):zc7 s (h.drop i)=if (zbk s x).2=true then (zc7 (zbk s x).1 (h.drop (i+1))).map ((zbk s x).1 :: ·) else none:=by
 rw [zdi hx,zc7]
theorem y49 (h:List Sl) (hl:h.length<=1048576) (hi : ∀ x∈h,slI x):RUN T zsb [.sl 2 (zbh h)]=some ([.own 2 (zbh (zco h).1),bv (zco h).2],[]):=by
 obtain ⟨R,hR⟩ : ∃ R,R=zco h:=⟨_,rfl⟩;have hR':R=match zc7 ⟨0,0⟩ h with
  | some l=>(l,true)
  | none=>([],false):=by rw [hR]; rfl
 rw [<- hR];clear hR;have hr0:zag 16 0=true:=by decide
 have hr1:zag 16 1=true:=by decide
 refine zae rfl rfl ?_;simp [-getElem?_pos,z31,z32,hr0];refine zaq (fun n st => ∃ (i o e:Nat) (m:List Sl) (s:Sl),i+n=h.length/\m.length=i/\slI s/\zc7 ⟨0,0⟩ h=(zc7 s (h.drop i)).map (m ++ ·)/\st.V 4 = .ref o none e 0 m.length/\st.V 5 = .ptr 1 none 0 0 0/\st.V 12 = .sl 2 (zbh h)/\st.V 13=iv h.length/\st.V 14=iv i/\¬ o=1/\o<st.nx/\1<st.nx/\st.S o=some (.row 2 (zbh m))/\st.S 1=some (.box [iv s.n,iv s.g])) ?_ h.length _ ⟨0,0,0,[],⟨0,0⟩,by omega,rfl,z7i,by simp [zbh]⟩;rintro n st ⟨i,o,ep,m,s,hin,hm,hs,hp,v4,v5,v12,v13,v14,ho1,hox,h1x,hSo,hS1⟩;obtain ⟨x1,x2,x3,x4⟩:=fr hox;obtain ⟨z1,z2,z3,z4⟩:=fr h1x;obtain ⟨a1,a2,a3,a4⟩:=fr (show o<st.nx+1 by omega);obtain ⟨b1,b2,b3,b4⟩:=fr (show o<st.nx+2 by omega);obtain ⟨c1,c2,c3,c4⟩:=fr (show 1<st.nx+1 by omega);obtain ⟨d1,d2,d3,d4⟩:=fr (show 1<st.nx+2 by omega);have ho2 : ¬ 1=o:=fun e=>ho1 e.symm;have hn0 : ¬ st.nx=0:=by omega
 have hn1 : ¬ 1=st.nx+1:=by omega
 by_cases hlt:i<h.length
 ·obtain ⟨x,hx⟩ : ∃ x,h[i]?=some x:=⟨_,bG hlt⟩;have hx':=zmp hx;have hws:=wS hlt (by omega:h.length<=9223372036854775807);have hr16:zag 16 (m.length+1)=true:=by simp [zag]; omega
  have e1:=z9f s x hs (hi x (bF hx));have hpi:=zmh (b:=x) hs;rw [ym9 hx] at hp;generalize zbk s x=p at *;obtain ⟨⟨pn,pg⟩,pb⟩:=p;simp only [slc] at e1 hp hpi;cases pb with
  | false =>
   rw [if_neg (by simp)] at hp;rw [hp] at hR';subst hR';simp [-getElem?_pos,z30,v4,v5,v12,v13,v14,hlt,hx',hSo,hS1,e1,ho1,ho2,hn0,x1,x2,x3,x4,z1,z2,z3,z4,a1,a2,a3,a4,b1,b2,b3,b4,c1,c2,c3,c4,d1,d2,d3,d4];simp [zbh]
  | true =>
   rw [if_pos rfl] at hp;have hsn:=ym0 m ⟨pn,pg⟩;simp only at hsn;simp [-getElem?_pos,z30,v4,v5,v12,v13,v14,hlt,hx',hSo,hS1,hr1,hr16,hws,hsn,e1,ho1,ho2,hn0,x1,x2,x3,x4,z1,z2,z3,z4,a1,a2,a3,a4,b1,b2,b3,b4,c1,c2,c3,c4,d1,d2,d3,d4];exact zaj (n-1) (by omega) ⟨i+1,st.nx+1+2,st.ep,m++[⟨pn,pg⟩],⟨pn,pg⟩,by omega,by simp [hm],hpi,by rw [hp]; cases zc7 ⟨pn,pg⟩ (h.drop (i+1)) <;> simp,by simp,by simp [v5],by simp [v12],by simp [v13],by simp,by omega,by simp,by simp <;> omega,by simp [hn0]⟩
 ·rw [List.drop_eq_nil_of_le (by omega),zc7] at hp;simp only [Option.map_some,List.append_nil] at hp;rw [hp] at hR';subst hR';simp [-getElem?_pos,z30,v4,v13,v14,hlt,hSo]
theorem y5a (h:List Sl) (hl:h.length<=1048576) (hi : ∀ x∈h,slI x):RUN T zsf [.sl 2 (zbh h)]=some ([.own 2 (zbh (zco h).1),bv (zco h).2],[]):=by
 obtain ⟨R,hR⟩ : ∃ R,R=zco h:=⟨_,rfl⟩;have hR':R=match zc7 ⟨0,0⟩ h with
  | some l=>(l,true)
  | none=>([],false):=by rw [hR]; rfl
 rw [<- hR];clear hR;have hr0:zag 16 0=true:=by decide
 have hr1:zag 16 1=true:=by decide
 refine zae rfl rfl ?_;simp [-getElem?_pos,z4c,z32,hr0];refine zaq (fun n st => ∃ (i o e:Nat) (m:List Sl) (s:Sl),i+n=h.length/\m.length=i/\slI s/\zc7 ⟨0,0⟩ h=(zc7 s (h.drop i)).map (m ++ ·)/\st.V 0 = .sl 2 (zbh h)/\st.V 4 = .ref o none e 0 m.length/\st.V 5 = .ptr 1 none 0 0 0/\st.V 6=iv i/\¬ o=1/\o<st.nx/\1<st.nx/\st.S o=some (.row 2 (zbh m))/\st.S 1=some (.box [iv s.n,iv s.g])) ?_ h.length _ ⟨0,0,0,[],⟨0,0⟩,by omega,rfl,z7i,by simp [zbh]⟩;rintro n st ⟨i,o,ep,m,s,hin,hm,hs,hp,v0,v4,v5,v6,ho1,hox,h1x,hSo,hS1⟩;obtain ⟨x1,x2,x3,x4⟩:=fr hox;obtain ⟨z1,z2,z3,z4⟩:=fr h1x;obtain ⟨a1,a2,a3,a4⟩:=fr (show o<st.nx+1 by omega);obtain ⟨c1,c2,c3,c4⟩:=fr (show 1<st.nx+1 by omega);have ho2 : ¬ 1=o:=fun e=>ho1 e.symm;have hn0 : ¬ st.nx=0:=by omega
 have hn1 : ¬ 1=st.nx+1:=by omega
 by_cases hlt:i<h.length
 ·obtain ⟨x,hx⟩ : ∃ x,h[i]?=some x:=⟨_,bG hlt⟩;have hx':=zmp hx;have hws:=wS hlt (by omega:h.length<=9223372036854775807);have hr16:zag 16 (m.length+1)=true:=by simp [zag]; omega
  have e1:=z9g s x hs (hi x (bF hx));have hpi:=zmh (b:=x) hs;rw [ym9 hx] at hp;generalize zbk s x=p at *;obtain ⟨⟨pn,pg⟩,pb⟩:=p;simp only [slc] at e1 hp hpi;cases pb with
  | false =>
   rw [if_neg (by simp)] at hp;rw [hp] at hR';subst hR';simp [-getElem?_pos,z4b,v0,v4,v5,v6,hlt,hx',hSo,hS1,hr0,e1,ho1,ho2,hn0,x1,x2,x3,x4,z1,z2,z3,z4,a1,a2,a3,a4,c1,c2,c3,c4];simp [zbh]
  | true =>
   rw [if_pos rfl] at hp;have hsn:=ym0 m ⟨pn,pg⟩;simp only at hsn;simp [-getElem?_pos,z4b,v0,v4,v5,v6,hlt,hx',hSo,hS1,hr1,hr16,hws,hsn,e1,ho1,ho2,hn0,x1,x2,x3,x4,z1,z2,z3,z4,a1,a2,a3,a4,c1,c2,c3,c4];exact zaj (n-1) (by omega) ⟨i+1,st.nx+2,st.ep,m++[⟨pn,pg⟩],⟨pn,pg⟩,by omega,by simp [hm],hpi,by rw [hp]; cases zc7 ⟨pn,pg⟩ (h.drop (i+1)) <;> simp,by simp [v0],by simp,by simp [v5],by simp,by omega,by simp,by simp <;> omega,by simp [hn0,ho1,ho2]⟩
 ·rw [List.drop_eq_nil_of_le (by omega),zc7] at hp;simp only [Option.map_some,List.append_nil] at hp;rw [hp] at hR';subst hR';simp [-getElem?_pos,z4b,v0,v4,v6,hlt,hSo]
theorem yse (m:List Cnd) (x:Cnd):zcj m++[[iv x.f,iv x.b,iv x.a.n,iv x.a.g,iv x.z.n,iv x.z.g]]=zcj (m++[x]):=by simp [zcj,cnd]
theorem y5b (q:Bool) (H:List (List Sl)) (least:Int) (hH:H.length<=16) (hl : ∀ l∈H,l.length<=16) (hi : ∀ l∈H,∀ x∈l,slI x):RUN T zr2 [.sl 1 (rss q H),iv least]=some ([.own 6 (zcj (zeu H least))],[]):=by
 obtain ⟨R,hR⟩ : ∃ R,R=zeu H least:=⟨_,rfl⟩;have hR':R=(zd3 least 0 H []).getD []:=hR;rw [<- hR];clear hR;have hr0:zag 48 0=true:=by decide
 have hr1:zag 48 1=true:=by decide
 refine zae rfl rfl ?_;simp [-getElem?_pos,z3a,z3b,hr0];refine zaq (fun n st => ∃ (i o e:Nat) (acc:List Cnd),i+n=H.length/\acc.length<=16*i/\zd3 least i (H.drop i) acc=zd3 least 0 H []/\st.V 1=iv least/\st.V 5 = .ref o none e 0 acc.length/\st.V 14 = .sl 1 (rss q H)/\st.V 15=iv H.length/\st.V 16=iv i/\o<st.nx/\st.S o=some (.row 6 (zcj acc))) ?_ H.length _ ⟨0,0,0,[],by omega,by simp [zcj]⟩;rintro n st ⟨i,o,ep,acc,hin,hacc,hF,v1,v5,v14,v15,v16,hox,hSo⟩;obtain ⟨x1,x2,x3,x4⟩:=fr hox
 by_cases hlt:i<H.length
 ·obtain ⟨l,hx⟩ : ∃ x,H[i]?=some x:=⟨_,bG hlt⟩;have hx':=yo1 (q:=q) hx;have hlm:=bF hx;have hws:=wS hlt (by omega:H.length<=9223372036854775807);have hll:=hl l hlm;have e1:=y49 l (by omega) (hi l hlm);obtain ⟨p1,p2,p3⟩:=z95 l;rw [z7d acc hx] at hF;generalize zco l=p at *;obtain ⟨sums,pb⟩:=p;simp only at e1 p1 p2 p3 hF;cases pb with
  | false =>
   rw [if_neg (by simp)] at hF;rw [<- hF] at hR';subst hR';simp [-getElem?_pos,z29,v1,v5,v14,v15,v16,hlt,hx',hSo,e1,x1,x2,x3,x4];simp [zcj]
  | true =>
   rw [if_pos rfl] at hF;have p3:=p3 rfl;simp [-getElem?_pos,z29,v1,v5,v14,v15,v16,hlt,hx',hSo,e1,x1,x2,x3,x4];obtain ⟨tgt,htgt⟩ : ∃ t,t=zfn i (zg0 sums) least 0 sums acc:=⟨_,rfl⟩;rw [<- htgt] at hF;obtain ⟨p,hpe⟩ : ∃ p,p=st.nx:=⟨_,rfl⟩;refine zaq (fun n' s => ∃ (b o' e':Nat) (acc':List Cnd),b+n'=sums.length/\acc'.length<=16*i+b/\zfn i (zg0 sums) least b (sums.drop b) acc'=tgt/\s.V 1=iv least/\s.V 5 = .ref o' none e' 0 acc'.length/\s.V 6=iv i/\s.V 8 = .ref p none st.ep 0 sums.length/\s.V 10=iv b/\s.V 14 = .sl 1 (rss q H)/\s.V 15=iv H.length/\s.V 16=iv i/\¬ o'=p/\o'<s.nx/\p<s.nx/\s.S o'=some (.row 6 (zcj acc'))/\s.S p=some (.row 2 (zbh sums))) ?_ sums.length _ ⟨0,o,ep,acc,by omega,by omega,by rw [htgt]; simp,by simp [v1],by simp [v5],by simp,by simp [hpe],by simp,by simp [v14],by simp [v15],by simp [v16],by omega,by simp; omega,by simp; omega,by simp [x1,x2,x3,x4,hSo,hpe]⟩;clear v1 v5 v14 v15 v16 hox hSo x1 x2 x3 x4;generalize st.ep=ep2;rintro n' s ⟨b,o',e',acc',hbn,hacc',hB,v1,v5,v6,v8,v10,v14,v15,v16,hop,hox,hpx,hSo,hSp⟩;obtain ⟨x1,x2,x3,x4⟩:=fr hox;obtain ⟨z1,z2,z3,z4⟩:=fr hpx;obtain ⟨a1,a2,a3,a4⟩:=fr (show o'<s.nx+1 by omega);obtain ⟨c1,c2,c3,c4⟩:=fr (show p<s.nx+1 by omega);have hpo : ¬ p=o':=fun e=>hop e.symm
   by_cases hb:b+1<sums.length
   ·obtain ⟨x,hx⟩ : ∃ x,sums[b]?=some x:=⟨_,bG (by omega)⟩;obtain ⟨y,hy⟩ : ∃ x,sums[sums.length-1]?=some x:=⟨_,bG (by omega)⟩;have hxs:=zmp hx;have hys:=zmp hy;have hly:=yof hy;have w1:IntKind.i64.wrap ((sums.length:Int)-1)=((sums.length-1:Nat):Int):=by rw [w64 (by omega) (by omega)]; omega
    have w2:=w64 (x:=(b:Int)+1) (by omega) (by omega);have k1:b<sums.length-1:=by omega
    have k2:b<sums.length:=by omega
    have k3:sums.length-1<sums.length:=by omega
    have hr48:zag 48 (acc'.length+1)=true:=by simp [zag]; omega
    have e2:=y48 y x (p2 y (bF hy)) (p2 x (bF hx));rw [z7l acc' hx hb,hly] at hB;generalize zd5 y x=d at *;obtain ⟨⟨dn,dg⟩,db⟩:=d;simp only [slc] at e2 hB;cases db with
    | false =>
     rw [if_neg (by simp)] at hB;rw [<- hB] at hF;simp only at hF;rw [<- hF] at hR';simp only [Option.getD_none] at hR';subst hR';simp [-getElem?_pos,ztu,v1,v5,v6,v8,v10,v14,v15,v16,hSo,hSp,hxs,hys,w1,k1,k2,k3,e2,hop,hpo,x1,x2,x3,x4,z1,z2,z3,z4];simp [zcj]
    | true =>
     rw [if_pos rfl] at hB
     by_cases g1:least<=x.n
     ·by_cases g2:least<=dn
      ·rw [if_pos ⟨g1,g2⟩] at hB;have hsn:=yse acc' ⟨i,b,x,⟨dn,dg⟩⟩;simp only at hsn;simp [-getElem?_pos,ztu,v1,v5,v6,v8,v10,v14,v15,v16,hSo,hSp,hxs,hys,w1,w2,k1,k2,k3,e2,g1,g2,hr1,hr48,hsn,hop,hpo,x1,x2,x3,x4,z1,z2,z3,z4,a1,a2,a3,a4,c1,c2,c3,c4];refine zaj (n'-1) (by omega) ⟨b+1,s.nx+2,s.ep,acc'++[⟨i,b,x,⟨dn,dg⟩⟩],by omega,by simp; omega,by rw [hly]; exact hB,by simp [v1],by simp,by simp [v6],by simp [v8],by simp,by simp [v14],by simp [v15],by simp [v16],by omega,by simp,by simp; omega,by simp [hop,hpo,x1,x2,x3,x4,z1,z2,z3,z4,hSp]⟩
      ·rw [if_neg (fun h=>g2 h.2)] at hB;simp [-getElem?_pos,ztu,v1,v5,v6,v8,v10,v14,v15,v16,hSo,hSp,hxs,hys,w1,w2,k1,k2,k3,e2,g1,g2,hop,hpo,x1,x2,x3,x4,z1,z2,z3,z4];refine zaj (n'-1) (by omega) ⟨b+1,o',e',acc',by omega,by omega,by rw [hly]; exact hB,by simp [v1],by simp [v5],by simp [v6],by simp [v8],by simp,by simp [v14],by simp [v15],by simp [v16],hop,by simp; omega,by simp; omega,by simp [x1,x2,x3,x4,hSo,z1,z2,z3,z4,hSp]⟩
     ·rw [if_neg (fun h=>g1 h.1)] at hB;simp [-getElem?_pos,ztu,v1,v5,v6,v8,v10,v14,v15,v16,hSo,hSp,hxs,hys,w1,w2,k1,k2,k3,e2,g1,hop,hpo,x1,x2,x3,x4,z1,z2,z3,z4];refine zaj (n'-1) (by omega) ⟨b+1,o',e',acc',by omega,by omega,by rw [hly]; exact hB,by simp [v1],by simp [v5],by simp [v6],by simp [v8],by simp,by simp [v14],by simp [v15],by simp [v16],hop,by simp; omega,by simp; omega,by simp [x1,x2,x3,x4,hSo,z1,z2,z3,z4,hSp]⟩
   ·rw [zu4 acc' hb] at hB;rw [<- hB] at hF;simp only at hF;have w1:IntKind.i64.wrap ((sums.length:Int)-1)=(sums.length:Int)-1:=w64 (by omega) (by omega);have k1 : ¬ (b:Int)<(sums.length:Int)-1:=by omega
    simp [-getElem?_pos,ztu,v8,v10,v16,hSp,w1,k1,hws];exact zaj (n-1) (by omega) ⟨i+1,o',e',acc',by omega,by omega,hF,by simp [v1,v5,v14,v15,hox,hSo]⟩
 ·rw [List.drop_eq_nil_of_le (by omega),zd3] at hF;rw [<- hF] at hR';simp only [Option.getD_some] at hR';subst hR';simp [-getElem?_pos,z29,v5,v15,v16,hlt,hSo]
theorem y5c (q:Bool) (H:List (List Sl)) (least:Int) (hH:H.length<=16) (hl : ∀ l∈H,l.length<=16) (hi : ∀ l∈H,∀ x∈l,slI x):RUN T zr6 [.sl 1 (rss q H),iv least]=some ([.own 6 (zcj (zeu H least))],[]):=by
 obtain ⟨R,hR⟩ : ∃ R,R=zeu H least:=⟨_,rfl⟩;have hR':R=(zd3 least 0 H []).getD []:=hR;rw [<- hR];clear hR;have hr0:zag 48 0=true:=by decide
 have hr1:zag 48 1=true:=by decide
 refine zae rfl rfl ?_;simp [-getElem?_pos,z3m,z3b,hr0];refine zaq (fun n st => ∃ (i o e:Nat) (acc:List Cnd),i+n=H.length/\acc.length<=16*i/\zd3 least i (H.drop i) acc=zd3 least 0 H []/\st.V 1=iv least/\st.V 5 = .ref o none e 0 acc.length/\st.V 0 = .sl 1 (rss q H)/\st.V 6=iv i/\o<st.nx/\st.S o=some (.row 6 (zcj acc))) ?_ H.length _ ⟨0,0,0,[],by omega,by simp [zcj]⟩;rintro n st ⟨i,o,ep,acc,hin,hacc,hF,v1,v5,v0,v6,hox,hSo⟩;obtain ⟨x1,x2,x3,x4⟩:=fr hox
 by_cases hlt:i<H.length
 ·obtain ⟨l,hx⟩ : ∃ x,H[i]?=some x:=⟨_,bG hlt⟩;have hx':=yo1 (q:=q) hx;have hlm:=bF hx;have hws:=wS hlt (by omega:H.length<=9223372036854775807);have hll:=hl l hlm;have e1:=y5a l (by omega) (hi l hlm);obtain ⟨p1,p2,p3⟩:=z95 l;rw [z7d acc hx] at hF;generalize zco l=p at *;obtain ⟨sums,pb⟩:=p;simp only at e1 p1 p2 p3 hF;cases pb with
  | false =>
   rw [if_neg (by simp)] at hF;rw [<- hF] at hR';subst hR';simp [-getElem?_pos,z3l,v0,v1,v5,v6,hlt,hx',hSo,e1,hr0,x1,x2,x3,x4];simp [zcj]
  | true =>
   rw [if_pos rfl] at hF;have p3:=p3 rfl;simp [-getElem?_pos,z3l,v0,v1,v5,v6,hlt,hx',hSo,e1,hr0,x1,x2,x3,x4];obtain ⟨tgt,htgt⟩ : ∃ t,t=zfn i (zg0 sums) least 0 sums acc:=⟨_,rfl⟩;rw [<- htgt] at hF;obtain ⟨p,hpe⟩ : ∃ p,p=st.nx:=⟨_,rfl⟩;refine zaq (fun n' s => ∃ (b o' e':Nat) (acc':List Cnd),b+n'=sums.length/\acc'.length<=16*i+b/\zfn i (zg0 sums) least b (sums.drop b) acc'=tgt/\s.V 0 = .sl 1 (rss q H)/\s.V 1=iv least/\s.V 5 = .ref o' none e' 0 acc'.length/\s.V 6=iv i/\s.V 7 = .ref p none st.ep 0 sums.length/\s.V 9=iv b/\¬ o'=p/\o'<s.nx/\p<s.nx/\s.S o'=some (.row 6 (zcj acc'))/\s.S p=some (.row 2 (zbh sums))) ?_ sums.length _ ⟨0,o,ep,acc,by omega,by omega,by rw [htgt]; simp,by simp [v0],by simp [v1],by simp [v5],by simp [v6],by simp [hpe],by simp,by omega,by simp; omega,by simp; omega,by simp [x1,x2,x3,x4,hSo,hpe]⟩;clear v0 v1 v5 v6 hox hSo x1 x2 x3 x4;generalize st.ep=ep2;rintro n' s ⟨b,o',e',acc',hbn,hacc',hB,v0,v1,v5,v6,v7,v9,hop,hox,hpx,hSo,hSp⟩;obtain ⟨x1,x2,x3,x4⟩:=fr hox;obtain ⟨z1,z2,z3,z4⟩:=fr hpx;obtain ⟨a1,a2,a3,a4⟩:=fr (show o'<s.nx+1 by omega);obtain ⟨c1,c2,c3,c4⟩:=fr (show p<s.nx+1 by omega);have hpo : ¬ p=o':=fun e=>hop e.symm;have Z0:=bI hop <| bI hpo <| bI x1 <| bI x2 <| bI x3 <| bI x4 <| bI z1 <| bI z2 <| bI z3 z4
   by_cases hb:b+1<sums.length
   ·obtain ⟨x,hx⟩ : ∃ x,sums[b]?=some x:=⟨_,bG (by omega)⟩;obtain ⟨y,hy⟩ : ∃ x,sums[sums.length-1]?=some x:=⟨_,bG (by omega)⟩;have hxs:=zmp hx;have hys:=zmp hy;have hly:=yof hy;have w1:IntKind.i64.wrap ((sums.length:Int)-1)=((sums.length-1:Nat):Int):=by rw [w64 (by omega) (by omega)]; omega
    have w2:=w64 (x:=(b:Int)+1) (by omega) (by omega);have k1:(b:Int)+1<(sums.length:Int):=by omega
    have k2:b<sums.length:=by omega
    have k3:sums.length-1<sums.length:=by omega
    have hr48:zag 48 (acc'.length+1)=true:=by simp [zag]; omega
    have e2:=z88 y.n x.n (p2 y (bF hy)).1 (p2 x (bF hx)).1;have e3:=z88 y.g x.g (p2 y (bF hy)).2 (p2 x (bF hx)).2;rw [z7l acc' hx hb,hly] at hB;unfold zd5 at hB;generalize sbi y.n x.n=d at *;generalize sbi y.g x.g=d' at *;obtain ⟨dn,db⟩:=d;obtain ⟨dg,db'⟩:=d';simp only at e2 e3 hB;obtain ⟨dd,hdd⟩ : ∃ dd,dd=(db && db'):=⟨_,rfl⟩;rw [<- hdd] at hB;cases dd with
    | false =>
     simp only [Bool.false_eq_true,if_false] at hB;rw [<- hB] at hF;simp only at hF;rw [<- hF] at hR';simp only [Option.getD_none] at hR';subst hR';cases db with
     | false =>
      simp [-getElem?_pos,zon,v0,v1,v5,v6,v7,v9,hSo,hSp,hxs,hys,w1,w2,k1,k2,k3,e2,e3,hr0,Z0,a1,a2,a3,a4,c1,c2,c3,c4];simp [zcj]
     | true =>
      have hd2:db'=false:=by simpa using hdd.symm
      subst hd2;simp [-getElem?_pos,zon,v0,v1,v5,v6,v7,v9,hSo,hSp,hxs,hys,w1,w2,k1,k2,k3,e2,e3,hr0,Z0,a1,a2,a3,a4,c1,c2,c3,c4];simp [zcj]
    | true =>
     obtain ⟨hd1,hd2⟩:db=true/\db'=true:=by simpa using hdd.symm
     subst hd1 hd2;simp only [if_true] at hB
     by_cases g1:least<=x.n
     ·by_cases g2:least<=dn
      ·rw [if_pos ⟨g1,g2⟩] at hB;have hsn:=yse acc' ⟨i,b,x,⟨dn,dg⟩⟩;simp only at hsn;simp [-getElem?_pos,zon,v0,v1,v5,v6,v7,v9,hSo,hSp,hxs,hys,w1,w2,k1,k2,k3,e2,e3,hr0,Z0,a1,a2,a3,a4,c1,c2,c3,c4,g1,g2,hr1,hr48,hsn];refine zaj (n'-1) (by omega) ⟨b+1,s.nx+2,s.ep,acc'++[⟨i,b,x,⟨dn,dg⟩⟩],by omega,by simp; omega,by rw [hly]; exact hB,by simp [v0],by simp [v1],by simp,by simp [v6],by simp [v7],by simp,by omega,by simp,by simp; omega,by simp [Z0,hSp]⟩
      ·rw [if_neg (fun h=>g2 h.2)] at hB;simp [-getElem?_pos,zon,v0,v1,v5,v6,v7,v9,hSo,hSp,hxs,hys,w1,w2,k1,k2,k3,e2,e3,hr0,Z0,a1,a2,a3,a4,c1,c2,c3,c4,g1,g2];refine zaj (n'-1) (by omega) ⟨b+1,o',e',acc',by omega,by omega,by rw [hly]; exact hB,by simp [v0],by simp [v1],by simp [v5],by simp [v6],by simp [v7],by simp,hop,by simp; omega,by simp; omega,by simp [x1,x2,x3,x4,hSo,z1,z2,z3,z4,hSp]⟩
     ·rw [if_neg (fun h=>g1 h.1)] at hB;simp [-getElem?_pos,zon,v0,v1,v5,v6,v7,v9,hSo,hSp,hxs,hys,w1,w2,k1,k2,k3,e2,e3,hr0,Z0,a1,a2,a3,a4,c1,c2,c3,c4,g1];refine zaj (n'-1) (by omega) ⟨b+1,o',e',acc',by omega,by omega,by rw [hly]; exact hB,by simp [v0],by simp [v1],by simp [v5],by simp [v6],by simp [v7],by simp,hop,by simp; omega,by simp; omega,by simp [x1,x2,x3,x4,hSo,z1,z2,z3,z4,hSp]⟩
   ·rw [zu4 acc' hb] at hB;rw [<- hB] at hF;simp only at hF;have w1:IntKind.i64.wrap ((sums.length:Int)-1)=(sums.length:Int)-1:=w64 (by omega) (by omega);have w2:=w64 (x:=(b:Int)+1) (by omega) (by omega);have k1 : ¬ (b:Int)+1<(sums.length:Int):=by omega
    simp [-getElem?_pos,zon,v6,v7,v9,hSp,w2,k1,hws];exact zaj (n-1) (by omega) ⟨i+1,o',e',acc',by omega,by omega,hF,by simp [v1,v5,v0,hox,hSo]⟩
 ·rw [List.drop_eq_nil_of_le (by omega),zd3] at hF;rw [<- hF] at hR';simp only [Option.getD_some] at hR';subst hR';simp [-getElem?_pos,z3l,v0,v5,v6,hlt,hSo]
def zbg (c v:List (List Int)) (g:List Int) (cfg:Cfg) (rows:List Int) (b:Bd):Cnd×Bool:=if zf3 c v g cfg=true then (if (zby c v g rows).2=true then ze7 cfg b (zeu (zby c v g rows).1 cfg.rw) else (zkz,false)) else (zkz,false)
theorem ylg {b g:List Int} : ∀ (rows:List Int) (h h':List Sl),(∀ x∈h,slI x)->zcn b g rows h=some h'->∀ x∈h',slI x
 | [],h,h',hh,e=>by simp [zcn] at e; subst e; exact hh
 | r::rs,h,h',hh,e=>by
  simp only [zcn] at e;split at e
  ·split at e
   ·rename_i s hs;split at e
    ·refine ylg rs _ _ (fun x hx => ?_) e;rcases List.mem_or_eq_of_mem_set hx with h1 | h1
     ·exact hh x h1
     ·subst h1;obtain ⟨_,_,h3,_⟩:=zgh hs;exact zmh (hh _ (bF h3))
    ·cases e
   ·cases e
  ·cases e
theorem y6z (b g rows:List Int) (k:Int) : ∀ x∈(zci b g rows k).1,slI x:=by
 unfold zci;split
 ·cases h:zcn b g rows (List.replicate k.toNat ⟨0,0⟩) with
  | none=>simp
  | some h'=>exact ylg _ _ _ (fun x hx=>by rw [List.eq_of_mem_replicate hx]; exact z7i) h
 ·simp
theorem ymv {g rows:List Int} : ∀ (c v:List (List Int)) (H:List (List Sl)),zbz g rows c v=some H->∀ l∈H,∀ x∈l,slI x
 | [],v,H,h=>by simp [zbz] at h; subst h; simp
 | x::c,[],H,h=>by simp [zbz] at h; subst h; simp
 | x::c,y::v,H,h=>by
  simp only [zbz] at h;split at h
  ·simp only [bB] at h;obtain ⟨H',h1,rfl⟩:=h;intro l hl;rcases List.mem_cons.mp hl with e | e
   ·subst e; exact y6z _ _ _ _
   ·exact ymv c v H' h1 l e
  ·cases h
theorem ypm (c v:List (List Int)) (g rows:List Int) : ∀ l∈(zby c v g rows).1,∀ x∈l,slI x:=by
 unfold zby;split
 ·cases h:zbz g rows c v with
  | none=>simp
  | some H=>exact ymv c v H h
 ·simp
theorem z7c (c v:List (List Int)) (g rows:List Int):(zby c v g rows).1.length<=4:=by
 by_cases h:zdl c v=true
 ·have:=(zuj c v g rows).1;have:=ycd h;omega
 ·unfold zby;rw [if_neg h]; simp
theorem yn0 (c v:List (List Int)) (g rows:List Int) (least:Int):(zeu (zby c v g rows).1 least).length<=1048576/\∀ x∈zeu (zby c v g rows).1 least,zel x:=by
 have h1:=z7c c v g rows;have h2:=(zuj c v g rows).2;obtain ⟨h3,h4⟩:=yo3 (least:=least) h2;exact ⟨by omega,fun x hx=>ynw (by omega) (fun l hl=>Nat.le_trans (h2 l hl) (by omega)) (h4 x hx)⟩
theorem y5d (q:Bool) (c v:List (List Int)) (g:List Int) (cfg:Cfg) (rows:List Int) (b:Bd) (hc : ∀ l∈c,l.length<=1048576) (hv : ∀ l∈v,l.length<=1048576) (hg:g.length<=1048576) (hr:rows.length<=1048576) (hs:cfg.sg.length<=1048576) (hgi : ∀ x∈g,inI x):RUN T zrf [.agg [.sl 1 (rws q c),.sl 1 (rws q v)],.sl 1 (zab g),cfS cfg,.sl 1 (zab rows),.agg (bnd b)]=some ([.agg (cnd (zbg c v g cfg rows b).1),bv (zbg c v g cfg rows b).2],[]):=by
 have e1:=yi8 q c v g cfg (fun l hl=>Nat.le_trans (hc l hl) (by omega)) (fun l hl=>Nat.le_trans (hv l hl) (by omega)) (by omega) (by omega);have e2:=y4j q c v g rows hc hv hg hr hgi;obtain ⟨f1,f2⟩:=yn0 c v g rows cfg.rw;have e3:=y5b true (zby c v g rows).1 cfg.rw (by have:=z7c c v g rows; omega) (fun l hl=>by have:=(zuj c v g rows).2 l hl; omega) (ypm c v g rows);have e4:=y43 cfg b (zeu (zby c v g rows).1 cfg.rw) f1 hs f2;unfold zbg;simp only [zdy,bnd] at e1 e4;generalize zf3 c v g cfg=t at *;generalize zby c v g rows=H at *;obtain ⟨H,hb⟩:=H;simp only at e2 e3 e4 ⊢;generalize ze7 cfg b (zeu H cfg.rw)=r at *;generalize zeu H cfg.rw=L at *;obtain ⟨r,rb⟩:=r;simp only [cnd] at e4 ⊢;refine zae rfl rfl ?_;cases t with
 | false=>simp [-getElem?_pos,ztk,ztl,bnd,e1,zkz]
 | true =>
  cases hb with
  | false=>simp [-getElem?_pos,ztk,ztl,bnd,e1,e2,zkz]
  | true =>
   simp [-getElem?_pos,ztk,ztl,bnd,e1,e2,e3,e4]
theorem y5e (q:Bool) (c v:List (List Int)) (g:List Int) (cfg:Cfg) (rows:List Int) (b:Bd) (hc : ∀ l∈c,l.length<=1048576) (hv : ∀ l∈v,l.length<=1048576) (hg:g.length<=1048576) (hr:rows.length<=1048576) (hs:cfg.sg.length<=1048576) (hgi : ∀ x∈g,inI x):RUN T zrn [.agg [.sl 1 (rws q c),.sl 1 (rws q v)],.sl 1 (zab g),cfS cfg,.sl 1 (zab rows),.agg (bnd b)]=some ([.agg (cnd (zbg c v g cfg rows b).1),bv (zbg c v g cfg rows b).2],[]):=by
 have e1:=yi9 q c v g cfg (fun l hl=>Nat.le_trans (hc l hl) (by omega)) (fun l hl=>Nat.le_trans (hv l hl) (by omega)) (by omega) (by omega);have e2:=y4k q c v g rows hc hv hg hr hgi;obtain ⟨f1,f2⟩:=yn0 c v g rows cfg.rw;have e3:=y5c true (zby c v g rows).1 cfg.rw (by have:=z7c c v g rows; omega) (fun l hl=>by have:=(zuj c v g rows).2 l hl; omega) (ypm c v g rows);have e4:=y42 cfg b (zeu (zby c v g rows).1 cfg.rw) f1 hs f2;unfold zbg;simp only [zdy,bnd] at e1 e4;generalize zf3 c v g cfg=t at *;generalize zby c v g rows=H at *;obtain ⟨H,hb⟩:=H;simp only at e2 e3 e4 ⊢;generalize ze7 cfg b (zeu H cfg.rw)=r at *;generalize zeu H cfg.rw=L at *;obtain ⟨r,rb⟩:=r;simp only [cnd] at e4 ⊢;refine zae rfl rfl ?_;cases t with
 | false=>simp [-getElem?_pos,zto,ztl,bnd,e1,zkz]
 | true =>
  cases hb with
  | false=>simp [-getElem?_pos,zto,ztl,bnd,e1,e2,zkz]
  | true =>
   simp [-getElem?_pos,zto,ztl,bnd,e1,e2,e3,e4]
def zev (g:List Int) (rows:List Int):Sl:=⟨rows.length,(rows.map fun r=>(atI g r).getD 0).sum⟩
def ziw (bins:List Int) (b r:Int):Bool:=match atI bins r with
 | some x=>decide (x<=b)
 | none=>false
def zo8 (bins:List Int) (b r:Int):Bool:=match atI bins r with
 | some x => !decide (x<=b)
 | none=>false
def zct (bins rows:List Int) (b:Int):List Int:=rows.filter (ziw bins b)
def zee (bins rows:List Int) (b:Int):List Int:=rows.filter (zo8 bins b)
structure Pnd where
 r:List Int
 b:Bd
 l:Int
def zjc (c v:List (List Int)) (cfg:Cfg) (x:Pnd) (k:Cnd):Pnd:=⟨zct ((atI v k.f).getD []) x.r k.b,(zff (zei cfg k.f) x.b (zbx cfg x.b k).1 (zbx cfg x.b k).2.1).1,x.l+1⟩
def zjj (c v:List (List Int)) (cfg:Cfg) (x:Pnd) (k:Cnd):Pnd:=⟨zee ((atI v k.f).getD []) x.r k.b,(zff (zei cfg k.f) x.b (zbx cfg x.b k).1 (zbx cfg x.b k).2.1).2,x.l+1⟩
def zdm (g:List Int) (cfg:Cfg) (x:Pnd):Nd:=⟨-1,0,0,0,(zed (zev g x.r) cfg.la x.b).1⟩
def zmg (c:List (List Int)) (k:Cnd) (n:Nat):Nd:=⟨k.f,(atI ((atI c k.f).getD []) k.b).getD 0,n,n+1,0⟩
def goes (c v:List (List Int)) (g:List Int) (cfg:Cfg) (x:Pnd):Bool:=decide (x.l<cfg.de) && (zbg c v g cfg x.r x.b).2
def zd0 (c v:List (List Int)) (g:List Int) (cfg:Cfg):Nat->List Pnd->Nat->List Nd->List Nd
 | 0,_,_,out=>out
 | n+1,q,i,out=>match q[i]? with
  | none=>out
  | some x=>if goes c v g cfg x=true then zd0 c v g cfg n (q++[zjc c v cfg x (zbg c v g cfg x.r x.b).1,zjj c v cfg x (zbg c v g cfg x.r x.b).1]) (i+1) (out++[zmg c (zbg c v g cfg x.r x.b).1 q.length]) else zd0 c v g cfg n q (i+1) (out++[zdm g cfg x])
def zkq:Bd:=⟨-1099511627776,1099511627776⟩
def zem (g:List Int):Pnd:=⟨(List.range g.length).map fun (i:Nat)=>(i:Int),zkq,0⟩
def zb3 (c v:List (List Int)) (g:List Int) (cfg:Cfg):List Nd×Bool:=if zf3 c v g cfg=true then (zd0 c v g cfg 32 [zem g] 0 [],true) else ([],false)
def pot (d:Int) (x:Pnd):Nat:=2 ^ (d+1-x.l).toNat-1
def zjh (d:Int) (l:List Pnd):Nat:=(l.map (pot d)).sum
theorem z6z (d:Int) (x:Pnd) (l:List Pnd):zjh d (x::l)=pot d x+zjh d l:=by simp [zjh]
theorem qah (d:Int) (l m:List Pnd):zjh d (l++m)=zjh d l+zjh d m:=by simp [zjh]
theorem y63 {d:Int} {x:Pnd} (h:x.l<=d):1<=pot d x:=by
 unfold pot;obtain ⟨k,hk⟩ : ∃ k,(d+1-x.l).toNat=k+1:=⟨(d-x.l).toNat,by omega⟩;rw [hk,Nat.pow_succ];have:=Nat.one_le_two_pow (n:=k);omega
theorem y8i {d:Int} {x y z:Pnd} (h:x.l<d) (hy:y.l=x.l+1) (hz:z.l=x.l+1):pot d x=pot d y+pot d z+1:=by
 unfold pot;rw [hy,hz];obtain ⟨k,hk⟩ : ∃ k,(d+1-x.l).toNat=k+1:=⟨(d-x.l).toNat,by omega⟩;have hk2:(d+1-(x.l+1)).toNat=k:=by omega
 rw [hk,hk2,Nat.pow_succ];have:=Nat.one_le_two_pow (n:=k);omega
def zx5 (n:Nat) (d:Int) (x:Pnd):Prop:=(∀ r∈x.r,0<=r/\r<n)/\x.r.length<=n/\0<=x.l/\x.l<=d
theorem ykv {bins rows:List Int} {b r:Int}:(r∈zct bins rows b->r∈rows)/\(r∈zee bins rows b->r∈rows):=⟨fun h=>(List.mem_filter.mp h).1,fun h=>(List.mem_filter.mp h).1⟩
theorem qa8 {n:Nat} {c v:List (List Int)} {cfg:Cfg} {x:Pnd} {k:Cnd} (h:zx5 n cfg.de x) (hl:x.l<cfg.de):zx5 n cfg.de (zjc c v cfg x k)/\zx5 n cfg.de (zjj c v cfg x k):=by
 obtain ⟨h1,h2,h3,h4⟩:=h;refine ⟨⟨fun r hr=>h1 r (ykv.1 hr),Nat.le_trans (List.length_filter_le _ _) h2,?_,?_⟩,⟨fun r hr=>h1 r (ykv.2 hr),Nat.le_trans (List.length_filter_le _ _) h2,?_,?_⟩⟩
 ·show 0<=x.l+1; omega
 ·show x.l+1<=cfg.de; omega
 ·show 0<=x.l+1; omega
 ·show x.l+1<=cfg.de; omega
theorem zxm {c v:List (List Int)} {g:List Int} {cfg:Cfg} (h:zf3 c v g cfg=true):zdl c v=true/\zbf cfg=true/\g.length=zdp v/\(∀ x∈g,-2199023255552<=x/\x<=2199023255552):=by
 unfold zf3 at h;simp only [Bool.and_eq_true,decide_eq_true_eq] at h;exact ⟨h.1.1.1,h.1.1.2,by omega,fun x hx=>zaw.mp (List.all_eq_true.mp h.2 x hx)⟩
theorem ynz {c v:List (List Int)} (h:zdl c v=true):1<=zdp v/\zdp v<=40:=by
 unfold zdl at h;simp only [Bool.and_eq_true] at h;have:=zaw.mp h.1.2;omega
theorem yat {cfg:Cfg} (h:zbf cfg=true):(0<=cfg.de/\cfg.de<=4)/\cfg.sg.length<=4/\(1<=cfg.la/\cfg.la<=100):=by
 unfold zbf at h;simp only [Bool.and_eq_true,decide_eq_true_eq] at h;have h1:=zaw.mp h.1.1.1.1.1.1.1.2;have h2:=zaw.mp h.1.1.1.1.1.2;omega
theorem yl9 {c v:List (List Int)} {g:List Int} {cfg:Cfg} {rows:List Int} {b:Bd} (h:(zbg c v g cfg rows b).2=true):zul (zby c v g rows).1 (zbg c v g cfg rows b).1/\(zby c v g rows).2=true:=by
 unfold zbg at h ⊢;split
 ·rename_i h1;rw [if_pos h1] at h;split
  ·rename_i h2;rw [if_pos h2] at h;obtain ⟨h3,_,_⟩:=yqt h;exact ⟨(yo3 (zuj c v g rows).2).2 _ h3,h2⟩
  ·rename_i h2;rw [if_neg h2] at h; cases h
 ·rename_i h1;rw [if_neg h1] at h; cases h
theorem y5f:RUN T zrm []=some ([.agg (bnd zkq)],[]):=by
 refine zae rfl rfl ?_;simp [z1y,z1l,bnd,zkq]
theorem y5g:RUN T zre []=some ([.agg (bnd zkq)],[]):=by
 refine zae rfl rfl ?_;simp [z1k,z1l,bnd,zkq]
def upl (n:Nat):List Int:=(List.range n).map fun (i:Nat)=>(i:Int)
theorem ynf (n:Nat):upl n++[(n:Int)]=upl (n+1):=by simp [upl,List.range_succ]
@[simp] theorem q0j (n:Nat):(upl n).length=n:=by simp [upl]
@[simp] theorem qss:upl 0=[]:=rfl
theorem y5h (n:Nat) (h1:1<=n) (h2:n<=40):RUN T zrd [iv n]=some ([.own 1 (zab (upl n))],[]):=by
 have e:=zcv n 1 40;rw [zaw.mpr (by omega)] at e;have hr0:zag 8 0=true:=by decide
 have hr1:zag 8 1=true:=by decide
 refine zae rfl rfl ?_;simp [-getElem?_pos,z1i,zza,-zbm,e,hr0];refine zaq (fun k st => ∃ (i o e:Nat),i+k=n/\st.V 3 = .ref o none e 0 i/\st.V 10=iv n/\st.V 11=iv i/\o<st.nx/\st.S o=some (.row 1 (zab (upl i)))) ?_ n _ ⟨0,0,0,by omega,by simp⟩;rintro k st ⟨i,o,ep,hi,v3,v10,v11,hox,hSo⟩;obtain ⟨x1,x2,x3,x4⟩:=fr hox
 by_cases hlt:i<n
 ·have hws:=wS hlt (by omega:n<=9223372036854775807);have hr8:=zcg (n:=i+1) (by omega);have hsn:zab (upl i)++[[iv (i:Int)]]=zab (upl (i+1)):=by rw [zb1,ynf]
  simp [-getElem?_pos,z8q,v3,v10,v11,hSo,hlt,hws,hr1,hr8,hsn,x1,x2,x3,x4];exact zaj (k-1) (by omega) ⟨i+1,st.nx+1,st.ep,by omega,by simp [v10]⟩
 ·have hin:i=n:=by omega
  subst hin;simp [-getElem?_pos,z8q,v3,v10,v11,hSo,hlt]
theorem y5i (n:Nat) (h2:n<=40):RUN T zrl [iv n]=some ([.own 1 (zab (upl n))],[]):=by
 have hr0:zag 8 0=true:=by decide
 have hr1:zag 8 1=true:=by decide
 refine zae rfl rfl ?_;simp [-getElem?_pos,z1w,zza,hr0];refine zaq (fun k st => ∃ (i o e:Nat),i+k=n/\st.V 0=iv n/\st.V 3 = .ref o none e 0 i/\st.V 4=iv i/\o<st.nx/\st.S o=some (.row 1 (zab (upl i)))) ?_ n _ ⟨0,0,0,by omega,by simp⟩;rintro k st ⟨i,o,ep,hi,v0,v3,v4,hox,hSo⟩;obtain ⟨x1,x2,x3,x4⟩:=fr hox;have h3:(n:Int)<=40:=by omega
 by_cases hlt:i<n
 ·have hws:=wS hlt (by omega:n<=9223372036854775807);have hr8:=zcg (n:=i+1) (by omega);have hsn:zab (upl i)++[[iv (i:Int)]]=zab (upl (i+1)):=by rw [zb1,ynf]
  simp [-getElem?_pos,z8s,v0,v3,v4,hSo,hlt,h3,hws,hr1,hr8,hsn,x1,x2,x3,x4];exact zaj (k-1) (by omega) ⟨i+1,st.nx+1,st.ep,by omega,by simp [v0]⟩
 ·have hin:i=n:=by omega
  subst hin;simp [-getElem?_pos,z8s,v0,v3,v4,hSo,hlt]
def zfq (g rows:List Int) (i:Nat):Int:=((rows.take i).map fun r=>(atI g r).getD 0).sum
theorem yk8 {g rows:List Int} {i:Nat} {r x:Int} (hr:rows[i]?=some r) (hx:atI g r=some x):zfq g rows (i+1)=zfq g rows i+x:=by
 unfold zfq;rw [List.take_succ,hr];simp [hx]
theorem z7s {g rows:List Int} (hg : ∀ x∈g,-2199023255552<=x/\x<=2199023255552) : ∀ i:Nat,i<=rows.length -> -2199023255552*(i:Int)<=zfq g rows i/\zfq g rows i<=2199023255552*(i:Int)
 | 0,_=>by simp [zfq]
 | i+1,h=>by
  have ih:=z7s (rows:=rows) hg i (by omega);obtain ⟨r,hr⟩ : ∃ r,rows[i]?=some r:=⟨_,bG (by omega)⟩;have e:zfq g rows (i+1)=zfq g rows i+(atI g r).getD 0:=by
   unfold zfq;rw [List.take_succ,hr];simp
  rw [e];cases hx:atI g r with
  | none=>simp only [Option.getD_none]; omega
  | some x =>
   obtain ⟨_,_,h3,_⟩:=zgh hx;have:=hg x (bF h3);simp only [Option.getD_some]; omega
theorem ybl (g rows:List Int):zev g rows=⟨rows.length,zfq g rows rows.length⟩:=by simp [zev,zfq]
theorem yqc {g rows:List Int} (hg : ∀ x∈g,-2199023255552<=x/\x<=2199023255552) (hl:rows.length<=1048576):slI (zev g rows):=by
 rw [ybl];have:=z7s (rows:=rows) hg rows.length (by omega);exact ⟨by unfold inI; simp only; omega,by unfold inI; simp only; omega⟩
theorem y5j (g rows:List Int) (hg : ∀ x∈g,-2199023255552<=x/\x<=2199023255552) (hr : ∀ r∈rows,0<=r/\r<g.length) (hl:rows.length<=1048576):RUN T zrg [.sl 1 (zab g),.sl 1 (zab rows)]=some ([.agg (slc (zev g rows))],[]):=by
 rw [ybl];refine zae rfl rfl ?_;simp [-getElem?_pos,z1m,z1n];refine zaq (fun k st => ∃ i:Nat,i+k=rows.length/\st.V 0 = .sl 1 (zab g)/\st.V 4 = .ptr 0 none 0 0 0/\st.V 5 = .ptr 1 none 0 0 0/\st.V 11 = .sl 1 (zab rows)/\st.V 12=iv rows.length/\st.V 13=iv i/\1<st.nx/\st.S 1=some (.box [iv rows.length,iv (zfq g rows i)])/\st.S 0=some (.box [iv 0,iv 0])) ?_ rows.length _ ⟨0,by omega,by simp [zfq]⟩;rintro k st ⟨i,hi,v0,v4,v5,v11,v12,v13,h1x,hS1,hS0⟩;obtain ⟨z1,z2,z3,z4⟩:=fr h1x
 by_cases hlt:i<rows.length
 ·obtain ⟨r,hrr⟩ : ∃ r,rows[i]?=some r:=⟨_,bG hlt⟩;obtain ⟨r0,r1⟩:=hr r (bF hrr);obtain ⟨rn,rfl⟩ : ∃ n:Nat,r=n:=⟨r.toNat,by omega⟩;obtain ⟨x,hx⟩ : ∃ x,g[rn]?=some x:=⟨_,bG (by omega)⟩;have hrn:rn<g.length:=by omega
  have hr':=zay hrr;have hx':=zay hx;have hws:=wS hlt (by omega:rows.length<=9223372036854775807);have hs:=yk8 (g:=g) hrr (x:=x) (by unfold atI; rw [if_pos r0]; simpa using hx);have b1:=z7s (rows:=rows) hg (i+1) (by omega);rw [hs] at b1;have hw:=w64 (x:=zfq g rows i+x) (by omega) (by omega);simp [-getElem?_pos,z8r,v0,v4,v5,v11,v12,v13,hS1,hS0,hlt,hr',hx',hrn,hw,hws,z1,z2,z3,z4];exact zaj (k-1) (by omega) ⟨i+1,by omega,by simp [v0,v4,v5,v11,v12,h1x,hs,hS0]⟩
 ·have hin:i=rows.length:=by omega
  subst hin;simp [-getElem?_pos,z8r,v4,v5,v12,v13,hS1,hS0,slc]
theorem y5k (g rows:List Int) (hg : ∀ x∈g,-2199023255552<=x/\x<=2199023255552) (hr : ∀ r∈rows,0<=r/\r<g.length) (hl:rows.length<=1048576):RUN T zro [.sl 1 (zab g),.sl 1 (zab rows)]=some ([.agg (slc (zev g rows))],[]):=by
 rw [ybl];refine zae rfl rfl ?_;simp [-getElem?_pos,z12,z1n];refine zaq (fun k st => ∃ i:Nat,i+k=rows.length/\st.V 0 = .sl 1 (zab g)/\st.V 1 = .sl 1 (zab rows)/\st.V 4 = .ptr 0 none 0 0 0/\st.V 5 = .ptr 1 none 0 0 0/\st.V 6=iv i/\1<st.nx/\st.S 1=some (.box [iv i,iv (zfq g rows i)])/\st.S 0=some (.box [iv 0,iv 0])) ?_ rows.length _ ⟨0,by omega,by simp [zfq]⟩;rintro k st ⟨i,hi,v0,v1,v4,v5,v6,h1x,hS1,hS0⟩;obtain ⟨z1,z2,z3,z4⟩:=fr h1x
 by_cases hlt:i<rows.length
 ·obtain ⟨r,hrr⟩ : ∃ r,rows[i]?=some r:=⟨_,bG hlt⟩;obtain ⟨r0,r1⟩:=hr r (bF hrr);obtain ⟨rn,rfl⟩ : ∃ n:Nat,r=n:=⟨r.toNat,by omega⟩;obtain ⟨x,hx⟩ : ∃ x,g[rn]?=some x:=⟨_,bG (by omega)⟩;have hrn:rn<g.length:=by omega
  have hr':=zay hrr;have hx':=zay hx;have hws:=wS hlt (by omega:rows.length<=9223372036854775807);have hs:=yk8 (g:=g) hrr (x:=x) (by unfold atI; rw [if_pos r0]; simpa using hx);have b1:=z7s (rows:=rows) hg (i+1) (by omega);rw [hs] at b1;have hw:=w64 (x:=zfq g rows i+x) (by omega) (by omega);simp [-getElem?_pos,z8t,v0,v1,v4,v5,v6,hS1,hS0,hlt,hr',hx',hrn,hw,hws,z1,z2,z3,z4];exact zaj (k-1) (by omega) ⟨i+1,by omega,by simp [v0,v1,v4,v5,h1x,hs,hS0]⟩
 ·have hin:i=rows.length:=by omega
  subst hin;simp [-getElem?_pos,z8t,v1,v4,v5,v6,hS1,hS0,slc]
theorem y5l (bins rows:List Int) (b:Int) (hb:bins.length<=1048576) (hl:rows.length<=1048576):RUN T zri [.sl 1 (zab bins),.sl 1 (zab rows),iv b]=some ([.own 1 (zab (zct bins rows b)),.own 1 (zab (zee bins rows b))],[]):=by
 have hr0:zag 8 0=true:=by decide
 have hr1:zag 8 1=true:=by decide
 have w1:=w64 (x:=(bins.length:Int)-1) (by omega) (by omega);refine zae rfl rfl ?_;simp [-getElem?_pos,z1q,z1r,hr0];refine zaq (fun k st => ∃ (i o e p e2:Nat) (m l:List Int),i+k=rows.length/\m.length<=i/\l.length<=i/\m++(rows.drop i).filter (ziw bins b)=zct bins rows b/\l++(rows.drop i).filter (zo8 bins b)=zee bins rows b/\st.V 0 = .sl 1 (zab bins)/\st.V 2=iv b/\st.V 8 = .ref o none e 0 m.length/\st.V 9 = .ref p none e2 0 l.length/\st.V 14 = .sl 1 (zab rows)/\st.V 15=iv rows.length/\st.V 16=iv i/\¬ o=p/\o<st.nx/\p<st.nx/\st.S o=some (.row 1 (zab m))/\st.S p=some (.row 1 (zab l))) ?_ rows.length _ ⟨0,0,0,1,0,[],[],by omega,by simp [zct,zee]⟩;rintro k st ⟨i,o,e,p,e2,m,l,hi,hml,hll,hm,hl2,v0,v2,v8,v9,v14,v15,v16,hop,hox,hpx,hSo,hSp⟩;obtain ⟨x1,x2,x3,x4⟩:=fr hox;obtain ⟨z1,z2,z3,z4⟩:=fr hpx;have hpo : ¬ p=o:=fun e=>hop e.symm
 by_cases hlt:i<rows.length
 ·obtain ⟨r,hrr⟩ : ∃ r,rows[i]?=some r:=⟨_,bG hlt⟩;have hr':=zay hrr;have hws:=wS hlt (by omega:rows.length<=9223372036854775807);have e1:=zcv r 0 ((bins.length:Int)-1);rw [zdi hrr,List.filter_cons] at hm hl2;have hB:ziw bins b r=match atI bins r with
   | some x=>decide (x<=b)
   | none=>false:=rfl
  have hC:zo8 bins b r=match atI bins r with
   | some x => !decide (x<=b)
   | none=>false:=rfl
  have r1:=zcg (n:=m.length+1) (by omega);have r2:=zcg (n:=l.length+1) (by omega);have s1:=zb1 m r;have s2:=zb1 l r;cases hx:atI bins r with
  | none =>
   have hn:=zjg hx;rw [show zai r 0 ((bins.length:Int)-1)=false from by
    cases hw:zai r 0 ((bins.length:Int)-1) with
    | false=>rfl
    | true=>have:=zaw.mp hw; omega] at e1
   rw [hx] at hB hC;rw [hB] at hm;rw [hC] at hl2;simp [-getElem?_pos,zv9,-zbm,v0,v2,v8,v9,v14,v15,v16,hSo,hSp,hlt,hr',hws,w1,e1];exact zaj (k-1) (by omega) ⟨i+1,o,e,p,e2,m,l,by omega,by omega,by omega,by simpa using hm,by simpa using hl2,by simp [v0],by simp [v2],by simp [v8],by simp [v9],by simp [v14],by simp [v15],by simp,hop,by simp [hox,hpx,hSo,hSp]⟩
  | some x =>
   obtain ⟨rn,rfl,hbr,hbl⟩:=zgh hx;rw [show zai rn 0 ((bins.length:Int)-1)=true from zaw.mpr (by omega)] at e1;rw [hx] at hB hC;rw [hB] at hm;rw [hC] at hl2;have hb':=zay hbr
   by_cases hc:x<=b
   ·have d1:decide (x<=b)=true:=decide_eq_true hc;simp only [d1,if_true,Bool.not_true,Bool.false_eq_true,if_false] at hm hl2;simp [-getElem?_pos,zv9,-zbm,v0,v2,v8,v9,v14,v15,v16,hSo,hSp,hlt,hr',hws,w1,e1,hb',hbl,hc,hr1,r1,s1,hop,hpo,x1,x2,x3,x4,z1,z2,z3,z4];exact zaj (k-1) (by omega) ⟨i+1,st.nx+1,st.ep,p,e2,m++[(rn:Int)],l,by omega,by simp; omega,by omega,by simpa using hm,hl2,by simp [v0],by simp [v2],by simp,by simp [v9],by simp [v14],by simp [v15],by simp,by omega,by simp,by simp; omega,by simp [hop,hpo,x1,x2,x3,x4,z1,z2,z3,z4,hSp]⟩
   ·have d1:decide (x<=b)=false:=decide_eq_false hc;simp only [d1,if_true,Bool.not_false,Bool.false_eq_true,if_false] at hm hl2;simp [-getElem?_pos,zv9,-zbm,v0,v2,v8,v9,v14,v15,v16,hSo,hSp,hlt,hr',hws,w1,e1,hb',hbl,hc,hr1,r2,s2,hop,hpo,x1,x2,x3,x4,z1,z2,z3,z4];exact zaj (k-1) (by omega) ⟨i+1,o,e,st.nx+1,st.ep,m,l++[(rn:Int)],by omega,by omega,by simp; omega,hm,by simpa using hl2,by simp [v0],by simp [v2],by simp [v8],by simp,by simp [v14],by simp [v15],by simp,by omega,by simp; omega,by simp [hop,hpo,x1,x2,x3,x4,z1,z2,z3,z4,hSo]⟩
 ·rw [List.drop_eq_nil_of_le (by omega)] at hm hl2;simp only [List.filter_nil,List.append_nil] at hm hl2;subst hm hl2;simp [-getElem?_pos,zv9,v8,v9,v14,v15,v16,hSo,hSp,hlt,hop,hpo]
theorem y5m (bins rows:List Int) (b:Int) (hb:bins.length<=1048576) (hl:rows.length<=1048576):RUN T zrp [.sl 1 (zab bins),.sl 1 (zab rows),iv b]=some ([.own 1 (zab (zct bins rows b)),.own 1 (zab (zee bins rows b))],[]):=by
 have hr0:zag 8 0=true:=by decide
 have hr1:zag 8 1=true:=by decide
 have w1:=w64 (x:=(bins.length:Int)-1) (by omega) (by omega);refine zae rfl rfl ?_;simp [-getElem?_pos,z16,z1r,hr0];refine zaq (fun k st => ∃ (i o e p e2:Nat) (m l:List Int),i+k=rows.length/\m.length<=i/\l.length<=i/\m++(rows.drop i).filter (ziw bins b)=zct bins rows b/\l++(rows.drop i).filter (zo8 bins b)=zee bins rows b/\st.V 0 = .sl 1 (zab bins)/\st.V 1 = .sl 1 (zab rows)/\st.V 2=iv b/\st.V 8 = .ref o none e 0 m.length/\st.V 9 = .ref p none e2 0 l.length/\st.V 10=iv i/\¬ o=p/\o<st.nx/\p<st.nx/\st.S o=some (.row 1 (zab m))/\st.S p=some (.row 1 (zab l))) ?_ rows.length _ ⟨0,0,0,1,0,[],[],by omega,by simp [zct,zee]⟩;rintro k st ⟨i,o,e,p,e2,m,l,hi,hml,hll,hm,hl2,v0,v1,v2,v8,v9,v10,hop,hox,hpx,hSo,hSp⟩;obtain ⟨x1,x2,x3,x4⟩:=fr hox;obtain ⟨z1,z2,z3,z4⟩:=fr hpx;have hpo : ¬ p=o:=fun e=>hop e.symm
 by_cases hlt:i<rows.length
 ·obtain ⟨r,hrr⟩ : ∃ r,rows[i]?=some r:=⟨_,bG hlt⟩;have hr':=zay hrr;have hws:=wS hlt (by omega:rows.length<=9223372036854775807);have e1:=zbn r 0 ((bins.length:Int)-1);rw [zdi hrr,List.filter_cons] at hm hl2;have hB:ziw bins b r=match atI bins r with
   | some x=>decide (x<=b)
   | none=>false:=rfl
  have hC:zo8 bins b r=match atI bins r with
   | some x => !decide (x<=b)
   | none=>false:=rfl
  have r1:=zcg (n:=m.length+1) (by omega);have r2:=zcg (n:=l.length+1) (by omega);have s1:=zb1 m r;have s2:=zb1 l r;cases hx:atI bins r with
  | none =>
   have hn:=zjg hx;rw [show zai r 0 ((bins.length:Int)-1)=false from by
    cases hw:zai r 0 ((bins.length:Int)-1) with
    | false=>rfl
    | true=>have:=zaw.mp hw; omega] at e1
   rw [hx] at hB hC;rw [hB] at hm;rw [hC] at hl2;simp [-getElem?_pos,zwc,-za1,v0,v1,v2,v8,v9,v10,hSo,hSp,hlt,hr',hws,w1,e1];exact zaj (k-1) (by omega) ⟨i+1,o,e,p,e2,m,l,by omega,by omega,by omega,by simpa using hm,by simpa using hl2,by simp [v0],by simp [v1],by simp [v2],by simp [v8],by simp [v9],by simp,hop,by simp [hox,hpx,hSo,hSp]⟩
  | some x =>
   obtain ⟨rn,rfl,hbr,hbl⟩:=zgh hx;rw [show zai rn 0 ((bins.length:Int)-1)=true from zaw.mpr (by omega)] at e1;rw [hx] at hB hC;rw [hB] at hm;rw [hC] at hl2;have hb':=zay hbr
   by_cases hc:x<=b
   ·have d1:decide (x<=b)=true:=decide_eq_true hc;simp only [d1,if_true,Bool.not_true,Bool.false_eq_true,if_false] at hm hl2;simp [-getElem?_pos,zwc,-za1,v0,v1,v2,v8,v9,v10,hSo,hSp,hlt,hr',hws,w1,e1,hb',hbl,hc,hr1,r1,s1,hop,hpo,x1,x2,x3,x4,z1,z2,z3,z4];exact zaj (k-1) (by omega) ⟨i+1,st.nx+1,st.ep,p,e2,m++[(rn:Int)],l,by omega,by simp; omega,by omega,by simpa using hm,hl2,by simp [v0],by simp [v1],by simp [v2],by simp,by simp [v9],by simp,by omega,by simp,by simp; omega,by simp [hop,hpo,x1,x2,x3,x4,z1,z2,z3,z4,hSp]⟩
   ·have d1:decide (x<=b)=false:=decide_eq_false hc;simp only [d1,if_true,Bool.not_false,Bool.false_eq_true,if_false] at hm hl2;simp [-getElem?_pos,zwc,-za1,v0,v1,v2,v8,v9,v10,hSo,hSp,hlt,hr',hws,w1,e1,hb',hbl,hc,hr1,r2,s2,hop,hpo,x1,x2,x3,x4,z1,z2,z3,z4];exact zaj (k-1) (by omega) ⟨i+1,o,e,st.nx+1,st.ep,m,l++[(rn:Int)],by omega,by omega,by simp; omega,hm,by simpa using hl2,by simp [v0],by simp [v1],by simp [v2],by simp [v8],by simp,by simp,by omega,by simp; omega,by simp [hop,hpo,x1,x2,x3,x4,z1,z2,z3,z4,hSo]⟩
 ·rw [List.drop_eq_nil_of_le (by omega)] at hm hl2;simp only [List.filter_nil,List.append_nil] at hm hl2;subst hm hl2;simp [-getElem?_pos,zwc,v1,v8,v9,v10,hSo,hSp,hlt,hop,hpo]
def pnd (x:Pnd):List PV:=[.own 1 (zab x.r),iv x.b.lo,iv x.b.hi,iv x.l]
def zgn (l:List Pnd):List (List PV):=l.map pnd
@[simp] theorem qq5 (l:List Pnd):(zgn l).length=l.length:=by simp [zgn]
theorem yao {l:List Pnd} {i:Nat} {x:Pnd} (h:l[i]?=some x):(zgn l)[i]?=some [.own 1 (zab x.r),iv x.b.lo,iv x.b.hi,iv x.l]:=by simp [zgn,h,pnd]
theorem yn5 {l:List Pnd} {i:Nat} {x:Pnd} (h:l[i]?=some x):zbe (zgn l) i 0=some (1,zab x.r):=by simp [zbe,yao h]
theorem yo5 (l:List Pnd) (x y:Pnd):zgn l++[[.own 1 (zab x.r),iv x.b.lo,iv x.b.hi,iv x.l],[.own 1 (zab y.r),iv y.b.lo,iv y.b.hi,iv y.l]]=zgn (l++[x,y]):=by simp [zgn,pnd]
theorem zmd {α:Type} {l:List α} {i:Nat} {x:α} (h:l[i]?=some x):atI l (i:Int)=some x:=by
 unfold atI;rw [if_pos (by omega)];simpa using h
theorem qd1 {b g rows:List Int} {k:Int} (h:(zci b g rows k).2=true):((zci b g rows k).1.length:Int)=k:=by
 unfold zci at h ⊢;split
 ·rename_i hk;rw [if_pos hk] at h;have hk':=zaw.mp hk;cases e:zcn b g rows (List.replicate k.toNat ⟨0,0⟩) with
  | none=>rw [e] at h; cases h
  | some h'=>have:=yau _ _ _ e; simp at this; simp only; omega
 ·rename_i hk;rw [if_neg hk] at h; cases h
theorem ype {g rows:List Int} : ∀ (c v:List (List Int)) (H:List (List Sl)) (f:Nat) (h:List Sl),zbz g rows c v=some H->H[f]?=some h->∃ x y,c[f]?=some x/\v[f]?=some y/\h.length=x.length+1
 | [],v,H,f,h,e,hf=>by simp [zbz] at e; subst e; simp at hf
 | x::c,[],H,f,h,e,hf=>by simp [zbz] at e; subst e; simp at hf
 | x::c,y::v,H,f,h,e,hf=>by
  simp only [zbz] at e;split at e
  ·rename_i hp;simp only [bB] at e;obtain ⟨H',h1,rfl⟩:=e;cases f with
   | zero =>
    simp at hf;subst hf;have:=qd1 hp;exact ⟨x,y,rfl,rfl,by omega⟩
   | succ f =>
    simp at hf;obtain ⟨x',y',h2,h3,h4⟩:=ype c v H' f h h1 hf;exact ⟨x',y',by simpa using h2,by simpa using h3,h4⟩
  ·cases e
theorem y8t {c v:List (List Int)} {g rows:List Int} {f:Nat} {h:List Sl} (hb:(zby c v g rows).2=true) (hf:(zby c v g rows).1[f]?=some h) : ∃ x y,c[f]?=some x/\v[f]?=some y/\h.length=x.length+1:=by
 unfold zby at hb hf;split at hb
 ·rename_i hg;rw [if_pos hg] at hf;cases e:zbz g rows c v with
  | none=>rw [e] at hb; cases hb
  | some H=>rw [e] at hf; exact ype c v H f h e hf
 ·cases hb
theorem yl2 {c v:List (List Int)} {g:List Int} {cfg:Cfg} {rows:List Int} {b:Bd} (h:(zbg c v g cfg rows b).2=true) : ∃ (f k:Nat) (x y:List Int) (z:Int),(zbg c v g cfg rows b).1.f=f/\(zbg c v g cfg rows b).1.b=k/\c[f]?=some x/\v[f]?=some y/\x[k]?=some z/\zel (zbg c v g cfg rows b).1:=by
 obtain ⟨h1,h2⟩:=yl9 h;have hI:=ynw (by have:=z7c c v g rows; omega) (fun l hl=>Nat.le_trans ((zuj c v g rows).2 l hl) (by omega)) h1;obtain ⟨f,k,l,e1,e2,e3,e4,_,_⟩:=h1;obtain ⟨x,y,hx,hy,hl⟩:=y8t h2 e3;exact ⟨f,k,x,y,x[k]'(by omega),e1,e2,hx,hy,bG (by omega),hI⟩
theorem qbg {x lo hi:Int} (h:lo<=hi):lo<=zfd x lo hi/\zfd x lo hi<=hi:=by
 unfold zfd;split
 ·omega
 ·split <;> omega
theorem qaa {b:Bd} (h:zg9 b=true):b.lo<=b.hi /\ -1099511627776<=b.lo/\b.hi<=1099511627776:=by
 unfold zg9 at h;simp only [Bool.and_eq_true,decide_eq_true_eq] at h;have h1:=h.1.2;have h2:=h.2;unfold zf8 at h1 h2;have:=zaw.mp h1;have:=zaw.mp h2;omega
theorem ypd (s:Sl) (l:Int) (b:Bd) : -1099511627776<=(zed s l b).1/\(zed s l b).1<=1099511627776:=by
 unfold zed;split
 ·rename_i h;simp only [Bool.and_eq_true] at h;obtain ⟨h1,h2,h3⟩:=qaa h.2;have:=qbg (x:=(fdv s.g (s.n+l)).1) h1;simp only; omega
 ·simp
theorem z7v (c:Cfg) (b:Bd) (x:Cnd):inI (zbx c b x).1/\inI (zbx c b x).2.1:=by
 have h1:=ypd x.a c.la b;have h2:=ypd x.z c.la b;unfold zbx inI;split
 ·simp only; omega
 ·simp
def NC (S:Nat->Option Ob) (nx oq:Nat) (m:List Nd) (x:PV):Prop:=(x = .e0/\m=[])\/∃ o e,x = .ref o none e 0 m.length/\5<o/\o<nx/\¬ o=oq/\S o=some (.row 5 (m.map nd))
theorem yci {c v:List (List Int)} {g:List Int} {cfg:Cfg} {n:Nat} {q:List Pnd} {i:Nat} {out:List Nd} (h:q[i]?=none):zd0 c v g cfg n q i out=out:=by
 cases n with
 | zero=>rfl
 | succ n=>rw [zd0,h]
theorem ymt {c v:List (List Int)} {g:List Int} {cfg:Cfg} {n:Nat} {q:List Pnd} {i:Nat} {out:List Nd} {x:Pnd} (h:q[i]?=some x) (hg:goes c v g cfg x=false):zd0 c v g cfg (n+1) q i out=zd0 c v g cfg n q (i+1) (out++[zdm g cfg x]):=by
 rw [zd0,h]; simp [hg]
theorem yrl {c v:List (List Int)} {g:List Int} {cfg:Cfg} {n:Nat} {q:List Pnd} {i:Nat} {out:List Nd} {x:Pnd} (h:q[i]?=some x) (hg:goes c v g cfg x=true):zd0 c v g cfg (n+1) q i out=zd0 c v g cfg n (q++[zjc c v cfg x (zbg c v g cfg x.r x.b).1,zjj c v cfg x (zbg c v g cfg x.r x.b).1]) (i+1) (out++[zmg c (zbg c v g cfg x.r x.b).1 q.length]):=by
 rw [zd0,h]; simp [hg]
structure GI (c v:List (List Int)) (g:List Int) (cfg:Cfg) (n:Nat) (q:List Pnd) (i:Nat) (out:List Nd):Prop where
 n1:i+n=32
 le:i<=q.length
 ql:q.length<=2*i+1
 ol:out.length=i
 po:zjh cfg.de (q.drop i)<=n
 ok : ∀ x∈q,zx5 g.length cfg.de x
 go:zd0 c v g cfg n q i out=zd0 c v g cfg 32 [zem g] 0 []
theorem GI.leaf {c v:List (List Int)} {g:List Int} {cfg:Cfg} {n:Nat} {q:List Pnd} {i:Nat} {out:List Nd} {x:Pnd} (h:GI c v g cfg n q i out) (hx:q[i]?=some x) (hg:goes c v g cfg x=false):1<=n/\GI c v g cfg (n-1) q (i+1) (out++[zdm g cfg x]):=by
 have hp:=h.po;rw [zdi hx,z6z] at hp;have:=y63 (h.ok x (bF hx)).2.2.2;have hlt:=(bD hx).1;obtain ⟨m,rfl⟩ : ∃ m,n=m+1:=⟨n-1,by omega⟩;have:=h.n1;have:=h.ql;exact ⟨by omega,by simp; omega,by omega,by omega,by simp [h.ol],by simp; omega,h.ok,by rw [<- h.go,ymt hx hg]; rfl⟩
theorem GI.cut {c v:List (List Int)} {g:List Int} {cfg:Cfg} {n:Nat} {q:List Pnd} {i:Nat} {out:List Nd} {x:Pnd} (h:GI c v g cfg n q i out) (hx:q[i]?=some x) (hg:goes c v g cfg x=true):1<=n/\GI c v g cfg (n-1) (q++[zjc c v cfg x (zbg c v g cfg x.r x.b).1,zjj c v cfg x (zbg c v g cfg x.r x.b).1]) (i+1) (out++[zmg c (zbg c v g cfg x.r x.b).1 q.length]):=by
 have hp:=h.po;have hlt:=(bD hx).1;have hxo:=h.ok x (bF hx);rw [zdi hx,z6z] at hp;have hlv:x.l<cfg.de:=by
  unfold goes at hg;simp only [Bool.and_eq_true,decide_eq_true_eq] at hg;exact hg.1
 have hk:=y8i (y:=zjc c v cfg x (zbg c v g cfg x.r x.b).1) (z:=zjj c v cfg x (zbg c v g cfg x.r x.b).1) hlv rfl rfl;obtain ⟨m,rfl⟩ : ∃ m,n=m+1:=⟨n-1,by omega⟩;have:=h.n1;have:=h.ql;obtain ⟨ko1,ko2⟩:=qa8 (c:=c) (v:=v) (k:=(zbg c v g cfg x.r x.b).1) hxo hlv;refine ⟨by omega,by simp; omega,by simp; omega,by simp; omega,by simp [h.ol],?_,fun y hy => ?_,by rw [<- h.go,yrl hx hg]; rfl⟩
 ·rw [List.drop_append_of_le_length (by omega),qah,z6z,z6z];have:zjh cfg.de ([]:List Pnd)=0:=rfl;simp only [Nat.add_sub_cancel];omega
 ·rcases List.mem_append.mp hy with e | e
  ·exact h.ok y e
  ·simp only [List.mem_cons,List.not_mem_nil,or_false] at e;rcases e with e | e
   ·subst e; exact ko1
   ·subst e; exact ko2
theorem GI.start {c v:List (List Int)} {g:List Int} {cfg:Cfg} (h:zf3 c v g cfg=true):GI c v g cfg 32 [zem g] 0 []:=by
 obtain ⟨h1,h2,h3,h4⟩:=zxm h;obtain ⟨d1,d2⟩:=(yat h2).1;refine ⟨rfl,by simp,by simp,rfl,?_,fun x hx => ?_,rfl⟩
 ·simp only [List.drop_zero,zjh,List.map_cons,List.map_nil,List.sum_cons,List.sum_nil,pot,zem];have:(cfg.de+1-0).toNat<=5:=by omega
  have:=Nat.pow_le_pow_right (n:=2) (by omega) this;omega
 ·simp only [List.mem_singleton] at hx;subst hx;refine ⟨fun r hr => ?_,by simp [zem],by simp [zem],d1⟩;simp only [zem,List.mem_map,List.mem_range] at hr;obtain ⟨j,hj,rfl⟩:=hr;omega
theorem y5n (q:Bool) (c v:List (List Int)) (g:List Int) (cfg:Cfg) (hc : ∀ l∈c,l.length<=1048576) (hv : ∀ l∈v,l.length<=1048576) (hg:g.length<=1048576) (hs:cfg.sg.length<=1048576) (hgi : ∀ x∈g,inI x):RUN T zqs [.agg [.sl 1 (rws q c),.sl 1 (rws q v)],.sl 1 (zab g),cfS cfg]=some ([.agg [.own 5 ((zb3 c v g cfg).1.map nd)],bv (zb3 c v g cfg).2],[]):=by
 have e1:=yi8 q c v g cfg (fun l hl=>Nat.le_trans (hc l hl) (by omega)) (fun l hl=>Nat.le_trans (hv l hl) (by omega)) (by omega) (by omega);simp only [zdy] at e1;cases ht:zf3 c v g cfg with
 | false =>
  rw [ht] at e1;have hR:zb3 c v g cfg=([],false):=by unfold zb3; rw [ht]; rfl
  rw [hR];refine zae rfl rfl ?_;simp [-getElem?_pos,zvl,zvm,e1]
 | true =>
  rw [ht] at e1;have hR:zb3 c v g cfg=(zd0 c v g cfg 32 [zem g] 0 [],true):=by unfold zb3; rw [if_pos ht]
  rw [hR];obtain ⟨R,hR'⟩ : ∃ R,R=zd0 c v g cfg 32 [zem g] 0 []:=⟨_,rfl⟩;rw [<- hR'];obtain ⟨t1,t2,t3,t4⟩:=zxm ht;obtain ⟨t5,t6⟩:=ynz t1;have e2:=z86 q c v;have e3:=y5h (zdp v) t5 t6;have e4:=y5g;have hr48:zag 48 1=true:=by decide
  have hG:=GI.start ht;have hroot:zgn [zem g]=[[.own 1 (zab (upl (zdp v))),iv zkq.lo,iv zkq.hi,iv 0]]:=by simp [zgn,pnd,zem,t3,upl]
  simp only [bnd] at e4;refine zae rfl rfl ?_;simp [-getElem?_pos,zvl,zvm,e1,e2,e3,e4,hr48];refine zaq (fun n st => ∃ (i o e:Nat) (Q:List Pnd) (out:List Nd) (x:PV),GI c v g cfg n Q i out/\st.V 1 = .sl 1 (zab g)/\st.V 3 = .ptr 0 none 0 0 0/\st.V 5 = .ptr 1 none 0 0 0/\st.V 6 = .ptr 2 none 0 0 0/\st.V 8 = .ref o none e 0 Q.length/\st.V 9 = .ptr 5 none 0 0 0/\st.V 10=iv i/\3<o/\¬ o=5/\o<st.nx/\5<st.nx/\st.S 0=some (.box [.sl 1 (rws q c),.sl 1 (rws q v)])/\st.S 1=some (.box [iv cfg.ro,iv cfg.de,iv cfg.bi,iv cfg.la,iv cfg.rw,iv cfg.nu,iv cfg.dn,.sl 1 (zab cfg.sg)])/\st.S 2=some (.box [.e0])/\st.S 5=some (.box [x])/\st.S o=some (.row 4 (zgn Q))/\NC st.S st.nx o out x) ?_ 32 _ ⟨0,4,0,[zem g],[],.e0,hG,?_⟩
  ·rintro n st ⟨i,o,ep,Q,out,x,hG,v1,v3,v5,v6,v8,v9,v10,ho3,ho5,hox,h5x,hS0,hS1,hS2,hS5,hSo,hN⟩;have Z2:=bI v1 <| bI v3 <| bI v5 <| bI v6 <| bI v8 <| bI v9 <| bI v10 <| bI hS0 <| bI hS1 <| bI hS2 <| bI hS5 hSo
   obtain ⟨Fa01,Fa02,Fa03,Fa04⟩:=fr (show 0<st.nx by omega);obtain ⟨Fb01,Fb02,Fb03,Fb04⟩:=fr (show 1<st.nx by omega);obtain ⟨Fc01,Fc02,Fc03,Fc04⟩:=fr (show 2<st.nx by omega);obtain ⟨Fd01,Fd02,Fd03,Fd04⟩:=fr (show 5<st.nx by omega);obtain ⟨Fo01,Fo02,Fo03,Fo04⟩:=fr (show o<st.nx by omega);have N0a:(o=0)=False:=eq_false (by omega);have N0b:(0=o)=False:=eq_false (by omega);have N1a:(o=1)=False:=eq_false (by omega);have N1b:(1=o)=False:=eq_false (by omega);have N2a:(o=2)=False:=eq_false (by omega);have N2b:(2=o)=False:=eq_false (by omega);have N3a:(o=5)=False:=eq_false (by omega);have N3b:(5=o)=False:=eq_false (by omega);have y0:(st.nx=0)=False:=eq_false (by omega);have y1:(st.nx=1)=False:=eq_false (by omega);have y2:(st.nx=2)=False:=eq_false (by omega);have y3:(st.nx=3)=False:=eq_false (by omega);have y4:(st.nx=4)=False:=eq_false (by omega);have y5:(st.nx=5)=False:=eq_false (by omega);have na : ∀ a b:Nat,st.nx+a+b=st.nx+(a+b):=fun a b=>Nat.add_assoc _ _ _;have Z0:=bI Fa01 <| bI Fa02 <| bI Fa03 <| bI Fa04 <| bI Fb01 <| bI Fb02 <| bI Fb03 <| bI Fb04 <| bI Fc01 <| bI Fc02 <| bI Fc03 <| bI Fc04 <| bI Fd01 <| bI Fd02 <| bI Fd03 <| bI Fd04 <| bI Fo01 <| bI Fo02 <| bI Fo03 <| bI Fo04 <| bI N0a <| bI N0b <| bI N1a <| bI N1b <| bI N2a <| bI N2b <| bI N3a <| bI N3b <| bI y0 <| bI y1 <| bI y2 <| bI y3 <| bI y4 <| bI y5 na
   by_cases hlt:i<Q.length
   ·obtain ⟨p,hp⟩ : ∃ p,Q[i]?=some p:=⟨_,bG hlt⟩;have hp':=yao hp;have hps:=yn5 hp;have hpo:=hG.ok p (bF hp);obtain ⟨p1,p2,p3,p4⟩:=hpo;have hn1:=hG.n1;have hql:=hG.ql;have hws:=wS hlt (by omega:Q.length<=9223372036854775807);have f1:=y5d q c v g cfg p.r p.b hc hv hg (by omega) hs hgi;have f2:=y5j g p.r t4 p1 (by omega);have f3:=z9i (zev g p.r) cfg.la p.b (yqc t4 (by omega));have hr40:zag 40 1=true:=by decide
    have hr41:zag 40 (out.length+1)=true:=by have:=hG.ol; simp [zag]; omega
    have hsn:=z6h out (zdm g cfg p);simp only [zdm] at hsn;simp only [bnd] at f1 f3;obtain ⟨K,hK⟩ : ∃ K,K=zbg c v g cfg p.r p.b:=⟨_,rfl⟩;obtain ⟨G,hGg⟩ : ∃ G,G=goes c v g cfg p:=⟨_,rfl⟩;have hG2:G=(decide (p.l<cfg.de) && K.2):=by rw [hGg,hK]; rfl
    cases G with
    | false =>
     obtain ⟨m1,hG'⟩:=hG.leaf hp hGg.symm;rw [<- hK] at f1;simp only [slc] at f2 f3
     by_cases hlv:p.l<cfg.de
     ·have hK2:K.2=false:=by simpa [hlv] using hG2.symm
      obtain ⟨K,Kb⟩:=K;simp only at hK2 f1;subst hK2;simp only [cnd] at f1;rcases hN with ⟨rfl,rfl⟩ | ⟨w,ew,rfl,hw5,hwx,hwo,hSw⟩
      ·simp [-getElem?_pos,zkd,Z2,hlt,hp',hps,hlv,f1,f2,f3,hws,hr40,Z0];refine zaj (n-1) (by omega) ⟨i+1,o,ep,Q,[zdm g cfg p],.ref (st.nx+3) none st.ep 0 1,hG',by simp [v1],by simp [v3],by simp [v5],by simp [v6],by simp [v8],by simp [v9],by simp,ho3,ho5,(by simp <;> omega),by simp <;> omega,by simp [Z0,hS0],by simp [Z0,hS1],by simp [Z0,hS2],by simp [Z0],by simp [Z0,hSo],.inr ⟨st.nx+3,st.ep,by simp,by omega,by simp <;> omega,by omega,by simp [nd,zdm,y0,y1,y2,y3,y4,y5]⟩⟩
      ·obtain ⟨Fw01,Fw02,Fw03,Fw04⟩:=fr (show w<st.nx by omega);have M0a:(w=0)=False:=eq_false (by omega);have M0b:(0=w)=False:=eq_false (by omega);have M1a:(w=1)=False:=eq_false (by omega);have M1b:(1=w)=False:=eq_false (by omega);have M2a:(w=2)=False:=eq_false (by omega);have M2b:(2=w)=False:=eq_false (by omega);have M3a:(w=5)=False:=eq_false (by omega);have M3b:(5=w)=False:=eq_false (by omega);have M4a:(w=o)=False:=eq_false (by omega);have M4b:(o=w)=False:=eq_false (by omega);have Z1:=bI Z0 <| bI Fw01 <| bI Fw02 <| bI Fw03 <| bI Fw04 <| bI M0a <| bI M0b <| bI M1a <| bI M1b <| bI M2a <| bI M2b <| bI M3a <| bI M3b <| bI M4a M4b
       simp [-getElem?_pos,zkd,Z2,hSw,hlt,hp',hps,hlv,f1,f2,f3,hws,hr40,hr41,hsn,Z1];refine zaj (n-1) (by omega) ⟨i+1,o,ep,Q,out++[zdm g cfg p],.ref (st.nx+3) none st.ep 0 (out.length+1),hG',by simp [v1],by simp [v3],by simp [v5],by simp [v6],by simp [v8],by simp [v9],by simp,ho3,ho5,(by simp <;> omega),by simp <;> omega,by simp [Z1,hS0],by simp [Z1,hS1],by simp [Z1,hS2],by simp [Z1],by simp [Z1,hSo],.inr ⟨st.nx+3,st.ep,by simp,by omega,by simp <;> omega,by omega,by simp [nd,zdm,y0,y1,y2,y3,y4,y5]⟩⟩
     ·rcases hN with ⟨rfl,rfl⟩ | ⟨w,ew,rfl,hw5,hwx,hwo,hSw⟩
      ·simp [-getElem?_pos,zkd,Z2,hlt,hp',hps,hlv,f2,f3,hws,hr40,Z0];refine zaj (n-1) (by omega) ⟨i+1,o,ep,Q,[zdm g cfg p],.ref (st.nx+3) none st.ep 0 1,hG',by simp [v1],by simp [v3],by simp [v5],by simp [v6],by simp [v8],by simp [v9],by simp,ho3,ho5,(by simp <;> omega),by simp <;> omega,by simp [Z0,hS0],by simp [Z0,hS1],by simp [Z0,hS2],by simp [Z0],by simp [Z0,hSo],.inr ⟨st.nx+3,st.ep,by simp,by omega,by simp <;> omega,by omega,by simp [nd,zdm,y0,y1,y2,y3,y4,y5]⟩⟩
      ·obtain ⟨Fw01,Fw02,Fw03,Fw04⟩:=fr (show w<st.nx by omega);have M0a:(w=0)=False:=eq_false (by omega);have M0b:(0=w)=False:=eq_false (by omega);have M1a:(w=1)=False:=eq_false (by omega);have M1b:(1=w)=False:=eq_false (by omega);have M2a:(w=2)=False:=eq_false (by omega);have M2b:(2=w)=False:=eq_false (by omega);have M3a:(w=5)=False:=eq_false (by omega);have M3b:(5=w)=False:=eq_false (by omega);have M4a:(w=o)=False:=eq_false (by omega);have M4b:(o=w)=False:=eq_false (by omega);have Z1:=bI Z0 <| bI Fw01 <| bI Fw02 <| bI Fw03 <| bI Fw04 <| bI M0a <| bI M0b <| bI M1a <| bI M1b <| bI M2a <| bI M2b <| bI M3a <| bI M3b <| bI M4a M4b
       simp [-getElem?_pos,zkd,Z2,hSw,hlt,hp',hps,hlv,f2,f3,hws,hr40,hr41,hsn,Z1];refine zaj (n-1) (by omega) ⟨i+1,o,ep,Q,out++[zdm g cfg p],.ref (st.nx+3) none st.ep 0 (out.length+1),hG',by simp [v1],by simp [v3],by simp [v5],by simp [v6],by simp [v8],by simp [v9],by simp,ho3,ho5,(by simp <;> omega),by simp <;> omega,by simp [Z1,hS0],by simp [Z1,hS1],by simp [Z1,hS2],by simp [Z1],by simp [Z1,hSo],.inr ⟨st.nx+3,st.ep,by simp,by omega,by simp <;> omega,by omega,by simp [nd,zdm,y0,y1,y2,y3,y4,y5]⟩⟩
    | true =>
     obtain ⟨m1,hG'⟩:=hG.cut hp hGg.symm;have t7:=yat t2;have hlv:p.l<cfg.de:=by
      have h9:=hG2.symm;simp only [Bool.and_eq_true,decide_eq_true_eq] at h9;exact h9.1
     have hK2:K.2=true:=by
      have h9:=hG2.symm;simp only [Bool.and_eq_true,decide_eq_true_eq] at h9;exact h9.2
     obtain ⟨kf,kb,X,Y,z,k1,k2,hX,hY,hz,kI⟩:=yl2 (c:=c) (v:=v) (g:=g) (cfg:=cfg) (rows:=p.r) (b:=p.b) (by rw [<- hK]; exact hK2);rw [<- hK] at f1 hG' k1 k2 kI;obtain ⟨⟨kf',kb',ka,kz⟩,Kb⟩:=K;simp only at hK2 k1 k2 kI f1 hG';subst hK2 k1 k2;have hfc:=(bD hX).1;have hfv:=(bD hY).1;have hbx:=(bD hz).1;have hX':=zc8 (q:=q) hX;have hY':=zc8 (q:=q) hY;have hz':=zay hz;have f4:=yjy cfg p.b ⟨kf,kb,ka,kz⟩ kI;have f5:=yj0 cfg kf (by omega);have f6:=y47 (zei cfg kf) p.b (zbx cfg p.b ⟨kf,kb,ka,kz⟩).1 (zbx cfg p.b ⟨kf,kb,ka,kz⟩).2.1 (z7v _ _ _).1 (z7v _ _ _).2;have f7:=y5l Y p.r kb (hv Y (bF hY)) (by omega);have hkl:zjc c v cfg p ⟨kf,kb,ka,kz⟩=⟨zct Y p.r kb,(zff (zei cfg kf) p.b (zbx cfg p.b ⟨kf,kb,ka,kz⟩).1 (zbx cfg p.b ⟨kf,kb,ka,kz⟩).2.1).1,p.l+1⟩:=by
      unfold zjc;simp only [zmd hY,Option.getD_some]
     have hkr:zjj c v cfg p ⟨kf,kb,ka,kz⟩=⟨zee Y p.r kb,(zff (zei cfg kf) p.b (zbx cfg p.b ⟨kf,kb,ka,kz⟩).1 (zbx cfg p.b ⟨kf,kb,ka,kz⟩).2.1).2,p.l+1⟩:=by
      unfold zjj;simp only [zmd hY,Option.getD_some]
     have hcn:zmg c ⟨kf,kb,ka,kz⟩ Q.length=⟨kf,z,Q.length,Q.length+1,0⟩:=by
      unfold zmg;simp only [zmd hX,Option.getD_some,zmd hz]
     rw [hkl,hkr,hcn] at hG';clear hkl hkr hcn;generalize zbx cfg p.b ⟨kf,kb,ka,kz⟩=sv at *;obtain ⟨sl,sr,sb⟩:=sv;simp only at f4 f6 hG';generalize zei cfg kf=sg at *;generalize zff sg p.b sl sr=bb at *;obtain ⟨⟨ll,lh⟩,⟨rl,rh⟩⟩:=bb;generalize zct Y p.r kb=L1 at *;generalize zee Y p.r kb=R1 at *;simp only [bnd,cnd] at f1 f4 f6 hG';have hQ:=yo5 Q ⟨L1,⟨ll,lh⟩,p.l+1⟩ ⟨R1,⟨rl,rh⟩,p.l+1⟩;have hsn2:=z6h out ⟨kf,z,Q.length,Q.length+1,0⟩;simp only at hQ hsn2;have wl:=w64 (x:=p.l+1) (by omega) (by omega);have wq:=w64 (x:=(Q.length:Int)+1) (by omega) (by omega);have hr482:zag 48 2=true:=by decide
     have hr483:zag 48 (Q.length+2)=true:=by simp [zag]; omega
     rcases hN with ⟨rfl,rfl⟩ | ⟨w,ew,rfl,hw5,hwx,hwo,hSw⟩
     ·simp [-getElem?_pos,zkd,Z2,hlt,hp',hps,hlv,f1,f4,f5,f6,f7,hX',hY',hz',hfc,hfv,hbx,wl,wq,hr482,hr483,hQ,hws,hr40,Z0];refine zaj (n-1) (by omega) ⟨i+1,st.nx+9,st.ep,(Q++[⟨L1,⟨ll,lh⟩,p.l+1⟩,⟨R1,⟨rl,rh⟩,p.l+1⟩]),[⟨kf,z,Q.length,Q.length+1,0⟩],.ref (st.nx+7) none st.ep 0 1,hG',by simp [v1],by simp [v3],by simp [v5],by simp [v6],by simp,by simp [v9],by simp,by omega,by omega,by simp,by simp <;> omega,by simp [Z0,hS0],by simp [Z0,hS1],by simp [Z0,hS2],by simp [Z0],by simp [Z0],.inr ⟨st.nx+7,st.ep,by simp,by omega,by simp [nd,Fo03,Fo04,Fo01,Fo02,y0,y1,y2,y3,y4,y5]⟩⟩
     ·obtain ⟨Fw01,Fw02,Fw03,Fw04⟩:=fr (show w<st.nx by omega);have M0a:(w=0)=False:=eq_false (by omega);have M0b:(0=w)=False:=eq_false (by omega);have M1a:(w=1)=False:=eq_false (by omega);have M1b:(1=w)=False:=eq_false (by omega);have M2a:(w=2)=False:=eq_false (by omega);have M2b:(2=w)=False:=eq_false (by omega);have M3a:(w=5)=False:=eq_false (by omega);have M3b:(5=w)=False:=eq_false (by omega);have M4a:(w=o)=False:=eq_false (by omega);have M4b:(o=w)=False:=eq_false (by omega);have Z1:=bI Z0 <| bI Fw01 <| bI Fw02 <| bI Fw03 <| bI Fw04 <| bI M0a <| bI M0b <| bI M1a <| bI M1b <| bI M2a <| bI M2b <| bI M3a <| bI M3b <| bI M4a M4b
      simp [-getElem?_pos,zkd,Z2,hSw,hlt,hp',hps,hlv,f1,f4,f5,f6,f7,hX',hY',hz',hfc,hfv,hbx,wl,wq,hr482,hr483,hQ,hws,hr40,hr41,hsn2,Z1];refine zaj (n-1) (by omega) ⟨i+1,st.nx+9,st.ep,(Q++[⟨L1,⟨ll,lh⟩,p.l+1⟩,⟨R1,⟨rl,rh⟩,p.l+1⟩]),(out++[⟨kf,z,Q.length,Q.length+1,0⟩]),.ref (st.nx+7) none st.ep 0 (out.length+1),hG',by simp [v1],by simp [v3],by simp [v5],by simp [v6],by simp,by simp [v9],by simp,by omega,by omega,by simp,by simp <;> omega,by simp [Z1,hS0],by simp [Z1,hS1],by simp [Z1,hS2],by simp [Z1],by simp [Z1],.inr ⟨st.nx+7,st.ep,by simp,by omega,by simp [nd,Fo03,Fo04,Fo01,Fo02,y0,y1,y2,y3,y4,y5]⟩⟩
   ·have hiq:i=Q.length:=by have:=hG.le; omega
    have hgo:=hG.go;rw [yci (List.getElem?_eq_none (by omega)),<- hR'] at hgo;subst hgo;have hol:=hG.ol;rcases hN with ⟨rfl,rfl⟩ | ⟨w,ew,rfl,hw5,hwx,hwo,hSw⟩
    ·simp [-getElem?_pos,zkd,Z2,hlt,Z0]
    ·obtain ⟨Fw01,Fw02,Fw03,Fw04⟩:=fr (show w<st.nx by omega);have M0a:(w=0)=False:=eq_false (by omega);have M0b:(0=w)=False:=eq_false (by omega);have M1a:(w=1)=False:=eq_false (by omega);have M1b:(1=w)=False:=eq_false (by omega);have M2a:(w=2)=False:=eq_false (by omega);have M2b:(2=w)=False:=eq_false (by omega);have M3a:(w=5)=False:=eq_false (by omega);have M3b:(5=w)=False:=eq_false (by omega);have M4a:(w=o)=False:=eq_false (by omega);have M4b:(o=w)=False:=eq_false (by omega);have Z1:=bI Z0 <| bI Fw01 <| bI Fw02 <| bI Fw03 <| bI Fw04 <| bI M0a <| bI M0b <| bI M1a <| bI M1b <| bI M2a <| bI M2b <| bI M3a <| bI M3b <| bI M4a M4b
     simp [-getElem?_pos,zkd,Z2,hSw,hlt,Z1]
  ·refine ⟨by simp,by simp,by simp,by simp,by simp,by simp,by simp,by simp,by simp,by simp,by simp,by simp,by simp,by simp,by simp,by simp [hroot],.inl ⟨rfl,rfl⟩⟩
theorem y5o (q:Bool) (c v:List (List Int)) (g:List Int) (cfg:Cfg) (hc : ∀ l∈c,l.length<=1048576) (hv : ∀ l∈v,l.length<=1048576) (hg:g.length<=1048576) (hs:cfg.sg.length<=1048576) (hgi : ∀ x∈g,inI x):RUN T zqw [.agg [.sl 1 (rws q c),.sl 1 (rws q v)],.sl 1 (zab g),cfS cfg]=some ([.agg [.own 5 ((zb3 c v g cfg).1.map nd)],bv (zb3 c v g cfg).2],[]):=by
 have e1:=yi9 q c v g cfg (fun l hl=>Nat.le_trans (hc l hl) (by omega)) (fun l hl=>Nat.le_trans (hv l hl) (by omega)) (by omega) (by omega);simp only [zdy] at e1;cases ht:zf3 c v g cfg with
 | false =>
  rw [ht] at e1;have hR:zb3 c v g cfg=([],false):=by unfold zb3; rw [ht]; rfl
  rw [hR];refine zae rfl rfl ?_;simp [-getElem?_pos,zvp,zvm,e1]
 | true =>
  rw [ht] at e1;have hR:zb3 c v g cfg=(zd0 c v g cfg 32 [zem g] 0 [],true):=by unfold zb3; rw [if_pos ht]
  rw [hR];obtain ⟨R,hR'⟩ : ∃ R,R=zd0 c v g cfg 32 [zem g] 0 []:=⟨_,rfl⟩;rw [<- hR'];obtain ⟨t1,t2,t3,t4⟩:=zxm ht;obtain ⟨t5,t6⟩:=ynz t1;have e3:=y5i g.length (by omega);have e4:=y5f;have hr48:zag 48 1=true:=by decide
  have hG:=GI.start ht;have hroot:zgn [zem g]=[[.own 1 (zab (upl g.length)),iv zkq.lo,iv zkq.hi,iv 0]]:=by simp [zgn,pnd,zem,upl]
  simp only [bnd] at e4;refine zae rfl rfl ?_;simp [-getElem?_pos,zvp,zvm,e1,e3,e4,hr48];refine zaq (fun n st => ∃ (i o e:Nat) (Q:List Pnd) (out:List Nd) (x:PV),GI c v g cfg n Q i out/\st.V 1 = .sl 1 (zab g)/\st.V 3 = .ptr 0 none 0 0 0/\st.V 5 = .ptr 1 none 0 0 0/\st.V 6 = .ptr 2 none 0 0 0/\st.V 8 = .ptr 3 none 0 0 0/\st.V 9 = .ref o none e 0 Q.length/\st.V 10=iv i/\4<o/\o<st.nx/\3<st.nx/\st.S 0=some (.box [.sl 1 (rws q c),.sl 1 (rws q v)])/\st.S 1=some (.box [iv cfg.ro,iv cfg.de,iv cfg.bi,iv cfg.la,iv cfg.rw,iv cfg.nu,iv cfg.dn,.sl 1 (zab cfg.sg)])/\st.S 2=some (.box [.e0])/\st.S 3=some (.box [x])/\st.S o=some (.row 4 (zgn Q))/\NC st.S st.nx o out x) ?_ 32 _ ⟨0,5,0,[zem g],[],.e0,hG,?_⟩
  ·rintro n st ⟨i,o,ep,Q,out,x,hG,v1,v3,v5,v6,v8,v9,v10,ho3,hox,h3x,hS0,hS1,hS2,hS3,hSo,hN⟩;have Z2:=bI v1 <| bI v3 <| bI v5 <| bI v6 <| bI v8 <| bI v9 <| bI v10 <| bI hS0 <| bI hS1 <| bI hS2 <| bI hS3 hSo
   obtain ⟨Fa01,Fa02,Fa03,Fa04⟩:=fr (show 0<st.nx by omega);obtain ⟨Fb01,Fb02,Fb03,Fb04⟩:=fr (show 1<st.nx by omega);obtain ⟨Fc01,Fc02,Fc03,Fc04⟩:=fr (show 2<st.nx by omega);obtain ⟨Fd01,Fd02,Fd03,Fd04⟩:=fr (show 3<st.nx by omega);obtain ⟨Fo01,Fo02,Fo03,Fo04⟩:=fr (show o<st.nx by omega);have N0a:(o=0)=False:=eq_false (by omega);have N0b:(0=o)=False:=eq_false (by omega);have N1a:(o=1)=False:=eq_false (by omega);have N1b:(1=o)=False:=eq_false (by omega);have N2a:(o=2)=False:=eq_false (by omega);have N2b:(2=o)=False:=eq_false (by omega);have N3a:(o=3)=False:=eq_false (by omega);have N3b:(3=o)=False:=eq_false (by omega);have y0:(st.nx=0)=False:=eq_false (by omega);have y1:(st.nx=1)=False:=eq_false (by omega);have y2:(st.nx=2)=False:=eq_false (by omega);have y3:(st.nx=3)=False:=eq_false (by omega);have y4:(st.nx=4)=False:=eq_false (by omega);have y5:(st.nx=5)=False:=eq_false (by omega);have na : ∀ a b:Nat,st.nx+a+b=st.nx+(a+b):=fun a b=>Nat.add_assoc _ _ _;have Z0:=bI Fa01 <| bI Fa02 <| bI Fa03 <| bI Fa04 <| bI Fb01 <| bI Fb02 <| bI Fb03 <| bI Fb04 <| bI Fc01 <| bI Fc02 <| bI Fc03 <| bI Fc04 <| bI Fd01 <| bI Fd02 <| bI Fd03 <| bI Fd04 <| bI Fo01 <| bI Fo02 <| bI Fo03 <| bI Fo04 <| bI N0a <| bI N0b <| bI N1a <| bI N1b <| bI N2a <| bI N2b <| bI N3a <| bI N3b <| bI y0 <| bI y1 <| bI y2 <| bI y3 <| bI y4 <| bI y5 na
   by_cases hlt:i<Q.length
   ·obtain ⟨p,hp⟩ : ∃ p,Q[i]?=some p:=⟨_,bG hlt⟩;have hp':=yao hp;have hps:=yn5 hp;have hpo:=hG.ok p (bF hp);obtain ⟨p1,p2,p3,p4⟩:=hpo;have hn1:=hG.n1;have hql:=hG.ql;have hws:=wS hlt (by omega:Q.length<=9223372036854775807);have f1:=y5e q c v g cfg p.r p.b hc hv hg (by omega) hs hgi;have f2:=y5k g p.r t4 p1 (by omega);have f3:=z9j (zev g p.r) cfg.la p.b (yqc t4 (by omega));have hr40:zag 40 1=true:=by decide
    have hr41:zag 40 (out.length+1)=true:=by have:=hG.ol; simp [zag]; omega
    have hsn:=z6h out (zdm g cfg p);simp only [zdm] at hsn;simp only [bnd] at f1 f3;obtain ⟨K,hK⟩ : ∃ K,K=zbg c v g cfg p.r p.b:=⟨_,rfl⟩;obtain ⟨G,hGg⟩ : ∃ G,G=goes c v g cfg p:=⟨_,rfl⟩;have hG2:G=(decide (p.l<cfg.de) && K.2):=by rw [hGg,hK]; rfl
    cases G with
    | false =>
     obtain ⟨m1,hG'⟩:=hG.leaf hp hGg.symm;rw [<- hK] at f1;simp only [slc] at f2 f3
     by_cases hlv:p.l<cfg.de
     ·have hK2:K.2=false:=by simpa [hlv] using hG2.symm
      obtain ⟨K,Kb⟩:=K;simp only at hK2 f1;subst hK2;simp only [cnd] at f1;have hge : ¬ cfg.de<=p.l:=by omega
      rcases hN with ⟨rfl,rfl⟩ | ⟨w,ew,rfl,hw5,hwx,hwo,hSw⟩
      ·simp [-getElem?_pos,zke,Z2,hlt,hp',hps,hge,f1,f2,f3,hws,hr40,Z0];refine zaj (n-1) (by omega) ⟨i+1,o,ep,Q,[zdm g cfg p],.ref (st.nx+3) none st.ep 0 1,hG',by simp [v1],by simp [v3],by simp [v5],by simp [v6],by simp [v8],by simp [v9],by simp,ho3,(by simp <;> omega),by simp <;> omega,by simp [Z0,hS0],by simp [Z0,hS1],by simp [Z0,hS2],by simp [Z0],by simp [Z0,hSo],.inr ⟨st.nx+3,st.ep,by simp,by omega,by simp <;> omega,by omega,by simp [nd,zdm,y0,y1,y2,y3,y4,y5]⟩⟩
      ·obtain ⟨Fw01,Fw02,Fw03,Fw04⟩:=fr (show w<st.nx by omega);have M0a:(w=0)=False:=eq_false (by omega);have M0b:(0=w)=False:=eq_false (by omega);have M1a:(w=1)=False:=eq_false (by omega);have M1b:(1=w)=False:=eq_false (by omega);have M2a:(w=2)=False:=eq_false (by omega);have M2b:(2=w)=False:=eq_false (by omega);have M3a:(w=3)=False:=eq_false (by omega);have M3b:(3=w)=False:=eq_false (by omega);have M4a:(w=o)=False:=eq_false (by omega);have M4b:(o=w)=False:=eq_false (by omega);have Z1:=bI Z0 <| bI Fw01 <| bI Fw02 <| bI Fw03 <| bI Fw04 <| bI M0a <| bI M0b <| bI M1a <| bI M1b <| bI M2a <| bI M2b <| bI M3a <| bI M3b <| bI M4a M4b
       simp [-getElem?_pos,zke,Z2,hSw,hlt,hp',hps,hge,f1,f2,f3,hws,hr40,hr41,hsn,Z1];refine zaj (n-1) (by omega) ⟨i+1,o,ep,Q,out++[zdm g cfg p],.ref (st.nx+3) none st.ep 0 (out.length+1),hG',by simp [v1],by simp [v3],by simp [v5],by simp [v6],by simp [v8],by simp [v9],by simp,ho3,(by simp <;> omega),by simp <;> omega,by simp [Z1,hS0],by simp [Z1,hS1],by simp [Z1,hS2],by simp [Z1],by simp [Z1,hSo],.inr ⟨st.nx+3,st.ep,by simp,by omega,by simp <;> omega,by omega,by simp [nd,zdm,y0,y1,y2,y3,y4,y5]⟩⟩
     ·obtain ⟨K,Kb⟩:=K;simp only [cnd] at f1;have hge:cfg.de<=p.l:=by omega
      rcases hN with ⟨rfl,rfl⟩ | ⟨w,ew,rfl,hw5,hwx,hwo,hSw⟩
      ·simp [-getElem?_pos,zke,Z2,hlt,hp',hps,hge,f1,f2,f3,hws,hr40,Z0];refine zaj (n-1) (by omega) ⟨i+1,o,ep,Q,[zdm g cfg p],.ref (st.nx+3) none st.ep 0 1,hG',by simp [v1],by simp [v3],by simp [v5],by simp [v6],by simp [v8],by simp [v9],by simp,ho3,(by simp <;> omega),by simp <;> omega,by simp [Z0,hS0],by simp [Z0,hS1],by simp [Z0,hS2],by simp [Z0],by simp [Z0,hSo],.inr ⟨st.nx+3,st.ep,by simp,by omega,by simp <;> omega,by omega,by simp [nd,zdm,y0,y1,y2,y3,y4,y5]⟩⟩
      ·obtain ⟨Fw01,Fw02,Fw03,Fw04⟩:=fr (show w<st.nx by omega);have M0a:(w=0)=False:=eq_false (by omega);have M0b:(0=w)=False:=eq_false (by omega);have M1a:(w=1)=False:=eq_false (by omega);have M1b:(1=w)=False:=eq_false (by omega);have M2a:(w=2)=False:=eq_false (by omega);have M2b:(2=w)=False:=eq_false (by omega);have M3a:(w=3)=False:=eq_false (by omega);have M3b:(3=w)=False:=eq_false (by omega);have M4a:(w=o)=False:=eq_false (by omega);have M4b:(o=w)=False:=eq_false (by omega);have Z1:=bI Z0 <| bI Fw01 <| bI Fw02 <| bI Fw03 <| bI Fw04 <| bI M0a <| bI M0b <| bI M1a <| bI M1b <| bI M2a <| bI M2b <| bI M3a <| bI M3b <| bI M4a M4b
       simp [-getElem?_pos,zke,Z2,hSw,hlt,hp',hps,hge,f1,f2,f3,hws,hr40,hr41,hsn,Z1];refine zaj (n-1) (by omega) ⟨i+1,o,ep,Q,out++[zdm g cfg p],.ref (st.nx+3) none st.ep 0 (out.length+1),hG',by simp [v1],by simp [v3],by simp [v5],by simp [v6],by simp [v8],by simp [v9],by simp,ho3,(by simp <;> omega),by simp <;> omega,by simp [Z1,hS0],by simp [Z1,hS1],by simp [Z1,hS2],by simp [Z1],by simp [Z1,hSo],.inr ⟨st.nx+3,st.ep,by simp,by omega,by simp <;> omega,by omega,by simp [nd,zdm,y0,y1,y2,y3,y4,y5]⟩⟩
    | true =>
     obtain ⟨m1,hG'⟩:=hG.cut hp hGg.symm;have t7:=yat t2;have hlv:p.l<cfg.de:=by
      have h9:=hG2.symm;simp only [Bool.and_eq_true,decide_eq_true_eq] at h9;exact h9.1
     have hK2:K.2=true:=by
      have h9:=hG2.symm;simp only [Bool.and_eq_true,decide_eq_true_eq] at h9;exact h9.2
     obtain ⟨kf,kb,X,Y,z,k1,k2,hX,hY,hz,kI⟩:=yl2 (c:=c) (v:=v) (g:=g) (cfg:=cfg) (rows:=p.r) (b:=p.b) (by rw [<- hK]; exact hK2);rw [<- hK] at f1 hG' k1 k2 kI;obtain ⟨⟨kf',kb',ka,kz⟩,Kb⟩:=K;simp only at hK2 k1 k2 kI f1 hG';subst hK2 k1 k2;have hfc:=(bD hX).1;have hfv:=(bD hY).1;have hbx:=(bD hz).1;have hX':=zc8 (q:=q) hX;have hY':=zc8 (q:=q) hY;have hz':=zay hz;have f4:=yjz cfg p.b ⟨kf,kb,ka,kz⟩ kI;have f5:=yj1 cfg kf (by omega);have f6:=y46 (zei cfg kf) p.b (zbx cfg p.b ⟨kf,kb,ka,kz⟩).1 (zbx cfg p.b ⟨kf,kb,ka,kz⟩).2.1 (z7v _ _ _).1 (z7v _ _ _).2;have f7:=y5m Y p.r kb (hv Y (bF hY)) (by omega);have hkl:zjc c v cfg p ⟨kf,kb,ka,kz⟩=⟨zct Y p.r kb,(zff (zei cfg kf) p.b (zbx cfg p.b ⟨kf,kb,ka,kz⟩).1 (zbx cfg p.b ⟨kf,kb,ka,kz⟩).2.1).1,p.l+1⟩:=by
      unfold zjc;simp only [zmd hY,Option.getD_some]
     have hkr:zjj c v cfg p ⟨kf,kb,ka,kz⟩=⟨zee Y p.r kb,(zff (zei cfg kf) p.b (zbx cfg p.b ⟨kf,kb,ka,kz⟩).1 (zbx cfg p.b ⟨kf,kb,ka,kz⟩).2.1).2,p.l+1⟩:=by
      unfold zjj;simp only [zmd hY,Option.getD_some]
     have hcn:zmg c ⟨kf,kb,ka,kz⟩ Q.length=⟨kf,z,Q.length,Q.length+1,0⟩:=by
      unfold zmg;simp only [zmd hX,Option.getD_some,zmd hz]
     rw [hkl,hkr,hcn] at hG';clear hkl hkr hcn;generalize zbx cfg p.b ⟨kf,kb,ka,kz⟩=sv at *;obtain ⟨sl,sr,sb⟩:=sv;simp only at f4 f6 hG';generalize zei cfg kf=sg at *;generalize zff sg p.b sl sr=bb at *;obtain ⟨⟨ll,lh⟩,⟨rl,rh⟩⟩:=bb;generalize zct Y p.r kb=L1 at *;generalize zee Y p.r kb=R1 at *;simp only [bnd,cnd] at f1 f4 f6 hG';have hQ:=yo5 Q ⟨L1,⟨ll,lh⟩,p.l+1⟩ ⟨R1,⟨rl,rh⟩,p.l+1⟩;have hsn2:=z6h out ⟨kf,z,Q.length,Q.length+1,0⟩;simp only at hQ hsn2;have wl:=w64 (x:=p.l+1) (by omega) (by omega);have wq:=w64 (x:=(Q.length:Int)+1) (by omega) (by omega);have hge : ¬ cfg.de<=p.l:=by omega
     have hr482:zag 48 2=true:=by decide
     have hr483:zag 48 (Q.length+2)=true:=by simp [zag]; omega
     rcases hN with ⟨rfl,rfl⟩ | ⟨w,ew,rfl,hw5,hwx,hwo,hSw⟩
     ·simp [-getElem?_pos,zke,Z2,hlt,hp',hps,hge,f1,f4,f5,f6,f7,hX',hY',hz',hfc,hfv,hbx,wl,wq,hr482,hr483,hQ,hws,hr40,Z0];refine zaj (n-1) (by omega) ⟨i+1,st.nx+9,st.ep,(Q++[⟨L1,⟨ll,lh⟩,p.l+1⟩,⟨R1,⟨rl,rh⟩,p.l+1⟩]),[⟨kf,z,Q.length,Q.length+1,0⟩],.ref (st.nx+7) none st.ep 0 1,hG',by simp [v1],by simp [v3],by simp [v5],by simp [v6],by simp [v8],by simp,by simp,by omega,by simp,by simp <;> omega,by simp [Z0,hS0],by simp [Z0,hS1],by simp [Z0,hS2],by simp [Z0],by simp [Z0],.inr ⟨st.nx+7,st.ep,by simp,by omega,by simp [nd,Fo03,Fo04,Fo01,Fo02,y0,y1,y2,y3,y4,y5]⟩⟩
     ·obtain ⟨Fw01,Fw02,Fw03,Fw04⟩:=fr (show w<st.nx by omega);have M0a:(w=0)=False:=eq_false (by omega);have M0b:(0=w)=False:=eq_false (by omega);have M1a:(w=1)=False:=eq_false (by omega);have M1b:(1=w)=False:=eq_false (by omega);have M2a:(w=2)=False:=eq_false (by omega);have M2b:(2=w)=False:=eq_false (by omega);have M3a:(w=3)=False:=eq_false (by omega);have M3b:(3=w)=False:=eq_false (by omega);have M4a:(w=o)=False:=eq_false (by omega);have M4b:(o=w)=False:=eq_false (by omega);have Z1:=bI Z0 <| bI Fw01 <| bI Fw02 <| bI Fw03 <| bI Fw04 <| bI M0a <| bI M0b <| bI M1a <| bI M1b <| bI M2a <| bI M2b <| bI M3a <| bI M3b <| bI M4a M4b
      simp [-getElem?_pos,zke,Z2,hSw,hlt,hp',hps,hge,f1,f4,f5,f6,f7,hX',hY',hz',hfc,hfv,hbx,wl,wq,hr482,hr483,hQ,hws,hr40,hr41,hsn2,Z1];refine zaj (n-1) (by omega) ⟨i+1,st.nx+9,st.ep,(Q++[⟨L1,⟨ll,lh⟩,p.l+1⟩,⟨R1,⟨rl,rh⟩,p.l+1⟩]),(out++[⟨kf,z,Q.length,Q.length+1,0⟩]),.ref (st.nx+7) none st.ep 0 (out.length+1),hG',by simp [v1],by simp [v3],by simp [v5],by simp [v6],by simp [v8],by simp,by simp,by omega,by simp,by simp <;> omega,by simp [Z1,hS0],by simp [Z1,hS1],by simp [Z1,hS2],by simp [Z1],by simp [Z1],.inr ⟨st.nx+7,st.ep,by simp,by omega,by simp [nd,Fo03,Fo04,Fo01,Fo02,y0,y1,y2,y3,y4,y5]⟩⟩
   ·have hiq:i=Q.length:=by have:=hG.le; omega
    have hgo:=hG.go;rw [yci (List.getElem?_eq_none (by omega)),<- hR'] at hgo;subst hgo;have hol:=hG.ol;rcases hN with ⟨rfl,rfl⟩ | ⟨w,ew,rfl,hw5,hwx,hwo,hSw⟩
    ·simp [-getElem?_pos,zke,Z2,hlt,Z0]
    ·obtain ⟨Fw01,Fw02,Fw03,Fw04⟩:=fr (show w<st.nx by omega);have M0a:(w=0)=False:=eq_false (by omega);have M0b:(0=w)=False:=eq_false (by omega);have M1a:(w=1)=False:=eq_false (by omega);have M1b:(1=w)=False:=eq_false (by omega);have M2a:(w=2)=False:=eq_false (by omega);have M2b:(2=w)=False:=eq_false (by omega);have M3a:(w=3)=False:=eq_false (by omega);have M3b:(3=w)=False:=eq_false (by omega);have M4a:(w=o)=False:=eq_false (by omega);have M4b:(o=w)=False:=eq_false (by omega);have Z1:=bI Z0 <| bI Fw01 <| bI Fw02 <| bI Fw03 <| bI Fw04 <| bI M0a <| bI M0b <| bI M1a <| bI M1b <| bI M2a <| bI M2b <| bI M3a <| bI M3b <| bI M4a M4b
     simp [-getElem?_pos,zke,Z2,hSw,hlt,Z1]
  ·refine ⟨by simp,by simp,by simp,by simp,by simp,by simp,by simp,by simp,by simp,by simp,by simp,by simp,by simp,by simp,by simp [hroot],.inl ⟨rfl,rfl⟩⟩
theorem yaq {c v:List (List Int)} {g:List Int} {cfg:Cfg} : ∀ (n:Nat) (q:List Pnd) (i:Nat) (out:List Nd),(zd0 c v g cfg n q i out).length<=out.length+n
 | 0,q,i,out=>by simp [zd0]
 | n+1,q,i,out=>by
  rw [zd0];split
  ·omega
  ·split
   ·refine Nat.le_trans (yaq n _ _ _) ?_;simp; omega
   ·refine Nat.le_trans (yaq n _ _ _) ?_;simp; omega
theorem ych (c v:List (List Int)) (g:List Int) (cfg:Cfg):(zb3 c v g cfg).1.length<=32:=by
 unfold zb3;split
 ·have:=yaq (c:=c) (v:=v) (g:=g) (cfg:=cfg) 32 [zem g] 0 [];simpa using this
 ·simp
theorem y5p {q:Bool} {f:Nat} {cs:List PV} {p:List Int->Bool} (M:List (List Int)) (hl:M.length<=9223372036854775807) (hm:zad T f=[]) (hp : ∀ t∈M,RUN T f [.sl 1 (zab t),.fptr cs 0]=some ([bv (p t)],[])) :
  RUN T zrt [.sl 1 (rws q M),.fn f [.fptr cs 0]]=some ([iv (zh7 p M)],[]):=by
 refine zae rfl rfl ?_;simp [z2m,zy0];refine zaq (fun n st => ∃ i:Nat,i+n=M.length/\st.V 0 = .sl 1 (rws q M)/\st.V 1 = .fn f [.fptr cs 0]/\st.V 8=iv i/\st.V 7=iv M.length/\∀ (j:Nat) (x:List Int),j<i->M[j]?=some x->p x=false) ?_ M.length _ ⟨0,by simp⟩;rintro n st ⟨i,hi,h0,h1,h8,h7,hj⟩;simp [ydj,h0,h1,h8,h7];refine za9 (fun h => ?_) (fun h => ?_)
 ·simp at h;obtain ⟨x,hx⟩ : ∃ x,M[i]?=some x:=⟨_,bG h⟩;have hw:=wS h hl;have hx':=zc8 (q:=q) hx;have hpx:=hp x (bF hx);simp [-getElem?_pos,h0,h1,h8,h7,hx',hw,hm,hpx,h];refine za9 (fun b0 => ?_) (fun b0 => ?_) <;> (try simp at b0) <;> simp [-getElem?_pos,b0,h0,h1,h8,h7,hx',hw]
  all_goals first
   | exact (z6k hx b0 hj).symm
   | exact zaj (n-1) (by omega) ⟨i+1,by omega,by simp [h0],by simp [h1],by simp,by simp [h7],z9x hj hx b0⟩
 ·simp at h;simp [h];exact (z6n fun j x hl hx=>hj j x (by omega) hx).symm
theorem y5q {q:Bool} {f:Nat} {cs:List PV} {p:List Int->Bool} (M:List (List Int)) (hl:M.length<=9223372036854775807) (hm:zad T f=[]) (hp : ∀ t∈M,RUN T f [.sl 1 (zab t),.fptr cs 0]=some ([bv (p t)],[])) :
  RUN T zq3 [.sl 1 (rws q M),.fn f [.fptr cs 0]]=some ([bv (M.any p)],[]):=by
 refine zae rfl rfl ?_;have e:=y5p (q:=q) M hl hm hp;simp [z0m,zy0,e,z61]
def zen (n:Nat) (r:List Int):Bool:=decide ((r.length:Int)=n) && r.all zbi
def zba (t:Ta):Bool:=zai t.ns.length 1 4 && zgj (t.ns++[t.nm]) && zai t.rw.length 1 40 && decide ((t.lb.length:Int)=t.rw.length) && t.lb.all zbi && t.rw.all (zen t.ns.length)
theorem yr2 {L:List ByteArray} {x:ByteArray} {i:Nat} (h:i<L.length):nmB (L++[x]) i=nmB L i:=by
 obtain ⟨y,hy⟩ : ∃ y,L[i]?=some y:=⟨_,bG h⟩;have hy2:(L++[x])[i]?=some y:=by rw [List.getElem?_append_left h]; exact hy
 rw [zx6 hy,zx6 hy2,List.take_append_of_le_length (by omega)]
theorem y98 {L:List ByteArray} {x:ByteArray}:nmB (L++[x]) L.length=(zd4 x && !zge L x):=by
 rw [zx6 (x:=x) (by simp)];simp
theorem y6w (L:List ByteArray) (x:ByteArray):zgj (L++[x])=(zgj L && (zd4 x && !zge L x)):=by
 unfold zgj;rw [show (L++[x]).length=L.length+1 by simp,List.range_succ,List.all_append];simp only [List.all_cons,List.all_nil,Bool.and_true];rw [y98]
 congr 1
 rw [Bool.eq_iff_iff,List.all_eq_true,List.all_eq_true];constructor
 ·intro h j hj; rw [<- yr2 (x:=x) (List.mem_range.mp hj)]; exact h j hj
 ·intro h j hj; rw [yr2 (List.mem_range.mp hj)]; exact h j hj
theorem qdl (l:List ByteArray):zcl (za4 l)=true:=by
 induction l with
 | nil=>rfl
 | cons x l ih=>simpa [za4,zcl] using ih
theorem yk4 (l:List Int):zcl (zab l)=true:=by
 induction l with
 | nil=>rfl
 | cons x l ih=>simpa [zab,zcl] using ih
theorem qb1 (l:List Nd):zcl (l.map nd)=true:=by
 induction l with
 | nil=>rfl
 | cons x l ih=>simpa [nd,zcl] using ih
theorem y5r (l:List ByteArray) (hl:l.length<=1048576):RUN T zqd [.sl 1 (za4 l)]=some ([.own 1 (za4 l)],[]) :=
 yck yea (qdl l) (by simp [zag]; omega)
theorem y5s (l:List Int) (hl:l.length<=1048576):RUN T zqe [.sl 1 (zab l)]=some ([.own 1 (zab l)],[]) :=
 yck yeb (yk4 l) (by simp [zag]; omega)
theorem y5t (l:List Nd) (hl:l.length<=1048576):RUN T zru [.sl 5 (l.map nd)]=some ([.own 5 (l.map nd)],[]) :=
 yck ygm (qb1 l) (by simp [zag]; omega)
theorem y5u (q:Bool) (t:Ta) (r:List Int) (hr:r.length<=9223372036854775807):RUN T zmz [.sl 1 (zab r),.fptr [.sl 1 (za4 t.ns),.v (.string t.nm),.sl 1 (rws q t.rw),.sl 1 (zab t.lb)] 0]=some ([bv (!zen t.ns.length r)],[]):=by
 have e:=z85 r hr;unfold zen;generalize r.all zbi=a at *;refine zae rfl rfl ?_;rcases Classical.propComplete ((r.length:Int)=t.ns.length) with h | h <;> cases a <;> simp [-getElem?_pos,z0o,z0p,e,h]
theorem y8e (l:List ByteArray) (x:ByteArray):za4 l++[[.v (.string x)]]=za4 (l++[x]):=by simp [za4]
theorem z9o (q:Bool) (t:Ta) (ht:TaL 1048576 t):RUN T zlb [taS q t]=some ([bv (zba t)],[]):=by
 have h0:=y5r t.ns ht.ns;have h1:=y4b (t.ns++[t.nm]) (by have:=ht.ns; simp; omega) (fun x hx=>by
  rcases List.mem_append.mp hx with e | e
  ·exact Nat.le_trans (ht.ss x e) (by omega)
  ·simp at e; subst e; exact Nat.le_trans ht.nm (by omega))
 have h2:=z85 t.lb (Nat.le_trans ht.lb (by omega));have h3:=y5q (q:=q) (f:=zmz) (cs:=[.sl 1 (za4 t.ns),.v (.string t.nm),.sl 1 (rws q t.rw),.sl 1 (zab t.lb)]) (p:=fun r => !zen t.ns.length r) t.rw (Nat.le_trans ht.rw (by omega)) (by simp) (fun r hr=>y5u q t r (Nat.le_trans (ht.rr r hr) (by omega)));have e3:(!(t.rw.any fun r => !zen t.ns.length r))=t.rw.all (zen t.ns.length):=by simp [List.any_eq_not_all_not]
 have g1:=zcv t.ns.length 1 4;have g2:=zcv t.rw.length 1 40;have hsn:=y8e t.ns t.nm;have hns:=ht.ns;have hr1:zag 16 1=true:=by decide
 have hr2:zag 16 (t.ns.length+1)=true:=by simp [zag]; omega
 have Z0:=bI g1 <| bI g2 <| bI h0 <| bI h1 <| bI h2 <| bI h3 <| bI hsn <| bI hr1 hr2
 unfold zba;rw [<- e3];clear e3;generalize zgj (t.ns++[t.nm])=a1 at *;generalize t.lb.all zbi=a2 at *;generalize (t.rw.any fun r => !zen t.ns.length r)=a3 at *;generalize zai t.ns.length 1 4=b1 at *;generalize zai t.rw.length 1 40=b2 at *;refine zae rfl rfl ?_;cases b1 with
 | false=>simp [-getElem?_pos,zj9,zn6,-zbm,Z0]
 | true =>
 cases a1 with
 | false=>simp [-getElem?_pos,zj9,zn6,-zbm,Z0]
 | true =>
 cases b2 with
 | false=>simp [-getElem?_pos,zj9,zn6,-zbm,Z0]
 | true =>
 rcases Classical.propComplete ((t.lb.length:Int)=t.rw.length) with h | h
 ·cases a2 with
  | false=>simp [-getElem?_pos,zj9,zn6,-zbm,Z0,h]
  | true=>cases a3 <;> simp [-getElem?_pos,zj9,zn6,-zbm,Z0,h]
 ·simp [-getElem?_pos,zj9,zn6,-zbm,Z0,h]
abbrev taB (q:Bool) (t:Ta):List PV:=[.sl 1 (za4 t.ns),.v (.string t.nm),.sl 1 (rws q t.rw),.sl 1 (zab t.lb)]
theorem qcc (q:Bool) (t:Ta) (ht:TaL 9223372036854775807 t) {Q:Ex->St->Prop} {st:St} (h1:st.V 1 = .ptr 0 none 0 0 0) (h3:st.V 3=iv t.ns.length) (h4:st.V 4=iv (0:Nat)) (hS:st.S 0=some (.box (taB q t)))
  (hr:zgj t.ns=false->∀ s:St,s.V 2=bv false->Q .ret s) (he:zgj t.ns=true->∀ s:St,s.V 1 = .ptr 0 none 0 0 0->s.V 3=iv t.ns.length->s.S 0=some (.box (taB q t))->Q (.exit 0) s):W (zad T) (RUN T) (.loop zsy) st Q:=by
 refine zaq (fun n st => ∃ i:Nat,i+n=t.ns.length/\(∀ j,j<i->nmB t.ns j=true)/\st.V 1 = .ptr 0 none 0 0 0/\st.V 3=iv t.ns.length/\st.V 4=iv i/\st.S 0=some (.box (taB q t))) ?_ t.ns.length _ ⟨0,by omega,fun _ h=>by omega,h1,h3,h4,hS⟩;clear h1 h3 h4 hS;rintro n st ⟨i,hi,hj,v1,v3,v4,hS⟩
 by_cases h:i<t.ns.length
 ·obtain ⟨x,hx⟩ : ∃ x,t.ns[i]?=some x:=⟨_,bG h⟩;have hx':=zue hx;have hw:=wS h ht.ns;have hml:=ht.ns;have hN:=yjd x (ht.ss x (bF hx));have hC:=yje (t.ns.take i) x (by simp; omega);have hc:=zx6 hx;have hil:i<=t.ns.length:=by omega
  cases a1:zd4 x with
  | false =>
   rw [a1] at hN hc;simp [-getElem?_pos,zsy,v1,v3,v4,hS,hx',h,hw,hN];exact hr (zg1 h (by rw [hc]; rfl)) _ (by simp)
  | true =>
   rw [a1] at hN hc;cases a2:zge (t.ns.take i) x with
   | true =>
    rw [a2] at hC hc;simp [-getElem?_pos,zsy,v1,v3,v4,hS,hx',h,hw,hN,hC,hil,z60];exact hr (zg1 h (by rw [hc]; rfl)) _ (by simp)
   | false =>
    rw [a2] at hC hc;simp [-getElem?_pos,zsy,v1,v3,v4,hS,hx',h,hw,hN,hC,hil,z60];exact zaj (n-1) (by omega) ⟨i+1,by omega,zh8 hj (by rw [hc]; rfl),by simp [v1,v3,hS]⟩
 ·simp [-getElem?_pos,zsy,v3,v4,h];exact he (zo1 fun j hj'=>hj j (by omega)) _ (by simp [v1]) (by simp [v3]) (by simp [hS])
theorem qd0 (q:Bool) (t:Ta) (ht:TaL 9223372036854775807 t) {r:List Int} {j:Nat} (hj:t.rw[j]?=some r) (hl:r.length=t.ns.length) {Q:Ex->St->Prop} {st:St} (h1:st.V 1 = .ptr 0 none 0 0 0) (h3:st.V 3=iv t.ns.length) (h5:st.V 5=iv j) (h6:st.V 6=iv (0:Nat)) (hS:st.S 0=some (.box (taB q t)))
  (hr:r.all zbi=false->∀ s:St,s.V 2=bv false->Q .ret s) (he:r.all zbi=true->∀ s:St,s.V 1 = .ptr 0 none 0 0 0->s.V 3=iv t.ns.length->s.V 5=iv j->s.S 0=some (.box (taB q t))->Q (.exit 4) s):W (zad T) (RUN T) (.loop zu9) st Q:=by
 have hj':=zc8 (q:=q) hj;have hjl:=(bD hj).1;refine zaq (fun n st => ∃ i:Nat,i+n=r.length/\(∀ (k:Nat) (x:Int),k<i->r[k]?=some x->zbi x=true)/\st.V 1 = .ptr 0 none 0 0 0/\st.V 3=iv t.ns.length/\st.V 5=iv j/\st.V 6=iv i/\st.S 0=some (.box (taB q t))) ?_ r.length _ ⟨0,by omega,fun _ _ h=>by omega,h1,h3,h5,h6,hS⟩;clear h1 h3 h5 h6 hS;rintro n st ⟨i,hi,hk,v1,v3,v5,v6,hS⟩
 by_cases h:i<t.ns.length
 ·obtain ⟨x,hx⟩ : ∃ x,r[i]?=some x:=⟨_,bG (by omega)⟩;have hx':=zay hx;have hw:=wS h ht.ns;have hir:i<r.length:=by omega
  have hD:=zow x;cases a1:zbi x with
  | false =>
   rw [a1] at hD;simp [-getElem?_pos,zu9,-zow,v1,v3,v5,v6,hS,hj',hjl,hir,hx',h,hw,hD];exact hr (zyb hx a1) _ (by simp)
  | true =>
   rw [a1] at hD;simp [-getElem?_pos,zu9,-zow,v1,v3,v5,v6,hS,hj',hjl,hir,hx',h,hw,hD];exact zaj (n-1) (by omega) ⟨i+1,by omega,zkr (P:=fun _ x=>zbi x=true) hk hx a1,by simp [v1,v3,v5,hS]⟩
 ·simp [-getElem?_pos,zu9,v3,v6,h];exact he (zyp fun k a h1 h2=>hk k a (by omega) h2) _ (by simp [v1]) (by simp [v3]) (by simp [v5]) (by simp [hS])
theorem yp6 {M:List (List Int)} {p:List Int->Bool} {j:Nat} {a:List Int} (h1:M[j]?=some a) (h2:p a=false):M.all p=false:=by
 cases e:M.all p with
 | false=>rfl
 | true=>rw [List.all_eq_true.mp e a (bF h1)] at h2; cases h2
theorem y9y {M:List (List Int)} {p:List Int->Bool} (h : ∀ (j:Nat) (a:List Int),j<M.length->M[j]?=some a->p a=true):M.all p=true:=by
 rw [List.all_eq_true];intro x hx;obtain ⟨j,hj⟩:=bH hx;exact h j x (bD hj).1 hj
theorem qbc (q:Bool) (t:Ta) (ht:TaL 9223372036854775807 t) (hyl:t.lb.length=t.rw.length) {Q:Ex->St->Prop} {st:St} (h1:st.V 1 = .ptr 0 none 0 0 0) (h3:st.V 3=iv t.ns.length) (h5:st.V 5=iv (0:Nat)) (hS:st.S 0=some (.box (taB q t)))
  (hr:(t.lb.all zbi && t.rw.all (zen t.ns.length))=false->∀ s:St,s.V 2=bv false->Q .ret s) (he:(t.lb.all zbi && t.rw.all (zen t.ns.length))=true->∀ s:St,Q (.exit 2) s):W (zad T) (RUN T) (.loop zsz) st Q:=by
 refine zaq (fun n st => ∃ i:Nat,i+n=t.rw.length/\(∀ (k:Nat) (x:Int),k<i->t.lb[k]?=some x->zbi x=true)/\(∀ (k:Nat) (x:List Int),k<i->t.rw[k]?=some x->zen t.ns.length x=true)/\st.V 1 = .ptr 0 none 0 0 0/\st.V 3=iv t.ns.length/\st.V 5=iv i/\st.S 0=some (.box (taB q t))) ?_ t.rw.length _ ⟨0,by omega,fun _ _ h=>by omega,fun _ _ h=>by omega,h1,h3,h5,hS⟩;clear h1 h3 h5 hS;rintro n st ⟨i,hi,hk,hk2,v1,v3,v5,hS⟩
 by_cases h:i<t.rw.length
 ·obtain ⟨r,hx⟩ : ∃ x,t.rw[i]?=some x:=⟨_,bG h⟩;obtain ⟨y,hy⟩ : ∃ x,t.lb[i]?=some x:=⟨_,bG (by omega)⟩;have hx':=zc8 (q:=q) hx;have hy':=zay hy;have hw:=wS h ht.rw;have hil:i<t.lb.length:=by omega
  have hD:=zow y;have hrb:zen t.ns.length r=(decide ((r.length:Int)=t.ns.length) && r.all zbi):=rfl;rcases Classical.propComplete ((r.length:Int)=t.ns.length) with e1 | e1
  ·cases a1:zbi y with
   | false =>
    rw [a1] at hD;simp [-getElem?_pos,zsz,-zow,v1,v3,v5,hS,hx',hy',h,hil,hD,e1];exact hr (by rw [zyb hy a1]; rfl) _ (by simp)
   | true =>
    rw [a1] at hD;have e2:(r.length:Int)=t.ns.length:=by rw [e1]; trivial
    simp [-getElem?_pos,zsz,-zow,v1,v3,v5,hS,hx',hy',h,hil,hD,e1];refine qd0 q t ht hx (by omega) (by simp [v1]) (by simp [v3]) (by simp [v5]) (by simp) (by simp [hS]) (fun no s h2 => ?_) (fun ok s w1 w3 w5 wS => ?_)
    ·simp;refine hr ?_ _ (by simp [h2]);rw [yp6 hx (by rw [hrb,no]; simp)]; simp
    ·simp [-getElem?_pos,w1,w3,w5,wS,hw];exact zaj (n-1) (by omega) ⟨i+1,by omega,zkr (P:=fun _ x=>zbi x=true) hk hy a1,(fun k x h1 h2=>by
      rcases Nat.lt_or_ge k i with h3 | h3
      ·exact hk2 k x h3 h2
      ·have:k=i:=by omega
       subst this;rw [hx] at h2; cases h2;rw [hrb,ok,decide_eq_true e2]; rfl),by simp [w1,w3,wS]⟩
  ·simp [-getElem?_pos,zsz,-zow,v1,v3,v5,hS,hx',hy',h,hil,e1];refine hr ?_ _ (by simp);rw [yp6 hx (by rw [hrb]; simp [e1])]; simp
 ·simp [-getElem?_pos,zsz,v1,v5,hS,h];exact he (by rw [zyp fun k a h1 h2=>hk k a (by omega) h2,y9y fun k a h1 h2=>hk2 k a (by omega) h2]; rfl) _
theorem z6f (q:Bool) (t:Ta) (ht:TaL 9223372036854775807 t):RUN T zju [taS q t]=some ([bv (zba t)],[]):=by
 have g1:=zbn t.ns.length 1 4;have g2:=zbn t.rw.length 1 40;have g3:=yjd t.nm ht.nm;have g4:=yje t.ns t.nm ht.ns;have mod:zba t=(zai t.ns.length 1 4 && (zgj t.ns && (zd4 t.nm && !zge t.ns t.nm)) && zai t.rw.length 1 40 && decide ((t.lb.length:Int)=t.rw.length) && t.lb.all zbi && t.rw.all (zen t.ns.length)):=by
  unfold zba;rw [y6w]
 rw [mod];clear mod;generalize zai t.ns.length 1 4=b1 at *;generalize zai t.rw.length 1 40=b2 at *;generalize zd4 t.nm=b3 at *;generalize zge t.ns t.nm=b4 at *;obtain ⟨R,hR⟩ : ∃ R,R=(b1 && (zgj t.ns && (b3 && !b4)) && b2 && decide ((t.lb.length:Int)=t.rw.length) && t.lb.all zbi && t.rw.all (zen t.ns.length)):=⟨_,rfl⟩;rw [<- hR];refine zae rfl rfl ?_;cases b1 with
 | false =>
  have hR:R=false:=by rw [hR]; simp
  subst hR;simp [-getElem?_pos,zj3,zn6,-za1,g1]
 | true =>
 cases b3 with
 | false =>
  have hR:R=false:=by rw [hR]; simp
  subst hR;simp [-getElem?_pos,zj3,zn6,-za1,g1,g3]
 | true =>
 cases b4 with
 | true =>
  have hR:R=false:=by rw [hR]; simp
  subst hR;simp [-getElem?_pos,zj3,zn6,-za1,g1,g3,g4]
 | false =>
 cases b2 with
 | false =>
  have hR:R=false:=by rw [hR]; simp
  subst hR;simp [-getElem?_pos,zj3,zn6,-za1,g1,g2,g3,g4]
 | true =>
 by_cases e2:(t.lb.length:Int)=t.rw.length
 ·have e1:((t.lb.length:Int)=t.rw.length)=True:=eq_true e2;rw [decide_eq_true e2] at hR;simp [-getElem?_pos,zj3,zn6,-za1,g1,g2,g3,g4,e1];refine qcc q t ht (by simp) (by simp) (by simp) (by simp) (fun no s h2 => ?_) (fun ok s u1 u3 uS => ?_)
  ·have hR:R=false:=by rw [hR,no]; simp
   simp [h2,hR]
  ·simp [-getElem?_pos,u1,u3,uS];refine qbc q t ht (by omega) (by simp [u1]) (by simp [u3]) (by simp) (by simp [uS]) (fun no s h2 => ?_) (fun ok2 s => ?_)
   ·have hR:R=false:=by rw [hR,ok]; generalize t.lb.all zbi=a at *; generalize t.rw.all (zen t.ns.length)=b at *; cases a <;> cases b <;> first | rfl | cases no
    simp [h2,hR]
   ·have hR:R=true:=by rw [hR,ok]; generalize t.lb.all zbi=a at *; generalize t.rw.all (zen t.ns.length)=b at *; cases a <;> cases b <;> first | rfl | cases ok2
    simp [hR]
 ·have e1:((t.lb.length:Int)=t.rw.length)=False:=eq_false e2;have hR:R=false:=by rw [hR,decide_eq_false e2]; simp
  subst hR;simp [-getElem?_pos,zj3,zn6,-za1,g1,g2,g3,g4,e1]
theorem yj2 (t:List Nd) (hl:t.length<=1048576):RUN T zm1 [.agg [.sl 5 (t.map nd)]]=some ([.agg [.own 5 (t.map nd)]],[]):=by
 have e:=y5t t hl;refine zae rfl rfl ?_;simp [-getElem?_pos,z0s,z0t,e]
theorem yj3 (t:List Nd) (hl:t.length<=1048576):RUN T zm2 [.agg [.sl 5 (t.map nd)]]=some ([.agg [.own 5 (t.map nd)]],[]):=by
 have h0:zag 40 0=true:=by decide
 have h1:zag 40 t.length=true:=by simp [zag]; omega
 have h2:=y7f t;refine zae rfl rfl ?_;simp [-getElem?_pos,z0w,z0t,h0,h1,h2]
theorem y5v (q:Bool) (M:List (List Nd)) (hl:M.length<=1048576) (ht : ∀ t∈M,t.length<=1048576):RUN T zqf [.sl 1 (trs q M)]=some ([.own 1 (trs true M)],[]):=by
 have hr0:zag 24 0=true:=by decide
 have hr1:zag 24 1=true:=by decide
 refine zae rfl rfl ?_;simp [-getElem?_pos,zzj,zza,hr0];refine zaq (fun n st => ∃ (i o e:Nat),i+n=M.length/\st.V 3 = .ref o none e 0 i/\st.V 7 = .sl 1 (trs q M)/\st.V 8=iv M.length/\st.V 9=iv i/\o<st.nx/\st.S o=some (.row 1 (trs true (M.take i)))) ?_ M.length _ ⟨0,0,0,by omega,by simp [trs]⟩;rintro n st ⟨i,o,ep,hi,v3,v7,v8,v9,hox,hSo⟩;obtain ⟨x1,x2,x3,x4⟩:=fr hox;have na : ∀ a b:Nat,st.nx+a+b=st.nx+(a+b):=fun a b=>Nat.add_assoc _ _ _
 by_cases h:i<M.length
 ·obtain ⟨t,hx⟩ : ∃ t,M[i]?=some t:=⟨_,bG h⟩;have hx':=yay (q:=q) hx;have hw:=wS h (by omega:M.length<=9223372036854775807);have e1:=yj2 t (ht t (bF hx));have hr24:zag 24 (i+1)=true:=by simp [zag]; omega
  have hsn:trs true (M.take i)++[[.own 5 (t.map nd)]]=trs true (M.take (i+1)):=by rw [ykq,List.take_succ,hx]; rfl
  have hml:(M.take i).length=i:=by simp; omega
  simp [-getElem?_pos,z8h,v3,v7,v8,v9,hSo,h,hx',hw,e1,hr1,hr24,hsn,hml,x1,x2,x3,x4,na];exact zaj (n-1) (by omega) ⟨i+1,st.nx+3,st.ep,by omega,by simp; omega,by simp [v7,v8]⟩
 ·have e:i=M.length:=by omega
  subst e;rw [List.take_length] at hSo;simp [-getElem?_pos,z8h,v3,v8,v9,hSo,h]
theorem y5w (q:Bool) (M:List (List Nd)) (hl:M.length<=1048576) (ht : ∀ t∈M,t.length<=1048576):RUN T zqh [.sl 1 (trs q M)]=some ([.own 1 (trs true M)],[]):=by
 have hr0:zag 24 0=true:=by decide
 have hr1:zag 24 1=true:=by decide
 refine zae rfl rfl ?_;simp [-getElem?_pos,zzn,zza,hr0];refine zaq (fun n st => ∃ (i o e:Nat),i+n=M.length/\st.V 0 = .sl 1 (trs q M)/\st.V 3 = .ref o none e 0 i/\st.V 4=iv i/\o<st.nx/\st.S o=some (.row 1 (trs true (M.take i)))) ?_ M.length _ ⟨0,0,0,by omega,by simp [trs]⟩;rintro n st ⟨i,o,ep,hi,v0,v3,v4,hox,hSo⟩;obtain ⟨x1,x2,x3,x4⟩:=fr hox;have na : ∀ a b:Nat,st.nx+a+b=st.nx+(a+b):=fun a b=>Nat.add_assoc _ _ _
 by_cases h:i<M.length
 ·obtain ⟨t,hx⟩ : ∃ t,M[i]?=some t:=⟨_,bG h⟩;have hx':=yay (q:=q) hx;have hw:=wS h (by omega:M.length<=9223372036854775807);have e1:=yj3 t (ht t (bF hx));have hr24:zag 24 (i+1)=true:=by simp [zag]; omega
  have hsn:trs true (M.take i)++[[.own 5 (t.map nd)]]=trs true (M.take (i+1)):=by rw [ykq,List.take_succ,hx]; rfl
  have hml:(M.take i).length=i:=by simp; omega
  simp [-getElem?_pos,z8i,v0,v3,v4,hSo,h,hx',hw,e1,hr1,hr24,hsn,hml,x1,x2,x3,x4,na];exact zaj (n-1) (by omega) ⟨i+1,st.nx+2,st.ep,by omega,by simp [v0],by simp; omega,by simp⟩
 ·have e:i=M.length:=by omega
  subst e;rw [List.take_length] at hSo;simp [-getElem?_pos,z8i,v0,v3,v4,hSo,h]
def zg4 (c:Cfg) (x:Nd):Nd:=if x.f = -1 then ⟨x.f,x.c,x.l,x.r,(shr x.v c).1⟩ else x
def zi9 (c:Cfg) (x:Nd):Bool := !decide (x.f = -1) || (shr x.v c).2
def zf5 (c:Cfg) (t:List Nd):List Nd×Bool:=if t.all (zi9 c)=true then (t.map (zg4 c),true) else ([],false)
theorem ylh : ∀ (t:List Nd) (i:Int) (j:Int),j∈lvs t i↔∃ (k:Nat) (x:Nd),j=i+k/\t[k]?=some x/\x.f = -1
 | [],i,j=>by simp [lvs]
 | x::xs,i,j=>by
  have ih:=ylh xs (i+1) j;have key:(∃ (k:Nat) (y:Nd),j=i+k/\(x::xs)[k]?=some y/\y.f = -1)↔(j=i/\x.f = -1)\/∃ (k:Nat) (y:Nd),j=i+1+k/\xs[k]?=some y/\y.f = -1:=by
   constructor
   ·rintro ⟨k,y,h1,h2,h3⟩;cases k with
    | zero=>simp at h2; subst h2; exact .inl ⟨by omega,h3⟩
    | succ k=>exact .inr ⟨k,y,by omega,by simpa using h2,h3⟩
   ·rintro (⟨h1,h2⟩ | ⟨k,y,h1,h2,h3⟩)
    ·exact ⟨0,x,by omega,rfl,h2⟩
    ·exact ⟨k+1,y,by omega,by simpa using h2,h3⟩
  rw [key,<- ih];simp only [lvs];split
  ·rename_i hf;rw [List.mem_cons];constructor
   ·rintro (h | h)
    ·exact .inl ⟨h,hf⟩
    ·exact .inr h
   ·rintro (h | h)
    ·exact .inl h.1
    ·exact .inr h
  ·rename_i hf;constructor
   ·exact .inr
   ·rintro (h | h)
    ·exact absurd h.2 hf
    ·exact h
def zut (c:Cfg) (t C:List Nd) (p:Nat->Prop):Prop:=C.length=t.length/\∀ (j:Nat) (x:Nd),t[j]?=some x->(p j->C[j]?=some (zg4 c x))/\(¬ p j->C[j]?=some x)
theorem yqz {c:Cfg} {t C:List Nd} {p:Nat->Prop} (h:zut c t C p) (hp : ∀ (j:Nat) (x:Nd),t[j]?=some x->x.f = -1->p j):C=t.map (zg4 c):=by
 refine List.ext_getElem? fun j => ?_;rcases Nat.lt_or_ge j t.length with hj | hj
 ·obtain ⟨x,hx⟩ : ∃ x,t[j]?=some x:=⟨_,bG hj⟩;obtain ⟨h1,h2⟩:=h.2 j x hx;rw [List.getElem?_map,hx,Option.map_some];rcases Classical.em (p j) with hpj | hpj
  ·exact h1 hpj
  ·rw [h2 hpj]
   by_cases hf:x.f = -1
   ·exact absurd (hp j x hx hf) hpj
   ·unfold zg4; rw [if_neg hf]
 ·rw [List.getElem?_eq_none (by rw [h.1]; omega),List.getElem?_eq_none (by simpa using hj)]
theorem yqa {c:Cfg} {t C:List Nd} {p:Nat->Prop} {i:Nat} {x:Nd} (h:zut c t C p) (hx:t[i]?=some x) (hf:x.f = -1):zut c t (C.set i ⟨x.f,x.c,x.l,x.r,(shr x.v c).1⟩) (fun j=>p j\/j=i):=by
 refine ⟨by rw [List.length_set,h.1],fun j y hy => ?_⟩;obtain ⟨h1,h2⟩:=h.2 j y hy;have hi:=(bD hx).1
 by_cases e:j=i
 ·subst e;rw [hx] at hy; cases hy;refine ⟨fun _ => ?_,fun hn=>absurd (.inr rfl) hn⟩;rw [List.getElem?_set_self (by rw [h.1]; exact hi)];unfold zg4; rw [if_pos hf]
 ·rw [List.getElem?_set_ne (fun h=>e h.symm)];exact ⟨fun hp=>h1 (hp.resolve_right e),fun hn=>h2 fun hp=>hn (.inl hp)⟩
theorem ym2 {c:Cfg} {t C:List Nd} {p:Nat->Prop} {i:Nat} {x:Nd} (h:zut c t C p) (hx:t[i]?=some x) : ∃ v,C[i]?=some ⟨x.f,x.c,x.l,x.r,v⟩:=by
 obtain ⟨h1,h2⟩:=h.2 i x hx;rcases Classical.em (p i) with hp | hp
 ·rw [h1 hp];unfold zg4;split
  ·exact ⟨_,rfl⟩
  ·exact ⟨x.v,rfl⟩
 ·exact ⟨x.v,h2 hp⟩
theorem yqj {c:Cfg} {t:List Nd} {i:Nat} {x:Nd} (hx:t[i]?=some x) (hf:x.f = -1) (hs:(shr x.v c).2=false):t.all (zi9 c)=false:=by
 cases e:t.all (zi9 c) with
 | false=>rfl
 | true =>
  have:=List.all_eq_true.mp e x (bF hx);unfold zi9 at this;rw [hs,decide_eq_true hf] at this;cases this
theorem ymy {c:Cfg} {t:List Nd} (h : ∀ (j:Nat) (x:Nd),t[j]?=some x->x.f = -1->(shr x.v c).2=true):t.all (zi9 c)=true:=by
 rw [List.all_eq_true];intro x hx;obtain ⟨j,hj⟩:=bH hx;unfold zi9
 by_cases hf:x.f = -1
 ·rw [h j x hj hf]; simp
 ·rw [decide_eq_false hf]; rfl
theorem y5x (t:List Nd) (c:Cfg) (hl:t.length<=1048576) (hc:c.sg.length<=1048576):RUN T zqx [.agg [.sl 5 (t.map nd)],zdy c]=some ([.agg [.own 5 ((zf5 c t).1.map nd)],bv (zf5 c t).2],[]):=by
 have e1:=yj3 t hl;obtain ⟨R,hR⟩ : ∃ R,R=zf5 c t:=⟨_,rfl⟩;have hR':R=if t.all (zi9 c)=true then (t.map (zg4 c),true) else ([],false):=hR
 rw [<- hR];clear hR;simp only [zdy];refine zae rfl rfl ?_;simp [-getElem?_pos,z0a,zz7,e1];refine zaq (fun n st => ∃ (i:Nat) (C:List Nd),i+n=t.length/\zut c t C (fun j=>j<i)/\(∀ (j:Nat) (x:Nd),j<i->t[j]?=some x->(x.f = -1->(shr x.v c).2=true))/\st.V 2 = .ptr 0 none 0 0 0/\st.V 3 = .ptr 1 none 0 0 0/\st.V 4 = .ptr 2 none 0 0 0/\st.V 6 = .ptr 4 none 0 0 0/\st.V 7=iv i/\4<st.nx/\st.S 0=some (.box [.sl 5 (t.map nd)])/\st.S 1=some (.box [iv c.ro,iv c.de,iv c.bi,iv c.la,iv c.rw,iv c.nu,iv c.dn,.sl 1 (zab c.sg)])/\st.S 2=some (.box [.e0])/\st.S 4=some (.box [.ref 3 none 0 0 t.length])/\st.S 3=some (.row 5 (C.map nd))) ?_ t.length _ ⟨0,t,by omega,⟨rfl,fun j x hx=>⟨fun h=>by omega,fun _=>hx⟩⟩,fun j x h=>by omega,by simp⟩;rintro n st ⟨i,C,hi,hC,hok,v2,v3,v4,v6,v7,h4x,hS0,hS1,hS2,hS4,hS3⟩;have Z0:=bI hS0 <| bI hS1 <| bI hS2 hS4
 obtain ⟨z1,z2,z3,z4⟩:=fr h4x
 by_cases h:i<t.length
 ·obtain ⟨x,hx⟩ : ∃ x,t[i]?=some x:=⟨_,bG h⟩;have hx':=z65 hx;have hw:=wS h (by omega:t.length<=9223372036854775807);have f1:=y3u x.v c (by omega);obtain ⟨v,hv⟩:=ym2 hC hx;have hv':=z65 hv;have hCl:i<C.length:=by rw [hC.1]; exact h
  simp only [zdy] at f1;rcases Classical.propComplete (x.f = -1) with hf | hf
  ·have hf':x.f = -1:=by rw [hf]; trivial
   have hset:=ynm C i x.f x.c x.l x.r (shr x.v c).1;have hI:=yqa hC hx hf';cases hb:(shr x.v c).2 with
   | false =>
    rw [yqj hx hf' hb,if_neg (by simp)] at hR';subst hR';rw [hb] at f1;simp [-getElem?_pos,zvr,v2,v3,v4,v6,v7,Z0,hS3,h,hx',hf,f1]
   | true =>
    have hok2:=zkr (P:=fun _ x=>x.f = -1->(shr x.v c).2=true) hok hx (fun _=>hb);rw [hb] at f1;simp [-getElem?_pos,zvr,v2,v3,v4,v6,v7,Z0,hS3,h,hx',hw,hf,f1,hv',hCl,hC.1,hset];exact zaj (n-1) (by omega) ⟨i+1,_,by omega,⟨hI.1,fun j y hy=>⟨fun hj=>(hI.2 j y hy).1 (by omega),fun hj=>(hI.2 j y hy).2 (by omega)⟩⟩,hok2,by simp [v2,v3,v4,v6,h4x,Z0]⟩
  ·have hf' : ¬ x.f = -1:=by rw [hf]; exact id
   have hok2:=zkr (P:=fun _ x=>x.f = -1->(shr x.v c).2=true) hok hx (fun h=>absurd h hf');simp [-getElem?_pos,zvr,v2,v3,v4,v6,v7,Z0,hS3,h,hx',hw,hf];refine zaj (n-1) (by omega) ⟨i+1,C,by omega,⟨hC.1,fun j y hy=>⟨fun hj => ?_,fun hj=>(hC.2 j y hy).2 (by omega)⟩⟩,hok2,by simp [v2,v3,v4,v6,h4x,Z0,hS3]⟩
   by_cases e:j=i
   ·subst e;rw [hx] at hy; cases hy;rw [(hC.2 j x hx).2 (by omega)];unfold zg4; rw [if_neg hf']
   ·exact (hC.2 j y hy).1 (by omega)
 ·have hall:=yqz hC (fun j x hx _=>by have:=(bD hx).1; omega);rw [ymy (fun j x hx hf=>hok j x (by have:=(bD hx).1; omega) hx hf),if_pos rfl,<- hall] at hR';have hCl:=hC.1;subst hR';simp [-getElem?_pos,zvr,v2,v4,v6,v7,hS0,hS2,hS4,hS3,h,hCl]
theorem y5y (t:List Nd) (c:Cfg) (hl:t.length<=1048576) (hc:c.sg.length<=1048576):RUN T zqt [.agg [.sl 5 (t.map nd)],zdy c]=some ([.agg [.own 5 ((zf5 c t).1.map nd)],bv (zf5 c t).2],[]):=by
 have e1:=yj2 t hl;have e2:=y3l t hl;have hll:=z9u t 0;have hmem:=ylh t 0;generalize lvs t 0=L at *;obtain ⟨R,hR⟩ : ∃ R,R=zf5 c t:=⟨_,rfl⟩;have hR':R=if t.all (zi9 c)=true then (t.map (zg4 c),true) else ([],false):=hR
 rw [<- hR];clear hR;simp only [zdy];refine zae rfl rfl ?_;simp [-getElem?_pos,zz6,zz7,e1,e2];refine zaq (fun n st => ∃ (i:Nat) (C:List Nd),i+n=L.length/\zut c t C (fun j=>(j:Int)∈L.take i)/\(∀ (k:Nat) (y:Int),k<i->L[k]?=some y->∀ (j:Nat) (x:Nd),y=j->t[j]?=some x->(shr x.v c).2=true)/\st.V 2 = .ptr 0 none 0 0 0/\st.V 3 = .ptr 1 none 0 0 0/\st.V 4 = .ptr 2 none 0 0 0/\st.V 6 = .ptr 4 none 0 0 0/\st.V 14 = .ref 5 none 0 0 L.length/\st.V 15=iv L.length/\st.V 16=iv i/\5<st.nx/\st.S 0=some (.box [.sl 5 (t.map nd)])/\st.S 1=some (.box [iv c.ro,iv c.de,iv c.bi,iv c.la,iv c.rw,iv c.nu,iv c.dn,.sl 1 (zab c.sg)])/\st.S 2=some (.box [.e0])/\st.S 4=some (.box [.ref 3 none 0 0 t.length])/\st.S 5=some (.row 1 (zab L))/\st.S 3=some (.row 5 (C.map nd))) ?_ L.length _ ⟨0,t,by omega,⟨rfl,fun j x hx=>⟨fun h=>by simp at h,fun _=>hx⟩⟩,fun k y h=>by omega,by simp⟩;rintro n st ⟨i,C,hi,hC,hok,v2,v3,v4,v6,v14,v15,v16,h5x,hS0,hS1,hS2,hS4,hS5,hS3⟩;obtain ⟨z1,z2,z3,z4⟩:=fr h5x
 by_cases h:i<L.length
 ·obtain ⟨y,hy⟩ : ∃ y,L[i]?=some y:=⟨_,bG h⟩;obtain ⟨k,x,hyk,hx,hf'⟩:=(hmem y).mp (bF hy);have hyk:y=(k:Int):=by omega
  subst hyk;have hy':=zay hy;have hkt:=(bD hx).1;have hx':=z65 hx;have hw:=wS h (by omega:L.length<=9223372036854775807);have f1:=y3v x.v c (by omega);obtain ⟨v,hv⟩:=ym2 hC hx;have hv':=z65 hv;have hCl:k<C.length:=by rw [hC.1]; exact hkt
  simp only [zdy] at f1;have hset:=ynm C k x.f x.c x.l x.r (shr x.v c).1;have hI:=yqa hC hx hf';have htk:L.take (i+1)=L.take i++[(k:Int)]:=by rw [List.take_succ,hy]; rfl
  cases hb:(shr x.v c).2 with
  | false =>
   rw [yqj hx hf' hb,if_neg (by simp)] at hR';subst hR';rw [hb] at f1;simp [-getElem?_pos,zz5,v2,v3,v4,v6,v14,v15,v16,hS0,hS1,hS2,hS4,hS5,hS3,h,hy',hkt,hx',f1]
  | true =>
   rw [hb] at f1;have hok2 : ∀ (k':Nat) (y:Int),k'<i+1->L[k']?=some y->∀ (j:Nat) (x:Nd),y=j->t[j]?=some x->(shr x.v c).2=true:=by
    intro k' y hk' hy2 j x2 e1 e2;rcases Nat.lt_or_ge k' i with h3 | h3
    ·exact hok k' y h3 hy2 j x2 e1 e2
    ·have e3:k'=i:=by omega
     subst e3;rw [hy] at hy2; cases hy2;have e4:j=k:=by omega
     subst e4;rw [hx] at e2; cases e2;exact hb
   simp [-getElem?_pos,zz5,v2,v3,v4,v6,v14,v15,v16,hS0,hS1,hS2,hS4,hS5,hS3,h,hy',hkt,hx',hw,f1,hv',hCl,hC.1,hset];refine zaj (n-1) (by omega) ⟨i+1,_,by omega,⟨hI.1,fun j y hy2=>⟨fun hj=>(hI.2 j y hy2).1 ?_,fun hj=>(hI.2 j y hy2).2 ?_⟩⟩,hok2,by simp [v2,v3,v4,v6,v14,v15,h5x,hS0,hS1,hS2,hS4,hS5]⟩
   ·rw [htk,List.mem_append,List.mem_singleton] at hj;exact hj.imp id (fun e=>by omega)
   ·intro hp;apply hj;rw [htk,List.mem_append,List.mem_singleton];exact hp.imp id (fun e=>by omega)
 ·have hiL:i=L.length:=by omega
  subst hiL;rw [List.take_length] at hC;have hin : ∀ (j:Nat) (x:Nd),t[j]?=some x->x.f = -1->(j:Int)∈L:=fun j x hx hf=>(hmem j).mpr ⟨j,x,by omega,hx,hf⟩;have hall:=yqz hC hin;rw [ymy (fun j x hx hf=>by
   obtain ⟨k,hk⟩:=bH (hin j x hx hf);exact hok k j (bD hk).1 hk j x rfl hx),if_pos rfl,<- hall] at hR'
  have hCl:=hC.1;subst hR';simp [-getElem?_pos,zz5,v2,v4,v6,v14,v15,v16,hS0,hS2,hS4,hS3,h,hCl]
theorem yke (c:Cfg) (t:List Nd):(zf5 c t).1.length<=t.length:=by
 unfold zf5;split
 ·simp
 ·simp
def zc2 (t:Ta):Sta×Bool:=if zba t=true then (⟨List.replicate t.lb.length (zb7 t.lb).1,[]⟩,true) else (⟨[],[]⟩,false)
theorem yn7 (b:Int) (i:Nat):zab (List.replicate i b)++[[iv b]]=zab (List.replicate (i+1) b):=by
 rw [List.replicate_succ']; simp [zab]
theorem y5z (q:Bool) (t:Ta) (ht:TaL 1048576 t) (hi : ∀ x∈t.lb,inI x):RUN T zq2 [taS q t]=some ([stO (zc2 t).1,bv (zc2 t).2],[]):=by
 have e1:=z9o q t ht;have e3:=yja t.lb (Nat.le_trans ht.lb (by omega)) hi;have hlb:=ht.lb;unfold zc2;generalize zba t=b1 at *;generalize zb7 t.lb=bs at *;obtain ⟨bs,bb⟩:=bs;simp only at e3 ⊢;have hr1:zag 8 1=true:=by decide
 have zi:zab []=[]:=rfl;have zt:trs true []=[]:=rfl;refine zae rfl rfl ?_;cases b1 with
 | false=>simp [-getElem?_pos,zvv,zvg,e1,zi,zt]
 | true =>
  simp [-getElem?_pos,zvv,zvg,e1,e3];refine zaq (fun n st => ∃ (i:Nat) (x:PV),i+n=t.lb.length/\st.V 2 = .ptr 1 none 0 0 0/\st.V 4=iv bs/\st.V 6 = .ptr 2 none 0 0 0/\st.V 20=iv t.lb.length/\st.V 21=iv i/\2<st.nx/\LC st.S st.nx 2 (List.replicate i bs) x/\st.S 1=some (.box [.e0,.e0])/\st.S 2=some (.box [x,.e0])) ?_ t.lb.length _ ⟨0,.e0,by omega,by simp,by simp,by simp,by simp,by simp,by simp,.inl ⟨rfl,rfl⟩,by simp⟩;rintro n st ⟨i,x,hin,v2,v4,v6,v20,v21,hnx,hx,hS1,hS2⟩;have z1:=fr hnx;have z2:=fr (by omega:1<st.nx);have nz0 : ¬ st.nx=0:=by omega
  by_cases h:i<t.lb.length
  ·have hw:=wS h (by omega:t.lb.length<=9223372036854775807);have hsn:=yn7 bs i;rcases hx with ⟨rfl,hm⟩ | ⟨o,e,rfl,ho,hox,hSo⟩
   ·have hi0:i=0:=by cases i with | zero=>rfl | succ n=>simp [List.replicate_succ] at hm
    subst hi0;have hone:[[iv bs]]=zab (List.replicate 1 bs):=rfl;simp [-getElem?_pos,zvu,v2,v4,v6,v20,v21,hS1,hS2,z1,z2,h,hw,hr1];exact zaj (n-1) (by omega) ⟨1,_,by omega,by simp [v2],by simp [v4],by simp [v6],by simp [v20],by simp,by simp; omega,.inr ⟨st.nx+1,st.ep,rfl,by omega,by simp,by
     have n2 : ¬ st.nx+1=2:=by omega
     simp [n2,zab]⟩,by simp [z1,z2,nz0,hS1]⟩
   ·have hr8:=zcg (n:=i+1) (by omega);have y1:=fr hox;have y2:=fr ho;have y3:=fr (by omega:1<o);rw [List.length_replicate] at *;have hil:(zab (List.replicate i bs)).length=i:=by simp [zab]
    generalize zab (List.replicate i bs)=A at *;simp [-getElem?_pos,zvu,v2,v4,v6,v20,v21,hS1,hS2,hSo,z1,z2,y1,y2,y3,h,hw,hr8,hsn,hil];exact zaj (n-1) (by omega) ⟨i+1,.ref (st.nx+1) none st.ep 0 (i+1),by omega,by simp [v2],by simp [v4],by simp [v6],by simp [v20],by simp,by simp; omega,.inr ⟨st.nx+1,st.ep,by simp,by omega,by simp,by
     have n2 : ¬ st.nx+1=2:=by omega
     simp [n2]⟩,by simp [z1,z2,nz0,y1,y2,y3,hS1]⟩
  ·have e:i=t.lb.length:=by omega
   subst e;rcases hx with ⟨rfl,hm⟩ | ⟨o,e,rfl,ho,hox,hSo⟩
   ·rw [hm];simp [-getElem?_pos,zvu,v2,v4,v6,v20,v21,hS1,hS2,h,zi,zt]
   ·have y2:=fr ho;have y3:=fr (by omega:1<o);rw [List.length_replicate] at *;simp [-getElem?_pos,zvu,v2,v4,v6,v20,v21,hS1,hS2,hSo,y2,y3,h,zt]
theorem y50 (q:Bool) (t:Ta) (ht:TaL 1048576 t) (hi : ∀ x∈t.lb,inI x):RUN T zqk [taS q t]=some ([stO (zc2 t).1,bv (zc2 t).2],[]):=by
 have e1:=z6f q t ⟨Nat.le_trans ht.ns (by omega),fun x hx=>Nat.le_trans (ht.ss x hx) (by omega),Nat.le_trans ht.nm (by omega),Nat.le_trans ht.rw (by omega),fun x hx=>Nat.le_trans (ht.rr x hx) (by omega),Nat.le_trans ht.lb (by omega)⟩;have e3:=y32 t.lb (Nat.le_trans ht.lb (by omega)) hi;have hlb:=ht.lb;unfold zc2;generalize zba t=b1 at *;generalize zb7 t.lb=bs at *;obtain ⟨bs,bb⟩:=bs;simp only at e3 ⊢;have hr1:zag 8 1=true:=by decide
 have zi:zab []=[]:=rfl;have zt:trs true []=[]:=rfl;refine zae rfl rfl ?_;cases b1 with
 | false=>simp [-getElem?_pos,zvf,zvg,e1,zi,zt]
 | true =>
  simp [-getElem?_pos,zvf,zvg,e1,e3];refine zaq (fun n st => ∃ (i:Nat) (x:PV),i+n=t.lb.length/\st.V 1 = .ptr 0 none 0 0 0/\st.V 2 = .ptr 1 none 0 0 0/\st.V 5=iv bs/\st.V 4 = .ptr 2 none 0 0 0/\st.V 7=iv i/\2<st.nx/\LC st.S st.nx 2 (List.replicate i bs) x/\st.S 0=some (.box [.sl 1 (za4 t.ns),.v (.string t.nm),.sl 1 (rws q t.rw),.sl 1 (zab t.lb)])/\st.S 1=some (.box [.e0,.e0])/\st.S 2=some (.box [x,.e0])) ?_ t.lb.length _ ⟨0,.e0,by omega,by simp,by simp,by simp,by simp,by simp,by simp,.inl ⟨rfl,rfl⟩,by simp⟩;rintro n st ⟨i,x,hin,v1,v2,v5,v4,v7,hnx,hx,hS0,hS1,hS2⟩;have z1:=fr hnx;have z2:=fr (by omega:1<st.nx);have nz0 : ¬ st.nx=0:=by omega
  have z3:=fr (by omega:0<st.nx)
  by_cases h:i<t.lb.length
  ·have hw:=wS h (by omega:t.lb.length<=9223372036854775807);have hsn:=yn7 bs i;rcases hx with ⟨rfl,hm⟩ | ⟨o,e,rfl,ho,hox,hSo⟩
   ·have hi0:i=0:=by cases i with | zero=>rfl | succ n=>simp [List.replicate_succ] at hm
    subst hi0;simp [-getElem?_pos,zve,v1,v2,v4,v5,v7,hS0,hS1,hS2,z1,z2,z3,h,hw,hr1];exact zaj (n-1) (by omega) ⟨1,_,by omega,by simp [v1],by simp [v2],by simp [v5],by simp [v4],by simp,by simp; omega,.inr ⟨st.nx+1,st.ep,rfl,by omega,by simp,by
     have n2 : ¬ st.nx+1=2:=by omega
     simp [n2,zab]⟩,by simp [z1,z2,z3,hS0,nz0,hS1]⟩
   ·have hr8:=zcg (n:=i+1) (by omega);have y1:=fr hox;have y2:=fr ho;have y3:=fr (by omega:1<o);have y4:=fr (by omega:0<o);rw [List.length_replicate] at *;have hil:(zab (List.replicate i bs)).length=i:=by simp [zab]
    generalize zab (List.replicate i bs)=A at *;simp [-getElem?_pos,zve,v1,v2,v4,v5,v7,hS0,hS1,hS2,hSo,z1,z2,z3,y1,y2,y3,y4,h,hw,hr8,hsn,hil];exact zaj (n-1) (by omega) ⟨i+1,.ref (st.nx+1) none st.ep 0 (i+1),by omega,by simp [v1],by simp [v2],by simp [v5],by simp [v4],by simp,by simp; omega,.inr ⟨st.nx+1,st.ep,by simp,by omega,by simp,by
     have n2 : ¬ st.nx+1=2:=by omega
     simp [n2]⟩,by simp [z1,z2,z3,y1,y2,y3,y4,hS0,nz0,hS1]⟩
  ·have e:i=t.lb.length:=by omega
   subst e;rcases hx with ⟨rfl,hm⟩ | ⟨o,e,rfl,ho,hox,hSo⟩
   ·rw [hm];simp [-getElem?_pos,zve,v1,v2,v4,v5,v7,hS0,hS1,hS2,h,zi,zt]
   ·have y2:=fr ho;have y3:=fr (by omega:1<o);rw [List.length_replicate] at *;simp [-getElem?_pos,zve,v1,v2,v4,v5,v7,hS0,hS1,hS2,hSo,y2,y3,h,zt]
def PDc (v:PV):Prop := ∃ n,v=iv n/\zbi n=true
theorem zt7 {n:Int} (h1 : -2147483647<=n) (h2:n<=2147483647):zbi n=true:=by
 unfold zbi; exact zaw.mpr ⟨h1,h2⟩
theorem yj4 (B:List Int) (p:Nat) (s:Int) (hp:p<=B.length) (hB:B.length<=9223372036854775807) : ∃ r,RUN T zm5 [.bx [.sl 1 (zb0 B),iv p,iv s]]=some r/\zgz B PDc r:=by
 refine zhy rfl rfl ?_;have hr5:zag 8 5=true:=by decide
 obtain ⟨r1,h1,v1,p1,s1,⟨b1,rfl⟩,hp1,rfl⟩:=zgu B p s hp hB 20 (by omega);cases b1 with
 | true =>
  obtain ⟨r2,h2,v2,p2,s2,⟨a2,rfl,hm⟩,hp2,rfl⟩:=zi2 B p1 s1 hp1 hB [2147483647,-2147483647,1,-1,1000000000] (by simp);simp only [zab,List.map] at h2;simp [-getElem?_pos,ztg,zn6,hr5,h1,h2];refine ⟨_,p2,s2,⟨a2,rfl,?_⟩,hp2,rfl⟩;simp at hm;exact zt7 (by omega) (by omega)
 | false =>
  obtain ⟨r2,h2,v2,p2,s2,⟨b2,rfl⟩,hp2,rfl⟩:=zgu B p1 s1 hp1 hB 2 (by omega);cases b2 with
  | true =>
   obtain ⟨r3,h3,v3,p3,s3,⟨a3,rfl,a30,a31⟩,hp3,rfl⟩:=zca B p2 s2 hp2 hB 9 (by omega);have a32:=a31 (by omega);have w1:=w64 (x:=a3-4) (by omega) (by omega);have w2:=w64 (x:=1000*(a3-4)) (by omega) (by omega);simp [-getElem?_pos,ztg,zn6,h1,h2,h3,w1,w2];exact ⟨_,p3,s3,⟨_,rfl,zt7 (by omega) (by omega)⟩,hp3,rfl⟩
  | false =>
   obtain ⟨r3,h3,v3,p3,s3,⟨a3,rfl,a30,a31⟩,hp3,rfl⟩:=zca B p2 s2 hp2 hB 41 (by omega);have a32:=a31 (by omega);have w1:=w64 (x:=a3-20) (by omega) (by omega);have w2:=w64 (x:=250*(a3-20)) (by omega) (by omega);simp [-getElem?_pos,ztg,zn6,h1,h2,h3,w1,w2];exact ⟨_,p3,s3,⟨_,rfl,zt7 (by omega) (by omega)⟩,hp3,rfl⟩
theorem z6j (l:List Int):(zd6 l).length=l.length:=by
 unfold zd6;rw [qd7]; simp
theorem yky (x:Int) (l:List Int) : ∀ k:Nat,(∀ j,pos x l k<=j->j<k->x<l.getD j 0)/\(pos x l k=0\/l.getD (pos x l k-1) 0<=x)
 | 0=>by
  refine ⟨fun j _ h=>by omega,.inl ?_⟩;simp only [pos]
 | k+1=>by
  obtain ⟨h1,h2⟩:=yky x l k;rw [ycg]
  by_cases hc:x<l.getD k 0
  ·rw [if_pos hc];refine ⟨fun j hj hk => ?_,h2⟩
   by_cases hjk:j=k
   ·subst hjk; exact hc
   ·exact h1 j hj (by omega)
  ·rw [if_neg hc];refine ⟨fun j hj hk=>by omega,.inr ?_⟩;simp only [Nat.add_sub_cancel];omega
def srt (l:List Int):Prop:=l.Pairwise fun a b=>a<=b
theorem zo5 {l:List Int} (h:srt l) {i j:Nat} {a b:Int} (hij:i<=j) (ha:l[i]?=some a) (hb:l[j]?=some b):a<=b:=by
 by_cases e:i=j
 ·subst e; rw [ha] at hb; cases hb; exact Int.le_refl _
 ·obtain ⟨hi,rfl⟩:=bD ha;obtain ⟨hj,rfl⟩:=bD hb;exact List.pairwise_iff_getElem.mp h i j hi hj (by omega)
theorem y7o {l:List Int} (h:srt l) (x:Int):srt (ins l x):=by
 obtain ⟨P,hP⟩:=zeb.ex x l l.length;rw [z7y hP];have hp:pos x l l.length=P:=by unfold zeb at hP; exact hP
 obtain ⟨h1,h2⟩:=yky x l l.length;rw [hp] at h1 h2;have hle:=ya6 x l l.length;rw [hp] at hle;unfold srt;rw [List.pairwise_append];refine ⟨h.sublist (List.take_sublist _ _),?_,?_⟩
 ·rw [List.pairwise_cons];refine ⟨fun b hb => ?_,h.sublist (List.drop_sublist _ _)⟩;obtain ⟨j,hj⟩:=bH hb;rw [List.getElem?_drop] at hj;have hlt:=(bD hj).1;have:=h1 (P+j) (by omega) hlt;rw [List.getD,hj,Option.getD_some] at this;omega
 ·intro a ha b hb;obtain ⟨i,hi⟩:=bH ha;have hi2:i<P:=by
   have:=(bD hi).1;simp at this; omega
  rw [List.getElem?_take_of_lt hi2] at hi;have hax:a<=x:=by
   rcases h2 with h2 | h2
   ·omega
   ·obtain ⟨y,hy⟩ : ∃ y,l[P-1]?=some y:=⟨_,bG (by omega)⟩;rw [List.getD,hy,Option.getD_some] at h2;have:=zo5 h (by omega:i<=P-1) hi hy;omega
  rcases List.mem_cons.mp hb with rfl | hb
  ·exact hax
  ·obtain ⟨j,hj⟩:=bH hb;rw [List.getElem?_drop] at hj;exact zo5 h (by omega:i<=P+j) hi hj
theorem qba (l:List Int) (x:Int):(ins l x).Perm (x::l):=by
 obtain ⟨P,hP⟩:=zeb.ex x l l.length;rw [z7y hP];have:=List.perm_middle (a:=x) (l₁:=l.take P) (l₂:=l.drop P)
 rwa [List.take_append_drop] at this
theorem zx9 : ∀ (l a:List Int),srt a->srt (l.foldl ins a)/\(l.foldl ins a).Perm (a++l)
 | [],a,h=>⟨h,by simp⟩
 | x::l,a,h=>by
  obtain ⟨h1,h2⟩:=zx9 l (ins a x) (y7o h x);refine ⟨h1,h2.trans ?_⟩;refine ((qba a x).append_right l).trans ?_;exact List.perm_middle.symm
theorem qbf (l:List Int):ziz l=zd6 l:=by
 obtain ⟨h1,h2⟩:=zx9 l [] List.Pairwise.nil;have h3:srt (ziz l):=by
  have:=List.pairwise_mergeSort (le:=fun x y:Int=>decide (x<=y)) (fun a b c h1 h2=>by simp at *; omega) (fun a b=>by simp; omega) l;unfold srt ziz;exact this.imp fun h=>by simpa using h
 refine List.Perm.eq_of_pairwise (le:=fun a b=>a<=b) (fun a b _ _ h1 h2=>by omega) h3 h1 ?_;exact (List.mergeSort_perm _ _).trans (by have h4:=h2.symm; rw [List.nil_append] at h4; exact h4)
theorem y51 (l:List Int) (hl:l.length<=1048576):RUN T zr8 [.own 1 (zab l)]=some ([],[.own 1 (zab (zd6 l))]):=by
 rw [<- qbf];exact y9l yhc (by omega)
theorem y52 (l:List Int) (hl:l.length<=1048576):RUN T zrz [.own 1 (zab l)]=some ([.own 1 (zab (Lib.compact l))],[.undef]):=y6q ygu (by omega)
theorem y53 (l:List Int) (hl:l.length<=1048576):RUN T zry [.sl 1 (zab l)]=some ([.own 1 (zab (zd6 l))],[]):=by
 have e1:=y5s l hl;have e2:=y51 l hl;have hl2:=z6j l;generalize zd6 l=a at *;refine zae rfl rfl ?_;simp [-getElem?_pos,z2z,zza,e1,e2,hl2]
theorem yrk {a:List Int} {i:Nat} {x:Int} (h:a[i]?=some x):Lib.compactUpTo a.toArray (i+1)=if (i=0\/¬ a[i-1]?=some x) then Lib.compactUpTo a.toArray i++[x] else Lib.compactUpTo a.toArray i:=by
 have hx:a.toArray[i]! = x:=by simp [h]
 have hlt:=(bD h).1;unfold Lib.compactUpTo;rw [List.range_succ,List.filter_append,List.map_append];have hk:Lib.keeps a.toArray i=decide (i=0\/¬ a[i-1]?=some x):=by
  unfold Lib.keeps
  by_cases h0:i=0
  ·simp [h0]
  ·obtain ⟨y,hy⟩ : ∃ y,a[i-1]?=some y:=⟨_,bG (by omega)⟩;have hy':a.toArray[i-1]! = y:=by simp [hy]
   rw [hx,hy',hy];simp only [h0,false_or,bC]
   congr 1
   simp only [ne_eq,eq_comm]
 simp only [List.filter_cons,List.filter_nil,hk]
 by_cases hc:i=0\/¬ a[i-1]?=some x
 ·simp only [hc,decide_true,if_true,List.map_cons,List.map_nil,hx]
 ·simp only [hc,decide_false,if_false,Bool.false_eq_true,List.map_nil,List.append_nil]
theorem y54 (l:List Int) (hl:l.length<=1048576):RUN T zrv [.sl 1 (zab l)]=some ([.own 1 (zab (Lib.compact (zd6 l)))],[]):=by
 have e1:=yjl l hl;have hsl:=z6j l;generalize zd6 l=a at *;have hr0:zag 8 0=true:=by decide
 have hr1:zag 8 1=true:=by decide
 refine zae rfl rfl ?_;simp [-getElem?_pos,z2r,zza,hr0,e1];refine zaq (fun n st => ∃ (i o e q e2:Nat) (m:List Int),i+n=l.length/\m=Lib.compactUpTo a.toArray i/\m.length<=i/\st.V 3 = .ref o none e 0 m.length/\st.V 4 = .ref q none e2 0 a.length/\st.V 5=iv i/\¬ o=q/\o<st.nx/\q<st.nx/\st.S o=some (.row 1 (zab m))/\st.S q=some (.row 1 (zab a))) ?_ l.length _ ⟨0,0,0,1,0,[],by omega,rfl,by simp,by simp,by simp,by simp,by omega,by simp [zab]⟩;rintro n st ⟨i,o,e,q,e2,m,hi,hmm,hm,v3,v4,v5,hoq,hox,hqx,hSo,hSq⟩;obtain ⟨x1,x2,x3,x4⟩:=fr hox;obtain ⟨z1,z2,z3,z4⟩:=fr hqx;have hqo : ¬ q=o:=fun e=>hoq e.symm
 by_cases h:i<a.length
 ·obtain ⟨x,hx⟩ : ∃ x,a[i]?=some x:=⟨_,bG h⟩;have hx':=zay hx;have hw:=wS h (by omega:a.length<=9223372036854775807);have hr8:=zcg (n:=m.length+1) (by omega);have hsn:=zb1 m x;have hcs:=yrk hx;rw [<- hmm] at hcs
  by_cases h0:i=0
  ·subst h0;rw [if_pos (.inl rfl)] at hcs;simp [-getElem?_pos,zwf,v3,v4,v5,hSo,hSq,h,hx',hw,hr1,hr8,hsn,hoq,hqo,x1,x2,x3,x4,z1,z2,z3,z4];exact zaj (n-1) (by omega) ⟨1,st.nx+1,st.ep,q,e2,m++[x],by omega,hcs.symm,by rw [List.length_append]; simp only [List.length_cons,List.length_nil]; omega,by simp,by simp [v4],by simp,by omega,by simp,by simp; omega,by simp [hoq,hqo,x1,x2,x3,x4,z1,z2,z3,z4,hSq]⟩
  ·obtain ⟨y,hy⟩ : ∃ x,a[i-1]?=some x:=⟨_,bG (by omega)⟩;have hy':=zay hy;have w1:IntKind.i64.wrap ((i:Int)-1)=((i-1:Nat):Int):=by rw [w64 (by omega) (by omega)]; omega
   have hil:i-1<a.length:=by omega
   rw [hy] at hcs
   by_cases hxy:x=y
   ·subst hxy;rw [if_neg (by simp [h0])] at hcs;simp [-getElem?_pos,zwf,v3,v4,v5,hSo,hSq,h,h0,hil,hx',hy',hw,w1,hoq,hqo,x1,x2,x3,x4,z1,z2,z3,z4];exact zaj (n-1) (by omega) ⟨i+1,o,e,q,e2,m,by omega,hcs.symm,by omega,by simp [v3],by simp [v4],by simp,hoq,by simp [hox,hqx,hSo,hSq]⟩
   ·rw [if_pos (.inr (fun e=>hxy (by cases e; rfl)))] at hcs;simp [-getElem?_pos,zwf,v3,v4,v5,hSo,hSq,h,h0,hil,hx',hy',hw,w1,hxy,hr1,hr8,hsn,hoq,hqo,x1,x2,x3,x4,z1,z2,z3,z4];exact zaj (n-1) (by omega) ⟨i+1,st.nx+1,st.ep,q,e2,m++[x],by omega,hcs.symm,by simp; omega,by simp,by simp [v4],by simp,by omega,by simp,by simp; omega,by simp [hoq,hqo,x1,x2,x3,x4,z1,z2,z3,z4,hSq]⟩
 ·have hia:i=a.length:=by omega
  have hR:Lib.compact a=m:=by rw [hmm,hia]; rfl
  rw [hR];simp [-getElem?_pos,zwf,v3,v4,v5,hSo,hSq,h]
def zds (c:List Int) (v:Int):Nat:=(c.filter fun x=>decide (x<v)).length
def zbl (t:Ta) (f:Nat):List Int:=t.rw.map fun r=>r.getD f 0
def zhl (a:List Int) (b k:Nat):Nat:=a.length*k / b
def zjk (a:List Int) (b k:Nat):List Int:=if 1<=zhl a b k/\a.getD (zhl a b k-1) 0≠a.getD (a.length-1) 0 then [a.getD (zhl a b k-1) 0] else []
def zd8 (a:List Int) (b:Nat):Nat->List Int
 | 0=>[]
 | k+1=>zd8 a b k++zjk a b (k+1)
def zbu (l:List Int) (b:Int):List Int:=if (zai b 2 8 && zai l.length 1 40)=true then Lib.compact (zd8 (zd6 l) b.toNat (b.toNat-1)) else []
def zij (t:Ta) (b:Int) (f:Nat):List Int:=(zbl t f).map fun v=>(zds (zbu (zbl t f) b) v:Int)
def za6 (t:Ta) (b:Int):List (List Int):=if (zba t && zai b 2 8)=true then (List.range t.ns.length).map fun f=>zbu (zbl t f) b else []
def za5 (t:Ta) (b:Int):List (List Int):=if (zba t && zai b 2 8)=true then (List.range t.ns.length).map (zij t b) else []
theorem yql (l:List Int):(Lib.compact l).length<=l.length:=by
 unfold Lib.compact Lib.compactUpTo;rw [List.length_map];exact Nat.le_trans (List.length_filter_le _ _) (by simp)
theorem yrr {a:List Int} (ha:srt a) : ∀ i:Nat,i<=a.length->(Lib.compactUpTo a.toArray i).Pairwise (fun x y=>x<y)/\∀ y,y∈Lib.compactUpTo a.toArray i↔∃ j,j<i/\a[j]?=some y
 | 0,_=>by
  refine ⟨List.Pairwise.nil,fun y => ?_⟩;constructor
  ·intro h; exact absurd h (by simp [Lib.compactUpTo])
  ·rintro ⟨j,h,_⟩; omega
 | i+1,hi=>by
  obtain ⟨h1,h2⟩:=yrr ha i (by omega);obtain ⟨x,hx⟩ : ∃ x,a[i]?=some x:=⟨_,bG (by omega)⟩;rw [yrk hx]
  by_cases hc:i=0\/¬ a[i-1]?=some x
  ·rw [if_pos hc];refine ⟨?_,fun y => ?_⟩
   ·rw [List.pairwise_append];refine ⟨h1,by simp,fun y hy z hz => ?_⟩;simp only [List.mem_singleton] at hz;subst hz;obtain ⟨j,hj,hjy⟩:=(h2 y).mp hy;rcases hc with hc | hc
    ·omega
    ·obtain ⟨w,hw⟩ : ∃ w,a[i-1]?=some w:=⟨_,bG (by omega)⟩;have e1:=zo5 ha (by omega:j<=i-1) hjy hw;have e2:=zo5 ha (by omega:i-1<=i) hw hx;have e3:w≠z:=fun e=>hc (by rw [hw,e]);omega
   ·rw [List.mem_append,List.mem_singleton,h2 y];constructor
    ·rintro (⟨j,hj,e⟩ | rfl)
     ·exact ⟨j,by omega,e⟩
     ·exact ⟨i,by omega,hx⟩
    ·rintro ⟨j,hj,e⟩
     by_cases hji:j<i
     ·exact .inl ⟨j,hji,e⟩
     ·obtain rfl:j=i:=by omega
      rw [hx] at e; cases e;exact .inr rfl
  ·rw [if_neg hc];refine ⟨h1,fun y => ?_⟩;rw [h2 y];constructor
   ·rintro ⟨j,hj,e⟩; exact ⟨j,by omega,e⟩
   ·rintro ⟨j,hj,e⟩
    by_cases hji:j<i
    ·exact ⟨j,hji,e⟩
    ·obtain rfl:j=i:=by omega
     rw [hx] at e; cases e;have hc1 : ¬ j=0:=fun h=>hc (.inl h);have hc2:a[j-1]?=some x:=Classical.byContradiction fun h=>hc (.inr h);exact ⟨j-1,by omega,hc2⟩
theorem zgo {t:Ta} (h:zba t=true):1<=t.ns.length/\t.ns.length<=4/\1<=t.rw.length/\t.rw.length<=40/\t.lb.length=t.rw.length/\∀ r∈t.rw,r.length=t.ns.length:=by
 unfold zba at h;simp only [Bool.and_eq_true,decide_eq_true_eq,List.all_eq_true] at h;obtain ⟨⟨⟨⟨⟨h1,_⟩,h3⟩,h4⟩,_⟩,h6⟩:=h;have h1:=zaw.mp h1;have h3:=zaw.mp h3;refine ⟨by omega,by omega,by omega,by omega,by omega,fun r hr => ?_⟩;have:=h6 r hr;unfold zen at this;simp only [Bool.and_eq_true,decide_eq_true_eq] at this;omega
theorem z8b (l:List Int):srt (zd6 l):=(zx9 l [] List.Pairwise.nil).1
theorem y8c {l:List Int} (h:srt l):zd6 l=l:=by
 have h2:=(zx9 l [] List.Pairwise.nil).2;refine List.Perm.eq_of_pairwise (le:=fun a b=>a<=b) (fun a b _ _ h1 h2=>by omega) (z8b l) h ?_;rw [List.nil_append] at h2;exact h2
theorem y9r {l:List Int} {x:Int}:x∈zd6 l↔x∈l:=by
 have h2:=(zx9 l [] List.Pairwise.nil).2;rw [List.nil_append] at h2;exact h2.mem_iff
theorem y6n (a:List Int) (b k:Nat):(zjk a b k).length<=1:=by unfold zjk; split <;> simp
theorem yki (a:List Int) (b:Nat) : ∀ k,(zd8 a b k).length<=k
 | 0=>by simp [zd8]
 | k+1=>by
  have:=yki a b k;have:=y6n a b (k+1);simp only [zd8,List.length_append]; omega
theorem y70 {a:List Int} {b k:Nat} (hk:k<=b):zhl a b k<=a.length:=by
 unfold zhl;exact Nat.div_le_of_le_mul (by rw [Nat.mul_comm b]; exact Nat.mul_le_mul_left _ hk)
theorem ynp {a:List Int} {b k:Nat}:zhl a b k<=zhl a b (k+1):=Nat.div_le_div_right (Nat.mul_le_mul_left _ (Nat.le_succ k))
theorem yq7 {a:List Int} {b k:Nat} (hk:k<=b) {x:Int} (h:x∈zjk a b k) : ∃ j,j+1=zhl a b k/\a[j]?=some x:=by
 unfold zjk at h;split at h
 ·rename_i hc;simp only [List.mem_singleton] at h;have:=y70 (a:=a) hk;refine ⟨zhl a b k-1,by omega,?_⟩;rw [h,List.getD_eq_getElem?_getD,bG (by omega)];rfl
 ·simp at h
theorem z9y {a:List Int} {b:Nat} : ∀ k,k<=b->∀ x∈zd8 a b k,∃ j,j<zhl a b k/\a[j]?=some x
 | 0,_,x,h=>by simp [zd8] at h
 | k+1,hk,x,h=>by
  rw [zd8] at h;rcases List.mem_append.mp h with h | h
  ·obtain ⟨j,h1,h2⟩:=z9y k (by omega) x h;exact ⟨j,Nat.lt_of_lt_of_le h1 ynp,h2⟩
  ·obtain ⟨j,h1,h2⟩:=yq7 hk h;exact ⟨j,by omega,h2⟩
theorem ybh {a:List Int} {b:Nat} (ha:srt a) : ∀ k,k<=b->srt (zd8 a b k)
 | 0,_=>by unfold zd8; exact List.Pairwise.nil
 | k+1,hk=>by
  rw [zd8];unfold srt;rw [List.pairwise_append];refine ⟨ybh ha k (by omega),?_,fun x hx y hy => ?_⟩
  ·unfold zjk; split <;> simp
  ·obtain ⟨i,h1,h2⟩:=z9y k (by omega) x hx;obtain ⟨j,h3,h4⟩:=yq7 hk hy;have:=ynp (a:=a) (b:=b) (k:=k);exact zo5 ha (by omega) h2 h4
theorem z8a (l:List Int) (b:Int):(zbu l b).Pairwise (fun x y=>x<y)/\(∀ x∈zbu l b,x∈l)/\(zbu l b).length<=7:=by
 unfold zbu;split
 ·rename_i hc;simp only [Bool.and_eq_true] at hc;have hb:=zaw.mp hc.1;have hs:=ybh (z8b l) (b:=b.toNat) (b.toNat-1) (by omega);obtain ⟨h1,h2⟩:=yrr hs _ (Nat.le_refl _);refine ⟨h1,fun x hx => ?_,?_⟩
  ·obtain ⟨j,_,hj⟩:=(h2 x).mp hx;obtain ⟨i,_,hi⟩:=z9y (a:=zd6 l) (b:=b.toNat) (b.toNat-1) (by omega) x (bF hj);exact y9r.mp (bF hi)
  ·have:=yql (zd8 (zd6 l) b.toNat (b.toNat-1));have:=yki (zd6 l) b.toNat (b.toNat-1);omega
 ·exact ⟨List.Pairwise.nil,by simp⟩
theorem ymw : ∀ {l:List Int},l.Pairwise (fun x y=>x<y)->adj (fun a b=>decide (b<=a)) l=false
 | [],_=>rfl
 | [x],_=>rfl
 | a::b::r,h=>by
  obtain ⟨h1,h2⟩:=List.pairwise_cons.mp h;have:=h1 b (by simp);rw [adj,ymw h2];simp; omega
theorem qd8 {t:Ta} {f:Nat} (h:zba t=true) (hf:f<t.ns.length) : ∀ x∈zbl t f,zbi x=true:=by
 intro x hx;obtain ⟨r,hr,rfl⟩:=List.mem_map.mp hx;unfold zba at h;simp only [Bool.and_eq_true,List.all_eq_true] at h;have h6:=h.2 r hr;unfold zen at h6;simp only [Bool.and_eq_true,decide_eq_true_eq,List.all_eq_true] at h6;refine h6.2 _ ?_;rw [List.getD_eq_getElem?_getD,bG (by omega)];exact List.getElem_mem _
theorem qee {t:Ta} {f:Nat} (h:zba t=true) (hf:f<t.ns.length) (b:Int):zfr (zbu (zbl t f) b)=true:=by
 obtain ⟨h1,h2,h3⟩:=z8a (zbl t f) b;unfold zfr;rw [ymw h1,List.all_eq_true.mpr fun x hx=>qd8 h hf x (h2 x hx),decide_eq_true (by omega)];rfl
theorem ypk {t:Ta} {b:Int} (h:zba t=true) (hb:zai b 2 8=true) {f:Nat} (hf:f<t.ns.length):(za6 t b)[f]?=some (zbu (zbl t f) b)/\(za5 t b)[f]?=some (zij t b f):=by
 have hc:(zba t && zai b 2 8)=true:=by rw [h,hb]; rfl
 unfold za6 za5;rw [if_pos hc,if_pos hc,List.getElem?_map,List.getElem?_map,List.getElem?_range hf];exact ⟨rfl,rfl⟩
theorem ybz {t:Ta} {b:Int} (h:zba t=true) (hb:zai b 2 8=true):(za6 t b).length=t.ns.length/\(za5 t b).length=t.ns.length:=by
 have hc:(zba t && zai b 2 8)=true:=by rw [h,hb]; rfl
 unfold za6 za5;rw [if_pos hc,if_pos hc];simp
theorem yqf {t:Ta} {b:Int} (h:zba t=true) (hb:zai b 2 8=true):zdp (za5 t b)=t.rw.length:=by
 have h1:=(ypk h hb (f:=0) (by have:=(zgo h).1; omega)).2;cases e:za5 t b with
 | nil=>rw [e] at h1; cases h1
 | cons x l =>
  rw [e] at h1;simp only [List.getElem?_cons_zero,bC] at h1;rw [h1];simp [zdp,zij,zbl]
theorem qeb {t:Ta} {b:Int} (h:zba t=true) (hb:zai b 2 8=true):zdl (za6 t b) (za5 t b)=true:=by
 obtain ⟨t1,t2,t3,t4,t5,t6⟩:=zgo h;obtain ⟨l1,l2⟩:=ybz h hb;have hr:=yqf h hb;unfold zdl;rw [l1,l2,hr,zaw.mpr (by omega),zaw.mpr (by omega),decide_eq_true rfl,zo1 fun f hf => ?_]
 ·rfl
 ·obtain ⟨g1,g2⟩:=ypk h hb hf;unfold zft;rw [g1,g2,hr];simp only;rw [qee h hf,decide_eq_true (by simp [zij,zbl]),List.all_eq_true.mpr fun x hx => ?_]
  ·rfl
  ·obtain ⟨v,_,rfl⟩:=List.mem_map.mp hx;have:zds (zbu (zbl t f) b) v<=(zbu (zbl t f) b).length:=List.length_filter_le _ _;exact zaw.mpr (by omega)
theorem ynj {t:Ta} {b:Int}:(∀ l∈za6 t b,l.length<=7)/\∀ l∈za5 t b,l.length=t.rw.length:=by
 unfold za6 za5;split
 ·refine ⟨fun l hl => ?_,fun l hl => ?_⟩
  ·obtain ⟨f,_,rfl⟩:=List.mem_map.mp hl;exact (z8a _ _).2.2
  ·obtain ⟨f,_,rfl⟩:=List.mem_map.mp hl;simp [zij,zbl]
 ·exact ⟨by simp,by simp⟩
theorem ykd (c:List Int) (v x:Int):zds (c++[x]) v=zds c v+if x<v then 1 else 0:=by
 unfold zds;rw [List.filter_append,List.length_append]
 by_cases h:x<v <;> simp [h]
theorem zp0 {α:Type} {l:List α} {i:Nat} {x:α} (h:l[i]?=some x):l.take (i+1)=l.take i++[x]:=by
 rw [List.take_add_one,h]; rfl
theorem y55 (c:List Int) (v:Int) (hc:c.length<=1048576):RUN T zq6 [.sl 1 (zab c),iv v]=some ([iv (zds c v)],[]):=by
 refine zae rfl rfl ?_;simp [-getElem?_pos,z01,zy0];refine zaq (fun n st => ∃ i m:Nat,i+n=c.length/\m<=i/\m=zds (c.take i) v/\st.V 0 = .sl 1 (zab c)/\st.V 1=iv v/\st.V 5=iv m/\st.V 6=iv i) ?_ c.length _ ⟨0,0,by omega,by omega,by simp [zds]⟩;rintro n st ⟨i,m,hi,hm,hmv,v0,v1,v5,v6⟩
 by_cases h:i<c.length
 ·obtain ⟨x,hx⟩ : ∃ x,c[i]?=some x:=⟨_,bG h⟩;have hx':=zay hx;have hw:=wS h (by omega:c.length<=9223372036854775807);have hw2:=w64 (x:=(m:Int)+1) (by omega) (by omega);have hs:=ykd (c.take i) v x;rw [<- zp0 hx,<- hmv] at hs
  by_cases hl:x<v
  ·rw [if_pos hl] at hs;simp [-getElem?_pos,z00,v0,v1,v5,v6,h,hx',hw,hw2,hl];exact zaj (n-1) (by omega) ⟨i+1,m+1,by omega,by omega,hs.symm,by simp [v0,v1]⟩
  ·rw [if_neg hl] at hs;simp [-getElem?_pos,z00,v0,v1,v5,v6,h,hx',hw,hl];exact zaj (n-1) (by omega) ⟨i+1,m,by omega,by omega,hs.symm,by simp [v0,v1,v5]⟩
 ·rw [List.take_of_length_le (by omega)] at hmv;rw [<- hmv];simp [-getElem?_pos,z00,v0,v5,v6,h]
theorem y56 (l:List Int) (b:Int) (hl:l.length<=1048576):RUN T zq5 [.sl 1 (zab l),iv b]=some ([.own 1 (zab (zbu l b))],[]):=by
 have e1:=yjl l hl;have hsl:=z6j l;have hss:=z8b l;have hr0:zag 8 0=true:=by decide
 have hr1:zag 8 1=true:=by decide
 have g1:=zbn b 2 8;have g2:=zbn l.length 1 40;cases c1:zai b 2 8 with
 | false =>
  have hv:zbu l b=[]:=by unfold zbu; rw [c1]; rfl
  rw [hv];rw [c1] at g1;refine zae rfl rfl ?_;simp [-getElem?_pos,zte,z0z,-za1,g1,hr0]
 | true =>
 cases c2:zai l.length 1 40 with
 | false =>
  have hv:zbu l b=[]:=by unfold zbu; rw [c1,c2]; rfl
  rw [hv];rw [c1] at g1;rw [c2] at g2;refine zae rfl rfl ?_;simp [-getElem?_pos,zte,z0z,-za1,g1,g2,hr0]
 | true =>
 have hv:zbu l b=Lib.compact (zd8 (zd6 l) b.toNat (b.toNat-1)):=by unfold zbu; rw [c1,c2]; rfl
 rw [hv];rw [c1] at g1;rw [c2] at g2;have hb:=zaw.mp c1;have h12:=zaw.mp c2;have h1:1<=l.length:=by omega
 have h2:l.length<=40:=by omega
 clear c1 c2 h12 hv;generalize zd6 l=a at *;obtain ⟨bn,rfl⟩ : ∃ n:Nat,b=n:=⟨b.toNat,by omega⟩;rw [Int.toNat_natCast];refine zae rfl rfl ?_;simp [-getElem?_pos,zte,z0z,-za1,g1,g2,hr0,e1];refine zaq (fun n st => ∃ (i o e:Nat) (m:List Int),1<=i/\i+n=bn/\m.length<i/\m=zd8 a bn (i-1)/\st.V 1=iv bn/\st.V 5=iv l.length/\st.V 6 = .ref 0 none 0 0 a.length/\st.V 7 = .ref o none e 0 m.length/\st.V 8=iv i/\0<o/\o<st.nx/\st.S o=some (.row 1 (zab m))/\st.S 0=some (.row 1 (zab a))) ?_ (bn-1) _ ⟨1,1,0,[],by omega,by omega,by simp,rfl,by simp [zab]⟩;rintro n st ⟨i,o,e,m,hi1,hi,hm,hmp,v1,v5,v6,v7,v8,ho,hox,hSo,hS0⟩;obtain ⟨x1,x2,x3,x4⟩:=fr hox;obtain ⟨g1,g2,g3,g4⟩:=fr ho;obtain ⟨z1,z2,z3,z4⟩:=fr (show 0<st.nx by omega)
 by_cases h:i<bn
 ·have hw:=wS h (by omega:bn<=9223372036854775807);have hb0 : ¬ bn=0:=by omega
  have hq:(l.length:Int)*i<=40*8:=Int.mul_le_mul (by omega) (by omega) (by omega) (by omega);have hq0:0<=(l.length:Int)*i:=Int.mul_nonneg (by omega) (by omega);have w1:=w64 (x:=(l.length:Int)*i) (by omega) (by omega);obtain ⟨k,hkk⟩ : ∃ k:Nat,k=l.length*i / bn:=⟨_,rfl⟩;have hk:((l.length:Int)*i).tdiv bn=k:=by
   rw [Int.tdiv_eq_ediv_of_nonneg hq0,hkk]
   push_cast
   rfl
  have hcs:zd8 a bn i=m++zjk a bn i:=by
   obtain ⟨j,rfl⟩ : ∃ j,i=j+1:=⟨i-1,by omega⟩;rw [hmp]; rfl
  unfold zjk zhl at hcs;rw [hsl,<- hkk] at hcs;have hkl:k<=l.length:=by
   have h3:((l.length:Int)*i).tdiv bn<=l.length:=by
    rw [Int.tdiv_eq_ediv_of_nonneg hq0];refine Int.ediv_le_of_le_mul (by omega) ?_;exact Int.mul_le_mul_of_nonneg_left (by omega) (by omega)
   omega
  have w2:=w64 (x:=(k:Int)) (by omega) (by omega)
  by_cases hk1:1<=k
  ·obtain ⟨x,hx⟩ : ∃ x,a[k-1]?=some x:=⟨_,bG (by omega)⟩;obtain ⟨y,hy⟩ : ∃ x,a[a.length-1]?=some x:=⟨_,bG (by omega)⟩;have hx':=zay hx;have hy':=zay hy;rw [hsl] at hy';have w3:IntKind.i64.wrap ((k:Int)-1)=((k-1:Nat):Int):=by rw [w64 (by omega) (by omega)]; omega
   have w4:IntKind.i64.wrap ((l.length:Int)-1)=((l.length-1:Nat):Int):=by rw [w64 (by omega) (by omega)]; omega
   have c1:k-1<l.length:=by omega
   have c2:l.length-1<l.length:=by omega
   have hk1':(1:Int)<=k:=by omega
   have hr8:=zcg (n:=m.length+1) (by omega);have hsn:=zb1 m x;have gx:a.getD (k-1) 0=x:=by rw [List.getD_eq_getElem?_getD,hx]; rfl
   have gy:a.getD (l.length-1) 0=y:=by rw [<- hsl,List.getD_eq_getElem?_getD,hy]; rfl
   rw [gx,gy] at hcs;have hle:=zo5 hss (by omega:k-1<=a.length-1) hx hy
   by_cases hxy:x<y
   ·rw [if_pos ⟨hk1,by omega⟩] at hcs;simp [-getElem?_pos,zvx,v1,v5,v6,v7,v8,hSo,hS0,h,hw,hb0,w1,w2,w3,w4,hk,hk1,hk1',hx',hy',hsl,c1,c2,hxy,hr1,hr8,hsn,g1,g2,g3,g4,x1,x2,x3,x4,z1,z2,z3,z4];exact zaj (n-1) (by omega) ⟨i+1,st.nx+1,st.ep,m++[x],by omega,by omega,by simp; omega,hcs.symm,by simp [v1],by simp [v5],by simp [v6,hsl],by simp,by simp,by omega,by simp [g1,g2,g3,g4,x1,x2,x3,x4,z1,z2,z3,z4,hS0]⟩
   ·rw [if_neg (by omega),List.append_nil] at hcs;simp [-getElem?_pos,zvx,v1,v5,v6,v7,v8,hSo,hS0,h,hw,hb0,w1,w2,w3,w4,hk,hk1,hk1',hx',hy',hsl,c1,c2,hxy,g1,g2,g3,g4,x1,x2,x3,x4,z1,z2,z3,z4];exact zaj (n-1) (by omega) ⟨i+1,o,e,m,by omega,by omega,by omega,hcs.symm,by simp [v1],by simp [v5],by simp [v6,hsl],by simp [v7],by simp,ho,by simp [hox,hSo,hS0]⟩
  ·have hk0:k=0:=by omega
   rw [if_neg (by omega),List.append_nil] at hcs;rw [hk0] at hk w2;clear hkk hkl;subst hk0;simp [-getElem?_pos,zvx,v1,v5,v6,v7,v8,hSo,hS0,h,hw,hb0,w1,w2,hk];exact zaj (n-1) (by omega) ⟨i+1,o,e,m,by omega,by omega,by omega,hcs.symm,by simp [v1],by simp [v5],by simp [v6],by simp [v7],by simp,ho,by simp [hox,hSo,hS0]⟩
 ·have h3:=y54 m (by omega);have hib:i=bn:=by omega
  have hsm:=ybh (b:=bn) hss (bn-1) (by omega);have hm2:m=zd8 a bn (bn-1):=by rw [hmp,hib]
  rw [<- hm2] at hsm;rw [y8c hsm] at h3;rw [<- hm2];have hmm:(Lib.compact m).length<=m.length:=yql m;generalize Lib.compact m=z at *;simp [-getElem?_pos,zvx,v1,v7,v8,hSo,h,h3]
theorem y57 (q:Bool) (t:Ta) (f:Nat) (ht:TaL 1048576 t) (hf:f<t.ns.length) (h40:t.rw.length<=40) (hr : ∀ r∈t.rw,r.length=t.ns.length):RUN T zq4 [taS q t,iv f]=some ([.own 1 (zab (zbl t f))],[]):=by
 have hr0:zag 8 0=true:=by decide
 have hr1:zag 8 1=true:=by decide
 have hns:=ht.ns;have g1:=zbn f 0 ((t.ns.length:Int)-1);rw [zaw.mpr (by omega)] at g1;have w1:=w64 (x:=(t.ns.length:Int)-1) (by omega) (by omega);refine zae rfl rfl ?_;simp [-getElem?_pos,z0y,z0z,hr0];refine zaq (fun n st => ∃ (i o e:Nat) (m:List Int),i+n=t.rw.length/\m=(t.rw.take i).map (fun r=>r.getD f 0)/\m.length=i/\st.V 1=iv f/\st.V 2 = .ptr 0 none 0 0 0/\st.V 5 = .ref o none e 0 m.length/\st.V 6=iv i/\0<o/\o<st.nx/\st.S o=some (.row 1 (zab m))/\st.S 0=some (.box (taB q t))) ?_ t.rw.length _ ⟨0,1,0,[],by omega,rfl,rfl,by simp [zab]⟩;rintro n st ⟨i,o,e,m,hi,hmv,hm,v1,v2,v5,v6,ho,hox,hSo,hS0⟩;obtain ⟨x1,x2,x3,x4⟩:=fr hox;obtain ⟨g1',g2,g3,g4⟩:=fr ho;obtain ⟨z1,z2,z3,z4⟩:=fr (show 0<st.nx by omega)
 by_cases h:i<t.rw.length
 ·obtain ⟨r,hx⟩ : ∃ x,t.rw[i]?=some x:=⟨_,bG h⟩;have hx':=zc8 (q:=q) hx;have hrl:=hr r (bF hx);obtain ⟨y,hy⟩ : ∃ x,r[f]?=some x:=⟨_,bG (by omega)⟩;have hy':=zay hy;have hfr:f<r.length:=by omega
  have hw:=wS h (by omega:t.rw.length<=9223372036854775807);have hr8:=zcg (n:=m.length+1) (by omega);have hsn:=zb1 m y;have hmn:m++[y]=(t.rw.take (i+1)).map (fun r=>r.getD f 0):=by
   rw [zp0 hx,List.map_append,<- hmv,List.map_singleton,List.getD_eq_getElem?_getD,hy]; rfl
  simp [-getElem?_pos,z8n,-za1,v1,v2,v5,v6,hSo,hS0,h,hx',hy',hfr,g1,w1,hw,hr1,hr8,hsn,g1',g2,g3,g4,x1,x2,x3,x4,z1,z2,z3,z4];exact zaj (n-1) (by omega) ⟨i+1,st.nx+1,st.ep,m++[y],by omega,hmn,by simp [hm],by simp [v1],by simp [v2],by simp,by simp,by omega,by simp [g1',g2,g3,g4,x1,x2,x3,x4,z1,z2,z3,z4,hS0]⟩
 ·rw [List.take_of_length_le (by omega)] at hmv;have hcv:zbl t f=m:=hmv.symm;rw [hcv];simp [-getElem?_pos,z8n,-za1,v1,v2,v5,v6,hSo,hS0,h]
theorem y71 (cuts col:List Int) (hcu:cuts.length<=8) (hco:col.length<=40) {st:St} {q1 e1 q2 e2 q3 e3:Nat} {Q:Ex->St->Prop} (v7:st.V 7 = .ref q1 none e1 0 col.length) (v8:st.V 8 = .ref q2 none e2 0 cuts.length) (v9:st.V 9 = .ref q3 none e3 0 0) (v10:st.V 10=iv (0:Nat)) (h1:q1<q3) (h2:q2<q3) (h3:q3<st.nx) (hS1:st.S q1=some (.row 1 (zab col))) (hS2:st.S q2=some (.row 1 (zab cuts))) (hS3:st.S q3=some (.row 1 []))
  (hQ : ∀ (s':St) (q' e':Nat) (bins:List Int),bins.length=col.length->bins=col.map (fun v=>(zds cuts v:Int))->(∀ k,k≠9->k≠10->s'.V k=st.V k)->s'.V 9 = .ref q' none e' 0 bins.length->q3<=q'->q'<s'.nx->st.nx<=s'.nx->s'.S q'=some (.row 1 (zab bins))->(∀ k,k<q3->s'.S k=st.S k)->Q (.exit 2) s') :
  W (zad T) (RUN T) (.loop zzp) st Q:=by
 refine zaq (fun m s' => ∃ (i q' e':Nat) (bins:List Int),i+m=col.length/\bins.length=i/\bins=(col.take i).map (fun v=>(zds cuts v:Int))/\(∀ k,k≠9->k≠10->s'.V k=st.V k)/\s'.V 9 = .ref q' none e' 0 bins.length/\s'.V 10=iv i/\q3<=q'/\q'<s'.nx/\st.nx<=s'.nx/\s'.S q'=some (.row 1 (zab bins))/\(∀ k,k<q3->s'.S k=st.S k)) ?_ col.length _ ⟨0,q3,e3,[],by omega,rfl,rfl,fun _ _ _=>rfl,by simpa using v9,by simpa using v10,by omega,h3,Nat.le_refl _,by simpa [zab] using hS3,fun _ _=>rfl⟩;rintro m s' ⟨i,q',e',bins,hi,hb,hbb,hV,v9',v10',hq,hqx,hnx,hSq,hfr⟩;have v7':s'.V 7 = .ref q1 none e1 0 col.length:=by rw [hV 7 (by decide) (by decide)]; exact v7
 have v8':s'.V 8 = .ref q2 none e2 0 cuts.length:=by rw [hV 8 (by decide) (by decide)]; exact v8
 have hS1':s'.S q1=some (.row 1 (zab col)):=by rw [hfr q1 h1]; exact hS1
 have hS2':s'.S q2=some (.row 1 (zab cuts)):=by rw [hfr q2 h2]; exact hS2
 by_cases h:i<col.length
 ·obtain ⟨x,hx⟩ : ∃ x,col[i]?=some x:=⟨_,bG h⟩;have hx':=zay hx;have hw:=wS h (by omega:col.length<=9223372036854775807);have hr1:zag 8 1=true:=by decide
  have hr8:=zcg (n:=bins.length+1) (by omega);have h4:=y55 cuts x (by omega);have hbn:bins++[(zds cuts x:Int)]=(col.take (i+1)).map (fun v=>(zds cuts v:Int)):=by rw [zp0 hx,List.map_append,<- hbb]; rfl
  generalize zds cuts x=y at *;have hsn:=zb1 bins (y:Int);have a1:=fr hqx;have a2:=fr (show q1<q' by omega);have a3:=fr (show q2<q' by omega);have a4:=fr (show q1<s'.nx by omega);have a5:=fr (show q2<s'.nx by omega);simp [-getElem?_pos,zzp,v7',v8',v9',v10',hS1',hS2',hSq,h,hx',h4,hw,hr1,hr8,hsn,a1,a2,a3,a4,a5];refine zaj (m-1) (by omega) ⟨i+1,s'.nx+1,s'.ep,bins++[(y:Int)],by omega,by simp [hb],hbn,fun k k1 k2 => ?_,by simp,by simp,by omega,by simp,by simp; omega,by simp,fun k k1 => ?_⟩
  ·simp [k1,k2]; exact hV k k1 k2
  ·have b1:(k=s'.nx)=False:=eq_false (by omega);have b2:(k=s'.nx+1)=False:=eq_false (by omega);have b3:(k=q')=False:=eq_false (by omega);simp [b1,b2,b3];exact hfr k k1
 ·have hin:i=col.length:=by omega
  simp [-getElem?_pos,zzp,v7',v10',hS1',h];exact hQ _ q' e' bins (by omega) (by rw [hbb,List.take_of_length_le (by omega)]) (fun k k1 k2=>by simp; exact hV k k1 k2) (by simp [v9']) hq (by simp [hqx]) (by simp [hnx]) (by simp [hSq]) (fun k k1=>by simp; exact hfr k k1)
def LG (S:Nat->Option Ob) (nx:Nat) (C D:List (List Int)) (x y:PV):Prop:=(x = .e0/\y = .e0/\C=[]/\D=[])\/∃ o e o' e',x = .ref o none e 0 C.length/\y = .ref o' none e' 0 D.length/\2<o/\o<nx/\2<o'/\o'<nx/\o≠o'/\S o=some (.row 1 (rws true C))/\S o'=some (.row 1 (rws true D))
theorem LG.mono {S S':Nat->Option Ob} {nx nx':Nat} {C D:List (List Int)} {x y:PV} (h:LG S nx C D x y) (hn:nx<=nx') (hS : ∀ k,2<k->k<nx->S' k=S k):LG S' nx' C D x y:=by
 rcases h with h | ⟨o,e,o',e',h1,h2,h3,h4,h5,h6,h7,h8,h9⟩
 ·exact .inl h
 ·exact .inr ⟨o,e,o',e',h1,h2,h3,by omega,h5,by omega,h7,by rw [hS o h3 h4]; exact h8,by rw [hS o' h5 h6]; exact h9⟩
theorem yj5 (q:Bool) (t:Ta) (b:Int) (ht:TaL 1048576 t):RUN T zmv [taS q t,iv b]=some ([.agg [.own 1 (rws true (za6 t b)),.own 1 (rws true (za5 t b))]],[]):=by
 have e1:=z6f q t ⟨Nat.le_trans ht.ns (by omega),fun x hx=>Nat.le_trans (ht.ss x hx) (by omega),Nat.le_trans ht.nm (by omega),Nat.le_trans ht.rw (by omega),fun x hx=>Nat.le_trans (ht.rr x hx) (by omega),Nat.le_trans ht.lb (by omega)⟩;have g1:=zbn b 2 8;cases hok:zba t with
 | false =>
  have hC:za6 t b=[]:=by unfold za6; rw [hok]; rfl
  have hW:za5 t b=[]:=by unfold za5; rw [hok]; rfl
  rw [hC,hW];rw [hok] at e1;simp only [taS] at *;refine zae rfl rfl ?_;simp [-getElem?_pos,zs8,zs9,-za1,e1,show rws true []=[] from rfl]
 | true =>
 cases hbi:zai b 2 8 with
 | false =>
  have hC:za6 t b=[]:=by unfold za6; rw [hbi,Bool.and_false]; rfl
  have hW:za5 t b=[]:=by unfold za5; rw [hbi,Bool.and_false]; rfl
  rw [hC,hW];rw [hok] at e1;rw [hbi] at g1;simp only [taS] at *;refine zae rfl rfl ?_;simp [-getElem?_pos,zs8,zs9,-za1,e1,g1,show rws true []=[] from rfl]
 | true =>
 have hb:=zaw.mp hbi;rw [hok] at e1;rw [hbi] at g1;obtain ⟨t1,t2,t3,t4,t5,t6⟩:=zgo hok;have hgC:za6 t b=(List.range t.ns.length).map fun f=>zbu (zbl t f) b:=by unfold za6; rw [hok,hbi]; rfl
 have hgW:za5 t b=(List.range t.ns.length).map (zij t b):=by unfold za5; rw [hok,hbi]; rfl
 rw [hgC,hgW];have hr1:zag 24 1=true:=by decide
 have hr0:zag 8 0=true:=by decide
 have cl:=y57 q t;simp only [taS] at *;refine zae rfl rfl ?_;simp [-getElem?_pos,zs8,zs9,-za1,e1,g1];refine zaq (fun n st => ∃ (i:Nat) (C D:List (List Int)) (x y:PV),i+n=t.ns.length/\C.length=i/\D.length=i/\C=(List.range i).map (fun f=>zbu (zbl t f) b)/\D=(List.range i).map (zij t b)/\st.V 1=iv b/\st.V 2 = .ptr 0 none 0 0 0/\st.V 4 = .ptr 1 none 0 0 0/\st.V 5 = .ptr 2 none 0 0 0/\st.V 6=iv i/\2<st.nx/\LG st.S st.nx C D x y/\st.S 0=some (.box [.sl 1 (za4 t.ns),.v (.string t.nm),.sl 1 (rws q t.rw),.sl 1 (zab t.lb)])/\st.S 1=some (.box [.e0,.e0])/\st.S 2=some (.box [x,y])) ?_ t.ns.length _ ⟨0,[],[],.e0,.e0,by omega,rfl,rfl,rfl,rfl,by simp,by simp,by simp,by simp,by simp,by simp,.inl ⟨rfl,rfl,rfl,rfl⟩,by simp⟩;rintro n st ⟨i,C,D,x,y,hi,hC,hD,hC8,hD8,v1,v2,v4,v5,v6,hnx,hx,hS0,hS1,hS2⟩;have z1:=fr hnx;have z2:=fr (show 1<st.nx by omega);have z3:=fr (show 0<st.nx by omega)
 by_cases h:i<t.ns.length
 ·have hw:=wS h (by omega:t.ns.length<=9223372036854775807);have h1:=cl i ht h t4 t6;have hcol:(zbl t i).length=t.rw.length:=by simp [zbl]
  have h2:=y56 (zbl t i) b (by omega);have hcu:(zbu (zbl t i) b).length<=8:=Nat.le_trans (z8a (zbl t i) b).2.2 (by omega);have hCn:C++[zbu (zbl t i) b]=(List.range (i+1)).map (fun f=>zbu (zbl t f) b):=by rw [List.range_succ,List.map_append,<- hC8]; rfl
  have hDn:D++[(zbl t i).map fun v=>(zds (zbu (zbl t i) b) v:Int)]=(List.range (i+1)).map (zij t b):=by rw [List.range_succ,List.map_append,<- hD8]; rfl
  generalize zbu (zbl t i) b=cuts at *;generalize zbl t i=col at *;simp [-getElem?_pos,z8j,-za1,v1,v2,v4,v5,v6,hS0,hS1,hS2,h,h1,h2,hr0,z1,z2,z3];refine y71 cuts col hcu (by omega) (q1:=st.nx) (q2:=st.nx+1) (q3:=st.nx+2) (by simp; rfl) (by simp; rfl) (by simp; rfl) (by simp) (by omega) (by omega) (by simp) (by simp) (by simp) (by simp) ?_;intro s' q' e' bins hbl hbb hV w9 hq hqx hnx' hSq hfr;simp only at hq hnx';have w1:s'.V 1=iv b:=by rw [hV 1 (by decide) (by decide)]; simp [v1]
  have w2:s'.V 2 = .ptr 0 none 0 0 0:=by rw [hV 2 (by decide) (by decide)]; simp [v2]
  have w4:s'.V 4 = .ptr 1 none 0 0 0:=by rw [hV 4 (by decide) (by decide)]; simp [v4]
  have w5:s'.V 5 = .ptr 2 none 0 0 0:=by rw [hV 5 (by decide) (by decide)]; simp [v5]
  have w6:s'.V 6=iv i:=by rw [hV 6 (by decide) (by decide)]; simp [v6]
  obtain ⟨e8,w8⟩ : ∃ e,s'.V 8 = .ref (st.nx+1) none e 0 cuts.length:=⟨_,by rw [hV 8 (by decide) (by decide)]; simp; rfl⟩;have hT0:s'.S 0=some (.box [.sl 1 (za4 t.ns),.v (.string t.nm),.sl 1 (rws q t.rw),.sl 1 (zab t.lb)]):=by rw [hfr 0 (by omega)]; simp [z1,z2,z3,hS0]
  have hT1:s'.S 1=some (.box [.e0,.e0]):=by rw [hfr 1 (by omega)]; simp [z1,z2,z3,hS1]
  have hT2:s'.S 2=some (.box [x,y]):=by rw [hfr 2 (by omega)]; simp [z1,z2,z3,hS2]
  have hT8:s'.S (st.nx+1)=some (.row 1 (zab cuts)):=by rw [hfr _ (by omega)]; simp
  have hL:LG s'.S s'.nx C D x y:=hx.mono (by omega) (fun k k1 k2=>by
   rw [hfr k (by omega)];have b1:(k=st.nx)=False:=eq_false (by omega);have b2:(k=st.nx+1)=False:=eq_false (by omega);have b3:(k=st.nx+2)=False:=eq_false (by omega);simp [b1,b2,b3])
  have hr24:zag 24 (C.length+1)=true:=by simp [zag]; omega
  have hr24':zag 24 (D.length+1)=true:=by simp [zag]; omega
  have s1:=zuo C cuts;have s2:=zuo D bins;obtain ⟨p8,hp8⟩ : ∃ p8,p8=st.nx+1:=⟨_,rfl⟩;rw [<- hp8] at w8 hT8;have hp8q:p8<q':=by omega
  have hp82:2<p8:=by omega
  have hL':LG s'.S p8 C D x y:=by
   rcases hx with hx | ⟨o,e,o',e',k1,k2,k3,k4,k5,k6,k7,k8,k9⟩
   ·exact .inl hx
   ·rcases hL with ⟨l1,_⟩ | ⟨o2,e2,o2',e2',l1,l2,l3,l4,l5,l6,l7,l8,l9⟩
    ·rw [k1] at l1; cases l1
    ·rw [k1] at l1; cases l1;rw [k2] at l2; cases l2;exact .inr ⟨o,e,o',e',k1,k2,k3,by omega,k5,by omega,k7,l8,l9⟩
  clear hL hx hfr hV hp8 hS0 hS1 hS2 v1 v2 v4 v5 v6 z1 z2 z3 h1 h2;have a1:=fr hqx;have a2:=fr hp8q;have a3:=fr (show p8<s'.nx by omega);have a4:=fr hp82;have a5:=fr (show 2<q' by omega);have a6:=fr (show 2<s'.nx by omega);have b1:=fr (show 1<p8 by omega);have b2:=fr (show 1<q' by omega);have b3:=fr (show 1<s'.nx by omega);have b4:=fr (show 0<p8 by omega);have b5:=fr (show 0<q' by omega);have b6:=fr (show 0<s'.nx by omega);have nn1 : ¬ s'.nx=1:=by omega
  have nn2 : ¬ s'.nx+1=q':=by omega
  have na : ∀ a b:Nat,s'.nx+a+b=s'.nx+(a+b):=fun a b=>Nat.add_assoc _ _ _;rw [<- hbb] at hDn;rcases hL' with ⟨rfl,rfl,hC0,hD0⟩ | ⟨o,e,o',e',rfl,rfl,ho,hox,ho',hox',hoo,hSo,hSo'⟩
  ·subst hC0 hD0;simp only [List.nil_append] at hCn hDn;simp [-getElem?_pos,w1,w2,w4,w5,w6,w8,w9,hT0,hT1,hT2,hT8,hSq,hw,hr1,na,a1,a2,a3,a4,a5,a6,b1,b2,b3,b4,b5,b6];exact zaj (n-1) (by omega) ⟨i+1,[cuts],[bins],.ref (s'.nx+1) none s'.ep 0 1,.ref (s'.nx+3) none s'.ep 0 1,by omega,by simp at hC; simp; omega,by simp at hC; simp; omega,hCn,hDn,by simp [w1],by simp [w2],by simp [w4],by simp [w5],by simp,by first | (simp; done) | (simp; omega),.inr ⟨s'.nx+1,s'.ep,s'.nx+3,s'.ep,rfl,rfl,by omega,by simp,by omega,by simp,by omega,by simp [nn1,nn2,rws,cel]⟩,by simp [a1,a2,a3,a4,a5,a6,b1,b2,b3,b4,b5,b6,hT0,hT1]⟩
  ·have c1:=fr ho;have c2:=fr hox;have c3:=fr ho';have c4:=fr hox';have c5:=fr (show o<q' by omega);have c6:=fr (show o'<q' by omega);have d1:=fr (show o<s'.nx by omega);have d2:=fr (show o'<s'.nx by omega);have d3:=fr (show 1<o by omega);have d4:=fr (show 1<o' by omega);have d5:=fr (show 0<o by omega);have d6:=fr (show 0<o' by omega);have hoo2 : ¬ o'=o:=fun e=>hoo e.symm;have nn3 : ¬ s'.nx+1=o':=by omega
   simp [-getElem?_pos,w1,w2,w4,w5,w6,w8,w9,hT0,hT1,hT2,hT8,hSq,hSo,hSo',hoo,hoo2,hw,hr1,hr24,hr24',s1,s2,na,a1,a2,a3,a4,a5,a6,b1,b2,b3,b4,b5,b6,c1,c2,c3,c4,c5,c6,d1,d2,d3,d4,d5,d6];exact zaj (n-1) (by omega) ⟨i+1,C++[cuts],D++[bins],.ref (s'.nx+1) none s'.ep 0 (C.length+1),.ref (s'.nx+3) none s'.ep 0 (D.length+1),by omega,by simp [hC],by simp [hD],hCn,hDn,by simp [w1],by simp [w2],by simp [w4],by simp [w5],by simp,by first | (simp; done) | (simp; omega),.inr ⟨s'.nx+1,s'.ep,s'.nx+3,s'.ep,by simp,by simp,by omega,by simp,by omega,by simp,by omega,by simp [nn1,nn2,nn3]⟩,by simp [a1,a2,a3,a4,a5,a6,b1,b2,b3,b4,b5,b6,c1,c2,c3,c4,c5,c6,d1,d2,d3,d4,d5,d6,hT0,hT1]⟩
 ·have hin:i=t.ns.length:=by omega
  rcases hx with ⟨rfl,rfl,hC0,hD0⟩ | ⟨o,e,o',e',rfl,rfl,ho,hox,ho',hox',hoo,hSo,hSo'⟩
  ·subst hC0;simp at hC; omega
  ·have c1:=fr ho;have c3:=fr ho';have d3:=fr (show 1<o by omega);have d4:=fr (show 1<o' by omega);have d5:=fr (show 0<o by omega);have d6:=fr (show 0<o' by omega);have hoo2 : ¬ o'=o:=fun e=>hoo e.symm;simp [-getElem?_pos,z8j,v1,v2,v4,v5,v6,hS0,hS1,hS2,h,hSo,hSo',hoo,hoo2,c1,c3,d3,d4,d5,d6];rw [hC8,hD8,hin];exact ⟨rfl,rfl⟩
def zym (x:Int):Prop := -1500<=x/\x<=1500
theorem qav (B:List Int) (hB:B.length<=9223372036854775807) (far:Bool) (n:Nat) (hn:n<=3) {st:St} {p o e:Nat} {s:Int} {Q:Ex->St->Prop} (hp:p<=B.length) (v0:st.V 0 = .ptr 0 none 0 0 0) (v3:st.V 3=iv n) (v6:st.V 6=bv far) (v8:st.V 8 = .ref o none e 0 0) (v9:st.V 9=iv (0:Nat)) (ho:0<o) (hox:o<st.nx) (hS0:st.S 0=some (.box [.sl 1 (zb0 B),iv p,iv s])) (hSo:st.S o=some (.row 1 []))
  (hQ : ∀ (s':St) (p' o' e':Nat) (sd:Int) (r:List Int),r.length=n->(∀ x∈r,zbi x=true)->(far=false->∀ x∈r,zym x)->p'<=B.length->(∀ k,k≠8->k≠9->k≠10->s'.V k=st.V k)->s'.V 8 = .ref o' none e' 0 n->o<=o'->o'<s'.nx->st.nx<=s'.nx->s'.ep=st.ep->s'.S o'=some (.row 1 (zab r))->s'.S 0=some (.box [.sl 1 (zb0 B),iv p',iv sd])->(∀ k,k≠0->k<o->s'.S k=st.S k)->Q (.exit 2) s') :
  W (zad T) (RUN T) (.loop zvs) st Q:=by
 refine zaq (fun m s' => ∃ (i p' o' e':Nat) (sd:Int) (r:List Int),i+m=n/\r.length=i/\(∀ x∈r,zbi x=true)/\(far=false->∀ x∈r,zym x)/\p'<=B.length/\(∀ k,k≠8->k≠9->k≠10->s'.V k=st.V k)/\s'.V 8 = .ref o' none e' 0 r.length/\s'.V 9=iv i/\o<=o'/\o'<s'.nx/\st.nx<=s'.nx/\s'.ep=st.ep/\s'.S o'=some (.row 1 (zab r))/\s'.S 0=some (.box [.sl 1 (zb0 B),iv p',iv sd])/\(∀ k,k≠0->k<o->s'.S k=st.S k)) ?_ n _ ⟨0,p,o,e,s,[],by omega,rfl,by simp,by simp,hp,fun _ _ _ _=>rfl,by simpa using v8,by simpa using v9,by omega,hox,Nat.le_refl _,rfl,by simpa [zab] using hSo,hS0,fun _ _ _=>rfl⟩;rintro m s' ⟨i,p',o',e',sd,r,hi,hr,hrd,hrs,hp',hV,v8',v9',hoo,hox',hnx,hep,hSo',hS0',hfr⟩;have v0':s'.V 0 = .ptr 0 none 0 0 0:=by rw [hV 0 (by decide) (by decide) (by decide)]; exact v0
 have v3':s'.V 3=iv n:=by rw [hV 3 (by decide) (by decide) (by decide)]; exact v3
 have v6':s'.V 6=bv far:=by rw [hV 6 (by decide) (by decide) (by decide)]; exact v6
 obtain ⟨x1,x2,x3,x4⟩:=fr hox';obtain ⟨g1,g2,g3,g4⟩:=fr (show 0<o' by omega);obtain ⟨z1,z2,z3,z4⟩:=fr (show 0<s'.nx by omega)
 by_cases h:i<n
 ·have hw:=wS h (by omega:n<=9223372036854775807);have hr1:zag 8 1=true:=by decide
  have hr8:=zcg (n:=r.length+1) (by omega);obtain ⟨r1,h1,w1,p1,s1,⟨a1,rfl,had⟩,hp1,rfl⟩:=yj4 B p' sd hp' hB;cases far with
  | true =>
   have hsn:=zb1 r a1;simp [-getElem?_pos,zvs,v0',v3',v6',v8',v9',hSo',hS0',h,h1,hw,hr1,hr8,hsn,g1,g2,g3,g4,x1,x2,x3,x4,z1,z2,z3,z4];refine zaj (m-1) (by omega) ⟨i+1,p1,s'.nx+1,s'.ep,s1,r++[a1],by omega,by simp [hr],?_,fun h=>(by cases h),hp1,fun k k1 k2 k3 => ?_,by simp,by simp,by omega,by simp,by simp; omega,by simp [hep],by simp,by simp [g1,g2,g3,g4,x1,x2,x3,x4,z1,z2,z3,z4],fun k k1 k2 => ?_⟩
   ·intro x hx;rcases List.mem_append.mp hx with hx | hx
    ·exact hrd x hx
    ·simp at hx; subst hx; exact had
   ·simp [k1,k2,k3]; exact hV k k1 k2 k3
   ·have e1:(k=s'.nx)=False:=eq_false (by omega);have e2:(k=s'.nx+1)=False:=eq_false (by omega);have e3:(k=o')=False:=eq_false (by omega);have e4:(k=0)=False:=eq_false k1;simp [e1,e2,e3,e4];exact hfr k k1 k2
  | false =>
   obtain ⟨r2,h2,w2,p2,s2,⟨a2,rfl,a20,a21⟩,hp2,rfl⟩:=zca B p1 s1 hp1 hB 7 (by omega);have a22:=a21 (by omega);have u1:=w64 (x:=a2-3) (by omega) (by omega);have u2:=w64 (x:=500*(a2-3)) (by omega) (by omega);have hsn:=zb1 r (500*(a2-3));simp [-getElem?_pos,zvs,v0',v3',v6',v8',v9',hSo',hS0',h,h1,h2,hw,u1,u2,hr1,hr8,hsn,g1,g2,g3,g4,x1,x2,x3,x4,z1,z2,z3,z4];refine zaj (m-1) (by omega) ⟨i+1,p2,s'.nx+1,s'.ep,s2,r++[500*(a2-3)],by omega,by simp [hr],?_,?_,hp2,fun k k1 k2 k3 => ?_,by simp,by simp,by omega,by simp,by simp; omega,by simp [hep],by simp,by simp [g1,g2,g3,g4,x1,x2,x3,x4,z1,z2,z3,z4],fun k k1 k2 => ?_⟩
   ·intro x hx;rcases List.mem_append.mp hx with hx | hx
    ·exact hrd x hx
    ·simp at hx; subst hx; exact zt7 (by omega) (by omega)
   ·intro _ x hx;rcases List.mem_append.mp hx with hx | hx
    ·exact hrs rfl x hx
    ·simp at hx; subst hx; unfold zym; omega
   ·simp [k1,k2,k3]; exact hV k k1 k2 k3
   ·have e1:(k=s'.nx)=False:=eq_false (by omega);have e2:(k=s'.nx+1)=False:=eq_false (by omega);have e3:(k=o')=False:=eq_false (by omega);have e4:(k=0)=False:=eq_false k1;simp [e1,e2,e3,e4];exact hfr k k1 k2
 ·have hin:i=n:=by omega
  subst hin;simp [-getElem?_pos,zvs,v3',v9',h];exact hQ _ p' o' e' sd r hr hrd hrs hp' (fun k k1 k2 k3=>by simp; exact hV k k1 k2 k3) (by simp [v8',hr]) hoo (by simp [hox']) (by simp [hnx]) (by simp [hep]) (by simp [hSo']) (by simp [hS0']) (fun k k1 k2=>by simp; exact hfr k k1 k2)
def PTa (v:PV):Prop := ∃ t:Ta,v=taO t/\TaL 64 t/\zba t=true
def nm4:List ByteArray:=[bs [97],bs [98],bs [99,50],bs [100]]
theorem y90 {n:Nat} (h1:1<=n) (h3:n<=3):zgj (nm4.take n++[bs [121]])=true:=by
 have h:n=1\/n=2\/n=3:=by omega
 rcases h with rfl | rfl | rfl <;> decide +kernel
theorem y75 {n m:Nat} {L:List (List Int)} {Y:List Int} (h1:1<=n) (h3:n<=3) (m1:1<=m) (m2:m<=40) (hL:L.length=m) (hY:Y.length=m) (hr : ∀ r∈L,r.length=n/\∀ x∈r,zbi x=true) (hy : ∀ y∈Y,zbi y=true):PTa (taO ⟨nm4.take n,bs [121],L,Y⟩):=by
 have hnl:(nm4.take n).length=n:=by simp [nm4]; omega
 have hsz:(bs [121]).size=1:=rfl;refine ⟨_,rfl,⟨by simp only [hnl]; omega,fun x hx => ?_,by simp only [hsz]; omega,by simp only [hL]; omega,fun r hr'=>by have:=(hr r hr').1; omega,by simp only [hY]; omega⟩,?_⟩
 ·have hm:=List.mem_of_mem_take hx;simp only [nm4,List.mem_cons,List.not_mem_nil,or_false] at hm;rcases hm with rfl | rfl | rfl | rfl <;> decide
 ·unfold zba;simp only [hnl,hL,hY];rw [zaw.mpr (by omega),y90 h1 h3,zaw.mpr (by omega)];have e1:Y.all zbi=true:=by rw [List.all_eq_true]; exact hy
  have e2:L.all (zen n)=true:=by
   rw [List.all_eq_true];intro r hr';unfold zen;rw [decide_eq_true (by have:=(hr r hr').1; omega:(r.length:Int)=n),List.all_eq_true.mpr (hr r hr').2]; rfl
  rw [e1,e2]; simp
theorem yj6 (B:List Int) (p:Nat) (s:Int) (hp:p<=B.length) (hB:B.length<=9223372036854775807) : ∃ r,RUN T zmx [.bx [.sl 1 (zb0 B),iv p,iv s]]=some r/\zgz B PTa r:=by
 have hr0:zag 16 0=true:=by decide
 have hr1:zag 16 4=true:=by decide
 obtain ⟨r1,h1,v1,p1,s1,⟨a1,rfl,a10,a11⟩,hp1,rfl⟩:=zca B p s hp hB 3 (by omega);have a12:=a11 (by omega);obtain ⟨n,hnf⟩ : ∃ n:Nat,1+a1=n:=⟨(1+a1).toNat,by omega⟩;have w1:=w64 (x:=(n:Int)) (by omega) (by omega);have hr2:zag 16 n=true:=by simp [zag]; omega
 have hn3:n<=3:=by omega
 have hn4:n<=4:=by omega
 have hn1:1<=n:=by omega
 obtain ⟨ns,hns⟩ : ∃ ns,ns=nm4.take n:=⟨_,rfl⟩;have hcut:(if n=4 then [[PV.v (Value.string (bs [97]))],[PV.v (Value.string (bs [98]))],[PV.v (Value.string (bs [99,50]))],[PV.v (Value.string (bs [100]))]] else List.take n [[PV.v (Value.string (bs [97]))],[PV.v (Value.string (bs [98]))],[PV.v (Value.string (bs [99,50]))],[PV.v (Value.string (bs [100]))]])=za4 ns:=by
  subst hns;have h:n=1\/n=2\/n=3:=by omega
  rcases h with h | h | h <;> subst h <;> rfl
 have hnl:ns.length=n:=by subst hns; simp [nm4]; omega
 obtain ⟨r2,h2,v2,p2,s2,⟨a2,rfl,a20,a21⟩,hp2,rfl⟩:=zca B p1 s1 hp1 hB 9 (by omega);have a22:=a21 (by omega);obtain ⟨r3,h3,v3,p3,s3,⟨b3,rfl⟩,hp3,rfl⟩:=zgu B p2 s2 hp2 hB 10 (by omega);have key : ∀ (m:Nat) (far:Bool) (p:Nat) (s:Int) (st:St),1<=m->m<=40->p<=B.length->st.V 0 = .ptr 0 none 0 0 0->st.V 2 = .ptr 1 none 0 0 0->st.V 3=iv n->st.V 4 = .ptr 5 none 0 0 0->st.V 5=iv m->st.V 6=bv far->st.V 7=iv (0:Nat)->5<st.nx->st.S 0=some (.box [.sl 1 (zb0 B),iv p,iv s])->st.S 1=some (.box [.e0,.v (.string (bs [])),.e0,.e0])->st.S 4=some (.row 1 (za4 ns))->st.S 5=some (.box [.ref 4 none 0 0 n,.v (.string (bs [121])),.e0,.e0]) ->
   W (zad T) (RUN T) (.loop z0h) st (Bl 0 (Nx (fun s=>W (zad T) (RUN T) (.seq (.reg [oE 83 (.load true 4 (.V 4)),oN (.store [1,0,1,1] (.V 2) (.E 83))]) .ret) s (zjm zl5 1 (zgz B PTa) ⟨⟩ ⟨⟩)) (zjm zl5 1 (zgz B PTa) ⟨⟩ ⟨⟩) ⟨⟩ ⟨⟩) ⟨⟩):=by
  clear h1 h2 h3 hp1 hp2 hp3 hp;intro m far p s st hm1 hm40 hp v0 v2 v3 v4 v5 v6 v7 h5x hS0 hS1 hS4 hS5;refine zaq (fun k st => ∃ (i p:Nat) (s:Int) (L:List (List Int)) (Y:List Int) (xR xY:PV),i+k=m/\L.length=i/\Y.length=i/\(∀ r∈L,r.length=n/\∀ x∈r,zbi x=true)/\(∀ y∈Y,zbi y=true)/\p<=B.length/\st.V 0 = .ptr 0 none 0 0 0/\st.V 2 = .ptr 1 none 0 0 0/\st.V 3=iv n/\st.V 4 = .ptr 5 none 0 0 0/\st.V 5=iv m/\st.V 6=bv far/\st.V 7=iv i/\5<st.nx/\st.S 0=some (.box [.sl 1 (zb0 B),iv p,iv s])/\st.S 1=some (.box [.e0,.v (.string (bs [])),.e0,.e0])/\st.S 4=some (.row 1 (za4 ns))/\st.S 5=some (.box [.ref 4 none 0 0 n,.v (.string (bs [121])),xR,xY])/\((L=[]/\Y=[]/\xR = .e0/\xY = .e0)\/∃ o1 e1 o2 e2,xR = .ref o1 none e1 0 i/\xY = .ref o2 none e2 0 i/\5<o1/\o1<st.nx/\5<o2/\o2<st.nx/\¬ o1=o2/\st.S o1=some (.row 1 (rws true L))/\st.S o2=some (.row 1 (zab Y)))) ?_ m _ ⟨0,p,s,[],[],.e0,.e0,by omega,rfl,rfl,by simp,by simp,hp,v0,v2,v3,v4,v5,v6,v7,h5x,hS0,hS1,hS4,hS5,.inl ⟨rfl,rfl,rfl,rfl⟩⟩;clear v0 v2 v3 v4 v5 v6 v7 h5x hS0 hS1 hS4 hS5 hp;rintro k st ⟨i,p,s,L,Y,xR,xY,hi,hL,hY,hLr,hYd,hp,v0,v2,v3,v4,v5,v6,v7,h5x,hS0,hS1,hS4,hS5,hx⟩;obtain ⟨f1,f2,f3,f4⟩:=fr (show 0<st.nx by omega);obtain ⟨g1,g2,g3,g4⟩:=fr (show 1<st.nx by omega);obtain ⟨h1,h2,h3,h4⟩:=fr (show 4<st.nx by omega);obtain ⟨j1,j2,j3,j4⟩:=fr (show 5<st.nx by omega)
  by_cases h:i<m
  ·have hw:=wS h (by omega:m<=9223372036854775807);have hr1:zag 8 1=true:=by decide
   have hr00:zag 8 0=true:=by decide
   simp [-getElem?_pos,z0h,v5,v7,h,hr00];refine qav (o:=st.nx) (e:=st.ep) (p:=p) (s:=s) B hB far n (by omega) hp (by simp [v0]) (by simp [v3]) (by simp [v6]) (by simp) (by simp) (by omega) (by simp) (by simp [f1,f2,f3,f4,g1,g2,g3,g4,h1,h2,h3,h4,j1,j2,j3,j4,hS0]) (by simp) ?_;intro t p1 o3 e3 s1 r hr hrd hrs hp1 hV w8 ho3 ho3x hnx hep hSo3 hT0 hfr;simp only at ho3 hnx hep;have w0:t.V 0 = .ptr 0 none 0 0 0:=by rw [hV 0 (by decide) (by decide) (by decide)]; simp [v0]
   have w2:t.V 2 = .ptr 1 none 0 0 0:=by rw [hV 2 (by decide) (by decide) (by decide)]; simp [v2]
   have w3:t.V 3=iv n:=by rw [hV 3 (by decide) (by decide) (by decide)]; simp [v3]
   have w4:t.V 4 = .ptr 5 none 0 0 0:=by rw [hV 4 (by decide) (by decide) (by decide)]; simp [v4]
   have w5:t.V 5=iv m:=by rw [hV 5 (by decide) (by decide) (by decide)]; simp [v5]
   have w6:t.V 6=bv far:=by rw [hV 6 (by decide) (by decide) (by decide)]; simp [v6]
   have w7:t.V 7=iv i:=by rw [hV 7 (by decide) (by decide) (by decide)]; simp [v7]
   have hT1:t.S 1=some (.box [.e0,.v (.string (bs [])),.e0,.e0]):=by rw [hfr 1 (by omega) (by omega)]; simp [f1,f2,f3,f4,g1,g2,g3,g4,h1,h2,h3,h4,j1,j2,j3,j4,hS1]
   have hT4:t.S 4=some (.row 1 (za4 ns)):=by rw [hfr 4 (by omega) (by omega)]; simp [f1,f2,f3,f4,g1,g2,g3,g4,h1,h2,h3,h4,j1,j2,j3,j4,hS4]
   have hT5:t.S 5=some (.box [.ref 4 none 0 0 n,.v (.string (bs [121])),xR,xY]):=by rw [hfr 5 (by omega) (by omega)]; simp [f1,f2,f3,f4,g1,g2,g3,g4,h1,h2,h3,h4,j1,j2,j3,j4,hS5]
   obtain ⟨x0,hx0⟩ : ∃ x,r[0]?=some x:=⟨_,bG (by omega)⟩;have hx0':=zay hx0;obtain ⟨q1,d1,_,p2,s2,⟨y,rfl,hyd⟩,hp2,rfl⟩:=yj4 B p1 s1 hp1 hB;have hr24:zag 24 1=true:=by decide
   have hr24':zag 24 (i+1)=true:=by simp [zag]; omega
   have hr8:=zcg (n:=i+1) (by omega);have hsn1:=zuo L r;have hn0:(0:Nat)<n:=by omega
   have na : ∀ a b:Nat,t.nx+a+b=t.nx+(a+b):=fun a b=>Nat.add_assoc _ _ _;have Z2:=bI hw <| bI hr1 <| bI d1 <| bI hr24 na
   obtain ⟨F1,F2,F3,F4⟩:=fr (show 0<t.nx by omega);obtain ⟨G1,G2,G3,G4⟩:=fr (show 1<t.nx by omega);obtain ⟨H1,H2,H3,H4⟩:=fr (show 4<t.nx by omega);obtain ⟨J1,J2,J3,J4⟩:=fr (show 5<t.nx by omega);obtain ⟨O1,O2,O3,O4⟩:=fr (show o3<t.nx by omega);have n0a:(o3=0)=False:=eq_false (by omega);have n0b:(0=o3)=False:=eq_false (by omega);have n1a:(o3=1)=False:=eq_false (by omega);have n1b:(1=o3)=False:=eq_false (by omega);have n2a:(o3=4)=False:=eq_false (by omega);have n2b:(4=o3)=False:=eq_false (by omega);have n3a:(o3=5)=False:=eq_false (by omega);have n3b:(5=o3)=False:=eq_false (by omega);have Z1:=bI F1 <| bI F2 <| bI F3 <| bI F4 <| bI G1 <| bI G2 <| bI G3 <| bI G4 <| bI H1 <| bI H2 <| bI H3 <| bI H4 <| bI J1 <| bI J2 <| bI J3 <| bI J4 <| bI O1 <| bI O2 <| bI O3 <| bI O4 <| bI n0a <| bI n0b <| bI n1a <| bI n1b <| bI n2a <| bI n2b <| bI n3a n3b
   rcases hx with ⟨rfl,rfl,rfl,rfl⟩ | ⟨o1,e1,o2,e2,rfl,rfl,ho1,ho1x,ho2,ho2x,ho12,hSo1,hSo2⟩
   ·have hi0:i=0:=by simpa using hL.symm
    subst hi0;cases far with
    | true =>
     simp [-getElem?_pos,w0,w2,w3,w4,w5,w6,w7,w8,hT0,hT1,hT4,hT5,hSo3,hx0',hn0,hr,Z2,Z1];refine zaj (k-1) (by omega) ⟨0+1,p2,s2,[]++[r],[]++[y],.ref (t.nx+1) none t.ep 0 (0+1),.ref (t.nx+3) none t.ep 0 (0+1),by omega,by simp [hL],by simp [hY],?_,?_,by assumption,by simp [w0],by simp [w2],by simp [w3],by simp [w4],by simp [w5],by simp [w6],by simp,by simp; omega,by simp [Z1],by simp [Z1,hT1],by simp [Z1,hT4],by simp [Z1],.inr ⟨t.nx+1,t.ep,t.nx+3,t.ep,rfl,rfl,by omega,by simp,by omega,by simp,by omega,by simp [Z1,rws,cel,zab]⟩⟩
     ·intro r' hr';rcases List.mem_append.mp hr' with hr' | hr'
      ·exact hLr r' hr'
      ·simp at hr'; subst hr'; exact ⟨hr,hrd⟩
     ·intro y' hy';rcases List.mem_append.mp hy' with hy' | hy'
      ·exact hYd y' hy'
      ·simp at hy'; subst hy'; exact hyd
    | false =>
     have hsx:=hrs rfl x0 (bF hx0);unfold zym at hsx;obtain ⟨q2,d2,_,p3,s3,⟨b4,rfl⟩,hp3,rfl⟩:=zgu B p2 s2 hp2 hB 4 (by omega);cases b4 with
     | true =>
      simp [-getElem?_pos,w0,w2,w3,w4,w5,w6,w7,w8,hT0,hT1,hT4,hT5,hSo3,hx0',hn0,hr,Z2,d2,Z1];refine zaj (k-1) (by omega) ⟨0+1,p3,s3,[]++[r],[]++[y],.ref (t.nx+1) none t.ep 0 (0+1),.ref (t.nx+3) none t.ep 0 (0+1),by omega,by simp [hL],by simp [hY],?_,?_,by assumption,by simp [w0],by simp [w2],by simp [w3],by simp [w4],by simp [w5],by simp [w6],by simp,by simp; omega,by simp [Z1],by simp [Z1,hT1],by simp [Z1,hT4],by simp [Z1],.inr ⟨t.nx+1,t.ep,t.nx+3,t.ep,rfl,rfl,by omega,by simp,by omega,by simp,by omega,by simp [Z1,rws,cel,zab]⟩⟩
      ·intro r' hr';rcases List.mem_append.mp hr' with hr' | hr'
       ·exact hLr r' hr'
       ·simp at hr'; subst hr'; exact ⟨hr,hrd⟩
      ·intro y' hy';rcases List.mem_append.mp hy' with hy' | hy'
       ·exact hYd y' hy'
       ·simp at hy'; subst hy'; exact hyd
     | false =>
      obtain ⟨q3,d3,_,p4,s4,⟨a4,rfl,a40,a41⟩,hp4,rfl⟩:=zca B p3 s3 hp3 hB 5 (by omega);have a42:=a41 (by omega);have u1:=w64 (x:=x0*2) (by omega) (by omega);have u2:=w64 (x:=100*a4) (by omega) (by omega);have u3:=w64 (x:=x0*2+100*a4) (by omega) (by omega);simp [-getElem?_pos,w0,w2,w3,w4,w5,w6,w7,w8,hT0,hT1,hT4,hT5,hSo3,hx0',hn0,hr,Z2,d2,d3,u1,u2,u3,Z1];refine zaj (k-1) (by omega) ⟨0+1,p4,s4,[]++[r],[]++[x0*2+100*a4],.ref (t.nx+1) none t.ep 0 (0+1),.ref (t.nx+3) none t.ep 0 (0+1),by omega,by simp [hL],by simp [hY],?_,?_,by assumption,by simp [w0],by simp [w2],by simp [w3],by simp [w4],by simp [w5],by simp [w6],by simp,by simp; omega,by simp [Z1],by simp [Z1,hT1],by simp [Z1,hT4],by simp [Z1],.inr ⟨t.nx+1,t.ep,t.nx+3,t.ep,rfl,rfl,by omega,by simp,by omega,by simp,by omega,by simp [Z1,rws,cel,zab]⟩⟩
      ·intro r' hr';rcases List.mem_append.mp hr' with hr' | hr'
       ·exact hLr r' hr'
       ·simp at hr'; subst hr'; exact ⟨hr,hrd⟩
      ·intro y' hy';rcases List.mem_append.mp hy' with hy' | hy'
       ·exact hYd y' hy'
       ·simp at hy'; subst hy'; exact zt7 (by omega) (by omega)
   ·have hT6:t.S o1=some (.row 1 (rws true L)):=by rw [hfr o1 (by omega) (by omega)]; simp [show (o1=st.nx)=False from eq_false (by omega),hSo1]
    have hT7:t.S o2=some (.row 1 (zab Y)):=by rw [hfr o2 (by omega) (by omega)]; simp [show (o2=st.nx)=False from eq_false (by omega),hSo2]
    obtain ⟨P1,P2,P3,P4⟩:=fr (show o1<t.nx by omega);obtain ⟨Q1,Q2,Q3,Q4⟩:=fr (show o2<t.nx by omega);have m0a:(o1=0)=False:=eq_false (by omega);have m0b:(0=o1)=False:=eq_false (by omega);have m1a:(o1=1)=False:=eq_false (by omega);have m1b:(1=o1)=False:=eq_false (by omega);have m2a:(o1=4)=False:=eq_false (by omega);have m2b:(4=o1)=False:=eq_false (by omega);have m3a:(o1=5)=False:=eq_false (by omega);have m3b:(5=o1)=False:=eq_false (by omega);have m4a:(o2=0)=False:=eq_false (by omega);have m4b:(0=o2)=False:=eq_false (by omega);have m5a:(o2=1)=False:=eq_false (by omega);have m5b:(1=o2)=False:=eq_false (by omega);have m6a:(o2=4)=False:=eq_false (by omega);have m6b:(4=o2)=False:=eq_false (by omega);have m7a:(o2=5)=False:=eq_false (by omega);have m7b:(5=o2)=False:=eq_false (by omega);have m8a:(o1=o3)=False:=eq_false (by omega);have m8b:(o3=o1)=False:=eq_false (by omega);have m9a:(o2=o3)=False:=eq_false (by omega);have m9b:(o3=o2)=False:=eq_false (by omega);have m10a:(o1=o2)=False:=eq_false (by omega);have m10b:(o2=o1)=False:=eq_false (by omega);have Z0:=bI F1 <| bI F2 <| bI F3 <| bI F4 <| bI G1 <| bI G2 <| bI G3 <| bI G4 <| bI H1 <| bI H2 <| bI H3 <| bI H4 <| bI J1 <| bI J2 <| bI J3 <| bI J4 <| bI O1 <| bI O2 <| bI O3 <| bI O4 <| bI n0a <| bI n0b <| bI n1a <| bI n1b <| bI n2a <| bI n2b <| bI n3a <| bI n3b <| bI P1 <| bI P2 <| bI P3 <| bI P4 <| bI Q1 <| bI Q2 <| bI Q3 <| bI Q4 <| bI m0a <| bI m0b <| bI m1a <| bI m1b <| bI m2a <| bI m2b <| bI m3a <| bI m3b <| bI m4a <| bI m4b <| bI m5a <| bI m5b <| bI m6a <| bI m6b <| bI m7a <| bI m7b <| bI m8a <| bI m8b <| bI m9a <| bI m9b <| bI m10a m10b
    cases far with
    | true =>
     simp [-getElem?_pos,w0,w2,w3,w4,w5,w6,w7,w8,hT0,hT1,hT4,hT5,hSo3,hx0',hn0,hr,Z2,hT6,hT7,hr24',hr8,hsn1,hL,hY,zb1,Z0];refine zaj (k-1) (by omega) ⟨i+1,p2,s2,L++[r],Y++[y],.ref (t.nx+1) none t.ep 0 (i+1),.ref (t.nx+3) none t.ep 0 (i+1),by omega,by simp [hL],by simp [hY],?_,?_,by assumption,by simp [w0],by simp [w2],by simp [w3],by simp [w4],by simp [w5],by simp [w6],by simp,by simp; omega,by simp [Z0],by simp [Z0,hT1],by simp [Z0,hT4],by simp [Z0],.inr ⟨t.nx+1,t.ep,t.nx+3,t.ep,rfl,rfl,by omega,by simp,by omega,by simp,by omega,by simp [Z0]⟩⟩
     ·intro r' hr';rcases List.mem_append.mp hr' with hr' | hr'
      ·exact hLr r' hr'
      ·simp at hr'; subst hr'; exact ⟨hr,hrd⟩
     ·intro y' hy';rcases List.mem_append.mp hy' with hy' | hy'
      ·exact hYd y' hy'
      ·simp at hy'; subst hy'; exact hyd
    | false =>
     have hsx:=hrs rfl x0 (bF hx0);unfold zym at hsx;obtain ⟨q2,d2,_,p3,s3,⟨b4,rfl⟩,hp3,rfl⟩:=zgu B p2 s2 hp2 hB 4 (by omega);cases b4 with
     | true =>
      simp [-getElem?_pos,w0,w2,w3,w4,w5,w6,w7,w8,hT0,hT1,hT4,hT5,hSo3,hx0',hn0,hr,Z2,hT6,hT7,hr24',hr8,hsn1,hL,hY,zb1,d2,Z0];refine zaj (k-1) (by omega) ⟨i+1,p3,s3,L++[r],Y++[y],.ref (t.nx+1) none t.ep 0 (i+1),.ref (t.nx+3) none t.ep 0 (i+1),by omega,by simp [hL],by simp [hY],?_,?_,by assumption,by simp [w0],by simp [w2],by simp [w3],by simp [w4],by simp [w5],by simp [w6],by simp,by simp; omega,by simp [Z0],by simp [Z0,hT1],by simp [Z0,hT4],by simp [Z0],.inr ⟨t.nx+1,t.ep,t.nx+3,t.ep,rfl,rfl,by omega,by simp,by omega,by simp,by omega,by simp [Z0]⟩⟩
      ·intro r' hr';rcases List.mem_append.mp hr' with hr' | hr'
       ·exact hLr r' hr'
       ·simp at hr'; subst hr'; exact ⟨hr,hrd⟩
      ·intro y' hy';rcases List.mem_append.mp hy' with hy' | hy'
       ·exact hYd y' hy'
       ·simp at hy'; subst hy'; exact hyd
     | false =>
      obtain ⟨q3,d3,_,p4,s4,⟨a4,rfl,a40,a41⟩,hp4,rfl⟩:=zca B p3 s3 hp3 hB 5 (by omega);have a42:=a41 (by omega);have u1:=w64 (x:=x0*2) (by omega) (by omega);have u2:=w64 (x:=100*a4) (by omega) (by omega);have u3:=w64 (x:=x0*2+100*a4) (by omega) (by omega);simp [-getElem?_pos,w0,w2,w3,w4,w5,w6,w7,w8,hT0,hT1,hT4,hT5,hSo3,hx0',hn0,hr,Z2,hT6,hT7,hr24',hr8,hsn1,hL,hY,zb1,d2,d3,u1,u2,u3,Z0];refine zaj (k-1) (by omega) ⟨i+1,p4,s4,L++[r],Y++[x0*2+100*a4],.ref (t.nx+1) none t.ep 0 (i+1),.ref (t.nx+3) none t.ep 0 (i+1),by omega,by simp [hL],by simp [hY],?_,?_,by assumption,by simp [w0],by simp [w2],by simp [w3],by simp [w4],by simp [w5],by simp [w6],by simp,by simp; omega,by simp [Z0],by simp [Z0,hT1],by simp [Z0,hT4],by simp [Z0],.inr ⟨t.nx+1,t.ep,t.nx+3,t.ep,rfl,rfl,by omega,by simp,by omega,by simp,by omega,by simp [Z0]⟩⟩
      ·intro r' hr';rcases List.mem_append.mp hr' with hr' | hr'
       ·exact hLr r' hr'
       ·simp at hr'; subst hr'; exact ⟨hr,hrd⟩
      ·intro y' hy';rcases List.mem_append.mp hy' with hy' | hy'
       ·exact hYd y' hy'
       ·simp at hy'; subst hy'; exact zt7 (by omega) (by omega)
  ·have him:i=m:=by omega
   subst him;rcases hx with ⟨rfl,rfl,rfl,rfl⟩ | ⟨o1,e1,o2,e2,rfl,rfl,ho1,ho1x,ho2,ho2x,ho12,hSo1,hSo2⟩
   ·simp at hL; omega
   ·have n0a:(o1=0)=False:=eq_false (by omega);have n0b:(0=o1)=False:=eq_false (by omega);have n1a:(o1=1)=False:=eq_false (by omega);have n1b:(1=o1)=False:=eq_false (by omega);have n2a:(o1=4)=False:=eq_false (by omega);have n2b:(4=o1)=False:=eq_false (by omega);have n3a:(o1=5)=False:=eq_false (by omega);have n3b:(5=o1)=False:=eq_false (by omega);have n4a:(o2=0)=False:=eq_false (by omega);have n4b:(0=o2)=False:=eq_false (by omega);have n5a:(o2=1)=False:=eq_false (by omega);have n5b:(1=o2)=False:=eq_false (by omega);have n6a:(o2=4)=False:=eq_false (by omega);have n6b:(4=o2)=False:=eq_false (by omega);have n7a:(o2=5)=False:=eq_false (by omega);have n7b:(5=o2)=False:=eq_false (by omega);have n8a:(o1=o2)=False:=eq_false (by omega);have n8b:(o2=o1)=False:=eq_false (by omega);have hfin:=y75 hn1 hn3 hm1 hm40 hL hY hLr hYd;rw [<- hns] at hfin;have hq1:1<=o1:=by omega
    have hq2:1<=o2:=by omega
    simp [-getElem?_pos,z0h,zl5,hq1,hq2,v0,v2,v4,v5,v7,h,hS0,hS1,hS4,hS5,hSo1,hSo2,hnl,hL,hY,n0a,n0b,n1a,n1b,n2a,n2b,n3a,n3b,n4a,n4b,n5a,n5b,n6a,n6b,n7a,n7b,n8a,n8b];exact ⟨_,p,s,hfin,hp,rfl⟩
 obtain ⟨r4,h4,v4,p4,s4,⟨b4,rfl⟩,hp4,rfl⟩:=zgu B p3 s3 hp3 hB 12 (by omega);refine zhy rfl rfl ?_;cases b3 with
 | false =>
  obtain ⟨m,hm⟩ : ∃ m:Nat,1+a2=m:=⟨(1+a2).toNat,by omega⟩;have w2:=w64 (x:=(m:Int)) (by omega) (by omega);simp [-getElem?_pos,zvt,zl5,h1,h2,h3,h4,hnf,hm,w1,w2,hr0,hr1,hr2,hn4,hcut,yko,hnl];exact key m b4 p4 s4 _ (by omega) (by omega) hp4 (by simp) (by simp) (by simp) (by simp) (by simp) (by simp) (by simp) (by simp) (by simp) (by simp) (by simp) (by simp)
 | true =>
  obtain ⟨r5,h5,v5,p5,s5,⟨a5,rfl,a50,a51⟩,hp5,rfl⟩:=zca B p3 s3 hp3 hB 40 (by omega);have a52:=a51 (by omega);obtain ⟨m,hm⟩ : ∃ m:Nat,1+a5=m:=⟨(1+a5).toNat,by omega⟩;have w2:=w64 (x:=(m:Int)) (by omega) (by omega);have w3:=w64 (x:=1+a2) (by omega) (by omega);obtain ⟨r6,h6,v6,p6,s6,⟨b6,rfl⟩,hp6,rfl⟩:=zgu B p5 s5 hp5 hB 12 (by omega);simp [-getElem?_pos,zvt,zl5,h1,h2,h3,h5,h6,hnf,hm,w1,w2,w3,hr0,hr1,hr2,hn4,hcut,yko,hnl];exact key m b6 p6 s6 _ (by omega) (by omega) hp6 (by simp) (by simp) (by simp) (by simp) (by simp) (by simp) (by simp) (by simp) (by simp) (by simp) (by simp) (by simp)
theorem zyc {α:Type} {P:α->Prop} {c:List α} {f:Nat} {x:α} (h : ∀ l∈c,P l) (hx:P x) : ∀ l∈c.set f x,P l:=fun l hl=>by
 rcases List.mem_or_eq_of_mem_set hl with hl | hl
 ·exact h l hl
 ·subst hl; exact hx
theorem ya3 {α:Type} {P:α->Prop} {c:List α} {x:α} (h : ∀ l∈c,P l) (hx:P x) : ∀ l∈c++[x],P l:=fun l hl=>by
 rcases List.mem_append.mp hl with hl | hl
 ·exact h l hl
 ·simp at hl; subst hl; exact hx
def ze9:List Sl->Int
 | []=>0
 | x::xs=>x.n+ze9 xs
def zfa:List Sl->Int
 | []=>0
 | x::xs=>x.g+zfa xs
theorem z93 : ∀ {l:List Sl} {i:Nat} {s t:Sl},l[i]?=some s->ze9 (l.set i t)=ze9 l-s.n+t.n/\zfa (l.set i t)=zfa l-s.g+t.g
 | [],i,s,t,h=>by simp at h
 | x::xs,0,s,t,h=>by
  simp at h; subst h;simp only [List.set_cons_zero,ze9,zfa]; omega
 | x::xs,i+1,s,t,h=>by
  have h':xs[i]?=some s:=by simpa using h
  have:=z93 (t:=t) h';simp only [List.set_cons_succ,ze9,zfa]; omega
theorem yp4 (n:Nat):ze9 (List.replicate n ⟨0,0⟩)=0/\zfa (List.replicate n ⟨0,0⟩)=0:=by
 induction n with
 | zero=>exact ⟨rfl,rfl⟩
 | succ n ih=>simp only [List.replicate_succ,ze9,zfa]; omega
theorem ynr {a b:Int} (h:(adi a b).2=true):(adi a b).1=a+b:=by
 unfold adi at h ⊢;split
 ·rfl
 ·rename_i hc; rw [if_neg hc] at h; cases h
theorem z79 {a b:Sl} (h:(zbk a b).2=true):(zbk a b).1.n=a.n+b.n/\(zbk a b).1.g=a.g+b.g:=by
 unfold zbk at h ⊢;split
 ·rename_i hc;simp only [Bool.and_eq_true] at hc;exact ⟨ynr hc.1,ynr hc.2⟩
 ·rename_i hc; rw [if_neg hc] at h; cases h
def zg8 (g rows:List Int):Int:=(rows.map fun r=>(atI g r).getD 0).sum
theorem z7t (g:List Int) (r:Int) (rs:List Int):zg8 g (r::rs)=(atI g r).getD 0+zg8 g rs:=by simp [zg8]
theorem ylo {b g:List Int} : ∀ (rows:List Int) (h h':List Sl),zcn b g rows h=some h'->ze9 h'=ze9 h+rows.length/\zfa h'=zfa h+zg8 g rows
 | [],h,h',e=>by
  simp only [zcn,bC] at e;subst e;simp [zg8]
 | r::rs,h,h',e=>by
  unfold zcn at e;cases hx:atI b r with
  | none=>rw [hx] at e; cases e
  | some x =>
   cases hy:atI g r with
   | none=>rw [hx,hy] at e; cases e
   | some y =>
    rw [hx,hy] at e;simp only at e;cases hs:atI h x with
    | none=>rw [hs] at e; cases e
    | some s =>
     rw [hs] at e;simp only at e;split at e
     ·rename_i hp;obtain ⟨p1,p2⟩:=z79 hp;obtain ⟨e1,e2⟩:=ylo rs _ _ e;obtain ⟨j,rfl,hjs,_⟩:=zgh hs;rw [Int.toNat_natCast] at e1 e2;obtain ⟨q1,q2⟩:=z93 (t:=(zbk s ⟨1,y⟩).1) hjs;simp only [z7t,hy,Option.getD_some,List.length_cons];simp only at p1 p2;omega
     ·cases e
theorem yo6 : ∀ (h:List Sl) (s:Sl) (l:List Sl),zc7 s h=some l->(l.getLast?.getD s).n=s.n+ze9 h/\(l.getLast?.getD s).g=s.g+zfa h
 | [],s,l,e=>by
  simp only [zc7,bC] at e;subst e;simp [ze9,zfa]
 | x::xs,s,l,e=>by
  unfold zc7 at e;split at e
  ·rename_i hp;obtain ⟨p1,p2⟩:=z79 hp;simp only [bB] at e;obtain ⟨l',h1,rfl⟩:=e;obtain ⟨q1,q2⟩:=yo6 xs _ _ h1;rw [List.getLast?_cons,Option.getD_some];simp only [ze9,zfa];omega
  ·cases e
theorem y7e {b g rows:List Int} {k:Int} (h:(zci b g rows k).2=true):ze9 (zci b g rows k).1=rows.length/\zfa (zci b g rows k).1=zg8 g rows:=by
 unfold zci at h ⊢;split at h
 ·rename_i hc;rw [if_pos hc];cases e:zcn b g rows (List.replicate k.toNat ⟨0,0⟩) with
  | none=>rw [e] at h; cases h
  | some h' =>
   obtain ⟨h1,h2⟩:=ylo rows _ _ e;obtain ⟨h3,h4⟩:=yp4 k.toNat;simp only;omega
 ·cases h
theorem ypu : ∀ (h:List Sl) (s:Sl) (l:List Sl),zc7 s h=some l->∀ (b:Nat) (x:Sl),l[b]?=some x->x.n=s.n+ze9 (h.take (b+1))/\x.g=s.g+zfa (h.take (b+1))
 | [],s,l,e,b,x,hx=>by simp only [zc7,bC] at e; subst e; simp at hx
 | y::ys,s,l,e,b,x,hx=>by
  unfold zc7 at e;split at e
  ·rename_i hp;obtain ⟨p1,p2⟩:=z79 hp;simp only [bB] at e;obtain ⟨l',h1,rfl⟩:=e;cases b with
   | zero =>
    simp at hx;subst hx;simp [ze9,zfa,p1,p2]
   | succ b =>
    have hx':l'[b]?=some x:=by simpa using hx
    obtain ⟨q1,q2⟩:=ypu ys _ _ h1 b x hx';rw [List.take_succ_cons];simp only [ze9,zfa];omega
  ·cases e
theorem yq8 {bins g:List Int} : ∀ (rows:List Int) (h h':List Sl),zcn bins g rows h=some h'->∀ b:Nat,ze9 (h'.take (b+1))=ze9 (h.take (b+1))+(zct bins rows b).length/\zfa (h'.take (b+1))=zfa (h.take (b+1))+zg8 g (zct bins rows b)
 | [],h,h',e,b=>by
  simp only [zcn,bC] at e;subst e;simp [zg8,zct]
 | r::rs,h,h',e,b=>by
  unfold zcn at e;cases hx:atI bins r with
  | none=>rw [hx] at e; cases e
  | some x =>
   cases hy:atI g r with
   | none=>rw [hx,hy] at e; cases e
   | some y =>
    rw [hx,hy] at e;simp only at e;cases hs:atI h x with
    | none=>rw [hs] at e; cases e
    | some s =>
     rw [hs] at e;simp only at e;split at e
     ·rename_i hp;obtain ⟨p1,p2⟩:=z79 hp;obtain ⟨e1,e2⟩:=yq8 rs _ _ e b;obtain ⟨j,rfl,hjs,_⟩:=zgh hs;rw [Int.toNat_natCast,List.take_set] at e1 e2;simp only at p1 p2;have hB:ziw bins b r=decide ((j:Int)<=b):=by unfold ziw; rw [hx]
      by_cases hjb:j<=b
      ·have hB':ziw bins b r=true:=by rw [hB]; simpa using hjb
       have hk:(h.take (b+1))[j]?=some s:=by rw [List.getElem?_take_of_lt (by omega)]; exact hjs
       obtain ⟨q1,q2⟩:=z93 (t:=(zbk s ⟨1,y⟩).1) hk;have hf:zct bins (r::rs) b=r::zct bins rs b:=by unfold zct; rw [List.filter_cons,if_pos hB']
       rw [hf,z7t,hy,Option.getD_some,List.length_cons];omega
      ·have hB' : ¬ ziw bins b r=true:=by rw [hB]; simpa using hjb
       have hf:zct bins (r::rs) b=zct bins rs b:=by unfold zct; rw [List.filter_cons,if_neg hB']
       rw [List.set_eq_of_length_le (by simp; omega)] at e1 e2;rw [hf];exact ⟨e1,e2⟩
     ·cases e
theorem yrc {bins g:List Int} : ∀ (rows:List Int) (h h':List Sl),zcn bins g rows h=some h'->∀ r∈rows,∃ x,atI bins r=some x
 | [],h,h',e,r,hr=>by cases hr
 | r0::rs,h,h',e,r,hr=>by
  unfold zcn at e;split at e
  ·rename_i x y hx hy;split at e
   ·split at e
    ·rcases List.mem_cons.mp hr with rfl | hr
     ·exact ⟨x,hx⟩
     ·exact yrc rs _ _ e r hr
    ·cases e
   ·cases e
  ·cases e
theorem yne {bins g:List Int} {b:Int} : ∀ rows:List Int,(∀ r∈rows,∃ x,atI bins r=some x)->(zct bins rows b).length+(zee bins rows b).length=rows.length/\zg8 g (zct bins rows b)+zg8 g (zee bins rows b)=zg8 g rows
 | [],_=>by simp [zct,zee,zg8]
 | r::rs,h=>by
  obtain ⟨x,hx⟩:=h r (by simp);obtain ⟨h1,h2⟩:=yne (b:=b) (g:=g) rs (fun r hr=>h r (by simp [hr]));have hB:ziw bins b r=decide (x<=b):=by unfold ziw; rw [hx]
  have hC:zo8 bins b r = !decide (x<=b):=by unfold zo8; rw [hx]
  unfold zct zee at *;rw [List.filter_cons,List.filter_cons,hB,hC]
  by_cases hxb:x<=b
  ·simp only [decide_eq_true hxb,Bool.not_true,Bool.false_eq_true,if_true,if_false,z7t,List.length_cons];omega
  ·simp only [decide_eq_false hxb,Bool.not_false,Bool.false_eq_true,if_true,if_false,z7t,List.length_cons];omega
theorem ycm {f:Int} {all:Sl} {least:Int} {p:Cnd->Prop} {l:List Sl} (hp : ∀ (b:Nat) (x:Sl),l[b]?=some x->(zd5 all x).2=true->p ⟨f,b,x,(zd5 all x).1⟩) : ∀ (k i:Nat) (acc a:List Cnd),i+k=l.length->(∀ x∈acc,p x)->zfn f all least i (l.drop i) acc=some a->∀ x∈a,p x
 | 0,i,acc,a,hk,ha,h=>by
  rw [zu4 acc (by omega)] at h;cases h;exact ha
 | k+1,i,acc,a,hk,ha,h=>by
  by_cases hi:i+1<l.length
  ·obtain ⟨x,hx⟩ : ∃ x,l[i]?=some x:=⟨_,bG (by omega)⟩;rw [z7l acc hx hi] at h;split at h
   ·rename_i hm;split at h
    ·exact ycm hp k (i+1) _ _ (by omega) (fun y hy=>by
      rcases List.mem_append.mp hy with e | e
      ·exact ha y e
      ·simp only [List.mem_singleton] at e; subst e; exact hp i x hx hm) h
    ·exact ycm hp k (i+1) _ _ (by omega) ha h
   ·cases h
  ·rw [zu4 acc hi] at h;cases h;exact ha
def z63 (H:List (List Sl)) (x:Cnd):Prop := ∃ (f b:Nat) (h:List Sl),x.f=f/\x.b=b/\H[f]?=some h/\(zco h).2=true/\(zco h).1[b]?=some x.a/\(zd5 (zg0 (zco h).1) x.a).2=true/\x.z=(zd5 (zg0 (zco h).1) x.a).1
theorem yol {least:Int} {H:List (List Sl)} : ∀ (k i:Nat) (acc a:List Cnd),i+k=H.length->(∀ x∈acc,z63 H x)->zd3 least i (H.drop i) acc=some a->∀ x∈a,z63 H x
 | 0,i,acc,a,hk,ha,h=>by
  rw [List.drop_eq_nil_of_le (by omega),zd3] at h;cases h;exact ha
 | k+1,i,acc,a,hk,ha,h=>by
  obtain ⟨l,hx⟩ : ∃ x,H[i]?=some x:=⟨_,bG (by omega)⟩;rw [z7d acc hx] at h;split at h
  ·rename_i hp;split at h
   ·rename_i a' h';have h'':zfn i (zg0 (zco l).1) least ((0:Nat):Int) ((zco l).1.drop 0) acc=some a':=by simpa using h'
    exact yol k (i+1) a' a (by omega) (ycm (p:=z63 H) (fun b x hb hm=>⟨i,b,l,rfl,rfl,hx,hp,hb,hm,rfl⟩) (zco l).1.length 0 acc a' (by omega) ha h'') h
   ·cases h
  ·cases h
theorem qdt {least:Int} {H:List (List Sl)} : ∀ x∈zeu H least,z63 H x:=by
 unfold zeu;cases h:zd3 least 0 H [] with
 | none=>simp
 | some a =>
  have h':zd3 least ((0:Nat):Int) (H.drop 0) []=some a:=by simpa using h
  exact yol H.length 0 [] a (by omega) (fun x hx=>by cases hx) h'
theorem yl1 {a b:Int} (h:(sbi a b).2=true):(sbi a b).1=a-b:=by
 unfold sbi at h ⊢;split
 ·rfl
 ·rename_i hc; rw [if_neg hc] at h; cases h
theorem qed {a b:Sl} (h:(zd5 a b).2=true):(zd5 a b).1.n=a.n-b.n/\(zd5 a b).1.g=a.g-b.g:=by
 unfold zd5 at h ⊢;split
 ·rename_i hc;simp only [Bool.and_eq_true] at hc;exact ⟨yl1 hc.1,yl1 hc.2⟩
 ·rename_i hc; rw [if_neg hc] at h; cases h
theorem ypq {g rows:List Int} : ∀ (c v:List (List Int)) (H:List (List Sl)) (f:Nat) (h:List Sl),zbz g rows c v=some H->H[f]?=some h->∃ x y:List Int,v[f]?=some y/\(zci y g rows (x.length+1:Nat)).2=true/\h=(zci y g rows (x.length+1:Nat)).1
 | [],v,H,f,h,e,hf=>by simp [zbz] at e; subst e; simp at hf
 | x::c,[],H,f,h,e,hf=>by simp [zbz] at e; subst e; simp at hf
 | x::c,y::v,H,f,h,e,hf=>by
  simp only [zbz] at e;split at e
  ·rename_i hp;simp only [bB] at e;obtain ⟨H',h1,rfl⟩:=e;cases f with
   | zero =>
    simp at hf;exact ⟨x,y,rfl,by simpa using hp,by rw [<- hf]; simp⟩
   | succ f =>
    simp at hf;obtain ⟨x',y',h2,h3⟩:=ypq c v H' f h h1 hf;exact ⟨x',y',by simpa using h2,h3⟩
  ·cases e
theorem y76 {c v:List (List Int)} {g:List Int} {cfg:Cfg} {rows:List Int} {b:Bd} (h:(zbg c v g cfg rows b).2=true) : ∃ (f k:Nat) (y:List Int),(zbg c v g cfg rows b).1.f=f/\(zbg c v g cfg rows b).1.b=k/\v[f]?=some y/\zev g (zct y rows k)=(zbg c v g cfg rows b).1.a/\zev g (zee y rows k)=(zbg c v g cfg rows b).1.z:=by
 obtain ⟨h1,h2⟩:=yl9 h;have hc:(zbg c v g cfg rows b).1∈zeu (zby c v g rows).1 cfg.rw:=by
  unfold zbg at h ⊢;split
  ·rename_i e1;rw [if_pos e1,if_pos h2] at h;exact (yqt h).1
  ·rename_i e1;rw [if_neg e1] at h; cases h
 obtain ⟨f,k,l,e1,e2,e3,e4,e5,e6,e7⟩:=qdt _ hc;have hN : ∃ H,zbz g rows c v=some H/\(zby c v g rows).1=H:=by
  unfold zby at h2 ⊢;split at h2
  ·rename_i hg;rw [if_pos hg];cases e:zbz g rows c v with
   | none=>rw [e] at h2; cases h2
   | some H=>exact ⟨H,rfl,rfl⟩
  ·cases h2
 obtain ⟨H,hH,hH2⟩:=hN;rw [hH2] at e3;obtain ⟨x,y,hy,hok,rfl⟩:=ypq c v H f l hH e3;generalize (zbg c v g cfg rows b).1=C at *;obtain ⟨Cf,Cb,Ca,Cz⟩:=C;simp only at e1 e2 e5 e6 e7 ⊢;refine ⟨f,k,y,e1,e2,hy,?_⟩;have ⟨hs1,hs2⟩:=y7e hok;unfold zci at hok e4 e5 e6 e7 hs1 hs2;split at hok
 ·rename_i hw;rw [if_pos hw] at e4 e5 e6 e7 hs1 hs2;cases eh:zcn y g rows (List.replicate (((x.length+1:Nat):Int)).toNat ⟨0,0⟩) with
  | none=>rw [eh] at hok; cases hok
  | some hh =>
   rw [eh] at e4 e5 e6 e7 hs1 hs2;simp only at e4 e5 e6 e7 hs1 hs2;obtain ⟨t1,t2⟩:=yq8 rows _ _ eh k;rw [List.take_replicate] at t1 t2;obtain ⟨z1,z2⟩:=yp4 (min (k+1) (((x.length+1:Nat):Int)).toNat);rw [z1] at t1;rw [z2] at t2;have hval:=yrc rows _ _ eh;obtain ⟨a1,a2⟩:=yne (g:=g) (b:=(k:Int)) rows hval;unfold zco at e4 e5 e6 e7;cases ep:zc7 ⟨0,0⟩ hh with
   | none=>rw [ep] at e4; cases e4
   | some pl =>
    rw [ep] at e5 e6 e7;simp only at e5 e6 e7;obtain ⟨p1,p2⟩:=ypu hh _ _ ep k Ca e5;obtain ⟨m1,m2⟩:=qed e6;obtain ⟨q1,q2⟩:=yo6 hh _ _ ep;rw [<- e7] at m1 m2;simp only [zg0] at m1 m2;obtain ⟨an,ag⟩:=Ca;obtain ⟨zn,zg⟩:=Cz;simp only at p1 p2 q1 q2 m1 m2;unfold zev;have g1 : ∀ r:List Int,(r.map fun r=>(atI g r).getD 0).sum=zg8 g r:=fun r=>rfl;rw [g1,g1];simp only [Sl.mk.injEq];omega
 ·cases hok
theorem y81 (cs:List PV) (h:zcf [.int .u8] cs) : ∃ n:Int,[PV.v (.int .u8 n)]=cs/\True:=by
 simp only [zcf,Shp] at h;obtain ⟨_,_,rfl,⟨a,rfl,h1⟩,rfl⟩:=h;exact ⟨a,rfl,trivial⟩
theorem y9h {c:PV} (h:zmc false [.sl [.int .u8]] c) : ∃ B:List Int,c = .sl 1 (zb0 B)/\B.length<=9223372036854775807:=by
 simp only [zmc,Bool.false_eq_true,if_false,zcf,Shp] at h;obtain ⟨c',r,e,⟨es,he,h1,h2⟩,hr⟩:=h;simp only [List.cons.injEq] at e;obtain ⟨l,hl,hp⟩:=ypt (f:=fun n:Int=>[PV.v (.int .u8 n)]) (tys:=[.int .u8]) y81 h2;subst hl;simp [maxLen] at h1;exact ⟨l,e.1.trans he,by omega⟩
inductive SN where
 | mk (f c v:Int) (ks:List SN)
def yan (q:Bool) (es:List (List PV)):PV:=if q then .own 4 es else .sl 4 es
mutual
def snC (q:Bool):SN->List PV
 | .mk f c v ks=>[iv f,iv c,iv v,yan q (snL q ks)]
def snL (q:Bool):List SN->List (List PV)
 | []=>[]
 | s::ss=>snC q s::snL q ss
end
theorem yk3 (q:Bool) : ∀ ks:List SN,snL q ks=ks.map (snC q)
 | []=>by simp [snL]
 | k::ks=>by simp [snL,yk3 q ks]
@[simp] theorem qn2 (q:Bool) (ks:List SN):(snL q ks).length=ks.length:=by rw [yk3]; simp
@[simp] theorem qs9 (q:Bool) (es:List (List PV)):fz (yan q es) = .sl 4 es:=by cases q <;> simp [yan]
theorem qc0 {c:Cfg} (h:zbf c=true):1<=c.la/\c.la<=100/\0<=c.de/\c.de<=4:=by
 unfold zbf at h;simp only [Bool.and_eq_true,zaw] at h;omega
def yml (v:List (List Int)) (g rows:List Int) (f k:Nat):Cnd:=⟨f,k,zev g (zct (v.getD f []) rows k),zev g (zee (v.getD f []) rows k)⟩
def NI (S:Nat->Option Ob) (nx k:Nat) (m:List Int) (x:PV):Prop:=(x = .e0/\m=[])\/∃ o e,x = .ref o none e 0 m.length/\k<o/\o<nx/\S o=some (.row 1 (zab m))
theorem NI.up {S S':Nat->Option Ob} {nx nx' k:Nat} {l:List Int} {Y:PV} (h:NI S nx k l Y) (hn:nx<=nx') (hS : ∀ o e n,Y = .ref o none e 0 n->k<o->o<nx->S' o=S o):NI S' nx' k l Y:=by
 rcases h with h | ⟨o,e,h1,h2,h3,h4⟩
 ·exact .inl h
 ·exact .inr ⟨o,e,h1,h2,by omega,by rw [hS o e _ h1 h2 h3]; exact h4⟩
structure GH (c v:List (List Int)) (g:List Int) (cfg:Cfg):Prop where
 tk:zf3 c v g cfg=true
 sg:cfg.sg.length<=1048576
theorem GH.la {c v:List (List Int)} {g:List Int} {cfg:Cfg} (h:GH c v g cfg):1<=cfg.la/\cfg.la<=100/\0<=cfg.de/\cfg.de<=4:=qc0 (zxm h.tk).2.1
def WB (v:List (List Int)) (g rows:List Int) (la:Int) (S:Nat->Option Ob) (nx:Nat) (acc:Option Cnd) (B:List PV) (fd:PV):Prop:=(acc=none/\B=[iv 0,iv 0,.e0,.e0,bv false,uv 0,uv 0,iv 0]/\fd=bv false)\/∃ (f k o e p e':Nat),acc=some (yml v g rows f k)/\B=[iv f,iv k,.ref o none e 0 (zct (v.getD f []) rows k).length,.ref p none e' 0 (zee (v.getD f []) rows k).length]++frc (zcb (yml v g rows f k) la).1/\fd=bv true/\4<o/\o<nx/\4<p/\p<nx/\¬ o=p/\S o=some (.row 1 (zab (zct (v.getD f []) rows k)))/\S p=some (.row 1 (zab (zee (v.getD f []) rows k)))
theorem WB.up {v:List (List Int)} {g rows:List Int} {la:Int} {S S':Nat->Option Ob} {nx nx':Nat} {acc:Option Cnd} {B:List PV} {fd:PV} (h:WB v g rows la S nx acc B fd) (hn:nx<=nx') (hS : ∀ o,4<o->o<nx->S' o=S o):WB v g rows la S' nx' acc B fd:=by
 rcases h with h | ⟨f,k,o,e,p,e',h1,h2,h3,h4,h5,h6,h7,h8,h9,h10⟩
 ·exact .inl h
 ·exact .inr ⟨f,k,o,e,p,e',h1,h2,h3,h4,by omega,h6,by omega,h8,by rw [hS o h4 h5]; exact h9,by rw [hS p h6 h7]; exact h10⟩
theorem NC.up {S S':Nat->Option Ob} {nx nx' oq oq':Nat} {m:List Nd} {x:PV} (h:NC S nx oq m x) (hn:nx<=nx') (ho:oq'=oq\/nx<=oq') (hS : ∀ p,5<p->p<nx->¬ p=oq->S' p=S p):NC S' nx' oq' m x:=by
 rcases h with h | ⟨p,e,h1,h2,h3,h4,h5⟩
 ·exact .inl h
 ·exact .inr ⟨p,e,h1,h2,by omega,by omega,by rw [hS p h2 h3 h4]; exact h5⟩
def okP (g:List Int) (cfg:Cfg) (x:Pnd):Prop:=zx5 g.length cfg.de x/\zg9 x.b=true
def Str (c v:List (List Int)) (g:List Int) (cfg:Cfg) (Q:List Pnd) (F:List Nd) (j:Nat):Prop := ∃ (x:Pnd) (L:Nat),Q[j]?=some x/\okP g cfg x/\F[j]?=some (if goes c v g cfg x=true then zmg c (zbg c v g cfg x.r x.b).1 L else zdm g cfg x)/\(goes c v g cfg x=true->j<L/\Q[L]?=some (zjc c v cfg x (zbg c v g cfg x.r x.b).1)/\Q[L+1]?=some (zjj c v cfg x (zbg c v g cfg x.r x.b).1))
theorem z6s {α:Type} {l m:List α} {i:Nat} {x:α} (h:l[i]?=some x):(l++m)[i]?=some x:=by
 rw [List.getElem?_append_left (bD h).1]; exact h
theorem Str.up {c v:List (List Int)} {g:List Int} {cfg:Cfg} {Q R:List Pnd} {F E:List Nd} {j:Nat} (h:Str c v g cfg Q F j):Str c v g cfg (Q++R) (F++E) j:=by
 obtain ⟨x,L,h1,h2,h3,h4⟩:=h;exact ⟨x,L,z6s h1,h2,z6s h3,fun hg=>⟨(h4 hg).1,z6s (h4 hg).2.1,z6s (h4 hg).2.2⟩⟩
def inR (R x:Int):Prop := -R<=x/\x<=R
def bdR (R:Int) (b:Bd):Prop:=b.lo<=R /\ -R<=b.hi
theorem ya1 {a m R:Int} (hm:0<m) (h1 : -(R*m)<=a) (h2:a<=R*m):inR R (a.fdiv m):=by
 rw [Int.fdiv_eq_ediv_of_nonneg _ (by omega)];exact ⟨(Int.le_ediv_iff_mul_le hm).mpr (by rw [Int.neg_mul]; exact h1),Int.ediv_le_of_le_mul hm h2⟩
theorem zhm {R:Int} (h:0<=R):inR R 0:=⟨by omega,h⟩
theorem ypy {R x:Int} {b:Bd} (h:inR R x) (hb:bdR R b):inR R (zfd x b.lo b.hi):=by
 unfold zfd inR bdR at *;split
 ·omega
 ·split <;> omega
theorem y8m {R:Int} {g:List Int} (hR:0<=R) (hg : ∀ x∈g,inR R x) (r:Int):inR R ((atI g r).getD 0):=by
 unfold atI;split
 ·cases h:g[r.toNat]? with
  | none=>exact zhm hR
  | some x=>exact hg x (bF h)
 ·exact zhm hR
end Go.Pe
