/- What each function answers by the evaluator,and the law; for each answer its own conditions stand ahead of it. -/
import Derived.Test.YtpcphbbcnmhcnaaGreatK1
import Derived.Test.YtpcphbbcnmhcnaaGreatEvB2
import Derived.IntWalk
set_option linter.all false
set_option maxHeartbeats 8000000
set_option maxRecDepth 8000
namespace Go.Pe
open Go
theorem w64 {x:Int} (h1 : -9223372036854775808<=x) (h2:x<=9223372036854775807):IntKind.i64.wrap x=x:=IntWalk.i64_in x ⟨h1,h2⟩
@[simp] theorem qn9 {x:Int} (h1 : -9223372036854775808<=x) (h2:x<=9223372036854775807):IntKind.i64.wrap x=x:=w64 h1 h2
structure Nd where
 f:Int
 c:Int
 l:Int
 r:Int
 v:Int
deriving DecidableEq
def nd (n:Nd):List PV:=[iv n.f,iv n.c,iv n.l,iv n.r,iv n.v]
@[simp] theorem qkh (a b c d e:Int):RUN T zm4 [.agg [iv a,iv b,iv c,iv d,iv e]]=some ([bv (decide (a = -1))],[]):=by
 refine zae rfl rfl ?_;simp [z07,zn6]
@[simp] theorem zbm (a b c:Int):RUN T zbt [iv a,iv b,iv c]=some ([bv (decide (b<=a) && decide (a<=c))],[]):=by
 refine zae rfl rfl ?_;simp [zzq,zy4];refine za9 (fun h => ?_) (fun h => ?_) <;> simp [h]
@[simp] theorem qki (a b c d e:Int):RUN T zne [.agg [iv a,iv b,iv c,iv d,iv e]]=some ([bv (!decide (a = -1))],[]):=by
 refine zae rfl rfl ?_;simp [z2a,zn6]
@[simp] theorem za1 (a b c:Int):RUN T zbs [iv a,iv b,iv c]=some ([bv (decide (b<=a) && decide (a<=c))],[]):=by
 refine zae rfl rfl ?_;simp [zy3,zy4];refine za9 (fun h => ?_) (fun h => ?_) <;> simp [h]
def zh7 {α:Type} (p:α->Bool) (l:List α):Int:=match l.findIdx? p with
 | some i=>(i:Int)
 | none => -1
theorem z6n {α:Type} {p:α->Bool} {l:List α} (h : ∀ (j:Nat) (x:α),j<l.length->l[j]?=some x->p x=false):zh7 p l = -1:=by
 unfold zh7;have:l.findIdx? p=none:=by
  rw [List.findIdx?_eq_none_iff];intro x hx;obtain ⟨j,hj⟩:=bH hx;exact h j x (bD hj).1 hj
 rw [this]
theorem z6k {α:Type} {p:α->Bool} {l:List α} {i:Nat} {x:α} (hi:l[i]?=some x) (hp:p x=true) (h : ∀ (j:Nat) (x:α),j<i->l[j]?=some x->p x=false):zh7 p l=i:=by
 unfold zh7;have:l.findIdx? p=some i:=by
  rw [List.findIdx?_eq_some_iff_getElem];obtain ⟨h1,h2⟩:=bD hi;refine ⟨h1,by rw [h2]; exact hp,fun j hj => ?_⟩;have:=h j l[j] hj (bG (by omega));simp [this]
 rw [this]
theorem z9x {α:Type} {p:α->Bool} {l:List α} {i:Nat} {x:α} (h : ∀ (j:Nat) (x:α),j<i->l[j]?=some x->p x=false) (hi:l[i]?=some x) (hp:p x=false) : ∀ (j:Nat) (x:α),j<i+1->l[j]?=some x->p x=false:=by
 intro j y hj hy
 by_cases e:j=i
 ·subst e; rw [hi] at hy; cases hy; exact hp
 ·exact h j y (by omega) hy
def ymc (k:Int) (n:Nd):Bool := !decide (n.f = -1) && (decide (n.l=k) || decide (n.r=k))
def par (t:List Nd) (k:Int):Int:=zh7 (ymc k) t
theorem wS {i n:Nat} (h:i<n) (hn:n<=9223372036854775807):IntKind.i64.wrap ((i:Int)+1)=(i:Int)+1:=w64 (by omega) (by omega)
def zab (l:List Int):List (List PV):=l.map fun n=>[iv n]
@[simp] theorem qo1 (l:List Int):(zab l).length=l.length:=by simp [zab]
theorem zay {l:List Int} {i:Nat} {x:Int} (h:l[i]?=some x):(zab l)[i]?=some [iv x]:=by simp [zab,h]
@[simp] theorem qmz:zab []=[]:=rfl
theorem zxs (x:Int) (l:List Int):zab (x::l)=[iv x]::zab l:=rfl
theorem yq2 (l:List Int) (i:Nat) (x:Int):(zab l).set i [iv x]=zab (l.set i x):=by simp [zab,List.map_set]
theorem qcg (l m:List Int):zab l++zab m=zab (l++m):=by simp [zab]
theorem zb1 (l:List Int) (x:Int):zab l++[[iv x]]=zab (l++[x]):=by simp [zab]
theorem ylc (l:List Int):zcl (zab l)=true:=by simp [zcl,zab]
def anc (t:List Nd):Nat->Int->Option (List Int)
 | 0,_=>none
 | n+1,k=>if par t k<0 then some [] else (anc t n (par t k)).map (par t k :: ·)
def way (t:List Nd) (k:Int):List Int:=if 0<=k/\k<=t.length-1 then match anc t 32 k with
  | some l=>(k::l).reverse
  | none=>[]
 else []
theorem zcg {n:Nat} (h:n<=17592186044416):zag 8 n=true:=by simp [zag]; omega
def upto (k:Int) (n:Nat):List Int:=(List.range n).map fun (i:Nat)=>k+(i:Int)
@[simp] theorem qop (k:Int) (n:Nat):(upto k n).length=n:=by simp [upto]
def lvs:List Nd->Int->List Int
 | [],_=>[]
 | x::xs,i=>if x.f = -1 then i::lvs xs (i+1) else lvs xs (i+1)
theorem z9u : ∀ (t:List Nd) (i:Int),(lvs t i).length<=t.length
 | [],_=>by simp [lvs]
 | x::xs,i=>by
  have:=z9u xs (i+1);simp only [lvs];split <;> simp <;> omega
theorem zdi {α:Type} {l:List α} {i:Nat} {x:α} (h:l[i]?=some x):l.drop i=x::l.drop (i+1):=by
 obtain ⟨h1,h2⟩:=bD h;rw [List.drop_eq_getElem_cons h1,h2]
theorem y3l (t:List Nd) (hl:t.length<=1048576):RUN T zrj [.agg [.sl 5 (t.map nd)]]=some ([.own 1 (zab (lvs t 0))],[]):=by
 refine zae rfl rfl ?_;simp [z1s,zza];refine zaq (fun n st => ∃ i:Nat,i+n=t.length/\∃ (m:List Int) (o e:Nat),m++lvs (t.drop i) i=lvs t 0/\st.V 8 = .sl 5 (t.map nd)/\st.V 9=iv t.length/\st.V 3 = .ref o none e 0 m.length/\st.V 10=iv i/\o<st.nx/\st.S o=some (.row 1 (zab m))) ?_ t.length _ ⟨0,by simp,[],1,0,by simp⟩;rintro n st ⟨i,hi,m,o,e,hm,h8,h9,h3,h10,hox,hSo⟩;simp [ydf,h8,h9,h10];refine za9 (fun h => ?_) (fun h => ?_)
 ·simp at h;obtain ⟨x,hx⟩ : ∃ x,t[i]?=some x:=⟨_,bG h⟩;have hw:=wS h (by omega:t.length<=9223372036854775807);have hr:zag 8 (m.length+1)=true:=zcg (by
   have h5:=congrArg List.length hm;have h6:=z9u t 0;simp at h5; omega)
  have n1 : ¬ o=st.nx:=by omega
  have n2 : ¬ o=st.nx+1:=by omega
  simp [-getElem?_pos,h8,h9,h3,h10,hSo,n1,n2,hx,nd,hw,hr,zb1];refine za9 (fun b0 => ?_) (fun b0 => ?_) <;> (try simp at b0) <;> simp [-getElem?_pos,b0,h8,h9,h3,h10,hSo,n1,n2,hx,hw,hr,zb1]
  ·refine zaj (n-1) (by omega) ⟨i+1,by omega,m++[(i:Int)],st.nx+2,st.ep,?_,by simp [h8,h9]⟩;rw [<- hm,zdi hx,lvs,if_pos b0]; simp
  ·refine zaj (n-1) (by omega) ⟨i+1,by omega,m,o,e,?_,by simp [h8],by simp [h9],by simp [h3],by simp,by simp; omega,by simp [hSo,n1]⟩;rw [<- hm,zdi hx,lvs,if_neg b0]; simp
 ·simp at h;have e:m=lvs t 0:=by rw [<- hm,List.drop_eq_nil_of_le h]; simp [lvs]
  simp [h3,hSo,e]
def rt (t:List Nd) (row:List Int):Nat->Int->Option (List Int)
 | 0,_=>none
 | n+1,a=>match (if 0<=a then t[a.toNat]? else none) with
  | none=>none
  | some x=>if x.f = -1 then some [a] else match (if 0<=x.f then row[x.f.toNat]? else none) with
   | none=>none
   | some y=>(rt t row n (if y<=x.c then x.l else x.r)).map (a :: ·)
theorem yn8 {t:List Nd} {row:List Int} {n:Nat} {a:Int} (h:a<0\/(t.length:Int)-1<a):rt t row n a=none:=by
 cases n with
 | zero=>rfl
 | succ n =>
  rw [rt];have:(if 0<=a then t[a.toNat]? else none)=none:=by
   split
   ·exact List.getElem?_eq_none (by omega)
   ·rfl
  rw [this]
theorem yoa {t:List Nd} {row:List Int} {n a:Nat} {x:Nd} (hx:t[a]?=some x) (h:x.f = -1):rt t row (n+1) a=some [(a:Int)]:=by
 rw [rt]; simp [hx,h]
theorem yra {t:List Nd} {row:List Int} {n a:Nat} {x:Nd} (hx:t[a]?=some x) (h:x.f ≠ -1) (h2:x.f<0\/(row.length:Int)-1<x.f):rt t row (n+1) a=none:=by
 rw [rt];have:(if 0<=x.f then row[x.f.toNat]? else none)=none:=by
  split
  ·exact List.getElem?_eq_none (by omega)
  ·rfl
 simp [hx,h,this]
theorem yld {t:List Nd} {row:List Int} {n a f:Nat} {x:Nd} {y:Int} (hx:t[a]?=some x) (h:x.f=f) (hy:row[f]?=some y):rt t row (n+1) a=(rt t row n (if y<=x.c then x.l else x.r)).map ((a:Int) :: ·):=by
 rw [rt];have:x.f ≠ -1:=by omega
 simp [hx,this,h,hy]
def zir (t:List Nd) (row:List Int):List Int:=(rt t row (t.length+1) 0).getD []
theorem y3m (t:List Nd) (row:List Int) (hl:t.length<=1048576) (hr:row.length<=1048576):RUN T zrs [.agg [.sl 5 (t.map nd)],.sl 1 (zab row)]=some ([.own 1 (zab (zir t row))],[]):=by
 refine zae rfl rfl ?_;simp [z2e,z0z];obtain ⟨r,hrr⟩ : ∃ r,r=rt t row (t.length+1) 0:=⟨_,rfl⟩;unfold zir;rw [<- hrr];refine zaq (fun n st => ∃ i:Nat,i+n=t.length+1/\∃ (a:Int) (m:List Int) (o e:Nat),m.length=i/\(rt t row n a).map (m ++ ·)=r/\st.V 1 = .sl 1 (zab row)/\st.V 2 = .ptr 0 none 0 0 0/\st.V 5 = .ref o none e 0 m.length/\st.V 6=iv a/\st.V 7=iv i/\0<o/\o<st.nx/\st.S o=some (.row 1 (zab m))/\st.S 0=some (.box [.sl 5 (t.map nd)])) ?_ (t.length+1) _ ⟨0,by simp,0,[],1,0,by simp [hrr]⟩;rintro n st ⟨i,hi,a,m,o,e,hmi,hm,h1,h2,h5,h6,h7,ho,hox,hSo,hS⟩;simp [ydi,h1,h2,h5,h6,h7,hS];refine za9 (fun h => ?_) (fun h => ?_)
 ·simp at h;obtain ⟨q,rfl⟩ : ∃ q,n=q+1:=⟨n-1,by omega⟩;have hw:=w64 (x:=(t.length:Int)-1) (by omega) (by omega);have hwi:=w64 (x:=(i:Int)+1) (by omega) (by omega);have hwr:=w64 (x:=(row.length:Int)-1) (by omega) (by omega);simp [h1,h2,h5,h6,h7,hS,hw];refine za9 (fun h3 => ?_) (fun h3 => ?_)
  ·simp at h3;rw [yn8 h3] at hm;simp at hm;simp [<- hm]
  ·have h3':0<=a/\a<=(t.length:Int)-1:=by simpa using h3
   obtain ⟨a,rfl⟩ : ∃ a':Nat,a=a':=⟨a.toNat,by omega⟩;obtain ⟨x,hx⟩ : ∃ x,t[a]?=some x:=⟨_,bG (by omega)⟩;have z1:=fr hox;have z2:=fr ho;have z3:=fr (by omega:0<st.nx);have hr8:=zcg (n:=m.length+1) (by omega);simp [-getElem?_pos,h1,h2,h5,h6,h7,hS,hSo,z1,z2,z3,hx,nd,hr8,zb1,hwr];refine za9 (fun h4 => ?_) (fun h4 => ?_)
   ·simp at h4;rw [yoa hx h4] at hm;simp at hm;simp [<- hm]
   ·simp at h4;simp [-getElem?_pos,h1,h2,h5,h6,h7,hS,hSo,z1,z2,z3,hx,hr8,zb1,hwr];refine za9 (fun h8 => ?_) (fun h8 => ?_)
    ·simp at h8;rw [yra hx h4 h8] at hm;simp at hm;simp [<- hm]
    ·have h8':0<=x.f/\x.f<=(row.length:Int)-1:=by simpa using h8
     obtain ⟨f,hf⟩ : ∃ f:Nat,x.f=f:=⟨x.f.toNat,by omega⟩;obtain ⟨y,hy⟩ : ∃ y,row[f]?=some y:=⟨_,bG (by omega)⟩;have hfl:f<row.length:=by omega
     rw [yld hx hf hy] at hm;have hy':=zay hy;simp [-getElem?_pos,h1,h2,h5,h6,h7,hS,hSo,z1,z2,z3,hr8,zb1,hwr,hf,hy',hfl,hwi];refine za9 (fun b0 => ?_) (fun b0 => ?_) <;> (try simp at b0) <;> simp [-getElem?_pos,b0,h1,h2,h5,h6,h7,hS,hSo,z1,z2,z3,hf,hwi]
     all_goals
      refine zaj q (by omega) ⟨i+1,by omega,_,m++[(a:Int)],st.nx+2,st.ep,by simp [hmi],?_,by simp [h1],by simp [h2],by simp,by simp; rfl,by simp,by omega,by simp [z2,z3,hS]⟩;rw [<- hm]
      first | rw [if_pos b0] | rw [if_neg (by omega)]
      simp [Function.comp_def]
 ·simp at h;obtain rfl:n=0:=by omega
  simp [rt] at hm;simp [<- hm]
theorem y3n (t:List Nd) (row:List Int) (hl:t.length<=1048576) (hr:row.length<=1048576):RUN T zq9 [.agg [.sl 5 (t.map nd)],.sl 1 (zab row)]=some ([.own 1 (zab (zir t row))],[]):=by
 refine zae rfl rfl ?_;have hw1:=w64 (x:=(t.length:Int)+1) (by omega) (by omega);simp [z09,z0z,hw1];obtain ⟨r,hrr⟩ : ∃ r,r=rt t row (t.length+1) 0:=⟨_,rfl⟩;unfold zir;rw [<- hrr];refine zaq (fun n st => ∃ i:Nat,i+n=t.length+1/\∃ (a:Int) (m:List Int) (o e:Nat),m.length=i/\(rt t row n a).map (m ++ ·)=r/\st.V 1 = .sl 1 (zab row)/\st.V 2 = .ptr 0 none 0 0 0/\st.V 5 = .ref o none e 0 m.length/\st.V 6=iv a/\st.V 13=iv i/\st.V 12=iv ((t.length:Int)+1)/\0<o/\o<st.nx/\st.S o=some (.row 1 (zab m))/\st.S 0=some (.box [.sl 5 (t.map nd)])) ?_ (t.length+1) _ ⟨0,by simp,0,[],1,0,by simp [hrr]⟩;rintro n st ⟨i,hi,a,m,o,e,hmi,hm,h1,h2,h5,h6,h13,h12,ho,hox,hSo,hS⟩;simp [yde,h13,h12];refine za9 (fun h => ?_) (fun h => ?_)
 ·simp at h;obtain ⟨q,rfl⟩ : ∃ q,n=q+1:=⟨n-1,by omega⟩;have hw:=w64 (x:=(t.length:Int)-1) (by omega) (by omega);have hwi:=w64 (x:=(i:Int)+1) (by omega) (by omega);have hwr:=w64 (x:=(row.length:Int)-1) (by omega) (by omega);simp [h1,h2,h5,h6,hS,hw];refine za9 (fun h3 => ?_) (fun h3 => ?_)
  ·simp at h3;rw [yn8 h3] at hm;simp at hm;simp [<- hm]
  ·have h3':0<=a/\a<=(t.length:Int)-1:=by simpa using h3
   obtain ⟨a,rfl⟩ : ∃ a':Nat,a=a':=⟨a.toNat,by omega⟩;obtain ⟨x,hx⟩ : ∃ x,t[a]?=some x:=⟨_,bG (by omega)⟩;have z1:=fr hox;have z2:=fr ho;have z3:=fr (by omega:0<st.nx);have hr8:=zcg (n:=m.length+1) (by omega);simp [-getElem?_pos,h1,h2,h5,h6,hS,hSo,z1,z2,z3,hx,nd,hr8,zb1,hwr];refine za9 (fun h4 => ?_) (fun h4 => ?_)
   ·simp at h4;rw [yoa hx h4] at hm;simp at hm;simp [<- hm]
   ·simp at h4;simp [-getElem?_pos,h1,h2,h5,h6,hS,hSo,z1,z2,z3,hx,hr8,zb1,hwr];refine za9 (fun h8 => ?_) (fun h8 => ?_)
    ·simp at h8;rw [yra hx h4 h8] at hm;simp at hm;simp [<- hm]
    ·have h8':0<=x.f/\x.f<=(row.length:Int)-1:=by simpa using h8
     obtain ⟨f,hf⟩ : ∃ f:Nat,x.f=f:=⟨x.f.toNat,by omega⟩;obtain ⟨y,hy⟩ : ∃ y,row[f]?=some y:=⟨_,bG (by omega)⟩;have hfl:f<row.length:=by omega
     rw [yld hx hf hy] at hm;have hy':=zay hy;simp [-getElem?_pos,h1,h2,h5,h6,h13,h12,hS,hSo,z1,z2,z3,hr8,zb1,hwr,hf,hy',hfl,hwi];refine za9 (fun b0 => ?_) (fun b0 => ?_) <;> (try simp at b0) <;> simp [-getElem?_pos,b0,h1,h2,h5,h6,h13,h12,hS,hSo,z1,z2,z3,hf,hwi]
     all_goals
      refine zaj q (by omega) ⟨i+1,by omega,_,m++[(a:Int)],st.nx+2,st.ep,by simp [hmi],?_,by simp [h1],by simp [h2],by simp,by simp; rfl,by simp,by simp [h12],by omega,by simp [z2,z3,hS]⟩;rw [<- hm]
      first | rw [if_pos b0] | rw [if_neg (by omega)]
      simp [Function.comp_def]
 ·simp at h;obtain rfl:n=0:=by omega
  simp [rt] at hm;simp [<- hm]
theorem ymu (t:List Nd) (row:List Int) : ∀ (n:Nat) (a:Int) (l:List Int),rt t row n a=some l->l.length<=n/\l≠[]/\∀ k∈l,0<=k/\k<t.length
 | 0,_,_,h=>by cases h
 | n+1,a,l,h=>by
  rw [rt] at h;have ha : ∀ x,(if 0<=a then t[a.toNat]? else none)=some x->0<=a/\a<t.length:=by
   intro x hx;split at hx
   ·have:=(bD hx).1; omega
   ·cases hx
  split at h
  ·cases h
  ·rename_i x hx;have hax:=ha x hx;split at h
   ·cases h; simpa using hax
   ·split at h
    ·cases h
    ·simp only [bB] at h;obtain ⟨m,hm,rfl⟩:=h;have:=ymu t row n _ m hm;refine ⟨by simp; omega,by simp,fun k hk => ?_⟩;rcases List.mem_cons.mp hk with e | e
     ·subst e; exact hax
     ·exact this.2.2 k e
theorem ybp (t:List Nd) (row:List Int):(zir t row).length<=t.length+1/\∀ k∈zir t row,0<=k/\k<t.length:=by
 unfold zir;cases h:rt t row (t.length+1) 0 with
 | none=>simp
 | some l=>have:=ymu t row _ _ l h; exact ⟨this.1,this.2.2⟩
def rto (t:List Nd) (row:List Int):Int:=((zir t row).getLast?).getD (-1)
theorem yp9 {t:List Nd} {row:List Int}:rto t row = -1\/∃ i:Nat,rto t row=i/\i<t.length:=by
 unfold rto;cases h:(zir t row).getLast? with
 | none=>exact .inl rfl
 | some k =>
  have:=(ybp t row).2 k (List.mem_of_getLast? h);exact .inr ⟨k.toNat,by simp; omega,by omega⟩
theorem y3o (t:List Nd) (row:List Int) (hl:t.length<=1048576) (hr:row.length<=1048576):RUN T zqy [.agg [.sl 5 (t.map nd)],.sl 1 (zab row)]=some ([iv (rto t row)],[]):=by
 refine zae rfl rfl ?_;have hw:=(ybp t row).1;simp [z0c,zy0,y3m t row hl hr];refine za9 (fun h => ?_) (fun h => ?_)
 ·simp at h;simp [rto,h]
 ·simp at h;obtain ⟨l,x,hlx⟩ : ∃ l x,zir t row=l++[x]:=⟨_,_,(List.dropLast_concat_getLast h).symm⟩;have e1:rto t row=x:=by simp [rto,hlx]
  rw [e1];rw [hlx] at hw ⊢;simp at hw;have hwr:IntKind.i64.wrap (l.length:Int)=(l.length:Int):=w64 (by omega) (by omega);have hg:=zay (l:=l++[x]) (i:=l.length) (x:=x) (by simp);simp [-getElem?_pos,hwr,hg]
theorem y3p (t:List Nd) (row:List Int) (hl:t.length<=1048576) (hr:row.length<=1048576):RUN T zqo [.agg [.sl 5 (t.map nd)],.sl 1 (zab row)]=some ([iv (rto t row)],[]):=by
 refine zae rfl rfl ?_;have hw:=(ybp t row).1;simp [zz0,zy0,y3n t row hl hr];refine za9 (fun h => ?_) (fun h => ?_)
 ·simp at h;simp [rto,h]
 ·simp at h;obtain ⟨l,x,hlx⟩ : ∃ l x,zir t row=l++[x]:=⟨_,_,(List.dropLast_concat_getLast h).symm⟩;have e1:rto t row=x:=by simp [rto,hlx]
  rw [e1];rw [hlx] at hw ⊢;simp at hw;have hwr:IntKind.i64.wrap (l.length:Int)=(l.length:Int):=w64 (by omega) (by omega);have hg:=zay (l:=l++[x]) (i:=l.length) (x:=x) (by simp);simp [-getElem?_pos,hwr,hg]
def evt (t:List Nd) (row:List Int):Int:=if rto t row<0 then 0 else ((t[(rto t row).toNat]?).map (·.v)).getD 0
theorem y3q (t:List Nd) (row:List Int) (hl:t.length<=1048576) (hr:row.length<=1048576):RUN T zp7 [.agg [.sl 5 (t.map nd)],.sl 1 (zab row)]=some ([iv (evt t row)],[]):=by
 refine zae rfl rfl ?_;simp [zy1,zy0,y3o t row hl hr];unfold evt;rcases yp9 (t:=t) (row:=row) with h | ⟨i,h,hi⟩
 ·simp [h]
 ·obtain ⟨x,hx⟩ : ∃ x,t[i]?=some x:=⟨_,bG hi⟩;rw [h];have h0 : ¬ ((i:Int)<0):=by omega
  simp [-getElem?_pos,h0,hx,nd]
theorem yi2 (t:List Nd) (row:List Int) (hl:t.length<=1048576) (hr:row.length<=1048576):RUN T zms [.agg [.sl 5 (t.map nd)],.sl 1 (zab row)]=some ([iv (evt t row)],[]):=by
 refine zae rfl rfl ?_;simp [zyz,zy0,y3p t row hl hr];unfold evt;rcases yp9 (t:=t) (row:=row) with h | ⟨i,h,hi⟩
 ·simp [h]
 ·obtain ⟨x,hx⟩ : ∃ x,t[i]?=some x:=⟨_,bG hi⟩;rw [h];have h0 : ¬ ((i:Int)<0):=by omega
  simp [-getElem?_pos,h0,hx,nd]
def inI (n:Int):Prop := -9223372036854775808<=n/\n<=9223372036854775807
def box (t:List Nd) (f:Int):List Int->Int->Int->Int×Int
 | a::b::r,lo,hi=>match t[a.toNat]? with
  | none=>(lo,hi)
  | some x=>if x.f=f then (if x.l=b then box t f (b::r) lo (min hi x.c) else if x.c=9223372036854775807 then box t f (b::r) lo hi else box t f (b::r) (max lo (x.c+1)) hi) else box t f (b::r) lo hi
 | _,lo,hi=>(lo,hi)
theorem y3r {f:Nat} {p:Int->Bool} (l:List Int) (hl:l.length<=9223372036854775807) (hm:zad T f=[]) (hp : ∀ n∈l,RUN T f [iv n]=some ([bv (p n)],[])) :
  RUN T zm3 [.sl 1 (zab l),.fn f []]=some ([iv (zh7 p l)],[]):=by
 refine zae rfl rfl ?_;simp [zvy,zy0];refine zaq (fun n st => ∃ i:Nat,i+n=l.length/\st.V 0 = .sl 1 (zab l)/\st.V 1 = .fn f []/\st.V 8=iv i/\st.V 7=iv l.length/\∀ (j:Nat) (x:Int),j<i->l[j]?=some x->p x=false) ?_ l.length _ ⟨0,by simp⟩;rintro n st ⟨i,hi,h0,h1,h8,h7,hj⟩;simp [z8o,h0,h1,h8,h7];refine za9 (fun h => ?_) (fun h => ?_)
 ·simp at h;obtain ⟨x,hx⟩ : ∃ x,l[i]?=some x:=⟨_,bG h⟩;have hw:=wS h hl;have hx':=zay hx;have hpx:=hp x (bF hx);simp [-getElem?_pos,h0,h1,h8,h7,hx',hw,hm,hpx,h];refine za9 (fun b0 => ?_) (fun b0 => ?_) <;> (try simp at b0) <;> simp [-getElem?_pos,b0,h0,h1,h8,h7,hx',hw]
  all_goals first
   | exact (z6k hx b0 hj).symm
   | exact zaj (n-1) (by omega) ⟨i+1,by omega,by simp [h0],by simp [h1],by simp,by simp [h7],z9x hj hx b0⟩
 ·simp at h;simp [h];exact (z6n fun j x hl hx=>hj j x (by omega) hx).symm
theorem z61 {α:Type} {p:α->Bool} {l:List α}:decide (0<=zh7 p l)=l.any p:=by
 unfold zh7;cases h:l.findIdx? p with
 | none =>
  rw [List.findIdx?_eq_none_iff] at h;simp;exact fun x hx=>h x hx
 | some i =>
  obtain ⟨h1,h2,_⟩:=List.findIdx?_eq_some_iff_getElem.mp h;simp;exact ⟨_,List.getElem_mem h1,h2⟩
theorem z82 {f:Nat} {p:Int->Bool} (l:List Int) (hl:l.length<=9223372036854775807) (hm:zad T f=[]) (hp : ∀ n∈l,RUN T f [iv n]=some ([bv (p n)],[])) :
  RUN T zi1 [.sl 1 (zab l),.fn f []]=some ([bv (l.any p)],[]):=by
 refine zae rfl rfl ?_;have e:=y3r l hl hm hp;simp [zvh,zy0,e,z61]
structure Cfg where
 ro:Int
 de:Int
 bi:Int
 la:Int
 rw:Int
 nu:Int
 dn:Int
 sg:List Int
def zai (n a b:Int):Bool:=decide (a<=n) && decide (n<=b)
def zbf (c:Cfg):Bool:=zai c.ro 1 8 && zai c.de 0 4 && zai c.bi 2 8 && zai c.la 1 100 && zai c.rw 1 20 && zai c.dn 1 1000 && zai c.nu 1 c.dn && decide ((c.sg.length:Int)<=4) && c.sg.all fun n=>zai n (-1) 1
@[simp] theorem qkj (n:Int):RUN T zqm [iv n]=some ([bv (zai n (-1) 1)],[]):=by
 refine zae rfl rfl ?_;simp [zzu,zn6,zai]
@[simp] theorem y3s (n:Int):RUN T zm0 [iv n]=some ([bv (!zai n (-1) 1)],[]):=by
 refine zae rfl rfl ?_;simp [z0q,zn6]
theorem zcv (a b c:Int):RUN T zbt [iv a,iv b,iv c]=some ([bv (zai a b c)],[]):=zbm a b c
theorem zbn (a b c:Int):RUN T zbs [iv a,iv b,iv c]=some ([bv (zai a b c)],[]):=za1 a b c
theorem z6b (c:Cfg) (hl:c.sg.length<=9223372036854775807):RUN T zjv [.agg [iv c.ro,iv c.de,iv c.bi,iv c.la,iv c.rw,iv c.nu,iv c.dn,.sl 1 (zab c.sg)]]=some ([bv (zbf c)],[]):=by
 refine zae rfl rfl ?_;have e:=z82 (f:=zm0) (p:=fun n => !zai n (-1) 1) c.sg hl (by simp) (fun n _=>y3s n);have e2 : ∀ l:List Int,(l.any fun n => !zai n (-1) 1) = !(l.all fun n=>zai n (-1) 1):=by intro l; induction l <;> simp_all
 rw [e2] at e;simp [zzh,zn6,zcv,-zbm];cases h0:zai c.ro 1 8 <;> cases h1:zai c.de 0 4 <;> simp [h0,h1,zcv,-zbm]
 all_goals try (simp [zbf,h0,h1]; done)
 cases h2:zai c.bi 2 8 <;> cases h3:zai c.la 1 100 <;> simp [h2,h3,zcv,-zbm]
 all_goals try (simp [zbf,h2,h3]; done)
 cases h4:zai c.rw 1 20 <;> cases h5:zai c.dn 1 1000 <;> simp [h4,h5,zcv,-zbm]
 all_goals try (simp [zbf,h4,h5]; done)
 cases h6:zai c.nu 1 c.dn <;> simp [h6,zcv,-zbm]
 all_goals try (simp [zbf,h6]; done)
 by_cases h7:(c.sg.length:Int)<=4
 ·simp [h7,e,zbf,h0,h1,h2,h3,h4,h5,h6]
 ·simp [h7,zbf]
theorem zuu {m:Nat->List Bool} {R:zak} {c:IC} {st:St} {Q:Ex->St->Prop} (h:W m R c st (Nx (fun s=>W m R (.loop c) s Q) Q ⟨⟩ ⟨⟩)):W m R (.loop c) st Q:=y8u ▸ h
theorem y3t (a b c d e f g:Int) (x:PV) (sg:List (List PV)):RUN T zqa [.agg [iv a,iv b,iv c,iv d,iv e,iv f,iv g,.sl 1 sg]]=some ([.own 1 (zab [a,b,c,d,e])],[]):=by
 refine zae rfl rfl ?_;simp [zy9,zza,zab]
theorem zxc:RUN T zqb []=some ([.own 1 (zab [1,0,2,1,1])],[]):=by
 refine zae rfl rfl ?_;simp [zzb,zzc,zab]
theorem zxd:RUN T zqc []=some ([.own 1 (zab [8,4,8,100,20])],[]):=by
 refine zae rfl rfl ?_;simp [zzd,zzc,zab]
theorem zxe (c:Cfg) (hl:c.sg.length<=9223372036854775807):RUN T zi0 [.agg [iv c.ro,iv c.de,iv c.bi,iv c.la,iv c.rw,iv c.nu,iv c.dn,.sl 1 (zab c.sg)]]=some ([bv (zbf c)],[]):=by
 refine zae rfl rfl ?_;have e1:=y3t c.ro c.de c.bi c.la c.rw c.nu c.dn .undef (zab c.sg);simp [zyv,zn6,e1];refine zuu ?_;simp [zn7,zxc,zxd,zbn,-za1,zxs];cases h0:zai c.ro 1 8 <;> simp [h0]
 ·simp [zbf,h0]
 refine zuu ?_;simp [zn7,zxc,zxd,zbn,-za1,zxs];cases h1:zai c.de 0 4 <;> simp [h1]
 ·simp [zbf,h1]
 refine zuu ?_;simp [zn7,zxc,zxd,zbn,-za1,zxs];cases h2:zai c.bi 2 8 <;> simp [h2]
 ·simp [zbf,h2]
 refine zuu ?_;simp [zn7,zxc,zxd,zbn,-za1,zxs];cases h3:zai c.la 1 100 <;> simp [h3]
 ·simp [zbf,h3]
 refine zuu ?_;simp [zn7,zxc,zxd,zbn,-za1,zxs];cases h4:zai c.rw 1 20 <;> simp [h4]
 ·simp [zbf,h4]
 refine zuu ?_;simp [zn7];refine zaq (fun n st => ∃ i:Nat,i+n=c.sg.length/\st.V 1 = .ptr 0 none 0 0 0/\st.V 5=iv i/\st.S 0=some (.box [iv c.ro,iv c.de,iv c.bi,iv c.la,iv c.rw,iv c.nu,iv c.dn,.sl 1 (zab c.sg)])/\∀ (j:Nat) (x:Int),j<i->c.sg[j]?=some x->zai x (-1) 1=true) ?_ c.sg.length _ ⟨0,by simp⟩;rintro n st ⟨i,hi,h1',h5,hS,hj⟩;simp [yc2,h1',h5,hS];refine za9 (fun h => ?_) (fun h => ?_)
 ·simp at h;obtain ⟨x,hx⟩ : ∃ x,c.sg[i]?=some x:=⟨_,bG h⟩;have hw:=wS h hl;have hx':=zay hx;simp [-getElem?_pos,h1',h5,hS,hx',hw,h,zbn,-za1];cases hb:zai x (-1) 1 with
  | true =>
   simp [-getElem?_pos,h1',h5,hS,hw];refine zaj (n-1) (by omega) ⟨i+1,by omega,by simp [h1'],by simp,by simp [hS],fun j y hj' hy => ?_⟩
   by_cases e:j=i
   ·subst e; rw [hx] at hy; cases hy; exact hb
   ·exact hj j y (by omega) hy
  | false =>
   simp [zbf]
   intros
   exact ⟨x,bF hx,hb⟩
 ·simp at h;have hall:(c.sg.all fun n=>zai n (-1) 1)=true:=by
   rw [List.all_eq_true];intro x hx;obtain ⟨j,hj'⟩:=bH hx;exact hj j x (by have:=(bD hj').1; omega) hj'
  simp [h1',hS,zbn,-za1];cases h5:zai c.dn 1 1000 <;> simp [h1',hS,h5,zbn,-za1]
  ·simp [zbf,h5]
  cases h6:zai c.nu 1 c.dn <;> simp [h1',hS,h6,zbn,-za1]
  ·simp [zbf,h6]
  simp [zbf,h0,h1,h2,h3,h4,h5,h6,hall]
def fdv (a b:Int):Int×Bool:=if b=0\/(b = -1/\a = -9223372036854775808) then (0,false) else (a.fdiv b,true)
theorem yqy {a b:Int} (ha:inI a) (hb:b≠0) (h : ¬ (b = -1/\a = -9223372036854775808)) : -9223372036854775808<=a.tdiv b/\a.tdiv b<=9223372036854775807/\(b≠1 -> -9223372036854775808<=a.tdiv b-1):=by
 obtain ⟨h1,h2⟩:=ha;have h3:(a.tdiv b).natAbs=a.natAbs / b.natAbs:=Int.natAbs_tdiv a b;have h4:a.natAbs / b.natAbs<=a.natAbs:=Nat.div_le_self _ _
 by_cases c:b=1
 ·subst c; simp; omega
 by_cases c2:b = -1
 ·subst c2; simp; omega
 have h5:a.natAbs / b.natAbs<=a.natAbs / 2:=Nat.div_le_div_left (by omega) (by omega);omega
theorem ymn (a b:Int) (hb:b≠0):a.fdiv b=if a.tmod b≠0/\¬ (a<0↔b<0) then a.tdiv b-1 else a.tdiv b:=by
 rw [Int.fdiv_eq_tdiv];have hd:b ∣ a↔a.tmod b=0:=Int.dvd_iff_tmod_eq_zero
 by_cases c:b ∣ a
 ·rw [if_pos c,if_neg (by rw [hd.mp c]; simp)]; simp
 ·have hc:a.tmod b≠0:=fun e=>c (hd.mpr e);have ha:a≠0:=fun e=>c (by subst e; exact ⟨0,by simp⟩);rw [if_neg c];rcases Int.lt_or_gt_of_ne hb with s2 | s2
  ·rw [if_neg (by omega : ¬ 0<=b),if_neg (by omega : ¬ 0<=b),Int.sign_eq_neg_one_of_neg s2]
   by_cases s1:0<=a
   ·rw [if_pos s1,if_pos ⟨hc,by omega⟩]
   ·rw [if_neg s1,if_neg (fun h=>h.2 (by omega))]; omega
  ·rw [if_pos (by omega:0<=b),if_pos (by omega:0<=b),Int.sign_eq_one_of_pos s2]
   by_cases s1:0<=a
   ·rw [if_pos s1,if_neg (fun h=>h.2 (by omega))]; omega
   ·rw [if_neg s1,if_pos ⟨hc,by omega⟩]
theorem z83 (a b:Int) (ha:inI a):RUN T zle [iv a,iv b]=some ([iv (fdv a b).1,bv (fdv a b).2],[]):=by
 refine zae rfl rfl ?_;simp [z0u,zkc]
 by_cases h0:b=0
 ·subst h0; simp [fdv]
 by_cases hbad:b = -1/\a = -9223372036854775808
 ·obtain ⟨rfl,rfl⟩:=hbad; simp [fdv]
 have hr:=yqy ha h0 hbad;have hq:=w64 hr.1 hr.2.1;have hf:=ymn a b h0;have e1:fdv a b=(a.fdiv b,true):=by unfold fdv; rw [if_neg (by simp [h0]; intro h; exact fun h2=>hbad ⟨h,h2⟩)]
 rw [e1];have hq2:a.tmod b≠0->IntKind.i64.wrap (a.tdiv b-1)=a.tdiv b-1:=fun h=>w64 (hr.2.2 (by rintro rfl; simp at h)) (by omega);have f0:=eq_false h0;obtain ⟨p1,hp1⟩ : ∃ p,(b = -1)=p:=⟨_,rfl⟩;obtain ⟨p2,hp2⟩ : ∃ p,(a = -9223372036854775808)=p:=⟨_,rfl⟩;rw [hp1,hp2] at hbad
 by_cases c1:p1 <;> by_cases c2:p2
 ·exact (hbad ⟨c1,c2⟩).elim
 all_goals
  simp only [c1,c2] at hp1 hp2;simp [f0,hp1,hp2,hq]
  by_cases d0:a.tmod b=0
  ·rw [if_neg (by simp [d0])] at hf;simp [d0,hf]
  ·have hq3:=hq2 d0;have d1:=eq_false d0
   by_cases d2:a<0 <;> by_cases d3:b<0
   all_goals
    simp only [d2,d3,ne_eq,d1,not_false_eq_true,iff_self,not_true_eq_false,and_false,if_false,iff_true,iff_false,and_true,if_true,true_iff,false_iff] at hf;simp [d1,d2,d3,hq3,hf]
theorem z84 (a b:Int) (ha:inI a):RUN T zlc [iv a,iv b]=some ([iv (fdv a b).1,bv (fdv a b).2],[]):=by
 refine zae rfl rfl ?_;simp [zzy,zkc]
 by_cases h0:b=0
 ·subst h0; simp [fdv]
 by_cases hbad:b = -1/\a = -9223372036854775808
 ·obtain ⟨rfl,rfl⟩:=hbad; simp [fdv]
 have hr:=yqy ha h0 hbad;have hq:=w64 hr.1 hr.2.1;have hf:=ymn a b h0;have e1:fdv a b=(a.fdiv b,true):=by unfold fdv; rw [if_neg (by simp [h0]; intro h; exact fun h2=>hbad ⟨h,h2⟩)]
 rw [e1];have hq2:a.tmod b≠0->IntKind.i64.wrap (a.tdiv b-1)=a.tdiv b-1:=fun h=>w64 (hr.2.2 (by rintro rfl; simp at h)) (by omega);have f0:=eq_false h0;obtain ⟨p1,hp1⟩ : ∃ p,(b = -1)=p:=⟨_,rfl⟩;obtain ⟨p2,hp2⟩ : ∃ p,(a = -9223372036854775808)=p:=⟨_,rfl⟩;rw [hp1,hp2] at hbad
 by_cases c1:p1 <;> by_cases c2:p2
 ·exact (hbad ⟨c1,c2⟩).elim
 all_goals
  simp only [c1,c2] at hp1 hp2;simp [f0,hp1,hp2,hq]
  by_cases d0:a.tmod b=0
  ·rw [if_neg (by simp [d0])] at hf;simp [d0,hf]
  ·have hq3:=hq2 d0;have d1:=eq_false d0
   by_cases d2:a<0 <;> by_cases d3:b<0
   all_goals
    simp only [d2,d3,ne_eq,d1,not_false_eq_true,iff_self,not_true_eq_false,and_false,if_false,iff_true,iff_false,and_true,if_true,true_iff,false_iff] at hf;simp [d1,d2,d3,hq3,hf]
abbrev zdy (c:Cfg):PV := .agg [iv c.ro,iv c.de,iv c.bi,iv c.la,iv c.rw,iv c.nu,iv c.dn,.sl 1 (zab c.sg)]
abbrev zkn (c:Cfg):PV := .agg [iv c.ro,iv c.de,iv c.bi,iv c.la,iv c.rw,iv c.nu,iv c.dn,.own 1 (zab c.sg)]
theorem zaw {n a b:Int}:zai n a b=true↔a<=n/\n<=b:=by simp [zai]
theorem zpw {c:Cfg} (h:zbf c=true):(1<=c.ro/\c.ro<=8)/\(0<=c.de/\c.de<=4)/\(2<=c.bi/\c.bi<=8)/\(1<=c.la/\c.la<=100)/\(1<=c.rw/\c.rw<=20)/\(1<=c.dn/\c.dn<=1000)/\(1<=c.nu/\c.nu<=c.dn)/\c.sg.length<=4/\∀ n∈c.sg,-1<=n/\n<=1:=by
 simp only [zbf,Bool.and_eq_true,zaw,decide_eq_true_eq,List.all_eq_true] at h;obtain ⟨⟨⟨⟨⟨⟨⟨⟨h1,h2⟩,h3⟩,h4⟩,h5⟩,h6⟩,h7⟩,h8⟩,h9⟩:=h;exact ⟨h1,h2,h3,h4,h5,h6,h7,by omega,h9⟩
def zf8 (v:Int):Bool:=zai v (-1099511627776) 1099511627776
@[simp] theorem yi3 (v:Int):RUN T zlj [iv v]=some ([bv (zf8 v)],[]):=by
 refine zae rfl rfl ?_;simp [z2g,zn6,zf8,zai]
@[simp] theorem yi4 (v:Int):RUN T zlk [iv v]=some ([bv (zf8 v)],[]):=by
 refine zae rfl rfl ?_;simp [z2v,zn6,zf8,zai]
def shr (v:Int) (c:Cfg):Int×Bool:=if zbf c && zf8 v then (( v*c.nu).fdiv c.dn,true) else (0,false)
theorem ypx {v:Int} {c:Cfg} (h:zbf c=true) (hv:zf8 v=true):inI (v*c.nu)/\IntKind.i64.wrap (v*c.nu)=v*c.nu/\fdv (v*c.nu) c.dn=((v*c.nu).fdiv c.dn,true):=by
 obtain ⟨_,_,_,_,_,hd,hn,_⟩:=zpw h;have h1:=zaw.mp hv;have h2 : -1099511627776*1000<=v*c.nu:=by
  have a1 : -1099511627776*c.nu<=v*c.nu:=Int.mul_le_mul_of_nonneg_right h1.1 (by omega);omega
 have h3:v*c.nu<=1099511627776*1000:=by
  have a1:v*c.nu<=1099511627776*c.nu:=Int.mul_le_mul_of_nonneg_right h1.2 (by omega);omega
 refine ⟨⟨by omega,by omega⟩,w64 (by omega) (by omega),?_⟩;unfold fdv;rw [if_neg (by omega)]
theorem y3u (v:Int) (c:Cfg) (hl:c.sg.length<=9223372036854775807):RUN T zrr [iv v,zdy c]=some ([iv (shr v c).1,bv (shr v c).2],[]):=by
 refine zae rfl rfl ?_;have e:=zxe c hl;simp [z2c,zkc,e];cases h:zbf c
 ·simp [shr,h]
 ·cases hv:zf8 v
  ·simp [h,hv,shr]
  ·obtain ⟨h1,h2,h3⟩:=ypx h hv;have e2:=z83 _ c.dn h1;rw [h3] at e2;simp [h,hv,shr,h2,e2]
theorem y3v (v:Int) (c:Cfg) (hl:c.sg.length<=9223372036854775807):RUN T zrk [iv v,zdy c]=some ([iv (shr v c).1,bv (shr v c).2],[]):=by
 refine zae rfl rfl ?_;have e:=z6b c hl;simp [z1u,zkc,e];cases h:zbf c
 ·simp [shr,h]
 ·cases hv:zf8 v
  ·simp [h,hv,shr]
  ·obtain ⟨h1,h2,h3⟩:=ypx h hv;have e2:=z84 _ c.dn h1;rw [h3] at e2;simp [h,hv,shr,h2,e2]
def zbi (n:Int):Bool:=zai n (-2147483647) 2147483647
@[simp] theorem zow (v:Int):RUN T zla [iv v]=some ([bv (zbi v)],[]):=by
 refine zae rfl rfl ?_;simp [zy7,zn6,zbi,zai]
@[simp] theorem qkk (v:Int):RUN T zqn [iv v]=some ([bv (zbi v)],[]):=by
 refine zae rfl rfl ?_;simp [zzw,zn6,zbi,zai]
def adj (p:Int->Int->Bool):List Int->Bool
 | a::b::r=>p a b || adj p (b::r)
 | _=>false
theorem ycs {p:Int->Int->Bool} : ∀ {l:List Int},adj p l=true↔∃ (i:Nat) (a b:Int),l[i]?=some a/\l[i+1]?=some b/\p a b=true
 | []=>by simp [adj]
 | [x]=>by simp [adj]
 | x::y::r=>by
  simp only [adj,Bool.or_eq_true];rw [ycs (l:=y::r)];constructor
  ·rintro (h | ⟨i,a,b,h1,h2,h3⟩)
   ·exact ⟨0,x,y,rfl,rfl,h⟩
   ·exact ⟨i+1,a,b,by simpa using h1,by simpa using h2,h3⟩
  ·rintro ⟨i,a,b,h1,h2,h3⟩;cases i with
   | zero=>simp at h1 h2; subst h1; subst h2; exact .inl h3
   | succ i=>exact .inr ⟨i,a,b,by simpa using h1,by simpa using h2,h3⟩
theorem zkr {α:Type} {P:Nat->α->Prop} {l:List α} {i:Nat} {x:α} (h : ∀ (j:Nat) (x:α),j<i->l[j]?=some x->P j x) (hi:l[i]?=some x) (hp:P i x) : ∀ (j:Nat) (x:α),j<i+1->l[j]?=some x->P j x:=by
 intro j y hj hy
 by_cases e:j=i
 ·subst e; rw [hi] at hy; cases hy; exact hp
 ·exact h j y (by omega) hy
def cel (q:Bool) (l:List Int):PV:=if q then .own 1 (zab l) else .sl 1 (zab l)
@[simp] theorem qt7 (q:Bool) (l:List Int):fz (cel q l) = .sl 1 (zab l):=by cases q <;> simp [cel]
def rws (q:Bool) (L:List (List Int)):List (List PV):=L.map fun l=>[cel q l]
@[simp] theorem q02 (q:Bool) (L:List (List Int)):(rws q L).length=L.length:=by simp [rws]
theorem zc8 {q:Bool} {L:List (List Int)} {i:Nat} {l:List Int} (h:L[i]?=some l):(rws q L)[i]?=some [cel q l]:=by simp [rws,h]
@[simp] theorem qkl (n:Int):RUN T zng [iv n]=some ([bv (!zbi n)],[]):=by
 refine zae rfl rfl ?_;simp [z2k,zn6]
theorem z85 (l:List Int) (hl:l.length<=9223372036854775807):RUN T zld [.sl 1 (zab l)]=some ([bv (l.all zbi)],[]):=by
 refine zae rfl rfl ?_;have e:=z82 (f:=zng) (p:=fun n => !zbi n) l hl (by simp) (fun n _=>by simp);simp [z0k,zn6,e];simp [List.any_eq_not_all_not]
def zfr (l:List Int):Bool := !adj (fun a b=>decide (b<=a)) l && l.all zbi && decide ((l.length:Int)<=7)
theorem ypl {p:Int->Int->Bool} {l:List Int} (h : ∀ (j:Nat) (a b:Int),l[j]?=some a->l[j+1]?=some b->p a b=false):adj p l=false:=by
 cases e:adj p l with
 | false=>rfl
 | true =>
  obtain ⟨j,a,b,h1,h2,h3⟩:=ycs.mp e;rw [h j a b h1 h2] at h3; cases h3
theorem yna {p:Int->Int->Bool} {l:List Int} {j:Nat} {a b:Int} (h1:l[j]?=some a) (h2:l[j+1]?=some b) (h3:p a b=true):adj p l=true:=ycs.mpr ⟨j,a,b,h1,h2,h3⟩
theorem zyb {l:List Int} {p:Int->Bool} {j:Nat} {a:Int} (h1:l[j]?=some a) (h2:p a=false):l.all p=false:=by
 cases e:l.all p with
 | false=>rfl
 | true=>rw [List.all_eq_true.mp e a (bF h1)] at h2; cases h2
theorem zyp {l:List Int} {p:Int->Bool} (h : ∀ (j:Nat) (a:Int),j<l.length->l[j]?=some a->p a=true):l.all p=true:=by
 rw [List.all_eq_true];intro x hx;obtain ⟨j,hj⟩:=bH hx;exact h j x (bD hj).1 hj
theorem y3w (l:List Int) (hl:l.length<=9223372036854775807):RUN T zr9 [.sl 1 (zab l)]=some ([bv (zfr l)],[]):=by
 refine zae rfl rfl ?_;have hd:=z85 l hl;simp [z3s,zn6];refine zaq (fun n st => ∃ i:Nat,i+n=l.length+1/\1<=i/\st.V 0 = .sl 1 (zab l)/\st.V 3=iv i/\∀ (j:Nat) (a b:Int),j+1<i->l[j]?=some a->l[j+1]?=some b->decide (b<=a)=false) ?_ l.length _ ⟨1,by omega,by omega,by simp,by simp,fun j a b h=>by omega⟩;rintro n st ⟨i,hi,h1,v0,v3,hj⟩;simp [ydq,v0,v3];refine za9 (fun h => ?_) (fun h => ?_)
 ·simp at h;obtain ⟨k,rfl⟩ : ∃ k,i=k+1:=⟨i-1,by omega⟩;obtain ⟨a,ha⟩ : ∃ a,l[k]?=some a:=⟨_,bG (by omega)⟩;obtain ⟨b,hb⟩ : ∃ b,l[k+1]?=some b:=⟨_,bG h⟩;have ha':=zay ha;have hb':=zay hb;have hw:IntKind.i64.wrap ((k:Int)+1+1)=(k:Int)+1+1:=w64 (by omega) (by omega);have hw1:IntKind.i64.wrap (k:Int)=k:=w64 (by omega) (by omega);have hkl:k<l.length:=by omega
  simp [-getElem?_pos,v0,v3,ha',hb',hw1,h,hkl];refine za9 (fun h2 => ?_) (fun h2 => ?_)
  ·simp at h2;have:zfr l=false:=by unfold zfr; rw [yna ha hb (by simpa using h2)]; rfl
   simp [this]
  ·simp at h2;simp [-getElem?_pos,v0,v3,hw];refine zaj (n-1) (by omega) ⟨k+2,by omega,by omega,by simp [v0],by simp; omega,fun j x y hjk hx hy => ?_⟩
   by_cases e:j=k
   ·subst e; rw [ha] at hx; rw [hb] at hy; cases hx; cases hy; simp; omega
   ·exact hj j x y (by omega) hx hy
 ·simp at h;have e:adj (fun a b=>decide (b<=a)) l=false:=ypl fun j a b h1 h2=>hj j a b (by have:=(bD h2).1; omega) h1 h2;unfold zfr;rw [e]
  by_cases c:(l.length:Int)<=7
  ·simp [v0,hd,c]
  ·simp [v0,c]
theorem y3x (l:List Int) (hl:l.length<=9223372036854775807):RUN T zsd [.sl 1 (zab l)]=some ([bv (zfr l)],[]):=by
 refine zae rfl rfl ?_;simp [z35,zn6];refine zaq (fun n st => ∃ i:Nat,i+n=l.length/\st.V 0 = .sl 1 (zab l)/\st.V 3=iv i/\(∀ (j:Nat) (a:Int),j<i->l[j]?=some a->zbi a=true)/\∀ (j:Nat) (a b:Int),j+1<i->l[j]?=some a->l[j+1]?=some b->decide (b<=a)=false) ?_ l.length _ ⟨0,by simp⟩;rintro n st ⟨i,hi,v0,v3,hd,hj⟩;simp [ydr,v0,v3];refine za9 (fun h => ?_) (fun h => ?_)
 ·simp at h;obtain ⟨b,hb⟩ : ∃ b,l[i]?=some b:=⟨_,bG h⟩;have hb':=zay hb;have hw:=wS h hl;rcases Bool.eq_false_or_eq_true (zbi b) with d | d
  ·have hd':=zkr (P:=fun _ a=>zbi a=true) hd hb d;rcases i with _ | k
   ·simp [-getElem?_pos,v0,v3,hb',d,h,hw];exact zaj (n-1) (by omega) ⟨1,by omega,by simp [v0],by simp,by simpa using hd',fun j x y hjk hx hy=>by omega⟩
   ·obtain ⟨a,ha⟩ : ∃ a,l[k]?=some a:=⟨_,bG (by omega)⟩;have ha':=zay ha;have hw:IntKind.i64.wrap ((k:Int)+1+1)=(k:Int)+1+1:=w64 (by omega) (by omega);have hw1:IntKind.i64.wrap (k:Int)=k:=w64 (by omega) (by omega);have hkl:k<l.length:=by omega
    have hk0:(0:Int)<((k+1:Nat):Int):=by omega
    rcases Classical.propComplete (b<=a) with c | c
    ·have:zfr l=false:=by unfold zfr; rw [yna ha hb (by simp [c])]; rfl
     simp [-getElem?_pos,v0,v3,ha',hb',d,h,hw,hw1,hkl,hk0,c,this]
    ·simp [-getElem?_pos,v0,v3,ha',hb',d,h,hw,hw1,hkl,hk0,c];refine zaj (n-1) (by omega) ⟨k+2,by omega,by simp [v0],by simp; omega,hd',fun j x y hjk hx hy => ?_⟩
     by_cases e:j=k
     ·subst e; rw [ha] at hx; rw [hb] at hy; cases hx; cases hy; simp [c]
     ·exact hj j x y (by omega) hx hy
  ·have:zfr l=false:=by unfold zfr; rw [zyb hb d]; simp
   simp [-getElem?_pos,v0,v3,hb',d,h,this]
 ·simp at h;have e:adj (fun a b=>decide (b<=a)) l=false:=ypl fun j a b h1 h2=>hj j a b (by have:=(bD h2).1; omega) h1 h2;have e2:l.all zbi=true:=zyp fun j a h1 h2=>hd j a (by omega) h2;unfold zfr;rw [e,e2];simp [v0]
def zdp:List (List Int)->Nat
 | []=>0
 | l::_=>l.length
theorem yi5 (q:Bool) (c v:List (List Int)):RUN T zlm [.agg [.sl 1 (rws q c),.sl 1 (rws q v)]]=some ([iv (zdp v)],[]):=by
 refine zae rfl rfl ?_;cases v with
 | nil=>simp [zwm,zn6,zdp]
 | cons l L =>
  have h:rws q (l::L)=[cel q l]::rws q L:=rfl;have h0:((L.length:Int)+1=0)=False:=eq_false (by omega);simp [h0,zwm,zn6,zdp,h]
theorem z86 (q:Bool) (c v:List (List Int)):RUN T zjy [.agg [.sl 1 (rws q c),.sl 1 (rws q v)]]=some ([iv (zdp v)],[]):=by
 refine zae rfl rfl ?_;cases v with
 | nil=>simp [zv3,zn6,zdp]
 | cons l L =>
  have h:rws q (l::L)=[cel q l]::rws q L:=rfl;have h0:((L.length:Int)+1=0)=False:=eq_false (by omega);simp [h0,zv3,zn6,zdp,h]
theorem y3y {f:Nat} {c:PV} {p:Int->Bool} (l:List Int) (hl:l.length<=9223372036854775807) (hm:zad T f=[]) (hp : ∀ n∈l,RUN T f [iv n,.fptr [c] 0]=some ([bv (p n)],[])) :
  RUN T zm3 [.sl 1 (zab l),.fn f [.fptr [c] 0]]=some ([iv (zh7 p l)],[]):=by
 refine zae rfl rfl ?_;simp [zvy,zy0];refine zaq (fun n st => ∃ i:Nat,i+n=l.length/\st.V 0 = .sl 1 (zab l)/\st.V 1 = .fn f [.fptr [c] 0]/\st.V 8=iv i/\st.V 7=iv l.length/\∀ (j:Nat) (x:Int),j<i->l[j]?=some x->p x=false) ?_ l.length _ ⟨0,by simp⟩;rintro n st ⟨i,hi,h0,h1,h8,h7,hj⟩;simp [z8o,h0,h1,h8,h7];refine za9 (fun h => ?_) (fun h => ?_)
 ·simp at h;obtain ⟨x,hx⟩ : ∃ x,l[i]?=some x:=⟨_,bG h⟩;have hw:=wS h hl;have hx':=zay hx;have hpx:=hp x (bF hx);simp [-getElem?_pos,h0,h1,h8,h7,hx',hw,hm,hpx,h];refine za9 (fun b0 => ?_) (fun b0 => ?_) <;> (try simp at b0) <;> simp [-getElem?_pos,b0,h0,h1,h8,h7,hx',hw]
  all_goals first
   | exact (z6k hx b0 hj).symm
   | exact zaj (n-1) (by omega) ⟨i+1,by omega,by simp [h0],by simp [h1],by simp,by simp [h7],z9x hj hx b0⟩
 ·simp at h;simp [h];exact (z6n fun j x hl hx=>hj j x (by omega) hx).symm
theorem y3z {f:Nat} {c:PV} {p:Int->Bool} (l:List Int) (hl:l.length<=9223372036854775807) (hm:zad T f=[]) (hp : ∀ n∈l,RUN T f [iv n,.fptr [c] 0]=some ([bv (p n)],[])) :
  RUN T zi1 [.sl 1 (zab l),.fn f [.fptr [c] 0]]=some ([bv (l.any p)],[]):=by
 refine zae rfl rfl ?_;have e:=y3y l hl hm hp;simp [zvh,zy0,e,z61]
@[simp] theorem qkm (n:Int) (a:List Int):RUN T znq [iv n,.fptr [.sl 1 (zab a)] 0]=some ([bv (!zai n 0 a.length)],[]):=by
 refine zae rfl rfl ?_;simp [z3u,z0p,zcv,-zbm]
theorem yo4 {s:St} {d:Option Dst} {op:IOp} {g:Opd} {v:Bool} {x:PV}:(yv s ⟨d,op,some (g,v)⟩=some x)=(Ob' (zh6 v (g.get s)) fun t=>Br t (WI (fun _=>[]) (fun _ _=>none) op s (fun y _=>y=x)) (PV.v Go.undef=x)):=by
 simp only [yv,ylk,WI,Ob',Br,bB,Option.bind_eq_some_iff,eq_iff_iff];constructor
 ·rintro ⟨⟨y,s'⟩,⟨t,h1,h2⟩,h3⟩;refine ⟨t,h1,fun ht => ?_,fun ht => ?_⟩ <;> subst ht
  ·exact ⟨y,s',by simpa using h2,h3⟩
  ·simp at h2; obtain ⟨rfl,rfl⟩:=h2; exact h3
 ·rintro ⟨t,h1,h2,h3⟩;cases t with
  | true=>obtain ⟨y,s',h4,h5⟩:=h2 rfl; exact ⟨(y,s'),⟨true,h1,by simpa using h4⟩,h5⟩
  | false=>exact ⟨_,⟨false,h1,rfl⟩,h3 rfl⟩
@[simp] theorem qsp {s:St} {d:Option Dst} {op:IOp} {g:Opd} {v:Bool} {x:PV} {n:Nat} {r:List (zac×PV×Nat)}:zck s ((⟨d,op,some (g,v)⟩,x,n+1)::r)=((Ob' (zh6 v (g.get s)) fun t=>Br t (WI (fun _=>[]) (fun _ _=>none) op s (fun y _=>y=x)) (PV.v Go.undef=x))/\zck s r):=by
 simp only [zck,yo4]
@[simp] theorem qy2 {V E:Nat->PV} {d:Option Dst} {op:IOp} {g:Opd} {v:Bool} {x:PV} {n:Nat} {s:St} {ms:List St}:za2 V E ⟨d,op,some (g,v)⟩ x (n+1) (s::ms)=((Ob' (zh6 v (g.get { s with V:=V,E:=E })) fun t=>Br t (WI (fun _=>[]) (fun _ _=>none) op { s with V:=V,E:=E } (fun y _=>y=x)) (PV.v Go.undef=x))/\za2 V E ⟨d,op,some (g,v)⟩ x n ms):=by
 simp only [za2,yo4]
def zft (c v:List (List Int)) (f:Nat):Bool:=match c[f]?,v[f]? with
 | some a,some b=>zfr a && decide ((b.length:Int)=zdp v) && b.all fun x=>zai x 0 a.length
 | _,_=>true
def zdl (c v:List (List Int)):Bool:=zai c.length 1 4 && decide ((v.length:Int)=c.length) && zai (zdp v) 1 40 && (List.range c.length).all (zft c v)
theorem yn9 {c v:List (List Int)} (h1:zai c.length 1 4=true) (h2:(v.length:Int)=c.length) (h3:zai (zdp v) 1 40=true):zdl c v=(List.range c.length).all (zft c v):=by
 simp [zdl,h1,h2,h3]
theorem zo1 {p:Nat->Bool} {n:Nat} (h : ∀ i,i<n->p i=true):(List.range n).all p=true:=by
 rw [List.all_eq_true];intro x hx;exact h x (by simpa using hx)
theorem zg1 {p:Nat->Bool} {n i:Nat} (hi:i<n) (h:p i=false):(List.range n).all p=false:=by
 cases e:(List.range n).all p with
 | false=>rfl
 | true=>rw [List.all_eq_true.mp e i (by simpa using hi)] at h; cases h
theorem ykx {c v:List (List Int)} {f:Nat} {a b:List Int} (ha:c[f]?=some a) (hb:v[f]?=some b):zft c v f=(zfr a && decide ((b.length:Int)=zdp v) && b.all fun x=>zai x 0 a.length):=by
 simp [zft,ha,hb]
theorem zh8 {P:Nat->Prop} {i:Nat} (h : ∀ j,j<i->P j) (hi:P i) : ∀ j,j<i+1->P j:=by
 intro j hj
 by_cases e:j=i
 ·subst e; exact hi
 ·exact h j (by omega)
theorem yi6 (q:Bool) (c v:List (List Int)) (hc : ∀ l∈c,l.length<=9223372036854775807) (hv : ∀ l∈v,l.length<=9223372036854775807):RUN T zni [.agg [.sl 1 (rws q c),.sl 1 (rws q v)]]=some ([bv (zdl c v)],[]):=by
 refine zae rfl rfl ?_;have hR:=z86 q c v
 by_cases h1:zai c.length 1 4=true
 case neg=>simp [zoi,zn6,zcv,-zbm,h1,zdl]
 by_cases h2:(v.length:Int)=c.length
 case neg=>simp [zoi,zn6,zcv,-zbm,h1,h2,zdl]
 by_cases h3:zai (zdp v) 1 40=true
 case neg=>simp [zoi,zn6,zcv,-zbm,h1,h2,h3,hR,zdl]
 have h1':=zaw.mp h1;rw [yn9 h1 h2 h3];simp [zoi,zn6,zcv,-zbm,h1,h2,h3,hR];refine zaq (fun n st => ∃ i:Nat,i+n=c.length/\(∀ j,j<i->zft c v j=true)/\st.V 1 = .ptr 0 none 0 0 0/\st.V 26 = .sl 1 (rws q c)/\st.V 27=iv c.length/\st.V 28=iv i/\0<st.nx/\st.S 0=some (.box [.sl 1 (rws q c),.sl 1 (rws q v)])) ?_ c.length _ ⟨0,by simp⟩;rintro n st ⟨i,hi,hk,v1,v26,v27,v28,hnx,hS⟩;simp [ydn,v26,v27,v28];have z:=fr hnx;refine za9 (fun h => ?_) (fun h => ?_)
 ·simp at h;obtain ⟨a,ha⟩ : ∃ a,c[i]?=some a:=⟨_,bG h⟩;obtain ⟨b,hb⟩ : ∃ b,v[i]?=some b:=⟨_,bG (by omega)⟩;have ha':=zc8 (q:=q) ha;have hb':=zc8 (q:=q) hb;have hal:=hc a (bF ha);have hbl:=hv b (bF hb);have hC:=y3w a hal;have hF:=y3z (f:=znq) (c := .sl 1 (zab a)) (p:=fun n => !zai n 0 a.length) b hbl (by simp) (fun n _=>by simp);have hw:=wS h (by omega:c.length<=9223372036854775807);have hiv:i<v.length:=by omega
  have hfe:=ykx ha hb
  by_cases d1:zfr a=true
  ·rcases Classical.propComplete ((b.length:Int)=zdp v) with d2 | d2
   ·by_cases d3:(b.all fun x=>zai x 0 a.length)=true
    ·have d3':(b.any fun n => !zai n 0 a.length)=false:=by simpa [List.any_eq_not_all_not] using d3
     simp [-getElem?_pos,v1,v26,v27,v28,hS,z,ha',hb',hC,hF,hR,hw,h,hiv,d1,d2,d3'];exact zaj (n-1) (by omega) ⟨i+1,by omega,zh8 hk (by rw [hfe,d1,d3]; simp [d2]),by simp [v1,v26,v27,z,hS]⟩
    ·have d3':(b.any fun n => !zai n 0 a.length)=true:=by simpa [List.any_eq_not_all_not] using d3
     have no:=zg1 h (by rw [hfe,d1]; simp [d3]:zft c v i=false);simp [-getElem?_pos,v1,v26,v27,v28,hS,z,ha',hb',hC,hF,hR,hw,h,hiv,d1,d2,d3',no]
   ·have no:=zg1 h (by rw [hfe,d1]; simp [d2]:zft c v i=false);simp [-getElem?_pos,v1,v26,v27,v28,hS,z,ha',hb',hC,hF,hR,hw,h,hiv,d1,d2,no]
  ·have no:=zg1 h (by rw [hfe]; simp [d1]:zft c v i=false);simp [-getElem?_pos,v1,v26,v27,v28,hS,z,ha',hb',hC,hF,hR,hw,h,hiv,d1,no]
 ·simp at h;have:=zo1 (p:=zft c v) (n:=c.length) fun j hj=>hk j (by omega);simp [this]
theorem yi7 (q:Bool) (c v:List (List Int)) (hc : ∀ l∈c,l.length<=9223372036854775807) (hv : ∀ l∈v,l.length<=9223372036854775807):RUN T znn [.agg [.sl 1 (rws q c),.sl 1 (rws q v)]]=some ([bv (zdl c v)],[]):=by
 refine zae rfl rfl ?_;have hR:=yi5 q c v
 by_cases h1:zai c.length 1 4=true
 case neg=>simp [zol,zn6,zbn,-za1,h1,zdl]
 by_cases h2:(v.length:Int)=c.length
 case neg=>simp [zol,zn6,zbn,-za1,h1,h2,zdl]
 by_cases h3:zai (zdp v) 1 40=true
 case neg=>simp [zol,zn6,zbn,-za1,h1,h2,h3,hR,zdl]
 have h1':=zaw.mp h1;rw [yn9 h1 h2 h3];simp [zol,zn6,zbn,-za1,h1,h2,h3,hR];refine zaq (fun n st => ∃ i:Nat,i+n=c.length/\(∀ j,j<i->zft c v j=true)/\st.V 1 = .ptr 0 none 0 0 0/\st.V 3=iv i/\0<st.nx/\st.S 0=some (.box [.sl 1 (rws q c),.sl 1 (rws q v)])) ?_ c.length _ ⟨0,by simp⟩;rintro n st ⟨i,hi,hk,v1,v3,hnx,hS⟩;simp [ydp,v1,v3,hS];have z:=fr hnx;refine za9 (fun h => ?_) (fun h => ?_)
 ·simp at h;obtain ⟨a,ha⟩ : ∃ a,c[i]?=some a:=⟨_,bG h⟩;obtain ⟨b,hb⟩ : ∃ b,v[i]?=some b:=⟨_,bG (by omega)⟩;have ha':=zc8 (q:=q) ha;have hb':=zc8 (q:=q) hb;have hal:=hc a (bF ha);have hbl:=hv b (bF hb);have hC:=y3x a hal;have hw:=wS h (by omega:c.length<=9223372036854775807);have hiv:i<v.length:=by omega
  have hfe:=ykx ha hb
  by_cases d1:zfr a=true
  case neg =>
   have no:=zg1 h (by rw [hfe]; simp [d1]:zft c v i=false);simp [-getElem?_pos,v1,v3,hS,z,ha',hb',hC,hR,hw,h,hiv,d1,no]
  rcases Classical.propComplete ((b.length:Int)=zdp v) with d2 | d2
  case inr =>
   have no:=zg1 h (by rw [hfe,d1]; simp [d2]:zft c v i=false);simp [-getElem?_pos,v1,v3,hS,z,ha',hb',hC,hR,hw,h,hiv,d1,d2,no]
  simp [-getElem?_pos,v1,v3,hS,z,ha',hb',hC,hR,hw,h,hiv,d1,d2];refine zaq (fun n st => ∃ j:Nat,j+n=b.length/\(∀ (k:Nat) (x:Int),k<j->b[k]?=some x->zai x 0 a.length=true)/\st.V 1 = .ptr 0 none 0 0 0/\st.V 3=iv i/\st.V 4=iv j/\0<st.nx/\st.S 0=some (.box [.sl 1 (rws q c),.sl 1 (rws q v)])) ?_ b.length _ ⟨0,by omega,fun _ _ h=>by omega,by simp [v1,v3,hnx,hS]⟩;clear v1 v3 hnx hS z;rintro n' st ⟨j,hj,hjk,v1,v3,v4,hnx,hS⟩;simp [-getElem?_pos,ydo,v1,v3,v4,hS,hb',hiv];refine za9 (fun h4 => ?_) (fun h4 => ?_)
  ·simp at h4;obtain ⟨x,hx⟩ : ∃ x,b[j]?=some x:=⟨_,bG h4⟩;have hx':=zay hx;have hwj:=wS h4 hbl;rcases Bool.eq_false_or_eq_true (zai x 0 a.length) with d3 | d3
   ·simp [-getElem?_pos,v1,v3,v4,hS,ha',hb',hx',hiv,h,h4,d3,hwj,zbn,-za1];exact zaj (n'-1) (by omega) ⟨j+1,by omega,zkr (P:=fun _ x=>zai x 0 a.length=true) hjk hx d3,by simp [v1,v3,hnx,hS]⟩
   ·have no:=zg1 h (by rw [hfe,zyb hx d3]; simp:zft c v i=false);simp [-getElem?_pos,v1,v3,v4,hS,ha',hb',hx',hiv,h,h4,d3,hwj,no,zbn,-za1]
  ·simp at h4;have ok:zft c v i=true:=by
    rw [hfe,d1,zyp fun k x hk hx=>hjk k x (by omega) hx]; simp [d2]
   simp [-getElem?_pos,v1,v3,v4,hS,hw];exact zaj (n-1) (by omega) ⟨i+1,by omega,zh8 hk ok,by simp [v1,hnx,hS]⟩
 ·simp at h;have:=zo1 (p:=zft c v) (n:=c.length) fun j hj=>hk j (by omega);simp [this]
def zie (x:Int):Bool:=zai x (-2199023255552) 2199023255552
def zf3 (c v:List (List Int)) (lab:List Int) (g:Cfg):Bool:=zdl c v && zbf g && decide ((lab.length:Int)=zdp v) && lab.all zie
@[simp] theorem qkn (n:Int):RUN T znj [iv n]=some ([bv (!zie n)],[]):=by
 refine zae rfl rfl ?_;simp [z21,zn6,zcv,-zbm,zie]
theorem yi8 (q:Bool) (c v:List (List Int)) (lab:List Int) (g:Cfg) (hc : ∀ l∈c,l.length<=9223372036854775807) (hv : ∀ l∈v,l.length<=9223372036854775807) (hlab:lab.length<=9223372036854775807) (hg:g.sg.length<=9223372036854775807):RUN T zm7 [.agg [.sl 1 (rws q c),.sl 1 (rws q v)],.sl 1 (zab lab),zdy g]=some ([bv (zf3 c v lab g)],[]):=by
 refine zae rfl rfl ?_;have e1:=yi6 q c v hc hv;have e2:=z6b g hg;have e3:=z86 q c v;have e4:=z82 (f:=znj) (p:=fun n => !zie n) lab hlab (by simp) (fun n _=>by simp);unfold zf3;cases d1:zdl c v with
 | false=>simp [zoe,zy4,zdy,e1,d1]
 | true =>
  cases d2:zbf g with
  | false=>simp [zoe,zy4,zdy,e1,d1,e2,d2]
  | true =>
   rcases Classical.propComplete ((lab.length:Int)=zdp v) with d3 | d3
   ·have d4:(!(lab.any fun n => !zie n))=lab.all zie:=by simp [List.any_eq_not_all_not]
    simp [zoe,zy4,zdy,e1,d1,e2,d2,e3,d3,e4,d4]
   ·simp [zoe,zy4,zdy,e1,d1,e2,d2,e3,d3]
theorem yi9 (q:Bool) (c v:List (List Int)) (lab:List Int) (g:Cfg) (hc : ∀ l∈c,l.length<=9223372036854775807) (hv : ∀ l∈v,l.length<=9223372036854775807) (hlab:lab.length<=9223372036854775807) (hg:g.sg.length<=9223372036854775807):RUN T znb [.agg [.sl 1 (rws q c),.sl 1 (rws q v)],.sl 1 (zab lab),zdy g]=some ([bv (zf3 c v lab g)],[]):=by
 refine zae rfl rfl ?_;have e1:=yi7 q c v hc hv;have e2:=zxe g hg;have e3:=yi5 q c v;unfold zf3;cases d1:zdl c v with
 | false=>simp [zog,zy4,zdy,e1,d1]
 | true =>
  cases d2:zbf g with
  | false=>simp [zog,zy4,zdy,e1,d1,e2,d2]
  | true =>
   rcases Classical.propComplete ((lab.length:Int)=zdp v) with d3 | d3
   ·simp [zog,zy4,zdy,e1,d1,e2,d2,e3,d3];refine zaq (fun n st => ∃ i:Nat,i+n=lab.length/\(∀ (j:Nat) (x:Int),j<i->lab[j]?=some x->zie x=true)/\st.V 1 = .sl 1 (zab lab)/\st.V 7=iv i) ?_ lab.length _ ⟨0,by omega,fun _ _ h=>by omega,by simp⟩;rintro n st ⟨i,hi,hj,v1,v7⟩;simp [ydh,v1,v7];refine za9 (fun h => ?_) (fun h => ?_)
    ·simp at h;obtain ⟨x,hx⟩ : ∃ x,lab[i]?=some x:=⟨_,bG h⟩;have hx':=zay hx;have hw:=wS h hlab;have hlb:zie x=zai x (-2199023255552) 2199023255552:=rfl;cases d4:zie x with
     | true =>
      have d5:=hlb.symm.trans d4;simp [-getElem?_pos,v1,v7,hx',hw,h,d5,zbn,-za1];exact zaj (n-1) (by omega) ⟨i+1,by omega,zkr (P:=fun _ x=>zie x=true) hj hx d4,by simp [v1]⟩
     | false =>
      have d5:=hlb.symm.trans d4;have no:=zyb hx d4;simp [-getElem?_pos,v1,v7,hx',hw,h,d5,no,zbn,-za1]
    ·simp at h;have:=zyp (p:=zie) fun j a h1 h2=>hj j a (by omega) h2;simp [this,d3]
   ·simp [zog,zy4,zdy,e1,d1,e2,d2,e3,d3]
theorem ypt {α:Type} {f:α->List PV} {p:α->Prop} {tys:List TY} (h : ∀ cs,zcf tys cs->∃ a,f a=cs/\p a) : ∀ {es:List (List PV)},(∀ cs∈es,zcf tys cs)->∃ l:List α,l.map f=es/\∀ a∈l,p a
 | [],_=>⟨[],rfl,by simp⟩
 | e::es,hs=>by
  obtain ⟨a,ha,hp⟩:=h e (hs e (by simp));obtain ⟨l,hl,hq⟩:=ypt h (es:=es) (fun cs hc=>hs cs (by simp [hc]));refine ⟨a::l,by simp [ha,hl],fun b hb => ?_⟩;rcases List.mem_cons.mp hb with e | e
  ·subst e; exact hp
  ·exact hq b e
theorem y95 {P:Program} {l:List TypeId} (h:(l.all fun t=>P.readableRec t && decide (t<P.types.size))=true) : ∀ t∈l,P.readableRec t=true/\t<P.types.size:=by
 intro t ht;have:=List.all_eq_true.mp h t ht;simpa using this
theorem y7d {p:Bool×List TY} {pvs:List PV} (h:zdg (fun p c=>zmc p.1 p.2 c) [p] pvs) : ∃ a,pvs=[a]/\zmc p.1 p.2 a:=by
 cases h with
 | cons h1 t=>cases t with
  | nil=>exact ⟨_,rfl,h1⟩
def zb0 (B:List Int):List (List PV):=B.map fun n=>[.v (.int .u8 n)]
@[simp] theorem qb2 (B:List Int):(zb0 B).length=B.length:=by simp [zb0]
theorem yrg {B:List Int} {i:Nat} {x:Int} (h:B[i]?=some x):(zb0 B)[i]?=some [.v (.int .u8 x)]:=by simp [zb0,h]
def zjm (rv:List RV) (io:Nat) (G:List PV×List PV->Prop) (_:Dm rv) (_:Dm G) (e:Ex) (s:St):Prop:=(e = .normal\/e = .ret)/\∃ r,zfs ⟨[],rv,.skip⟩ io s=some r/\G r
@[simp] theorem q0d {rv:List RV} {io:Nat} {G:List PV×List PV->Prop} {s:St}:zjm rv io G ⟨⟩ ⟨⟩ .normal s = ∃ r,zfs ⟨[],rv,.skip⟩ io s=some r/\G r:=by simp [zjm]
@[simp] theorem qr6 {rv:List RV} {io:Nat} {G:List PV×List PV->Prop} {s:St}:zjm rv io G ⟨⟩ ⟨⟩ .ret s = ∃ r,zfs ⟨[],rv,.skip⟩ io s=some r/\G r:=by simp [zjm]
theorem zhy {T:zcm} {f:Nat} {ms:List Bool} {rv:List RV} {ic:IC} {G:List PV×List PV->Prop} (hT:T f=some (.code ⟨ms,rv,ic⟩)) {args:List PV} {st:St} (hi:zky args=some st) (h:W (zad T) (RUN T) ic st (zjm rv st.nx G ⟨⟩ ⟨⟩)) : ∃ r,RUN T f args=some r/\G r:=by
 unfold W at h;obtain ⟨e,s,h1,h2,r,h3,hG⟩:=h;refine ⟨r,yks hT ?_,hG⟩;unfold zxv;rw [hi];simp only [Option.bind_some,h1];rcases h2 with rfl | rfl <;> exact h3
attribute [irreducible] zjm
theorem z6g (X:Nat):0<=IntKind.i64.wrap ((X &&& 255 % 2 ^ IntKind.i64.bits:Nat):Int)/\IntKind.i64.wrap ((X &&& 255 % 2 ^ IntKind.i64.bits:Nat):Int)<=255:=by
 have h:X &&& 255 % 2 ^ IntKind.i64.bits<=255:=Nat.le_trans Nat.and_le_right (by decide);rw [w64 (by omega) (by omega)];omega
def zgz (B:List Int) (P:PV->Prop) (r:List PV×List PV):Prop := ∃ (v:PV) (p:Nat) (s:Int),P v/\p<=B.length/\r=([v],[.bx [.sl 1 (zb0 B),iv p,iv s]])
def PB (v:PV):Prop := ∃ b,v=bv b
def PM (l:List Int) (v:PV):Prop := ∃ n,v=iv n/\n∈l
def PI (v:PV):Prop := ∃ n,v=iv n/\inI n
def PN (n:Int) (v:PV):Prop := ∃ m,v=iv m/\0<=m/\(0<n->m<n)
theorem zxf (B:List Int) (p:Nat) (s:Int) (hp:p<=B.length) (hB:B.length<=9223372036854775807) : ∃ r,RUN T zhz [.bx [.sl 1 (zb0 B),iv p,iv s]]=some r/\zgz B (fun v => ∃ n,v=iv n/\0<=n/\n<=255) r:=by
 refine zhy rfl rfl ?_
 by_cases h:p<B.length
 ·obtain ⟨x,hx⟩ : ∃ x,B[p]?=some x:=⟨_,bG h⟩;have hx':=yrg hx;have hw:=wS h hB;simp [-getElem?_pos,zv0,zn6,h,hx',hw];exact ⟨_,p+1,_,⟨_,rfl,(z6g _).1,(z6g _).2⟩,h,rfl⟩
 ·have h' : ¬ ((p:Int)<B.length):=by omega
  simp [-getElem?_pos,zv0,zn6,h,h'];exact ⟨_,p,_,⟨_,rfl,(z6g _).1,(z6g _).2⟩,hp,rfl⟩
theorem zca (B:List Int) (p:Nat) (s:Int) (hp:p<=B.length) (hB:B.length<=9223372036854775807) (n:Int) (hn:n<=9223372036854775807) : ∃ r,RUN T zb9 [.bx [.sl 1 (zb0 B),iv p,iv s],iv n]=some r/\zgz B (PN n) r:=by
 refine zhy rfl rfl ?_;obtain ⟨r1,h1,v1,p1,s1,⟨a1,rfl,a10,a11⟩,hp1,rfl⟩:=zxf B p s hp hB
 by_cases c1:n<=0
 ·simp [-getElem?_pos,zta,zy0,c1];exact ⟨_,p,s,⟨0,rfl,by omega,by omega⟩,hp,rfl⟩
 have c0 : ¬ (n=0):=by omega
 by_cases c2:n<=256
 ·simp [-getElem?_pos,zta,zy0,c0,c1,c2,h1];refine ⟨_,p1,s1,⟨_,rfl,?_,fun _ => ?_⟩,hp1,rfl⟩
  ·exact Int.tmod_nonneg _ a10
  ·exact Int.tmod_lt_of_pos _ (by omega)
 obtain ⟨r2,h2,v2,p2,s2,⟨a2,rfl,a20,a21⟩,hp2,rfl⟩:=zxf B p1 s1 hp1 hB;obtain ⟨r3,h3,v3,p3,s3,⟨a3,rfl,a30,a31⟩,hp3,rfl⟩:=zxf B p2 s2 hp2 hB;obtain ⟨r4,h4,v4,p4,s4,⟨a4,rfl,a40,a41⟩,hp4,rfl⟩:=zxf B p3 s3 hp3 hB;have w1:=w64 (x:=a1*16777216) (by omega) (by omega);have w2:=w64 (x:=a2*65536) (by omega) (by omega);have w3:=w64 (x:=a1*16777216+a2*65536) (by omega) (by omega);have w4:=w64 (x:=a3*256) (by omega) (by omega);have w5:=w64 (x:=a1*16777216+a2*65536+a3*256) (by omega) (by omega);have w6:=w64 (x:=a1*16777216+a2*65536+a3*256+a4) (by omega) (by omega);simp [-getElem?_pos,zta,zy0,c0,c1,c2,h1,h2,h3,h4,w1,w2,w3,w4,w5,w6];refine ⟨_,p4,s4,⟨_,rfl,?_,fun _ => ?_⟩,hp4,rfl⟩
 ·exact Int.tmod_nonneg _ (by omega)
 ·exact Int.tmod_lt_of_pos _ (by omega)
theorem zgu (B:List Int) (p:Nat) (s:Int) (hp:p<=B.length) (hB:B.length<=9223372036854775807) (n:Int) (hn:n<=9223372036854775807) : ∃ r,RUN T zgf [.bx [.sl 1 (zb0 B),iv p,iv s],iv n]=some r/\zgz B PB r:=by
 refine zhy rfl rfl ?_;obtain ⟨r1,h1,v1,p1,s1,⟨a1,rfl,a10,a11⟩,hp1,rfl⟩:=zca B p s hp hB n hn;simp [-getElem?_pos,zzf,zy0,h1];exact ⟨_,p1,s1,⟨_,rfl⟩,hp1,rfl⟩
def qay (B:List Int) (l:List Int) (P:PV->Prop) (r:List PV×List PV):Prop := ∃ (v:PV) (p:Nat) (s:Int),P v/\p<=B.length/\r=([v],[.bx [.sl 1 (zb0 B),iv p,iv s],.own 1 (zab l)])
theorem zi2 (B:List Int) (p:Nat) (s:Int) (hp:p<=B.length) (hB:B.length<=9223372036854775807) (l:List Int) (hl:0<l.length/\l.length<=9223372036854775807) : ∃ r,RUN T zfy [.bx [.sl 1 (zb0 B),iv p,iv s],.own 1 (zab l)]=some r/\qay B l (PM l) r:=by
 refine zhy rfl rfl ?_;obtain ⟨r1,h1,v1,p1,s1,⟨a1,rfl,a10,a11⟩,hp1,rfl⟩:=zca B p s hp hB l.length (by omega);obtain ⟨i,rfl⟩ : ∃ i:Nat,a1=i:=⟨a1.toNat,by omega⟩;have hi:i<l.length:=by have:=a11 (by omega); omega
 obtain ⟨x,hx⟩ : ∃ x,l[i]?=some x:=⟨_,bG hi⟩;have hx':=zay hx;simp [-getElem?_pos,z0i,zy0,h1,hx',hi];exact ⟨_,p1,s1,⟨x,rfl,bF hx⟩,hp1,rfl⟩
theorem qdd (x:Int):inI (IntKind.i64.wrap x):=by
 unfold inI IntKind.wrap;simp [IntKind.bits,IntKind.signed];omega
theorem y30 (B:List Int) (p:Nat) (s:Int) (hp:p<=B.length) (hB:B.length<=9223372036854775807) : ∃ r,RUN T zqp [.bx [.sl 1 (zb0 B),iv p,iv s]]=some r/\zgz B PI r:=by
 refine zhy rfl rfl ?_;obtain ⟨r1,h1,v1,p1,s1,⟨a1,rfl,a10,a11⟩,hp1,rfl⟩:=zca B p s hp hB 4 (by omega)
 by_cases c0:a1=0
 ·obtain ⟨r2,h2,v2,p2,s2,⟨a2,rfl,hm⟩,hp2,rfl⟩:=zi2 B p1 s1 hp1 hB [0,1,-1,9,10,999,1000,2147483647,-2147483648,3037000499,3037000500,9223372036854775807,-9223372036854775807,-9223372036854775808] (by simp);simp only [zab,List.map] at h2;simp [-getElem?_pos,zoa,zn6,h1,c0,h2];refine ⟨_,p2,s2,⟨a2,rfl,?_⟩,hp2,rfl⟩;simp at hm;unfold inI;omega
 by_cases c1:a1=1
 ·simp [-getElem?_pos,zoa,zn6,h1,c0,c1];refine zaq (fun n st => ∃ (i p:Nat) (x s:Int),i+n=8/\p<=B.length/\inI x/\st.V 0 = .ptr 0 none 0 0 0/\st.V 3=iv x/\st.V 4=iv i/\0<st.nx/\st.ep=0/\st.S 0=some (.box [.sl 1 (zb0 B),iv p,iv s])) ?_ 8 _ ⟨0,p1,0,s1,by omega,hp1,by unfold inI; omega,by simp⟩;clear h1;rintro n st ⟨i,p,x,s,hi,hp,hx,v0,v3,v4,hnx,hep,hS⟩;simp [yda,v4];refine za9 (fun h => ?_) (fun h => ?_)
  ·simp at h;obtain ⟨r2,h2,v2,p2,s2,⟨a2,rfl,a20,a21⟩,hp2,rfl⟩:=zxf B p s hp hB;have w:=w64 (x:=(i:Int)+1) (by omega) (by omega);simp [-getElem?_pos,v0,v3,v4,hep,hS,h2,w];exact zaj (n-1) (by omega) ⟨i+1,p2,_,s2,by omega,hp2,qdd _,by simp [v0],by simp; rfl,by simp [hnx,hep]⟩
  ·simp [-getElem?_pos,v3,v0,hS];exact ⟨_,p,s,⟨x,rfl,hx⟩,hp,rfl⟩
 by_cases c2:a1=2
 ·obtain ⟨r2,h2,v2,p2,s2,⟨a2,rfl,a20,a21⟩,hp2,rfl⟩:=zca B p1 s1 hp1 hB 1000000 (by omega);have a22:=a21 (by omega);have w:=w64 (x:=a2-500000) (by omega) (by omega);simp [-getElem?_pos,zoa,zn6,h1,c0,c1,c2,h2,w];exact ⟨_,p2,s2,⟨_,rfl,by unfold inI; omega⟩,hp2,rfl⟩
 ·obtain ⟨r2,h2,v2,p2,s2,⟨a2,rfl,a20,a21⟩,hp2,rfl⟩:=zca B p1 s1 hp1 hB 41 (by omega);have a22:=a21 (by omega);have w:=w64 (x:=a2-20) (by omega) (by omega);simp [-getElem?_pos,zoa,zn6,h1,c0,c1,c2,h2,w];exact ⟨_,p2,s2,⟨_,rfl,by unfold inI; omega⟩,hp2,rfl⟩
theorem y31 (B:List Int) (hB:B.length<=9223372036854775807) : ∃ r,RUN T zqz [.sl 1 (zb0 B)]=some r/\∃ s:Int,r=([.bx [.sl 1 (zb0 B),iv (0:Nat),iv s]],[]):=by
 refine zhy rfl rfl ?_;simp [-getElem?_pos,z0f,zn6];refine zaq (fun n st => ∃ (i:Nat) (x:Int),i+n=B.length/\st.V 0 = .sl 1 (zb0 B)/\st.V 3=iv x/\st.V 4=iv i) ?_ B.length _ ⟨0,_,by omega,by simp,by simp; rfl,by simp⟩;rintro n st ⟨i,x,hi,v0,v3,v4⟩
 by_cases h:i<B.length
 ·obtain ⟨b,hx⟩ : ∃ b,B[i]?=some b:=⟨_,bG h⟩;have hx':=yrg hx;have hw:=wS h hB
  by_cases h2:(i:Int)<4000
  ·have h2':=eq_true h2;simp [-getElem?_pos,z0e,v0,v3,v4,h,h2',hx',hw];exact zaj (n-1) (by omega) ⟨i+1,_,by omega,by simp [v0],by simp; rfl,by simp⟩
  ·have h2':=eq_false h2;simp [-getElem?_pos,z0e,v0,v3,v4,h,h2']
 ·simp [-getElem?_pos,z0e,v0,v3,v4,h]
def adi (a b:Int):Int×Bool:=if -9223372036854775808<=a+b/\a+b<=9223372036854775807 then (a+b,true) else (0,false)
theorem yru {a b:Int} (ha:inI a) (hb:inI b):IntKind.i64.wrap (a+b)=if 9223372036854775807<a+b then a+b-18446744073709551616 else if a+b < -9223372036854775808 then a+b+18446744073709551616 else a+b:=by
 unfold inI at ha hb;unfold IntKind.wrap;simp [IntKind.bits,IntKind.signed];omega
theorem z6c (a b:Int) (ha:inI a) (hb:inI b):RUN T zjw [iv a,iv b]=some ([iv (adi a b).1,bv (adi a b).2],[]):=by
 refine zae rfl rfl ?_;have hw:=yru ha hb;unfold inI at ha hb;unfold adi
 by_cases c1:9223372036854775807<a+b
 ·rw [if_pos c1] at hw;rw [if_neg (by omega)];have d1:=eq_false (by omega : ¬ a<0);have d2:=eq_false (by omega : ¬ b<0);have d3:=eq_true (by omega:a+b-18446744073709551616<0);simp [-getElem?_pos,zkb,zkc,hw,d1,d2,d3]
 ·rw [if_neg c1] at hw
  by_cases c2:a+b < -9223372036854775808
  ·rw [if_pos c2] at hw;rw [if_neg (by omega)];have d1:=eq_true (by omega:a<0);have d2:=eq_true (by omega:b<0);have d3:=eq_false (by omega : ¬ a+b+18446744073709551616<0);simp [-getElem?_pos,zkb,zkc,hw,d1,d2,d3]
  ·rw [if_neg c2] at hw;rw [if_pos (by omega)];rcases Classical.propComplete (a<0) with d1 | d1
   all_goals rcases Classical.propComplete (b<0) with d2 | d2
   all_goals simp at d1 d2
   ·have d3:=eq_true (by omega:a+b<0);simp [-getElem?_pos,zkb,zkc,hw,eq_true d1,eq_true d2,d3]
   ·have d2':=eq_false (by omega : ¬ b<0);simp [-getElem?_pos,zkb,zkc,hw,eq_true d1,d2']
   ·have d1':=eq_false (by omega : ¬ a<0);simp [-getElem?_pos,zkb,zkc,hw,eq_true d2,d1']
   ·have d1':=eq_false (by omega : ¬ a<0);have d2':=eq_false (by omega : ¬ b<0);have d3:=eq_false (by omega : ¬ a+b<0);simp [-getElem?_pos,zkb,zkc,hw,d1',d2',d3]
theorem z6d (a b:Int) (ha:inI a) (hb:inI b):RUN T zjx [iv a,iv b]=some ([iv (adi a b).1,bv (adi a b).2],[]):=by
 refine zae rfl rfl ?_;have hw:=yru ha hb;unfold inI at ha hb;unfold adi;rcases Int.lt_trichotomy b 0 with c | c | c
 ·have d1:=eq_false (by omega : ¬ 0<b);have d2:=eq_true c;have w:=w64 (x := -9223372036854775808-b) (by omega) (by omega)
  by_cases e:a < -9223372036854775808-b
  ·rw [if_neg (by omega)];simp [-getElem?_pos,zl3,zkc,d1,d2,w,e]
  ·rw [if_neg (by omega),if_neg (by omega)] at hw;rw [if_pos (by omega)];simp [-getElem?_pos,zl3,zkc,d1,d2,w,e,hw]
 ·subst c;rw [if_neg (by omega),if_neg (by omega)] at hw;rw [if_pos (by omega)];simp at hw;simp [zl3,zkc,hw]
 ·have d1:=eq_true c;have d2:=eq_false (by omega : ¬ b<0);have w:=w64 (x:=9223372036854775807-b) (by omega) (by omega)
  by_cases e:9223372036854775807-b<a
  ·rw [if_neg (by omega)];simp [-getElem?_pos,zl3,zkc,d1,d2,w,e]
  ·rw [if_neg (by omega),if_neg (by omega)] at hw;rw [if_pos (by omega)];simp [-getElem?_pos,zl3,zkc,d1,d2,w,e,hw]
def zgg:Int->List Int->Option Int
 | t,[]=>some t
 | t,x::xs=>if (adi t x).2 then zgg (adi t x).1 xs else none
def zb7 (l:List Int):Int×Bool:=match zgg 0 l with
 | some t=>fdv t l.length
 | none=>(0,false)
theorem z6v {a b:Int} (ha:inI a):inI (adi a b).1:=by
 unfold adi;split
 ·rename_i h; exact h
 ·unfold inI; omega
theorem yja (l:List Int) (hl:l.length<=9223372036854775807) (hin : ∀ n∈l,inI n):RUN T zmr [.sl 1 (zab l)]=some ([iv (zb7 l).1,bv (zb7 l).2],[]):=by
 refine zae rfl rfl ?_;simp [-getElem?_pos,zyx,zyy];refine zaq (fun n st => ∃ (i:Nat) (t:Int),i+n=l.length/\inI t/\zgg t (l.drop i)=zgg 0 l/\st.V 0 = .sl 1 (zab l)/\st.V 4=iv t/\st.V 9 = .sl 1 (zab l)/\st.V 10=iv l.length/\st.V 11=iv i) ?_ l.length _ ⟨0,0,by omega,by unfold inI; omega,by simp⟩;rintro n st ⟨i,t,hi,ht,hb,v0,v4,v9,v10,v11⟩;simp [yc3,v10,v11];refine za9 (fun h => ?_) (fun h => ?_)
 ·simp at h;obtain ⟨x,hx⟩ : ∃ x,l[i]?=some x:=⟨_,bG h⟩;have hx':=zay hx;have hw:=wS h hl;have ha:=z6c t x ht (hin x (bF hx));rw [zdi hx,zgg] at hb;cases c:(adi t x).2 with
  | true =>
   rw [if_pos c] at hb;rw [c] at ha;simp [-getElem?_pos,v0,v4,v9,v10,v11,hx',h,ha,hw];exact zaj (n-1) (by omega) ⟨i+1,_,by omega,z6v ht,hb,by simp [v0,v9,v10]⟩
  | false =>
   rw [if_neg (by simp [c])] at hb;rw [c] at ha;have:zb7 l=(0,false):=by unfold zb7; rw [<- hb]
   simp [-getElem?_pos,v0,v4,v9,v10,v11,hx',h,ha,hw,this]
 ·simp at h;rw [List.drop_eq_nil_of_le h,zgg] at hb;have hf:=z84 t l.length ht;have e:zb7 l=fdv t l.length:=by unfold zb7; rw [<- hb]
  simp [-getElem?_pos,v0,v4,hf,e]
theorem y32 (l:List Int) (hl:l.length<=9223372036854775807) (hin : ∀ n∈l,inI n):RUN T zqg [.sl 1 (zab l)]=some ([iv (zb7 l).1,bv (zb7 l).2],[]):=by
 refine zae rfl rfl ?_;simp [-getElem?_pos,zzl,zyy];refine zaq (fun n st => ∃ (i:Nat) (t:Int),i+n=l.length/\inI t/\zgg t (l.drop i)=zgg 0 l/\st.V 0 = .sl 1 (zab l)/\st.V 4=iv t/\st.V 5=iv i) ?_ l.length _ ⟨0,0,by omega,by unfold inI; omega,by simp⟩;rintro n st ⟨i,t,hi,ht,hb,v0,v4,v5⟩;simp [yc6,v0,v5];refine za9 (fun h => ?_) (fun h => ?_)
 ·simp at h;obtain ⟨x,hx⟩ : ∃ x,l[i]?=some x:=⟨_,bG h⟩;have hx':=zay hx;have hw:=wS h hl;have ha:=z6d t x ht (hin x (bF hx));rw [zdi hx,zgg] at hb;cases c:(adi t x).2 with
  | true =>
   rw [if_pos c] at hb;rw [c] at ha;simp [-getElem?_pos,v0,v4,v5,hx',h,ha,hw];exact zaj (n-1) (by omega) ⟨i+1,_,by omega,z6v ht,hb,by simp [v0]⟩
  | false =>
   rw [if_neg (by simp [c])] at hb;rw [c] at ha;have:zb7 l=(0,false):=by unfold zb7; rw [<- hb]
   simp [-getElem?_pos,v0,v4,v5,hx',h,ha,hw,this]
 ·simp at h;rw [List.drop_eq_nil_of_le h,zgg] at hb;have hf:=z83 t l.length ht;have e:zb7 l=fdv t l.length:=by unfold zb7; rw [<- hb]
  simp [-getElem?_pos,v0,v4,hf,e]
theorem y33 (es:List (List PV)):RUN T zp1 [.sl 1 es]=some ([bv (decide ((1048576:Int)<es.length))],[]):=by
 refine zae rfl rfl ?_;simp [-getElem?_pos,zyr,zn6]
def sbi (a b:Int):Int×Bool:=if -9223372036854775808<=a-b/\a-b<=9223372036854775807 then (a-b,true) else (0,false)
theorem ymo {a b:Int} (ha:inI a) (hb:inI b):IntKind.i64.wrap (a-b)=if 9223372036854775807<a-b then a-b-18446744073709551616 else if a-b < -9223372036854775808 then a-b+18446744073709551616 else a-b:=by
 unfold inI at ha hb;unfold IntKind.wrap;simp [IntKind.bits,IntKind.signed];omega
theorem z87 (a b:Int) (ha:inI a) (hb:inI b):RUN T zlf [iv a,iv b]=some ([iv (sbi a b).1,bv (sbi a b).2],[]):=by
 refine zae rfl rfl ?_;have hw:=ymo ha hb;unfold inI at ha hb;unfold sbi
 by_cases c1:9223372036854775807<a-b
 ·rw [if_pos c1] at hw;rw [if_neg (by omega)];have d1:=eq_false (by omega : ¬ a<0);have d2:=eq_true (by omega:b<0);have d3:=eq_true (by omega:a-b-18446744073709551616<0);simp [-getElem?_pos,zkf,zkc,hw,d1,d2,d3]
 ·rw [if_neg c1] at hw
  by_cases c2:a-b < -9223372036854775808
  ·rw [if_pos c2] at hw;rw [if_neg (by omega)];have d1:=eq_true (by omega:a<0);have d2:=eq_false (by omega : ¬ b<0);have d3:=eq_false (by omega : ¬ a-b+18446744073709551616<0);simp [-getElem?_pos,zkf,zkc,hw,d1,d2,d3]
  ·rw [if_neg c2] at hw;rw [if_pos (by omega)];rcases Classical.propComplete (a<0) with d1 | d1
   all_goals rcases Classical.propComplete (b<0) with d2 | d2
   all_goals simp at d1 d2
   ·simp [-getElem?_pos,zkf,zkc,hw,eq_true d1,eq_true d2]
   ·have d2':=eq_false (by omega : ¬ b<0);have d3:=eq_true (by omega:a-b<0);simp [-getElem?_pos,zkf,zkc,hw,eq_true d1,d2',d3]
   ·have d1':=eq_false (by omega : ¬ a<0);have d3:=eq_false (by omega : ¬ a-b<0);simp [-getElem?_pos,zkf,zkc,hw,eq_true d2,d1',d3]
   ·have d1':=eq_false (by omega : ¬ a<0);have d2':=eq_false (by omega : ¬ b<0);simp [-getElem?_pos,zkf,zkc,hw,d1',d2']
theorem z88 (a b:Int) (ha:inI a) (hb:inI b):RUN T zlh [iv a,iv b]=some ([iv (sbi a b).1,bv (sbi a b).2],[]):=by
 refine zae rfl rfl ?_;have hw:=ymo ha hb;unfold inI at ha hb;unfold sbi;rcases Int.lt_trichotomy b 0 with c | c | c
 ·have d1:=eq_false (by omega : ¬ 0<b);have d2:=eq_true c;have w:=w64 (x:=9223372036854775807+b) (by omega) (by omega)
  by_cases e:9223372036854775807+b<a
  ·rw [if_neg (by omega)];simp [-getElem?_pos,zl6,zkc,d1,d2,w,e]
  ·rw [if_neg (by omega),if_neg (by omega)] at hw;rw [if_pos (by omega)];simp [-getElem?_pos,zl6,zkc,d1,d2,w,e,hw]
 ·subst c;rw [if_neg (by omega),if_neg (by omega)] at hw;rw [if_pos (by omega)];simp at hw;simp [zl6,zkc,hw]
 ·have d1:=eq_true c;have d2:=eq_false (by omega : ¬ b<0);have w:=w64 (x := -9223372036854775808+b) (by omega) (by omega)
  by_cases e:a < -9223372036854775808+b
  ·rw [if_neg (by omega)];simp [-getElem?_pos,zl6,zkc,d1,d2,w,e]
  ·rw [if_neg (by omega),if_neg (by omega)] at hw;rw [if_pos (by omega)];simp [-getElem?_pos,zl6,zkc,d1,d2,w,e,hw]
def res:List Int->List Int->Option (List Int)
 | x::xs,y::ys=>if (sbi x y).2 then (res xs ys).map ((sbi x y).1 :: ·) else none
 | _,_=>some []
theorem yq9 {l m:List Int} {i:Nat} {x y:Int} (hx:l[i]?=some x) (hy:m[i]?=some y):res (l.drop i) (m.drop i)=if (sbi x y).2 then (res (l.drop (i+1)) (m.drop (i+1))).map ((sbi x y).1 :: ·) else none:=by
 rw [zdi hx,zdi hy,res]
theorem z9p (m:List Int):res [] m=some []:=by cases m <;> rfl
def zdd (l m:List Int):List Int×Bool:=if l.length=m.length then match res l m with
  | some r=>(r,true)
  | none=>([],false)
 else ([],false)
theorem ybb : ∀ {l m r:List Int},l.length=m.length->res l m=some r->r.length=l.length/\∀ (i:Nat) (x y z:Int),l[i]?=some x->m[i]?=some y->r[i]?=some z->z=x-y /\ -9223372036854775808<=x-y/\x-y<=9223372036854775807
 | [],[],r,_,h=>by simp [res] at h; subst h; simp
 | x::xs,y::ys,r,hl,h=>by
  rw [res] at h;split at h
  ·rename_i c;simp only [bB] at h;obtain ⟨r',hr,rfl⟩:=h;obtain ⟨h1,h2⟩:=ybb (by simpa using hl) hr;refine ⟨by simp [h1],fun i a b z ha hb hz => ?_⟩;cases i with
   | zero =>
    simp at ha hb hz;subst ha hb hz;unfold sbi at c ⊢;split at c
    ·rename_i hh; rw [if_pos hh]; exact ⟨rfl,hh⟩
    ·cases c
   | succ i=>exact h2 i a b z (by simpa using ha) (by simpa using hb) (by simpa using hz)
  ·cases h
 | [],_::_,_,hl,_=>by simp at hl
 | _::_,[],_,hl,_=>by simp at hl
theorem y34 (l m:List Int) (hl:l.length<=1048576) (hm:m.length<=1048576) (hli : ∀ n∈l,inI n) (hmi : ∀ n∈m,inI n):RUN T zqr [.sl 1 (zab l),.sl 1 (zab m)]=some ([.own 1 (zab (zdd l m).1),bv (zdd l m).2],[]):=by
 refine zae rfl rfl ?_;unfold zdd;rcases Classical.propComplete ((l.length:Int)=m.length) with e | e
 case inr =>
  rw [if_neg (by simp at e; omega)];simp [-getElem?_pos,zvj,zvk,e]
 have e':l.length=m.length:=by simp at e; omega
 rw [if_pos e'];simp [-getElem?_pos,zvj,zvk,e];refine zaq (fun n st => ∃ (i o e:Nat) (a:List Int),i+n=l.length/\a.length=i/\(res (l.drop i) (m.drop i)).map (a ++ ·)=res l m/\st.V 0 = .sl 1 (zab l)/\st.V 1 = .sl 1 (zab m)/\st.V 6 = .ref o none e 0 a.length/\st.V 17=iv l.length/\st.V 18=iv i/\o<st.nx/\st.ep=0/\st.S o=some (.row 1 (zab a))) ?_ l.length _ ⟨0,0,0,[],by omega,rfl,by simp⟩;rintro n st ⟨i,o,ep,a,hi,ha,hr,v0,v1,v6,v17,v18,hox,hep,hSo⟩;simp [ydb,v17,v18];refine za9 (fun h => ?_) (fun h => ?_)
 ·simp at h;obtain ⟨x,hx⟩ : ∃ x,l[i]?=some x:=⟨_,bG h⟩;obtain ⟨y,hy⟩ : ∃ y,m[i]?=some y:=⟨_,bG (by omega)⟩;have hx':=zay hx;have hy':=zay hy;have him:i<m.length:=by omega
  have hw:=wS h (by omega:l.length<=9223372036854775807);have hsub:=z87 x y (hli x (bF hx)) (hmi y (bF hy));rw [yq9 hx hy] at hr;have z1:=fr hox;have hr8:=zcg (n:=a.length+1) (by omega);cases c:(sbi x y).2 with
  | true =>
   rw [if_pos c] at hr;rw [c] at hsub;simp [-getElem?_pos,v0,v1,v6,v17,v18,hep,hSo,z1,hx',hy',h,him,hsub,hr8,zb1,hw];refine zaj (n-1) (by omega) ⟨i+1,st.nx+1,0,a++[(sbi x y).1],by omega,by simp [ha],?_,by simp [v0,v1,v17,hep]⟩;rw [<- hr];cases res (l.drop (i+1)) (m.drop (i+1)) <;> simp
  | false =>
   rw [if_neg (by simp [c])] at hr;rw [c] at hsub;simp at hr;simp [-getElem?_pos,v0,v1,v6,v17,v18,hep,hSo,z1,hx',hy',h,him,hsub,<- hr]
 ·simp at h;rw [List.drop_eq_nil_of_le h,z9p] at hr;simp at hr;rw [<- hr];simp [-getElem?_pos,v6,hSo]
theorem y35 (l m:List Int) (hl:l.length<=1048576) (hm:m.length<=1048576) (hli : ∀ n∈l,inI n) (hmi : ∀ n∈m,inI n):RUN T zqv [.sl 1 (zab l),.sl 1 (zab m)]=some ([.own 1 (zab (zdd l m).1),bv (zdd l m).2],[]):=by
 refine zae rfl rfl ?_;unfold zdd;rcases Classical.propComplete ((l.length:Int)=m.length) with e | e
 case inr =>
  rw [if_neg (by simp at e; omega)];simp [-getElem?_pos,zvn,zvk,e]
 have e':l.length=m.length:=by simp at e; omega
 rw [if_pos e'];simp [-getElem?_pos,zvn,zvk,e];refine zaq (fun n st => ∃ (i o e:Nat) (a:List Int),i+n=l.length/\a.length=i/\(res (l.drop i) (m.drop i)).map (a ++ ·)=res l m/\st.V 0 = .sl 1 (zab l)/\st.V 1 = .sl 1 (zab m)/\st.V 6 = .ref o none e 0 a.length/\st.V 7=iv i/\o<st.nx/\st.ep=0/\st.S o=some (.row 1 (zab a))) ?_ l.length _ ⟨0,0,0,[],by omega,rfl,by simp⟩;rintro n st ⟨i,o,ep,a,hi,ha,hr,v0,v1,v6,v7,hox,hep,hSo⟩;simp [ydc,v0,v7];refine za9 (fun h => ?_) (fun h => ?_)
 ·simp at h;obtain ⟨x,hx⟩ : ∃ x,l[i]?=some x:=⟨_,bG h⟩;obtain ⟨y,hy⟩ : ∃ y,m[i]?=some y:=⟨_,bG (by omega)⟩;have hx':=zay hx;have hy':=zay hy;have him:i<m.length:=by omega
  have hw:=wS h (by omega:l.length<=9223372036854775807);have hsub:=z88 x y (hli x (bF hx)) (hmi y (bF hy));rw [yq9 hx hy] at hr;have z1:=fr hox;have hr8:=zcg (n:=a.length+1) (by omega);cases c:(sbi x y).2 with
  | true =>
   rw [if_pos c] at hr;rw [c] at hsub;simp [-getElem?_pos,v0,v1,v6,v7,hep,hSo,z1,hx',hy',h,him,hsub,hr8,zb1,hw];refine zaj (n-1) (by omega) ⟨i+1,st.nx+1,0,a++[(sbi x y).1],by omega,by simp [ha],?_,by simp [v0,v1,hep]⟩;rw [<- hr];cases res (l.drop (i+1)) (m.drop (i+1)) <;> simp
  | false =>
   rw [if_neg (by simp [c])] at hr;rw [c] at hsub;simp at hr;simp [-getElem?_pos,v0,v1,v6,v7,hep,hSo,z1,hx',hy',h,him,hsub,<- hr]
 ·simp at h;rw [List.drop_eq_nil_of_le h,z9p] at hr;simp at hr;rw [<- hr];simp [-getElem?_pos,v6,hSo]
def PC (n:Nat) (v:PV):Prop := ∃ c:Cfg,v=zkn c/\c.sg.length<=n
def LC (S:Nat->Option Ob) (nx:Nat) (lo:Nat) (m:List Int) (x:PV):Prop:=(x = .e0/\m=[])\/∃ o e,x = .ref o none e 0 m.length/\lo<o/\o<nx/\S o=some (.row 1 (zab m))
theorem yjb (B:List Int) (p:Nat) (s:Int) (hp:p<=B.length) (hB:B.length<=9223372036854775807) : ∃ r,RUN T zmy [.bx [.sl 1 (zb0 B),iv p,iv s]]=some r/\zgz B (PC 60) r:=by
 refine zhy rfl rfl ?_;obtain ⟨r1,h1,v1,p1,s1,⟨a1,rfl,a10,a11⟩,hp1,rfl⟩:=zca B p s hp hB 4 (by omega);obtain ⟨r2,h2,v2,p2,s2,⟨a2,rfl,a20,a21⟩,hp2,rfl⟩:=zca B p1 s1 hp1 hB 4 (by omega);obtain ⟨r3,h3,v3,p3,s3,⟨a3,rfl,a30,a31⟩,hp3,rfl⟩:=zca B p2 s2 hp2 hB 5 (by omega);obtain ⟨r4,h4,v4,p4,s4,⟨a4,rfl,a40,a41⟩,hp4,rfl⟩:=zca B p3 s3 hp3 hB 3 (by omega);obtain ⟨r5,h5,v5,p5,s5,⟨a5,rfl,a50,a51⟩,hp5,rfl⟩:=zca B p4 s4 hp4 hB 3 (by omega);obtain ⟨r6,h6,v6,p6,s6,⟨a6,rfl,a60,a61⟩,hp6,rfl⟩:=zca B p5 s5 hp5 hB 3 (by omega);obtain ⟨r7,h7,v7,p7,s7,⟨b1,rfl⟩,hp7,rfl⟩:=zgu B p6 s6 hp6 hB 8 (by omega);have w6:IntKind.i64.wrap (1+a6)=1+a6:=by have:=a61 (by omega); exact w64 (by omega) (by omega)
 have key : ∀ (k:Int) (x0 x1 x2 x3 x4 x5 x6:Int) (st:St) (p:Nat) (s:Int),0<=k->k<=60->p<=B.length->st.V 0 = .ptr 0 none 0 0 0->st.V 2 = .ptr 1 none 0 0 0->st.V 3 = .ptr 2 none 0 0 0->st.V 4=iv k->st.V 5=iv (0:Nat)->st.nx=3->st.S 0=some (.box [.sl 1 (zb0 B),iv p,iv s])->st.S 1=some (.box [iv 0,iv 0,iv 0,iv 0,iv 0,iv 0,iv 0,.e0])->st.S 2=some (.box [iv x0,iv x1,iv x2,iv x3,iv x4,iv x5,iv x6,.e0])->W (zad T) (RUN T) (.loop z8l) st (Bl 0 (Nx (fun s=>W (zad T) (RUN T) (.seq (.reg [⟨some (.E 53),.load true 8 (.V 3),none⟩,⟨none,.store [0,0,0,0,0,0,0,1] (.V 2) (.E 53),none⟩]) .ret) s (zjm [.cell [0,0,0,0,0,0,0,1] 2 true] 1 (zgz B (PC 60)) ⟨⟩ ⟨⟩)) (zjm [.cell [0,0,0,0,0,0,0,1] 2 true] 1 (zgz B (PC 60)) ⟨⟩ ⟨⟩) ⟨⟩ ⟨⟩) ⟨⟩):=by
  intro k x0 x1 x2 x3 x4 x5 x6 st p s hk0 hk hp v0 v2 v3 v4 v5 hnx hS hS1 hS2;obtain ⟨kn,rfl⟩ : ∃ n:Nat,k=n:=⟨k.toNat,by omega⟩;refine zaq (fun n st => ∃ (i p:Nat) (s:Int) (m:List Int) (x:PV),i+n=kn/\m.length=i/\p<=B.length/\st.V 0 = .ptr 0 none 0 0 0/\st.V 2 = .ptr 1 none 0 0 0/\st.V 3 = .ptr 2 none 0 0 0/\st.V 4=iv kn/\st.V 5=iv i/\2<st.nx/\LC st.S st.nx 2 m x/\st.S 0=some (.box [.sl 1 (zb0 B),iv p,iv s])/\st.S 1=some (.box [iv 0,iv 0,iv 0,iv 0,iv 0,iv 0,iv 0,.e0])/\st.S 2=some (.box [iv x0,iv x1,iv x2,iv x3,iv x4,iv x5,iv x6,x])) ?_ kn _ ⟨0,p,s,[],.e0,by omega,rfl,hp,v0,v2,v3,v4,v5,by omega,.inl ⟨rfl,rfl⟩,hS,hS1,hS2⟩;clear v0 v2 v3 v4 v5 hnx hS hS1 hS2 hp;rintro n st ⟨i,p,s,m,x,hi,hm,hp,v0,v2,v3,v4,v5,hnx,hx,hS,hS1,hS2⟩;have z1:=fr hnx;have z2:=fr (by omega:0<st.nx);have z3:=fr (by omega:1<st.nx);simp [z8l,v4,v5];refine za9 (fun h => ?_) (fun h => ?_)
  ·simp at h;have hw:=w64 (x:=(i:Int)+1) (by omega) (by omega);obtain ⟨r1,h1,v1,p1,s1,⟨a,rfl,a0,a1⟩,hp1,rfl⟩:=zca B p s hp hB 3 (by omega);have a2:=a1 (by omega);have w:=w64 (x:=a-1) (by omega) (by omega);rcases hx with ⟨rfl,rfl⟩ | ⟨o,e,rfl,ho,hox,hSo⟩
   ·have hr8:zag 8 1=true:=by decide
    have hone:[[iv (a-1)]]=zab [a-1]:=rfl;simp [-getElem?_pos,v0,v2,v3,v4,v5,hS,hS1,hS2,z1,z2,z3,h1,w,hw,hr8];exact zaj (n-1) (by omega) ⟨i+1,p1,s1,[a-1],.ref (st.nx+1) none st.ep 0 1,by omega,by simp at hm; simp; omega,hp1,by simp [v0],by simp [v2],by simp [v3],by simp [v4],by simp,by simp; omega,.inr ⟨st.nx+1,st.ep,rfl,by omega,by simp,by
     have n2 : ¬ st.nx+1=2:=by omega
     simp [n2,zab]⟩,by simp [z1,z2,z3,hS1]⟩
   ·have hr8:=zcg (n:=m.length+1) (by omega);have y1:=fr hox;have y2:=fr ho;have y3:=fr (by omega:0<o);have y4:=fr (by omega:1<o);simp [-getElem?_pos,v0,v2,v3,v4,v5,hS,hS1,hS2,hSo,z1,z2,z3,y1,y2,y3,y4,h1,w,hw,hr8,zb1];exact zaj (n-1) (by omega) ⟨i+1,p1,s1,m++[a-1],.ref (st.nx+1) none st.ep 0 (m.length+1),by omega,by simp [hm],hp1,by simp [v0],by simp [v2],by simp [v3],by simp [v4],by simp,by simp; omega,.inr ⟨st.nx+1,st.ep,by simp,by omega,by simp,by
     have n2 : ¬ st.nx+1=2:=by omega
     simp [n2]⟩,by simp [z1,z2,z3,y1,y2,y3,y4,hS1]⟩
  ·simp at h;rcases hx with ⟨rfl,rfl⟩ | ⟨o,e,rfl,ho,hox,hSo⟩
   ·simp [-getElem?_pos,v0,v2,v3,hS,hS1,hS2];exact ⟨_,p,s,⟨⟨x0,x1,x2,x3,x4,x5,x6,[]⟩,rfl,by simp⟩,hp,rfl⟩
   ·have y2:=fr ho;have y3:=fr (by omega:0<o);have y4:=fr (by omega:1<o);have y5:1<=o:=by omega
    simp [-getElem?_pos,v0,v2,v3,hS,hS1,hS2,hSo,y2,y3,y4,y5];exact ⟨_,p,s,⟨⟨x0,x1,x2,x3,x4,x5,x6,m⟩,rfl,by simp only; omega⟩,hp,rfl⟩
 cases b1 with
 | true =>
  obtain ⟨r8,h8,v8,p8,s8,⟨a8,rfl,a80,a81⟩,hp8,rfl⟩:=zca B p7 s7 hp7 hB 100 (by omega);obtain ⟨r9,h9,v9,p9,s9,⟨b2,rfl⟩,hp9,rfl⟩:=zgu B p8 s8 hp8 hB 4 (by omega);cases b2 with
  | true =>
   obtain ⟨r10,h10,v10,p10,s10,⟨a10',rfl,_,_⟩,hp10,rfl⟩:=zca B p9 s9 hp9 hB (1+a6) (by have:=a61 (by omega); omega);obtain ⟨r11,h11,v11,p11,s11,⟨k,rfl,k0,k1⟩,hp11,rfl⟩:=zca B p10 s10 hp10 hB 5 (by omega);have k2:=k1 (by omega);simp [-getElem?_pos,zoc,zod,h1,h2,h3,h4,h5,h6,h7,h8,h9,h10,h11,w6];exact key k _ _ _ _ _ _ _ _ p11 s11 k0 (by omega) hp11 (by simp) (by simp) (by simp) (by simp) (by simp) (by simp) (by simp) (by simp) (by simp; exact ⟨rfl,rfl,rfl,rfl,rfl,rfl,rfl⟩)
  | false =>
   obtain ⟨r11,h11,v11,p11,s11,⟨k,rfl,k0,k1⟩,hp11,rfl⟩:=zca B p9 s9 hp9 hB 5 (by omega);have k2:=k1 (by omega);simp [-getElem?_pos,zoc,zod,h1,h2,h3,h4,h5,h6,h7,h8,h9,h11,w6];exact key k _ _ _ _ _ _ _ _ p11 s11 k0 (by omega) hp11 (by simp) (by simp) (by simp) (by simp) (by simp) (by simp) (by simp) (by simp) (by simp; exact ⟨rfl,rfl,rfl,rfl,rfl,rfl,rfl⟩)
 | false =>
  obtain ⟨r9,h9,v9,p9,s9,⟨b2,rfl⟩,hp9,rfl⟩:=zgu B p7 s7 hp7 hB 4 (by omega);cases b2 with
  | true =>
   obtain ⟨r10,h10,v10,p10,s10,⟨a10',rfl,_,_⟩,hp10,rfl⟩:=zca B p9 s9 hp9 hB (1+a6) (by have:=a61 (by omega); omega);obtain ⟨r11,h11,v11,p11,s11,⟨k,rfl,k0,k1⟩,hp11,rfl⟩:=zca B p10 s10 hp10 hB 5 (by omega);have k2:=k1 (by omega);simp [-getElem?_pos,zoc,zod,h1,h2,h3,h4,h5,h6,h7,h9,h10,h11,w6];exact key k _ _ _ _ _ _ _ _ p11 s11 k0 (by omega) hp11 (by simp) (by simp) (by simp) (by simp) (by simp) (by simp) (by simp) (by simp) (by simp; exact ⟨rfl,rfl,rfl,rfl,rfl,rfl,rfl⟩)
  | false =>
   obtain ⟨r11,h11,v11,p11,s11,⟨k,rfl,k0,k1⟩,hp11,rfl⟩:=zca B p9 s9 hp9 hB 5 (by omega);have k2:=k1 (by omega);simp [-getElem?_pos,zoc,zod,h1,h2,h3,h4,h5,h6,h7,h9,h11,w6];exact key k _ _ _ _ _ _ _ _ p11 s11 k0 (by omega) hp11 (by simp) (by simp) (by simp) (by simp) (by simp) (by simp) (by simp) (by simp) (by simp; exact ⟨rfl,rfl,rfl,rfl,rfl,rfl,rfl⟩)
theorem yjc (B:List Int) (p:Nat) (s:Int) (hp:p<=B.length) (hB:B.length<=9223372036854775807) : ∃ r,RUN T zq1 [.bx [.sl 1 (zb0 B),iv p,iv s]]=some r/\zgz B (PC 64) r:=by
 refine zhy rfl rfl ?_;obtain ⟨r1,h1,v1,p1,s1,⟨c,rfl,hc⟩,hp1,rfl⟩:=yjb B p s hp hB;obtain ⟨r2,h2,v2,p2,s2,⟨a,rfl,a0,a1⟩,hp2,rfl⟩:=zca B p1 s1 hp1 hB 12 (by omega);have hr8:zag 8 1=true:=by decide
 have Z0:=bI hr8 <| bI h1 h2
 by_cases c0:a=0
 ·obtain ⟨r3,h3,v,p3,s3,⟨x,rfl,hx⟩,hp3,rfl⟩:=zi2 B p2 s2 hp2 hB [0,1,8,9,-1] (by simp);simp only [zab,List.map] at h3;simp [-getElem?_pos,zhh,zod,Z0,c0,h3];exact ⟨_,p3,s3,⟨⟨x,c.de,c.bi,c.la,c.rw,c.nu,c.dn,c.sg⟩,rfl,by simp only; omega⟩,hp3,rfl⟩
 by_cases c1:a=1
 ·obtain ⟨r3,h3,v,p3,s3,⟨x,rfl,hx⟩,hp3,rfl⟩:=zi2 B p2 s2 hp2 hB [-1,0,4,5] (by simp);simp only [zab,List.map] at h3;simp [-getElem?_pos,zhh,zod,Z0,c0,c1,h3];exact ⟨_,p3,s3,⟨⟨c.ro,x,c.bi,c.la,c.rw,c.nu,c.dn,c.sg⟩,rfl,by simp only; omega⟩,hp3,rfl⟩
 by_cases c2:a=2
 ·obtain ⟨r3,h3,v,p3,s3,⟨x,rfl,hx⟩,hp3,rfl⟩:=zi2 B p2 s2 hp2 hB [1,2,8,9] (by simp);simp only [zab,List.map] at h3;simp [-getElem?_pos,zhh,zod,Z0,c0,c1,c2,h3];exact ⟨_,p3,s3,⟨⟨c.ro,c.de,x,c.la,c.rw,c.nu,c.dn,c.sg⟩,rfl,by simp only; omega⟩,hp3,rfl⟩
 by_cases c3:a=3
 ·obtain ⟨r3,h3,v,p3,s3,⟨x,rfl,hx⟩,hp3,rfl⟩:=zi2 B p2 s2 hp2 hB [0,1,100,101,9223372036854775807] (by simp);simp only [zab,List.map] at h3;simp [-getElem?_pos,zhh,zod,Z0,c0,c1,c2,c3,h3];exact ⟨_,p3,s3,⟨⟨c.ro,c.de,c.bi,x,c.rw,c.nu,c.dn,c.sg⟩,rfl,by simp only; omega⟩,hp3,rfl⟩
 by_cases c4:a=4
 ·obtain ⟨r3,h3,v,p3,s3,⟨x,rfl,hx⟩,hp3,rfl⟩:=zi2 B p2 s2 hp2 hB [0,1,20,21] (by simp);simp only [zab,List.map] at h3;simp [-getElem?_pos,zhh,zod,Z0,c0,c1,c2,c3,c4,h3];exact ⟨_,p3,s3,⟨⟨c.ro,c.de,c.bi,c.la,x,c.nu,c.dn,c.sg⟩,rfl,by simp only; omega⟩,hp3,rfl⟩
 by_cases c5:a=5
 ·obtain ⟨r3,h3,v,p3,s3,⟨x,rfl,hx⟩,hp3,rfl⟩:=zi2 B p2 s2 hp2 hB [0,1,c.dn,IntKind.i64.wrap (c.dn+1),-1] (by simp);simp only [zab,List.map] at h3;simp [-getElem?_pos,zhh,zod,Z0,c0,c1,c2,c3,c4,c5,h3];exact ⟨_,p3,s3,⟨⟨c.ro,c.de,c.bi,c.la,c.rw,x,c.dn,c.sg⟩,rfl,by simp only; omega⟩,hp3,rfl⟩
 by_cases c6:a=6
 ·obtain ⟨r3,h3,v,p3,s3,⟨x,rfl,hx⟩,hp3,rfl⟩:=zi2 B p2 s2 hp2 hB [0,1,1000,1001,9223372036854775807] (by simp);simp only [zab,List.map] at h3;simp [-getElem?_pos,zhh,zod,Z0,c0,c1,c2,c3,c4,c5,c6,h3];exact ⟨_,p3,s3,⟨⟨c.ro,c.de,c.bi,c.la,c.rw,c.nu,x,c.sg⟩,rfl,by simp only; omega⟩,hp3,rfl⟩
 by_cases c7:a=7
 ·obtain ⟨r3,h3,v,p3,s3,⟨x,rfl,x0,x1⟩,hp3,rfl⟩:=zca B p2 s2 hp2 hB 5 (by omega);have x2:=x1 (by omega);have w:=w64 (x:=x-2) (by omega) (by omega);have hr9:=zcg (n:=c.sg.length+1) (by omega);simp [-getElem?_pos,zhh,zod,hr8,hr9,h1,h2,c0,c1,c2,c3,c4,c5,c6,c7,h3,w,zb1];exact ⟨_,p3,s3,⟨⟨c.ro,c.de,c.bi,c.la,c.rw,c.nu,c.dn,c.sg++[x-2]⟩,rfl,by simp; omega⟩,hp3,rfl⟩
 ·simp [-getElem?_pos,zhh,zod,Z0,c0,c1,c2,c3,c4,c5,c6,c7];exact ⟨_,p2,s2,⟨c,rfl,by omega⟩,hp2,rfl⟩
def sv (s:ByteArray):PV := .v (.string s)
def za4 (l:List ByteArray):List (List PV):=l.map fun s=>[.v (.string s)]
@[simp] theorem qw3 (l:List ByteArray):(za4 l).length=l.length:=by simp [za4]
theorem zue {l:List ByteArray} {i:Nat} {x:ByteArray} (h:l[i]?=some x):(za4 l)[i]?=some [.v (.string x)]:=by simp [za4,h]
def zoy (q:Bool) (t:List Nd):PV:=if q then .own 5 (t.map nd) else .sl 5 (t.map nd)
@[simp] theorem qz9 (q:Bool) (t:List Nd):fz (zoy q t) = .sl 5 (t.map nd):=by cases q <;> simp [zoy]
def trs (q:Bool) (M:List (List Nd)):List (List PV):=M.map fun t=>[zoy q t]
@[simp] theorem qme (q:Bool) (M:List (List Nd)):(trs q M).length=M.length:=by simp [trs]
theorem yay {q:Bool} {M:List (List Nd)} {i:Nat} {t:List Nd} (h:M[i]?=some t):(trs q M)[i]?=some [zoy q t]:=by simp [trs,h]
structure Mo where
 ns:List ByteArray
 ix:List Int
 b:Int
 ts:List (List Nd)
structure MoL (n:Nat) (m:Mo):Prop where
 ns:m.ns.length<=n
 ss : ∀ x∈m.ns,x.size<=n
 ix:m.ix.length<=n
 ts:m.ts.length<=n
 tl : ∀ l∈m.ts,l.length<=n
theorem MoL.mono {n k:Nat} {m:Mo} (h:MoL n m) (hk:n<=k):MoL k m:=⟨Nat.le_trans h.ns hk,fun x hx=>Nat.le_trans (h.ss x hx) hk,Nat.le_trans h.ix hk,Nat.le_trans h.ts hk,fun x hx=>Nat.le_trans (h.tl x hx) hk⟩
theorem z6q {α:Type} {l m:List α} {i:Nat} (hl:l.length=m.length) (hi:l.length<=i) (h : ∀ j,j<i->l[j]?=m[j]?):l=m:=by
 apply List.ext_getElem?;intro j
 by_cases c:j<i
 ·exact h j c
 ·rw [List.getElem?_eq_none (by omega),List.getElem?_eq_none (by omega)]
theorem z71 {α:Type} {l m:List α} {i:Nat} {x y:α} (hx:l[i]?=some x) (hy:m[i]?=some y) (h : ¬ x=y):(l=m)=False:=by
 apply eq_false;rintro rfl;rw [hx] at hy;cases hy;exact h rfl
theorem z6p {α:Type} {l m:List α} (h:((l.length:Int)=m.length)=False):(l=m)=False:=by
 apply eq_false;rintro rfl;simp at h
theorem y7s (s:ByteArray) : ∀ (n i:Nat) (r:List UInt8),s.size-i<=n->ByteArray.toList.loop s i r=r.reverse++s.data.toList.drop i:=by
 have hs:s.data.toList.length=s.size:=by cases s; rfl
 intro n
 induction n with
 | zero =>
  intro i r h;rw [ByteArray.toList.loop,if_neg (by omega),List.drop_eq_nil_of_le (by omega)];simp
 | succ n ih =>
  intro i r h;rw [ByteArray.toList.loop];split
  ·rename_i hi;rw [ih _ _ (by omega)];have hi':i<s.data.toList.length:=by omega
   rw [List.drop_eq_getElem_cons hi'];have:s.get! i=s.data.toList[i]:=by
    cases s with
    | mk d =>
     show d[i]! = _;rw [getElem!_pos d i (by simpa using hi')];simp
   simp [this]
  ·rename_i hi;rw [List.drop_eq_nil_of_le (by omega)];simp
theorem ykh (s:ByteArray):s.toList=s.data.toList:=by
 unfold ByteArray.toList;rw [y7s s s.size 0 [] (by omega)];simp
theorem y6s {x y:ByteArray} (h:x.toList=y.toList):x=y:=by
 rw [ykh,ykh] at h;cases x; cases y;simp at h;simp [h]
theorem yqm {x y:ByteArray} (h : ¬ x=y):(x.toList == y.toList)=false:=by
 simp only [beq_eq_false_iff_ne,ne_eq];exact fun e=>h (y6s e)
open Classical in
theorem y36 (l m:List Int) (hl:l.length<=9223372036854775807):RUN T zqi [.sl 1 (zab l),.sl 1 (zab m)]=some ([bv (decide (l=m))],[]):=by
 refine zae rfl rfl ?_;rcases Classical.propComplete ((l.length:Int)=m.length) with hlm | hlm
 case inr =>
  simp [-getElem?_pos,zva,zy0,hlm,z6p hlm]
 simp [-getElem?_pos,zva,zy0,hlm];have hlen:l.length=m.length:=by simp at hlm; omega
 refine zaq (fun n st => ∃ i:Nat,i+n=l.length/\(∀ j,j<i->l[j]?=m[j]?)/\st.V 0 = .sl 1 (zab l)/\st.V 1 = .sl 1 (zab m)/\st.V 5=iv i) ?_ l.length _ ⟨0,by simp⟩;rintro n st ⟨i,hi,hj,v0,v1,v5⟩;simp [yc7,v0,v1,v5];refine za9 (fun h => ?_) (fun h => ?_)
 ·simp at h;obtain ⟨x,hx⟩ : ∃ x,l[i]?=some x:=⟨_,bG h⟩;obtain ⟨y,hy⟩ : ∃ y,m[i]?=some y:=⟨_,bG (by omega)⟩;have hx':=zay hx;have hy':=zay hy;have hw:=wS h hl;have him:i<m.length:=by omega
  by_cases e:x=y
  ·simp [-getElem?_pos,v0,v1,v5,hx',hy',h,him,hw,eq_true e];exact zaj (n-1) (by omega) ⟨i+1,by omega,zh8 hj (by rw [hx,hy,e]),by simp [v0,v1]⟩
  ·simp [-getElem?_pos,v0,v1,v5,hx',hy',h,him,hw,eq_false e,z71 hx hy e]
 ·simp at h;simp [z6q hlen h hj]
open Classical in
theorem y37 (l m:List Int) (hl:l.length<=9223372036854775807):RUN T zqj [.sl 1 (zab l),.sl 1 (zab m)]=some ([bv (decide (l=m))],[]):=by
 refine zae rfl rfl ?_;rcases Classical.propComplete ((l.length:Int)=m.length) with hlm | hlm
 case inr =>
  simp [-getElem?_pos,zvc,zy0,hlm,z6p hlm]
 simp [-getElem?_pos,zvc,zy0,hlm];have hlen:l.length=m.length:=by simp at hlm; omega
 refine zaq (fun n st => ∃ i:Nat,i+n=l.length/\(∀ j,j<i->l[j]?=m[j]?)/\st.V 0 = .sl 1 (zab l)/\st.V 1 = .sl 1 (zab m)/\st.V 12=iv l.length/\st.V 13=iv i) ?_ l.length _ ⟨0,by simp [hlen]⟩;rintro n st ⟨i,hi,hj,v0,v1,v12,v13⟩;simp [yc8,v12,v13];refine za9 (fun h => ?_) (fun h => ?_)
 ·simp at h;obtain ⟨x,hx⟩ : ∃ x,l[i]?=some x:=⟨_,bG h⟩;obtain ⟨y,hy⟩ : ∃ y,m[i]?=some y:=⟨_,bG (by omega)⟩;have hx':=zay hx;have hy':=zay hy;have hw:=wS h hl;have him:i<m.length:=by omega
  by_cases e:x=y
  ·simp [-getElem?_pos,v0,v1,v12,v13,hx',hy',h,him,hw,eq_true e];exact zaj (n-1) (by omega) ⟨i+1,by omega,zh8 hj (by rw [hx,hy,e]),by simp [v0,v1,v12]⟩
  ·simp [-getElem?_pos,v0,v1,v12,v13,hx',hy',h,him,hw,eq_false e,z71 hx hy e]
 ·simp at h;simp [z6q hlen h hj]
def rwS (q:Bool) (l:List ByteArray):PV:=if q then .own 1 (za4 l) else .sl 1 (za4 l)
@[simp] theorem qze (q:Bool) (l:List ByteArray):fz (rwS q l) = .sl 1 (za4 l):=by cases q <;> simp [rwS]
def yro (q:Bool) (L:List (List ByteArray)):List (List PV):=L.map fun l=>[rwS q l]
@[simp] theorem qrx (q:Bool) (L:List (List ByteArray)):(yro q L).length=L.length:=by simp [yro]
def ltr (n:Int):Bool:=decide (97<=n) && decide (n<=122)
def dgt (n:Int):Bool:=decide (48<=n) && decide (n<=57)
def chB (s:ByteArray) (i:Nat):Bool:=match s[i]? with
 | none=>true
 | some b=>ltr b.toNat || (decide (i≠0) && dgt b.toNat)
def zd4 (s:ByteArray):Bool:=zai s.size 1 12 && (List.range s.size).all (chB s)
theorem yb6 {s:ByteArray} {i:Nat} {b:UInt8} (h:s[i]?=some b):chB s i=(ltr b.toNat || (decide (i≠0) && dgt b.toNat)):=by simp [chB,h]
theorem y38 (s:ByteArray) (hs:s.size<=9223372036854775807):RUN T zq7 [.v (.string s)]=some ([bv (zd4 s)],[]):=by
 refine zae rfl rfl ?_;simp [-getElem?_pos,z03,zn6];refine zaq (fun n st => ∃ i:Nat,i+n=s.size/\(∀ j,j<i->chB s j=true)/\st.V 0 = .v (.string s)/\st.V 6=iv s.size/\st.V 7=iv i) ?_ s.size _ ⟨0,by simp⟩;rintro n st ⟨i,hi,hj,v0,v6,v7⟩;simp [ydd,v6,v7];refine za9 (fun h => ?_) (fun h => ?_)
 ·simp at h;obtain ⟨b,hb⟩ : ∃ b,s[i]?=some b:=⟨_,getElem?_pos s i h⟩;have hw:=wS h hs;have hc:=yb6 hb;obtain ⟨c,hcc⟩ : ∃ c:Int,c=b.toNat:=⟨_,rfl⟩;rw [<- hcc] at hc;have hi0:((i:Int)=0)=(i=0):=by simp
  rcases Classical.propComplete (97<=c) with a1 | a1
  all_goals rcases Classical.propComplete (c<=122) with a2 | a2
  all_goals rcases Classical.propComplete (i=0) with a3 | a3
  all_goals rcases Classical.propComplete (48<=c) with a4 | a4
  all_goals rcases Classical.propComplete (c<=57) with a5 | a5
  all_goals have a6:(c<48) = ¬ (48<=c):=by simp
  all_goals have a7:(57<c) = ¬ (c<=57):=by simp
  all_goals simp [ltr,dgt,a1,a2,a3,a4,a5] at hc
  all_goals simp [-getElem?_pos,v0,v6,v7,hb,<- hcc,a1,a2,a3,a4,a5,a6,a7,hi0,hw]
  all_goals first
   | exact zaj (n-1) (by omega) ⟨i+1,by omega,zh8 hj hc,by simp [v0,v6]⟩
   | (have no:zd4 s=false:=by
       unfold zd4;rw [zg1 h hc]; simp
      simp [no]; done)
   | skip
 ·simp at h;have:=zo1 (p:=chB s) (n:=s.size) fun j hj'=>hj j (by omega);unfold zd4;rw [this];simp [-getElem?_pos,v0,zcv,-zbm]
theorem yjd (s:ByteArray) (hs:s.size<=9223372036854775807):RUN T zmt [.v (.string s)]=some ([bv (zd4 s)],[]):=by
 refine zae rfl rfl ?_;rcases Bool.eq_false_or_eq_true (zai s.size 1 12) with h0 | h0
 case inr =>
  have no:zd4 s=false:=by unfold zd4; rw [h0]; rfl
  simp [-getElem?_pos,zs6,zn6,zbn,-za1,h0,no]
 have hr:=zaw.mp h0;obtain ⟨b0,hb0⟩ : ∃ b,s[0]?=some b:=⟨_,getElem?_pos s 0 (by omega)⟩;have hn0:zb2 (.v (.int .i64 0))=some 0:=rfl;rcases Classical.propComplete (((b0.toNat:Nat):Int)<97) with f | f
 case inl =>
  have hc:chB s 0=false:=by
   rw [yb6 hb0];have : ¬ (97<=(b0.toNat:Int)):=by have:=of_eq_true f; omega
   simp [ltr,this]
  have no:zd4 s=false:=by unfold zd4; rw [zg1 (by omega) hc]; simp
  simp [-getElem?_pos,zs6,zn6,zbn,-za1,h0,no,hb0,f]
 simp [-getElem?_pos,zs6,zn6,zbn,-za1,h0,hb0,f];refine zaq (fun n st => ∃ i:Nat,i+n=s.size/\(∀ j,j<i->chB s j=true)/\st.V 0 = .v (.string s)/\st.V 3=iv i) ?_ s.size _ ⟨0,by simp⟩;rintro n st ⟨i,hi,hj,v0,v3⟩;simp [yc4,v0,v3];refine za9 (fun h => ?_) (fun h => ?_)
 ·simp at h;obtain ⟨b,hb⟩ : ∃ b,s[i]?=some b:=⟨_,getElem?_pos s i h⟩;have hw:=wS h hs;have hc:=yb6 hb;have hcv:IntKind.i64.wrap (b.toNat:Int)=b.toNat:=w64 (by omega) (by have:=b.toNat_lt; omega);have e1:zai (b.toNat:Int) 97 122=ltr b.toNat:=rfl;have e2:zai (b.toNat:Int) 48 57=dgt b.toNat:=rfl;cases a1:ltr b.toNat with
  | true =>
   have e3:=e1.trans a1;simp [-getElem?_pos,v0,v3,hb,hcv,e3,hw,zbn,-za1];exact zaj (n-1) (by omega) ⟨i+1,by omega,zh8 hj (by rw [hc,a1]; rfl),by simp [v0]⟩
  | false =>
   have e3:=e1.trans a1;cases a2:dgt b.toNat with
   | true =>
    have e4:=e2.trans a2;have hi0:i≠0:=by
     rintro rfl;rw [hb0] at hb;cases hb;simp [dgt] at a2;have:=of_eq_false f;omega
    simp [-getElem?_pos,v0,v3,hb,hcv,e3,e4,hw,zbn,-za1];exact zaj (n-1) (by omega) ⟨i+1,by omega,zh8 hj (by rw [hc,a1,a2]; simp [hi0]),by simp [v0]⟩
   | false =>
    have e4:=e2.trans a2;have no:zd4 s=false:=by unfold zd4; rw [zg1 h (by rw [hc,a1,a2]; simp:chB s i=false)]; simp
    simp [-getElem?_pos,v0,v3,hb,hcv,e3,e4,hw,no,zbn,-za1]
 ·simp at h;have:=zo1 (p:=chB s) (n:=s.size) fun j hj'=>hj j (by omega);have ok:zd4 s=true:=by unfold zd4; rw [this,h0]; rfl
  simp [ok]
theorem z60 (l:List ByteArray) (i:Nat):List.take i (za4 l)=za4 (l.take i):=by simp [za4]
def zge (l:List ByteArray) (x:ByteArray):Bool:=l.any fun y=>decide (y=x)
theorem yje (l:List ByteArray) (x:ByteArray) (hl:l.length<=9223372036854775807):RUN T zmu [.sl 1 (za4 l),.v (.string x)]=some ([bv (zge l x)],[]):=by
 refine zae rfl rfl ?_;simp [-getElem?_pos,zy5,zy0];refine zaq (fun n st => ∃ i:Nat,i+n=l.length/\(∀ (j:Nat) (y:ByteArray),j<i->l[j]?=some y->¬ y=x)/\st.V 0 = .sl 1 (za4 l)/\st.V 1 = .v (.string x)/\st.V 5=iv i) ?_ l.length _ ⟨0,by simp⟩;rintro n st ⟨i,hi,hj,v0,v1,v5⟩;simp [yc5,v0,v5];refine za9 (fun h => ?_) (fun h => ?_)
 ·simp at h;obtain ⟨y,hy⟩ : ∃ y,l[i]?=some y:=⟨_,bG h⟩;have hy':=zue hy;have hw:=wS h hl
  by_cases e:y=x
  ·subst e;have:zge l y=true:=by
    unfold zge; rw [List.any_eq_true]; exact ⟨y,bF hy,by simp⟩
   simp [-getElem?_pos,v0,v1,v5,hy',h,this]
  ·simp [-getElem?_pos,v0,v1,v5,hy',h,hw,yqm e];exact zaj (n-1) (by omega) ⟨i+1,by omega,zkr (P:=fun _ y => ¬ y=x) hj hy e,by simp [v0,v1]⟩
 ·simp at h;have:zge l x=false:=by
   unfold zge;rw [List.any_eq_false];intro y hy;obtain ⟨j,hjy⟩:=bH hy;simpa using hj j y (by have:=(bD hjy).1; omega) hjy
  simp [this]
theorem y39 (l:List ByteArray) (x:ByteArray) (hl:l.length<=9223372036854775807):RUN T zrw [.sl 1 (za4 l),.v (.string x)]=some ([iv (zh7 (fun y=>decide (y=x)) l)],[]):=by
 refine zae rfl rfl ?_;simp [-getElem?_pos,z2t,zy0];refine zaq (fun n st => ∃ i:Nat,i+n=l.length/\(∀ (j:Nat) (y:ByteArray),j<i->l[j]?=some y->decide (y=x)=false)/\st.V 0 = .sl 1 (za4 l)/\st.V 1 = .v (.string x)/\st.V 7=iv l.length/\st.V 8=iv i) ?_ l.length _ ⟨0,by simp⟩;rintro n st ⟨i,hi,hj,v0,v1,v7,v8⟩;simp [ydl,v7,v8];refine za9 (fun h => ?_) (fun h => ?_)
 ·simp at h;obtain ⟨y,hy⟩ : ∃ y,l[i]?=some y:=⟨_,bG h⟩;have hy':=zue hy;have hw:=wS h hl
  by_cases e:y=x
  ·subst e;have:=z6k (p:=fun z=>decide (z=y)) hy (by simp) hj;simp [-getElem?_pos,v0,v1,v7,v8,hy',h,this]
  ·simp [-getElem?_pos,v0,v1,v7,v8,hy',h,hw,yqm (fun e'=>e e'.symm)];exact zaj (n-1) (by omega) ⟨i+1,by omega,zkr (P:=fun _ y=>decide (y=x)=false) hj hy (by simpa using e),by simp [v0,v1,v7]⟩
 ·simp at h;have:=z6n (p:=fun z=>decide (z=x)) (l:=l) fun j y h1 h2=>hj j y (by omega) h2;simp [-getElem?_pos,this]
theorem y4a (l:List ByteArray) (x:ByteArray) (hl:l.length<=9223372036854775807):RUN T zq8 [.sl 1 (za4 l),.v (.string x)]=some ([bv (zge l x)],[]):=by
 refine zae rfl rfl ?_;have h:=y39 l x hl;have e:=z61 (p:=fun y=>decide (y=x)) (l:=l);have e2:zge l x=l.any fun y=>decide (y=x):=rfl;rw [e2,<- e];simp [-getElem?_pos,z05,zy0,h]
def nmB (L:List ByteArray) (i:Nat):Bool:=match L[i]? with
 | none=>true
 | some x=>zd4 x && !zge (L.take i) x
def zgj (L:List ByteArray):Bool:=(List.range L.length).all (nmB L)
theorem zx6 {L:List ByteArray} {i:Nat} {x:ByteArray} (h:L[i]?=some x):nmB L i=(zd4 x && !zge (L.take i) x):=by simp [nmB,h]
theorem y4b (L:List ByteArray) (hl:L.length<=9223372036854775807) (hs : ∀ x∈L,x.size<=9223372036854775807):RUN T zql [.sl 1 (za4 L)]=some ([bv (zgj L)],[]):=by
 refine zae rfl rfl ?_;simp [-getElem?_pos,zzs,zn6];refine zaq (fun n st => ∃ i:Nat,i+n=L.length/\(∀ j,j<i->nmB L j=true)/\st.V 0 = .sl 1 (za4 L)/\st.V 5 = .sl 1 (za4 L)/\st.V 6=iv L.length/\st.V 7=iv i) ?_ L.length _ ⟨0,by simp⟩;rintro n st ⟨i,hi,hj,v0,v5,v6,v7⟩;simp [yc9,v6,v7];refine za9 (fun h => ?_) (fun h => ?_)
 ·simp at h;obtain ⟨x,hx⟩ : ∃ x,L[i]?=some x:=⟨_,bG h⟩;have hx':=zue hx;have hw:=wS h hl;have hN:=y38 x (hs x (bF hx));have hC:=y4a (L.take i) x (by simp; omega);have hc:=zx6 hx;have hil:i<=L.length:=by omega
  cases a1:zd4 x with
  | false =>
   rw [a1] at hN hc;have no:zgj L=false:=zg1 h (by rw [hc]; rfl);simp [-getElem?_pos,v0,v5,v6,v7,hx',h,hw,hN,no]
  | true =>
   rw [a1] at hN hc;cases a2:zge (L.take i) x with
   | true =>
    rw [a2] at hC hc;have no:zgj L=false:=zg1 h (by rw [hc]; rfl);simp [-getElem?_pos,v0,v5,v6,v7,hx',h,hw,hN,hC,hil,z60,no]
   | false =>
    rw [a2] at hC hc;simp [-getElem?_pos,v0,v5,v6,v7,hx',h,hw,hN,hC,hil,z60];exact zaj (n-1) (by omega) ⟨i+1,by omega,zh8 hj (by rw [hc]; rfl),by simp [v0,v5,v6]⟩
 ·simp at h;have:zgj L=true:=zo1 fun j hj'=>hj j (by omega);simp [this]
def zpn (row:List Int):List (List Nd)->Int->Int
 | [],a=>a
 | t::ts,a=>zpn row ts (IntKind.i64.wrap (a+evt t row))
def qdj (p:Nat->Bool) (i:Nat):List Int:=((List.range i).filter p).map fun (j:Nat)=>(j:Int)
@[simp] theorem qql (p:Nat->Bool):qdj p 0=[]:=rfl
theorem zjp (x:Int):IntKind.u64.wrap x=x % 18446744073709551616:=IntKind.wrap_u64 x
theorem yq0 (a b:Int):zbb .mul (.int .u64 a) (.int .u64 b)=some (.int .u64 (a*b % 18446744073709551616)):=by rw [ya4,zjp]
theorem ylw (a b:Int):zbb .add (.int .u64 a) (.int .u64 b)=some (.int .u64 ((a+b) % 18446744073709551616)):=by rw [ybj,zjp]
theorem yk6 (x:Int):zbb .shr (.int .u64 x) (.int .u64 32)=some (.int .u64 (x / 4294967296)):=by
 rw [yco,if_pos (by decide)];have:(2:Int) ^ min (32:Int).toNat IntKind.u64.bits=4294967296:=by decide
 rw [this,Int.fdiv_eq_ediv_of_nonneg _ (by decide)]
theorem y7x (x:Int):zbb .shl (.int .u64 x) (.int .u64 32)=some (.int .u64 (x*4294967296 % 18446744073709551616)):=by
 rw [yoz,if_pos (by decide),zjp];have:(2:Int) ^ min (32:Int).toNat IntKind.u64.bits=4294967296:=by decide
 rw [this]
theorem zpr {x:Int} (h0:0<=x) (h1:x<18446744073709551616):zbb .and (.int .u64 x) (.int .u64 4294967295)=some (.int .u64 (x % 4294967296)):=by
 rw [yag,zjp];have e:((BitVec.ofInt IntKind.u64.bits x &&& BitVec.ofInt IntKind.u64.bits 4294967295).toNat:Int)=x % 4294967296:=by
  obtain ⟨n,rfl⟩:=Int.eq_ofNat_of_zero_le h0;have hn:n<2 ^ 64:=by omega
  have e2:(BitVec.ofInt 64 (n:Int) &&& BitVec.ofInt 64 4294967295).toNat=n % 4294967296:=by
   rw [BitVec.toNat_and];have e3:(BitVec.ofInt 64 (n:Int)).toNat=n:=by
    rw [BitVec.ofInt_natCast,BitVec.toNat_ofNat,Nat.mod_eq_of_lt hn]
   have e4:(BitVec.ofInt 64 4294967295).toNat=2 ^ 32-1:=by decide
   rw [e3,e4,Nat.and_two_pow_sub_one_eq_mod]
  show (((BitVec.ofInt 64 (n:Int) &&& BitVec.ofInt 64 4294967295).toNat:Nat):Int)=_;rw [e2]; omega
 rw [e]; congr 2; omega
theorem parts {x y:Int} (hx:0<=x) (hx1:x<18446744073709551616) (hy:0<=y) (hy1:y<18446744073709551616) :
  ∃ a b c d:Int,a=x % 4294967296*(y % 4294967296)/\b=x / 4294967296*(y % 4294967296)/\c=x % 4294967296*(y / 4294967296)/\d=x / 4294967296*(y / 4294967296)/\0<=a/\a<=18446744065119617025/\0<=b/\b<=18446744065119617025/\0<=c/\c<=18446744065119617025/\0<=d/\d<=18446744065119617025/\x*y=d*18446744073709551616+(b+c)*4294967296+a:=by
 have bd : ∀ u v:Int,0<=u->u<=4294967295->0<=v->v<=4294967295->0<=u*v/\u*v<=18446744065119617025:=fun u v h1 h2 h3 h4 =>
  ⟨Int.mul_nonneg h1 h3,Int.le_trans (Int.mul_le_mul h2 h4 h3 (by decide)) (by decide)⟩
 have x0:0<=x % 4294967296/\x % 4294967296<=4294967295:=by omega
 have x1:0<=x / 4294967296/\x / 4294967296<=4294967295:=by omega
 have y0:0<=y % 4294967296/\y % 4294967296<=4294967295:=by omega
 have y1:0<=y / 4294967296/\y / 4294967296<=4294967295:=by omega
 refine ⟨_,_,_,_,rfl,rfl,rfl,rfl,(bd _ _ x0.1 x0.2 y0.1 y0.2).1,(bd _ _ x0.1 x0.2 y0.1 y0.2).2,(bd _ _ x1.1 x1.2 y0.1 y0.2).1,(bd _ _ x1.1 x1.2 y0.1 y0.2).2,(bd _ _ x0.1 x0.2 y1.1 y1.2).1,(bd _ _ x0.1 x0.2 y1.1 y1.2).2,(bd _ _ x1.1 x1.2 y1.1 y1.2).1,(bd _ _ x1.1 x1.2 y1.1 y1.2).2,?_⟩;have ex:x=x / 4294967296*4294967296+x % 4294967296:=by omega
 have ey:y=y / 4294967296*4294967296+y % 4294967296:=by omega
 generalize x / 4294967296=p at *;generalize x % 4294967296=q at *;generalize y / 4294967296=r at *;generalize y % 4294967296=s at *;rw [ex,ey,Int.add_mul,Int.mul_add,Int.mul_add];have e1:p*4294967296*(r*4294967296)=p*r*18446744073709551616:=by
  rw [show (18446744073709551616:Int)=4294967296*4294967296 by decide,Int.mul_assoc,Int.mul_comm 4294967296 (r*4294967296),Int.mul_assoc r,<- Int.mul_assoc p r]
 have e2:p*4294967296*s=p*s*4294967296:=by rw [Int.mul_assoc,Int.mul_comm 4294967296 s,<- Int.mul_assoc]
 have e3:q*(r*4294967296)=q*r*4294967296:=by rw [<- Int.mul_assoc]
 rw [e1,e2,e3,Int.add_mul];omega
theorem z89 (x y:Int) (hx:0<=x) (hx1:x<18446744073709551616) (hy:0<=y) (hy1:y<18446744073709551616):RUN T zl0 [.v (.int .u64 x),.v (.int .u64 y)]=some ([.v (.int .u64 (x*y / 18446744073709551616)),.v (.int .u64 (x*y % 18446744073709551616))],[]):=by
 refine zae rfl rfl ?_;obtain ⟨a,b,c,d,ea,eb,ec,ed,a0,a1,b0,b1,c0,c1,d0,d1,hp⟩:=parts hx hx1 hy hy1;have f1:=zpr hx hx1;have f2:=zpr hy hy1;have g1:a % 18446744073709551616=a:=by omega
 have g2:b % 18446744073709551616=b:=by omega
 have g3:c % 18446744073709551616=c:=by omega
 have g4:d % 18446744073709551616=d:=by omega
 have g5:(b+a / 4294967296) % 18446744073709551616=b+a / 4294967296:=by omega
 have f3:=zpr (x:=b+a / 4294967296) (by omega) (by omega);simp [-ya4,-ybj,-yag,-yco,yq0,ylw,yk6,f1,f2,f3,z5t,zkc,<- ea,<- eb,<- ec,<- ed,g1,g2,g3,g4,g5];omega
theorem z9a (x y:Int) (hx:0<=x) (hx1:x<18446744073709551616) (hy:0<=y) (hy1:y<18446744073709551616):RUN T zl2 [.v (.int .u64 x),.v (.int .u64 y)]=some ([.v (.int .u64 (x*y / 18446744073709551616)),.v (.int .u64 (x*y % 18446744073709551616))],[]):=by
 refine zae rfl rfl ?_;obtain ⟨a,b,c,d,ea,eb,ec,ed,a0,a1,b0,b1,c0,c1,d0,d1,hp⟩:=parts hx hx1 hy hy1;have f1:=zpr hx hx1;have f2:=zpr hy hy1;have g1:a % 18446744073709551616=a:=by omega
 have g2:b % 18446744073709551616=b:=by omega
 have g3:c % 18446744073709551616=c:=by omega
 have g4:d % 18446744073709551616=d:=by omega
 have g5:(b+a / 4294967296) % 18446744073709551616=b+a / 4294967296:=by omega
 have f3:=zpr (x:=b+a / 4294967296) (by omega) (by omega);have f4:=zpr (x:=a) (by omega) (by omega);simp [-ya4,-ybj,-yag,-yco,-yoz,yq0,ylw,yk6,y7x,f1,f2,f3,f4,z5z,zkc,<- ea,<- eb,<- ec,<- ed,g1,g2,g3,g4,g5];omega
structure Wd where
 n:Bool
 h:Int
 l:Int
deriving DecidableEq
abbrev uv (x:Int):PV := .v (.int .u64 x)
def wd (w:Wd):List PV:=[bv w.n,uv w.h,uv w.l]
def wfU (w:Wd):Prop:=0<=w.h/\w.h<18446744073709551616/\0<=w.l/\w.l<18446744073709551616
def wok (w:Wd):Bool:=decide (w.h<9223372036854775808) && (!w.n || decide (0<w.h) || decide (0<w.l))
def mag (w:Wd):Int:=w.h*18446744073709551616+w.l
def mkW (n:Bool) (m:Int):Wd:=⟨n && decide (0<m),m / 18446744073709551616,m % 18446744073709551616⟩
def za8:Wd:=⟨false,0,0⟩
theorem yc0 {n:Bool} {m:Int} (h0:0<=m) (h1:m<340282366920938463463374607431768211456):wfU (mkW n m):=by
 unfold wfU mkW; simp only; omega
theorem z9z {n:Bool} {m:Int} (h0:0<=m):wok (mkW n m)=decide (m<170141183460469231731687303715884105728):=by
 unfold wok mkW;simp only
 by_cases h:m<170141183460469231731687303715884105728
 ·have e:m / 18446744073709551616<9223372036854775808:=by omega
  rw [decide_eq_true h,decide_eq_true e]
  by_cases hz:0<m
  ·by_cases h2:0<m / 18446744073709551616
   ·simp [h2]
   ·have:0<m % 18446744073709551616:=by omega
    simp [this]
  ·simp [hz]
 ·have e : ¬ m / 18446744073709551616<9223372036854775808:=by omega
  rw [decide_eq_false h,decide_eq_false e]; rfl
theorem z9b (n:Int) (h:inI n):RUN T zlz [iv n]=some ([uv n.natAbs],[]):=by
 refine zae rfl rfl ?_;obtain ⟨h0,h1⟩:=h;simp [z5r,zn6];refine za9 (fun h => ?_) (fun h => ?_) <;> simp at h <;> simp [zjp] <;> omega
theorem z9c (n:Int) (h:inI n):RUN T zl1 [iv n]=some ([uv n.natAbs],[]):=by
 refine zae rfl rfl ?_;obtain ⟨h0,h1⟩:=h;have e1:n<0->IntKind.i64.wrap (n+1)=n+1:=fun h=>w64 (by omega) (by omega);have e2:n<0->IntKind.i64.wrap (0-(n+1))=0-(n+1):=fun h=>w64 (by omega) (by omega);simp [z5x,zn6];refine za9 (fun h => ?_) (fun h => ?_) <;> simp at h
 ·have e1:=e1 h;have e2:=e2 h;simp at e2;simp [e1,e2,zjp]; omega
 ·simp [zjp]; omega
theorem zxg (n:Bool) (h l:Int):RUN T zhe [bv n,uv h,uv l]=some ([.agg (wd ⟨n && (decide (0<h) || decide (0<l)),h,l⟩)],[]):=by
 refine zae rfl rfl ?_;cases n with
 | false=>simp [ztz,zt0,wd]
 | true =>
  by_cases h1:0<h
  ·simp [ztz,zt0,wd,h1]
  ·simp [ztz,zt0,wd,h1]
theorem zt4 (w:Wd):RUN T zh0 [.agg (wd w)]=some ([bv (wok w)],[]):=by
 refine zae rfl rfl ?_;obtain ⟨n,h,l⟩:=w;unfold wok
 by_cases h1:h<9223372036854775808
 ·cases n with
  | false=>simp [zoq,zn6,wd,h1]
  | true =>
   by_cases h2:0<h
   ·simp [zoq,zn6,wd,h1,h2]
   ·simp [zoq,zn6,wd,h1,h2]
 ·simp [zoq,zn6,wd,h1]
theorem zt5 (w:Wd):RUN T zh1 [.agg (wd w)]=some ([bv (wok w)],[]):=by
 refine zae rfl rfl ?_;obtain ⟨n,h,l⟩:=w;unfold wok
 by_cases h1:h<9223372036854775808
 ·cases n with
  | false=>simp [zos,zn6,wd,h1]
  | true =>
   by_cases h2:0<h
   ·simp [zos,zn6,wd,h1,h2]
   ·simp [zos,zn6,wd,h1,h2]
 ·simp [zos,zn6,wd,h1]
theorem zxh (w:Wd):RUN T zj1 [.agg (wd w)]=some ([bv (decide (w.h=0) && decide (w.l=0))],[]):=by
 refine zae rfl rfl ?_
 by_cases h1:w.h=0
 ·simp [zw9,zn6,wd,h1]
 ·simp [zw9,zn6,wd,h1]
def zcr (a b:Int):Int:=if a<b then -1 else if b<a then 1 else 0
theorem yjf (x:Int):RUN T zn4 [uv x]=some ([bv false],[]):=by
 refine zae rfl rfl ?_;simp [z52,zn6]
theorem yjg (x y:Int):RUN T zn3 [uv x,uv y]=some ([iv (zcr x y)],[]):=by
 refine zae rfl rfl ?_;have e1:=yjf x;have e2:=yjf y;unfold zcr
 by_cases h1:x<y
 ·simp [zt1,zy0,e1,e2,h1]
 ·by_cases h2:y<x
  ·simp [zt1,zy0,e1,e2,h1,h2]
  ·simp [zt1,zy0,e1,e2,h1,h2]
theorem yjh (x y:Int):RUN T znw [.sl 1 [[iv x],[iv y]]]=some ([iv (if x=0 then y else x)],[]):=by
 refine zae rfl rfl ?_;simp [z42,zn6];refine zaq (fun n st => ∃ i:Nat,i+n=2/\(1<=i->x=0)/\(2<=i->y=0)/\st.V 3=iv 0/\st.V 6 = .sl 1 [[iv x],[iv y]]/\st.V 7=iv 2/\st.V 8=iv i) ?_ 2 _ ⟨0,by simp⟩;rintro n st ⟨i,hi,hx,hy,v3,v6,v7,v8⟩;simp [yds,v7,v8];have h3:i=0\/i=1\/i=2:=by omega
 rcases h3 with rfl | rfl | rfl
 ·have hw:IntKind.i64.wrap 1=1:=w64 (by omega) (by omega)
  by_cases h:x=0
  ·simp [v3,v6,v7,v8,h,hw];exact zaj (n-1) (by omega) ⟨1,by omega,fun _=>h,by simp [v3,v6,h,v7]⟩
  ·simp [v3,v6,v7,v8,h]
 ·have hx:=hx (by omega);have hw:IntKind.i64.wrap 2=2:=w64 (by omega) (by omega)
  by_cases h:y=0
  ·simp [v3,v6,v7,v8,h,hx,hw];exact zaj (n-1) (by omega) ⟨2,by omega,fun _=>hx,fun _=>h,by simp [v3,v6,h,hx,v7]⟩
  ·simp [v3,v6,v7,v8,h,hx]
 ·have hx:=hx (by omega);have hy:=hy (by omega);simp [v3,hx,hy]
def ze4 (a b:Wd):Int:=if zcr a.h b.h=0 then zcr a.l b.l else zcr a.h b.h
theorem ysc {a b:Wd} (ha:wfU a) (hb:wfU b):ze4 a b=zcr (mag a) (mag b):=by
 obtain ⟨_,_,_,_⟩:=ha;obtain ⟨_,_,_,_⟩:=hb;unfold ze4 zcr mag;split <;> split <;> split <;> (try split) <;> (try split) <;> omega
theorem z9d (a b:Wd):RUN T zlw [.agg (wd a),.agg (wd b)]=some ([iv (ze4 a b)],[]):=by
 refine zae rfl rfl ?_;have e1:=yjg a.h b.h;have e2:=yjg a.l b.l;have e3:=yjh (zcr a.h b.h) (zcr a.l b.l);simp [z5j,zy0,wd,e1,e2,e3,ze4]
theorem z9e (a b:Wd):RUN T zlx [.agg (wd a),.agg (wd b)]=some ([iv (ze4 a b)],[]):=by
 refine zae rfl rfl ?_;unfold ze4 zcr
 by_cases h1:a.h<b.h
 ·simp [zl8,zy0,wd,h1]
 ·by_cases h2:b.h<a.h
  ·have h3 : ¬ a.h=b.h:=by omega
   simp [zl8,zy0,wd,h1,h2,h3]
  ·have h3:a.h=b.h:=by omega
   by_cases h4:a.l<b.l
   ·simp [zl8,zy0,wd,h3,h4]
   ·by_cases h5:b.l<a.l
    ·simp [zl8,zy0,wd,h3,h4,h5]
    ·simp [zl8,zy0,wd,h3,h4,h5]
def zet (a b:Int):Wd:=mkW (decide (a<0) != decide (b<0)) ((a.natAbs:Int)*b.natAbs)
theorem zko {a:Int} (h:inI a):0<=(a.natAbs:Int)/\(a.natAbs:Int)<=9223372036854775808:=by
 obtain ⟨h0,h1⟩:=h; omega
theorem yr7 {a b:Int} (ha:inI a) (hb:inI b):0<=(a.natAbs:Int)*b.natAbs/\(a.natAbs:Int)*b.natAbs<=85070591730234615865843651857942052864:=by
 obtain ⟨a0,a1⟩:=zko ha;obtain ⟨b0,b1⟩:=zko hb;exact ⟨Int.mul_nonneg a0 b0,Int.le_trans (Int.mul_le_mul a1 b1 b0 (by decide)) (by decide)⟩
theorem y4c (a b:Int) (ha:inI a) (hb:inI b):RUN T zsw [iv a,iv b]=some ([.agg (wd (zet a b))],[]):=by
 refine zae rfl rfl ?_;obtain ⟨a0,a1⟩:=zko ha;obtain ⟨b0,b1⟩:=zko hb;have e1:=z9b a ha;have e2:=z9b b hb;have e3:=z89 a.natAbs b.natAbs a0 (by omega) b0 (by omega);have e4:=zxg (decide (a<0) != decide (b<0)) ((a.natAbs:Int)*b.natAbs / 18446744073709551616) ((a.natAbs:Int)*b.natAbs % 18446744073709551616);obtain ⟨m0,m1⟩:=yr7 ha hb;have e5:(⟨(decide (a<0) != decide (b<0)) && (decide (0<(a.natAbs:Int)*b.natAbs / 18446744073709551616) || decide (0<(a.natAbs:Int)*b.natAbs % 18446744073709551616)),(a.natAbs:Int)*b.natAbs / 18446744073709551616,(a.natAbs:Int)*b.natAbs % 18446744073709551616⟩:Wd)=zet a b:=by
  unfold zet mkW
  congr 2
  generalize (a.natAbs:Int)*b.natAbs=m at *;rw [Bool.eq_iff_iff]; simp; omega
 rw [e5] at e4;generalize zet a b=w at *;obtain ⟨wn,wh,wl⟩:=w;simp only [wd] at e4 ⊢
 by_cases sa:a<0 <;> by_cases sb:b<0 <;> simp [sa,sb] at e4 <;> simp [z5p,z5q,e1,e2,e3,sa,sb,e4]
theorem y4d (a b:Int) (ha:inI a) (hb:inI b):RUN T zsx [iv a,iv b]=some ([.agg (wd (zet a b))],[]):=by
 refine zae rfl rfl ?_;obtain ⟨a0,a1⟩:=zko ha;obtain ⟨b0,b1⟩:=zko hb;have e1:=z9c a ha;have e2:=z9c b hb;have e3:=z9a a.natAbs b.natAbs a0 (by omega) b0 (by omega);have hpos:(0<(a.natAbs:Int)*b.natAbs)↔(a≠0/\b≠0):=by
  constructor
  ·intro h;refine ⟨?_,?_⟩ <;> rintro rfl <;> simp at h
  ·rintro ⟨h1,h2⟩;exact Int.mul_pos (by omega) (by omega)
 have e5:zet a b=⟨((decide (a<0) != decide (b<0)) && !decide (a=0)) && !decide (b=0),(a.natAbs:Int)*b.natAbs / 18446744073709551616,(a.natAbs:Int)*b.natAbs % 18446744073709551616⟩:=by
  unfold zet mkW
  congr 1
  rw [Bool.eq_iff_iff]; simp [hpos,and_assoc]
 rw [e5]
 by_cases sa:a<0 <;> by_cases sb:b<0 <;> rcases Classical.propComplete (a=0) with h0 | h0 <;> simp [z5v,z5q,e1,e2,e3,sa,sb,wd,h0]
def ze8 (w:Wd):Int:=if w.n then -mag w else mag w
def zcp (a b:Wd):Wd×Bool :=
 if wok a && wok b then
  if ((ze8 a+ze8 b).natAbs:Int)<170141183460469231731687303715884105728 then (mkW (decide (ze8 a+ze8 b<0)) (ze8 a+ze8 b).natAbs,true) else (za8,false)
 else (za8,false)
theorem y8k (a b:Wd):wfU (zcp a b).1:=by
 unfold zcp;split
 ·split
  ·exact yc0 (by omega) (by omega)
  ·exact ⟨by decide,by decide,by decide,by decide⟩
 ·exact ⟨by decide,by decide,by decide,by decide⟩
theorem zmf {w:Wd} (h:wfU w) (hk:wok w=true):0<=mag w/\mag w<170141183460469231731687303715884105728/\(w.n=true->0<mag w):=by
 obtain ⟨h0,h1,h2,h3⟩:=h;unfold wok at hk;simp only [Bool.and_eq_true,Bool.or_eq_true,Bool.not_eq_true',decide_eq_true_eq] at hk;unfold mag;obtain ⟨k1,k2⟩:=hk;refine ⟨by omega,by omega,fun hn => ?_⟩;rw [hn] at k2;rcases k2 with (k2 | k2) | k2
 ·cases k2
 ·omega
 ·omega
theorem y6p (a b:Wd) (ha:wfU a) (hb:wfU b) (h:mag a+mag b<340282366920938463463374607431768211456) : ∃ c d:Int,
  RUN T zj2 [uv a.l,uv b.l,uv 0]=some ([uv ((mag a+mag b) % 18446744073709551616),uv c],[])/\RUN T zj2 [uv a.h,uv b.h,uv c]=some ([uv ((mag a+mag b) / 18446744073709551616),uv d],[]):=by
 obtain ⟨a0,a1,a2,a3⟩:=ha;obtain ⟨b0,b1,b2,b3⟩:=hb;have e1:=ycu z81 (x:=a.l) (y:=b.l) (c:=0) a2 b2 (by decide) (by decide);have e2:=ycu z81 (x:=a.h) (y:=b.h) (c:=(a.l+b.l+0) / 18446744073709551616) a0 b0 (by omega) (by omega);have f1:(a.l+b.l+0) % 18446744073709551616=(mag a+mag b) % 18446744073709551616:=by unfold mag; omega
 have f2:(a.h+b.h+(a.l+b.l+0) / 18446744073709551616) % 18446744073709551616=(mag a+mag b) / 18446744073709551616:=by unfold mag at *; omega
 rw [f1] at e1;rw [f2] at e2;exact ⟨_,_,e1,e2⟩
theorem ylp (a b:Wd) (ha:wfU a) (hb:wfU b) (h:mag b<=mag a) : ∃ c d:Int,
  RUN T zly [uv a.l,uv b.l,uv 0]=some ([uv ((mag a-mag b) % 18446744073709551616),uv c],[])/\RUN T zly [uv a.h,uv b.h,uv c]=some ([uv ((mag a-mag b) / 18446744073709551616),uv d],[]):=by
 obtain ⟨a0,a1,a2,a3⟩:=ha;obtain ⟨b0,b1,b2,b3⟩:=hb;have e1:=yq1 yit (x:=a.l) (y:=b.l) (c:=0) a2 b2 a3 b3 (by decide) (by decide);have e2:=yq1 yit (x:=a.h) (y:=b.h) (c:=if a.l<b.l+0 then 1 else 0) a0 b0 a1 b1 (by split <;> omega) (by split <;> omega);have f1:(a.l-b.l-0) % 18446744073709551616=(mag a-mag b) % 18446744073709551616:=by unfold mag; omega
 have f2:(a.h-b.h-(if a.l<b.l+0 then 1 else 0)) % 18446744073709551616=(mag a-mag b) / 18446744073709551616:=by
  unfold mag at *;split <;> omega
 rw [f1] at e1;rw [f2] at e2;exact ⟨_,_,e1,e2⟩
theorem yc1 {n:Bool} {m:Int} (h:0<=m):RUN T zhe [bv n,uv (m / 18446744073709551616),uv (m % 18446744073709551616)]=some ([.agg (wd (mkW n m))],[]):=by
 rw [zxg];have:(⟨n && (decide (0<m / 18446744073709551616) || decide (0<m % 18446744073709551616)),m / 18446744073709551616,m % 18446744073709551616⟩:Wd)=mkW n m:=by
  unfold mkW
  congr 2
  rw [Bool.eq_iff_iff]; simp; omega
 rw [this]
theorem y4e (a b:Wd) (ha:wfU a) (hb:wfU b):RUN T zst [.agg (wd a),.agg (wd b)]=some ([.agg (wd (zcp a b).1),bv (zcp a b).2],[]):=by
 refine zae rfl rfl ?_;have ea:=zt4 a;have eb:=zt4 b;cases ka:wok a with
 | false =>
  have es:zcp a b=(za8,false):=by unfold zcp; simp [ka]
  rw [es]; rw [ka] at ea;simp only [wd] at ea;simp [zkh,zki,wd,ea,za8]
 | true =>
  cases kb:wok b with
  | false =>
   have es:zcp a b=(za8,false):=by unfold zcp; simp [kb]
   rw [es]; rw [ka] at ea; rw [kb] at eb;simp only [wd] at ea eb;simp [zkh,zki,wd,ea,eb,za8]
  | true =>
   obtain ⟨ma0,ma1,ma2⟩:=zmf ha ka;obtain ⟨mb0,mb1,mb2⟩:=zmf hb kb;rw [ka] at ea; rw [kb] at eb
   by_cases hn:a.n=b.n
   ·obtain ⟨c,d,f1,f2⟩:=y6p a b ha hb (by omega);have f3:=yc1 (n:=a.n) (m:=mag a+mag b) (by omega);have f4:=zt4 (mkW a.n (mag a+mag b));rw [z9z (by omega)] at f4;have es:zcp a b=if mag a+mag b<170141183460469231731687303715884105728 then (mkW a.n (mag a+mag b),true) else (za8,false):=by
     unfold zcp ze8;rw [ka,kb,<- hn];simp only [Bool.and_self,if_true];cases h:a.n with
     | true =>
      have e1:(-mag a + -mag b).natAbs=mag a+mag b:=by omega
      have e2 : -mag a + -mag b<0:=by have:=ma2 h; omega
      simp only [if_true,e1,decide_eq_true e2]
     | false =>
      have e1:((mag a+mag b).natAbs:Int)=mag a+mag b:=by omega
      have e2 : ¬ mag a+mag b<0:=by omega
      simp only [Bool.false_eq_true,if_false,e1,decide_eq_false e2]
    rw [es];generalize hm:mag a+mag b=m at *;generalize mkW a.n m=w at *;generalize m / 18446744073709551616=hi at *;generalize m % 18446744073709551616=lo at *;simp only [wd] at ea eb f3 f4 ⊢;rw [hn] at ea f3
    by_cases hk:m<170141183460469231731687303715884105728
    ·rw [decide_eq_true hk] at f4;rw [if_pos hk];simp [zkh,zki,ea,eb,hn,f1,f2,f3,f4]
    ·rw [decide_eq_false hk] at f4;rw [if_neg hk];simp [zkh,zki,ea,eb,hn,f1,f2,f3,f4,za8]
   ·have ho:=z9d a b;rw [ysc ha hb] at ho;have es:zcp a b=(mkW (if mag a<mag b then b.n else a.n) (if mag a<mag b then mag b-mag a else mag a-mag b),true):=by
     have gen : ∀ (n:Bool) (m:Int),((ze8 a+ze8 b).natAbs:Int)=m->m<170141183460469231731687303715884105728->(decide (ze8 a+ze8 b<0) && decide (0<m))=(n && decide (0<m))->zcp a b=(mkW n m,true):=by
      intro n m h1 h2 h3;unfold zcp;rw [ka,kb,h1];simp only [Bool.and_self,if_true,if_pos h2];unfold mkW;rw [h3]
     unfold ze8 at gen;cases h:a.n <;> cases h':b.n <;> simp only [h,h'] at gen hn ⊢
     ·exact (hn trivial).elim
     ·by_cases hl:mag a<mag b
      ·rw [if_pos hl,if_pos hl];exact gen _ _ (by simp; omega) (by omega) (by rw [Bool.eq_iff_iff]; simp; omega)
      ·rw [if_neg hl,if_neg hl];exact gen _ _ (by simp; omega) (by omega) (by rw [Bool.eq_iff_iff]; simp; omega)
     ·by_cases hl:mag a<mag b
      ·rw [if_pos hl,if_pos hl];exact gen _ _ (by simp; omega) (by omega) (by rw [Bool.eq_iff_iff]; simp; omega)
      ·rw [if_neg hl,if_neg hl];exact gen _ _ (by simp; omega) (by omega) (by rw [Bool.eq_iff_iff]; simp; omega)
     ·exact (hn trivial).elim
    rw [es];have hnb:(a.n == b.n)=false:=by cases h:a.n <;> cases h':b.n <;> simp [h,h'] at hn ⊢
    by_cases hl:mag a<mag b
    ·obtain ⟨c,d,f1,f2⟩:=ylp b a hb ha (by omega);have f3:=yc1 (n:=b.n) (m:=mag b-mag a) (by omega);have hs:zcr (mag a) (mag b) = -1:=by unfold zcr; rw [if_pos hl]
     rw [hs] at ho;rw [if_pos hl,if_pos hl];generalize mag b-mag a=m at *;generalize mkW b.n m=w at *;generalize m / 18446744073709551616=hi at *;generalize m % 18446744073709551616=lo at *;simp only [wd] at ea eb f3 ho ⊢;simp [zkh,zki,ea,eb,hnb,ho,f1,f2,f3]
    ·obtain ⟨c,d,f1,f2⟩:=ylp a b ha hb (by omega);have f3:=yc1 (n:=a.n) (m:=mag a-mag b) (by omega);have hs : ¬ zcr (mag a) (mag b)<0:=by unfold zcr; rw [if_neg hl]; split <;> omega
     rw [if_neg hl,if_neg hl];generalize mag a-mag b=m at *;generalize mkW a.n m=w at *;generalize m / 18446744073709551616=hi at *;generalize m % 18446744073709551616=lo at *;generalize zcr (mag a) (mag b)=sg at *;simp only [wd] at ea eb f3 ho ⊢;simp [zkh,zki,ea,eb,hnb,ho,hs,f1,f2,f3]
theorem qdk {a b:Wd} (ha:wfU a) (hb:wfU b) (ka:wok a=true) (kb:wok b=true) (hn:a.n=b.n):zcp a b=if mag a+mag b<170141183460469231731687303715884105728 then (mkW a.n (mag a+mag b),true) else (za8,false):=by
 obtain ⟨ma0,ma1,ma2⟩:=zmf ha ka;obtain ⟨mb0,mb1,mb2⟩:=zmf hb kb;unfold zcp ze8;rw [ka,kb,<- hn];simp only [Bool.and_self,if_true];cases h:a.n with
 | true =>
  have e1:(-mag a + -mag b).natAbs=mag a+mag b:=by omega
  have e2 : -mag a + -mag b<0:=by have:=ma2 h; omega
  simp only [if_true,e1,decide_eq_true e2]
 | false =>
  have e1:((mag a+mag b).natAbs:Int)=mag a+mag b:=by omega
  have e2 : ¬ mag a+mag b<0:=by omega
  simp only [Bool.false_eq_true,if_false,e1,decide_eq_false e2]
theorem y8z {a b:Wd} (ha:wfU a) (hb:wfU b) (ka:wok a=true) (kb:wok b=true) (hn : ¬ a.n=b.n):zcp a b=(mkW (if mag a<mag b then b.n else a.n) (if mag a<mag b then mag b-mag a else mag a-mag b),true):=by
 obtain ⟨ma0,ma1,ma2⟩:=zmf ha ka;obtain ⟨mb0,mb1,mb2⟩:=zmf hb kb;have gen : ∀ (n:Bool) (m:Int),((ze8 a+ze8 b).natAbs:Int)=m->m<170141183460469231731687303715884105728->(decide (ze8 a+ze8 b<0) && decide (0<m))=(n && decide (0<m))->zcp a b=(mkW n m,true):=by
  intro n m h1 h2 h3;unfold zcp;rw [ka,kb,h1];simp only [Bool.and_self,if_true,if_pos h2];unfold mkW;rw [h3]
 unfold ze8 at gen;cases h:a.n <;> cases h':b.n <;> simp only [h,h'] at gen hn ⊢
 ·exact (hn trivial).elim
 ·by_cases hl:mag a<mag b
  ·rw [if_pos hl,if_pos hl];exact gen _ _ (by simp; omega) (by omega) (by rw [Bool.eq_iff_iff]; simp; omega)
  ·rw [if_neg hl,if_neg hl];exact gen _ _ (by simp; omega) (by omega) (by rw [Bool.eq_iff_iff]; simp; omega)
 ·by_cases hl:mag a<mag b
  ·rw [if_pos hl,if_pos hl];exact gen _ _ (by simp; omega) (by omega) (by rw [Bool.eq_iff_iff]; simp; omega)
  ·rw [if_neg hl,if_neg hl];exact gen _ _ (by simp; omega) (by omega) (by rw [Bool.eq_iff_iff]; simp; omega)
 ·exact (hn trivial).elim
theorem qd6 (a b:Wd) (ha:wfU a) (hb:wfU b) (h:mag a+mag b<340282366920938463463374607431768211456) :
  IntKind.u64.wrap (a.l+b.l)=(mag a+mag b) % 18446744073709551616/\((mag a+mag b) % 18446744073709551616<a.l->IntKind.u64.wrap (IntKind.u64.wrap (a.h+b.h)+1)=(mag a+mag b) / 18446744073709551616)/\(¬ (mag a+mag b) % 18446744073709551616<a.l->IntKind.u64.wrap (a.h+b.h)=(mag a+mag b) / 18446744073709551616):=by
 obtain ⟨a0,a1,a2,a3⟩:=ha;obtain ⟨b0,b1,b2,b3⟩:=hb;unfold mag at *;refine ⟨?_,fun h => ?_,fun h => ?_⟩ <;> simp only [zjp] at * <;> omega
theorem ym8 (a b:Wd) (ha:wfU a) (hb:wfU b) (h:mag b<=mag a) :
  IntKind.u64.wrap (a.l-b.l)=(mag a-mag b) % 18446744073709551616/\(a.l<b.l->IntKind.u64.wrap (IntKind.u64.wrap (a.h-b.h)-1)=(mag a-mag b) / 18446744073709551616)/\(¬ a.l<b.l->IntKind.u64.wrap (a.h-b.h)=(mag a-mag b) / 18446744073709551616):=by
 obtain ⟨a0,a1,a2,a3⟩:=ha;obtain ⟨b0,b1,b2,b3⟩:=hb;unfold mag at *;refine ⟨?_,fun h => ?_,fun h => ?_⟩ <;> simp only [zjp] at * <;> omega
theorem y4f (a b:Wd) (ha:wfU a) (hb:wfU b):RUN T zsv [.agg (wd a),.agg (wd b)]=some ([.agg (wd (zcp a b).1),bv (zcp a b).2],[]):=by
 refine zae rfl rfl ?_;have ea:=zt5 a;have eb:=zt5 b;cases ka:wok a with
 | false =>
  have es:zcp a b=(za8,false):=by unfold zcp; simp [ka]
  rw [es]; rw [ka] at ea;simp only [wd] at ea;simp [zfz,zki,wd,ea,za8]
 | true =>
  cases kb:wok b with
  | false =>
   have es:zcp a b=(za8,false):=by unfold zcp; simp [kb]
   rw [es]; rw [ka] at ea; rw [kb] at eb;simp only [wd] at ea eb;simp [zfz,zki,wd,ea,eb,za8]
  | true =>
   obtain ⟨ma0,ma1,ma2⟩:=zmf ha ka;obtain ⟨mb0,mb1,mb2⟩:=zmf hb kb;rw [ka] at ea; rw [kb] at eb
   by_cases hn:a.n=b.n
   ·obtain ⟨f1,f2,f3⟩:=qd6 a b ha hb (by omega);have f4:=zt5 (mkW a.n (mag a+mag b));rw [z9z (by omega)] at f4;rw [qdk ha hb ka kb hn];have e6:mkW a.n (mag a+mag b)=⟨a.n,(mag a+mag b) / 18446744073709551616,(mag a+mag b) % 18446744073709551616⟩:=by
     unfold mkW
     congr 1
     cases h:a.n with
     | false=>rfl
     | true=>have:=ma2 h; simp; omega
    rw [e6] at f4 ⊢;generalize hm:mag a+mag b=m at *;generalize m / 18446744073709551616=hi at *;generalize m % 18446744073709551616=lo at *;simp only [wd] at ea eb f4 ⊢;rw [hn] at ea f4
    by_cases hc:lo<a.l
    ·have f2:=f2 hc
     by_cases hk:m<170141183460469231731687303715884105728
     ·rw [decide_eq_true hk] at f4;rw [if_pos hk];simp [zfz,zki,ea,eb,hn,hc,f1,f2,f4]
     ·rw [decide_eq_false hk] at f4;rw [if_neg hk];simp [zfz,zki,ea,eb,hn,hc,f1,f2,f4,za8]
    ·have f3:=f3 hc
     by_cases hk:m<170141183460469231731687303715884105728
     ·rw [decide_eq_true hk] at f4;rw [if_pos hk];simp [zfz,zki,ea,eb,hn,hc,f1,f3,f4]
     ·rw [decide_eq_false hk] at f4;rw [if_neg hk];simp [zfz,zki,ea,eb,hn,hc,f1,f3,f4,za8]
   ·have ho:=z9e a b;rw [ysc ha hb] at ho;rw [y8z ha hb ka kb hn];have hnb:(a.n == b.n)=false:=by cases h:a.n <;> cases h':b.n <;> simp [h,h'] at hn ⊢
    by_cases hl:mag a<mag b
    ·obtain ⟨f1,f2,f3⟩:=ym8 b a hb ha (by omega);have hz:=zxh ⟨b.n,(mag b-mag a) / 18446744073709551616,(mag b-mag a) % 18446744073709551616⟩;have hs:zcr (mag a) (mag b) = -1:=by unfold zcr; rw [if_pos hl]
     rw [hs] at ho;rw [if_pos hl,if_pos hl];have e6:mkW b.n (mag b-mag a)=⟨b.n,(mag b-mag a) / 18446744073709551616,(mag b-mag a) % 18446744073709551616⟩:=by
      unfold mkW
      congr 1
      rw [decide_eq_true (show 0<mag b-mag a by omega),Bool.and_true]
     have e7:(decide ((mag b-mag a) / 18446744073709551616=0) && decide ((mag b-mag a) % 18446744073709551616=0))=false:=by
      rw [Bool.eq_false_iff]; simp; omega
     simp only at hz;rw [e7] at hz;rw [e6];clear e6 e7;generalize mag b-mag a=m at *;generalize m / 18446744073709551616=hi at *;generalize m % 18446744073709551616=lo at *;simp only [wd] at ea eb ho hz ⊢
     by_cases hc:b.l<a.l
     ·have f2:=f2 hc;simp [zfz,zki,ea,eb,hnb,ho,hc,f1,f2,hz]
     ·have f3:=f3 hc;simp [zfz,zki,ea,eb,hnb,ho,hc,f1,f3,hz]
    ·obtain ⟨f1,f2,f3⟩:=ym8 a b ha hb (by omega);have hz:=zxh ⟨a.n,(mag a-mag b) / 18446744073709551616,(mag a-mag b) % 18446744073709551616⟩;have hs : ¬ zcr (mag a) (mag b)<0:=by unfold zcr; rw [if_neg hl]; split <;> omega
     rw [if_neg hl,if_neg hl];generalize zcr (mag a) (mag b)=sg at *
     by_cases h0:mag a-mag b=0
     ·have e6:mkW a.n (mag a-mag b)=⟨false,(mag a-mag b) / 18446744073709551616,(mag a-mag b) % 18446744073709551616⟩:=by
       unfold mkW
       congr 1
       simp [h0]
      have e7:(decide ((mag a-mag b) / 18446744073709551616=0) && decide ((mag a-mag b) % 18446744073709551616=0))=true:=by
       simp; omega
      simp only at hz;rw [e7] at hz;rw [e6];clear e6 e7 h0;generalize mag a-mag b=m at *;generalize m / 18446744073709551616=hi at *;generalize m % 18446744073709551616=lo at *;simp only [wd] at ea eb ho hz ⊢
      by_cases hc:a.l<b.l
      ·have f2:=f2 hc;simp [zfz,zki,ea,eb,hnb,ho,hs,hc,f1,f2,hz]
      ·have f3:=f3 hc;simp [zfz,zki,ea,eb,hnb,ho,hs,hc,f1,f3,hz]
     ·have e6:mkW a.n (mag a-mag b)=⟨a.n,(mag a-mag b) / 18446744073709551616,(mag a-mag b) % 18446744073709551616⟩:=by
       unfold mkW
       congr 1
       rw [decide_eq_true (show 0<mag a-mag b by omega),Bool.and_true]
      have e7:(decide ((mag a-mag b) / 18446744073709551616=0) && decide ((mag a-mag b) % 18446744073709551616=0))=false:=by
       rw [Bool.eq_false_iff]; simp; omega
      simp only at hz;rw [e7] at hz;rw [e6];clear e6 e7 h0;generalize mag a-mag b=m at *;generalize m / 18446744073709551616=hi at *;generalize m % 18446744073709551616=lo at *;simp only [wd] at ea eb ho hz ⊢
      by_cases hc:a.l<b.l
      ·have f2:=f2 hc;simp [zfz,zki,ea,eb,hnb,ho,hs,hc,f1,f2,hz]
      ·have f3:=f3 hc;simp [zfz,zki,ea,eb,hnb,ho,hs,hc,f1,f3,hz]
theorem y7q {a b:Int} (ha:inI a) (hb:inI b):wfU (zet a b):=by
 obtain ⟨m0,m1⟩:=yr7 ha hb;exact yc0 m0 (by omega)
def zdk (w:Wd) (k:Int):Wd×Bool:=if wok w=true/\mag w*k.natAbs<170141183460469231731687303715884105728 then (mkW (w.n != decide (k<0)) (mag w*k.natAbs),true) else (za8,false)
theorem ymj (w:Wd) (k:Int) (hw:wfU w) (hk:inI k) : ∃ p q:Int,w.h*k.natAbs=p/\w.l*k.natAbs=q/\0<=p/\0<=q/\q<=170141183460469231722463931679029329920/\mag w*k.natAbs=p*18446744073709551616+q:=by
 obtain ⟨a0,a1,a2,a3⟩:=hw;obtain ⟨k0,k1⟩:=zko hk;refine ⟨_,_,rfl,rfl,Int.mul_nonneg a0 k0,Int.mul_nonneg a2 k0,Int.le_trans (Int.mul_le_mul (show w.l<=18446744073709551615 by omega) k1 k0 (by decide)) (by decide),?_⟩;unfold mag;rw [Int.add_mul,Int.mul_assoc,Int.mul_comm 18446744073709551616,<- Int.mul_assoc]
theorem yoq (w:Wd) (k:Int) (ka:wok w=true) (p q:Int) (p0:0<=p) (q0:0<=q) (q1:q<=170141183460469231722463931679029329920) (hP:mag w*k.natAbs=p*18446744073709551616+q) :
  (zdk w k=(za8,false)/\(0<p / 18446744073709551616\/0<(p % 18446744073709551616+q / 18446744073709551616) / 18446744073709551616\/wok ⟨(w.n != decide (k<0)) && (decide (0<(p % 18446744073709551616+q / 18446744073709551616) % 18446744073709551616) || decide (0<q % 18446744073709551616)),(p % 18446744073709551616+q / 18446744073709551616) % 18446744073709551616,q % 18446744073709551616⟩=false)) \/
  (zdk w k=(⟨(w.n != decide (k<0)) && (decide (0<(p % 18446744073709551616+q / 18446744073709551616) % 18446744073709551616) || decide (0<q % 18446744073709551616)),(p % 18446744073709551616+q / 18446744073709551616) % 18446744073709551616,q % 18446744073709551616⟩,true)/\¬ 0<p / 18446744073709551616/\¬ 0<(p % 18446744073709551616+q / 18446744073709551616) / 18446744073709551616/\wok ⟨(w.n != decide (k<0)) && (decide (0<(p % 18446744073709551616+q / 18446744073709551616) % 18446744073709551616) || decide (0<q % 18446744073709551616)),(p % 18446744073709551616+q / 18446744073709551616) % 18446744073709551616,q % 18446744073709551616⟩=true):=by
 by_cases hk:p*18446744073709551616+q<170141183460469231731687303715884105728
 ·right;have e:(⟨(w.n != decide (k<0)) && (decide (0<(p % 18446744073709551616+q / 18446744073709551616) % 18446744073709551616) || decide (0<q % 18446744073709551616)),(p % 18446744073709551616+q / 18446744073709551616) % 18446744073709551616,q % 18446744073709551616⟩:Wd)=mkW (w.n != decide (k<0)) (p*18446744073709551616+q):=by
   unfold mkW
   congr 1
   ·congr 1
    rw [Bool.eq_iff_iff]; simp; omega
   ·omega
   ·omega
  rw [e,z9z (by omega)];refine ⟨?_,by omega,by omega,decide_eq_true hk⟩;unfold zdk;rw [hP,if_pos ⟨ka,hk⟩]
 ·left;refine ⟨?_,?_⟩
  ·unfold zdk;rw [hP,if_neg (fun h=>hk h.2)]
  ·by_cases h1:0<p / 18446744073709551616
   ·exact .inl h1
   ·by_cases h2:0<(p % 18446744073709551616+q / 18446744073709551616) / 18446744073709551616
    ·exact .inr (.inl h2)
    ·refine .inr (.inr ?_);unfold wok;rw [decide_eq_false (show ¬ (p % 18446744073709551616+q / 18446744073709551616) % 18446744073709551616<9223372036854775808 by omega)];rfl
theorem yji (w:Wd) (k:Int) (hw:wfU w) (hk:inI k):RUN T zn1 [.agg (wd w),iv k]=some ([.agg (wd (zdk w k).1),bv (zdk w k).2],[]):=by
 refine zae rfl rfl ?_;have ea:=zt4 w;cases ka:wok w with
 | false =>
  have es:zdk w k=(za8,false):=by unfold zdk; simp [ka]
  rw [es]; rw [ka] at ea;simp only [wd] at ea;simp [zh2,zki,wd,ea,za8]
 | true =>
  rw [ka] at ea;obtain ⟨a0,a1,a2,a3⟩:=hw;obtain ⟨k0,k1⟩:=zko hk;have e1:=z9b k hk;have e2:=z89 w.h k.natAbs a0 a1 k0 (by omega);have e3:=z89 w.l k.natAbs a2 a3 k0 (by omega);obtain ⟨p,q,hp,hq,p0,q0,q1,hP⟩:=ymj w k ⟨a0,a1,a2,a3⟩ hk;rw [hp] at e2;rw [hq] at e3;have e4:=ycu z81 (x:=p % 18446744073709551616) (y:=q / 18446744073709551616) (c:=0) (by omega) (by omega) (by decide) (by decide);rw [Int.add_zero] at e4;have e5:=zxg (w.n != decide (k<0)) ((p % 18446744073709551616+q / 18446744073709551616) % 18446744073709551616) (q % 18446744073709551616);have e6:=zt4 ⟨(w.n != decide (k<0)) && (decide (0<(p % 18446744073709551616+q / 18446744073709551616) % 18446744073709551616) || decide (0<q % 18446744073709551616)),(p % 18446744073709551616+q / 18446744073709551616) % 18446744073709551616,q % 18446744073709551616⟩;have key:=yoq w k ka p q p0 q0 q1 hP;generalize ((w.n != decide (k<0)) && (decide (0<(p % 18446744073709551616+q / 18446744073709551616) % 18446744073709551616) || decide (0<q % 18446744073709551616)))=sn at *;generalize p / 18446744073709551616=P1 at *;generalize p % 18446744073709551616=P2 at *;generalize q / 18446744073709551616=Q1 at *;generalize q % 18446744073709551616=Q2 at *;generalize (P2+Q1) / 18446744073709551616=S1 at *;generalize (P2+Q1) % 18446744073709551616=S2 at *;generalize zdk w k=r at *;generalize wok ⟨sn,S2,Q2⟩=o at *;obtain ⟨wn,wh,wl⟩:=w;simp only [wd] at ea e5 e6 ⊢;simp only at e2 e3;rcases key with ⟨rfl,c | c | rfl⟩ | ⟨rfl,c1,c2,rfl⟩
  ·cases wn <;> by_cases sb:k<0 <;> simp [sb] at e5 <;> simp [zh2,zki,ea,e1,e2,e3,e4,e5,sb,c,za8]
  ·by_cases c':0<P1
   ·cases wn <;> by_cases sb:k<0 <;> simp [sb] at e5 <;> simp [zh2,zki,ea,e1,e2,e3,e4,e5,sb,c',za8]
   ·cases wn <;> by_cases sb:k<0 <;> simp [sb] at e5 <;> simp [zh2,zki,ea,e1,e2,e3,e4,e5,sb,c',c,za8]
  ·by_cases c':0<P1
   ·cases wn <;> by_cases sb:k<0 <;> simp [sb] at e5 <;> simp [zh2,zki,ea,e1,e2,e3,e4,e5,sb,c',za8]
   ·by_cases c:0<S1
    ·cases wn <;> by_cases sb:k<0 <;> simp [sb] at e5 <;> simp [zh2,zki,ea,e1,e2,e3,e4,e5,sb,c',c,za8]
    ·cases wn <;> by_cases sb:k<0 <;> simp [sb] at e5 <;> simp [zh2,zki,ea,e1,e2,e3,e4,e5,e6,sb,c',c,za8]
  ·cases wn <;> by_cases sb:k<0 <;> simp [sb] at e5 <;> simp [zh2,zki,ea,e1,e2,e3,e4,e5,e6,sb,c1,c2]
theorem yjj (w:Wd) (k:Int) (hw:wfU w) (hk:inI k):RUN T zn2 [.agg (wd w),iv k]=some ([.agg (wd (zdk w k).1),bv (zdk w k).2],[]):=by
 refine zae rfl rfl ?_;have ea:=zt5 w;cases ka:wok w with
 | false =>
  have es:zdk w k=(za8,false):=by unfold zdk; simp [ka]
  rw [es]; rw [ka] at ea;simp only [wd] at ea;simp [zh4,zki,wd,ea,za8]
 | true =>
  rw [ka] at ea;obtain ⟨a0,a1,a2,a3⟩:=hw;obtain ⟨k0,k1⟩:=zko hk;have e1:=z9c k hk;have e2:=z9a w.h k.natAbs a0 a1 k0 (by omega);have e3:=z9a w.l k.natAbs a2 a3 k0 (by omega);obtain ⟨p,q,hp,hq,p0,q0,q1,hP⟩:=ymj w k ⟨a0,a1,a2,a3⟩ hk;rw [hp] at e2;rw [hq] at e3;have e4:=zxh ⟨w.n != decide (k<0),(p % 18446744073709551616+q / 18446744073709551616) % 18446744073709551616,q % 18446744073709551616⟩;have e5:(decide (0<(p % 18446744073709551616+q / 18446744073709551616) % 18446744073709551616) || decide (0<q % 18446744073709551616)) = !(decide ((p % 18446744073709551616+q / 18446744073709551616) % 18446744073709551616=0) && decide (q % 18446744073709551616=0)):=by
   rw [Bool.eq_iff_iff]; simp; omega
  have e6:=zt5 ⟨(w.n != decide (k<0)) && (decide (0<(p % 18446744073709551616+q / 18446744073709551616) % 18446744073709551616) || decide (0<q % 18446744073709551616)),(p % 18446744073709551616+q / 18446744073709551616) % 18446744073709551616,q % 18446744073709551616⟩;have e7:0<(p % 18446744073709551616+q / 18446744073709551616) / 18446744073709551616↔(p % 18446744073709551616+q / 18446744073709551616) % 18446744073709551616<p % 18446744073709551616:=by omega
  have e8:=zjp (p % 18446744073709551616+q / 18446744073709551616);have key:=yoq w k ka p q p0 q0 q1 hP;rw [e7] at key;rw [e5] at key e6;clear e7 e5;simp only at e4;generalize (decide ((p % 18446744073709551616+q / 18446744073709551616) % 18446744073709551616=0) && decide (q % 18446744073709551616=0))=z at *;generalize p / 18446744073709551616=P1 at *;generalize p % 18446744073709551616=P2 at *;generalize q / 18446744073709551616=Q1 at *;generalize q % 18446744073709551616=Q2 at *;generalize (P2+Q1) % 18446744073709551616=S2 at *;generalize zdk w k=r at *;generalize hsn:((w.n != decide (k<0)) && !z)=sn at *;generalize wok ⟨sn,S2,Q2⟩=o at *;obtain ⟨wn,wh,wl⟩:=w;simp only [wd] at ea e4 e6 ⊢;simp only at e2 e3 hsn;rcases key with ⟨rfl,c | c | rfl⟩ | ⟨rfl,c1,c2,rfl⟩
  ·cases wn <;> by_cases sb:k<0 <;> cases z <;> simp [sb] at e4 <;> simp [zh4,zki,ea,e1,e2,e3,e4,e8,sb,c,za8]
  ·by_cases c':0<P1
   ·cases wn <;> by_cases sb:k<0 <;> cases z <;> simp [sb] at e4 <;> simp [zh4,zki,ea,e1,e2,e3,e4,e8,sb,c',za8]
   ·cases wn <;> by_cases sb:k<0 <;> cases z <;> simp [sb] at e4 <;> simp [zh4,zki,ea,e1,e2,e3,e4,e8,sb,c',c,za8]
  ·by_cases c':0<P1
   ·cases wn <;> by_cases sb:k<0 <;> cases z <;> simp [sb] at e4 <;> simp [zh4,zki,ea,e1,e2,e3,e4,e8,sb,c',za8]
   ·by_cases c:S2<P2
    ·cases wn <;> by_cases sb:k<0 <;> cases z <;> simp [sb] at e4 <;> simp [zh4,zki,ea,e1,e2,e3,e4,e8,sb,c',c,za8]
    ·cases wn <;> by_cases sb:k<0 <;> cases z <;> simp [sb] at e4 hsn <;> subst hsn <;> simp [zh4,zki,ea,e1,e2,e3,e4,e6,e8,sb,c',c,za8]
  ·cases wn <;> by_cases sb:k<0 <;> cases z <;> simp [sb] at e4 hsn <;> subst hsn <;> simp [zh4,zki,ea,e1,e2,e3,e4,e6,e8,sb,c1,c2]
def zez (w:Wd):Bool:=w.n && !(decide (w.h=0) && decide (w.l=0))
def zkl (a b:Wd):Int:=if zez a=true then (if zez b=true then ze4 b a else -1) else (if zez b=true then 1 else ze4 a b)
theorem y4g (a b:Wd):RUN T zsr [.agg (wd a),.agg (wd b)]=some ([iv (zkl a b)],[]):=by
 refine zae rfl rfl ?_;have e1:=zxh a;have e2:=zxh b;have e3:=z9e a b;have e4:=z9e b a;unfold zkl zez;generalize ze4 a b=x at *;generalize ze4 b a=y at *;generalize (decide (a.h=0) && decide (a.l=0))=z at *;generalize (decide (b.h=0) && decide (b.l=0))=z' at *;obtain ⟨an,ah,al⟩:=a;obtain ⟨bn,bh,bl⟩:=b;simp only [wd] at e1 e2 e3 e4 ⊢;cases an <;> cases bn <;> cases z <;> cases z' <;> simp [z49,zy0,e1,e2,e3,e4]
theorem z6h (l:List Nd) (x:Nd):l.map nd++[[iv x.f,iv x.c,iv x.l,iv x.r,iv x.v]]=(l++[x]).map nd:=by simp [nd]
theorem z65 {l:List Nd} {i:Nat} {x:Nd} (h:l[i]?=some x):(l.map nd)[i]?=some [iv x.f,iv x.c,iv x.l,iv x.r,iv x.v]:=by simp [h,nd]
def yqv (t:List Nd) (k:Nat) (f c a b:Int):List Nd:=t.set k ⟨f,c,t.length,t.length+1,0⟩++[⟨-1,0,0,0,a⟩,⟨-1,0,0,0,b⟩]
theorem y7f (l:List Nd):zcl (l.map nd)=true:=by simp [zcl,nd]
theorem ynm (t:List Nd) (k:Nat) (f c l r v:Int):(t.map nd).set k [iv f,iv c,iv l,iv r,iv v]=(t.set k ⟨f,c,l,r,v⟩).map nd:=by
 rw [List.map_set]; rfl
theorem qcy (l:List ByteArray) (i:Nat) (s:ByteArray):(za4 l).set i [.v (.string s)]=za4 (l.set i s):=by simp [za4]
def qc2 (B:List Int) (l:List ByteArray) (r:List PV×List PV):Prop := ∃ (x:ByteArray) (p:Nat) (s:Int),x∈l/\p<=B.length/\r=([.v (.string x)],[.bx [.sl 1 (zb0 B),iv p,iv s],.own 1 (za4 l)])
theorem yjk (B:List Int) (p:Nat) (s:Int) (hp:p<=B.length) (hB:B.length<=9223372036854775807) (l:List ByteArray) (hl:0<l.length/\l.length<=9223372036854775807) : ∃ r,RUN T znf [.bx [.sl 1 (zb0 B),iv p,iv s],.own 1 (za4 l)]=some r/\qc2 B l r:=by
 refine zhy rfl rfl ?_;obtain ⟨r1,h1,v1,p1,s1,⟨a1,rfl,a10,a11⟩,hp1,rfl⟩:=zca B p s hp hB l.length (by omega);obtain ⟨i,rfl⟩ : ∃ i:Nat,a1=i:=⟨a1.toNat,by omega⟩;have hi:i<l.length:=by have:=a11 (by omega); omega
 obtain ⟨x,hx⟩ : ∃ x,l[i]?=some x:=⟨_,bG hi⟩;have hx':=zue hx;simp [-getElem?_pos,z2i,zy0,h1,hx',hi];exact ⟨x,p1,s1,bF hx,hp1,rfl⟩
theorem yko (l:List ByteArray):zcl (za4 l)=true:=by simp [zcl,za4]
theorem ykq (M:List (List Nd)) (t:List Nd):trs true M++[[.own 5 (t.map nd)]]=trs true (M++[t]):=by simp [trs,zoy]
theorem zuo (L:List (List Int)) (r:List Int):rws true L++[[.own 1 (zab r)]]=rws true (L++[r]):=by simp [rws,cel]
theorem ycl (L:List (List Int)) (i:Nat) (r:List Int):(rws true L).set i [.own 1 (zab r)]=rws true (L.set i r):=by simp [rws,cel]
def pos (x:Int) (l:List Int):Nat->Nat
 | 0=>0
 | k+1=>if x<l.getD k 0 then pos x l k else k+1
def ins (l:List Int) (x:Int):List Int:=l.take (pos x l l.length)++x::l.drop (pos x l l.length)
def zd6 (l:List Int):List Int:=l.foldl ins []
theorem ya6 (x:Int) (l:List Int) : ∀ k,pos x l k<=k
 | 0=>by simp [pos]
 | k+1=>by
  have:=ya6 x l k;simp only [pos]; split <;> omega
theorem qbv (l:List Int) (x:Int):(ins l x).length=l.length+1:=by
 have:=ya6 x l l.length;unfold ins;simp; omega
theorem qdf {l:List Int} {i:Nat} {x:Int} (h:l[i]?=some x):(l.take (i+1)).foldl ins []=ins ((l.take i).foldl ins []) x:=by
 rw [List.take_succ,h];simp [List.foldl_append]
theorem qd7 (l:List Int) : ∀ a:List Int,(l.foldl ins a).length=a.length+l.length:=by
 induction l with
 | nil=>intro a; rfl
 | cons x l ih=>intro a; simp only [List.foldl_cons,ih,qbv,List.length_cons]; omega
theorem y6v (a:List Int) (p:Nat):List.take (a.length-p) (List.drop p (zab a))=zab (a.drop p):=by
 rw [List.take_of_length_le (by simp)];simp [zab,List.map_drop]
theorem y7w (a:List Int) (p:Nat) (h:p<=a.length):(if p=a.length then zab a else List.take p (zab a))=zab (a.take p):=by
 split
 ·rename_i e; subst e; rw [List.take_length]
 ·simp [zab,List.map_take]
theorem ycg (x:Int) (l:List Int) (k:Nat):pos x l (k+1)=if x<l.getD k 0 then pos x l k else k+1:=rfl
def zeb (x:Int) (l:List Int) (k P:Nat):Prop:=pos x l k=P
theorem zeb.on {x y:Int} {l:List Int} {k P:Nat} (h:zeb x l (k+1) P) (hy:l[k]?=some y) (hc:x<y):zeb x l k P:=by
 unfold zeb at *;rw [ycg] at h;simp only [List.getD,hy,Option.getD_some,if_pos hc] at h;exact h
theorem zeb.off {x y:Int} {l:List Int} {k P:Nat} (h:zeb x l (k+1) P) (hy:l[k]?=some y) (hc : ¬ x<y):k+1=P:=by
 unfold zeb at *;rw [ycg] at h;simp only [List.getD,hy,Option.getD_some,if_neg hc] at h;exact h
theorem zeb.ex (x:Int) (l:List Int) (k:Nat) : ∃ P,zeb x l k P:=⟨_,rfl⟩
theorem zeb.z {x:Int} {l:List Int} {P:Nat} (h:zeb x l 0 P):0=P:=h
theorem z7y {x:Int} {l:List Int} {P:Nat} (h:zeb x l l.length P):ins l x=l.take P++x::l.drop P:=by unfold zeb at h; unfold ins; rw [h]
attribute [irreducible] pos ins zeb
theorem yjl (l:List Int) (hl:l.length<=1048576):RUN T znh [.sl 1 (zab l)]=some ([.own 1 (zab (zd6 l))],[]):=by
 refine zae rfl rfl ?_;have hr0:zag 8 0=true:=by decide
 simp [-getElem?_pos,z2p,zza,hr0];refine zaq (fun n st => ∃ (i o e:Nat) (a:List Int),i+n=l.length/\a=(l.take i).foldl ins []/\a.length=i/\st.V 0 = .sl 1 (zab l)/\st.V 3 = .ref o none e 0 a.length/\st.V 4=iv i/\o<st.nx/\st.S o=some (.row 1 (zab a))) ?_ l.length _ ⟨0,0,0,[],by simp [zab]⟩;rintro n st ⟨i,o,e,a,hi,ha,hal,v0,v3,v4,hox,hSo⟩;simp [ydk,v0,v4];obtain ⟨f1,f2,f3,f4⟩:=fr hox;refine za9 (fun h => ?_) (fun h => ?_)
 ·simp at h;obtain ⟨x,hx⟩ : ∃ x,l[i]?=some x:=⟨_,bG h⟩;have hx':=zay hx;have hws:=wS h (by omega:l.length<=9223372036854775807);have hft:=qdf hx;rw [<- ha] at hft;obtain ⟨P,hP⟩ : ∃ P,zeb x a a.length P:=zeb.ex x a a.length;simp [-getElem?_pos,v0,v3,v4,hSo];refine zaq (fun n' s => ∃ j:Nat,n'=j/\j<=a.length/\zeb x a j P/\s.V 0 = .sl 1 (zab l)/\s.V 3 = .ref o none e 0 a.length/\s.V 4=iv i/\s.V 5=iv j/\s.nx=st.nx/\s.S o=some (.row 1 (zab a))) ?_ a.length _ ⟨a.length,by omega,by omega,hP,by simp [v0,v3,v4,hSo]⟩;rintro n' s ⟨j,hjn,hj,hp,u0,u3,u4,u5,unx,hSo'⟩;clear v0 v3 v4 hSo;obtain ⟨g1,g2,g3,g4⟩:=fr (show o<s.nx by omega);obtain ⟨_,_,g5,g6⟩:=fr (show o<s.nx+1 by omega);obtain ⟨_,_,g7,g8⟩:=fr (show o<s.nx+2 by omega);have hcr : ∀ c:Nat,c<=a.length+1->zag 8 c=true:=fun c hc=>zcg (by omega);have hr1:zag 8 1=true:=by decide
  by_cases h0:0<j
  ·obtain ⟨q,rfl⟩ : ∃ q:Nat,j=q+1:=⟨j-1,by omega⟩;have hw:=w64 (x:=(q:Int)) (by omega) (by omega);obtain ⟨y,hy⟩ : ∃ y,a[q]?=some y:=⟨_,bG (by omega)⟩;have hy':=zay hy;have hqa:q<a.length:=by omega
   by_cases hc:x<y
   ·have hp':=hp.on hy hc;simp [-getElem?_pos,z2o,u0,u3,u4,u5,hSo',hx',h,h0,hw,hy',hqa,hc];exact zaj q (by omega) ⟨q,rfl,by omega,hp',by simp [u0,u3,u4,unx,hSo']⟩
   ·have hp':=hp.off hy hc;have hk1:=hcr (q+1) (by omega);have hk2:=zcg (n:=q+1+1) (by omega);have hk3:=hcr (a.length+1) (by omega);have hcut:=y7w a (q+1) (by omega);have hal2 : ∀ b:List Int,zcl (zab b)=true:=ylc;have hmin:(a.take (q+1)).length=q+1:=by simp; omega
    have hdr:=y6v a (q+1);have hmd:(a.drop (q+1)).length=a.length-(q+1):=by simp
    have hsn:=zb1 (a.take (q+1)) x;have hap:=qcg (a.take (q+1)++[x]) (a.drop (q+1));have hk4:=zcg (n:=q+2+(a.length-(q+1))) (by omega);have hin:=z7y hP;rw [<- hp'] at hin;have hlen2:q+2+(a.length-(q+1))=a.length+1:=by omega
    simp [-getElem?_pos,z2o,u0,u3,u4,u5,hSo',hx',h,h0,hw,hy',hqa,hc,hj,g1,g2,g3,g4,g5,g6,g7,g8,hr1,hk1,hk2,hk3,hcut,hal2,hmin,hdr,hmd,hsn,hap,hk4,hlen2];refine zaj (n-1) (by omega) ⟨i+1,s.nx+2+2,s.ep,a.take (q+1)++x::a.drop (q+1),by omega,by rw [hft,hin],by simp; omega,by simp [u0],by simp; omega,by simp [hws]⟩
  ·have h0':j=0:=by omega
   subst h0';have hp':=hp.z;have hk0:=hcr 0 (by omega);have hk3:=hcr (a.length+1) (by omega);have hcut:(if 0=a.length then zab a else [])=([]:List (List PV)):=by
    split
    ·rename_i e;have:a=[]:=List.length_eq_zero_iff.mp e.symm;subst this; rfl
    ·rfl
   have hal2 : ∀ b:List Int,zcl (zab b)=true:=ylc;have hin:=z7y hP;rw [<- hp'] at hin;have hcons:[iv x]::zab a=zab (x::a):=rfl;have hk4:=hcr (1+a.length) (by omega);have hk5:=hcr (a.length+1) (by omega);simp [-getElem?_pos,z2o,u0,u3,u4,u5,hSo',hx',h,g1,g2,g3,g4,g5,g6,g7,g8,hr1,hk0,hk3,hcut,hal2,hcons,hk4,hk5];refine zaj (n-1) (by omega) ⟨i+1,s.nx+2+2,s.ep,x::a,by omega,by rw [hft,hin]; simp,by (try simp); try omega,by simp [u0],by (try simp); try omega,by simp [hws]⟩
 ·simp at h;have e1:i=l.length:=by omega
  rw [e1,List.take_length] at ha;simp [-getElem?_pos,v3,hSo,zd6,<- ha]
structure Ta where
 ns:List ByteArray
 nm:ByteArray
 rw:List (List Int)
 lb:List Int
abbrev taS (q:Bool) (t:Ta):PV := .agg [.sl 1 (za4 t.ns),.v (.string t.nm),.sl 1 (rws q t.rw),.sl 1 (zab t.lb)]
abbrev taO (t:Ta):PV := .agg [.own 1 (za4 t.ns),.v (.string t.nm),.own 1 (rws true t.rw),.own 1 (zab t.lb)]
structure TaL (n:Nat) (t:Ta):Prop where
 ns:t.ns.length<=n
 ss : ∀ x∈t.ns,x.size<=n
 nm:t.nm.size<=n
 rw:t.rw.length<=n
 rr : ∀ l∈t.rw,l.length<=n
 lb:t.lb.length<=n
structure Sta where
 sm:List Int
 ts:List (List Nd)
abbrev stS (q:Bool) (s:Sta):PV := .agg [.sl 1 (zab s.sm),.sl 1 (trs q s.ts)]
abbrev stO (s:Sta):PV := .agg [.own 1 (zab s.sm),.own 1 (trs true s.ts)]
structure z96 (n:Nat) (s:Sta):Prop where
 sm:s.sm.length<=n
 ts:s.ts.length<=n
 tl : ∀ l∈s.ts,l.length<=n
structure Sl where
 n:Int
 g:Int
deriving DecidableEq
def slc (x:Sl):List PV:=[iv x.n,iv x.g]
def zbh (l:List Sl):List (List PV):=l.map slc
@[simp] theorem qpv (l:List Sl):(zbh l).length=l.length:=by simp [zbh]
theorem zmp {l:List Sl} {i:Nat} {x:Sl} (h:l[i]?=some x):(zbh l)[i]?=some [iv x.n,iv x.g]:=by simp [zbh,h,slc]
theorem ynv (l:List Sl) (i:Nat) (a b:Int):(zbh l).set i [iv a,iv b]=zbh (l.set i ⟨a,b⟩):=by simp [zbh,List.map_set,slc]
def slI (x:Sl):Prop:=inI x.n/\inI x.g
def zbk (a b:Sl):Sl×Bool:=if ((adi a.n b.n).2 && (adi a.g b.g).2)=true then (⟨(adi a.n b.n).1,(adi a.g b.g).1⟩,true) else (⟨0,0⟩,false)
theorem zmh {a b:Sl} (h:slI a):slI (zbk a b).1:=by
 unfold zbk;split
 ·exact ⟨z6v h.1,z6v h.2⟩
 ·unfold slI inI; simp
theorem z9f (a b:Sl) (ha:slI a) (hb:slI b):RUN T zlo [.agg (slc a),.agg (slc b)]=some ([.agg (slc (zbk a b).1),bv (zbk a b).2],[]):=by
 refine zae rfl rfl ?_;have e1:=z6c a.n b.n ha.1 hb.1;have e2:=z6c a.g b.g ha.2 hb.2;unfold zbk;generalize adi a.n b.n=x at *;generalize adi a.g b.g=y at *;obtain ⟨x,xb⟩:=x;obtain ⟨y,yb⟩:=y;simp only at e1 e2 ⊢;cases xb <;> cases yb <;> simp [z4e,z34,e1,e2,slc]
theorem z9g (a b:Sl) (ha:slI a) (hb:slI b):RUN T zlq [.agg (slc a),.agg (slc b)]=some ([.agg (slc (zbk a b).1),bv (zbk a b).2],[]):=by
 refine zae rfl rfl ?_;have e1:=z6d a.n b.n ha.1 hb.1;have e2:=z6d a.g b.g ha.2 hb.2;unfold zbk;generalize adi a.n b.n=x at *;generalize adi a.g b.g=y at *;obtain ⟨x,xb⟩:=x;obtain ⟨y,yb⟩:=y;simp only at e1 e2 ⊢;cases xb <;> cases yb <;> simp [z4o,z34,e1,e2,slc]
def atI {α:Type} (l:List α) (i:Int):Option α:=if 0<=i then l[i.toNat]? else none
theorem zgh {α:Type} {l:List α} {i:Int} {x:α} (h:atI l i=some x) : ∃ j:Nat,i=j/\l[j]?=some x/\j<l.length:=by
 unfold atI at h;split at h
 ·refine ⟨i.toNat,by omega,h,?_⟩;rcases Nat.lt_or_ge i.toNat l.length with h' | h'
  ·exact h'
  ·rw [List.getElem?_eq_none (by omega)] at h; cases h
 ·cases h
theorem zjg {α:Type} {l:List α} {i:Int} (h:atI l i=none):i<0\/(l.length:Int)<=i:=by
 unfold atI at h;split at h
 ·right;rcases Nat.lt_or_ge i.toNat l.length with h' | h'
  ·rw [bG h'] at h; cases h
  ·omega
 ·omega
def zcn (b g:List Int):List Int->List Sl->Option (List Sl)
 | [],h=>some h
 | r::rs,h=>match atI b r,atI g r with
  | some x,some y=>match atI h x with
   | some s=>if (zbk s ⟨1,y⟩).2=true then zcn b g rs (h.set x.toNat (zbk s ⟨1,y⟩).1) else none
   | none=>none
  | _,_=>none
def zci (b g rows:List Int) (k:Int):List Sl×Bool:=if zai k 1 8=true then match zcn b g rows (List.replicate k.toNat ⟨0,0⟩) with
  | some h=>(h,true)
  | none=>([],false)
 else ([],false)
theorem yoc (n:Nat):zbh (List.replicate n ⟨0,0⟩)=List.replicate n [iv 0,iv 0]:=by simp [zbh,slc]
theorem y4h (b g rows:List Int) (k:Int) (hb:b.length<=1048576) (hg:g.length<=1048576) (hr:rows.length<=1048576) (hgi : ∀ x∈g,inI x):RUN T zsa [.sl 1 (zab b),.sl 1 (zab g),.sl 1 (zab rows),iv k]=some ([.own 2 (zbh (zci b g rows k).1),bv (zci b g rows k).2],[]):=by
 refine zae rfl rfl ?_;cases hk:zai k 1 8 with
 | false =>
  have e:=zcv k 1 8;rw [hk] at e;have e2:zci b g rows k=([],false):=by unfold zci; rw [hk]; rfl
  rw [e2];simp [-getElem?_pos,zwt,zwu,-zbm,e,zbh]
 | true =>
  have e:=zcv k 1 8;rw [hk] at e;have hk':=zaw.mp hk;obtain ⟨kn,rfl⟩ : ∃ n:Nat,k=n:=⟨k.toNat,by omega⟩;have hro:zag 16 kn=true:=by simp [zag]; omega
  obtain ⟨R,hR⟩ : ∃ R,R=zci b g rows kn:=⟨_,rfl⟩;have hR':R=match zcn b g rows (List.replicate kn ⟨0,0⟩) with
   | some h=>(h,true)
   | none=>([],false):=by rw [hR]; unfold zci; rw [if_pos hk]; first | (simp; done) | (simp; rfl)
  rw [<- hR];clear hR;simp [-getElem?_pos,zwt,zwu,-zbm,e,hro];refine zaq (fun n st => ∃ (i:Nat) (h:List Sl),i+n=rows.length/\h.length=kn/\(∀ s∈h,slI s)/\zcn b g (rows.drop i) h=zcn b g rows (List.replicate kn ⟨0,0⟩)/\st.V 0 = .sl 1 (zab b)/\st.V 1 = .sl 1 (zab g)/\st.V 3=iv kn/\st.V 10 = .ref 0 none 0 0 kn/\st.V 20 = .sl 1 (zab rows)/\st.V 21=iv rows.length/\st.V 22=iv i/\0<st.nx/\st.S 0=some (.row 2 (zbh h))) ?_ rows.length _ ⟨0,List.replicate kn ⟨0,0⟩,by omega,by simp,?_,by simp [yoc]⟩
  ·rintro n st ⟨i,h,hi,hhl,hhi,hh,v0,v1,v3,v10,v20,v21,v22,hnx,hS⟩;have Z0:=bI v0 <| bI v1 <| bI v3 <| bI v10 <| bI v20 v21
   obtain ⟨z1,z2,z3,z4⟩:=fr hnx
   by_cases hlt:i<rows.length
   ·obtain ⟨r,hrr⟩ : ∃ r,rows[i]?=some r:=⟨_,bG hlt⟩;have hr':=zay hrr;have hws:=wS hlt (by omega:rows.length<=9223372036854775807);have w1:=w64 (x:=min (b.length:Int) g.length-1) (by omega) (by omega);have w2:=w64 (x:=(kn:Int)-1) (by omega) (by omega);have e1:=zcv r 0 (min (b.length:Int) g.length-1);rw [zdi hrr,zcn] at hh;cases hbx:atI b r with
    | none =>
     rw [hbx] at hh;have hn:=zjg hbx;have:zai r 0 (min (b.length:Int) g.length-1)=false:=by
      cases hw:zai r 0 (min (b.length:Int) g.length-1) with
      | false=>rfl
      | true=>have:=zaw.mp hw; omega
     rw [this] at e1;rw [<- hh] at hR';subst hR';simp [-getElem?_pos,zoo,-zbm,Z0,v22,hS,hlt,hr',w1,e1,zbh]
    | some x =>
     obtain ⟨rn,rfl,hbr,hbl⟩:=zgh hbx;cases hgy:atI g rn with
     | none =>
      rw [hbx,hgy] at hh;have hn:=zjg hgy;have:zai rn 0 (min (b.length:Int) g.length-1)=false:=by
       cases hw:zai rn 0 (min (b.length:Int) g.length-1) with
       | false=>rfl
       | true=>have:=zaw.mp hw; omega
      rw [this] at e1;rw [<- hh] at hR';subst hR';simp [-getElem?_pos,zoo,-zbm,Z0,v22,hS,hlt,hr',w1,e1,zbh]
     | some y =>
      obtain ⟨rn',hrn,hgr,hgl⟩:=zgh hgy;have:rn'=rn:=by omega
      subst this;have:zai rn' 0 (min (b.length:Int) g.length-1)=true:=zaw.mpr (by omega);rw [this] at e1;rw [hbx,hgy] at hh;simp only at hh;have hb':=zay hbr;have hg':=zay hgr;have e2:=zcv x 0 ((kn:Int)-1);cases hhx:atI h x with
      | none =>
       rw [hhx] at hh;have hn:=zjg hhx;have:zai x 0 ((kn:Int)-1)=false:=by
        cases hw:zai x 0 ((kn:Int)-1) with
        | false=>rfl
        | true=>have:=zaw.mp hw; omega
       rw [this] at e2;simp only at hh;rw [<- hh] at hR';subst hR';simp [-getElem?_pos,zoo,-zbm,Z0,v22,hS,hlt,hr',hb',hbl,w1,w2,e1,e2,zbh]
      | some s =>
       obtain ⟨xn,rfl,hhs,hhl2⟩:=zgh hhx;have:zai xn 0 ((kn:Int)-1)=true:=zaw.mpr (by omega);rw [this] at e2;rw [hhx] at hh;have hs':=zmp hhs;have hsi:=hhi s (bF hhs);have hyi:=hgi y (bF hgr);have hpi:=zmh (b:=⟨1,y⟩) hsi;have e3:=z9f s ⟨1,y⟩ hsi ⟨by unfold inI; simp,hyi⟩;simp only [Int.toNat_natCast] at hh;have hxk:xn<kn:=by omega
       generalize zbk s ⟨1,y⟩=p at *;obtain ⟨⟨pn,pg⟩,pb⟩:=p;simp only [slc] at e3 hh;cases pb with
       | false =>
        rw [if_neg (by simp)] at hh;rw [<- hh] at hR';subst hR';simp [-getElem?_pos,zoo,-zbm,Z0,v22,hS,hlt,hr',hb',hbl,hg',hgl,hs',hxk,hhl,w1,w2,e1,e2,e3,z1,z2,z3,z4];simp [zbh]
       | true =>
        rw [if_pos rfl] at hh;have hset:=ynv h xn pn pg;simp [-getElem?_pos,zoo,-zbm,Z0,v22,hS,hlt,hr',hb',hbl,hg',hgl,hs',hxk,hhl,w1,w2,e1,e2,e3,hws,hset,z1,z2,z3,z4];refine zaj (n-1) (by omega) ⟨i+1,h.set xn ⟨pn,pg⟩,by omega,by simp [hhl],fun q hq => ?_,hh,by simp [Z0]⟩;rcases List.mem_or_eq_of_mem_set hq with h' | h'
        ·exact hhi q h'
        ·subst h'; exact hpi
   ·rw [List.drop_eq_nil_of_le (by omega),zcn] at hh;rw [<- hh] at hR';subst hR';simp [-getElem?_pos,zoo,v10,v21,v22,hS,hlt,hhl]
  ·intro s hs;have:=List.eq_of_mem_replicate hs;subst this;exact ⟨by unfold inI; simp,by unfold inI; simp⟩
theorem y4i (b g rows:List Int) (k:Int) (hb:b.length<=1048576) (hg:g.length<=1048576) (hr:rows.length<=1048576) (hgi : ∀ x∈g,inI x):RUN T zse [.sl 1 (zab b),.sl 1 (zab g),.sl 1 (zab rows),iv k]=some ([.own 2 (zbh (zci b g rows k).1),bv (zci b g rows k).2],[]):=by
 refine zae rfl rfl ?_;cases hk:zai k 1 8 with
 | false =>
  have e:=zbn k 1 8;rw [hk] at e;have e2:zci b g rows k=([],false):=by unfold zci; rw [hk]; rfl
  rw [e2];simp [-getElem?_pos,zwv,zwu,-za1,e,zbh]
 | true =>
  have e:=zbn k 1 8;rw [hk] at e;have hk':=zaw.mp hk;obtain ⟨kn,rfl⟩ : ∃ n:Nat,k=n:=⟨k.toNat,by omega⟩;have hro:zag 16 kn=true:=by simp [zag]; omega
  have hr0:zag 16 0=true:=by decide
  obtain ⟨R,hR⟩ : ∃ R,R=zci b g rows kn:=⟨_,rfl⟩;have hR':R=match zcn b g rows (List.replicate kn ⟨0,0⟩) with
   | some h=>(h,true)
   | none=>([],false):=by rw [hR]; unfold zci; rw [if_pos hk]; first | (simp; done) | (simp; rfl)
  rw [<- hR];clear hR;simp [-getElem?_pos,zwv,zwu,-za1,e,hro,hr0];refine zaq (fun n st => ∃ (i:Nat) (h:List Sl),i+n=rows.length/\h.length=kn/\(∀ s∈h,slI s)/\zcn b g (rows.drop i) h=zcn b g rows (List.replicate kn ⟨0,0⟩)/\st.V 0 = .sl 1 (zab b)/\st.V 1 = .sl 1 (zab g)/\st.V 2 = .sl 1 (zab rows)/\st.V 3=iv kn/\st.V 10 = .ref 0 none 0 0 0/\st.V 11 = .ref 1 none 0 0 kn/\st.V 12=iv i/\1<st.nx/\st.S 0=some (.row 2 [])/\st.S 1=some (.row 2 (zbh h))) ?_ rows.length _ ⟨0,List.replicate kn ⟨0,0⟩,by omega,by simp,?_,by simp [yoc]⟩
  ·rintro n st ⟨i,h,hi,hhl,hhi,hh,v0,v1,v2,v3,v10,v11,v12,hnx,hS0,hS⟩;obtain ⟨z1,z2,z3,z4⟩:=fr hnx;obtain ⟨y1,y2,y3,y4⟩:=fr (show 0<st.nx by omega)
   by_cases hlt:i<rows.length
   ·obtain ⟨r,hrr⟩ : ∃ r,rows[i]?=some r:=⟨_,bG hlt⟩;have hr':=zay hrr;have hws:=wS hlt (by omega:rows.length<=9223372036854775807);have w1:=w64 (x:=(b.length:Int)-1) (by omega) (by omega);have w1':=w64 (x:=(g.length:Int)-1) (by omega) (by omega);have w2:=w64 (x:=(kn:Int)-1) (by omega) (by omega);have e1:=zbn r 0 ((b.length:Int)-1);have e1':=zbn r 0 ((g.length:Int)-1);rw [zdi hrr,zcn] at hh;cases hbx:atI b r with
    | none =>
     rw [hbx] at hh;have hn:=zjg hbx;have:zai r 0 ((b.length:Int)-1)=false:=by
      cases hw:zai r 0 ((b.length:Int)-1) with
      | false=>rfl
      | true=>have:=zaw.mp hw; omega
     rw [this] at e1;rw [<- hh] at hR';subst hR';simp [-getElem?_pos,zop,-za1,v0,v1,v2,v3,v10,v11,v12,hS0,hS,hlt,hr',w1,e1,zbh]
    | some x =>
     obtain ⟨rn,rfl,hbr,hbl⟩:=zgh hbx;cases hgy:atI g rn with
     | none =>
      rw [hbx,hgy] at hh;have hn:=zjg hgy;have:zai rn 0 ((g.length:Int)-1)=false:=by
       cases hw:zai rn 0 ((g.length:Int)-1) with
       | false=>rfl
       | true=>have:=zaw.mp hw; omega
      rw [this] at e1';rw [show zai rn 0 ((b.length:Int)-1)=true from zaw.mpr (by omega)] at e1;rw [<- hh] at hR';subst hR';simp [-getElem?_pos,zop,-za1,v0,v1,v2,v3,v10,v11,v12,hS0,hS,hlt,hr',w1,w1',e1,e1',zbh]
     | some y =>
      obtain ⟨rn',hrn,hgr,hgl⟩:=zgh hgy;have:rn'=rn:=by omega
      subst this;rw [show zai rn' 0 ((b.length:Int)-1)=true from zaw.mpr (by omega)] at e1;rw [show zai rn' 0 ((g.length:Int)-1)=true from zaw.mpr (by omega)] at e1';rw [hbx,hgy] at hh;simp only at hh;have hb':=zay hbr;have hg':=zay hgr;have e2:=zbn x 0 ((kn:Int)-1);cases hhx:atI h x with
      | none =>
       rw [hhx] at hh;have hn:=zjg hhx;have:zai x 0 ((kn:Int)-1)=false:=by
        cases hw:zai x 0 ((kn:Int)-1) with
        | false=>rfl
        | true=>have:=zaw.mp hw; omega
       rw [this] at e2;simp only at hh;rw [<- hh] at hR';subst hR';simp [-getElem?_pos,zop,-za1,v0,v1,v2,v3,v10,v11,v12,hS0,hS,hlt,hr',hb',hbl,w1,w1',w2,e1,e1',e2,zbh]
      | some s =>
       obtain ⟨xn,rfl,hhs,hhl2⟩:=zgh hhx;have:zai xn 0 ((kn:Int)-1)=true:=zaw.mpr (by omega);rw [this] at e2;rw [hhx] at hh;have hs':=zmp hhs;have hsi:=hhi s (bF hhs);have hyi:=hgi y (bF hgr);have hpi:=zmh (b:=⟨1,y⟩) hsi;have e3:=z9g s ⟨1,y⟩ hsi ⟨by unfold inI; simp,hyi⟩;simp only [Int.toNat_natCast] at hh;have hxk:xn<kn:=by omega
       generalize zbk s ⟨1,y⟩=p at *;obtain ⟨⟨pn,pg⟩,pb⟩:=p;simp only [slc] at e3 hh;cases pb with
       | false =>
        rw [if_neg (by simp)] at hh;rw [<- hh] at hR';subst hR';simp [-getElem?_pos,zop,-za1,v0,v1,v2,v3,v10,v11,v12,hS0,hS,hlt,hr',hb',hbl,hg',hgl,hs',hxk,hhl,w1,w1',w2,e1,e1',e2,e3,z1,z2,z3,z4,y1,y2,y3,y4];simp [zbh]
       | true =>
        rw [if_pos rfl] at hh;have hset:=ynv h xn pn pg;simp [-getElem?_pos,zop,-za1,v0,v1,v2,v3,v10,v11,v12,hS0,hS,hlt,hr',hb',hbl,hg',hgl,hs',hxk,hhl,w1,w1',w2,e1,e1',e2,e3,hws,hset,z1,z2,z3,z4,y1,y2,y3,y4];refine zaj (n-1) (by omega) ⟨i+1,h.set xn ⟨pn,pg⟩,by omega,by simp [hhl],fun q hq => ?_,hh,by simp [v0],by simp [v1],by simp [v2],by simp [v3],by simp [v10],by simp [v11],by simp,by simp; omega,by simp [y1,y2,y3,y4,z1,z2,z3,z4,hS0]⟩;rcases List.mem_or_eq_of_mem_set hq with h' | h'
        ·exact hhi q h'
        ·subst h'; exact hpi
   ·rw [List.drop_eq_nil_of_le (by omega),zcn] at hh;rw [<- hh] at hR';subst hR';simp [-getElem?_pos,zop,v2,v11,v12,hS,hlt,hhl]
  ·intro s hs;have:=List.eq_of_mem_replicate hs;subst this;exact ⟨by unfold inI; simp,by unfold inI; simp⟩
def zxx (q:Bool) (l:List Sl):PV:=if q then .own 2 (zbh l) else .sl 2 (zbh l)
@[simp] theorem qt9 (q:Bool) (l:List Sl):fz (zxx q l) = .sl 2 (zbh l):=by cases q <;> simp [zxx]
def rss (q:Bool) (H:List (List Sl)):List (List PV):=H.map fun l=>[zxx q l]
@[simp] theorem qm1 (q:Bool) (H:List (List Sl)):(rss q H).length=H.length:=by simp [rss]
theorem yo1 {q:Bool} {H:List (List Sl)} {i:Nat} {l:List Sl} (h:H[i]?=some l):(rss q H)[i]?=some [zxx q l]:=by simp [rss,h]
theorem yp1 (H:List (List Sl)) (l:List Sl):rss true H++[[.own 2 (zbh l)]]=rss true (H++[l]):=by simp [rss,zxx]
def zbz (g rows:List Int):List (List Int)->List (List Int)->Option (List (List Sl))
 | x::c,y::v=>if (zci y g rows (x.length+1)).2=true then (zbz g rows c v).map ((zci y g rows (x.length+1)).1 :: ·) else none
 | _,_=>some []
def zby (c v:List (List Int)) (g rows:List Int):List (List Sl)×Bool:=if zdl c v=true then match zbz g rows c v with
  | some h=>(h,true)
  | none=>([],false)
 else ([],false)
theorem ym5 {g rows:List Int} {c v:List (List Int)} {i:Nat} {x y:List Int} (hx:c[i]?=some x) (hy:v[i]?=some y):zbz g rows (c.drop i) (v.drop i)=if (zci y g rows (x.length+1)).2=true then (zbz g rows (c.drop (i+1)) (v.drop (i+1))).map ((zci y g rows (x.length+1)).1 :: ·) else none:=by
 rw [zdi hx,zdi hy,zbz]
theorem ykf {g rows:List Int} {v:List (List Int)}:zbz g rows [] v=some []:=by simp [zbz]
theorem yau {b g:List Int} : ∀ (rows:List Int) (h h':List Sl),zcn b g rows h=some h'->h'.length=h.length
 | [],h,h',e=>by simp [zcn] at e; subst e; rfl
 | r::rs,h,h',e=>by
  simp only [zcn] at e;split at e
  ·split at e
   ·split at e
    ·have:=yau rs _ _ e;simpa using this
    ·cases e
   ·cases e
  ·cases e
theorem qcx (b g rows:List Int) (k:Int):(zci b g rows k).1.length<=8:=by
 unfold zci;split
 ·rename_i hk;have:=zaw.mp hk;cases h:zcn b g rows (List.replicate k.toNat ⟨0,0⟩) with
  | none=>simp
  | some h'=>have:=yau _ _ _ h; simp at this; simp; omega
 ·simp
theorem ymx {g rows:List Int} : ∀ (c v:List (List Int)) (H:List (List Sl)),zbz g rows c v=some H->H.length<=c.length/\∀ l∈H,l.length<=8
 | [],v,H,h=>by simp [zbz] at h; subst h; simp
 | x::c,[],H,h=>by simp [zbz] at h; subst h; simp
 | x::c,y::v,H,h=>by
  simp only [zbz] at h;split at h
  ·simp only [bB] at h;obtain ⟨H',h1,rfl⟩:=h;obtain ⟨h2,h3⟩:=ymx c v H' h1;refine ⟨by simp; omega,fun l hl => ?_⟩;rcases List.mem_cons.mp hl with e | e
   ·subst e; exact qcx _ _ _ _
   ·exact h3 l e
  ·cases h
theorem zuj (c v:List (List Int)) (g rows:List Int):(zby c v g rows).1.length<=c.length/\∀ l∈(zby c v g rows).1,l.length<=8:=by
 unfold zby;split
 ·cases h:zbz g rows c v with
  | none=>simp
  | some H=>exact ymx c v H h
 ·simp
theorem ycd {c v:List (List Int)} (h:zdl c v=true):v.length=c.length/\c.length<=4:=by
 unfold zdl at h;simp only [Bool.and_eq_true,decide_eq_true_eq] at h;have:=zaw.mp h.1.1.1;omega
theorem y4j (q:Bool) (c v:List (List Int)) (g rows:List Int) (hc : ∀ l∈c,l.length<=1048576) (hv : ∀ l∈v,l.length<=1048576) (hg:g.length<=1048576) (hr:rows.length<=1048576) (hgi : ∀ x∈g,inI x):RUN T zr0 [.agg [.sl 1 (rws q c),.sl 1 (rws q v)],.sl 1 (zab g),.sl 1 (zab rows)]=some ([.own 1 (rss true (zby c v g rows).1),bv (zby c v g rows).2],[]):=by
 refine zae rfl rfl ?_;have e:=yi6 q c v (fun l hl=>Nat.le_trans (hc l hl) (by omega)) (fun l hl=>Nat.le_trans (hv l hl) (by omega));cases hk:zdl c v with
 | false =>
  rw [hk] at e;have e2:zby c v g rows=([],false):=by unfold zby; rw [hk]; rfl
  rw [e2];simp [-getElem?_pos,zwi,zwj,e,rss]
 | true =>
  rw [hk] at e;obtain ⟨hvc,hc4⟩:=ycd hk;obtain ⟨R,hR⟩ : ∃ R,R=zby c v g rows:=⟨_,rfl⟩;have hR':R=match zbz g rows c v with
   | some h=>(h,true)
   | none=>([],false):=by rw [hR]; unfold zby; exact if_pos hk
  rw [<- hR];clear hR;have hr0:zag 24 0=true:=by decide
  have hr1:zag 24 1=true:=by decide
  simp [-getElem?_pos,zwi,zwj,e,hr0];refine zaq (fun n st => ∃ (i o e:Nat) (H:List (List Sl)),i+n=c.length/\H.length=i/\zbz g rows c v=(zbz g rows (c.drop i) (v.drop i)).map (H ++ ·)/\st.V 1 = .sl 1 (zab g)/\st.V 2 = .sl 1 (zab rows)/\st.V 3 = .ptr 0 none 0 0 0/\st.V 8 = .ref o none e 0 H.length/\st.V 18 = .sl 1 (rws q c)/\st.V 19=iv c.length/\st.V 20=iv i/\0<o/\o<st.nx/\st.S 0=some (.box [.sl 1 (rws q c),.sl 1 (rws q v)])/\st.S o=some (.row 1 (rss true H))) ?_ c.length _ ⟨0,1,0,[],by simp [rss]⟩;rintro n st ⟨i,o,ep,H,hi,hH,hL,v1,v2,v3,v8,v18,v19,v20,ho,hox,hS,hSo⟩;obtain ⟨x1,x2,x3,x4⟩:=fr hox;obtain ⟨g1,g2,g3,g4⟩:=fr ho;obtain ⟨z1,z2,z3,z4⟩:=fr (show 0<st.nx by omega)
  by_cases hlt:i<c.length
  ·obtain ⟨x,hx⟩ : ∃ x,c[i]?=some x:=⟨_,bG hlt⟩;obtain ⟨y,hy⟩ : ∃ y,v[i]?=some y:=⟨_,bG (by omega)⟩;have hx':=zc8 (q:=q) hx;have hy':=zc8 (q:=q) hy;have hiv:i<v.length:=by omega
   have hxl:=hc x (bF hx);have hws:=wS hlt (by omega:c.length<=9223372036854775807);have hwl:=w64 (x:=(x.length:Int)+1) (by omega) (by omega);have hh:=y4h y g rows (x.length+1) (hv y (bF hy)) hg hr hgi;have hr24:zag 24 (H.length+1)=true:=by simp [zag]; omega
   rw [ym5 hx hy] at hL;generalize zci y g rows (x.length+1)=p at *;obtain ⟨ph,pb⟩:=p;simp only at hh hL;cases pb with
   | false =>
    rw [if_neg (by simp)] at hL;rw [hL] at hR';subst hR';simp [-getElem?_pos,z24,v1,v2,v3,v8,v18,v19,v20,hS,hSo,hlt,hiv,hx',hy',hwl,hh,rss,x1,x2,x3,x4,g1,g2,g3,g4,z1,z2,z3,z4]
   | true =>
    rw [if_pos rfl] at hL;have hsn:=yp1 H ph;simp [-getElem?_pos,z24,v1,v2,v3,v8,v18,v19,v20,hS,hSo,hlt,hiv,hx',hy',hwl,hws,hh,hr1,hr24,hsn,x1,x2,x3,x4,g1,g2,g3,g4,z1,z2,z3,z4];exact zaj (n-1) (by omega) ⟨i+1,st.nx+2,st.ep,H++[ph],by omega,by simp [hH],by rw [hL]; cases zbz g rows (c.drop (i+1)) (v.drop (i+1)) <;> simp,by simp [v1],by simp [v2],by simp [v3],by simp,by simp [v18],by simp [v19],by simp,by omega,by simp [x1,x2,x3,x4,g1,g2,g3,g4,z1,z2,z3,z4,hS]⟩
  ·have h0:c.drop i=[]:=List.drop_eq_nil_of_le (by omega);rw [h0,ykf] at hL;rw [hL] at hR';simp only [Option.map_some,List.append_nil] at hR';subst hR';simp [-getElem?_pos,z24,v8,v19,v20,hSo,hlt]
theorem y4k (q:Bool) (c v:List (List Int)) (g rows:List Int) (hc : ∀ l∈c,l.length<=1048576) (hv : ∀ l∈v,l.length<=1048576) (hg:g.length<=1048576) (hr:rows.length<=1048576) (hgi : ∀ x∈g,inI x):RUN T zr4 [.agg [.sl 1 (rws q c),.sl 1 (rws q v)],.sl 1 (zab g),.sl 1 (zab rows)]=some ([.own 1 (rss true (zby c v g rows).1),bv (zby c v g rows).2],[]):=by
 refine zae rfl rfl ?_;have e:=yi7 q c v (fun l hl=>Nat.le_trans (hc l hl) (by omega)) (fun l hl=>Nat.le_trans (hv l hl) (by omega));cases hk:zdl c v with
 | false =>
  rw [hk] at e;have e2:zby c v g rows=([],false):=by unfold zby; rw [hk]; rfl
  rw [e2];have hr0:zag 24 0=true:=by decide
  simp [-getElem?_pos,zwo,zwj,e,hr0,rss]
 | true =>
  rw [hk] at e;obtain ⟨hvc,hc4⟩:=ycd hk;obtain ⟨R,hR⟩ : ∃ R,R=zby c v g rows:=⟨_,rfl⟩;have hR':R=match zbz g rows c v with
   | some h=>(h,true)
   | none=>([],false):=by rw [hR]; unfold zby; exact if_pos hk
  rw [<- hR];clear hR;have hr0:zag 24 0=true:=by decide
  have hr1:zag 24 1=true:=by decide
  simp [-getElem?_pos,zwo,zwj,e,hr0];refine zaq (fun n st => ∃ (i o e:Nat) (H:List (List Sl)),i+n=c.length/\H.length=i/\zbz g rows c v=(zbz g rows (c.drop i) (v.drop i)).map (H ++ ·)/\st.V 1 = .sl 1 (zab g)/\st.V 2 = .sl 1 (zab rows)/\st.V 3 = .ptr 0 none 0 0 0/\st.V 8 = .ref o none e 0 H.length/\st.V 9=iv i/\0<o/\o<st.nx/\st.S 0=some (.box [.sl 1 (rws q c),.sl 1 (rws q v)])/\st.S o=some (.row 1 (rss true H))) ?_ c.length _ ⟨0,1,0,[],by simp [rss]⟩;rintro n st ⟨i,o,ep,H,hi,hH,hL,v1,v2,v3,v8,v9,ho,hox,hS,hSo⟩;obtain ⟨x1,x2,x3,x4⟩:=fr hox;obtain ⟨g1,g2,g3,g4⟩:=fr ho;obtain ⟨z1,z2,z3,z4⟩:=fr (show 0<st.nx by omega)
  by_cases hlt:i<c.length
  ·obtain ⟨x,hx⟩ : ∃ x,c[i]?=some x:=⟨_,bG hlt⟩;obtain ⟨y,hy⟩ : ∃ y,v[i]?=some y:=⟨_,bG (by omega)⟩;have hx':=zc8 (q:=q) hx;have hy':=zc8 (q:=q) hy;have hiv:i<v.length:=by omega
   have hxl:=hc x (bF hx);have hws:=wS hlt (by omega:c.length<=9223372036854775807);have hwl:=w64 (x:=(x.length:Int)+1) (by omega) (by omega);have hh:=y4i y g rows (x.length+1) (hv y (bF hy)) hg hr hgi;have hr24:zag 24 (H.length+1)=true:=by simp [zag]; omega
   rw [ym5 hx hy] at hL;generalize zci y g rows (x.length+1)=p at *;obtain ⟨ph,pb⟩:=p;simp only at hh hL;cases pb with
   | false =>
    rw [if_neg (by simp)] at hL;rw [hL] at hR';subst hR';simp [-getElem?_pos,z3i,v1,v2,v3,v8,v9,hr0,hS,hSo,hlt,hiv,hx',hy',hwl,hh,rss,x1,x2,x3,x4,g1,g2,g3,g4,z1,z2,z3,z4]
   | true =>
    rw [if_pos rfl] at hL;have hsn:=yp1 H ph;simp [-getElem?_pos,z3i,v1,v2,v3,v8,v9,hr0,hS,hSo,hlt,hiv,hx',hy',hwl,hws,hh,hr1,hr24,hsn,x1,x2,x3,x4,g1,g2,g3,g4,z1,z2,z3,z4];exact zaj (n-1) (by omega) ⟨i+1,st.nx+2,st.ep,H++[ph],by omega,by simp [hH],by rw [hL]; cases zbz g rows (c.drop (i+1)) (v.drop (i+1)) <;> simp,by simp [v1],by simp [v2],by simp [v3],by simp,by simp,by omega,by simp [x1,x2,x3,x4,g1,g2,g3,g4,z1,z2,z3,z4,hS]⟩
  ·have h0:c.drop i=[]:=List.drop_eq_nil_of_le (by omega);rw [h0,ykf] at hL;rw [hL] at hR';simp only [Option.map_some,List.append_nil] at hR';subst hR';simp [-getElem?_pos,z3i,v3,v8,v9,hS,hSo,hlt]
def yqg (k:Int) (n:Nat):List Sl:=(List.range n).map fun (i:Nat)=>⟨k+2*(i:Int),k+2*(i:Int)+1⟩
@[simp] theorem qwh (k:Int) (n:Nat):(yqg k n).length=n:=by simp [yqg]
theorem yjm (x:Int):RUN T znz [iv x]=some ([bv false],[]):=by
 refine zae rfl rfl ?_;simp [z5b,zn6]
theorem yjn (x y:Int):RUN T znx [iv x,iv y]=some ([iv (zcr x y)],[]):=by
 refine zae rfl rfl ?_;have e1:=yjm x;have e2:=yjm y;unfold zcr
 by_cases h1:x<y
 ·simp [ztv,zy0,e1,e2,h1]
 ·by_cases h2:y<x
  ·simp [ztv,zy0,e1,e2,h1,h2]
  ·simp [ztv,zy0,e1,e2,h1,h2]
theorem y4l (a b:Wd) (ha:wfU a) (hb:wfU b):RUN T zso [.agg (wd a),.agg (wd b)]=some ([iv (zkl a b)],[]):=by
 refine zae rfl rfl ?_;have n1:(a.n && (decide (0<a.h) || decide (0<a.l)))=zez a:=by
  obtain ⟨h0,_,h1,_⟩:=ha;unfold zez
  congr 1
  rw [Bool.eq_iff_iff]; simp; omega
 have n2:(b.n && (decide (0<b.h) || decide (0<b.l)))=zez b:=by
  obtain ⟨h0,_,h1,_⟩:=hb;unfold zez
  congr 1
  rw [Bool.eq_iff_iff]; simp; omega
 have e1:=zxg a.n a.h a.l;have e2:=zxg b.n b.h b.l;rw [n1] at e1;rw [n2] at e2;have e3:=z9d ⟨zez a,a.h,a.l⟩ ⟨zez b,b.h,b.l⟩;have e4:=z9d ⟨zez b,b.h,b.l⟩ ⟨zez a,a.h,a.l⟩;have o1:ze4 ⟨zez a,a.h,a.l⟩ ⟨zez b,b.h,b.l⟩=ze4 a b:=rfl;have o2:ze4 ⟨zez b,b.h,b.l⟩ ⟨zez a,a.h,a.l⟩=ze4 b a:=rfl;rw [o1] at e3;rw [o2] at e4;clear o1 o2 n1 n2 ha hb;unfold zkl;generalize ze4 a b=x at *;generalize ze4 b a=y at *;generalize zez a=p at *;generalize zez b=q at *;obtain ⟨an,ah,al⟩:=a;obtain ⟨bn,bh,bl⟩:=b;simp only [wd] at e1 e2 e3 e4 ⊢;cases p <;> cases q <;> simp [z40,zy0,e1,e2,e3,e4]
structure Fr where
 w:Wd
 d:Int
def frc (f:Fr):List PV:=[bv f.w.n,uv f.w.h,uv f.w.l,iv f.d]
def frB (f:Fr):Bool:=wok f.w && zai f.d 1 1000000
def zeo:Fr:=⟨za8,0⟩
def zfm (w:Wd) (d:Int):Fr×Bool:=if frB ⟨w,d⟩=true then (⟨w,d⟩,true) else (zeo,false)
theorem z9h (f:Fr):RUN T zlv [.agg (frc f)]=some ([bv (frB f)],[]):=by
 refine zae rfl rfl ?_;have e1:=zt4 f.w;have e2:=zcv f.d 1 1000000;unfold frB;generalize wok f.w=x at *;generalize zai f.d 1 1000000=y at *;simp only [wd] at e1;cases x <;> simp [z5h,zn6,-zbm,frc,e1,e2]
theorem z6e (f:Fr):RUN T zj0 [.agg (frc f)]=some ([bv (frB f)],[]):=by
 refine zae rfl rfl ?_;have e1:=zt5 f.w;have e2:=zbn f.d 1 1000000;unfold frB;generalize wok f.w=x at *;generalize zai f.d 1 1000000=y at *;simp only [wd] at e1;cases x <;> simp [z5n,zn6,-za1,frc,e1,e2]
theorem yjo (w:Wd) (d:Int):RUN T zn0 [.agg (wd w),iv d]=some ([.agg (frc (zfm w d).1),bv (zfm w d).2],[]):=by
 refine zae rfl rfl ?_;have e1:=z9h ⟨w,d⟩;unfold zfm;generalize frB ⟨w,d⟩=x at *;simp only [frc] at e1;cases x <;> simp [z5f,z4j,wd,frc,zeo,za8,e1]
theorem y4m (a d:Int) (ha:inI a):RUN T zss [iv a,iv d]=some ([.agg (frc (zfm (zet a a) d).1),bv (zfm (zet a a) d).2],[]):=by
 refine zae rfl rfl ?_;have e1:=y4c a a ha ha;have e2:=yjo (zet a a) d;generalize zet a a=m at *;generalize zfm m d=f at *;obtain ⟨⟨fw,fd⟩,fb⟩:=f;simp only [wd,frc] at e1 e2 ⊢;simp [z5d,z4j,e1,e2]
theorem y4n (a d:Int) (ha:inI a):RUN T zsu [iv a,iv d]=some ([.agg (frc (zfm (zet a a) d).1),bv (zfm (zet a a) d).2],[]):=by
 refine zae rfl rfl ?_;have e1:=y4d a a ha ha;have e2:=z6e ⟨zet a a,d⟩;unfold zfm;generalize zet a a=m at *;generalize frB ⟨m,d⟩=x at *;simp only [wd,frc] at e1 e2;cases x <;> simp [z5l,z4j,frc,zeo,za8,e1,e2]
def frI (f:Fr):Prop:=wfU f.w/\inI f.d
theorem zxj:wfU za8:=⟨by decide,by decide,by decide,by decide⟩
theorem yog (w:Wd) (k:Int) (h:wfU w):wfU (zdk w k).1:=by
 unfold zdk;split
 ·rename_i hc;refine yc0 ?_ (by omega);obtain ⟨h0,h1,h2,h3⟩:=h;exact Int.mul_nonneg (by unfold mag; omega) (by omega)
 ·exact zxj
def zbo (a b:Fr):Wd×Wd×Bool:=if (frB a && frB b)=true then ((zdk a.w b.d).1,(zdk b.w a.d).1,(zdk a.w b.d).2 && (zdk b.w a.d).2) else (za8,za8,false)
theorem ya9 (a b:Fr) (ha:wfU a.w) (hb:wfU b.w):wfU (zbo a b).1/\wfU (zbo a b).2.1:=by
 unfold zbo;split
 ·exact ⟨yog _ _ ha,yog _ _ hb⟩
 ·exact ⟨zxj,zxj⟩
theorem ym1 {a b:Fr} (h:(zbo a b).2.2=true):(1<=a.d/\a.d<=1000000)/\1<=b.d/\b.d<=1000000:=by
 unfold zbo at h;split at h
 ·rename_i hc;simp only [frB,Bool.and_eq_true] at hc;exact ⟨zaw.mp hc.1.2,zaw.mp hc.2.2⟩
 ·cases h
theorem yjp (a b:Fr) (ha:frI a) (hb:frI b):RUN T znv [.agg (frc a),.agg (frc b)]=some ([.agg (wd (zbo a b).1),.agg (wd (zbo a b).2.1),bv (zbo a b).2.2],[]):=by
 refine zae rfl rfl ?_;have e1:=z9h a;have e2:=z9h b;have e3:=yji a.w b.d ha.1 hb.2;have e4:=yji b.w a.d hb.1 ha.2;unfold zbo;generalize zdk a.w b.d=x at *;generalize zdk b.w a.d=y at *;generalize frB a=p at *;generalize frB b=q at *;obtain ⟨⟨an,ah,al⟩,ad⟩:=a;obtain ⟨⟨bn,bh,bl⟩,bd⟩:=b;obtain ⟨x,xb⟩:=x;obtain ⟨y,yb⟩:=y;simp only [frc,wd] at e1 e2 e3 e4 ⊢;cases p <;> cases q <;> cases xb <;> simp [z4y,z4z,e1,e2,e3,e4,za8]
theorem yjq (a b:Fr) (ha:frI a) (hb:frI b):RUN T zny [.agg (frc a),.agg (frc b)]=some ([.agg (wd (zbo a b).1),.agg (wd (zbo a b).2.1),bv (zbo a b).2.2],[]):=by
 refine zae rfl rfl ?_;have e1:=z6e a;have e2:=z6e b;have e3:=yjj a.w b.d ha.1 hb.2;have e4:=yjj b.w a.d hb.1 ha.2;unfold zbo;generalize zdk a.w b.d=x at *;generalize zdk b.w a.d=y at *;generalize frB a=p at *;generalize frB b=q at *;obtain ⟨⟨an,ah,al⟩,ad⟩:=a;obtain ⟨⟨bn,bh,bl⟩,bd⟩:=b;obtain ⟨x,xb⟩:=x;obtain ⟨y,yb⟩:=y;simp only [frc,wd] at e1 e2 e3 e4 ⊢;cases p <;> cases q <;> cases xb <;> simp [z47,z4z,e1,e2,e3,e4,za8]
def zfg (a b:Fr):Int×Bool:=if (zbo a b).2.2=true then (zkl (zbo a b).1 (zbo a b).2.1,true) else (0,false)
theorem yjr (a b:Fr) (ha:frI a) (hb:frI b):RUN T znt [.agg (frc a),.agg (frc b)]=some ([iv (zfg a b).1,bv (zfg a b).2],[]):=by
 refine zae rfl rfl ?_;have e1:=yjp a b ha hb;obtain ⟨w1,w2⟩:=ya9 a b ha.1 hb.1;have e2:=y4l (zbo a b).1 (zbo a b).2.1 w1 w2;unfold zfg;generalize zbo a b=r at *;obtain ⟨x,y,o⟩:=r;simp only at e2 ⊢;generalize zkl x y=z at *;simp only [frc,wd] at e1 e2 ⊢;cases o <;> simp [z4k,zkc,e1,e2]
theorem yjs (a b:Fr) (ha:frI a) (hb:frI b):RUN T znu [.agg (frc a),.agg (frc b)]=some ([iv (zfg a b).1,bv (zfg a b).2],[]):=by
 refine zae rfl rfl ?_;have e1:=yjq a b ha hb;have e2:=y4g (zbo a b).1 (zbo a b).2.1;unfold zfg;generalize zbo a b=r at *;obtain ⟨x,y,o⟩:=r;simp only at e2 ⊢;generalize zkl x y=z at *;simp only [frc,wd] at e1 e2 ⊢;cases o <;> simp [z4u,zkc,e1,e2]
def ziu (a b:Fr):Fr×Bool:=if (zbo a b).2.2=true then (if (zcp (zbo a b).1 (zbo a b).2.1).2=true then zfm (zcp (zbo a b).1 (zbo a b).2.1).1 (a.d*b.d) else (zeo,false)) else (zeo,false)
theorem yor {a b:Int} (h:(1<=a/\a<=1000000)/\1<=b/\b<=1000000):IntKind.i64.wrap (a*b)=a*b:=by
 have h1:a*b<=1000000*1000000:=Int.mul_le_mul h.1.2 h.2.2 (by omega) (by decide);have h2:0<=a*b:=Int.mul_nonneg (by omega) (by omega);exact w64 (by omega) (by omega)
theorem y4o (a b:Fr) (ha:frI a) (hb:frI b):RUN T zsn [.agg (frc a),.agg (frc b)]=some ([.agg (frc (ziu a b).1),bv (ziu a b).2],[]):=by
 refine zae rfl rfl ?_;have e1:=yjp a b ha hb;obtain ⟨w1,w2⟩:=ya9 a b ha.1 hb.1;have e2:=y4e (zbo a b).1 (zbo a b).2.1 w1 w2;have hok := @ym1 a b;have e3:=yjo (zcp (zbo a b).1 (zbo a b).2.1).1 (a.d*b.d);unfold ziu;generalize zbo a b=r at *;obtain ⟨x,y,o⟩:=r;simp only at e2 e3 hok ⊢;generalize zcp x y=s at *;obtain ⟨s,so⟩:=s;simp only at e2 e3 ⊢;cases o with
 | false =>
  simp only [frc,wd] at e1 ⊢;simp [zw5,z4j,e1,zeo,za8]
 | true =>
  have hm:=yor (hok rfl);generalize zfm s (a.d*b.d)=f at *;obtain ⟨f,fo⟩:=f;simp only [frc,wd] at e1 e2 e3 ⊢;cases so <;> simp [zw5,z4j,e1,e2,e3,hm,zeo,za8]
theorem y4p (a b:Fr) (ha:frI a) (hb:frI b):RUN T zsq [.agg (frc a),.agg (frc b)]=some ([.agg (frc (ziu a b).1),bv (ziu a b).2],[]):=by
 refine zae rfl rfl ?_;have e1:=yjq a b ha hb;obtain ⟨w1,w2⟩:=ya9 a b ha.1 hb.1;have e2:=y4f (zbo a b).1 (zbo a b).2.1 w1 w2;have hok := @ym1 a b;have e3:=z6e ⟨(zcp (zbo a b).1 (zbo a b).2.1).1,a.d*b.d⟩;unfold ziu zfm;generalize zbo a b=r at *;obtain ⟨x,y,o⟩:=r;simp only at e2 e3 hok ⊢;generalize zcp x y=s at *;obtain ⟨s,so⟩:=s;simp only at e2 e3 ⊢;cases o with
 | false =>
  simp only [frc,wd] at e1 ⊢;simp [zw7,z4j,e1,zeo,za8]
 | true =>
  have hm:=yor (hok rfl);generalize frB ⟨s,a.d*b.d⟩=fo at *;simp only [frc,wd] at e1 e2 e3 ⊢;cases so <;> cases fo <;> simp [zw7,z4j,e1,e2,e3,hm,frc,zeo,za8]
structure Cnd where
 f:Int
 b:Int
 a:Sl
 z:Sl
deriving DecidableEq
def cnd (c:Cnd):List PV:=[iv c.f,iv c.b,iv c.a.n,iv c.a.g,iv c.z.n,iv c.z.g]
def zel (c:Cnd):Prop:=inI c.f/\inI c.b/\slI c.a/\slI c.z
structure Bd where
 lo:Int
 hi:Int
def bnd (b:Bd):List PV:=[iv b.lo,iv b.hi]
def zg9 (b:Bd):Bool:=decide (b.lo<=b.hi) && zf8 b.lo && zf8 b.hi
def zfd (x lo hi:Int):Int:=if x<lo then lo else if hi<x then hi else x
def zia (n l:Int):Bool:=zai n 0 40 && zai l 1 100
def zed (s:Sl) (l:Int) (b:Bd):Int×Bool:=if (zia s.n l && zg9 b)=true then (zfd (fdv s.g (s.n+l)).1 b.lo b.hi,true) else (0,false)
def zc4 (s:Sl) (l:Int):Fr×Bool:=if zia s.n l=true then zfm (zet s.g s.g) (s.n+l) else (zeo,false)
def zcb (c:Cnd) (l:Int):Fr×Bool:=if ((zc4 c.a l).2 && (zc4 c.z l).2)=true then ziu (zc4 c.a l).1 (zc4 c.z l).1 else (zeo,false)
theorem yjt (n l:Int):RUN T znk [iv n,iv l]=some ([bv (zia n l)],[]):=by
 refine zae rfl rfl ?_;have e1:=zcv n 0 40;have e2:=zcv l 1 100;unfold zia;generalize zai n 0 40=x at *;cases x <;> simp [z3c,zy0,-zbm,e1,e2]
theorem yju (b:Bd):RUN T znl [.agg (bnd b)]=some ([bv (zg9 b)],[]):=by
 refine zae rfl rfl ?_;have e1:=yi4 b.lo;have e2:=yi4 b.hi;unfold zg9;generalize zf8 b.lo=x at *;generalize zf8 b.hi=y at *
 by_cases h:b.lo<=b.hi <;> cases x <;> simp [z3e,zn6,bnd,e1,e2,h]
theorem yjv (b:Bd):RUN T zno [.agg (bnd b)]=some ([bv (zg9 b)],[]):=by
 refine zae rfl rfl ?_;have e1:=yi3 b.lo;have e2:=yi3 b.hi;unfold zg9;generalize zf8 b.lo=x at *;generalize zf8 b.hi=y at *
 by_cases h:b.lo<=b.hi <;> cases x <;> simp [z3o,zn6,bnd,e1,e2,h]
theorem yjw (x lo hi:Int):RUN T znm [iv x,iv lo,iv hi]=some ([iv (zfd x lo hi)],[]):=by
 refine zae rfl rfl ?_;unfold zfd
 by_cases h1:x<lo
 ·simp [zwk,zy4,h1]
 ·by_cases h2:hi<x <;> simp [zwk,zy4,h1,h2]
theorem yjx (x lo hi:Int):RUN T znp [iv x,iv lo,iv hi]=some ([iv (zfd x lo hi)],[]):=by
 refine zae rfl rfl ?_;unfold zfd
 by_cases h1:x<lo
 ·simp [zwr,zy4,h1]
 ·by_cases h2:hi<x <;> simp [zwr,zy4,h1,h2]
theorem z7r {n l:Int} (h:zia n l=true):IntKind.i64.wrap (n+l)=n+l:=by
 unfold zia at h;simp only [Bool.and_eq_true] at h;have h1:=zaw.mp h.1;have h2:=zaw.mp h.2;exact w64 (by omega) (by omega)
theorem z9i (s:Sl) (l:Int) (b:Bd) (hs:slI s):RUN T zlg [.agg (slc s),iv l,.agg (bnd b)]=some ([iv (zed s l b).1,bv (zed s l b).2],[]):=by
 refine zae rfl rfl ?_;have e1:=yjt s.n l;have e2:=yju b;have e3:=z84 s.g (s.n+l) hs.2;have e4:=yjw (fdv s.g (s.n+l)).1 b.lo b.hi;have hw := @z7r s.n l;unfold zed;generalize zia s.n l=x at *;generalize zg9 b=y at *;generalize fdv s.g (s.n+l)=q at *;obtain ⟨q,qo⟩:=q;simp only [bnd] at e2;cases x with
 | false=>simp [zv5,zv6,slc,bnd,e1]
 | true =>
  have hw:=hw rfl;cases y <;> simp [zv5,zv6,slc,bnd,e1,e2,e3,e4,hw]
theorem z9j (s:Sl) (l:Int) (b:Bd) (hs:slI s):RUN T zli [.agg (slc s),iv l,.agg (bnd b)]=some ([iv (zed s l b).1,bv (zed s l b).2],[]):=by
 refine zae rfl rfl ?_;have e1:=zbn s.n 0 40;have e1':=zbn l 1 100;have e2:=yjv b;have e3:=z83 s.g (s.n+l) hs.2;have e4:=yjx (fdv s.g (s.n+l)).1 b.lo b.hi;have hw := @z7r s.n l;unfold zed;unfold zia at *;generalize zai s.n 0 40=x at *;generalize zai l 1 100=x' at *;generalize zg9 b=y at *;generalize fdv s.g (s.n+l)=q at *;obtain ⟨q,qo⟩:=q;simp only [bnd] at e2;cases x with
 | false=>simp [ztq,zv6,-za1,slc,bnd,e1]
 | true =>
  cases x' with
  | false=>simp [ztq,zv6,-za1,slc,bnd,e1,e1']
  | true =>
   have hw:=hw rfl;cases y <;> simp [ztq,zv6,-za1,slc,bnd,e1,e1',e2,e3,e4,hw]
theorem y4q (c:Cnd) (h:zel c):RUN T zsm [.agg (cnd c)]=some ([.agg (slc (zbk c.a c.z).1),bv (zbk c.a c.z).2],[]):=by
 refine zae rfl rfl ?_;have e1:=z9f c.a c.z h.2.2.1 h.2.2.2;generalize zbk c.a c.z=p at *;obtain ⟨⟨pn,pg⟩,pb⟩:=p;simp only [slc] at e1 ⊢;simp [z4w,z4x,cnd,e1]
theorem y4r (c:Cnd) (h:zel c):RUN T zsp [.agg (cnd c)]=some ([.agg (slc (zbk c.a c.z).1),bv (zbk c.a c.z).2],[]):=by
 refine zae rfl rfl ?_;have e1:=z9g c.a c.z h.2.2.1 h.2.2.2;generalize zbk c.a c.z=p at *;obtain ⟨⟨pn,pg⟩,pb⟩:=p;simp only [slc] at e1 ⊢;simp [z44,z4x,cnd,e1]
theorem z9k (s:Sl) (l:Int) (hs:slI s):RUN T zls [.agg (slc s),iv l]=some ([.agg (frc (zc4 s l).1),bv (zc4 s l).2],[]):=by
 refine zae rfl rfl ?_;have e1:=yjt s.n l;have e2:=y4m s.g (s.n+l) hs.2;have hw := @z7r s.n l;unfold zc4;generalize zia s.n l=x at *;generalize zfm (zet s.g s.g) (s.n+l)=f at *;obtain ⟨⟨fw,fd⟩,fb⟩:=f;simp only [frc] at e2 ⊢;cases x with
 | false=>simp [zw3,z4j,slc,e1,zeo,za8]
 | true =>
  have hw:=hw rfl;simp [zw3,z4j,slc,e1,e2,hw]
theorem z9l (s:Sl) (l:Int) (hs:slI s):RUN T zlu [.agg (slc s),iv l]=some ([.agg (frc (zc4 s l).1),bv (zc4 s l).2],[]):=by
 refine zae rfl rfl ?_;have e1:=zbn s.n 0 40;have e1':=zbn l 1 100;have e2:=y4n s.g (s.n+l) hs.2;have hw := @z7r s.n l;unfold zc4;unfold zia at *;generalize zai s.n 0 40=x at *;generalize zai l 1 100=x' at *;generalize zfm (zet s.g s.g) (s.n+l)=f at *;obtain ⟨⟨fw,fd⟩,fb⟩:=f;simp only [frc] at e2 ⊢;cases x with
 | false=>simp [ztx,z4j,-za1,slc,e1,zeo,za8]
 | true =>
  cases x' with
  | false=>simp [ztx,z4j,-za1,slc,e1,e1',zeo,za8]
  | true =>
   have hw:=hw rfl;simp [ztx,z4j,-za1,slc,e1,e1',e2,hw]
theorem ylq (w:Wd) (d:Int) (hw:wfU w):frI (zfm w d).1:=by
 unfold zfm;split
 ·rename_i h;simp only [frB,Bool.and_eq_true] at h;have:=zaw.mp h.2;exact ⟨hw,by unfold inI; simp only; omega⟩
 ·exact ⟨zxj,by unfold inI zeo; simp⟩
theorem z69:frI zeo:=⟨zxj,by unfold inI zeo; simp⟩
theorem zu2 (s:Sl) (l:Int) (hs:slI s):frI (zc4 s l).1:=by
 unfold zc4;split
 ·exact ylq _ _ (y7q hs.2 hs.2)
 ·exact z69
theorem qc8 (a b:Fr):frI (ziu a b).1:=by
 unfold ziu;split
 ·split
  ·exact ylq _ _ (y8k _ _)
  ·exact z69
 ·exact z69
theorem zu3 (c:Cnd) (l:Int):frI (zcb c l).1:=by
 unfold zcb;split
 ·exact qc8 _ _
 ·exact z69
theorem z9m (c:Cnd) (l:Int) (h:zel c):RUN T zlp [.agg (cnd c),iv l]=some ([.agg (frc (zcb c l).1),bv (zcb c l).2],[]):=by
 refine zae rfl rfl ?_;have e1:=z9k c.a l h.2.2.1;have e2:=z9k c.z l h.2.2.2;have e3:=y4o (zc4 c.a l).1 (zc4 c.z l).1 (zu2 _ _ h.2.2.1) (zu2 _ _ h.2.2.2);unfold zcb;generalize zc4 c.a l=p at *;generalize zc4 c.z l=q at *;obtain ⟨p,pb⟩:=p;obtain ⟨q,qb⟩:=q;simp only at e1 e2 e3 ⊢;generalize ziu p q=r at *;obtain ⟨r,rb⟩:=r;simp only [frc,slc] at e1 e2 e3 ⊢;cases pb <;> cases qb <;> simp [z4i,z4j,cnd,e1,e2,e3,zeo,za8]
theorem z9n (c:Cnd) (l:Int) (h:zel c):RUN T zlr [.agg (cnd c),iv l]=some ([.agg (frc (zcb c l).1),bv (zcb c l).2],[]):=by
 refine zae rfl rfl ?_;have e1:=z9l c.a l h.2.2.1;have e2:=z9l c.z l h.2.2.2;have e3:=y4p (zc4 c.a l).1 (zc4 c.z l).1 (zu2 _ _ h.2.2.1) (zu2 _ _ h.2.2.2);unfold zcb;generalize zc4 c.a l=p at *;generalize zc4 c.z l=q at *;obtain ⟨p,pb⟩:=p;obtain ⟨q,qb⟩:=q;simp only at e1 e2 e3 ⊢;generalize ziu p q=r at *;obtain ⟨r,rb⟩:=r;simp only [frc,slc] at e1 e2 e3 ⊢;cases pb <;> cases qb <;> simp [z4s,z4j,cnd,e1,e2,e3,zeo,za8]
abbrev cfS (c:Cfg):PV := .agg [iv c.ro,iv c.de,iv c.bi,iv c.la,iv c.rw,iv c.nu,iv c.dn,.sl 1 (zab c.sg)]
def zbx (c:Cfg) (b:Bd) (x:Cnd):Int×Int×Bool:=if ((zed x.a c.la b).2 && (zed x.z c.la b).2)=true then ((zed x.a c.la b).1,(zed x.z c.la b).1,true) else (0,0,false)
def zei (c:Cfg) (f:Int):Int:=(atI c.sg f).getD 0
def zpe (s l r:Int):Bool:=if s=1 then decide (l<=r) else if s = -1 then decide (r<=l) else true
def zps (x:Cnd) (l:Int):Bool:=(zcb x l).2 && ((zbk x.a x.z).2 && ((zc4 (zbk x.a x.z).1 l).2 && ((zfg (zcb x l).1 (zc4 (zbk x.a x.z).1 l).1).2 && decide (0<(zfg (zcb x l).1 (zc4 (zbk x.a x.z).1 l).1).1))))
def zi7 (a b:Cnd):Bool:=decide (a.f<b.f) || (decide (a.f=b.f) && decide (a.b<b.b))
def zd2 (a b:Cnd) (l:Int):Bool:=(zcb a l).2 && ((zcb b l).2 && ((zfg (zcb a l).1 (zcb b l).1).2 && (decide (0<(zfg (zcb a l).1 (zcb b l).1).1) || (decide ((zfg (zcb a l).1 (zcb b l).1).1=0) && zi7 a b))))
theorem yjy (c:Cfg) (b:Bd) (x:Cnd) (h:zel x):RUN T zm8 [cfS c,.agg (bnd b),.agg (cnd x)]=some ([iv (zbx c b x).1,iv (zbx c b x).2.1,bv (zbx c b x).2.2],[]):=by
 have e1:=z9i x.a c.la b h.2.2.1;have e2:=z9i x.z c.la b h.2.2.2;unfold zbx;generalize zed x.a c.la b=p at *;generalize zed x.z c.la b=q at *;obtain ⟨p,pb⟩:=p;obtain ⟨q,qb⟩:=q;simp only [slc,bnd] at e1 e2 ⊢;refine zae rfl rfl ?_;cases pb <;> cases qb <;> simp [z1o,z1p,cnd,e1,e2]
theorem yjz (c:Cfg) (b:Bd) (x:Cnd) (h:zel x):RUN T znc [cfS c,.agg (bnd b),.agg (cnd x)]=some ([iv (zbx c b x).1,iv (zbx c b x).2.1,bv (zbx c b x).2.2],[]):=by
 have e1:=z9j x.a c.la b h.2.2.1;have e2:=z9j x.z c.la b h.2.2.2;unfold zbx;generalize zed x.a c.la b=p at *;generalize zed x.z c.la b=q at *;obtain ⟨p,pb⟩:=p;obtain ⟨q,qb⟩:=q;simp only [slc,bnd] at e1 e2 ⊢;refine zae rfl rfl ?_;cases pb <;> cases qb <;> simp [z18,z1p,cnd,e1,e2]
theorem yj0 (c:Cfg) (f:Int) (hl:c.sg.length<=9223372036854775807):RUN T zm9 [cfS c,iv f]=some ([iv (zei c f)],[]):=by
 refine zae rfl rfl ?_;have hw:=w64 (x:=(c.sg.length:Int)-1) (by omega) (by omega);have e1:=zcv f 0 ((c.sg.length:Int)-1);unfold zei;cases hs:atI c.sg f with
 | none =>
  have hn:=zjg hs;have:zai f 0 ((c.sg.length:Int)-1)=false:=by
   cases hw:zai f 0 ((c.sg.length:Int)-1) with
   | false=>rfl
   | true=>have:=zaw.mp hw; omega
  rw [this] at e1;simp [zv7,zy0,-zbm,e1,hw]
 | some x =>
  obtain ⟨j,rfl,hj,hjl⟩:=zgh hs;rw [show zai j 0 ((c.sg.length:Int)-1)=true from zaw.mpr (by omega)] at e1;have hj':=zay hj;simp [-getElem?_pos,zv7,zy0,-zbm,e1,hw,hj',hjl]
theorem yj1 (c:Cfg) (f:Int) (hl:c.sg.length<=9223372036854775807):RUN T znd [cfS c,iv f]=some ([iv (zei c f)],[]):=by
 refine zae rfl rfl ?_;have hw:=w64 (x:=(c.sg.length:Int)-1) (by omega) (by omega);have e1:=zbn f 0 ((c.sg.length:Int)-1);unfold zei;cases hs:atI c.sg f with
 | none =>
  have hn:=zjg hs;have:zai f 0 ((c.sg.length:Int)-1)=false:=by
   cases hw:zai f 0 ((c.sg.length:Int)-1) with
   | false=>rfl
   | true=>have:=zaw.mp hw; omega
  rw [this] at e1;simp [zwd,zy0,-za1,e1,hw]
 | some x =>
  obtain ⟨j,rfl,hj,hjl⟩:=zgh hs;rw [show zai j 0 ((c.sg.length:Int)-1)=true from zaw.mpr (by omega)] at e1;have hj':=zay hj;simp [-getElem?_pos,zwd,zy0,-za1,e1,hw,hj',hjl]
theorem y4s (s l r:Int):RUN T zsg [iv s,iv l,iv r]=some ([bv (zpe s l r)],[]):=by
 refine zae rfl rfl ?_;unfold zpe
 by_cases h1:s=1
 ·simp [zwx,zy4,h1]
 ·by_cases h2:s = -1 <;> simp [zwx,zy4,h1,h2]
theorem y4t (s l r:Int):RUN T zsj [iv s,iv l,iv r]=some ([bv (zpe s l r)],[]):=by
 refine zae rfl rfl ?_;unfold zpe
 by_cases h1:s=1
 ·by_cases h3:l<=r <;> simp [zwz,zy4,h1,h3]
 ·by_cases h2:s = -1 <;> simp [zwz,zy4,h1,h2]
theorem y4u (x:Cnd) (l:Int) (h:zel x):RUN T zsh [.agg (cnd x),iv l]=some ([bv (zps x l)],[]):=by
 refine zae rfl rfl ?_;have hp:=zmh (b:=x.z) h.2.2.1;have e1:=z9m x l h;have e2:=y4q x h;have e3:=z9k (zbk x.a x.z).1 l hp;have e4:=yjr (zcb x l).1 (zc4 (zbk x.a x.z).1 l).1 (zu3 _ _) (zu2 _ _ hp);unfold zps;generalize zcb x l=g at *;generalize zbk x.a x.z=p at *;obtain ⟨p,pb⟩:=p;simp only at e2 e3 e4 ⊢;generalize zc4 p l=q at *;obtain ⟨g,gb⟩:=g;obtain ⟨q,qb⟩:=q;simp only at e1 e3 e4 ⊢;generalize zfg g q=m at *;obtain ⟨m,mb⟩:=m;simp only [frc,slc,cnd] at e1 e2 e3 e4 ⊢;cases gb <;> cases pb <;> cases qb <;> cases mb <;> simp [z4g,zy0,e1,e2,e3,e4]
theorem y4v (x:Cnd) (l:Int) (h:zel x):RUN T zsk [.agg (cnd x),iv l]=some ([bv (zps x l)],[]):=by
 refine zae rfl rfl ?_;have hp:=zmh (b:=x.z) h.2.2.1;have e1:=z9n x l h;have e2:=y4r x h;have e3:=z9l (zbk x.a x.z).1 l hp;have e4:=yjs (zcb x l).1 (zc4 (zbk x.a x.z).1 l).1 (zu3 _ _) (zu2 _ _ hp);unfold zps;generalize zcb x l=g at *;generalize zbk x.a x.z=p at *;obtain ⟨p,pb⟩:=p;simp only at e2 e3 e4 ⊢;generalize zc4 p l=q at *;obtain ⟨g,gb⟩:=g;obtain ⟨q,qb⟩:=q;simp only at e1 e3 e4 ⊢;generalize zfg g q=m at *;obtain ⟨m,mb⟩:=m;simp only [frc,slc,cnd] at e1 e2 e3 e4 ⊢;cases gb <;> cases pb <;> cases qb <;> cases mb <;> simp [z4q,zy0,e1,e2,e3,e4]
theorem y4w (a b:Cnd):RUN T zsi [.agg (cnd a),.agg (cnd b)]=some ([bv (zi7 a b)],[]):=by
 refine zae rfl rfl ?_;have e1:=yjn a.f b.f;have e2:=yjn a.b b.b;have e3:=yjh (zcr a.f b.f) (zcr a.b b.b);have hr:zag 8 2=true:=by decide
 have e4:zi7 a b=decide ((if zcr a.f b.f=0 then zcr a.b b.b else zcr a.f b.f)<0):=by
  unfold zi7 zcr;rw [Bool.eq_iff_iff];simp only [Bool.or_eq_true,Bool.and_eq_true,decide_eq_true_eq];split <;> split <;> (try split) <;> (try split) <;> (try split) <;> (try split) <;> omega
 rw [e4];simp [z4m,zy0,cnd,e1,e2,e3,hr]
theorem y4x (a b:Cnd):RUN T zsl [.agg (cnd a),.agg (cnd b)]=some ([bv (zi7 a b)],[]):=by
 refine zae rfl rfl ?_;unfold zi7
 by_cases h1:a.f<b.f
 ·simp [zw1,zy0,cnd,h1]
 ·by_cases h2:a.f=b.f <;> simp [zw1,zy0,cnd,h1,h2]
theorem y4y (a b:Cnd) (l:Int) (ha:zel a) (hb:zel b):RUN T zns [.agg (cnd a),.agg (cnd b),iv l]=some ([bv (zd2 a b l)],[]):=by
 have e1:=z9m a l ha;have e2:=z9m b l hb;have e3:=yjr (zcb a l).1 (zcb b l).1 (zu3 _ _) (zu3 _ _);have e4:=y4w a b;unfold zd2;generalize zcb a l=g at *;generalize zcb b l=q at *;generalize zi7 a b=le at *;obtain ⟨g,gb⟩:=g;obtain ⟨q,qb⟩:=q;simp only at e1 e2 e3 ⊢;generalize zfg g q=m at *;obtain ⟨m,mb⟩:=m;simp only [frc,cnd] at e1 e2 e3 e4 ⊢;refine zae rfl rfl ?_;cases gb <;> cases qb <;> cases mb <;> by_cases h1:0<m <;> by_cases h2:m=0 <;> simp [z3y,zy4,e1,e2,e3,e4,h1,h2]
theorem y4z (a b:Cnd) (l:Int) (ha:zel a) (hb:zel b):RUN T zln [.agg (cnd a),.agg (cnd b),iv l]=some ([bv (zd2 a b l)],[]):=by
 have e1:=z9n a l ha;have e2:=z9n b l hb;have e3:=yjs (zcb a l).1 (zcb b l).1 (zu3 _ _) (zu3 _ _);have e4:=y4x a b;unfold zd2;generalize zcb a l=g at *;generalize zcb b l=q at *;generalize zi7 a b=le at *;obtain ⟨g,gb⟩:=g;obtain ⟨q,qb⟩:=q;simp only at e1 e2 e3 ⊢;generalize zfg g q=m at *;obtain ⟨m,mb⟩:=m;simp only [frc,cnd] at e1 e2 e3 e4 ⊢;refine zae rfl rfl ?_;cases gb <;> cases qb <;> cases mb <;> by_cases h1:0<m <;> by_cases h2:m=0 <;> simp [z39,zy4,e1,e2,e3,e4,h1,h2]
def zdw (c:Cfg) (b:Bd) (x:Cnd):Bool:=zbf c && ((zbx c b x).2.2 && (decide (c.rw<=x.a.n) && (decide (c.rw<=x.z.n) && (zpe (zei c x.f) (zbx c b x).1 (zbx c b x).2.1 && zps x c.la))))
theorem y40 (c:Cfg) (b:Bd) (x:Cnd) (h:zel x) (hl:c.sg.length<=9223372036854775807):RUN T znr [cfS c,.agg (bnd b),.agg (cnd x)]=some ([bv (zdw c b x)],[]):=by
 have e1:=yjy c b x h;have e2:=z6b c hl;have e3:=yj0 c x.f hl;have e5:=y4u x c.la h;unfold zdw;generalize zbx c b x=p at *;obtain ⟨p1,p2,pb⟩:=p;have e4:=y4s (zei c x.f) p1 p2;simp only at e1 ⊢;generalize zei c x.f=s at *;generalize zpe s p1 p2=ab at *;generalize zps x c.la=ib at *;generalize zbf c=cb at *;simp only [cnd,bnd] at e1 e5 ⊢;refine zae rfl rfl ?_;cases cb <;> cases pb <;> by_cases h1:c.rw<=x.a.n <;> by_cases h2:c.rw<=x.z.n <;> cases ab <;> simp [z3w,zy4,e1,e2,e3,e4,e5,h1,h2]
theorem y41 (c:Cfg) (b:Bd) (x:Cnd) (h:zel x) (hl:c.sg.length<=9223372036854775807):RUN T zjz [cfS c,.agg (bnd b),.agg (cnd x)]=some ([bv (zdw c b x)],[]):=by
 have e1:=yjz c b x h;have e2:=zxe c hl;have e3:=yj1 c x.f hl;have e5:=y4v x c.la h;unfold zdw;generalize zbx c b x=p at *;obtain ⟨p1,p2,pb⟩:=p;have e4:=y4t (zei c x.f) p1 p2;simp only at e1 ⊢;generalize zei c x.f=s at *;generalize zpe s p1 p2=ab at *;generalize zps x c.la=ib at *;generalize zbf c=cb at *;simp only [cnd,bnd] at e1 e5 ⊢;refine zae rfl rfl ?_;cases cb <;> cases pb <;> by_cases h1:c.rw<=x.a.n <;> by_cases h2:c.rw<=x.z.n <;> cases ab <;> simp [z37,zy4,e1,e2,e3,e4,e5,h1,h2]
def zcj (l:List Cnd):List (List PV):=l.map cnd
@[simp] theorem qkp (l:List Cnd):(zcj l).length=l.length:=by simp [zcj]
theorem zxo {l:List Cnd} {i:Nat} {x:Cnd} (h:l[i]?=some x):(zcj l)[i]?=some (cnd x):=by simp [zcj,h]
def noB (c:Cfg) (b:Bd) (x y:Cnd):Bool := !zdw c b y || !zd2 y x c.la
def zmi (c:Cfg) (b:Bd) (l:List Cnd) (x:Cnd):Bool:=zdw c b x && l.all (noB c b x)
def zkz:Cnd:=⟨0,0,⟨0,0⟩,⟨0,0⟩⟩
def ze7 (c:Cfg) (b:Bd) (l:List Cnd):Cnd×Bool:=match l.find? (zmi c b l) with
 | some x=>(x,true)
 | none=>(zkz,false)
theorem y42 (c:Cfg) (b:Bd) (l:List Cnd) (hl:l.length<=1048576) (hc:c.sg.length<=1048576) (hi : ∀ x∈l,zel x):RUN T zr5 [cfS c,.agg (bnd b),.sl 6 (zcj l)]=some ([.agg (cnd (ze7 c b l).1),bv (ze7 c b l).2],[]):=by
 have eM : ∀ x∈l,RUN T zjz [cfS c,.agg (bnd b),.agg (cnd x)]=some ([bv (zdw c b x)],[]):=fun x hx=>y41 c b x (hi x hx) (by omega);have eB : ∀ x∈l,∀ y∈l,RUN T zln [.agg (cnd x),.agg (cnd y),iv c.la]=some ([bv (zd2 x y c.la)],[]):=fun x hx y hy=>y4z x y c.la (hi x hx) (hi y hy);obtain ⟨R,hR⟩ : ∃ R,R=ze7 c b l:=⟨_,rfl⟩;unfold ze7 at hR;rw [show ze7 c b l=R by rw [hR]; rfl];simp only [bnd] at eM ⊢;refine zae rfl rfl ?_;simp [-getElem?_pos,z3j,z27];refine zaq (fun n st => ∃ i:Nat,i+n=l.length/\(l.drop i).find? (zmi c b l)=l.find? (zmi c b l)/\st.V 2 = .sl 6 (zcj l)/\st.V 3 = .ptr 0 none 0 0 0/\st.V 4 = .ptr 1 none 0 0 0/\st.V 6 = .ptr 2 none 0 0 0/\st.V 8=iv i/\st.S 0=some (.box [iv c.ro,iv c.de,iv c.bi,iv c.la,iv c.rw,iv c.nu,iv c.dn,.sl 1 (zab c.sg)])/\st.S 1=some (.box [iv b.lo,iv b.hi])/\st.S 2=some (.box [iv 0,iv 0,iv 0,iv 0,iv 0,iv 0])) ?_ l.length _ ⟨0,by simp⟩;rintro n st ⟨i,hin,hf,v2,v3,v4,v6,v8,hS0,hS1,hS2⟩
 by_cases h:i<l.length
 ·obtain ⟨x,hx⟩ : ∃ x,l[i]?=some x:=⟨_,bG h⟩;have hx':=zxo hx;have hxm:=bF hx;have hws:=wS h (by omega:l.length<=9223372036854775807);rw [zdi hx,List.find?_cons] at hf;have e1:=eM x hxm;simp only [cnd] at e1;have eB' : ∀ y∈l,RUN T zln [.agg [iv y.f,iv y.b,iv y.a.n,iv y.a.g,iv y.z.n,iv y.z.g],.agg [iv x.f,iv x.b,iv x.a.n,iv x.a.g,iv x.z.n,iv x.z.g],iv c.la]=some ([bv (zd2 y x c.la)],[]):=fun y hy=>eB y hy x hxm;have eM' : ∀ y∈l,RUN T zjz [cfS c,.agg [iv b.lo,iv b.hi],.agg [iv y.f,iv y.b,iv y.a.n,iv y.a.g,iv y.z.n,iv y.z.g]]=some ([bv (zdw c b y)],[]):=fun y hy=>eM y hy;clear eM eB;obtain ⟨kb0,hkb⟩ : ∃ k,k=zmi c b l x:=⟨_,rfl⟩;rw [<- hkb] at hf;have hkb2:kb0=(zdw c b x && (l.drop 0).all (noB c b x)):=by rw [hkb]; rfl
  clear hkb;generalize hmx:zdw c b x=mx at *;simp [-getElem?_pos,z8v,v2,v3,v4,v6,v8,hS0,hS1,hS2,h,hx',cnd,e1];refine zaq (fun n' s => ∃ (j:Nat) (k:Bool),j+n'=l.length/\(k && (l.drop j).all (noB c b x))=kb0/\s.V 2 = .sl 6 (zcj l)/\s.V 3 = .ptr 0 none 0 0 0/\s.V 4 = .ptr 1 none 0 0 0/\s.V 6 = .ptr 2 none 0 0 0/\s.V 8=iv i/\s.V 9=bv k/\s.V 10=iv j/\s.S 0=some (.box [iv c.ro,iv c.de,iv c.bi,iv c.la,iv c.rw,iv c.nu,iv c.dn,.sl 1 (zab c.sg)])/\s.S 1=some (.box [iv b.lo,iv b.hi])/\s.S 2=some (.box [iv 0,iv 0,iv 0,iv 0,iv 0,iv 0])) ?_ l.length _ ⟨0,mx,by omega,hkb2.symm,by simp [v2,v3,v4,v6,v8,hS0,hS1,hS2]⟩;clear v2 v3 v4 v6 v8 hS0 hS1 hS2;rintro n' s ⟨j,k,hj,hk,v2,v3,v4,v6,v8,v9,v10,hS0,hS1,hS2⟩
  by_cases hjl:j<l.length
  ·cases k with
   | true =>
    obtain ⟨y,hy⟩ : ∃ y,l[j]?=some y:=⟨_,bG hjl⟩;have hy':=zxo hy;have hym:=bF hy;have hwj:=wS hjl (by omega:l.length<=9223372036854775807);have e2:=eM' y hym;have e3:=eB' y hym;rw [zdi hy,List.all_cons] at hk;have hno:noB c b x y=(!zdw c b y || !zd2 y x c.la):=rfl;rw [hno] at hk;clear eM' eB' e1 hno;generalize zdw c b y=my at *;generalize zd2 y x c.la=by' at *
    cases my <;> cases by' <;> simp [-getElem?_pos,zwq,v2,v3,v4,v6,v8,hS0,hS1,hS2,v9,v10,hjl,h,hx',hy',cnd,e2,e3,hwj]
    all_goals first
     | exact zaj (n'-1) (by omega) ⟨j+1,true,by omega,(by simpa using hk),by simp [v2,v3,v4,v6,v8,hS0,hS1,hS2]⟩
     | exact zaj (n'-1) (by omega) ⟨j+1,false,by omega,(by simpa using hk),by simp [v2,v3,v4,v6,v8,hS0,hS1,hS2]⟩
   | false =>
    have hk0:kb0=false:=by rw [<- hk]; rfl
    subst hk0;simp only at hf;simp [-getElem?_pos,zwq,v2,v3,v4,v6,v8,hS0,hS1,hS2,v9,v10,hjl,hws];exact zaj (n-1) (by omega) ⟨i+1,by omega,hf,by simp [v2,v3,v4,v6,hS0,hS1,hS2]⟩
  ·rw [List.drop_eq_nil_of_le (by omega)] at hk;simp only [List.all_nil,Bool.and_true] at hk;subst hk;cases k with
   | true =>
    simp only at hf;rw [<- hf] at hR;simp only at hR;subst hR;simp [-getElem?_pos,zwq,v2,v3,v4,v6,v8,hS0,hS1,hS2,v9,v10,hjl,h,hx',cnd]
   | false =>
    simp only at hf;simp [-getElem?_pos,zwq,v2,v3,v4,v6,v8,hS0,hS1,hS2,v9,v10,hjl,hws];exact zaj (n-1) (by omega) ⟨i+1,by omega,hf,by simp [v2,v3,v4,v6,hS0,hS1,hS2]⟩
 ·rw [List.drop_eq_nil_of_le (by omega)] at hf;rw [<- hf] at hR;simp only [List.find?_nil] at hR;subst hR;simp [-getElem?_pos,z8v,v2,v6,v8,hS2,h,zkz,cnd]
theorem y8l (a:Wd):ze4 a a=0:=by
 have h : ∀ x,zcr x x=0:=fun x=>by
  unfold zcr;rw [if_neg (by omega),if_neg (by omega)]
 unfold ze4;rw [h,h,if_pos rfl]
theorem y7z (a:Wd):zkl a a=0:=by
 unfold zkl;rw [y8l];split <;> simp_all
theorem y7v (a:Fr):(zfg a a).1=0:=by
 unfold zfg;split
 ·rename_i h;have:(zbo a a).1=(zbo a a).2.1:=by
   unfold zbo;split <;> rfl
  simp only;rw [this,y7z]
 ·rfl
theorem y7p (x:Cnd) (l:Int):zd2 x x l=false:=by
 have h1:=y7v (zcb x l).1;have h2:zi7 x x=false:=by
  unfold zi7;rw [decide_eq_false (show ¬ x.f<x.f by omega),decide_eq_false (show ¬ x.b<x.b by omega)];simp
 unfold zd2;rw [h1,h2];simp
theorem qcz {p q:Cnd->Bool} (l:List Cnd):(l.filter p).all q=l.all fun y => !p y || q y:=by
 induction l with
 | nil=>rfl
 | cons y l ih =>
  simp only [List.filter_cons,List.all_cons];cases h:p y with
  | true=>simp [ih]
  | false=>simp [ih]
theorem qd2 {p q:Cnd->Bool} (l:List Cnd):(l.filter p).find? q=l.find? fun x=>p x && q x:=by
 induction l with
 | nil=>rfl
 | cons y l ih =>
  simp only [List.filter_cons,List.find?_cons];cases h:p y with
  | true =>
   simp only [if_true,List.find?_cons,Bool.true_and];cases q y <;> simp [ih]
  | false=>simp [ih]
theorem y85 (c:Cfg) (b:Bd) (l:List Cnd):l.find? (zmi c b l)=(l.filter (zdw c b)).find? fun x=>(l.filter (zdw c b)).all fun y => !zd2 y x c.la:=by
 rw [qd2]
 congr 1
 funext x
 unfold zmi;rw [qcz];rfl
theorem y43 (c:Cfg) (b:Bd) (l:List Cnd) (hl:l.length<=1048576) (hc:c.sg.length<=1048576) (hi : ∀ x∈l,zel x):RUN T zr1 [cfS c,.agg (bnd b),.sl 6 (zcj l)]=some ([.agg (cnd (ze7 c b l).1),bv (ze7 c b l).2],[]):=by
 have eM : ∀ x∈l,RUN T znr [cfS c,.agg [iv b.lo,iv b.hi],.agg [iv x.f,iv x.b,iv x.a.n,iv x.a.g,iv x.z.n,iv x.z.g]]=some ([bv (zdw c b x)],[]):=fun x hx=>y40 c b x (hi x hx) (by omega);have eB : ∀ x∈l,∀ y∈l,RUN T zns [.agg [iv x.f,iv x.b,iv x.a.n,iv x.a.g,iv x.z.n,iv x.z.g],.agg [iv y.f,iv y.b,iv y.a.n,iv y.a.g,iv y.z.n,iv y.z.g],iv c.la]=some ([bv (zd2 x y c.la)],[]):=fun x hx y hy=>y4y x y c.la (hi x hx) (hi y hy);obtain ⟨R,hR⟩ : ∃ R,R=ze7 c b l:=⟨_,rfl⟩;unfold ze7 at hR;rw [show ze7 c b l=R by rw [hR]; rfl];rw [y85] at hR;simp only [bnd];refine zae rfl rfl ?_;have hr0:zag 48 0=true:=by decide
 have hr1:zag 48 1=true:=by decide
 simp [-getElem?_pos,z26,z27,hr0];refine zaq (fun n st => ∃ (i o e:Nat) (m:List Cnd),i+n=l.length/\m=(l.take i).filter (zdw c b)/\st.V 3 = .ptr 0 none 0 0 0/\st.V 4 = .ptr 1 none 0 0 0/\st.V 6 = .ptr 2 none 0 0 0/\st.V 8 = .ref o none e 0 m.length/\st.V 17 = .sl 6 (zcj l)/\st.V 18=iv l.length/\st.V 19=iv i/\2<o/\o<st.nx/\st.S 0=some (.box [iv c.ro,iv c.de,iv c.bi,iv c.la,iv c.rw,iv c.nu,iv c.dn,.sl 1 (zab c.sg)])/\st.S 1=some (.box [iv b.lo,iv b.hi])/\st.S 2=some (.box [iv 0,iv 0,iv 0,iv 0,iv 0,iv 0])/\st.S o=some (.row 6 (zcj m))) ?_ l.length _ ⟨0,3,0,[],by simp [zcj]⟩;rintro n st ⟨i,o,e,m,hin,hm,v3,v4,v6,v8,v17,v18,v19,ho,hox,hS0,hS1,hS2,hSo⟩;obtain ⟨a01,a02,a03,a04⟩:=fr (show 0<st.nx by omega);obtain ⟨a11,a12,a13,a14⟩:=fr (show 1<st.nx by omega);obtain ⟨a21,a22,a23,a24⟩:=fr (show 2<st.nx by omega);obtain ⟨a31,a32,a33,a34⟩:=fr (show 0<o by omega);obtain ⟨a41,a42,a43,a44⟩:=fr (show 1<o by omega);obtain ⟨a51,a52,a53,a54⟩:=fr (show 2<o by omega);obtain ⟨a61,a62,a63,a64⟩:=fr (show o<st.nx by omega);obtain ⟨a71,a72,a73,a74⟩:=fr (show o<st.nx+1 by omega)
 by_cases h:i<l.length
 ·obtain ⟨x,hx⟩ : ∃ x,l[i]?=some x:=⟨_,bG h⟩;have hx':=zxo hx;have hxm:=bF hx;have hws:=wS h (by omega:l.length<=9223372036854775807);have e1:=eM x hxm;have hml:m.length<=i:=by rw [hm]; exact Nat.le_trans (List.length_filter_le _ _) (by simp; omega)
  have hr48:zag 48 (m.length+1)=true:=by simp [zag]; omega
  have htk:(l.take (i+1)).filter (zdw c b)=if zdw c b x=true then m++[x] else m:=by
   rw [List.take_succ,hx,List.filter_append,<- hm]
   by_cases c':zdw c b x=true <;> simp [c']
  have hsn:zcj m++[[iv x.f,iv x.b,iv x.a.n,iv x.a.g,iv x.z.n,iv x.z.g]]=zcj (m++[x]):=by simp [zcj,cnd]
  clear eM eB hm;cases hmx:zdw c b x with
  | true =>
   rw [hmx] at e1;rw [if_pos hmx] at htk;simp [-getElem?_pos,z25,v3,v4,v6,v8,v17,v18,v19,hS0,hS1,hS2,hSo,h,hx',cnd,e1,hws,hr1,hr48,hsn,a01,a02,a03,a04,a11,a12,a13,a14,a21,a22,a23,a24,a31,a32,a33,a34,a41,a42,a43,a44,a51,a52,a53,a54,a61,a62,a63,a64,a71,a72,a73,a74];exact zaj (n-1) (by omega) ⟨i+1,st.nx+2,st.ep,m++[x],by omega,htk.symm,by simp [v3],by simp [v4],by simp [v6],by simp,by simp [v17],by simp [v18],by simp,by omega,by simp [a01,a02,a03,a04,a11,a12,a13,a14,a21,a22,a23,a24,a31,a32,a33,a34,a41,a42,a43,a44,a51,a52,a53,a54,a61,a62,a63,a64,a71,a72,a73,a74,hS0,hS1,hS2]⟩
  | false =>
   rw [hmx] at e1;rw [if_neg (by simp [hmx])] at htk;simp [-getElem?_pos,z25,v3,v4,v6,v8,v17,v18,v19,hS0,hS1,hS2,hSo,h,hx',cnd,e1,hws,a01,a02,a03,a04,a11,a12,a13,a14,a21,a22,a23,a24,a31,a32,a33,a34,a41,a42,a43,a44,a51,a52,a53,a54,a61,a62,a63,a64,a71,a72,a73,a74];exact zaj (n-1) (by omega) ⟨i+1,o,e,m,by omega,htk.symm,by simp [v3],by simp [v4],by simp [v6],by simp [v8],by simp [v17],by simp [v18],by simp,by omega,by simp; omega,by simp [a01,a02,a03,a04,a11,a12,a13,a14,a21,a22,a23,a24,a31,a32,a33,a34,a41,a42,a43,a44,a51,a52,a53,a54,a61,a62,a63,a64,a71,a72,a73,a74,hS0,hS1,hS2,hSo]⟩
 ·rw [List.take_of_length_le (by omega)] at hm;rw [<- hm] at hR;have hmem : ∀ y∈m,y∈l:=fun y hy=>by rw [hm] at hy; exact (List.mem_filter.mp hy).1
  have hml:m.length<=1048576:=by rw [hm]; exact Nat.le_trans (List.length_filter_le _ _) hl
  simp [-getElem?_pos,z25,v8,v18,v19,hSo,h];obtain ⟨q,hq⟩ : ∃ q:Cnd->Bool,q=fun x=>m.all fun y => !zd2 y x c.la:=⟨_,rfl⟩;rw [<- hq] at hR;clear eM hm hin;refine zaq (fun n st => ∃ i:Nat,i+n=m.length/\(m.drop i).find? q=m.find? q/\st.V 3 = .ptr 0 none 0 0 0/\st.V 4 = .ptr 1 none 0 0 0/\st.V 6 = .ptr 2 none 0 0 0/\st.V 8 = .ref o none e 0 m.length/\st.V 32 = .ref o none e 0 m.length/\st.V 33=iv m.length/\st.V 34=iv i/\2<o/\o<st.nx/\st.S 0=some (.box [iv c.ro,iv c.de,iv c.bi,iv c.la,iv c.rw,iv c.nu,iv c.dn,.sl 1 (zab c.sg)])/\st.S 1=some (.box [iv b.lo,iv b.hi])/\st.S 2=some (.box [iv 0,iv 0,iv 0,iv 0,iv 0,iv 0])/\st.S o=some (.row 6 (zcj m))) ?_ m.length _ ⟨0,by simp,by simp,by simp [v3],by simp [v4],by simp [v6],by simp [v8],by simp,by simp,by simp,ho,by simp [hox,hS0,hS1,hS2,hSo]⟩;clear v3 v4 v6 v8 v17 v18 v19 hS0 hS1 hS2 hSo hox ho;clear a01 a02 a03 a04 a11 a12 a13 a14 a21 a22 a23 a24 a31 a32 a33 a34 a41 a42 a43 a44 a51 a52 a53 a54 a61 a62 a63 a64 a71 a72 a73 a74;rintro n st ⟨i,hin,hf,v3,v4,v6,v8,v32,v33,v34,ho,hox,hS0,hS1,hS2,hSo⟩;obtain ⟨b01,b02,b03,b04⟩:=fr (show 0<st.nx by omega);obtain ⟨b11,b12,b13,b14⟩:=fr (show 1<st.nx by omega);obtain ⟨b21,b22,b23,b24⟩:=fr (show 2<st.nx by omega);obtain ⟨b31,b32,b33,b34⟩:=fr (show 0<o by omega);obtain ⟨b41,b42,b43,b44⟩:=fr (show 1<o by omega);obtain ⟨b51,b52,b53,b54⟩:=fr (show 2<o by omega);obtain ⟨b61,b62,b63,b64⟩:=fr (show o<st.nx by omega)
  by_cases h:i<m.length
  ·obtain ⟨x,hx⟩ : ∃ x,m[i]?=some x:=⟨_,bG h⟩;have hx':=zxo hx;have hxm:=bF hx;have hws:=wS h (by omega:m.length<=9223372036854775807);rw [zdi hx,List.find?_cons] at hf;obtain ⟨kb0,hkb⟩ : ∃ k,k=q x:=⟨_,rfl⟩;rw [<- hkb] at hf;have hkb2:kb0=(true && (m.drop 0).all fun y => !zd2 y x c.la):=by rw [hkb,hq]; rfl
   clear hkb hq;simp [-getElem?_pos,z8u,v3,v4,v6,v8,v32,v33,v34,hS0,hS1,hS2,hSo,h,hx',cnd,b01,b02,b03,b04,b11,b12,b13,b14,b21,b22,b23,b24,b31,b32,b33,b34,b41,b42,b43,b44,b51,b52,b53,b54,b61,b62,b63,b64];generalize hpp:st.nx=pp at *;refine zaq (fun n' s => ∃ (j:Nat) (k:Bool),j+n'=m.length/\(k && (m.drop j).all fun y => !zd2 y x c.la)=kb0/\s.V 3 = .ptr 0 none 0 0 0/\s.V 4 = .ptr 1 none 0 0 0/\s.V 6 = .ptr 2 none 0 0 0/\s.V 8 = .ref o none e 0 m.length/\s.V 32 = .ref o none e 0 m.length/\s.V 33=iv m.length/\s.V 34=iv i/\s.V 11=iv i/\s.V 12 = .ptr pp none st.ep 0 0/\s.V 13=bv k/\s.V 39 = .ref o none e 0 m.length/\s.V 40=iv m.length/\s.V 41=iv j/\pp<s.nx/\s.S 0=some (.box [iv c.ro,iv c.de,iv c.bi,iv c.la,iv c.rw,iv c.nu,iv c.dn,.sl 1 (zab c.sg)])/\s.S 1=some (.box [iv b.lo,iv b.hi])/\s.S 2=some (.box [iv 0,iv 0,iv 0,iv 0,iv 0,iv 0])/\s.S o=some (.row 6 (zcj m))/\s.S pp=some (.box [iv x.f,iv x.b,iv x.a.n,iv x.a.g,iv x.z.n,iv x.z.g])) ?_ m.length _ ⟨0,true,by omega,hkb2.symm,by simp [v3,v4,v6,v8,v32,v33,v34,b01,b02,b03,b04,b11,b12,b13,b14,b21,b22,b23,b24,b31,b32,b33,b34,b41,b42,b43,b44,b51,b52,b53,b54,b61,b62,b63,b64,hS0,hS1,hS2,hSo]⟩;clear v3 v4 v6 v8 v32 v33 v34 hS0 hS1 hS2 hSo;rintro n' s ⟨j,k,hj,hk,v3,v4,v6,v8,v32,v33,v34,v11,v12,v13,v39,v40,v41,hpn,hS0,hS1,hS2,hSo,hSp⟩;have Z1:=bI hS0 <| bI hS1 <| bI hS2 <| bI hSo hSp
   obtain ⟨d01,d02,d03,d04⟩:=fr (show 0<s.nx by omega);obtain ⟨d11,d12,d13,d14⟩:=fr (show 1<s.nx by omega);obtain ⟨d21,d22,d23,d24⟩:=fr (show 2<s.nx by omega);obtain ⟨d31,d32,d33,d34⟩:=fr (show 0<o by omega);obtain ⟨d41,d42,d43,d44⟩:=fr (show 1<o by omega);obtain ⟨d51,d52,d53,d54⟩:=fr (show 2<o by omega);obtain ⟨d61,d62,d63,d64⟩:=fr (show o<s.nx by omega);obtain ⟨d71,d72,d73,d74⟩:=fr (show 0<pp by omega);obtain ⟨d81,d82,d83,d84⟩:=fr (show 1<pp by omega);obtain ⟨d91,d92,d93,d94⟩:=fr (show 2<pp by omega);obtain ⟨d101,d102,d103,d104⟩:=fr (show o<pp by omega);obtain ⟨d111,d112,d113,d114⟩:=fr (show pp<s.nx by omega);have Z0:=bI d01 <| bI d02 <| bI d03 <| bI d04 <| bI d11 <| bI d12 <| bI d13 <| bI d14 <| bI d21 <| bI d22 <| bI d23 <| bI d24 <| bI d31 <| bI d32 <| bI d33 <| bI d34 <| bI d41 <| bI d42 <| bI d43 <| bI d44 <| bI d51 <| bI d52 <| bI d53 <| bI d54 <| bI d61 <| bI d62 <| bI d63 <| bI d64 <| bI d71 <| bI d72 <| bI d73 <| bI d74 <| bI d81 <| bI d82 <| bI d83 <| bI d84 <| bI d91 <| bI d92 <| bI d93 <| bI d94 <| bI d101 <| bI d102 <| bI d103 <| bI d104 <| bI d111 <| bI d112 <| bI d113 d114
   by_cases hjl:j<m.length
   ·obtain ⟨y,hy⟩ : ∃ y,m[j]?=some y:=⟨_,bG hjl⟩;have hy':=zxo hy;have hym:=bF hy;have hwj:=wS hjl (by omega:m.length<=9223372036854775807);have e3:=eB y (hmem y hym) x (hmem x hxm);rw [zdi hy,List.all_cons] at hk;clear eB;cases k with
    | false =>
     have hk':(false && (m.drop (j+1)).all fun y => !zd2 y x c.la)=kb0:=by rw [<- hk]; rfl
     simp [-getElem?_pos,zok,v3,v4,v6,v8,v11,v12,v13,v39,v40,v41,Z1,hjl,hy',cnd,hwj,Z0];exact zaj (n'-1) (by omega) ⟨j+1,false,by omega,hk',by simp [v3],by simp [v4],by simp [v6],by simp [v8],by simp [v32],by simp [v33],by simp [v34],by simp [v11],by simp [v12],by simp [v13],by simp [v39],by simp [v40],by simp,by simp; omega,by simp [Z0,Z1]⟩
    | true =>
     by_cases hij:j=i
     ·have hyx:y=x:=by
       subst hij;rw [hx] at hy; exact (Option.some.inj hy).symm
      subst hyx;rw [y7p] at hk;have hk':(true && (m.drop (j+1)).all fun z => !zd2 z y c.la)=kb0:=by rw [<- hk]; rfl
      subst hij;simp [-getElem?_pos,zok,v3,v4,v6,v8,v11,v12,v13,v39,v40,v41,Z1,hjl,hy',cnd,hwj,Z0];exact zaj (n'-1) (by omega) ⟨j+1,true,by omega,hk',by simp [v3],by simp [v4],by simp [v6],by simp [v8],by simp [v32],by simp [v33],by simp [v34],by simp [v11],by simp [v12],by simp [v13],by simp [v39],by simp [v40],by simp,by simp; omega,by simp [Z0,Z1]⟩
     ·have h1:((j:Int)=i)=False:=eq_false (by omega);have h2:((i:Int)=j)=False:=eq_false (by omega);have hji : ¬ i=j:=fun e=>hij e.symm;generalize zd2 y x c.la=bb at *;cases bb with
      | true =>
       have hk':(false && (m.drop (j+1)).all fun y => !zd2 y x c.la)=kb0:=by rw [<- hk]; rfl
       simp [-getElem?_pos,zok,v3,v4,v6,v8,v11,v12,v13,v39,v40,v41,Z1,hjl,hy',cnd,hwj,Z0,h1,h2,hij,hji,e3];exact zaj (n'-1) (by omega) ⟨j+1,false,by omega,hk',by simp [v3],by simp [v4],by simp [v6],by simp [v8],by simp [v32],by simp [v33],by simp [v34],by simp [v11],by simp [v12],by simp [v13],by simp [v39],by simp [v40],by simp,by simp; omega,by simp [Z0,Z1]⟩
      | false =>
       have hk':(true && (m.drop (j+1)).all fun y => !zd2 y x c.la)=kb0:=by rw [<- hk]; rfl
       simp [-getElem?_pos,zok,v3,v4,v6,v8,v11,v12,v13,v39,v40,v41,Z1,hjl,hy',cnd,hwj,Z0,h1,h2,hij,hji,e3];exact zaj (n'-1) (by omega) ⟨j+1,true,by omega,hk',by simp [v3],by simp [v4],by simp [v6],by simp [v8],by simp [v32],by simp [v33],by simp [v34],by simp [v11],by simp [v12],by simp [v13],by simp [v39],by simp [v40],by simp,by simp; omega,by simp [Z0,Z1]⟩
   ·rw [List.drop_eq_nil_of_le (by omega)] at hk;simp only [List.all_nil,Bool.and_true] at hk;subst hk;cases k with
    | true =>
     simp only at hf;rw [<- hf] at hR;simp only at hR;subst hR;simp [-getElem?_pos,zok,v3,v4,v6,v8,v11,v12,v13,v39,v40,v41,Z1,hjl,cnd,Z0]
    | false =>
     simp only at hf;simp [-getElem?_pos,zok,v3,v4,v6,v8,v11,v12,v13,v34,v39,v40,v41,Z1,hjl,hws,Z0];exact zaj (n-1) (by omega) ⟨i+1,by omega,hf,by simp [v3],by simp [v4],by simp [v6],by simp [v8],by simp [v32],by simp [v33],by simp,ho,by simp; omega,by simp [hS0,hS1,hS2,hSo]⟩
  ·rw [List.drop_eq_nil_of_le (by omega)] at hf;rw [<- hf] at hR;simp only [List.find?_nil] at hR;subst hR;simp [-getElem?_pos,z8u,v6,v33,v34,hS2,h,zkz,cnd]
def zd5 (a b:Sl):Sl×Bool:=if ((sbi a.n b.n).2 && (sbi a.g b.g).2)=true then (⟨(sbi a.n b.n).1,(sbi a.g b.g).1⟩,true) else (⟨0,0⟩,false)
theorem ylv {a b:Int}:inI (sbi a b).1:=by
 unfold sbi inI;split
 ·rename_i h; simpa using h
 ·simp
theorem y7a (a b:Sl):slI (zd5 a b).1:=by
 unfold zd5;split
 ·exact ⟨ylv,ylv⟩
 ·unfold slI inI; simp
def zc7 (s:Sl):List Sl->Option (List Sl)
 | []=>some []
 | x::xs=>if (zbk s x).2=true then (zc7 (zbk s x).1 xs).map ((zbk s x).1 :: ·) else none
end Go.Pe
