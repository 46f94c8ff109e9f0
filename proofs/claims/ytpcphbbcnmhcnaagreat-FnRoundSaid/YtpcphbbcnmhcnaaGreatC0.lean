/- What each function answers by the evaluator,and the law; for each answer its own conditions stand ahead of it. -/
import Derived.Test.YtpcphbbcnmhcnaaGreatK1
import Derived.Test.YtpcphbbcnmhcnaaGreatEvB2
import Derived.IntWalk
set_option linter.all false
set_option maxHeartbeats 8000000
set_option maxRecDepth 8000
namespace Go.Pe
open Go
theorem w64 {x:Int} (h1 : -9223372036854775808<=x) (h2:x<=9223372036854775807):IntKind.i64.wrap x=x:=IntWalk.i64_in x ⟨h1,h2⟩
@[simp] theorem q35 {x:Int} (h1 : -9223372036854775808<=x) (h2:x<=9223372036854775807):IntKind.i64.wrap x=x:=w64 h1 h2
structure Nd where
 f:Int
 c:Int
 l:Int
 r:Int
 v:Int
deriving DecidableEq
def nd (n:Nd):List PV:=[iv n.f,iv n.c,iv n.l,iv n.r,iv n.v]
@[simp] theorem qow (a b c d e:Int):RUN T zns [.agg [iv a,iv b,iv c,iv d,iv e]]=some ([bv (decide (a = -1))],[]):=by
 refine zae rfl rfl ?_;simp [z2e,ztr]
@[simp] theorem zbm (a b c:Int):RUN T zbu [iv a,iv b,iv c]=some ([bv (decide (b<=a) && decide (a<=c))],[]):=by
 refine zae rfl rfl ?_;simp [z0i,zzw];refine zau (fun h => ?_) (fun h => ?_) <;> simp [h]
@[simp] theorem qox (a b c d e:Int):RUN T zhp [.agg [iv a,iv b,iv c,iv d,iv e]]=some ([bv (!decide (a = -1))],[]):=by
 refine zae rfl rfl ?_;simp [z3h,ztr]
@[simp] theorem za1 (a b c:Int):RUN T zbj [iv a,iv b,iv c]=some ([bv (decide (b<=a) && decide (a<=c))],[]):=by
 refine zae rfl rfl ?_;simp [zzv,zzw];refine zau (fun h => ?_) (fun h => ?_) <;> simp [h]
def zg5 {α:Type} (p:α->Bool) (l:List α):Int:=match l.findIdx? p with
 | some i=>(i:Int)
 | none => -1
theorem zy6 {α:Type} {p:α->Bool} {l:List α} (h : ∀ (j:Nat) (x:α),j<l.length->l[j]?=some x->p x=false):zg5 p l = -1:=by
 unfold zg5;have:l.findIdx? p=none:=by
  rw [List.findIdx?_eq_none_iff];intro x hx;obtain ⟨j,hj⟩:=bH hx;exact h j x (bD hj).1 hj
 rw [this]
theorem zuy {α:Type} {p:α->Bool} {l:List α} {i:Nat} {x:α} (hi:l[i]?=some x) (hp:p x=true) (h : ∀ (j:Nat) (x:α),j<i->l[j]?=some x->p x=false):zg5 p l=i:=by
 unfold zg5;have:l.findIdx? p=some i:=by
  rw [List.findIdx?_eq_some_iff_getElem];obtain ⟨h1,h2⟩:=bD hi;refine ⟨h1,by rw [h2]; exact hp,fun j hj => ?_⟩;have:=h j l[j] hj (bG (by omega));simp [this]
 rw [this]
theorem z9s {α:Type} {p:α->Bool} {l:List α} {i:Nat} {x:α} (h : ∀ (j:Nat) (x:α),j<i->l[j]?=some x->p x=false) (hi:l[i]?=some x) (hp:p x=false) : ∀ (j:Nat) (x:α),j<i+1->l[j]?=some x->p x=false:=by
 intro j y hj hy
 by_cases e:j=i
 ·subst e; rw [hi] at hy; cases hy; exact hp
 ·exact h j y (by omega) hy
def zf1 (k:Int) (n:Nd):Bool := !decide (n.f = -1) && (decide (n.l=k) || decide (n.r=k))
def par (t:List Nd) (k:Int):Int:=zg5 (zf1 k) t
theorem wS {i n:Nat} (h:i<n) (hn:n<=9223372036854775807):IntKind.i64.wrap ((i:Int)+1)=(i:Int)+1:=w64 (by omega) (by omega)
theorem ylo (t:List Nd) (k:Int) (hl:t.length<=9223372036854775807):RUN T zl4 [.agg [.sl 5 (t.map nd)],iv k]=some ([iv (par t k)],[]):=by
 refine zae rfl rfl ?_;simp [z3t,zvz];refine zao (fun n st => ∃ i:Nat,i+n=t.length/\st.V 1=iv k/\st.V 2 = .ptr 0 none 0 0 0/\st.V 5=iv i/\st.S 0=some (.box [.sl 5 (t.map nd)])/\∀ (j:Nat) (x:Nd),j<i->t[j]?=some x->zf1 k x=false) ?_ t.length _ ⟨0,by simp⟩;rintro n st ⟨i,hi,h1,h2,h5,hS,hj⟩;simp [yfo,h2,h5,hS];refine zau (fun h => ?_) (fun h => ?_)
 ·simp at h;obtain ⟨x,hx⟩ : ∃ x,t[i]?=some x:=⟨_,bG h⟩;have hw:=wS h hl;simp [h2,h5,hS,hx,nd];refine zau (fun b0 => ?_) (fun b0 => ?_) <;> (try simp at b0) <;> simp [-getElem?_pos,b0,h1,h2,h5,hS,hx,nd,hw]
  all_goals try (refine zau (fun b1 => ?_) (fun b1 => ?_) <;> (try simp at b1) <;> simp [-getElem?_pos,b1,h1,h2,h5,hS,hx,nd])
  all_goals try (refine zau (fun b2 => ?_) (fun b2 => ?_) <;> (try simp at b2) <;> simp [-getElem?_pos,b2,h5,hw])
  all_goals first
   | exact (zuy hx (by simp [zf1, *]) hj).symm
   | exact zai (n-1) (by omega) ⟨i+1,by omega,by simp [h1],by simp [h2],by simp,by simp [hS],z9s hj hx (by simp [zf1, *])⟩
 ·simp at h;simp;exact (zy6 fun j x hl hx=>hj j x (by omega) hx).symm
def lev (t:List Nd):Nat->Int->Int
 | 0,_ => -1
 | n+1,k=>if par t k<0 then 31-n else lev t n (par t k)
theorem y63 (t:List Nd) (k:Int) (hl:t.length<=9223372036854775807):RUN T zn1 [.agg [.sl 5 (t.map nd)],iv k]=some ([iv (if 0<=k/\k<=t.length-1 then lev t 32 k else -1)],[]):=by
 refine zae rfl rfl ?_;have hw:IntKind.i64.wrap ((t.length:Int)-1)=(t.length:Int)-1:=w64 (by omega) (by omega);simp [z3r,zvz,hw];refine zau (fun h => ?_) (fun h => ?_)
 ·simp at h;simp;intro h1 h2;omega
 ·have h':(0<=k/\k<=t.length-1):=by simpa using h
  rw [if_pos h'];clear h;obtain ⟨r,hr⟩ : ∃ r,r=lev t 32 k:=⟨_,rfl⟩;rw [<- hr];simp;refine zao (fun n st => ∃ i:Nat,i+n=32/\∃ k':Int,lev t n k'=r/\st.V 1=iv k'/\st.V 2 = .ptr 0 none 0 0 0/\st.V 5=iv i/\st.S 0=some (.box [.sl 5 (t.map nd)])) ?_ 32 _ ⟨0,by simp [hr]⟩;rintro n st ⟨i,hi,k',hk,h1,h2,h5,hS⟩;simp [yfn,h5];refine zau (fun h => ?_) (fun h => ?_)
  ·simp at h;have hw:IntKind.i64.wrap ((i:Int)+1)=(i:Int)+1:=w64 (by omega) (by omega);obtain ⟨m,rfl⟩ : ∃ m,n=m+1:=⟨n-1,by omega⟩;simp only [lev] at hk;simp [-getElem?_pos,h1,h2,hS,ylo t k' hl];refine zau (fun b0 => ?_) (fun b0 => ?_) <;> (try simp at b0) <;> simp [-getElem?_pos,b0,h5,hw]
   ·rw [if_pos b0] at hk; omega
   ·rw [if_neg (by omega)] at hk;exact zai m (by omega) ⟨i+1,by omega,_,hk,by simp [h2,hS]⟩
  ·simp at h;obtain rfl:n=0:=by omega
   simp only [lev] at hk;simp [<- hk]
def zab (l:List Int):List (List PV):=l.map fun n=>[iv n]
@[simp] theorem qvm (l:List Int):(zab l).length=l.length:=by simp [zab]
theorem zay {l:List Int} {i:Nat} {x:Int} (h:l[i]?=some x):(zab l)[i]?=some [iv x]:=by simp [zab,h]
@[simp] theorem qsv:zab []=[]:=rfl
theorem zyf (x:Int) (l:List Int):zab (x::l)=[iv x]::zab l:=rfl
theorem z7v (l:List Int) (i:Nat) (x:Int):(zab l).set i [iv x]=zab (l.set i x):=by simp [zab,List.map_set]
theorem qam (l m:List Int):zab l++zab m=zab (l++m):=by simp [zab]
theorem zbn (l:List Int) (x:Int):zab l++[[iv x]]=zab (l++[x]):=by simp [zab]
theorem ysq (l:List Int):zch (zab l)=true:=by simp [zch,zab]
def anc (t:List Nd):Nat->Int->Option (List Int)
 | 0,_=>none
 | n+1,k=>if par t k<0 then some [] else (anc t n (par t k)).map (par t k :: ·)
theorem zk4 (t:List Nd) (n:Nat) (k:Int):anc t (n+1) k=if par t k<0 then some [] else (anc t n (par t k)).map (par t k :: ·):=rfl
def way (t:List Nd) (k:Int):List Int:=if 0<=k/\k<=t.length-1 then match anc t 32 k with
  | some l=>(k::l).reverse
  | none=>[]
 else []
theorem zbx {n:Nat} (h:n<=17592186044416):zag 8 n=true:=by simp [zag]; omega
theorem yt2 (t:List Nd) : ∀ (n:Nat) (k:Int),n<=32->(match anc t n k with | some l=>(32-n:Int)+l.length | none => -1)=lev t n k
 | 0,k,_=>by simp [anc,lev]
 | n+1,k,h=>by
  have ih:=yt2 t n (par t k) (by omega);rw [zk4];simp only [lev]
  by_cases c:par t k<0
  ·rw [if_pos c,if_pos c]; simp; omega
  ·rw [if_neg c,if_neg c,<- ih];cases anc t n (par t k) with
   | none=>simp
   | some l =>
    show (32-((n+1:Nat):Int))+((par t k::l).length:Nat)=(32-(n:Int))+(l.length:Nat);simp only [List.length_cons]; omega
theorem yqw (t:List Nd) : ∀ (n:Nat) (k:Int) (l:List Int),anc t n k=some l->l.length<n
 | 0,k,l,h=>by simp [anc] at h
 | n+1,k,l,h=>by
  rw [zk4] at h;split at h
  ·cases h; simp
  ·simp at h;obtain ⟨m,hm,rfl⟩:=h;have:=yqw t n _ m hm;simp; omega
def upto (k:Int) (n:Nat):List Int:=(List.range n).map fun (i:Nat)=>k+(i:Int)
@[simp] theorem q22 (k:Int) (n:Nat):(upto k n).length=n:=by simp [upto]
def lvs:List Nd->Int->List Int
 | [],_=>[]
 | x::xs,i=>if x.f = -1 then i::lvs xs (i+1) else lvs xs (i+1)
theorem zyy : ∀ (t:List Nd) (i:Int),(lvs t i).length<=t.length
 | [],_=>by simp [lvs]
 | x::xs,i=>by
  have:=zyy xs (i+1);simp only [lvs];split <;> simp <;> omega
theorem zcr {α:Type} {l:List α} {i:Nat} {x:α} (h:l[i]?=some x):l.drop i=x::l.drop (i+1):=by
 obtain ⟨h1,h2⟩:=bD h;rw [List.drop_eq_getElem_cons h1,h2]
theorem y64 (t:List Nd) (hl:t.length<=1048576):RUN T zsi [.agg [.sl 5 (t.map nd)]]=some ([.own 1 (zab (lvs t 0))],[]):=by
 refine zae rfl rfl ?_;simp [z3z,zz2];refine zao (fun n st => ∃ i:Nat,i+n=t.length/\∃ (m:List Int) (o e:Nat),m++lvs (t.drop i) i=lvs t 0/\st.V 1 = .ptr 0 none 0 0 0/\st.V 3 = .ref o none e 0 m.length/\st.V 4=iv i/\0<o/\o<st.nx/\st.S o=some (.row 1 (zab m))/\st.S 0=some (.box [.sl 5 (t.map nd)])) ?_ t.length _ ⟨0,by simp,[],1,0,by simp⟩;rintro n st ⟨i,hi,m,o,e,hm,h1,h3,h4,ho,hox,hSo,hS⟩;simp [yfp,h1,h4,hS];refine zau (fun h => ?_) (fun h => ?_)
 ·simp at h;obtain ⟨x,hx⟩ : ∃ x,t[i]?=some x:=⟨_,bG h⟩;have hw:=wS h (by omega:t.length<=9223372036854775807);have hr:zag 8 (m.length+1)=true:=zbx (by
   have h5:=congrArg List.length hm;have h6:=zyy t 0;simp at h5; omega)
  have n1 : ¬ o=st.nx:=by omega
  have n2 : ¬ 0=o:=by omega
  have n3 : ¬ 0=st.nx:=by omega
  simp [-getElem?_pos,h1,h4,hS,hx,nd];refine zau (fun b0 => ?_) (fun b0 => ?_) <;> (try simp at b0) <;> simp [-getElem?_pos,b0,h3,h4,hSo,n1,hw,hr,zbn]
  ·refine zai (n-1) (by omega) ⟨i+1,by omega,m++[(i:Int)],st.nx+1,st.ep,?_,by simp [h1],by simp,by simp,by omega,by simp [n2,n3,hS]⟩;rw [<- hm,zcr hx,lvs,if_pos b0]; simp
  ·refine zai (n-1) (by omega) ⟨i+1,by omega,m,o,e,?_,by simp [h1],by simp [h3],by simp,by omega,by simp [hox,hSo,hS]⟩;rw [<- hm,zcr hx,lvs,if_neg b0]; simp
 ·simp at h;have e:m=lvs t 0:=by rw [<- hm,bN h]; simp [lvs]
  simp [h3,hSo,e]
theorem y65 (t:List Nd) (hl:t.length<=1048576):RUN T zr6 [.agg [.sl 5 (t.map nd)]]=some ([.own 1 (zab (lvs t 0))],[]):=by
 refine zae rfl rfl ?_;simp [z21,zz2];refine zao (fun n st => ∃ i:Nat,i+n=t.length/\∃ (m:List Int) (o e:Nat),m++lvs (t.drop i) i=lvs t 0/\st.V 8 = .sl 5 (t.map nd)/\st.V 9=iv t.length/\st.V 3 = .ref o none e 0 m.length/\st.V 10=iv i/\o<st.nx/\st.S o=some (.row 1 (zab m))) ?_ t.length _ ⟨0,by simp,[],1,0,by simp⟩;rintro n st ⟨i,hi,m,o,e,hm,h8,h9,h3,h10,hox,hSo⟩;simp [yfj,h9,h10];refine zau (fun h => ?_) (fun h => ?_)
 ·simp at h;obtain ⟨x,hx⟩ : ∃ x,t[i]?=some x:=⟨_,bG h⟩;have hw:=wS h (by omega:t.length<=9223372036854775807);have hr:zag 8 (m.length+1)=true:=zbx (by
   have h5:=congrArg List.length hm;have h6:=zyy t 0;simp at h5; omega)
  have n1 : ¬ o=st.nx:=by omega
  have n2 : ¬ o=st.nx+1:=by omega
  simp [-getElem?_pos,h8,h10,hx,nd];refine zau (fun b0 => ?_) (fun b0 => ?_) <;> (try simp at b0) <;> simp [-getElem?_pos,b0,h3,h10,hSo,n1,n2,hw,hr,zbn]
  ·refine zai (n-1) (by omega) ⟨i+1,by omega,m++[(i:Int)],st.nx+2,st.ep,?_,by simp [h8,h9]⟩;rw [<- hm,zcr hx,lvs,if_pos b0]; simp
  ·refine zai (n-1) (by omega) ⟨i+1,by omega,m,o,e,?_,by simp [h8],by simp [h9],by simp [h3],by simp,by simp; omega,by simp [hSo,n1]⟩;rw [<- hm,zcr hx,lvs,if_neg b0]; simp
 ·simp at h;have e:m=lvs t 0:=by rw [<- hm,bN h]; simp [lvs]
  simp [h3,hSo,e]
@[simp] theorem qoy (a b:Int):RUN T zsg [iv a,iv b]=some ([iv (max a b)],[]):=by
 refine zae rfl rfl ?_;simp [z3p,zvz];refine zau (fun b0 => ?_) (fun b0 => ?_) <;> (try simp at b0) <;> simp [-getElem?_pos,b0,]
 all_goals omega
def zfj (t:List Nd) (k:Int):Int:=if 0<=k/\k<=t.length-1 then lev t 32 k else -1
theorem y66 (t:List Nd) (k:Int) (hl:t.length<=9223372036854775807):RUN T zn1 [.agg [.sl 5 (t.map nd)],iv k]=some ([iv (zfj t k)],[]):=y63 t k hl
def dpt (t:List Nd):Nat->Int
 | 0 => -1
 | i+1=>max (dpt t i) (zfj t i)
theorem y67 (t:List Nd) (hl:t.length<=9223372036854775807):RUN T zrj [.agg [.sl 5 (t.map nd)]]=some ([iv (dpt t t.length)],[]):=by
 refine zae rfl rfl ?_;simp [z08,ztr];refine zao (fun n st => ∃ i:Nat,i+n=t.length/\st.V 1 = .ptr 0 none 0 0 0/\st.V 3=iv (dpt t i)/\st.V 4=iv i/\st.S 0=some (.box [.sl 5 (t.map nd)])) ?_ t.length _ ⟨0,by simp [dpt]⟩;rintro n st ⟨i,hi,h1,h3,h4,hS⟩;simp [yfd,h1,h4,hS];refine zau (fun h => ?_) (fun h => ?_)
 ·simp at h;have hw:=wS h hl;simp [h1,h3,h4,hS,hw,y66 t i hl];exact zai (n-1) (by omega) ⟨i+1,by omega,by simp [h1,dpt,hS]⟩
 ·simp at h;obtain rfl:i=t.length:=by omega
  simp [h3]
def rt (t:List Nd) (row:List Int):Nat->Int->Option (List Int)
 | 0,_=>none
 | n+1,a=>match (if 0<=a then t[a.toNat]? else none) with
  | none=>none
  | some x=>if x.f = -1 then some [a] else match (if 0<=x.f then row[x.f.toNat]? else none) with
   | none=>none
   | some y=>(rt t row n (if y<=x.c then x.l else x.r)).map (a :: ·)
theorem yqi {t:List Nd} {row:List Int} {n:Nat} {a:Int} (h:a<0\/(t.length:Int)-1<a):rt t row n a=none:=by
 cases n with
 | zero=>rfl
 | succ n =>
  rw [rt];have:(if 0<=a then t[a.toNat]? else none)=none:=by
   split
   ·exact List.getElem?_eq_none (by omega)
   ·rfl
  rw [this]
theorem ym6 {t:List Nd} {row:List Int} {n a:Nat} {x:Nd} (hx:t[a]?=some x) (h:x.f = -1):rt t row (n+1) a=some [(a:Int)]:=by
 rw [rt]; simp [hx,h]
theorem ytq {t:List Nd} {row:List Int} {n a:Nat} {x:Nd} (hx:t[a]?=some x) (h:x.f ≠ -1) (h2:x.f<0\/(row.length:Int)-1<x.f):rt t row (n+1) a=none:=by
 rw [rt];have:(if 0<=x.f then row[x.f.toNat]? else none)=none:=by
  split
  ·exact List.getElem?_eq_none (by omega)
  ·rfl
 simp [hx,h,this]
theorem ys6 {t:List Nd} {row:List Int} {n a f:Nat} {x:Nd} {y:Int} (hx:t[a]?=some x) (h:x.f=f) (hy:row[f]?=some y):rt t row (n+1) a=(rt t row n (if y<=x.c then x.l else x.r)).map ((a:Int) :: ·):=by
 rw [rt];have:x.f ≠ -1:=by omega
 simp [hx,h,hy]
def zix (t:List Nd) (row:List Int):List Int:=(rt t row (t.length+1) 0).getD []
theorem y68 (t:List Nd) (row:List Int) (hl:t.length<=1048576) (hr:row.length<=1048576):RUN T zsf [.agg [.sl 5 (t.map nd)],.sl 1 (zab row)]=some ([.own 1 (zab (zix t row))],[]):=by
 refine zae rfl rfl ?_;simp [z3l,z1z];obtain ⟨r,hrr⟩ : ∃ r,r=rt t row (t.length+1) 0:=⟨_,rfl⟩;unfold zix;rw [<- hrr];refine zao (fun n st => ∃ i:Nat,i+n=t.length+1/\∃ (a:Int) (m:List Int) (o e:Nat),m.length=i/\(rt t row n a).map (m ++ ·)=r/\st.V 1 = .sl 1 (zab row)/\st.V 2 = .ptr 0 none 0 0 0/\st.V 5 = .ref o none e 0 m.length/\st.V 6=iv a/\st.V 7=iv i/\0<o/\o<st.nx/\st.S o=some (.row 1 (zab m))/\st.S 0=some (.box [.sl 5 (t.map nd)])) ?_ (t.length+1) _ ⟨0,by simp,0,[],1,0,by simp [hrr]⟩;rintro n st ⟨i,hi,a,m,o,e,hmi,hm,h1,h2,h5,h6,h7,ho,hox,hSo,hS⟩;simp [yfm,h2,h7,hS];refine zau (fun h => ?_) (fun h => ?_)
 ·simp at h;obtain ⟨q,rfl⟩ : ∃ q,n=q+1:=⟨n-1,by omega⟩;have hw:=w64 (x:=(t.length:Int)-1) (by omega) (by omega);have hwi:=w64 (x:=(i:Int)+1) (by omega) (by omega);have hwr:=w64 (x:=(row.length:Int)-1) (by omega) (by omega);simp [h2,h6,hS,hw];refine zau (fun h3 => ?_) (fun h3 => ?_)
  ·simp at h3;rw [yqi h3] at hm;simp at hm;simp [<- hm]
  ·have h3':0<=a/\a<=(t.length:Int)-1:=by simpa using h3
   obtain ⟨a,rfl⟩ : ∃ a':Nat,a=a':=⟨a.toNat,by omega⟩;obtain ⟨x,hx⟩ : ∃ x,t[a]?=some x:=⟨_,bG (by omega)⟩;have z1:=fr hox;have z2:=fr ho;have z3:=fr (by omega:0<st.nx);have hr8:=zbx (n:=m.length+1) (by omega);simp [-getElem?_pos,h2,h5,h6,hS,hSo,z1,hx,nd,hr8,zbn];refine zau (fun h4 => ?_) (fun h4 => ?_)
   ·simp at h4;rw [ym6 hx h4] at hm;simp at hm;simp [<- hm]
   ·simp at h4;simp [-getElem?_pos,h1,z1,hwr];refine zau (fun h8 => ?_) (fun h8 => ?_)
    ·simp at h8;rw [ytq hx h4 h8] at hm;simp at hm;simp [<- hm]
    ·have h8':0<=x.f/\x.f<=(row.length:Int)-1:=by simpa using h8
     obtain ⟨f,hf⟩ : ∃ f:Nat,x.f=f:=⟨x.f.toNat,by omega⟩;obtain ⟨y,hy⟩ : ∃ y,row[f]?=some y:=⟨_,bG (by omega)⟩;have hfl:f<row.length:=by omega
     rw [ys6 hx hf hy] at hm;have hy':=zay hy;simp [-getElem?_pos,h1,z1,hf,hy'];refine zau (fun b0 => ?_) (fun b0 => ?_) <;> (try simp at b0) <;> simp [-getElem?_pos,b0,h7,z1,hwi]
     all_goals
      refine zai q (by omega) ⟨i+1,by omega,_,m++[(a:Int)],st.nx+2,st.ep,by simp [hmi],?_,by simp [h1],by simp [h2],by simp,by simp; rfl,by simp,by omega,by simp [z2,z3,hS]⟩;rw [<- hm]
      first | rw [if_pos b0] | rw [if_neg (by omega)]
      simp [Function.comp_def]
 ·simp at h;obtain rfl:n=0:=by omega
  simp [rt] at hm;simp [<- hm]
theorem y69 (t:List Nd) (row:List Int) (hl:t.length<=1048576) (hr:row.length<=1048576):RUN T zrv [.agg [.sl 5 (t.map nd)],.sl 1 (zab row)]=some ([.own 1 (zab (zix t row))],[]):=by
 refine zae rfl rfl ?_;have hw1:=w64 (x:=(t.length:Int)+1) (by omega) (by omega);simp [z2g,z1z,hw1];obtain ⟨r,hrr⟩ : ∃ r,r=rt t row (t.length+1) 0:=⟨_,rfl⟩;unfold zix;rw [<- hrr];refine zao (fun n st => ∃ i:Nat,i+n=t.length+1/\∃ (a:Int) (m:List Int) (o e:Nat),m.length=i/\(rt t row n a).map (m ++ ·)=r/\st.V 1 = .sl 1 (zab row)/\st.V 2 = .ptr 0 none 0 0 0/\st.V 5 = .ref o none e 0 m.length/\st.V 6=iv a/\st.V 13=iv i/\st.V 12=iv ((t.length:Int)+1)/\0<o/\o<st.nx/\st.S o=some (.row 1 (zab m))/\st.S 0=some (.box [.sl 5 (t.map nd)])) ?_ (t.length+1) _ ⟨0,by simp,0,[],1,0,by simp [hrr]⟩;rintro n st ⟨i,hi,a,m,o,e,hmi,hm,h1,h2,h5,h6,h13,h12,ho,hox,hSo,hS⟩;simp [yfi,h13,h12];refine zau (fun h => ?_) (fun h => ?_)
 ·simp at h;obtain ⟨q,rfl⟩ : ∃ q,n=q+1:=⟨n-1,by omega⟩;have hw:=w64 (x:=(t.length:Int)-1) (by omega) (by omega);have hwi:=w64 (x:=(i:Int)+1) (by omega) (by omega);have hwr:=w64 (x:=(row.length:Int)-1) (by omega) (by omega);simp [h2,h6,hS,hw];refine zau (fun h3 => ?_) (fun h3 => ?_)
  ·simp at h3;rw [yqi h3] at hm;simp at hm;simp [<- hm]
  ·have h3':0<=a/\a<=(t.length:Int)-1:=by simpa using h3
   obtain ⟨a,rfl⟩ : ∃ a':Nat,a=a':=⟨a.toNat,by omega⟩;obtain ⟨x,hx⟩ : ∃ x,t[a]?=some x:=⟨_,bG (by omega)⟩;have z1:=fr hox;have z2:=fr ho;have z3:=fr (by omega:0<st.nx);have hr8:=zbx (n:=m.length+1) (by omega);simp [-getElem?_pos,h2,h5,h6,hS,hSo,z1,hx,nd,hr8,zbn];refine zau (fun h4 => ?_) (fun h4 => ?_)
   ·simp at h4;rw [ym6 hx h4] at hm;simp at hm;simp [<- hm]
   ·simp at h4;simp [-getElem?_pos,h1,z1,hwr];refine zau (fun h8 => ?_) (fun h8 => ?_)
    ·simp at h8;rw [ytq hx h4 h8] at hm;simp at hm;simp [<- hm]
    ·have h8':0<=x.f/\x.f<=(row.length:Int)-1:=by simpa using h8
     obtain ⟨f,hf⟩ : ∃ f:Nat,x.f=f:=⟨x.f.toNat,by omega⟩;obtain ⟨y,hy⟩ : ∃ y,row[f]?=some y:=⟨_,bG (by omega)⟩;have hfl:f<row.length:=by omega
     rw [ys6 hx hf hy] at hm;have hy':=zay hy;simp [-getElem?_pos,h1,z1,hf,hy'];refine zau (fun b0 => ?_) (fun b0 => ?_) <;> (try simp at b0) <;> simp [-getElem?_pos,b0,h13,z1,hwi]
     all_goals
      refine zai q (by omega) ⟨i+1,by omega,_,m++[(a:Int)],st.nx+2,st.ep,by simp [hmi],?_,by simp [h1],by simp [h2],by simp,by simp; rfl,by simp,by simp [h12],by omega,by simp [z2,z3,hS]⟩;rw [<- hm]
      first | rw [if_pos b0] | rw [if_neg (by omega)]
      simp [Function.comp_def]
 ·simp at h;obtain rfl:n=0:=by omega
  simp [rt] at hm;simp [<- hm]
theorem ym8 (t:List Nd) (row:List Int) : ∀ (n:Nat) (a:Int) (l:List Int),rt t row n a=some l->l.length<=n/\l≠[]/\∀ k∈l,0<=k/\k<t.length
 | 0,_,_,h=>by cases h
 | n+1,a,l,h=>by
  rw [rt] at h;have ha : ∀ x,(if 0<=a then t[a.toNat]? else none)=some x->0<=a/\a<t.length:=by
   intro x hx;split at hx
   ·have:=(bD hx).1; omega
   ·cases hx
  split at h
  ·cases h
  ·rename_i x hx;have hax:=ha x hx;split at h
   ·cases h; simpa using hax
   ·split at h
    ·cases h
    ·simp only [bB] at h;obtain ⟨m,hm,rfl⟩:=h;have:=ym8 t row n _ m hm;refine ⟨by simp; omega,by simp,fun k hk => ?_⟩;rcases List.mem_cons.mp hk with e | e
     ·subst e; exact hax
     ·exact this.2.2 k e
theorem ycj (t:List Nd) (row:List Int):(zix t row).length<=t.length+1/\∀ k∈zix t row,0<=k/\k<t.length:=by
 unfold zix;cases h:rt t row (t.length+1) 0 with
 | none=>simp
 | some l=>have:=ym8 t row _ _ l h; exact ⟨this.1,this.2.2⟩
def rto (t:List Nd) (row:List Int):Int:=((zix t row).getLast?).getD (-1)
theorem yox {t:List Nd} {row:List Int}:rto t row = -1\/∃ i:Nat,rto t row=i/\i<t.length:=by
 unfold rto;cases h:(zix t row).getLast? with
 | none=>exact .inl rfl
 | some k =>
  have:=(ycj t row).2 k (List.mem_of_getLast? h);exact .inr ⟨k.toNat,by simp; omega,by omega⟩
theorem y7a (t:List Nd) (row:List Int) (hl:t.length<=1048576) (hr:row.length<=1048576):RUN T zrh [.agg [.sl 5 (t.map nd)],.sl 1 (zab row)]=some ([iv (rto t row)],[]):=by
 refine zae rfl rfl ?_;have hw:=(ycj t row).1;simp [z04,zvz,y68 t row hl hr];refine zau (fun h => ?_) (fun h => ?_)
 ·simp at h;simp [rto,h]
 ·simp at h;obtain ⟨l,x,hlx⟩ : ∃ l x,zix t row=l++[x]:=⟨_,_,(List.dropLast_concat_getLast h).symm⟩;have e1:rto t row=x:=by simp [rto,hlx]
  rw [e1];rw [hlx] at hw ⊢;simp at hw;have hwr:IntKind.i64.wrap (l.length:Int)=(l.length:Int):=w64 (by omega) (by omega);have hg:=zay (l:=l++[x]) (i:=l.length) (x:=x) (by simp);simp [-getElem?_pos,hwr,hg]
theorem y7b (t:List Nd) (row:List Int) (hl:t.length<=1048576) (hr:row.length<=1048576):RUN T zq6 [.agg [.sl 5 (t.map nd)],.sl 1 (zab row)]=some ([iv (rto t row)],[]):=by
 refine zae rfl rfl ?_;have hw:=(ycj t row).1;simp [z0s,zvz,y69 t row hl hr];refine zau (fun h => ?_) (fun h => ?_)
 ·simp at h;simp [rto,h]
 ·simp at h;obtain ⟨l,x,hlx⟩ : ∃ l x,zix t row=l++[x]:=⟨_,_,(List.dropLast_concat_getLast h).symm⟩;have e1:rto t row=x:=by simp [rto,hlx]
  rw [e1];rw [hlx] at hw ⊢;simp at hw;have hwr:IntKind.i64.wrap (l.length:Int)=(l.length:Int):=w64 (by omega) (by omega);have hg:=zay (l:=l++[x]) (i:=l.length) (x:=x) (by simp);simp [-getElem?_pos,hwr,hg]
def evt (t:List Nd) (row:List Int):Int:=if rto t row<0 then 0 else ((t[(rto t row).toNat]?).map (·.v)).getD 0
theorem ylp (t:List Nd) (row:List Int) (hl:t.length<=1048576) (hr:row.length<=1048576):RUN T znf [.agg [.sl 5 (t.map nd)],.sl 1 (zab row)]=some ([iv (evt t row)],[]):=by
 refine zae rfl rfl ?_;simp [zzt,zvz,y7a t row hl hr];unfold evt;rcases yox (t:=t) (row:=row) with h | ⟨i,h,hi⟩
 ·simp [h]
 ·obtain ⟨x,hx⟩ : ∃ x,t[i]?=some x:=⟨_,bG hi⟩;rw [h];have h0 : ¬ ((i:Int)<0):=by omega
  simp [-getElem?_pos,h0,hx,nd]
theorem y7c (t:List Nd) (row:List Int) (hl:t.length<=1048576) (hr:row.length<=1048576):RUN T zqn [.agg [.sl 5 (t.map nd)],.sl 1 (zab row)]=some ([iv (evt t row)],[]):=by
 refine zae rfl rfl ?_;simp [zzp,zvz,y7b t row hl hr];unfold evt;rcases yox (t:=t) (row:=row) with h | ⟨i,h,hi⟩
 ·simp [h]
 ·obtain ⟨x,hx⟩ : ∃ x,t[i]?=some x:=⟨_,bG hi⟩;rw [h];have h0 : ¬ ((i:Int)<0):=by omega
  simp [-getElem?_pos,h0,hx,nd]
def inI (n:Int):Prop := -9223372036854775808<=n/\n<=9223372036854775807
def Chn (t:List Nd):List Int->Int->Prop
 | [],c=>c<0
 | x::xs,c=>x=c/\0<=c/\Chn t xs (par t c)
theorem ys0 (t:List Nd) : ∀ (n:Nat) (k:Int) (l:List Int),0<=k->anc t n k=some l->Chn t (k::l) k
 | 0,k,l,_,h=>by cases h
 | n+1,k,l,h0,h=>by
  rw [zk4] at h;split at h
  ·rename_i hc;cases h;exact ⟨rfl,h0,hc⟩
  ·simp at h;obtain ⟨m,hm,rfl⟩:=h;exact ⟨rfl,h0,ys0 t n _ m (by omega) hm⟩
theorem ym2 (t:List Nd) (k:Int):par t k = -1\/0<=par t k/\par t k<t.length:=by
 unfold par zg5;split
 ·rename_i i hi;have:=(List.findIdx?_eq_some_iff_getElem.mp hi).1;right; omega
 ·exact .inl rfl
theorem yu4 (t:List Nd) (k:Int):lev t 32 k=match anc t 32 k with | some l=>(l.length:Int) | none => -1:=by
 have:=yt2 t 32 k (Nat.le_refl _);rw [<- this];cases anc t 32 k <;> simp
def box (t:List Nd) (f:Int):List Int->Int->Int->Int×Int
 | a::b::r,lo,hi=>match t[a.toNat]? with
  | none=>(lo,hi)
  | some x=>if x.f=f then (if x.l=b then box t f (b::r) lo (min hi x.c) else if x.c=9223372036854775807 then box t f (b::r) lo hi else box t f (b::r) (max lo (x.c+1)) hi) else box t f (b::r) lo hi
 | _,lo,hi=>(lo,hi)
theorem y7d {f:Nat} {p:Int->Bool} (l:List Int) (hl:l.length<=9223372036854775807) (hm:zad T f=[]) (hp : ∀ n∈l,RUN T f [iv n]=some ([bv (p n)],[])) :
  RUN T znr [.sl 1 (zab l),.fn f []]=some ([iv (zg5 p l)],[]):=by
 refine zae rfl rfl ?_;simp [zwl,zvz];refine zao (fun n st => ∃ i:Nat,i+n=l.length/\st.V 0 = .sl 1 (zab l)/\st.V 1 = .fn f []/\st.V 8=iv i/\st.V 7=iv l.length/\∀ (j:Nat) (x:Int),j<i->l[j]?=some x->p x=false) ?_ l.length _ ⟨0,by simp⟩;rintro n st ⟨i,hi,h0,h1,h8,h7,hj⟩;simp [z95,h8,h7];refine zau (fun h => ?_) (fun h => ?_)
 ·simp at h;obtain ⟨x,hx⟩ : ∃ x,l[i]?=some x:=⟨_,bG h⟩;have hw:=wS h hl;have hx':=zay hx;have hpx:=hp x (bF hx);simp [-getElem?_pos,h0,h1,h8,hx',hm,hpx,h];refine zau (fun b0 => ?_) (fun b0 => ?_) <;> (try simp at b0) <;> simp [-getElem?_pos,b0,h8,hw]
  all_goals first
   | exact (zuy hx b0 hj).symm
   | exact zai (n-1) (by omega) ⟨i+1,by omega,by simp [h0],by simp [h1],by simp,by simp [h7],z9s hj hx b0⟩
 ·simp at h;simp;exact (zy6 fun j x hl hx=>hj j x (by omega) hx).symm
theorem z8k {α:Type} {p:α->Bool} {l:List α}:decide (0<=zg5 p l)=l.any p:=by
 unfold zg5;cases h:l.findIdx? p with
 | none =>
  rw [List.findIdx?_eq_none_iff] at h;simp;exact fun x hx=>h x hx
 | some i =>
  obtain ⟨h1,h2,_⟩:=List.findIdx?_eq_some_iff_getElem.mp h;simp;exact ⟨_,List.getElem_mem h1,h2⟩
theorem yai {f:Nat} {p:Int->Bool} (l:List Int) (hl:l.length<=9223372036854775807) (hm:zad T f=[]) (hp : ∀ n∈l,RUN T f [iv n]=some ([bv (p n)],[])) :
  RUN T zjh [.sl 1 (zab l),.fn f []]=some ([bv (l.any p)],[]):=by
 refine zae rfl rfl ?_;have e:=y7d l hl hm hp;simp [zv7,zvz,e,z8k]
structure Cfg where
 ro:Int
 de:Int
 bi:Int
 la:Int
 rw:Int
 nu:Int
 dn:Int
 sg:List Int
def zah (n a b:Int):Bool:=decide (a<=n) && decide (n<=b)
def zb9 (c:Cfg):Bool:=zah c.ro 1 8 && zah c.de 0 4 && zah c.bi 2 8 && zah c.la 1 100 && zah c.rw 1 20 && zah c.dn 1 1000 && zah c.nu 1 c.dn && decide ((c.sg.length:Int)<=4) && c.sg.all fun n=>zah n (-1) 1
@[simp] theorem qoz (n:Int):RUN T zq4 [iv n]=some ([bv (zah n (-1) 1)],[]):=by
 refine zae rfl rfl ?_;simp [z0m,ztr,zah]
@[simp] theorem y7e (n:Int):RUN T zno [iv n]=some ([bv (!zah n (-1) 1)],[]):=by
 refine zae rfl rfl ?_;simp [z1q,ztr]
theorem zc0 (a b c:Int):RUN T zbu [iv a,iv b,iv c]=some ([bv (zah a b c)],[]):=zbm a b c
theorem zbb (a b c:Int):RUN T zbj [iv a,iv b,iv c]=some ([bv (zah a b c)],[]):=za1 a b c
theorem yaj (c:Cfg) (hl:c.sg.length<=9223372036854775807):RUN T zls [.agg [iv c.ro,iv c.de,iv c.bi,iv c.la,iv c.rw,iv c.nu,iv c.dn,.sl 1 (zab c.sg)]]=some ([bv (zb9 c)],[]):=by
 refine zae rfl rfl ?_;have e:=yai (f:=zno) (p:=fun n => !zah n (-1) 1) c.sg hl (by simp) (fun n _=>y7e n);have e2 : ∀ l:List Int,(l.any fun n => !zah n (-1) 1) = !(l.all fun n=>zah n (-1) 1):=by intro l; induction l <;> simp_all
 rw [e2] at e;simp [zz9,ztr,zc0,-zbm];cases h0:zah c.ro 1 8 <;> cases h1:zah c.de 0 4 <;> simp [h1,zc0,-zbm]
 all_goals try (simp [zb9,h0,h1]; done)
 cases h2:zah c.bi 2 8 <;> cases h3:zah c.la 1 100 <;> simp [h3,zc0,-zbm]
 all_goals try (simp [zb9,h2,h3]; done)
 cases h4:zah c.rw 1 20 <;> cases h5:zah c.dn 1 1000 <;> simp [h5,zc0,-zbm]
 all_goals try (simp [zb9,h4,h5]; done)
 cases h6:zah c.nu 1 c.dn <;> simp [-zbm]
 all_goals try (simp [zb9,h6]; done)
 by_cases h7:(c.sg.length:Int)<=4
 ·simp [h7,e,zb9,h0,h1,h2,h3,h4,h5,h6]
 ·simp [h7,zb9]
theorem zvn {m:Nat->List Bool} {R:zak} {c:IC} {st:St} {Q:Ex->St->Prop} (h:W m R c st (Nx (fun s=>W m R (.loop c) s Q) Q ⟨⟩ ⟨⟩)):W m R (.loop c) st Q:=qgo ▸ h
theorem y7f (a b c d e f g:Int) (x:PV) (sg:List (List PV)):RUN T zqr [.agg [iv a,iv b,iv c,iv d,iv e,iv f,iv g,.sl 1 sg]]=some ([.own 1 (zab [a,b,c,d,e])],[]):=by
 refine zae rfl rfl ?_;simp [zz1,zz2,zab]
theorem zx0:RUN T zqs []=some ([.own 1 (zab [1,0,2,1,1])],[]):=by
 refine zae rfl rfl ?_;simp [zz3,zz4,zab]
theorem zx1:RUN T zqt []=some ([.own 1 (zab [8,4,8,100,20])],[]):=by
 refine zae rfl rfl ?_;simp [zz5,zz4,zab]
theorem yak (c:Cfg) (hl:c.sg.length<=9223372036854775807):RUN T zlr [.agg [iv c.ro,iv c.de,iv c.bi,iv c.la,iv c.rw,iv c.nu,iv c.dn,.sl 1 (zab c.sg)]]=some ([bv (zb9 c)],[]):=by
 refine zae rfl rfl ?_;have e1:=y7f c.ro c.de c.bi c.la c.rw c.nu c.dn .undef (zab c.sg);simp [zzl,ztr,e1];refine zvn ?_;simp [zos,zx0,zx1,zbb,-za1,zyf];cases h0:zah c.ro 1 8 <;> simp
 ·simp [zb9,h0]
 refine zvn ?_;simp [zx0,zx1,zbb,-za1,zyf];cases h1:zah c.de 0 4 <;> simp
 ·simp [zb9,h1]
 refine zvn ?_;simp [zx0,zx1,zbb,-za1,zyf];cases h2:zah c.bi 2 8 <;> simp
 ·simp [zb9,h2]
 refine zvn ?_;simp [zx0,zx1,zbb,-za1,zyf];cases h3:zah c.la 1 100 <;> simp
 ·simp [zb9,h3]
 refine zvn ?_;simp [zx0,zx1,zbb,-za1,zyf];cases h4:zah c.rw 1 20 <;> simp
 ·simp [zb9,h4]
 refine zvn ?_;simp;refine zao (fun n st => ∃ i:Nat,i+n=c.sg.length/\st.V 1 = .ptr 0 none 0 0 0/\st.V 5=iv i/\st.S 0=some (.box [iv c.ro,iv c.de,iv c.bi,iv c.la,iv c.rw,iv c.nu,iv c.dn,.sl 1 (zab c.sg)])/\∀ (j:Nat) (x:Int),j<i->c.sg[j]?=some x->zah x (-1) 1=true) ?_ c.sg.length _ ⟨0,by simp⟩;rintro n st ⟨i,hi,h1',h5,hS,hj⟩;simp [ye0,h1',h5,hS];refine zau (fun h => ?_) (fun h => ?_)
 ·simp at h;obtain ⟨x,hx⟩ : ∃ x,c.sg[i]?=some x:=⟨_,bG h⟩;have hw:=wS h hl;have hx':=zay hx;simp [-getElem?_pos,h1',h5,hS,hx',h,zbb,-za1];cases hb:zah x (-1) 1 with
  | true =>
   simp [-getElem?_pos,h5,hw];refine zai (n-1) (by omega) ⟨i+1,by omega,by simp [h1'],by simp,by simp [hS],fun j y hj' hy => ?_⟩
   by_cases e:j=i
   ·subst e; rw [hx] at hy; cases hy; exact hb
   ·exact hj j y (by omega) hy
  | false =>
   simp [zb9]
   intros
   exact ⟨x,bF hx,hb⟩
 ·simp at h;have hall:(c.sg.all fun n=>zah n (-1) 1)=true:=by
   rw [List.all_eq_true];intro x hx;obtain ⟨j,hj'⟩:=bH hx;exact hj j x (by have:=(bD hj').1; omega) hj'
  simp [h1',hS,zbb,-za1];cases h5:zah c.dn 1 1000 <;> simp [h1',hS,zbb,-za1]
  ·simp [zb9,h5]
  cases h6:zah c.nu 1 c.dn <;> simp [h1',hS,-za1]
  ·simp [zb9,h6]
  simp [zb9,h0,h1,h2,h3,h4,h5,h6,hall]
def fdv (a b:Int):Int×Bool:=if b=0\/(b = -1/\a = -9223372036854775808) then (0,false) else (a.fdiv b,true)
theorem yn8 {a b:Int} (ha:inI a) (hb:b≠0) (h : ¬ (b = -1/\a = -9223372036854775808)) : -9223372036854775808<=a.tdiv b/\a.tdiv b<=9223372036854775807/\(b≠1 -> -9223372036854775808<=a.tdiv b-1):=by
 obtain ⟨h1,h2⟩:=ha;have h3:(a.tdiv b).natAbs=a.natAbs / b.natAbs:=Int.natAbs_tdiv a b;have h4:a.natAbs / b.natAbs<=a.natAbs:=Nat.div_le_self _ _
 by_cases c:b=1
 ·subst c; simp; omega
 by_cases c2:b = -1
 ·subst c2; simp; omega
 have h5:a.natAbs / b.natAbs<=a.natAbs / 2:=Nat.div_le_div_left (by omega) (by omega);omega
theorem ytf (a b:Int) (hb:b≠0):a.fdiv b=if a.tmod b≠0/\¬ (a<0↔b<0) then a.tdiv b-1 else a.tdiv b:=by
 rw [Int.fdiv_eq_tdiv];have hd:b ∣ a↔a.tmod b=0:=Int.dvd_iff_tmod_eq_zero
 by_cases c:b ∣ a
 ·rw [if_pos c,if_neg (by rw [hd.mp c]; simp)]; simp
 ·have hc:a.tmod b≠0:=fun e=>c (hd.mpr e);have ha:a≠0:=fun e=>c (by subst e; exact ⟨0,by simp⟩);rw [if_neg c];rcases Int.lt_or_gt_of_ne hb with s2 | s2
  ·rw [if_neg (by omega : ¬ 0<=b),if_neg (by omega : ¬ 0<=b),Int.sign_eq_neg_one_of_neg s2]
   by_cases s1:0<=a
   ·rw [if_pos s1,if_pos ⟨hc,by omega⟩]
   ·rw [if_neg s1,if_neg (fun h=>h.2 (by omega))]; omega
  ·rw [if_pos (by omega:0<=b),if_pos (by omega:0<=b),Int.sign_eq_one_of_pos s2]
   by_cases s1:0<=a
   ·rw [if_pos s1,if_neg (fun h=>h.2 (by omega))]; omega
   ·rw [if_neg s1,if_pos ⟨hc,by omega⟩]
theorem yal (a b:Int) (ha:inI a):RUN T zly [iv a,iv b]=some ([iv (fdv a b).1,bv (fdv a b).2],[]):=by
 refine zae rfl rfl ?_;simp [z1u,zks]
 by_cases h0:b=0
 ·subst h0; simp [fdv]
 by_cases hbad:b = -1/\a = -9223372036854775808
 ·obtain ⟨rfl,rfl⟩:=hbad; simp [fdv]
 have hr:=yn8 ha h0 hbad;have hq:=w64 hr.1 hr.2.1;have hf:=ytf a b h0;have e1:fdv a b=(a.fdiv b,true):=by unfold fdv; rw [if_neg (by simp [h0]; intro h; exact fun h2=>hbad ⟨h,h2⟩)]
 rw [e1];have hq2:a.tmod b≠0->IntKind.i64.wrap (a.tdiv b-1)=a.tdiv b-1:=fun h=>w64 (hr.2.2 (by rintro rfl; simp at h)) (by omega);have f0:=bK h0;obtain ⟨p1,hp1⟩ : ∃ p,(b = -1)=p:=⟨_,rfl⟩;obtain ⟨p2,hp2⟩ : ∃ p,(a = -9223372036854775808)=p:=⟨_,rfl⟩;rw [hp1,hp2] at hbad
 by_cases c1:p1 <;> by_cases c2:p2
 ·exact (hbad ⟨c1,c2⟩).elim
 all_goals
  simp only [c1,c2] at hp1 hp2;simp [f0,hp1,hp2,hq]
  by_cases d0:a.tmod b=0
  ·rw [if_neg (by simp [d0])] at hf;simp [d0,hf]
  ·have hq3:=hq2 d0;have d1:=bK d0
   by_cases d2:a<0 <;> by_cases d3:b<0
   all_goals
    simp only [d2,d3,ne_eq,d1,not_false_eq_true,iff_self,not_true_eq_false,and_false,if_false,iff_true,iff_false,and_true,if_true] at hf;simp [d1,d2,d3,hq3,hf]
theorem ylq (a b:Int) (ha:inI a):RUN T znk [iv a,iv b]=some ([iv (fdv a b).1,bv (fdv a b).2],[]):=by
 refine zae rfl rfl ?_;simp [z0q,zks]
 by_cases h0:b=0
 ·subst h0; simp [fdv]
 by_cases hbad:b = -1/\a = -9223372036854775808
 ·obtain ⟨rfl,rfl⟩:=hbad; simp [fdv]
 have hr:=yn8 ha h0 hbad;have hq:=w64 hr.1 hr.2.1;have hf:=ytf a b h0;have e1:fdv a b=(a.fdiv b,true):=by unfold fdv; rw [if_neg (by simp [h0]; intro h; exact fun h2=>hbad ⟨h,h2⟩)]
 rw [e1];have hq2:a.tmod b≠0->IntKind.i64.wrap (a.tdiv b-1)=a.tdiv b-1:=fun h=>w64 (hr.2.2 (by rintro rfl; simp at h)) (by omega);have f0:=bK h0;obtain ⟨p1,hp1⟩ : ∃ p,(b = -1)=p:=⟨_,rfl⟩;obtain ⟨p2,hp2⟩ : ∃ p,(a = -9223372036854775808)=p:=⟨_,rfl⟩;rw [hp1,hp2] at hbad
 by_cases c1:p1 <;> by_cases c2:p2
 ·exact (hbad ⟨c1,c2⟩).elim
 all_goals
  simp only [c1,c2] at hp1 hp2;simp [f0,hp1,hp2,hq]
  by_cases d0:a.tmod b=0
  ·rw [if_neg (by simp [d0])] at hf;simp [d0,hf]
  ·have hq3:=hq2 d0;have d1:=bK d0
   by_cases d2:a<0 <;> by_cases d3:b<0
   all_goals
    simp only [d2,d3,ne_eq,d1,not_false_eq_true,iff_self,not_true_eq_false,and_false,if_false,iff_true,iff_false,and_true,if_true] at hf;simp [d1,d2,d3,hq3,hf]
abbrev zd1 (c:Cfg):PV := .agg [iv c.ro,iv c.de,iv c.bi,iv c.la,iv c.rw,iv c.nu,iv c.dn,.sl 1 (zab c.sg)]
abbrev zhx (c:Cfg):PV := .agg [iv c.ro,iv c.de,iv c.bi,iv c.la,iv c.rw,iv c.nu,iv c.dn,.own 1 (zab c.sg)]
theorem zar {n a b:Int}:zah n a b=true↔a<=n/\n<=b:=by simp [zah]
theorem zuz {c:Cfg} (h:zb9 c=true):(1<=c.ro/\c.ro<=8)/\(0<=c.de/\c.de<=4)/\(2<=c.bi/\c.bi<=8)/\(1<=c.la/\c.la<=100)/\(1<=c.rw/\c.rw<=20)/\(1<=c.dn/\c.dn<=1000)/\(1<=c.nu/\c.nu<=c.dn)/\c.sg.length<=4/\∀ n∈c.sg,-1<=n/\n<=1:=by
 simp only [zb9,Bool.and_eq_true,zar,decide_eq_true_eq,List.all_eq_true] at h;obtain ⟨⟨⟨⟨⟨⟨⟨⟨h1,h2⟩,h3⟩,h4⟩,h5⟩,h6⟩,h7⟩,h8⟩,h9⟩:=h;exact ⟨h1,h2,h3,h4,h5,h6,h7,by omega,h9⟩
def zda (v:Int):Bool:=zah v (-1099511627776) 1099511627776
@[simp] theorem ylr (v:Int):RUN T zkc [iv v]=some ([bv (zda v)],[]):=by
 refine zae rfl rfl ?_;simp [z3n,ztr,zda,zah]
@[simp] theorem yls (v:Int):RUN T zl5 [iv v]=some ([bv (zda v)],[]):=by
 refine zae rfl rfl ?_;simp [z4e,ztr,zda,zah]
def shr (v:Int) (c:Cfg):Int×Bool:=if zb9 c && zda v then (( v*c.nu).fdiv c.dn,true) else (0,false)
theorem yr2 {v:Int} {c:Cfg} (h:zb9 c=true) (hv:zda v=true):inI (v*c.nu)/\IntKind.i64.wrap (v*c.nu)=v*c.nu/\fdv (v*c.nu) c.dn=((v*c.nu).fdiv c.dn,true):=by
 obtain ⟨_,_,_,_,_,hd,hn,_⟩:=zuz h;have h1:=zar.mp hv;have h2 : -1099511627776*1000<=v*c.nu:=by
  have a1 : -1099511627776*c.nu<=v*c.nu:=Int.mul_le_mul_of_nonneg_right h1.1 (by omega);omega
 have h3:v*c.nu<=1099511627776*1000:=by
  have a1:v*c.nu<=1099511627776*c.nu:=Int.mul_le_mul_of_nonneg_right h1.2 (by omega);omega
 refine ⟨⟨by omega,by omega⟩,w64 (by omega) (by omega),?_⟩;unfold fdv;rw [if_neg (by omega)]
theorem y7g (v:Int) (c:Cfg) (hl:c.sg.length<=9223372036854775807):RUN T zse [iv v,zd1 c]=some ([iv (shr v c).1,bv (shr v c).2],[]):=by
 refine zae rfl rfl ?_;have e:=yak c hl;simp [z3j,zks,e];cases h:zb9 c
 ·simp [shr,h]
 ·cases hv:zda v
  ·simp [h,hv,shr]
  ·obtain ⟨h1,h2,h3⟩:=yr2 h hv;have e2:=yal _ c.dn h1;rw [h3] at e2;simp [h,hv,shr,h2,e2]
theorem y7h (v:Int) (c:Cfg) (hl:c.sg.length<=9223372036854775807):RUN T zr7 [iv v,zd1 c]=some ([iv (shr v c).1,bv (shr v c).2],[]):=by
 refine zae rfl rfl ?_;have e:=yaj c hl;simp [z24,zks,e];cases h:zb9 c
 ·simp [shr,h]
 ·cases hv:zda v
  ·simp [h,hv,shr]
  ·obtain ⟨h1,h2,h3⟩:=yr2 h hv;have e2:=ylq _ c.dn h1;rw [h3] at e2;simp [h,hv,shr,h2,e2]
theorem z81 (a b c d e a' b' c' d' e':Int):eqP [.i .i64,.i .i64,.i .i64,.i .i64,.i .i64] (.agg [iv a,iv b,iv c,iv d,iv e]) (.agg [iv a',iv b',iv c',iv d',iv e'])=some (decide (a=a'/\b=b'/\c=c'/\d=d'/\e=e')):=by
 simp only [eqP,zcb,qbg,Option.bind_some]
 by_cases h1:a=a' <;> by_cases h2:b=b' <;> by_cases h3:c=c' <;> by_cases h4:d=d' <;> by_cases h5:e=e' <;> simp [h1,h2,h3,h4,h5]
def zbg (n:Int):Bool:=zah n (-2147483647) 2147483647
@[simp] theorem zph (v:Int):RUN T zj9 [iv v]=some ([bv (zbg v)],[]):=by
 refine zae rfl rfl ?_;simp [zzz,ztr,zbg,zah]
@[simp] theorem qo0 (v:Int):RUN T zq5 [iv v]=some ([bv (zbg v)],[]):=by
 refine zae rfl rfl ?_;simp [z0o,ztr,zbg,zah]
def shp (F:Int):List Nd->Int->Int->Option Int
 | [],_,n=>some n
 | x::xs,i,n =>
  if x.f = -1 then (if (x.c=0/\x.l=0/\x.r=0)/\zda x.v=true then shp F xs (i+1) n else none)
  else if zah x.f 0 (F-1)=true/\zbg x.c=true/\x.v=0/\x.l=n/\x.r=n+1/\i<n then shp F xs (i+1) (n+2) else none
def zg3 (t:List Nd) (F:Int):Bool:=match shp F t 0 1 with
 | some n=>decide (n=t.length)
 | none=>false
theorem y7i (t:List Nd) (F:Int) (hl:t.length<=1048576) (hF:0<=F/\F<=4):RUN T zri [.agg [.sl 5 (t.map nd)],iv F]=some ([bv (zg3 t F)],[]):=by
 refine zae rfl rfl ?_;simp [z06,zvz];have hwF:=w64 (x:=F-1) (by omega) (by omega);refine zao (fun n st => ∃ i:Nat,i+n=t.length/\∃ k:Nat,k<=i/\shp F (t.drop i) i (1+2*k)=shp F t 0 1/\st.V 1=iv F/\st.V 2 = .ptr 0 none 0 0 0/\st.V 5=iv (1+2*k)/\st.V 6=iv i/\0<st.nx/\st.S 0=some (.box [.sl 5 (t.map nd)])) ?_ t.length _ ⟨0,by simp,0,by simp⟩;rintro n st ⟨i,hi,k,hk,hr,h1,h2,h5,h6,hnx,hS⟩;simp [yfc,h2,h6,hS];have z:=fr hnx;refine zau (fun h => ?_) (fun h => ?_)
 ·simp at h;obtain ⟨x,hx⟩ : ∃ x,t[i]?=some x:=⟨_,bG h⟩;have hw:=wS h (by omega:t.length<=9223372036854775807);have hw1:=w64 (x:=1+2*(k:Int)+1) (by omega) (by omega);have hw2:=w64 (x:=1+2*(k:Int)+2) (by omega) (by omega);rw [zcr hx,shp] at hr;simp [-getElem?_pos,h2,h6,hS,hx,nd];refine zau (fun h3 => ?_) (fun h3 => ?_)
  ·simp at h3;rw [if_pos h3] at hr
   by_cases hc:x.c=0/\x.l=0/\x.r=0
   ·have hc':=eq_true hc;simp [-getElem?_pos,h3,z81,hc'];cases hv:zda x.v with
    | false =>
     rw [if_neg (by simp [hv])] at hr;simp [zg3,<- hr]
    | true =>
     rw [if_pos ⟨hc,hv⟩] at hr;simp [-getElem?_pos,h6,hw];exact zai (n-1) (by omega) ⟨i+1,by omega,k,by omega,by simpa using hr,by simp [h1,h2,h5,z,hS]⟩
   ·have hc':=bK hc;rw [if_neg (fun h=>hc h.1)] at hr;simp [-getElem?_pos,h3,z81,hc'];simp [zg3,<- hr]
  ·simp at h3;rw [if_neg h3] at hr;simp [-getElem?_pos,h1,h3,hwF,zbb,-za1]
   by_cases hc:zah x.f 0 (F-1)=true/\zbg x.c=true/\x.v=0/\x.l=1+2*(k:Int)/\x.r=1+2*(k:Int)+1/\(i:Int)<1+2*(k:Int)
   ·rw [if_pos hc] at hr;obtain ⟨c1,c2,c3,c4,c5,c6⟩:=hc;have c7 : ¬ (1+2*(k:Int)<=i):=by omega
    simp [-getElem?_pos,h5,h6,c1,c2,c3,c4,c5,c7,hw,hw1,hw2];exact zai (n-1) (by omega) ⟨i+1,by omega,k+1,by omega,by rw [<- hr]; congr 1,by simp [h1],by simp [h2],by simp; omega,by simp [z,hS]⟩
   ·rw [if_neg hc] at hr;have e0:zg3 t F=false:=by simp [zg3,<- hr]
    rw [e0];refine zau (fun b0 => ?_) (fun b0 => ?_) <;> (try simp at b0) <;> simp [-getElem?_pos,b0]
    all_goals try (refine zau (fun b1 => ?_) (fun b1 => ?_) <;> (try simp at b1) <;> simp [-getElem?_pos,b1])
    all_goals try (refine zau (fun b2 => ?_) (fun b2 => ?_) <;> (try simp at b2) <;> simp [-getElem?_pos,b2,h5])
    all_goals try (refine zau (fun b3 => ?_) (fun b3 => ?_) <;> (try simp at b3) <;> simp [-getElem?_pos,b3,h5,hw1])
    all_goals try (refine zau (fun b4 => ?_) (fun b4 => ?_) <;> (try simp at b4) <;> simp [-getElem?_pos,b4,h6])
    all_goals try (refine zau (fun b5 => ?_) (fun b5 => ?_) <;> (try simp at b5) <;> simp [-getElem?_pos,b5,h5,h6])
    exact (hc ⟨b0,b1,b2,b3,b4,by omega⟩).elim
 ·simp at h;rw [bN h,shp] at hr;unfold zg3;rw [<- hr];simp [h5,hS,h2]
structure ydv (F:Int) (x:Nd) (i n m:Int):Prop where
 lo:n<=x.l
 lt:i<x.l
 r:x.r=x.l+1
 hi:x.r<m
 f:0<=x.f/\x.f<=F-1
 c:zbg x.c=true
 v:x.v=0
theorem ybj (F:Int) : ∀ (l:List Nd) (i n m:Int),shp F l i n=some m->n<=m /\
  (∀ (j:Nat) (x:Nd),l[j]?=some x->x.f = -1->x.c=0/\x.l=0/\x.r=0/\zda x.v=true) /\
  (∀ (j:Nat) (x:Nd),l[j]?=some x->x.f ≠ -1->ydv F x (i+j) n m) /\
  (∀ (j j':Nat) (x y:Nd),j<j'->l[j]?=some x->l[j']?=some y->x.f ≠ -1->y.f ≠ -1->x.r<y.l) /\
  (∀ k:Int,n<=k->k<m->∃ (j:Nat) (x:Nd),l[j]?=some x/\x.f ≠ -1/\(x.l=k\/x.r=k))
 | [],i,n,m,h=>by
  simp only [shp,bC] at h;subst h;exact ⟨Int.le_refl _,by simp,by simp,by simp,fun k h1 h2=>by omega⟩
 | x::xs,i,n,m,h=>by
  rw [shp] at h;split at h
  ·rename_i hf;split at h
   ·rename_i hc;obtain ⟨h1,h2,h3,h4,h5⟩:=ybj F xs (i+1) n m h;refine ⟨h1,fun j y hj hy => ?_,fun j y hj hy => ?_,fun j j' y z hjj hj hj' hy hz => ?_,fun k hk1 hk2 => ?_⟩
    ·cases j with
     | zero=>simp at hj; subst hj; exact ⟨hc.1.1,hc.1.2.1,hc.1.2.2,hc.2⟩
     | succ j=>exact h2 j y (by simpa using hj) hy
    ·cases j with
     | zero=>simp at hj; subst hj; exact (hy hf).elim
     | succ j =>
      have:=h3 j y (by simpa using hj) hy;exact ⟨this.lo,by have:=this.lt; push_cast; omega,this.r,this.hi,this.f,this.c,this.v⟩
    ·cases j' with
     | zero=>omega
     | succ j' =>
      cases j with
      | zero=>simp at hj; subst hj; exact (hy hf).elim
      | succ j=>exact h4 j j' y z (by omega) (by simpa using hj) (by simpa using hj') hy hz
    ·obtain ⟨j,y,hj,hy⟩:=h5 k hk1 hk2;exact ⟨j+1,y,by simpa using hj,hy⟩
   ·cases h
  ·rename_i hf;split at h
   ·rename_i hc;obtain ⟨c1,c2,c3,c4,c5,c6⟩:=hc;have c1':=zar.mp c1;obtain ⟨h1,h2,h3,h4,h5⟩:=ybj F xs (i+1) (n+2) m h;refine ⟨by omega,fun j y hj hy => ?_,fun j y hj hy => ?_,fun j j' y z hjj hj hj' hy hz => ?_,fun k hk1 hk2 => ?_⟩
    ·cases j with
     | zero=>simp at hj; subst hj; exact (hf hy).elim
     | succ j=>exact h2 j y (by simpa using hj) hy
    ·cases j with
     | zero=>simp at hj; subst hj; exact ⟨by omega,by simp; omega,by omega,by omega,c1',c2,c3⟩
     | succ j =>
      have:=h3 j y (by simpa using hj) hy;exact ⟨by have:=this.lo; omega,by have:=this.lt; push_cast; omega,this.r,this.hi,this.f,this.c,this.v⟩
    ·cases j' with
     | zero=>omega
     | succ j' =>
      cases j with
      | zero =>
       simp at hj; subst hj;have:=(h3 j' z (by simpa using hj') hz).lo;omega
      | succ j=>exact h4 j j' y z (by omega) (by simpa using hj) (by simpa using hj') hy hz
    ·by_cases hkn:k<n+2
     ·exact ⟨0,x,rfl,hf,by omega⟩
     ·obtain ⟨j,y,hj,hy⟩:=h5 k (by omega) hk2;exact ⟨j+1,y,by simpa using hj,hy⟩
   ·cases h
structure Shaped (t:List Nd) (F:Int):Prop where
 leaf : ∀ (j:Nat) (x:Nd),t[j]?=some x->x.f = -1->x.c=0/\x.l=0/\x.r=0/\zda x.v=true
 inner : ∀ (j:Nat) (x:Nd),t[j]?=some x->x.f ≠ -1->ydv F x j 1 t.length
 ord : ∀ (j j':Nat) (x y:Nd),j<j'->t[j]?=some x->t[j']?=some y->x.f ≠ -1->y.f ≠ -1->x.r<y.l
 cover : ∀ k:Int,1<=k->k<t.length->∃ (j:Nat) (x:Nd),t[j]?=some x/\x.f ≠ -1/\(x.l=k\/x.r=k)
 pos:1<=t.length
theorem z8r {t:List Nd} {F:Int} (h:zg3 t F=true):Shaped t F:=by
 unfold zg3 at h;split at h
 ·rename_i n hn;simp at h;subst h;obtain ⟨h1,h2,h3,h4,h5⟩:=ybj F t 0 1 _ hn;exact ⟨h2,fun j x hj hx=>by simpa using h3 j x hj hx,h4,h5,by omega⟩
 ·cases h
theorem yep {k:Int} {x:Nd}:zf1 k x=true↔x.f ≠ -1/\(x.l=k\/x.r=k):=by simp [zf1]
theorem Shaped.par_of {t:List Nd} {F:Int} (h:Shaped t F) {i:Nat} {x:Nd} (hx:t[i]?=some x) (hf:x.f ≠ -1) {k:Int} (hk:x.l=k\/x.r=k):par t k=i:=by
 unfold par;refine zuy hx (yep.mpr ⟨hf,hk⟩) fun j y hj hy => ?_;cases ha:zf1 k y with
 | false=>rfl
 | true =>
  obtain ⟨hyf,hyk⟩:=yep.mp ha;have h1:=h.ord j i y x hj hy hx hyf hf;have h2:=(h.inner j y hy hyf).r;have h3:=(h.inner i x hx hf).r;omega
theorem Shaped.par_lt {t:List Nd} {F:Int} (h:Shaped t F) (k:Int):par t k<0\/∃ (i:Nat) (x:Nd),par t k=i/\t[i]?=some x/\x.f ≠ -1/\(x.l=k\/x.r=k)/\(i:Int)<k/\k<t.length:=by
 rcases ym2 t k with h1 | h1
 ·left; omega
 ·obtain ⟨i,hi⟩ : ∃ i:Nat,par t k=i:=⟨(par t k).toNat,by omega⟩;right;have hil:i<t.length:=by omega
  have hx:=bG hil;refine ⟨i,t[i],hi,hx,?_⟩;have ha:zf1 k t[i]=true:=by
   unfold par zg5 at hi;split at hi
   ·rename_i j hj;obtain ⟨h2,h3,_⟩:=List.findIdx?_eq_some_iff_getElem.mp hj;have:j=i:=by omega
    subst this; exact h3
   ·omega
  obtain ⟨hf,hk⟩:=yep.mp ha;have:=h.inner i _ hx hf;have h2:=this.lt;have h3:=this.r;have h4:=this.hi;exact ⟨hf,hk,by omega,by omega⟩
theorem Shaped.anc {t:List Nd} {F:Int} (h:Shaped t F) : ∀ (n:Nat) (k:Int),k<n->0<n->∃ l,anc t n k=some l
 | 0,_,_,h0=>by omega
 | n+1,k,hk,_=>by
  rw [zk4];split
  ·exact ⟨[],rfl⟩
  ·rename_i hp;rcases h.par_lt k with h1 | ⟨i,x,h1,_,_,_,h2,_⟩
   ·omega
   ·obtain ⟨l,hl⟩:=h.anc n (par t k) (by omega) (by omega);exact ⟨_,by rw [hl]; rfl⟩
def adj (p:Int->Int->Bool):List Int->Bool
 | a::b::r=>p a b || adj p (b::r)
 | _=>false
theorem yqt (p:Int->Int->Bool) : ∀ (l:List Int) (a b:Int),adj p (l++[a,b])=(adj p (l++[a]) || p a b)
 | [],a,b=>by simp [adj]
 | [x],a,b=>by simp [adj]
 | x::y::r,a,b=>by
  have:=yqt p (y::r) a b;simp only [List.cons_append,adj] at this ⊢;rw [this,Bool.or_assoc]
theorem yd5 (p:Int->Int->Bool) : ∀ l:List Int,adj p l.reverse=adj (fun a b=>p b a) l
 | []=>rfl
 | [x]=>rfl
 | x::y::r=>by
  have:=yd5 p (y::r);rw [adj,<- this];simp only [List.reverse_cons,List.append_assoc,List.cons_append,List.nil_append];rw [yqt,Bool.or_comm]
theorem z84 {p:Int->Int->Bool} : ∀ {l:List Int},adj p l=true↔∃ (i:Nat) (a b:Int),l[i]?=some a/\l[i+1]?=some b/\p a b=true
 | []=>by simp [adj]
 | [x]=>by simp [adj]
 | x::y::r=>by
  simp only [adj,Bool.or_eq_true];rw [z84 (l:=y::r)];constructor
  ·rintro (h | ⟨i,a,b,h1,h2,h3⟩)
   ·exact ⟨0,x,y,rfl,rfl,h⟩
   ·exact ⟨i+1,a,b,by simpa using h1,by simpa using h2,h3⟩
  ·rintro ⟨i,a,b,h1,h2,h3⟩;cases i with
   | zero=>simp at h1 h2; subst h1; subst h2; exact .inl h3
   | succ i=>exact .inr ⟨i,a,b,by simpa using h1,by simpa using h2,h3⟩
def zg1 (t:List Nd) (n:Nd) (a b:Int):Bool:=match t[a.toNat]? with
 | none=>false
 | some x=>decide (x.f=n.f) && ((decide (x.r=b) && decide (n.c<=x.c)) || (decide (x.l=b) && decide (x.c<=n.c)))
def zg2 (t:List Nd) (i:Nat):Bool:=match t[i]? with
 | none=>true
 | some x=>decide (x.f = -1) || !adj (zg1 t x) (way t i)
def zh2 (t:List Nd):Bool:=(List.range t.length).all (zg2 t)
def zhe (t:List Nd) (F:Int):Bool:=zah F 0 4 && zah t.length 1 31 && zg3 t F && decide (dpt t t.length<=4) && zh2 t
theorem ytl (t:List Nd) (b:Int) (hb : -1<=b) : ∀ n:Nat,dpt t n<=b↔∀ i:Nat,i<n->zfj t i<=b
 | 0=>by simp [dpt]; omega
 | n+1=>by
  have ih:=ytl t b hb n;simp only [dpt];constructor
  ·intro h i hi
   by_cases e:i=n
   ·subst e; omega
   ·exact ih.mp (by omega) i (by omega)
  ·intro h;have h1:=ih.mpr fun i hi=>h i (by omega);have h2:=h n (by omega);omega
theorem Shaped.lev_par {t:List Nd} {F:Int} (h:Shaped t F) (hl:t.length<=31) {k:Nat} (hk:k<t.length):0<=zfj t k/\(par t k<0->zfj t k=0)/\(0<=par t k->zfj t k=zfj t (par t k)+1):=by
 have e : ∀ j:Nat,j<t.length->zfj t j=lev t 32 j:=fun j hj=>by unfold zfj; rw [if_pos (by omega)]
 obtain ⟨l,ha⟩:=h.anc 32 k (by omega) (by omega);have hlev:zfj t k=l.length:=by rw [e k hk,yu4,ha]
 refine ⟨by omega,fun hp => ?_,fun hp => ?_⟩
 ·rw [zk4,if_pos hp] at ha; cases ha; simpa using hlev
 ·rcases h.par_lt k with h1 | ⟨i,x,h1,_,_,_,h2,_⟩
  ·omega
  ·obtain ⟨m,hm⟩:=h.anc 31 i (by omega) (by omega);rw [zk4,if_neg (by omega),h1,hm] at ha;simp at ha;subst ha;obtain ⟨m',hm'⟩:=h.anc 32 i (by omega) (by omega);have hmm : ∀ (n:Nat) (k:Int) (a b:List Int),Pe.anc t n k=some a->Pe.anc t (n+1) k=some b->a=b:=by
    intro n
    induction n with
    | zero=>intro k a b h1; cases h1
    | succ n ih =>
     intro k a b h1 h2;rw [zk4] at h1 h2;split at h1
     ·rename_i c; rw [if_pos c] at h2; cases h1; cases h2; rfl
     ·rename_i c; rw [if_neg c] at h2;simp only [bB] at h1 h2;obtain ⟨a',ha',rfl⟩:=h1;obtain ⟨b',hb',rfl⟩:=h2;rw [ih _ _ _ ha' hb']
   have:=hmm 31 i m m' hm hm';subst this;rw [h1,e i (by omega),yu4,hm',hlev];simp
theorem Shaped.leaf_deep {t:List Nd} {F:Int} (h:Shaped t F) (hl:t.length<=31) : ∀ (n k:Nat),k<t.length->t.length-k<=n->∃ (j:Nat) (x:Nd),t[j]?=some x/\x.f = -1/\zfj t k<=zfj t j
 | 0,k,hk,hn=>by omega
 | n+1,k,hk,hn=>by
  have hx:=bG hk
  by_cases hf:(t[k]).f = -1
  ·exact ⟨k,_,hx,hf,Int.le_refl _⟩
  ·have hi:=h.inner k _ hx hf;have h1:=hi.lt;have h2:=hi.r;have h3:=hi.hi;obtain ⟨c,hc⟩ : ∃ c:Nat,(t[k]).l=c:=⟨(t[k]).l.toNat,by omega⟩;have hp:=h.par_of hx hf (.inl hc);obtain ⟨_,_,h4⟩:=h.lev_par hl (k:=c) (by omega);rw [hp] at h4;obtain ⟨j,y,h5,h6,h7⟩:=h.leaf_deep hl n c (by omega) (by omega);exact ⟨j,y,h5,h6,by have:=h4 (by omega); omega⟩
theorem Shaped.way {t:List Nd} {F:Int} (h:Shaped t F) (hl:t.length<=31) {i:Nat} (hi:i<t.length) : ∃ l,Pe.way t i=((i:Int)::l).reverse/\Chn t l (par t i)/\l.length<=31:=by
 obtain ⟨l,ha⟩:=h.anc 32 i (by omega) (by omega);have hc:=ys0 t 32 i l (by omega) ha;have hle:=yqw t 32 i l ha;refine ⟨l,?_,hc.2.2,by omega⟩;unfold Pe.way;rw [if_pos (by omega),ha]
theorem yq7 {t:List Nd} {a:Nat} {z:Nd} (h:t[a]?=some z) (n:Nd) (b:Int):zg1 t n a b=(decide (z.f=n.f) && ((decide (z.r=b) && decide (n.c<=z.c)) || (decide (z.l=b) && decide (z.c<=n.c)))):=by
 simp [zg1,h]
theorem z7u {t:List Nd} {i:Nat} {x:Nd} (h:t[i]?=some x):zg2 t i=(decide (x.f = -1) || !adj (zg1 t x) (way t i)):=by simp [zg2,h]
theorem yb6 {t:List Nd}:zh2 t=true↔∀ j:Nat,j<t.length->zg2 t j=true:=by
 simp [zh2]
theorem qh3 {t:List Nd} {i:Nat} (hi:i<t.length) (h:zg2 t i=false):zh2 t=false:=by
 cases e:zh2 t with
 | false=>rfl
 | true=>rw [yb6.mp e i hi] at h; cases h
theorem y7j (t:List Nd) (F:Int) (hl:t.length<=31) (hs:Shaped t F):RUN T zrk [.agg [.sl 5 (t.map nd)]]=some ([bv (zh2 t)],[]):=by
 refine zae rfl rfl ?_;simp [z1a,ztr];refine zao (fun n st => ∃ i:Nat,i+n=t.length/\(∀ j:Nat,j<i->zg2 t j=true)/\st.V 1 = .ptr 0 none 0 0 0/\st.V 3=iv i/\0<st.nx/\st.S 0=some (.box [.sl 5 (t.map nd)])) ?_ t.length _ ⟨0,by simp⟩;rintro n st ⟨i,hi,hk,h1,h3,hnx,hS⟩;simp [yff,h1,h3,hS];have z:=fr hnx;refine zau (fun h => ?_) (fun h => ?_)
 ·simp at h;obtain ⟨x,hx⟩ : ∃ x,t[i]?=some x:=⟨_,bG h⟩;have hw:=wS h (by omega:t.length<=9223372036854775807);have hup:=fun k=>ylo t k (by omega);obtain ⟨l,hway,hchn,hll⟩:=hs.way hl h;simp [-getElem?_pos,h1,h3,hS,hx,nd];refine zau (fun h4 => ?_) (fun h4 => ?_)
  ·simp at h4;have ok:zg2 t i=true:=by rw [z7u hx]; simp [h4]
   simp [-getElem?_pos,h3,hw];exact zai (n-1) (by omega) ⟨i+1,by omega,fun j hj=>by by_cases e:j=i; (subst e; exact ok); exact hk j (by omega),by simp [h1,hnx,hS]⟩
  ·simp at h4;obtain ⟨A,hA⟩ : ∃ A,A=adj (zg1 t x) (way t i):=⟨_,rfl⟩;have hA':zg2 t i = !A:=by rw [z7u hx,hA]; simp [h4]
   rw [hway,yd5] at hA;simp [-getElem?_pos,h1,h3,hS,hup];refine zao (fun n st => ∃ (c:Int) (r:List Int),r.length=n/\Chn t r (par t c)/\adj (fun a b=>zg1 t x b a) (c::r)=A/\st.V 1 = .ptr 0 none 0 0 0/\st.V 3=iv i/\st.V 4=iv c/\st.V 5=iv (par t c)/\0<st.nx/\st.S 0=some (.box [.sl 5 (t.map nd)])) ?_ l.length _ ⟨i,l,rfl,hchn,hA.symm,by simp [h1,h3,hnx,hS]⟩;clear hnx hS h1 h3 z;rintro n' st ⟨c,r,hr,hc,hcA,h1,h3,h4',h5,hnx,hS⟩;have z:=fr hnx;simp [yfe,h5];refine zau (fun h => ?_) (fun h => ?_)
   ·simp at h;cases r with
    | nil=>have:par t c<0:=hc; omega
    | cons y ys =>
     obtain ⟨rfl,h0,hc'⟩:=hc;have hpr:=ym2 t c;obtain ⟨a,ha⟩ : ∃ a:Nat,par t c=a:=⟨(par t c).toNat,by omega⟩;rw [ha] at h5 hc' hcA hpr;obtain ⟨y,hy⟩ : ∃ y,t[a]?=some y:=⟨_,bG (by omega)⟩;rw [adj,yq7 hy] at hcA;have z2:=fr (by omega:st.nx<st.nx+1)
     by_cases b0:y.f=x.f
     all_goals by_cases b1:y.r=c
     all_goals by_cases b2:x.c<=y.c
     all_goals by_cases b3:y.l=c
     all_goals by_cases b4:y.c<=x.c
     all_goals simp [b0,b1,b2,b3,b4] at hcA
     all_goals simp [-getElem?_pos,h1,h3,h4',h5,hS,hx,hy,z,nd,hup,b0,b1,b2,b3,b4]
     all_goals first
      | (have no:zh2 t=false:=qh3 (i:=i) (by omega) (by rw [hA']; simp [hcA])
         simp [no]; done)
      | (simp at hr
         exact zai ys.length (by omega) ⟨a,ys,rfl,hc',hcA,by simp [h1,h3,z,hS]⟩)
      | skip
   ·simp at h;cases r with
    | nil =>
     have ok:zg2 t i=true:=by rw [hA',<- hcA]; rfl
     simp [-getElem?_pos,h3,hw];exact zai (n-1) (by omega) ⟨i+1,by omega,fun j hj=>by by_cases e:j=i; (subst e; exact ok); exact hk j (by omega),by simp [h1,hnx,hS]⟩
    | cons x xs=>obtain ⟨_,h0,_⟩:=hc; omega
 ·simp at h;have:zh2 t=true:=yb6.mpr fun j hj=>hk j (by omega);simp [this]
theorem ylt (t:List Nd) (F:Int) (hl:t.length<=9223372036854775807):RUN T zng [.agg [.sl 5 (t.map nd)],iv F]=some ([bv (zhe t F)],[]):=by
 refine zae rfl rfl ?_;unfold zhe
 by_cases h1:zah F 0 4=true
 ·by_cases h2:zah t.length 1 31=true
  ·have h1':=zar.mp h1;have h2':=zar.mp h2;have hS:=y7i t F (by omega) h1';have hD:=y67 t hl
   by_cases h3:zg3 t F=true
   ·have hW:=y7j t F (by omega) (z8r h3)
    by_cases h4:dpt t t.length<=4
    ·simp [zkn,zvz,zbb,-za1,h1,h2,hS,hD,hW,h3,h4]
    ·simp [zkn,zvz,zbb,-za1,h1,h2,hS,hD,h3,h4]
   ·simp [zkn,zvz,zbb,-za1,h1,h2,hS,h3]
  ·simp [zkn,zvz,zbb,-za1,h1,h2]
 ·by_cases h2:zah t.length 1 31=true
  ·simp [zkn,zvz,zbb,-za1,h1,h2]
  ·simp [zkn,zvz,zbb,-za1,h1,h2]
theorem qh4 {t:List Nd} {F:Int} (hl:t.length<=31) (h:Shaped t F):(decide (dpt t t.length<=4) && zh2 t)=true↔∀ (i:Nat) (x:Nd),t[i]?=some x->(x.f = -1->zfj t i<=4)/\(x.f ≠ -1->adj (zg1 t x) (way t i)=false):=by
 simp only [Bool.and_eq_true,decide_eq_true_eq,yb6,ytl t 4 (by omega)];constructor
 ·rintro ⟨h1,h2⟩ i x hx;have hi:=(bD hx).1;refine ⟨fun _=>h1 i hi,fun hf => ?_⟩;have:=h2 i hi;rw [z7u hx] at this;simpa [hf] using this
 ·intro h3;refine ⟨fun i hi => ?_,fun i hi => ?_⟩
  ·obtain ⟨j,x,hx,hf,hle⟩:=h.leaf_deep hl t.length i hi (by omega);have:=(h3 j x hx).1 hf;omega
  ·have hx:=bG hi;rw [z7u hx]
   by_cases hf:(t[i]).f = -1
   ·simp [hf]
   ·simp [hf,(h3 i _ hx).2 hf]
theorem qcu {t:List Nd} {F:Int} (h1:zah F 0 4=true) (h2:zah t.length 1 31=true) (h3:zg3 t F=true) (hn : ∀ (i:Nat) (x:Nd),t[i]?=some x->(x.f = -1->zfj t i<=4)/\(x.f ≠ -1->adj (zg1 t x) (way t i)=false)):zhe t F=true:=by
 unfold zhe;rw [Bool.and_assoc,(qh4 (zar.mp h2 |>.2 |> fun h=>by omega) (z8r h3)).mpr hn,h1,h2,h3];rfl
theorem zlp {α:Type} {P:Nat->α->Prop} {l:List α} {i:Nat} {x:α} (h : ∀ (j:Nat) (x:α),j<i->l[j]?=some x->P j x) (hi:l[i]?=some x) (hp:P i x) : ∀ (j:Nat) (x:α),j<i+1->l[j]?=some x->P j x:=by
 intro j y hj hy
 by_cases e:j=i
 ·subst e; rw [hi] at hy; cases hy; exact hp
 ·exact h j y (by omega) hy
def cel (q:Bool) (l:List Int):PV:=if q then .own 1 (zab l) else .sl 1 (zab l)
@[simp] theorem qzd (q:Bool) (l:List Int):fz (cel q l) = .sl 1 (zab l):=by cases q <;> simp [cel]
def rws (q:Bool) (L:List (List Int)):List (List PV):=L.map fun l=>[cel q l]
@[simp] theorem q5u (q:Bool) (L:List (List Int)):(rws q L).length=L.length:=by simp [rws]
theorem zc3 {q:Bool} {L:List (List Int)} {i:Nat} {l:List Int} (h:L[i]?=some l):(rws q L)[i]?=some [cel q l]:=by simp [rws,h]
@[simp] theorem qo1 (n:Int):RUN T zn3 [iv n]=some ([bv (!zbg n)],[]):=by
 refine zae rfl rfl ?_;simp [z33,ztr]
theorem yam (l:List Int) (hl:l.length<=9223372036854775807):RUN T zlx [.sl 1 (zab l)]=some ([bv (l.all zbg)],[]):=by
 refine zae rfl rfl ?_;have e:=yai (f:=zn3) (p:=fun n => !zbg n) l hl (by simp) (fun n _=>by simp);simp [z1k,ztr,e];simp [List.any_eq_not_all_not]
def zff (l:List Int):Bool := !adj (fun a b=>decide (b<=a)) l && l.all zbg && decide ((l.length:Int)<=7)
theorem yqd {p:Int->Int->Bool} {l:List Int} (h : ∀ (j:Nat) (a b:Int),l[j]?=some a->l[j+1]?=some b->p a b=false):adj p l=false:=by
 cases e:adj p l with
 | false=>rfl
 | true =>
  obtain ⟨j,a,b,h1,h2,h3⟩:=z84.mp e;rw [h j a b h1 h2] at h3; cases h3
theorem yok {p:Int->Int->Bool} {l:List Int} {j:Nat} {a b:Int} (h1:l[j]?=some a) (h2:l[j+1]?=some b) (h3:p a b=true):adj p l=true:=z84.mpr ⟨j,a,b,h1,h2,h3⟩
theorem zys {l:List Int} {p:Int->Bool} {j:Nat} {a:Int} (h1:l[j]?=some a) (h2:p a=false):l.all p=false:=by
 cases e:l.all p with
 | false=>rfl
 | true=>rw [List.all_eq_true.mp e a (bF h1)] at h2; cases h2
theorem zyj {l:List Int} {p:Int->Bool} (h : ∀ (j:Nat) (a:Int),j<l.length->l[j]?=some a->p a=true):l.all p=true:=by
 rw [List.all_eq_true];intro x hx;obtain ⟨j,hj⟩:=bH hx;exact h j x (bD hj).1 hj
theorem y7k (l:List Int) (hl:l.length<=9223372036854775807):RUN T zs1 [.sl 1 (zab l)]=some ([bv (zff l)],[]):=by
 refine zae rfl rfl ?_;have hd:=yam l hl;simp [z5c,ztr];refine zao (fun n st => ∃ i:Nat,i+n=l.length+1/\1<=i/\st.V 0 = .sl 1 (zab l)/\st.V 3=iv i/\∀ (j:Nat) (a b:Int),j+1<i->l[j]?=some a->l[j+1]?=some b->decide (b<=a)=false) ?_ l.length _ ⟨1,by omega,by omega,by simp,by simp,fun j a b h=>by omega⟩;rintro n st ⟨i,hi,h1,v0,v3,hj⟩;simp [yfy,v0,v3];refine zau (fun h => ?_) (fun h => ?_)
 ·simp at h;obtain ⟨k,rfl⟩ : ∃ k,i=k+1:=⟨i-1,by omega⟩;obtain ⟨a,ha⟩ : ∃ a,l[k]?=some a:=⟨_,bG (by omega)⟩;obtain ⟨b,hb⟩ : ∃ b,l[k+1]?=some b:=⟨_,bG h⟩;have ha':=zay ha;have hb':=zay hb;have hw:IntKind.i64.wrap ((k:Int)+1+1)=(k:Int)+1+1:=w64 (by omega) (by omega);have hw1:IntKind.i64.wrap (k:Int)=k:=w64 (by omega) (by omega);have hkl:k<l.length:=by omega
  simp [-getElem?_pos,v0,v3,ha',hb',hw1,h];refine zau (fun h2 => ?_) (fun h2 => ?_)
  ·simp at h2;have:zff l=false:=by unfold zff; rw [yok ha hb (by simpa using h2)]; rfl
   simp [this]
  ·simp at h2;simp [-getElem?_pos,v3,hw];refine zai (n-1) (by omega) ⟨k+2,by omega,by omega,by simp [v0],by simp; omega,fun j x y hjk hx hy => ?_⟩
   by_cases e:j=k
   ·subst e; rw [ha] at hx; rw [hb] at hy; cases hx; cases hy; simp; omega
   ·exact hj j x y (by omega) hx hy
 ·simp at h;have e:adj (fun a b=>decide (b<=a)) l=false:=yqd fun j a b h1 h2=>hj j a b (by have:=(bD h2).1; omega) h1 h2;unfold zff;rw [e]
  by_cases c:(l.length:Int)<=7
  ·simp [v0,hd,c]
  ·simp [v0,c]
theorem y7l (l:List Int) (hl:l.length<=9223372036854775807):RUN T zs5 [.sl 1 (zab l)]=some ([bv (zff l)],[]):=by
 refine zae rfl rfl ?_;simp [z5p,ztr];refine zao (fun n st => ∃ i:Nat,i+n=l.length/\st.V 0 = .sl 1 (zab l)/\st.V 3=iv i/\(∀ (j:Nat) (a:Int),j<i->l[j]?=some a->zbg a=true)/\∀ (j:Nat) (a b:Int),j+1<i->l[j]?=some a->l[j+1]?=some b->decide (b<=a)=false) ?_ l.length _ ⟨0,by simp⟩;rintro n st ⟨i,hi,v0,v3,hd,hj⟩;simp [yfz,v0,v3];refine zau (fun h => ?_) (fun h => ?_)
 ·simp at h;obtain ⟨b,hb⟩ : ∃ b,l[i]?=some b:=⟨_,bG h⟩;have hb':=zay hb;have hw:=wS h hl;rcases Bool.eq_false_or_eq_true (zbg b) with d | d
  ·have hd':=zlp (P:=fun _ a=>zbg a=true) hd hb d;rcases i with _ | k
   ·simp [-getElem?_pos,v0,v3,hb',d,h];exact zai (n-1) (by omega) ⟨1,by omega,by simp [v0],by simp,by simpa using hd',fun j x y hjk hx hy=>by omega⟩
   ·obtain ⟨a,ha⟩ : ∃ a,l[k]?=some a:=⟨_,bG (by omega)⟩;have ha':=zay ha;have hw:IntKind.i64.wrap ((k:Int)+1+1)=(k:Int)+1+1:=w64 (by omega) (by omega);have hw1:IntKind.i64.wrap (k:Int)=k:=w64 (by omega) (by omega);have hkl:k<l.length:=by omega
    have hk0:(0:Int)<((k+1:Nat):Int):=by omega
    rcases bL (b<=a) with c | c
    ·have:zff l=false:=by unfold zff; rw [yok ha hb (by simp [c])]; rfl
     simp [-getElem?_pos,v0,v3,ha',hb',d,h,hw1,c,this]
    ·simp [-getElem?_pos,v0,v3,ha',hb',d,h,hw,hw1,c];refine zai (n-1) (by omega) ⟨k+2,by omega,by simp [v0],by simp; omega,hd',fun j x y hjk hx hy => ?_⟩
     by_cases e:j=k
     ·subst e; rw [ha] at hx; rw [hb] at hy; cases hx; cases hy; simp [c]
     ·exact hj j x y (by omega) hx hy
  ·have:zff l=false:=by unfold zff; rw [zys hb d]; simp
   simp [-getElem?_pos,v0,v3,hb',d,h,this]
 ·simp at h;have e:adj (fun a b=>decide (b<=a)) l=false:=yqd fun j a b h1 h2=>hj j a b (by have:=(bD h2).1; omega) h1 h2;have e2:l.all zbg=true:=zyj fun j a h1 h2=>hd j a (by omega) h2;unfold zff;rw [e,e2];simp [v0]
def zd3:List (List Int)->Nat
 | []=>0
 | l::_=>l.length
theorem ylu (q:Bool) (c v:List (List Int)):RUN T zl7 [.agg [.sl 1 (rws q c),.sl 1 (rws q v)]]=some ([iv (zd3 v)],[]):=by
 refine zae rfl rfl ?_;cases v with
 | nil=>simp [zw9,ztr,zd3]
 | cons l L =>
  have h:rws q (l::L)=[cel q l]::rws q L:=rfl;have h0:((L.length:Int)+1=0)=False:=bK (by omega);simp [h0,zw9,ztr,zd3,h]
theorem yan (q:Bool) (c v:List (List Int)):RUN T zkb [.agg [.sl 1 (rws q c),.sl 1 (rws q v)]]=some ([iv (zd3 v)],[]):=by
 refine zae rfl rfl ?_;cases v with
 | nil=>simp [zwq,ztr,zd3]
 | cons l L =>
  have h:rws q (l::L)=[cel q l]::rws q L:=rfl;have h0:((L.length:Int)+1=0)=False:=bK (by omega);simp [h0,zwq,ztr,zd3,h]
theorem y7m {f:Nat} {c:PV} {p:Int->Bool} (l:List Int) (hl:l.length<=9223372036854775807) (hm:zad T f=[]) (hp : ∀ n∈l,RUN T f [iv n,.fptr [c] 0]=some ([bv (p n)],[])) :
  RUN T znr [.sl 1 (zab l),.fn f [.fptr [c] 0]]=some ([iv (zg5 p l)],[]):=by
 refine zae rfl rfl ?_;simp [zwl,zvz];refine zao (fun n st => ∃ i:Nat,i+n=l.length/\st.V 0 = .sl 1 (zab l)/\st.V 1 = .fn f [.fptr [c] 0]/\st.V 8=iv i/\st.V 7=iv l.length/\∀ (j:Nat) (x:Int),j<i->l[j]?=some x->p x=false) ?_ l.length _ ⟨0,by simp⟩;rintro n st ⟨i,hi,h0,h1,h8,h7,hj⟩;simp [z95,h8,h7];refine zau (fun h => ?_) (fun h => ?_)
 ·simp at h;obtain ⟨x,hx⟩ : ∃ x,l[i]?=some x:=⟨_,bG h⟩;have hw:=wS h hl;have hx':=zay hx;have hpx:=hp x (bF hx);simp [-getElem?_pos,h0,h1,h8,hx',hm,hpx,h];refine zau (fun b0 => ?_) (fun b0 => ?_) <;> (try simp at b0) <;> simp [-getElem?_pos,b0,h8,hw]
  all_goals first
   | exact (zuy hx b0 hj).symm
   | exact zai (n-1) (by omega) ⟨i+1,by omega,by simp [h0],by simp [h1],by simp,by simp [h7],z9s hj hx b0⟩
 ·simp at h;simp;exact (zy6 fun j x hl hx=>hj j x (by omega) hx).symm
theorem y7n {f:Nat} {c:PV} {p:Int->Bool} (l:List Int) (hl:l.length<=9223372036854775807) (hm:zad T f=[]) (hp : ∀ n∈l,RUN T f [iv n,.fptr [c] 0]=some ([bv (p n)],[])) :
  RUN T zjh [.sl 1 (zab l),.fn f [.fptr [c] 0]]=some ([bv (l.any p)],[]):=by
 refine zae rfl rfl ?_;have e:=y7m l hl hm hp;simp [zv7,zvz,e,z8k]
@[simp] theorem qo2 (n:Int) (a:List Int):RUN T zod [iv n,.fptr [.sl 1 (zab a)] 0]=some ([bv (!zah n 0 a.length)],[]):=by
 refine zae rfl rfl ?_;simp [z5e,z1p,zc0,-zbm]
theorem yrr {s:St} {d:Option Dst} {op:IOp} {g:Opd} {v:Bool} {x:PV}:(yv s ⟨d,op,some (g,v)⟩=some x)=(Ob' (ziw v (g.get s)) fun t=>Br t (WI (fun _=>[]) (fun _ _=>none) op s (fun y _=>y=x)) (PV.v Go.undef=x)):=by
 simp only [yv,yqj,WI,Ob',Br,bB,Option.bind_eq_some_iff,eq_iff_iff];constructor
 ·rintro ⟨⟨y,s'⟩,⟨t,h1,h2⟩,h3⟩;refine ⟨t,h1,fun ht => ?_,fun ht => ?_⟩ <;> subst ht
  ·exact ⟨y,s',by simpa using h2,h3⟩
  ·simp at h2; obtain ⟨rfl,rfl⟩:=h2; exact h3
 ·rintro ⟨t,h1,h2,h3⟩;cases t with
  | true=>obtain ⟨y,s',h4,h5⟩:=h2 rfl; exact ⟨(y,s'),⟨true,h1,by simpa using h4⟩,h5⟩
  | false=>exact ⟨_,⟨false,h1,rfl⟩,h3 rfl⟩
@[simp] theorem qvz {s:St} {d:Option Dst} {op:IOp} {g:Opd} {v:Bool} {x:PV} {n:Nat} {r:List (zac×PV×Nat)}:zcl s ((⟨d,op,some (g,v)⟩,x,n+1)::r)=((Ob' (ziw v (g.get s)) fun t=>Br t (WI (fun _=>[]) (fun _ _=>none) op s (fun y _=>y=x)) (PV.v Go.undef=x))/\zcl s r):=by
 simp only [zcl,yrr]
@[simp] theorem qyh {V E:Nat->PV} {d:Option Dst} {op:IOp} {g:Opd} {v:Bool} {x:PV} {n:Nat} {s:St} {ms:List St}:za4 V E ⟨d,op,some (g,v)⟩ x (n+1) (s::ms)=((Ob' (ziw v (g.get { s with V:=V,E:=E })) fun t=>Br t (WI (fun _=>[]) (fun _ _=>none) op { s with V:=V,E:=E } (fun y _=>y=x)) (PV.v Go.undef=x))/\za4 V E ⟨d,op,some (g,v)⟩ x n ms):=by
 simp only [za4,yrr]
def zgg (c v:List (List Int)) (f:Nat):Bool:=match c[f]?,v[f]? with
 | some a,some b=>zff a && decide ((b.length:Int)=zd3 v) && b.all fun x=>zah x 0 a.length
 | _,_=>true
def zdb (c v:List (List Int)):Bool:=zah c.length 1 4 && decide ((v.length:Int)=c.length) && zah (zd3 v) 1 40 && (List.range c.length).all (zgg c v)
theorem ypm {c v:List (List Int)} (h1:zah c.length 1 4=true) (h2:(v.length:Int)=c.length) (h3:zah (zd3 v) 1 40=true):zdb c v=(List.range c.length).all (zgg c v):=by
 simp [zdb,h1,h2,h3]
theorem zuw {p:Nat->Bool} {n:Nat} (h : ∀ i,i<n->p i=true):(List.range n).all p=true:=by
 rw [List.all_eq_true];intro x hx;exact h x (by simpa using hx)
theorem zhn {p:Nat->Bool} {n i:Nat} (hi:i<n) (h:p i=false):(List.range n).all p=false:=by
 cases e:(List.range n).all p with
 | false=>rfl
 | true=>rw [List.all_eq_true.mp e i (by simpa using hi)] at h; cases h
theorem yc7 {c v:List (List Int)} {f:Nat} {a b:List Int} (ha:c[f]?=some a) (hb:v[f]?=some b):zgg c v f=(zff a && decide ((b.length:Int)=zd3 v) && b.all fun x=>zah x 0 a.length):=by
 simp [zgg,ha,hb]
theorem zh4 {P:Nat->Prop} {i:Nat} (h : ∀ j,j<i->P j) (hi:P i) : ∀ j,j<i+1->P j:=by
 intro j hj
 by_cases e:j=i
 ·subst e; exact hi
 ·exact h j (by omega)
theorem ylv (q:Bool) (c v:List (List Int)) (hc : ∀ l∈c,l.length<=9223372036854775807) (hv : ∀ l∈v,l.length<=9223372036854775807):RUN T zn5 [.agg [.sl 1 (rws q c),.sl 1 (rws q v)]]=some ([bv (zdb c v)],[]):=by
 refine zae rfl rfl ?_;have hR:=yan q c v
 by_cases h1:zah c.length 1 4=true
 case neg=>simp [zo3,ztr,zc0,-zbm,h1,zdb]
 by_cases h2:(v.length:Int)=c.length
 case neg=>simp [zo3,ztr,zc0,-zbm,h1,h2,zdb]
 by_cases h3:zah (zd3 v) 1 40=true
 case neg=>simp [zo3,ztr,zc0,-zbm,h1,h2,h3,hR,zdb]
 have h1':=zar.mp h1;rw [ypm h1 h2 h3];simp [zo3,ztr,zc0,-zbm,h1,h2,h3,hR];refine zao (fun n st => ∃ i:Nat,i+n=c.length/\(∀ j,j<i->zgg c v j=true)/\st.V 1 = .ptr 0 none 0 0 0/\st.V 26 = .sl 1 (rws q c)/\st.V 27=iv c.length/\st.V 28=iv i/\0<st.nx/\st.S 0=some (.box [.sl 1 (rws q c),.sl 1 (rws q v)])) ?_ c.length _ ⟨0,by simp⟩;rintro n st ⟨i,hi,hk,v1,v26,v27,v28,hnx,hS⟩;simp [yfu,v27,v28];have z:=fr hnx;refine zau (fun h => ?_) (fun h => ?_)
 ·simp at h;obtain ⟨a,ha⟩ : ∃ a,c[i]?=some a:=⟨_,bG h⟩;obtain ⟨b,hb⟩ : ∃ b,v[i]?=some b:=⟨_,bG (by omega)⟩;have ha':=zc3 (q:=q) ha;have hb':=zc3 (q:=q) hb;have hal:=hc a (bF ha);have hbl:=hv b (bF hb);have hC:=y7k a hal;have hF:=y7n (f:=zod) (c := .sl 1 (zab a)) (p:=fun n => !zah n 0 a.length) b hbl (by simp) (fun n _=>by simp);have hw:=wS h (by omega:c.length<=9223372036854775807);have hiv:i<v.length:=by omega
  have hfe:=yc7 ha hb
  by_cases d1:zff a=true
  ·rcases bL ((b.length:Int)=zd3 v) with d2 | d2
   ·by_cases d3:(b.all fun x=>zah x 0 a.length)=true
    ·have d3':(b.any fun n => !zah n 0 a.length)=false:=by simpa [List.any_eq_not_all_not] using d3
     simp [-getElem?_pos,v1,v26,v28,hS,z,ha',hb',hC,hF,hR,hw,h,d1,d2,d3'];exact zai (n-1) (by omega) ⟨i+1,by omega,zh4 hk (by rw [hfe,d1,d3]; simp [d2]),by simp [v1,v26,v27,z,hS]⟩
    ·have d3':(b.any fun n => !zah n 0 a.length)=true:=by simpa [List.any_eq_not_all_not] using d3
     have no:=zhn h (by rw [hfe,d1]; simp [d3]:zgg c v i=false);simp [-getElem?_pos,v1,v26,v28,hS,z,ha',hb',hC,hF,hR,h,d1,d2,d3',no]
   ·have no:=zhn h (by rw [hfe,d1]; simp [d2]:zgg c v i=false);simp [-getElem?_pos,v1,v26,v28,hS,z,ha',hb',hC,hR,h,d1,d2,no]
  ·have no:=zhn h (by rw [hfe]; simp [d1]:zgg c v i=false);simp [-getElem?_pos,v26,v28,ha',hC,h,d1,no]
 ·simp at h;have:=zuw (p:=zgg c v) (n:=c.length) fun j hj=>hk j (by omega);simp [this]
theorem ylw (q:Bool) (c v:List (List Int)) (hc : ∀ l∈c,l.length<=9223372036854775807) (hv : ∀ l∈v,l.length<=9223372036854775807):RUN T zoa [.agg [.sl 1 (rws q c),.sl 1 (rws q v)]]=some ([bv (zdb c v)],[]):=by
 refine zae rfl rfl ?_;have hR:=ylu q c v
 by_cases h1:zah c.length 1 4=true
 case neg=>simp [zo6,ztr,zbb,-za1,h1,zdb]
 by_cases h2:(v.length:Int)=c.length
 case neg=>simp [zo6,ztr,zbb,-za1,h1,h2,zdb]
 by_cases h3:zah (zd3 v) 1 40=true
 case neg=>simp [zo6,ztr,zbb,-za1,h1,h2,h3,hR,zdb]
 have h1':=zar.mp h1;rw [ypm h1 h2 h3];simp [zo6,ztr,zbb,-za1,h1,h2,h3,hR];refine zao (fun n st => ∃ i:Nat,i+n=c.length/\(∀ j,j<i->zgg c v j=true)/\st.V 1 = .ptr 0 none 0 0 0/\st.V 3=iv i/\0<st.nx/\st.S 0=some (.box [.sl 1 (rws q c),.sl 1 (rws q v)])) ?_ c.length _ ⟨0,by simp⟩;rintro n st ⟨i,hi,hk,v1,v3,hnx,hS⟩;simp [yfw,v1,v3,hS];have z:=fr hnx;refine zau (fun h => ?_) (fun h => ?_)
 ·simp at h;obtain ⟨a,ha⟩ : ∃ a,c[i]?=some a:=⟨_,bG h⟩;obtain ⟨b,hb⟩ : ∃ b,v[i]?=some b:=⟨_,bG (by omega)⟩;have ha':=zc3 (q:=q) ha;have hb':=zc3 (q:=q) hb;have hal:=hc a (bF ha);have hbl:=hv b (bF hb);have hC:=y7l a hal;have hw:=wS h (by omega:c.length<=9223372036854775807);have hiv:i<v.length:=by omega
  have hfe:=yc7 ha hb
  by_cases d1:zff a=true
  case neg =>
   have no:=zhn h (by rw [hfe]; simp [d1]:zgg c v i=false);simp [-getElem?_pos,v1,v3,hS,ha',hC,h,d1,no]
  rcases bL ((b.length:Int)=zd3 v) with d2 | d2
  case inr =>
   have no:=zhn h (by rw [hfe,d1]; simp [d2]:zgg c v i=false);simp [-getElem?_pos,v1,v3,hS,ha',hb',hC,hR,h,d1,d2,no]
  simp [-getElem?_pos,v1,v3,hS,ha',hb',hC,hR,h,d1,d2];refine zao (fun n st => ∃ j:Nat,j+n=b.length/\(∀ (k:Nat) (x:Int),k<j->b[k]?=some x->zah x 0 a.length=true)/\st.V 1 = .ptr 0 none 0 0 0/\st.V 3=iv i/\st.V 4=iv j/\0<st.nx/\st.S 0=some (.box [.sl 1 (rws q c),.sl 1 (rws q v)])) ?_ b.length _ ⟨0,by omega,fun _ _ h=>by omega,by simp [v1,v3,hnx,hS]⟩;clear v1 v3 hnx hS z;rintro n' st ⟨j,hj,hjk,v1,v3,v4,hnx,hS⟩;simp [-getElem?_pos,yfv,v1,v3,v4,hS,hb'];refine zau (fun h4 => ?_) (fun h4 => ?_)
  ·simp at h4;obtain ⟨x,hx⟩ : ∃ x,b[j]?=some x:=⟨_,bG h4⟩;have hx':=zay hx;have hwj:=wS h4 hbl;rcases Bool.eq_false_or_eq_true (zah x 0 a.length) with d3 | d3
   ·simp [-getElem?_pos,v1,v3,v4,hS,ha',hb',hx',h4,d3,hwj,zbb,-za1];exact zai (n'-1) (by omega) ⟨j+1,by omega,zlp (P:=fun _ x=>zah x 0 a.length=true) hjk hx d3,by simp [v1,v3,hnx,hS]⟩
   ·have no:=zhn h (by rw [hfe,zys hx d3]; simp:zgg c v i=false);simp [-getElem?_pos,v1,v3,v4,hS,ha',hb',hx',h4,d3,no,zbb,-za1]
  ·simp at h4;have ok:zgg c v i=true:=by
    rw [hfe,d1,zyj fun k x hk hx=>hjk k x (by omega) hx]; simp [d2]
   simp [-getElem?_pos,v3,hw];exact zai (n-1) (by omega) ⟨i+1,by omega,zh4 hk ok,by simp [v1,hnx,hS]⟩
 ·simp at h;have:=zuw (p:=zgg c v) (n:=c.length) fun j hj=>hk j (by omega);simp [this]
def ziy (x:Int):Bool:=zah x (-2199023255552) 2199023255552
def ze9 (c v:List (List Int)) (lab:List Int) (g:Cfg):Bool:=zdb c v && zb9 g && decide ((lab.length:Int)=zd3 v) && lab.all ziy
@[simp] theorem qo3 (n:Int):RUN T zn6 [iv n]=some ([bv (!ziy n)],[]):=by
 refine zae rfl rfl ?_;simp [z4k,ztr,zc0,-zbm,ziy]
theorem ylx (q:Bool) (c v:List (List Int)) (lab:List Int) (g:Cfg) (hc : ∀ l∈c,l.length<=9223372036854775807) (hv : ∀ l∈v,l.length<=9223372036854775807) (hlab:lab.length<=9223372036854775807) (hg:g.sg.length<=9223372036854775807):RUN T znu [.agg [.sl 1 (rws q c),.sl 1 (rws q v)],.sl 1 (zab lab),zd1 g]=some ([bv (ze9 c v lab g)],[]):=by
 refine zae rfl rfl ?_;have e1:=ylv q c v hc hv;have e2:=yaj g hg;have e3:=yan q c v;have e4:=yai (f:=zn6) (p:=fun n => !ziy n) lab hlab (by simp) (fun n _=>by simp);unfold ze9;cases d1:zdb c v with
 | false=>simp [zoz,zzw,e1,d1]
 | true =>
  cases d2:zb9 g with
  | false=>simp [zoz,zzw,e1,d1,e2,d2]
  | true =>
   rcases bL ((lab.length:Int)=zd3 v) with d3 | d3
   ·have d4:(!(lab.any fun n => !ziy n))=lab.all ziy:=by simp [List.any_eq_not_all_not]
    simp [zoz,zzw,e1,d1,e2,d2,e3,d3,e4,d4]
   ·simp [zoz,zzw,e1,d1,e2,d2,e3,d3]
theorem yly (q:Bool) (c v:List (List Int)) (lab:List Int) (g:Cfg) (hc : ∀ l∈c,l.length<=9223372036854775807) (hv : ∀ l∈v,l.length<=9223372036854775807) (hlab:lab.length<=9223372036854775807) (hg:g.sg.length<=9223372036854775807):RUN T zny [.agg [.sl 1 (rws q c),.sl 1 (rws q v)],.sl 1 (zab lab),zd1 g]=some ([bv (ze9 c v lab g)],[]):=by
 refine zae rfl rfl ?_;have e1:=ylw q c v hc hv;have e2:=yak g hg;have e3:=ylu q c v;unfold ze9;cases d1:zdb c v with
 | false=>simp [zo1,zzw,e1,d1]
 | true =>
  cases d2:zb9 g with
  | false=>simp [zo1,zzw,e1,d1,e2,d2]
  | true =>
   rcases bL ((lab.length:Int)=zd3 v) with d3 | d3
   ·simp [zo1,zzw,e1,d1,e2,d2,e3,d3];refine zao (fun n st => ∃ i:Nat,i+n=lab.length/\(∀ (j:Nat) (x:Int),j<i->lab[j]?=some x->ziy x=true)/\st.V 1 = .sl 1 (zab lab)/\st.V 7=iv i) ?_ lab.length _ ⟨0,by omega,fun _ _ h=>by omega,by simp⟩;rintro n st ⟨i,hi,hj,v1,v7⟩;simp [yfl,v1,v7];refine zau (fun h => ?_) (fun h => ?_)
    ·simp at h;obtain ⟨x,hx⟩ : ∃ x,lab[i]?=some x:=⟨_,bG h⟩;have hx':=zay hx;have hw:=wS h hlab;have hlb:ziy x=zah x (-2199023255552) 2199023255552:=rfl;cases d4:ziy x with
     | true =>
      have d5:=hlb.symm.trans d4;simp [-getElem?_pos,v1,v7,hx',hw,h,d5,zbb,-za1];exact zai (n-1) (by omega) ⟨i+1,by omega,zlp (P:=fun _ x=>ziy x=true) hj hx d4,by simp [v1]⟩
     | false =>
      have d5:=hlb.symm.trans d4;have no:=zys hx d4;simp [-getElem?_pos,v1,v7,hx',h,d5,no,zbb,-za1]
    ·simp at h;have:=zyj (p:=ziy) fun j a h1 h2=>hj j a (by omega) h2;simp [this,d3]
   ·simp [zo1,zzw,e1,d1,e2,d2,e3,d3]
theorem yuy {α:Type} {f:α->List PV} {p:α->Prop} {tys:List TY} (h : ∀ cs,zce tys cs->∃ a,f a=cs/\p a) : ∀ {es:List (List PV)},(∀ cs∈es,zce tys cs)->∃ l:List α,l.map f=es/\∀ a∈l,p a
 | [],_=>⟨[],rfl,by simp⟩
 | e::es,hs=>by
  obtain ⟨a,ha,hp⟩:=h e (hs e (by simp));obtain ⟨l,hl,hq⟩:=yuy h (es:=es) (fun cs hc=>hs cs (by simp [hc]));refine ⟨a::l,by simp [ha,hl],fun b hb => ?_⟩;rcases List.mem_cons.mp hb with e | e
  ·subst e; exact hp
  ·exact hq b e
theorem qe0 {P:Program} {l:List TypeId} (h:(l.all fun t=>P.readableRec t && decide (t<P.types.size))=true) : ∀ t∈l,P.readableRec t=true/\t<P.types.size:=by
 intro t ht;have:=List.all_eq_true.mp h t ht;simpa using this
theorem qfb {p:Bool×List TY} {pvs:List PV} (h:zdn (fun p c=>zm6 p.1 p.2 c) [p] pvs) : ∃ a,pvs=[a]/\zm6 p.1 p.2 a:=by
 cases h with
 | cons h1 t=>cases t with
  | nil=>exact ⟨_,rfl,h1⟩
def zbl (B:List Int):List (List PV):=B.map fun n=>[.v (.int .u8 n)]
@[simp] theorem qcw (B:List Int):(zbl B).length=B.length:=by simp [zbl]
theorem yqf {B:List Int} {i:Nat} {x:Int} (h:B[i]?=some x):(zbl B)[i]?=some [.v (.int .u8 x)]:=by simp [zbl,h]
def zjk (rv:List RV) (io:Nat) (G:List PV×List PV->Prop) (_:Dm rv) (_:Dm G) (e:Ex) (s:St):Prop:=(e = .normal\/e = .ret)/\∃ r,zf8 ⟨[],rv,.skip⟩ io s=some r/\G r
@[simp] theorem qwh {rv:List RV} {io:Nat} {G:List PV×List PV->Prop} {s:St}:zjk rv io G ⟨⟩ ⟨⟩ .normal s = ∃ r,zf8 ⟨[],rv,.skip⟩ io s=some r/\G r:=by simp [zjk]
@[simp] theorem qtp {rv:List RV} {io:Nat} {G:List PV×List PV->Prop} {s:St}:zjk rv io G ⟨⟩ ⟨⟩ .ret s = ∃ r,zf8 ⟨[],rv,.skip⟩ io s=some r/\G r:=by simp [zjk]
theorem ze0 {T:zci} {f:Nat} {ms:List Bool} {rv:List RV} {ic:IC} {G:List PV×List PV->Prop} (hT:T f=some (.code ⟨ms,rv,ic⟩)) {args:List PV} {st:St} (hi:zkz args=some st) (h:W (zad T) (RUN T) ic st (zjk rv st.nx G ⟨⟩ ⟨⟩)) : ∃ r,RUN T f args=some r/\G r:=by
 unfold W at h;obtain ⟨e,s,h1,h2,r,h3,hG⟩:=h;refine ⟨r,yul hT ?_,hG⟩;unfold zyn;rw [hi];simp only [Option.bind_some,h1];rcases h2 with rfl | rfl <;> exact h3
attribute [irreducible] zjk
theorem z7w (X:Nat):0<=IntKind.i64.wrap ((X &&& 255 % 2 ^ IntKind.i64.bits:Nat):Int)/\IntKind.i64.wrap ((X &&& 255 % 2 ^ IntKind.i64.bits:Nat):Int)<=255:=by
 have h:X &&& 255 % 2 ^ IntKind.i64.bits<=255:=bJ Nat.and_le_right (by decide);rw [w64 (by omega) (by omega)];omega
def zf0 (B:List Int) (P:PV->Prop) (r:List PV×List PV):Prop := ∃ (v:PV) (p:Nat) (s:Int),P v/\p<=B.length/\r=([v],[.bx [.sl 1 (zbl B),iv p,iv s]])
def PB (v:PV):Prop := ∃ b,v=bv b
def PM (l:List Int) (v:PV):Prop := ∃ n,v=iv n/\n∈l
def PI (v:PV):Prop := ∃ n,v=iv n/\inI n
def PN (n:Int) (v:PV):Prop := ∃ m,v=iv m/\0<=m/\(0<n->m<n)
theorem zx2 (B:List Int) (p:Nat) (s:Int) (hp:p<=B.length) (hB:B.length<=9223372036854775807) : ∃ r,RUN T zie [.bx [.sl 1 (zbl B),iv p,iv s]]=some r/\zf0 B (fun v => ∃ n,v=iv n/\0<=n/\n<=255) r:=by
 refine ze0 rfl rfl ?_
 by_cases h:p<B.length
 ·obtain ⟨x,hx⟩ : ∃ x,B[p]?=some x:=⟨_,bG h⟩;have hx':=yqf hx;have hw:=wS h hB;simp [-getElem?_pos,zwn,ztr,h,hx',hw];exact ⟨_,p+1,_,⟨_,rfl,(z7w _).1,(z7w _).2⟩,h,rfl⟩
 ·have h' : ¬ ((p:Int)<B.length):=by omega
  simp [-getElem?_pos,zwn,ztr,h'];exact ⟨_,p,_,⟨_,rfl,(z7w _).1,(z7w _).2⟩,hp,rfl⟩
theorem zba (B:List Int) (p:Nat) (s:Int) (hp:p<=B.length) (hB:B.length<=9223372036854775807) (n:Int) (hn:n<=9223372036854775807) : ∃ r,RUN T za9 [.bx [.sl 1 (zbl B),iv p,iv s],iv n]=some r/\zf0 B (PN n) r:=by
 refine ze0 rfl rfl ?_;obtain ⟨r1,h1,v1,p1,s1,⟨a1,rfl,a10,a11⟩,hp1,rfl⟩:=zx2 B p s hp hB
 by_cases c1:n<=0
 ·simp [-getElem?_pos,zt0,zvz,c1];exact ⟨_,p,s,⟨0,rfl,by omega,by omega⟩,hp,rfl⟩
 have c0 : ¬ (n=0):=by omega
 by_cases c2:n<=256
 ·simp [-getElem?_pos,zt0,zvz,c0,c1,c2,h1];refine ⟨_,p1,s1,⟨_,rfl,?_,fun _ => ?_⟩,hp1,rfl⟩
  ·exact Int.tmod_nonneg _ a10
  ·exact Int.tmod_lt_of_pos _ (by omega)
 obtain ⟨r2,h2,v2,p2,s2,⟨a2,rfl,a20,a21⟩,hp2,rfl⟩:=zx2 B p1 s1 hp1 hB;obtain ⟨r3,h3,v3,p3,s3,⟨a3,rfl,a30,a31⟩,hp3,rfl⟩:=zx2 B p2 s2 hp2 hB;obtain ⟨r4,h4,v4,p4,s4,⟨a4,rfl,a40,a41⟩,hp4,rfl⟩:=zx2 B p3 s3 hp3 hB;have w1:=w64 (x:=a1*16777216) (by omega) (by omega);have w2:=w64 (x:=a2*65536) (by omega) (by omega);have w3:=w64 (x:=a1*16777216+a2*65536) (by omega) (by omega);have w4:=w64 (x:=a3*256) (by omega) (by omega);have w5:=w64 (x:=a1*16777216+a2*65536+a3*256) (by omega) (by omega);have w6:=w64 (x:=a1*16777216+a2*65536+a3*256+a4) (by omega) (by omega);simp [-getElem?_pos,zt0,zvz,c0,c1,c2,h1,h2,h3,h4,w1,w2,w3,w4,w5,w6];refine ⟨_,p4,s4,⟨_,rfl,?_,fun _ => ?_⟩,hp4,rfl⟩
 ·exact Int.tmod_nonneg _ (by omega)
 ·exact Int.tmod_lt_of_pos _ (by omega)
theorem zg6 (B:List Int) (p:Nat) (s:Int) (hp:p<=B.length) (hB:B.length<=9223372036854775807) (n:Int) (hn:n<=9223372036854775807) : ∃ r,RUN T zgo [.bx [.sl 1 (zbl B),iv p,iv s],iv n]=some r/\zf0 B PB r:=by
 refine ze0 rfl rfl ?_;obtain ⟨r1,h1,v1,p1,s1,⟨a1,rfl,a10,a11⟩,hp1,rfl⟩:=zba B p s hp hB n hn;simp [-getElem?_pos,zz7,zvz,h1];exact ⟨_,p1,s1,⟨_,rfl⟩,hp1,rfl⟩
def qgp (B:List Int) (l:List Int) (P:PV->Prop) (r:List PV×List PV):Prop := ∃ (v:PV) (p:Nat) (s:Int),P v/\p<=B.length/\r=([v],[.bx [.sl 1 (zbl B),iv p,iv s],.own 1 (zab l)])
theorem zf2 (B:List Int) (p:Nat) (s:Int) (hp:p<=B.length) (hB:B.length<=9223372036854775807) (l:List Int) (hl:0<l.length/\l.length<=9223372036854775807) : ∃ r,RUN T zd8 [.bx [.sl 1 (zbl B),iv p,iv s],.own 1 (zab l)]=some r/\qgp B l (PM l) r:=by
 refine ze0 rfl rfl ?_;obtain ⟨r1,h1,v1,p1,s1,⟨a1,rfl,a10,a11⟩,hp1,rfl⟩:=zba B p s hp hB l.length (by omega);obtain ⟨i,rfl⟩ : ∃ i:Nat,a1=i:=⟨a1.toNat,by omega⟩;have hi:i<l.length:=by have:=a11 (by omega); omega
 obtain ⟨x,hx⟩ : ∃ x,l[i]?=some x:=⟨_,bG hi⟩;have hx':=zay hx;simp [-getElem?_pos,z1i,zvz,h1,hx',hi];exact ⟨_,p1,s1,⟨x,rfl,bF hx⟩,hp1,rfl⟩
theorem qid (x:Int):inI (IntKind.i64.wrap x):=by
 unfold inI IntKind.wrap;simp [IntKind.bits,IntKind.signed];omega
theorem ylz (B:List Int) (p:Nat) (s:Int) (hp:p<=B.length) (hB:B.length<=9223372036854775807) : ∃ r,RUN T znl [.bx [.sl 1 (zbl B),iv p,iv s]]=some r/\zf0 B PI r:=by
 refine ze0 rfl rfl ?_;obtain ⟨r1,h1,v1,p1,s1,⟨a1,rfl,a10,a11⟩,hp1,rfl⟩:=zba B p s hp hB 4 (by omega)
 by_cases c0:a1=0
 ·obtain ⟨r2,h2,v2,p2,s2,⟨a2,rfl,hm⟩,hp2,rfl⟩:=zf2 B p1 s1 hp1 hB [0,1,-1,9,10,999,1000,2147483647,-2147483648,3037000499,3037000500,9223372036854775807,-9223372036854775807,-9223372036854775808] (by simp);simp only [zab,List.map] at h2;simp [-getElem?_pos,zov,ztr,h1,c0,h2];refine ⟨_,p2,s2,⟨a2,rfl,?_⟩,hp2,rfl⟩;simp at hm;unfold inI;omega
 by_cases c1:a1=1
 ·simp [-getElem?_pos,zov,ztr,h1,c1];refine zao (fun n st => ∃ (i p:Nat) (x s:Int),i+n=8/\p<=B.length/\inI x/\st.V 0 = .ptr 0 none 0 0 0/\st.V 3=iv x/\st.V 4=iv i/\0<st.nx/\st.ep=0/\st.S 0=some (.box [.sl 1 (zbl B),iv p,iv s])) ?_ 8 _ ⟨0,p1,0,s1,by omega,hp1,by unfold inI; omega,by simp⟩;clear h1;rintro n st ⟨i,p,x,s,hi,hp,hx,v0,v3,v4,hnx,hep,hS⟩;simp [ye9,v4];refine zau (fun h => ?_) (fun h => ?_)
  ·simp at h;obtain ⟨r2,h2,v2,p2,s2,⟨a2,rfl,a20,a21⟩,hp2,rfl⟩:=zx2 B p s hp hB;have w:=w64 (x:=(i:Int)+1) (by omega) (by omega);simp [-getElem?_pos,v0,v3,v4,hep,hS,h2,w];exact zai (n-1) (by omega) ⟨i+1,p2,_,s2,by omega,hp2,qid _,by simp [v0],by simp; rfl,by simp [hnx]⟩
  ·simp [-getElem?_pos,v3,hS];exact ⟨_,p,s,⟨x,rfl,hx⟩,hp,rfl⟩
 by_cases c2:a1=2
 ·obtain ⟨r2,h2,v2,p2,s2,⟨a2,rfl,a20,a21⟩,hp2,rfl⟩:=zba B p1 s1 hp1 hB 1000000 (by omega);have a22:=a21 (by omega);have w:=w64 (x:=a2-500000) (by omega) (by omega);simp [-getElem?_pos,zov,ztr,h1,c2,h2,w];exact ⟨_,p2,s2,⟨_,rfl,by unfold inI; omega⟩,hp2,rfl⟩
 ·obtain ⟨r2,h2,v2,p2,s2,⟨a2,rfl,a20,a21⟩,hp2,rfl⟩:=zba B p1 s1 hp1 hB 41 (by omega);have a22:=a21 (by omega);have w:=w64 (x:=a2-20) (by omega) (by omega);simp [-getElem?_pos,zov,ztr,h1,c0,c1,c2,h2,w];exact ⟨_,p2,s2,⟨_,rfl,by unfold inI; omega⟩,hp2,rfl⟩
theorem y7o (B:List Int) (hB:B.length<=9223372036854775807) : ∃ r,RUN T zrl [.sl 1 (zbl B)]=some r/\∃ s:Int,r=([.bx [.sl 1 (zbl B),iv (0:Nat),iv s]],[]):=by
 refine ze0 rfl rfl ?_;simp [-getElem?_pos,z1d,ztr];refine zao (fun n st => ∃ (i:Nat) (x:Int),i+n=B.length/\st.V 0 = .sl 1 (zbl B)/\st.V 3=iv x/\st.V 4=iv i) ?_ B.length _ ⟨0,_,by omega,by simp,by simp; rfl,by simp⟩;rintro n st ⟨i,x,hi,v0,v3,v4⟩
 by_cases h:i<B.length
 ·obtain ⟨b,hx⟩ : ∃ b,B[i]?=some b:=⟨_,bG h⟩;have hx':=yqf hx;have hw:=wS h hB
  by_cases h2:(i:Int)<4000
  ·have h2':=eq_true h2;simp [-getElem?_pos,z1c,v0,v3,v4,h,h2',hx',hw];exact zai (n-1) (by omega) ⟨i+1,_,by omega,by simp [v0],by simp; rfl,by simp⟩
  ·have h2':=bK h2;simp [-getElem?_pos,z1c,v0,v3,v4,h,h2']
 ·simp [-getElem?_pos,z1c,v0,v3,v4,h]
def adi (a b:Int):Int×Bool:=if -9223372036854775808<=a+b/\a+b<=9223372036854775807 then (a+b,true) else (0,false)
theorem yth {a b:Int} (ha:inI a) (hb:inI b):IntKind.i64.wrap (a+b)=if 9223372036854775807<a+b then a+b-18446744073709551616 else if a+b < -9223372036854775808 then a+b+18446744073709551616 else a+b:=by
 unfold inI at ha hb;unfold IntKind.wrap;simp [IntKind.bits,IntKind.signed];omega
theorem yao (a b:Int) (ha:inI a) (hb:inI b):RUN T zlv [iv a,iv b]=some ([iv (adi a b).1,bv (adi a b).2],[]):=by
 refine zae rfl rfl ?_;have hw:=yth ha hb;unfold inI at ha hb;unfold adi
 by_cases c1:9223372036854775807<a+b
 ·rw [if_pos c1] at hw;rw [if_neg (by omega)];have d1:=bK (by omega : ¬ a<0);have d2:=bK (by omega : ¬ b<0);have d3:=eq_true (by omega:a+b-18446744073709551616<0);simp [-getElem?_pos,zkr,zks,hw,d1,d2,d3]
 ·rw [if_neg c1] at hw
  by_cases c2:a+b < -9223372036854775808
  ·rw [if_pos c2] at hw;rw [if_neg (by omega)];have d1:=eq_true (by omega:a<0);have d2:=eq_true (by omega:b<0);have d3:=bK (by omega : ¬ a+b+18446744073709551616<0);simp [-getElem?_pos,zkr,zks,hw,d1,d2,d3]
  ·rw [if_neg c2] at hw;rw [if_pos (by omega)];rcases bL (a<0) with d1 | d1
   all_goals rcases bL (b<0) with d2 | d2
   all_goals simp at d1 d2
   ·have d3:=eq_true (by omega:a+b<0);simp [-getElem?_pos,zkr,zks,hw,eq_true d1,eq_true d2,d3]
   ·have d2':=bK (by omega : ¬ b<0);simp [-getElem?_pos,zkr,zks,hw,eq_true d1,d2']
   ·have d1':=bK (by omega : ¬ a<0);simp [-getElem?_pos,zkr,zks,hw,eq_true d2,d1']
   ·have d1':=bK (by omega : ¬ a<0);have d2':=bK (by omega : ¬ b<0);have d3:=bK (by omega : ¬ a+b<0);simp [-getElem?_pos,zkr,zks,hw,d1',d2',d3]
theorem z7s (a b:Int) (ha:inI a) (hb:inI b):RUN T zka [iv a,iv b]=some ([iv (adi a b).1,bv (adi a b).2],[]):=by
 refine zae rfl rfl ?_;have hw:=yth ha hb;unfold inI at ha hb;unfold adi;rcases Int.lt_trichotomy b 0 with c | c | c
 ·have d1:=bK (by omega : ¬ 0<b);have d2:=eq_true c;have w:=w64 (x := -9223372036854775808-b) (by omega) (by omega)
  by_cases e:a < -9223372036854775808-b
  ·rw [if_neg (by omega)];simp [-getElem?_pos,zmo,zks,d1,d2,w,e]
  ·rw [if_neg (by omega),if_neg (by omega)] at hw;rw [if_pos (by omega)];simp [-getElem?_pos,zmo,zks,d1,d2,w,e,hw]
 ·subst c;rw [if_neg (by omega),if_neg (by omega)] at hw;rw [if_pos (by omega)];simp at hw;simp [zmo,zks,hw]
 ·have d1:=eq_true c;have d2:=bK (by omega : ¬ b<0);have w:=w64 (x:=9223372036854775807-b) (by omega) (by omega)
  by_cases e:9223372036854775807-b<a
  ·rw [if_neg (by omega)];simp [-getElem?_pos,zmo,zks,d1,w,e]
  ·rw [if_neg (by omega),if_neg (by omega)] at hw;rw [if_pos (by omega)];simp [-getElem?_pos,zmo,zks,d1,d2,w,e,hw]
def zjn:Int->List Int->Option Int
 | t,[]=>some t
 | t,x::xs=>if (adi t x).2 then zjn (adi t x).1 xs else none
def zdc (l:List Int):Int×Bool:=match zjn 0 l with
 | some t=>fdv t l.length
 | none=>(0,false)
theorem ydr {a b:Int} (ha:inI a):inI (adi a b).1:=by
 unfold adi;split
 ·rename_i h; exact h
 ·unfold inI; omega
theorem y7p (l:List Int) (hl:l.length<=9223372036854775807) (hin : ∀ n∈l,inI n):RUN T zqy [.sl 1 (zab l)]=some ([iv (zdc l).1,bv (zdc l).2],[]):=by
 refine zae rfl rfl ?_;simp [-getElem?_pos,z0d,z0e];refine zao (fun n st => ∃ (i:Nat) (t:Int),i+n=l.length/\inI t/\zjn t (l.drop i)=zjn 0 l/\st.V 0 = .sl 1 (zab l)/\st.V 4=iv t/\st.V 5=iv i) ?_ l.length _ ⟨0,0,by omega,by unfold inI; omega,by simp⟩;rintro n st ⟨i,t,hi,ht,hb,v0,v4,v5⟩;simp [ye5,v0,v5];refine zau (fun h => ?_) (fun h => ?_)
 ·simp at h;obtain ⟨x,hx⟩ : ∃ x,l[i]?=some x:=⟨_,bG h⟩;have hx':=zay hx;have hw:=wS h hl;have ha:=z7s t x ht (hin x (bF hx));rw [zcr hx,zjn] at hb;cases c:(adi t x).2 with
  | true =>
   rw [if_pos c] at hb;rw [c] at ha;simp [-getElem?_pos,v0,v4,v5,hx',h,ha,hw];exact zai (n-1) (by omega) ⟨i+1,_,by omega,ydr ht,hb,by simp [v0]⟩
  | false =>
   rw [if_neg (by simp [c])] at hb;rw [c] at ha;have:zdc l=(0,false):=by unfold zdc; rw [<- hb]
   simp [-getElem?_pos,v0,v4,v5,hx',h,ha,this]
 ·simp at h;rw [bN h,zjn] at hb;have hf:=yal t l.length ht;have e:zdc l=fdv t l.length:=by unfold zdc; rw [<- hb]
  simp [-getElem?_pos,v0,v4,hf,e]
theorem y7q (es:List (List PV)):RUN T zqk [.sl 1 es]=some ([bv (decide ((1048576:Int)<es.length))],[]):=by
 refine zae rfl rfl ?_;simp [-getElem?_pos,zzj,ztr]
def zy3 (v:Int):Nd:=⟨-1,0,0,0,v⟩
theorem y7r (v:Int):RUN T zsh [iv v]=some ([.agg [.own 5 ([zy3 v].map nd)]],[]):=by
 refine zae rfl rfl ?_;have hr:zag 40 1=true:=by decide
 simp [-getElem?_pos,z3x,zii,zy3,nd]
theorem qeu {x y:Nd}:x=y↔x.f=y.f/\x.c=y.c/\x.l=y.l/\x.r=y.r/\x.v=y.v:=by
 cases x; cases y; simp
open Classical in
theorem y7s (t u:List Nd) (ht:t.length<=9223372036854775807) (hu:u.length<=9223372036854775807):RUN T zql [.agg [.sl 5 (t.map nd)],.agg [.sl 5 (u.map nd)]]=some ([bv (decide (t=u))],[]):=by
 refine zae rfl rfl ?_;rcases bL ((t.length:Int)=u.length) with hl | hl
 case inr =>
  have:decide (t=u)=false:=by simp; rintro rfl; simp at hl
  simp [-getElem?_pos,zvy,zvz,hl,this]
 simp [-getElem?_pos,zvy,zvz,hl];have hlen:t.length=u.length:=by simp at hl; omega
 refine zao (fun n st => ∃ i:Nat,i+n=t.length/\(∀ j,j<i->t[j]?=u[j]?)/\st.V 2 = .ptr 0 none 0 0 0/\st.V 3 = .ptr 1 none 0 0 0/\st.V 5=iv i/\st.S 0=some (.box [.sl 5 (t.map nd)])/\st.S 1=some (.box [.sl 5 (u.map nd)])) ?_ t.length _ ⟨0,by simp⟩;rintro n st ⟨i,hi,hj,v2,v3,v5,hS,hS1⟩;simp [ye1,v2,v5,hS];refine zau (fun h => ?_) (fun h => ?_)
 ·simp at h;obtain ⟨x,hx⟩ : ∃ x,t[i]?=some x:=⟨_,bG h⟩;obtain ⟨y,hy⟩ : ∃ y,u[i]?=some y:=⟨_,bG (by omega)⟩;have hw:=wS h ht;have hiu:i<u.length:=by omega
  rcases bL (x.f=y.f/\x.c=y.c/\x.l=y.l/\x.r=y.r/\x.v=y.v) with e | e
  ·simp [-getElem?_pos,v2,v3,v5,hS,hS1,hx,hy,nd,h,hw,z81,e];refine zai (n-1) (by omega) ⟨i+1,by omega,zh4 hj ?_,by simp [v2,v3,hS,hS1]⟩;rw [hx,hy,qeu.mpr (of_eq_true e)]
  ·have:decide (t=u)=false:=by
    simp;rintro rfl;rw [hx] at hy;cases hy;simp at e
   simp [-getElem?_pos,v2,v3,v5,hS,hS1,hx,hy,nd,h,z81,e,this]
 ·simp at h;have:t=u:=by
   apply List.ext_getElem?;intro j
   by_cases c:j<i
   ·exact hj j c
   ·rw [List.getElem?_eq_none (by omega),List.getElem?_eq_none (by omega)]
  simp [this]
def sbi (a b:Int):Int×Bool:=if -9223372036854775808<=a-b/\a-b<=9223372036854775807 then (a-b,true) else (0,false)
theorem ysh {a b:Int} (ha:inI a) (hb:inI b):IntKind.i64.wrap (a-b)=if 9223372036854775807<a-b then a-b-18446744073709551616 else if a-b < -9223372036854775808 then a-b+18446744073709551616 else a-b:=by
 unfold inI at ha hb;unfold IntKind.wrap;simp [IntKind.bits,IntKind.signed];omega
theorem yap (a b:Int) (ha:inI a) (hb:inI b):RUN T zl0 [iv a,iv b]=some ([iv (sbi a b).1,bv (sbi a b).2],[]):=by
 refine zae rfl rfl ?_;have hw:=ysh ha hb;unfold inI at ha hb;unfold sbi
 by_cases c1:9223372036854775807<a-b
 ·rw [if_pos c1] at hw;rw [if_neg (by omega)];have d1:=bK (by omega : ¬ a<0);have d2:=eq_true (by omega:b<0);have d3:=eq_true (by omega:a-b-18446744073709551616<0);simp [-getElem?_pos,zkv,zks,hw,d1,d2,d3]
 ·rw [if_neg c1] at hw
  by_cases c2:a-b < -9223372036854775808
  ·rw [if_pos c2] at hw;rw [if_neg (by omega)];have d1:=eq_true (by omega:a<0);have d2:=bK (by omega : ¬ b<0);have d3:=bK (by omega : ¬ a-b+18446744073709551616<0);simp [-getElem?_pos,zkv,zks,hw,d1,d2,d3]
  ·rw [if_neg c2] at hw;rw [if_pos (by omega)];rcases bL (a<0) with d1 | d1
   all_goals rcases bL (b<0) with d2 | d2
   all_goals simp at d1 d2
   ·simp [-getElem?_pos,zkv,zks,hw,eq_true d1,eq_true d2]
   ·have d2':=bK (by omega : ¬ b<0);have d3:=eq_true (by omega:a-b<0);simp [-getElem?_pos,zkv,zks,hw,eq_true d1,d2',d3]
   ·have d1':=bK (by omega : ¬ a<0);have d3:=bK (by omega : ¬ a-b<0);simp [-getElem?_pos,zkv,zks,hw,eq_true d2,d1',d3]
   ·have d1':=bK (by omega : ¬ a<0);have d2':=bK (by omega : ¬ b<0);simp [-getElem?_pos,zkv,zks,hw,d1',d2']
theorem yaq (a b:Int) (ha:inI a) (hb:inI b):RUN T zl2 [iv a,iv b]=some ([iv (sbi a b).1,bv (sbi a b).2],[]):=by
 refine zae rfl rfl ?_;have hw:=ysh ha hb;unfold inI at ha hb;unfold sbi;rcases Int.lt_trichotomy b 0 with c | c | c
 ·have d1:=bK (by omega : ¬ 0<b);have d2:=eq_true c;have w:=w64 (x:=9223372036854775807+b) (by omega) (by omega)
  by_cases e:9223372036854775807+b<a
  ·rw [if_neg (by omega)];simp [-getElem?_pos,zmr,zks,d2,w,e]
  ·rw [if_neg (by omega),if_neg (by omega)] at hw;rw [if_pos (by omega)];simp [-getElem?_pos,zmr,zks,d1,d2,w,e,hw]
 ·subst c;rw [if_neg (by omega),if_neg (by omega)] at hw;rw [if_pos (by omega)];simp at hw;simp [zmr,zks,hw]
 ·have d1:=eq_true c;have d2:=bK (by omega : ¬ b<0);have w:=w64 (x := -9223372036854775808+b) (by omega) (by omega)
  by_cases e:a < -9223372036854775808+b
  ·rw [if_neg (by omega)];simp [-getElem?_pos,zmr,zks,d1,d2,w,e]
  ·rw [if_neg (by omega),if_neg (by omega)] at hw;rw [if_pos (by omega)];simp [-getElem?_pos,zmr,zks,d1,d2,w,e,hw]
def res:List Int->List Int->Option (List Int)
 | x::xs,y::ys=>if (sbi x y).2 then (res xs ys).map ((sbi x y).1 :: ·) else none
 | _,_=>some []
theorem yta {l m:List Int} {i:Nat} {x y:Int} (hx:l[i]?=some x) (hy:m[i]?=some y):res (l.drop i) (m.drop i)=if (sbi x y).2 then (res (l.drop (i+1)) (m.drop (i+1))).map ((sbi x y).1 :: ·) else none:=by
 rw [zcr hx,zcr hy,res]
theorem yrt (m:List Int):res [] m=some []:=by cases m <;> rfl
def zel (l m:List Int):List Int×Bool:=if l.length=m.length then match res l m with
  | some r=>(r,true)
  | none=>([],false)
 else ([],false)
theorem yck : ∀ {l m r:List Int},l.length=m.length->res l m=some r->r.length=l.length/\∀ (i:Nat) (x y z:Int),l[i]?=some x->m[i]?=some y->r[i]?=some z->z=x-y /\ -9223372036854775808<=x-y/\x-y<=9223372036854775807
 | [],[],r,_,h=>by simp [res] at h; subst h; simp
 | x::xs,y::ys,r,hl,h=>by
  rw [res] at h;split at h
  ·rename_i c;simp only [bB] at h;obtain ⟨r',hr,rfl⟩:=h;obtain ⟨h1,h2⟩:=yck (by simpa using hl) hr;refine ⟨by simp [h1],fun i a b z ha hb hz => ?_⟩;cases i with
   | zero =>
    simp at ha hb hz;subst ha hb hz;unfold sbi at c ⊢;split at c
    ·rename_i hh; rw [if_pos hh]; exact ⟨rfl,hh⟩
    ·cases c
   | succ i=>exact h2 i a b z (by simpa using ha) (by simpa using hb) (by simpa using hz)
  ·cases h
 | [],_::_,_,hl,_=>by simp at hl
 | _::_,[],_,hl,_=>by simp at hl
theorem y7t (l m:List Int) (hl:l.length<=1048576) (hm:m.length<=1048576) (hli : ∀ n∈l,inI n) (hmi : ∀ n∈m,inI n):RUN T zra [.sl 1 (zab l),.sl 1 (zab m)]=some ([.own 1 (zab (zel l m).1),bv (zel l m).2],[]):=by
 refine zae rfl rfl ?_;unfold zel;rcases bL ((l.length:Int)=m.length) with e | e
 case inr =>
  rw [if_neg (by simp at e; omega)];simp [-getElem?_pos,zv9,zwa,e]
 have e':l.length=m.length:=by simp at e; omega
 rw [if_pos e'];simp [-getElem?_pos,zv9,zwa,e];refine zao (fun n st => ∃ (i o e:Nat) (a:List Int),i+n=l.length/\a.length=i/\(res (l.drop i) (m.drop i)).map (a ++ ·)=res l m/\st.V 0 = .sl 1 (zab l)/\st.V 1 = .sl 1 (zab m)/\st.V 6 = .ref o none e 0 a.length/\st.V 17=iv l.length/\st.V 18=iv i/\o<st.nx/\st.ep=0/\st.S o=some (.row 1 (zab a))) ?_ l.length _ ⟨0,0,0,[],by omega,rfl,by simp⟩;rintro n st ⟨i,o,ep,a,hi,ha,hr,v0,v1,v6,v17,v18,hox,hep,hSo⟩;simp [yfa,v17,v18];refine zau (fun h => ?_) (fun h => ?_)
 ·simp at h;obtain ⟨x,hx⟩ : ∃ x,l[i]?=some x:=⟨_,bG h⟩;obtain ⟨y,hy⟩ : ∃ y,m[i]?=some y:=⟨_,bG (by omega)⟩;have hx':=zay hx;have hy':=zay hy;have him:i<m.length:=by omega
  have hw:=wS h (by omega:l.length<=9223372036854775807);have hsub:=yap x y (hli x (bF hx)) (hmi y (bF hy));rw [yta hx hy] at hr;have z1:=fr hox;have hr8:=zbx (n:=a.length+1) (by omega);cases c:(sbi x y).2 with
  | true =>
   rw [if_pos c] at hr;rw [c] at hsub;simp [-getElem?_pos,v0,v1,v6,v18,hep,hSo,z1,hx',hy',h,hsub,hr8,zbn,hw];refine zai (n-1) (by omega) ⟨i+1,st.nx+1,0,a++[(sbi x y).1],by omega,by simp [ha],?_,by simp [v0,v1,v17]⟩;rw [<- hr];cases res (l.drop (i+1)) (m.drop (i+1)) <;> simp
  | false =>
   rw [if_neg (by simp [c])] at hr;rw [c] at hsub;simp at hr;simp [-getElem?_pos,v0,v1,v18,hep,hx',hy',h,hsub,<- hr]
 ·simp at h;rw [bN h,yrt] at hr;simp at hr;rw [<- hr];simp [-getElem?_pos,v6,hSo]
theorem y7u (l m:List Int) (hl:l.length<=1048576) (hm:m.length<=1048576) (hli : ∀ n∈l,inI n) (hmi : ∀ n∈m,inI n):RUN T zre [.sl 1 (zab l),.sl 1 (zab m)]=some ([.own 1 (zab (zel l m).1),bv (zel l m).2],[]):=by
 refine zae rfl rfl ?_;unfold zel;rcases bL ((l.length:Int)=m.length) with e | e
 case inr =>
  rw [if_neg (by simp at e; omega)];simp [-getElem?_pos,zwd,zwa,e]
 have e':l.length=m.length:=by simp at e; omega
 rw [if_pos e'];simp [-getElem?_pos,zwd,zwa,e];refine zao (fun n st => ∃ (i o e:Nat) (a:List Int),i+n=l.length/\a.length=i/\(res (l.drop i) (m.drop i)).map (a ++ ·)=res l m/\st.V 0 = .sl 1 (zab l)/\st.V 1 = .sl 1 (zab m)/\st.V 6 = .ref o none e 0 a.length/\st.V 7=iv i/\o<st.nx/\st.ep=0/\st.S o=some (.row 1 (zab a))) ?_ l.length _ ⟨0,0,0,[],by omega,rfl,by simp⟩;rintro n st ⟨i,o,ep,a,hi,ha,hr,v0,v1,v6,v7,hox,hep,hSo⟩;simp [yfb,v0,v7];refine zau (fun h => ?_) (fun h => ?_)
 ·simp at h;obtain ⟨x,hx⟩ : ∃ x,l[i]?=some x:=⟨_,bG h⟩;obtain ⟨y,hy⟩ : ∃ y,m[i]?=some y:=⟨_,bG (by omega)⟩;have hx':=zay hx;have hy':=zay hy;have him:i<m.length:=by omega
  have hw:=wS h (by omega:l.length<=9223372036854775807);have hsub:=yaq x y (hli x (bF hx)) (hmi y (bF hy));rw [yta hx hy] at hr;have z1:=fr hox;have hr8:=zbx (n:=a.length+1) (by omega);cases c:(sbi x y).2 with
  | true =>
   rw [if_pos c] at hr;rw [c] at hsub;simp [-getElem?_pos,v0,v1,v6,v7,hep,hSo,z1,hx',hy',h,hsub,hr8,zbn,hw];refine zai (n-1) (by omega) ⟨i+1,st.nx+1,0,a++[(sbi x y).1],by omega,by simp [ha],?_,by simp [v0,v1]⟩;rw [<- hr];cases res (l.drop (i+1)) (m.drop (i+1)) <;> simp
  | false =>
   rw [if_neg (by simp [c])] at hr;rw [c] at hsub;simp at hr;simp [-getElem?_pos,v0,v1,v7,hep,hx',hy',h,hsub,<- hr]
 ·simp at h;rw [bN h,yrt] at hr;simp at hr;rw [<- hr];simp [-getElem?_pos,v6,hSo]
def PC (n:Nat) (v:PV):Prop := ∃ c:Cfg,v=zhx c/\c.sg.length<=n
def LC (S:Nat->Option Ob) (nx:Nat) (lo:Nat) (m:List Int) (x:PV):Prop:=(x = .e0/\m=[])\/∃ o e,x = .ref o none e 0 m.length/\lo<o/\o<nx/\S o=some (.row 1 (zab m))
theorem yl0 (B:List Int) (p:Nat) (s:Int) (hp:p<=B.length) (hB:B.length<=9223372036854775807) : ∃ r,RUN T znm [.bx [.sl 1 (zbl B),iv p,iv s]]=some r/\zf0 B (PC 60) r:=by
 refine ze0 rfl rfl ?_;obtain ⟨r1,h1,v1,p1,s1,⟨a1,rfl,a10,a11⟩,hp1,rfl⟩:=zba B p s hp hB 4 (by omega);obtain ⟨r2,h2,v2,p2,s2,⟨a2,rfl,a20,a21⟩,hp2,rfl⟩:=zba B p1 s1 hp1 hB 4 (by omega);obtain ⟨r3,h3,v3,p3,s3,⟨a3,rfl,a30,a31⟩,hp3,rfl⟩:=zba B p2 s2 hp2 hB 5 (by omega);obtain ⟨r4,h4,v4,p4,s4,⟨a4,rfl,a40,a41⟩,hp4,rfl⟩:=zba B p3 s3 hp3 hB 3 (by omega);obtain ⟨r5,h5,v5,p5,s5,⟨a5,rfl,a50,a51⟩,hp5,rfl⟩:=zba B p4 s4 hp4 hB 3 (by omega);obtain ⟨r6,h6,v6,p6,s6,⟨a6,rfl,a60,a61⟩,hp6,rfl⟩:=zba B p5 s5 hp5 hB 3 (by omega);obtain ⟨r7,h7,v7,p7,s7,⟨b1,rfl⟩,hp7,rfl⟩:=zg6 B p6 s6 hp6 hB 8 (by omega);have w6:IntKind.i64.wrap (1+a6)=1+a6:=by have:=a61 (by omega); exact w64 (by omega) (by omega)
 have key : ∀ (k:Int) (x0 x1 x2 x3 x4 x5 x6:Int) (st:St) (p:Nat) (s:Int),0<=k->k<=60->p<=B.length->st.V 0 = .ptr 0 none 0 0 0->st.V 2 = .ptr 1 none 0 0 0->st.V 3 = .ptr 2 none 0 0 0->st.V 4=iv k->st.V 5=iv (0:Nat)->st.nx=3->st.S 0=some (.box [.sl 1 (zbl B),iv p,iv s])->st.S 1=some (.box [iv 0,iv 0,iv 0,iv 0,iv 0,iv 0,iv 0,.e0])->st.S 2=some (.box [iv x0,iv x1,iv x2,iv x3,iv x4,iv x5,iv x6,.e0])->W (zad T) (RUN T) (.loop z92) st (Bl 0 (Nx (fun s=>W (zad T) (RUN T) (.seq (.reg [⟨some (.E 53),.load true 8 (.V 3),none⟩,⟨none,.store [0,0,0,0,0,0,0,1] (.V 2) (.E 53),none⟩]) .ret) s (zjk [.cell [0,0,0,0,0,0,0,1] 2 true] 1 (zf0 B (PC 60)) ⟨⟩ ⟨⟩)) (zjk [.cell [0,0,0,0,0,0,0,1] 2 true] 1 (zf0 B (PC 60)) ⟨⟩ ⟨⟩) ⟨⟩ ⟨⟩) ⟨⟩):=by
  intro k x0 x1 x2 x3 x4 x5 x6 st p s hk0 hk hp v0 v2 v3 v4 v5 hnx hS hS1 hS2;obtain ⟨kn,rfl⟩ : ∃ n:Nat,k=n:=⟨k.toNat,by omega⟩;refine zao (fun n st => ∃ (i p:Nat) (s:Int) (m:List Int) (x:PV),i+n=kn/\m.length=i/\p<=B.length/\st.V 0 = .ptr 0 none 0 0 0/\st.V 2 = .ptr 1 none 0 0 0/\st.V 3 = .ptr 2 none 0 0 0/\st.V 4=iv kn/\st.V 5=iv i/\2<st.nx/\LC st.S st.nx 2 m x/\st.S 0=some (.box [.sl 1 (zbl B),iv p,iv s])/\st.S 1=some (.box [iv 0,iv 0,iv 0,iv 0,iv 0,iv 0,iv 0,.e0])/\st.S 2=some (.box [iv x0,iv x1,iv x2,iv x3,iv x4,iv x5,iv x6,x])) ?_ kn _ ⟨0,p,s,[],.e0,by omega,rfl,hp,v0,v2,v3,v4,v5,by omega,.inl ⟨rfl,rfl⟩,hS,hS1,hS2⟩;clear v0 v2 v3 v4 v5 hnx hS hS1 hS2 hp;rintro n st ⟨i,p,s,m,x,hi,hm,hp,v0,v2,v3,v4,v5,hnx,hx,hS,hS1,hS2⟩;have z1:=fr hnx;have z2:=fr (by omega:0<st.nx);have z3:=fr (by omega:1<st.nx);simp [z92,v4,v5];refine zau (fun h => ?_) (fun h => ?_)
  ·simp at h;have hw:=w64 (x:=(i:Int)+1) (by omega) (by omega);obtain ⟨r1,h1,v1,p1,s1,⟨a,rfl,a0,a1⟩,hp1,rfl⟩:=zba B p s hp hB 3 (by omega);have a2:=a1 (by omega);have w:=w64 (x:=a-1) (by omega) (by omega);rcases hx with ⟨rfl,rfl⟩ | ⟨o,e,rfl,ho,hox,hSo⟩
   ·have hr8:zag 8 1=true:=by decide
    have hone:[[iv (a-1)]]=zab [a-1]:=rfl;simp [-getElem?_pos,v0,v3,v5,hS,hS2,z1,h1,w,hw,hr8];exact zai (n-1) (by omega) ⟨i+1,p1,s1,[a-1],.ref (st.nx+1) none st.ep 0 1,by omega,by simp at hm; simp; omega,hp1,by simp [v0],by simp [v2],by simp [v3],by simp [v4],by simp,by simp; omega,.inr ⟨st.nx+1,st.ep,rfl,by omega,by simp,by
     have n2 : ¬ st.nx+1=2:=by omega
     simp [n2,zab]⟩,by simp [z2,z3,hS1]⟩
   ·have hr8:=zbx (n:=m.length+1) (by omega);have y1:=fr hox;have y2:=fr ho;have y3:=fr (by omega:0<o);have y4:=fr (by omega:1<o);simp [-getElem?_pos,v0,v3,v5,hS,hS2,hSo,z1,y1,y2,y3,h1,w,hw,hr8,zbn];exact zai (n-1) (by omega) ⟨i+1,p1,s1,m++[a-1],.ref (st.nx+1) none st.ep 0 (m.length+1),by omega,by simp [hm],hp1,by simp [v0],by simp [v2],by simp [v3],by simp [v4],by simp,by simp; omega,.inr ⟨st.nx+1,st.ep,by simp,by omega,by simp,by
     have n2 : ¬ st.nx+1=2:=by omega
     simp [n2]⟩,by simp [z2,z3,y3,y4,hS1]⟩
  ·simp at h;rcases hx with ⟨rfl,rfl⟩ | ⟨o,e,rfl,ho,hox,hSo⟩
   ·simp [-getElem?_pos,v2,v3,hS,hS1,hS2];exact ⟨_,p,s,⟨⟨x0,x1,x2,x3,x4,x5,x6,[]⟩,rfl,by simp⟩,hp,rfl⟩
   ·have y2:=fr ho;have y3:=fr (by omega:0<o);have y4:=fr (by omega:1<o);have y5:1<=o:=by omega
    simp [-getElem?_pos,v2,v3,hS,hS1,hS2,hSo,y4,y5];exact ⟨_,p,s,⟨⟨x0,x1,x2,x3,x4,x5,x6,m⟩,rfl,by simp only; omega⟩,hp,rfl⟩
 cases b1 with
 | true =>
  obtain ⟨r8,h8,v8,p8,s8,⟨a8,rfl,a80,a81⟩,hp8,rfl⟩:=zba B p7 s7 hp7 hB 100 (by omega);obtain ⟨r9,h9,v9,p9,s9,⟨b2,rfl⟩,hp9,rfl⟩:=zg6 B p8 s8 hp8 hB 4 (by omega);cases b2 with
  | true =>
   obtain ⟨r10,h10,v10,p10,s10,⟨a10',rfl,_,_⟩,hp10,rfl⟩:=zba B p9 s9 hp9 hB (1+a6) (by have:=a61 (by omega); omega);obtain ⟨r11,h11,v11,p11,s11,⟨k,rfl,k0,k1⟩,hp11,rfl⟩:=zba B p10 s10 hp10 hB 5 (by omega);have k2:=k1 (by omega);simp [-getElem?_pos,zox,zoy,h1,h2,h3,h4,h5,h6,h7,h8,h9,h10,h11,w6];exact key k _ _ _ _ _ _ _ _ p11 s11 k0 (by omega) hp11 (by simp) (by simp) (by simp) (by simp) (by simp) (by simp) (by simp) (by simp) (by simp; exact ⟨rfl,rfl,rfl,rfl,rfl,rfl,rfl⟩)
  | false =>
   obtain ⟨r11,h11,v11,p11,s11,⟨k,rfl,k0,k1⟩,hp11,rfl⟩:=zba B p9 s9 hp9 hB 5 (by omega);have k2:=k1 (by omega);simp [-getElem?_pos,zox,zoy,h1,h2,h3,h4,h5,h6,h7,h8,h9,h11,w6];exact key k _ _ _ _ _ _ _ _ p11 s11 k0 (by omega) hp11 (by simp) (by simp) (by simp) (by simp) (by simp) (by simp) (by simp) (by simp) (by simp; exact ⟨rfl,rfl,rfl,rfl,rfl,rfl,rfl⟩)
 | false =>
  obtain ⟨r9,h9,v9,p9,s9,⟨b2,rfl⟩,hp9,rfl⟩:=zg6 B p7 s7 hp7 hB 4 (by omega);cases b2 with
  | true =>
   obtain ⟨r10,h10,v10,p10,s10,⟨a10',rfl,_,_⟩,hp10,rfl⟩:=zba B p9 s9 hp9 hB (1+a6) (by have:=a61 (by omega); omega);obtain ⟨r11,h11,v11,p11,s11,⟨k,rfl,k0,k1⟩,hp11,rfl⟩:=zba B p10 s10 hp10 hB 5 (by omega);have k2:=k1 (by omega);simp [-getElem?_pos,zox,zoy,h1,h2,h3,h4,h5,h6,h7,h9,h10,h11,w6];exact key k _ _ _ _ _ _ _ _ p11 s11 k0 (by omega) hp11 (by simp) (by simp) (by simp) (by simp) (by simp) (by simp) (by simp) (by simp) (by simp; exact ⟨rfl,rfl,rfl,rfl,rfl,rfl,rfl⟩)
  | false =>
   obtain ⟨r11,h11,v11,p11,s11,⟨k,rfl,k0,k1⟩,hp11,rfl⟩:=zba B p9 s9 hp9 hB 5 (by omega);have k2:=k1 (by omega);simp [-getElem?_pos,zox,zoy,h1,h2,h3,h4,h5,h6,h7,h9,h11,w6];exact key k _ _ _ _ _ _ _ _ p11 s11 k0 (by omega) hp11 (by simp) (by simp) (by simp) (by simp) (by simp) (by simp) (by simp) (by simp) (by simp; exact ⟨rfl,rfl,rfl,rfl,rfl,rfl,rfl⟩)
theorem yl1 (B:List Int) (p:Nat) (s:Int) (hp:p<=B.length) (hB:B.length<=9223372036854775807) : ∃ r,RUN T zrn [.bx [.sl 1 (zbl B),iv p,iv s]]=some r/\zf0 B (PC 64) r:=by
 refine ze0 rfl rfl ?_;obtain ⟨r1,h1,v1,p1,s1,⟨c,rfl,hc⟩,hp1,rfl⟩:=yl0 B p s hp hB;obtain ⟨r2,h2,v2,p2,s2,⟨a,rfl,a0,a1⟩,hp2,rfl⟩:=zba B p1 s1 hp1 hB 12 (by omega);have hr8:zag 8 1=true:=by decide
 have Z0:=bI hr8 <| bI h1 h2
 by_cases c0:a=0
 ·obtain ⟨r3,h3,v,p3,s3,⟨x,rfl,hx⟩,hp3,rfl⟩:=zf2 B p2 s2 hp2 hB [0,1,8,9,-1] (by simp);simp only [zab,List.map] at h3;simp [-getElem?_pos,zht,zoy,Z0,c0,h3];exact ⟨_,p3,s3,⟨⟨x,c.de,c.bi,c.la,c.rw,c.nu,c.dn,c.sg⟩,rfl,by simp only; omega⟩,hp3,rfl⟩
 by_cases c1:a=1
 ·obtain ⟨r3,h3,v,p3,s3,⟨x,rfl,hx⟩,hp3,rfl⟩:=zf2 B p2 s2 hp2 hB [-1,0,4,5] (by simp);simp only [zab,List.map] at h3;simp [-getElem?_pos,zht,zoy,Z0,c1,h3];exact ⟨_,p3,s3,⟨⟨c.ro,x,c.bi,c.la,c.rw,c.nu,c.dn,c.sg⟩,rfl,by simp only; omega⟩,hp3,rfl⟩
 by_cases c2:a=2
 ·obtain ⟨r3,h3,v,p3,s3,⟨x,rfl,hx⟩,hp3,rfl⟩:=zf2 B p2 s2 hp2 hB [1,2,8,9] (by simp);simp only [zab,List.map] at h3;simp [-getElem?_pos,zht,zoy,Z0,c2,h3];exact ⟨_,p3,s3,⟨⟨c.ro,c.de,x,c.la,c.rw,c.nu,c.dn,c.sg⟩,rfl,by simp only; omega⟩,hp3,rfl⟩
 by_cases c3:a=3
 ·obtain ⟨r3,h3,v,p3,s3,⟨x,rfl,hx⟩,hp3,rfl⟩:=zf2 B p2 s2 hp2 hB [0,1,100,101,9223372036854775807] (by simp);simp only [zab,List.map] at h3;simp [-getElem?_pos,zht,zoy,Z0,c3,h3];exact ⟨_,p3,s3,⟨⟨c.ro,c.de,c.bi,x,c.rw,c.nu,c.dn,c.sg⟩,rfl,by simp only; omega⟩,hp3,rfl⟩
 by_cases c4:a=4
 ·obtain ⟨r3,h3,v,p3,s3,⟨x,rfl,hx⟩,hp3,rfl⟩:=zf2 B p2 s2 hp2 hB [0,1,20,21] (by simp);simp only [zab,List.map] at h3;simp [-getElem?_pos,zht,zoy,Z0,c4,h3];exact ⟨_,p3,s3,⟨⟨c.ro,c.de,c.bi,c.la,x,c.nu,c.dn,c.sg⟩,rfl,by simp only; omega⟩,hp3,rfl⟩
 by_cases c5:a=5
 ·obtain ⟨r3,h3,v,p3,s3,⟨x,rfl,hx⟩,hp3,rfl⟩:=zf2 B p2 s2 hp2 hB [0,1,c.dn,IntKind.i64.wrap (c.dn+1),-1] (by simp);simp only [zab,List.map] at h3;simp [-getElem?_pos,zht,zoy,Z0,c5,h3];exact ⟨_,p3,s3,⟨⟨c.ro,c.de,c.bi,c.la,c.rw,x,c.dn,c.sg⟩,rfl,by simp only; omega⟩,hp3,rfl⟩
 by_cases c6:a=6
 ·obtain ⟨r3,h3,v,p3,s3,⟨x,rfl,hx⟩,hp3,rfl⟩:=zf2 B p2 s2 hp2 hB [0,1,1000,1001,9223372036854775807] (by simp);simp only [zab,List.map] at h3;simp [-getElem?_pos,zht,zoy,Z0,c6,h3];exact ⟨_,p3,s3,⟨⟨c.ro,c.de,c.bi,c.la,c.rw,c.nu,x,c.sg⟩,rfl,by simp only; omega⟩,hp3,rfl⟩
 by_cases c7:a=7
 ·obtain ⟨r3,h3,v,p3,s3,⟨x,rfl,x0,x1⟩,hp3,rfl⟩:=zba B p2 s2 hp2 hB 5 (by omega);have x2:=x1 (by omega);have w:=w64 (x:=x-2) (by omega) (by omega);have hr9:=zbx (n:=c.sg.length+1) (by omega);simp [-getElem?_pos,zht,zoy,hr9,h1,h2,c7,h3,w,zbn];exact ⟨_,p3,s3,⟨⟨c.ro,c.de,c.bi,c.la,c.rw,c.nu,c.dn,c.sg++[x-2]⟩,rfl,by simp; omega⟩,hp3,rfl⟩
 ·simp [-getElem?_pos,zht,zoy,Z0,c0,c1,c2,c3,c4,c5,c6,c7];exact ⟨_,p2,s2,⟨c,rfl,by omega⟩,hp2,rfl⟩
def sv (s:ByteArray):PV := .v (.string s)
def za6 (l:List ByteArray):List (List PV):=l.map fun s=>[.v (.string s)]
@[simp] theorem qvt (l:List ByteArray):(za6 l).length=l.length:=by simp [za6]
theorem zu4 {l:List ByteArray} {i:Nat} {x:ByteArray} (h:l[i]?=some x):(za6 l)[i]?=some [.v (.string x)]:=by simp [za6,h]
def zu9 (q:Bool) (t:List Nd):PV:=if q then .own 5 (t.map nd) else .sl 5 (t.map nd)
@[simp] theorem qwu (q:Bool) (t:List Nd):fz (zu9 q t) = .sl 5 (t.map nd):=by cases q <;> simp [zu9]
def trs (q:Bool) (M:List (List Nd)):List (List PV):=M.map fun t=>[zu9 q t]
@[simp] theorem q5c (q:Bool) (M:List (List Nd)):(trs q M).length=M.length:=by simp [trs]
theorem ypi {q:Bool} {M:List (List Nd)} {i:Nat} {t:List Nd} (h:M[i]?=some t):(trs q M)[i]?=some [zu9 q t]:=by simp [trs,h]
structure Mo where
 ns:List ByteArray
 ix:List Int
 b:Int
 ts:List (List Nd)
structure MoL (n:Nat) (m:Mo):Prop where
 ns:m.ns.length<=n
 ss : ∀ x∈m.ns,x.size<=n
 ix:m.ix.length<=n
 ts:m.ts.length<=n
 tl : ∀ l∈m.ts,l.length<=n
theorem MoL.mono {n k:Nat} {m:Mo} (h:MoL n m) (hk:n<=k):MoL k m:=⟨bJ h.ns hk,fun x hx=>bJ (h.ss x hx) hk,bJ h.ix hk,bJ h.ts hk,fun x hx=>bJ (h.tl x hx) hk⟩
theorem z88 {α:Type} {l m:List α} {i:Nat} (hl:l.length=m.length) (hi:l.length<=i) (h : ∀ j,j<i->l[j]?=m[j]?):l=m:=by
 apply List.ext_getElem?;intro j
 by_cases c:j<i
 ·exact h j c
 ·rw [List.getElem?_eq_none (by omega),List.getElem?_eq_none (by omega)]
theorem z8i {α:Type} {l m:List α} {i:Nat} {x y:α} (hx:l[i]?=some x) (hy:m[i]?=some y) (h : ¬ x=y):(l=m)=False:=by
 apply bK;rintro rfl;rw [hx] at hy;cases hy;exact h rfl
theorem z9w {α:Type} {l m:List α} (h:((l.length:Int)=m.length)=False):(l=m)=False:=by
 apply bK;rintro rfl;simp at h
theorem qa3 (s:ByteArray) : ∀ (n i:Nat) (r:List UInt8),s.size-i<=n->ByteArray.toList.loop s i r=r.reverse++s.data.toList.drop i:=by
 have hs:s.data.toList.length=s.size:=by cases s; rfl
 intro n
 induction n with
 | zero =>
  intro i r h;rw [ByteArray.toList.loop,if_neg (by omega),bN (by omega)];simp
 | succ n ih =>
  intro i r h;rw [ByteArray.toList.loop];split
  ·rename_i hi;rw [ih _ _ (by omega)];have hi':i<s.data.toList.length:=by omega
   rw [List.drop_eq_getElem_cons hi'];have:s.get! i=s.data.toList[i]:=by
    cases s with
    | mk d =>
     show d[i]! = _;rw [getElem!_pos d i (by simpa using hi')];simp
   simp [this]
  ·rename_i hi;rw [bN (by omega)];simp
theorem ytx (s:ByteArray):s.toList=s.data.toList:=by
 unfold ByteArray.toList;rw [qa3 s s.size 0 [] (by omega)];simp
theorem qif {x y:ByteArray} (h:x.toList=y.toList):x=y:=by
 rw [ytx,ytx] at h;cases x; cases y;simp at h;simp [h]
theorem ym3 {x y:ByteArray} (h : ¬ x=y):(x.toList == y.toList)=false:=by
 simp only [beq_eq_false_iff_ne,ne_eq];exact fun e=>h (qif e)
open Classical in
theorem y7v (l m:List Int) (hl:l.length<=9223372036854775807):RUN T zq0 [.sl 1 (zab l),.sl 1 (zab m)]=some ([bv (decide (l=m))],[]):=by
 refine zae rfl rfl ?_;rcases bL ((l.length:Int)=m.length) with hlm | hlm
 case inr =>
  simp [-getElem?_pos,zv0,zvz,hlm,z9w hlm]
 simp [-getElem?_pos,zv0,zvz,hlm];have hlen:l.length=m.length:=by simp at hlm; omega
 refine zao (fun n st => ∃ i:Nat,i+n=l.length/\(∀ j,j<i->l[j]?=m[j]?)/\st.V 0 = .sl 1 (zab l)/\st.V 1 = .sl 1 (zab m)/\st.V 5=iv i) ?_ l.length _ ⟨0,by simp⟩;rintro n st ⟨i,hi,hj,v0,v1,v5⟩;simp [ye6,v0,v5];refine zau (fun h => ?_) (fun h => ?_)
 ·simp at h;obtain ⟨x,hx⟩ : ∃ x,l[i]?=some x:=⟨_,bG h⟩;obtain ⟨y,hy⟩ : ∃ y,m[i]?=some y:=⟨_,bG (by omega)⟩;have hx':=zay hx;have hy':=zay hy;have hw:=wS h hl;have him:i<m.length:=by omega
  by_cases e:x=y
  ·simp [-getElem?_pos,v0,v1,v5,hx',hy',h,hw,eq_true e];exact zai (n-1) (by omega) ⟨i+1,by omega,zh4 hj (by rw [hx,hy,e]),by simp [v0,v1]⟩
  ·simp [-getElem?_pos,v0,v1,v5,hx',hy',h,bK e,z8i hx hy e]
 ·simp at h;simp [z88 hlen h hj]
open Classical in
theorem y7w (l m:List Int) (hl:l.length<=9223372036854775807):RUN T zq1 [.sl 1 (zab l),.sl 1 (zab m)]=some ([bv (decide (l=m))],[]):=by
 refine zae rfl rfl ?_;rcases bL ((l.length:Int)=m.length) with hlm | hlm
 case inr =>
  simp [-getElem?_pos,zv2,zvz,hlm,z9w hlm]
 simp [-getElem?_pos,zv2,zvz,hlm];have hlen:l.length=m.length:=by simp at hlm; omega
 refine zao (fun n st => ∃ i:Nat,i+n=l.length/\(∀ j,j<i->l[j]?=m[j]?)/\st.V 0 = .sl 1 (zab l)/\st.V 1 = .sl 1 (zab m)/\st.V 12=iv l.length/\st.V 13=iv i) ?_ l.length _ ⟨0,by simp [hlen]⟩;rintro n st ⟨i,hi,hj,v0,v1,v12,v13⟩;simp [ye7,v12,v13];refine zau (fun h => ?_) (fun h => ?_)
 ·simp at h;obtain ⟨x,hx⟩ : ∃ x,l[i]?=some x:=⟨_,bG h⟩;obtain ⟨y,hy⟩ : ∃ y,m[i]?=some y:=⟨_,bG (by omega)⟩;have hx':=zay hx;have hy':=zay hy;have hw:=wS h hl;have him:i<m.length:=by omega
  by_cases e:x=y
  ·simp [-getElem?_pos,v0,v1,v13,hx',hy',h,hw,eq_true e];exact zai (n-1) (by omega) ⟨i+1,by omega,zh4 hj (by rw [hx,hy,e]),by simp [v0,v1,v12]⟩
  ·simp [-getElem?_pos,v0,v1,v13,hx',hy',h,bK e,z8i hx hy e]
 ·simp at h;simp [z88 hlen h hj]
def rwS (q:Bool) (l:List ByteArray):PV:=if q then .own 1 (za6 l) else .sl 1 (za6 l)
@[simp] theorem q40 (q:Bool) (l:List ByteArray):fz (rwS q l) = .sl 1 (za6 l):=by cases q <;> simp [rwS]
def yr7 (q:Bool) (L:List (List ByteArray)):List (List PV):=L.map fun l=>[rwS q l]
@[simp] theorem qw2 (q:Bool) (L:List (List ByteArray)):(yr7 q L).length=L.length:=by simp [yr7]
def ltr (n:Int):Bool:=decide (97<=n) && decide (n<=122)
def dgt (n:Int):Bool:=decide (48<=n) && decide (n<=57)
def chB (s:ByteArray) (i:Nat):Bool:=match s[i]? with
 | none=>true
 | some b=>ltr b.toNat || (decide (i≠0) && dgt b.toNat)
def zee (s:ByteArray):Bool:=zah s.size 1 12 && (List.range s.size).all (chB s)
theorem ydj {s:ByteArray} {i:Nat} {b:UInt8} (h:s[i]?=some b):chB s i=(ltr b.toNat || (decide (i≠0) && dgt b.toNat)):=by simp [chB,h]
theorem y7x (s:ByteArray) (hs:s.size<=9223372036854775807):RUN T zrt [.v (.string s)]=some ([bv (zee s)],[]):=by
 refine zae rfl rfl ?_;simp [-getElem?_pos,z2a,ztr];refine zao (fun n st => ∃ i:Nat,i+n=s.size/\(∀ j,j<i->chB s j=true)/\st.V 0 = .v (.string s)/\st.V 6=iv s.size/\st.V 7=iv i) ?_ s.size _ ⟨0,by simp⟩;rintro n st ⟨i,hi,hj,v0,v6,v7⟩;simp [yfh,v6,v7];refine zau (fun h => ?_) (fun h => ?_)
 ·simp at h;obtain ⟨b,hb⟩ : ∃ b,s[i]?=some b:=⟨_,getElem?_pos s i h⟩;have hw:=wS h hs;have hc:=ydj hb;obtain ⟨c,hcc⟩ : ∃ c:Int,c=b.toNat:=⟨_,rfl⟩;rw [<- hcc] at hc;have hi0:((i:Int)=0)=(i=0):=by simp
  rcases bL (97<=c) with a1 | a1
  all_goals rcases bL (c<=122) with a2 | a2
  all_goals rcases bL (i=0) with a3 | a3
  all_goals rcases bL (48<=c) with a4 | a4
  all_goals rcases bL (c<=57) with a5 | a5
  all_goals have a6:(c<48) = ¬ (48<=c):=by simp
  all_goals have a7:(57<c) = ¬ (c<=57):=by simp
  all_goals simp [ltr,dgt,a1,a2,a3,a4,a5] at hc
  all_goals simp [-getElem?_pos,v0,v7,hb,<- hcc,a1,a2,a3,a4,a5,a6,a7,hw]
  all_goals first
   | exact zai (n-1) (by omega) ⟨i+1,by omega,zh4 hj hc,by simp [v0,v6]⟩
   | (have no:zee s=false:=by
       unfold zee;rw [zhn h hc]; simp
      simp [no]; done)
   | skip
 ·simp at h;have:=zuw (p:=chB s) (n:=s.size) fun j hj'=>hj j (by omega);unfold zee;rw [this];simp [-getElem?_pos,v0,zc0,-zbm]
theorem yl2 (s:ByteArray) (hs:s.size<=9223372036854775807):RUN T znh [.v (.string s)]=some ([bv (zee s)],[]):=by
 refine zae rfl rfl ?_;rcases Bool.eq_false_or_eq_true (zah s.size 1 12) with h0 | h0
 case inr =>
  have no:zee s=false:=by unfold zee; rw [h0]; rfl
  simp [-getElem?_pos,ztw,ztr,zbb,-za1,h0,no]
 have hr:=zar.mp h0;obtain ⟨b0,hb0⟩ : ∃ b,s[0]?=some b:=⟨_,getElem?_pos s 0 (by omega)⟩;have hn0:zb2 (.v (.int .i64 0))=some 0:=rfl;rcases bL (((b0.toNat:Nat):Int)<97) with f | f
 case inl =>
  have hc:chB s 0=false:=by
   rw [ydj hb0];have : ¬ (97<=(b0.toNat:Int)):=by have:=of_eq_true f; omega
   simp [ltr,this]
  have no:zee s=false:=by unfold zee; rw [zhn (by omega) hc]; simp
  simp [-getElem?_pos,ztw,ztr,zbb,-za1,h0,no,hb0,f]
 simp [-getElem?_pos,ztw,ztr,zbb,-za1,h0,hb0,f];refine zao (fun n st => ∃ i:Nat,i+n=s.size/\(∀ j,j<i->chB s j=true)/\st.V 0 = .v (.string s)/\st.V 3=iv i) ?_ s.size _ ⟨0,by simp⟩;rintro n st ⟨i,hi,hj,v0,v3⟩;simp [ye3,v0,v3];refine zau (fun h => ?_) (fun h => ?_)
 ·simp at h;obtain ⟨b,hb⟩ : ∃ b,s[i]?=some b:=⟨_,getElem?_pos s i h⟩;have hw:=wS h hs;have hc:=ydj hb;have hcv:IntKind.i64.wrap (b.toNat:Int)=b.toNat:=w64 (by omega) (by have:=b.toNat_lt; omega);have e1:zah (b.toNat:Int) 97 122=ltr b.toNat:=rfl;have e2:zah (b.toNat:Int) 48 57=dgt b.toNat:=rfl;cases a1:ltr b.toNat with
  | true =>
   have e3:=e1.trans a1;simp [-getElem?_pos,v0,v3,hb,hcv,e3,hw,zbb,-za1];exact zai (n-1) (by omega) ⟨i+1,by omega,zh4 hj (by rw [hc,a1]; rfl),by simp [v0]⟩
  | false =>
   have e3:=e1.trans a1;cases a2:dgt b.toNat with
   | true =>
    have e4:=e2.trans a2;have hi0:i≠0:=by
     rintro rfl;rw [hb0] at hb;cases hb;simp [dgt] at a2;have:=of_eq_false f;omega
    simp [-getElem?_pos,v0,v3,hb,hcv,e3,e4,hw,zbb,-za1];exact zai (n-1) (by omega) ⟨i+1,by omega,zh4 hj (by rw [hc,a1,a2]; simp [hi0]),by simp [v0]⟩
   | false =>
    have e4:=e2.trans a2;have no:zee s=false:=by unfold zee; rw [zhn h (by rw [hc,a1,a2]; simp:chB s i=false)]; simp
    simp [-getElem?_pos,v0,v3,hb,hcv,e3,e4,no,zbb,-za1]
 ·simp at h;have:=zuw (p:=chB s) (n:=s.size) fun j hj'=>hj j (by omega);have ok:zee s=true:=by unfold zee; rw [this,h0]; rfl
  simp [ok]
theorem z9n (l:List ByteArray) (i:Nat):List.take i (za6 l)=za6 (l.take i):=by simp [za6]
def zgc (l:List ByteArray) (x:ByteArray):Bool:=l.any fun y=>decide (y=x)
theorem yl3 (l:List ByteArray) (x:ByteArray) (hl:l.length<=9223372036854775807):RUN T zni [.sl 1 (za6 l),.v (.string x)]=some ([bv (zgc l x)],[]):=by
 refine zae rfl rfl ?_;simp [-getElem?_pos,zzx,zvz];refine zao (fun n st => ∃ i:Nat,i+n=l.length/\(∀ (j:Nat) (y:ByteArray),j<i->l[j]?=some y->¬ y=x)/\st.V 0 = .sl 1 (za6 l)/\st.V 1 = .v (.string x)/\st.V 5=iv i) ?_ l.length _ ⟨0,by simp⟩;rintro n st ⟨i,hi,hj,v0,v1,v5⟩;simp [ye4,v0,v5];refine zau (fun h => ?_) (fun h => ?_)
 ·simp at h;obtain ⟨y,hy⟩ : ∃ y,l[i]?=some y:=⟨_,bG h⟩;have hy':=zu4 hy;have hw:=wS h hl
  by_cases e:y=x
  ·subst e;have:zgc l y=true:=by
    unfold zgc; rw [List.any_eq_true]; exact ⟨y,bF hy,by simp⟩
   simp [-getElem?_pos,v0,v1,v5,hy',h,this]
  ·simp [-getElem?_pos,v0,v1,v5,hy',h,hw,ym3 e];exact zai (n-1) (by omega) ⟨i+1,by omega,zlp (P:=fun _ y => ¬ y=x) hj hy e,by simp [v0,v1]⟩
 ·simp at h;have:zgc l x=false:=by
   unfold zgc;rw [List.any_eq_false];intro y hy;obtain ⟨j,hjy⟩:=bH hy;simpa using hj j y (by have:=(bD hjy).1; omega) hjy
  simp [this]
theorem y7y (l:List ByteArray) (x:ByteArray) (hl:l.length<=9223372036854775807):RUN T zsn [.sl 1 (za6 l),.v (.string x)]=some ([iv (zg5 (fun y=>decide (y=x)) l)],[]):=by
 refine zae rfl rfl ?_;simp [-getElem?_pos,z4c,zvz];refine zao (fun n st => ∃ i:Nat,i+n=l.length/\(∀ (j:Nat) (y:ByteArray),j<i->l[j]?=some y->decide (y=x)=false)/\st.V 0 = .sl 1 (za6 l)/\st.V 1 = .v (.string x)/\st.V 7=iv l.length/\st.V 8=iv i) ?_ l.length _ ⟨0,by simp⟩;rintro n st ⟨i,hi,hj,v0,v1,v7,v8⟩;simp [yfs,v7,v8];refine zau (fun h => ?_) (fun h => ?_)
 ·simp at h;obtain ⟨y,hy⟩ : ∃ y,l[i]?=some y:=⟨_,bG h⟩;have hy':=zu4 hy;have hw:=wS h hl
  by_cases e:y=x
  ·subst e;have:=zuy (p:=fun z=>decide (z=y)) hy (by simp) hj;simp [-getElem?_pos,v0,v1,v8,hy',h,this]
  ·simp [-getElem?_pos,v0,v1,v8,hy',h,hw,ym3 (fun e'=>e e'.symm)];exact zai (n-1) (by omega) ⟨i+1,by omega,zlp (P:=fun _ y=>decide (y=x)=false) hj hy (by simpa using e),by simp [v0,v1,v7]⟩
 ·simp at h;have:=zy6 (p:=fun z=>decide (z=x)) (l:=l) fun j y h1 h2=>hj j y (by omega) h2;simp [-getElem?_pos,this]
theorem y7z (l:List ByteArray) (x:ByteArray) (hl:l.length<=9223372036854775807):RUN T zru [.sl 1 (za6 l),.v (.string x)]=some ([bv (zgc l x)],[]):=by
 refine zae rfl rfl ?_;have h:=y7y l x hl;have e:=z8k (p:=fun y=>decide (y=x)) (l:=l);have e2:zgc l x=l.any fun y=>decide (y=x):=rfl;rw [e2,<- e];simp [-getElem?_pos,z2c,zvz,h]
def nmB (L:List ByteArray) (i:Nat):Bool:=match L[i]? with
 | none=>true
 | some x=>zee x && !zgc (L.take i) x
def zgq (L:List ByteArray):Bool:=(List.range L.length).all (nmB L)
theorem zze {L:List ByteArray} {i:Nat} {x:ByteArray} (h:L[i]?=some x):nmB L i=(zee x && !zgc (L.take i) x):=by simp [nmB,h]
theorem y70 (L:List ByteArray) (hl:L.length<=9223372036854775807) (hs : ∀ x∈L,x.size<=9223372036854775807):RUN T zq3 [.sl 1 (za6 L)]=some ([bv (zgq L)],[]):=by
 refine zae rfl rfl ?_;simp [-getElem?_pos,z0k,ztr];refine zao (fun n st => ∃ i:Nat,i+n=L.length/\(∀ j,j<i->nmB L j=true)/\st.V 0 = .sl 1 (za6 L)/\st.V 5 = .sl 1 (za6 L)/\st.V 6=iv L.length/\st.V 7=iv i) ?_ L.length _ ⟨0,by simp⟩;rintro n st ⟨i,hi,hj,v0,v5,v6,v7⟩;simp [ye8,v6,v7];refine zau (fun h => ?_) (fun h => ?_)
 ·simp at h;obtain ⟨x,hx⟩ : ∃ x,L[i]?=some x:=⟨_,bG h⟩;have hx':=zu4 hx;have hw:=wS h hl;have hN:=y7x x (hs x (bF hx));have hC:=y7z (L.take i) x (by simp; omega);have hc:=zze hx;have hil:i<=L.length:=by omega
  cases a1:zee x with
  | false =>
   rw [a1] at hN hc;have no:zgq L=false:=zhn h (by rw [hc]; rfl);simp [-getElem?_pos,v5,v7,hx',h,hN,no]
  | true =>
   rw [a1] at hN hc;cases a2:zgc (L.take i) x with
   | true =>
    rw [a2] at hC hc;have no:zgq L=false:=zhn h (by rw [hc]; rfl);simp [-getElem?_pos,v0,v5,v7,hx',h,hN,hC,hil,z9n,no]
   | false =>
    rw [a2] at hC hc;simp [-getElem?_pos,v0,v5,v7,hx',h,hw,hN,hC,hil,z9n];exact zai (n-1) (by omega) ⟨i+1,by omega,zh4 hj (by rw [hc]; rfl),by simp [v0,v5,v6]⟩
 ·simp at h;have:zgq L=true:=zuw fun j hj'=>hj j (by omega);simp [this]
def yqu (row:List Int):List (List Nd)->Int->Int
 | [],a=>a
 | t::ts,a=>yqu row ts (IntKind.i64.wrap (a+evt t row))
def qbd (p:Nat->Bool) (i:Nat):List Int:=((List.range i).filter p).map fun (j:Nat)=>(j:Int)
@[simp] theorem qui (p:Nat->Bool):qbd p 0=[]:=rfl
theorem zj2 (x:Int):IntKind.u64.wrap x=x % 18446744073709551616:=IntKind.wrap_u64 x
theorem yq3 (a b:Int):zbd .mul (.int .u64 a) (.int .u64 b)=some (.int .u64 (a*b % 18446744073709551616)):=by rw [yb0,zj2]
theorem yt6 (a b:Int):zbd .add (.int .u64 a) (.int .u64 b)=some (.int .u64 ((a+b) % 18446744073709551616)):=by rw [ydl,zj2]
theorem ytr (x:Int):zbd .shr (.int .u64 x) (.int .u64 32)=some (.int .u64 (x / 4294967296)):=by
 rw [ybu,if_pos (by decide)];have:(2:Int) ^ min (32:Int).toNat IntKind.u64.bits=4294967296:=by decide
 rw [this,Int.fdiv_eq_ediv_of_nonneg _ (by decide)]
theorem qdy (x:Int):zbd .shl (.int .u64 x) (.int .u64 32)=some (.int .u64 (x*4294967296 % 18446744073709551616)):=by
 rw [yo1,if_pos (by decide),zj2];have:(2:Int) ^ min (32:Int).toNat IntKind.u64.bits=4294967296:=by decide
 rw [this]
theorem zp1 {x:Int} (h0:0<=x) (h1:x<18446744073709551616):zbd .and (.int .u64 x) (.int .u64 4294967295)=some (.int .u64 (x % 4294967296)):=by
 rw [yek,zj2];have e:((BitVec.ofInt IntKind.u64.bits x &&& BitVec.ofInt IntKind.u64.bits 4294967295).toNat:Int)=x % 4294967296:=by
  obtain ⟨n,rfl⟩:=Int.eq_ofNat_of_zero_le h0;have hn:n<2 ^ 64:=by omega
  have e2:(BitVec.ofInt 64 (n:Int) &&& BitVec.ofInt 64 4294967295).toNat=n % 4294967296:=by
   rw [BitVec.toNat_and];have e3:(BitVec.ofInt 64 (n:Int)).toNat=n:=by
    rw [BitVec.ofInt_natCast,BitVec.toNat_ofNat,Nat.mod_eq_of_lt hn]
   have e4:(BitVec.ofInt 64 4294967295).toNat=2 ^ 32-1:=by decide
   rw [e3,e4,Nat.and_two_pow_sub_one_eq_mod]
  show (((BitVec.ofInt 64 (n:Int) &&& BitVec.ofInt 64 4294967295).toNat:Nat):Int)=_;rw [e2]; omega
 rw [e]; congr 2; omega
theorem parts {x y:Int} (hx:0<=x) (hx1:x<18446744073709551616) (hy:0<=y) (hy1:y<18446744073709551616) :
  ∃ a b c d:Int,a=x % 4294967296*(y % 4294967296)/\b=x / 4294967296*(y % 4294967296)/\c=x % 4294967296*(y / 4294967296)/\d=x / 4294967296*(y / 4294967296)/\0<=a/\a<=18446744065119617025/\0<=b/\b<=18446744065119617025/\0<=c/\c<=18446744065119617025/\0<=d/\d<=18446744065119617025/\x*y=d*18446744073709551616+(b+c)*4294967296+a:=by
 have bd : ∀ u v:Int,0<=u->u<=4294967295->0<=v->v<=4294967295->0<=u*v/\u*v<=18446744065119617025:=fun u v h1 h2 h3 h4 =>
  ⟨Int.mul_nonneg h1 h3,Int.le_trans (Int.mul_le_mul h2 h4 h3 (by decide)) (by decide)⟩
 have x0:0<=x % 4294967296/\x % 4294967296<=4294967295:=by omega
 have x1:0<=x / 4294967296/\x / 4294967296<=4294967295:=by omega
 have y0:0<=y % 4294967296/\y % 4294967296<=4294967295:=by omega
 have y1:0<=y / 4294967296/\y / 4294967296<=4294967295:=by omega
 refine ⟨_,_,_,_,rfl,rfl,rfl,rfl,(bd _ _ x0.1 x0.2 y0.1 y0.2).1,(bd _ _ x0.1 x0.2 y0.1 y0.2).2,(bd _ _ x1.1 x1.2 y0.1 y0.2).1,(bd _ _ x1.1 x1.2 y0.1 y0.2).2,(bd _ _ x0.1 x0.2 y1.1 y1.2).1,(bd _ _ x0.1 x0.2 y1.1 y1.2).2,(bd _ _ x1.1 x1.2 y1.1 y1.2).1,(bd _ _ x1.1 x1.2 y1.1 y1.2).2,?_⟩;have ex:x=x / 4294967296*4294967296+x % 4294967296:=by omega
 have ey:y=y / 4294967296*4294967296+y % 4294967296:=by omega
 generalize x / 4294967296=p at *;generalize x % 4294967296=q at *;generalize y / 4294967296=r at *;generalize y % 4294967296=s at *;rw [ex,ey,Int.add_mul,Int.mul_add,Int.mul_add];have e1:p*4294967296*(r*4294967296)=p*r*18446744073709551616:=by
  rw [show (18446744073709551616:Int)=4294967296*4294967296 by decide,Int.mul_assoc,Int.mul_comm 4294967296 (r*4294967296),Int.mul_assoc r,<- Int.mul_assoc p r]
 have e2:p*4294967296*s=p*s*4294967296:=by rw [Int.mul_assoc,Int.mul_comm 4294967296 s,<- Int.mul_assoc]
 have e3:q*(r*4294967296)=q*r*4294967296:=by rw [<- Int.mul_assoc]
 rw [e1,e2,e3,Int.add_mul];omega
theorem yar (x y:Int) (hx:0<=x) (hx1:x<18446744073709551616) (hy:0<=y) (hy1:y<18446744073709551616):RUN T zmk [.v (.int .u64 x),.v (.int .u64 y)]=some ([.v (.int .u64 (x*y / 18446744073709551616)),.v (.int .u64 (x*y % 18446744073709551616))],[]):=by
 refine zae rfl rfl ?_;obtain ⟨a,b,c,d,ea,eb,ec,ed,a0,a1,b0,b1,c0,c1,d0,d1,hp⟩:=parts hx hx1 hy hy1;have f1:=zp1 hx hx1;have f2:=zp1 hy hy1;have g1:a % 18446744073709551616=a:=by omega
 have g2:b % 18446744073709551616=b:=by omega
 have g3:c % 18446744073709551616=c:=by omega
 have g4:d % 18446744073709551616=d:=by omega
 have g5:(b+a / 4294967296) % 18446744073709551616=b+a / 4294967296:=by omega
 have f3:=zp1 (x:=b+a / 4294967296) (by omega) (by omega);simp [-yb0,-ydl,-yek,-ybu,yq3,yt6,ytr,f1,f2,f3,z7e,zks,<- ea,<- eb,<- ec,<- ed,g1,g2,g3,g4,g5];omega
theorem yas (x y:Int) (hx:0<=x) (hx1:x<18446744073709551616) (hy:0<=y) (hy1:y<18446744073709551616):RUN T zmm [.v (.int .u64 x),.v (.int .u64 y)]=some ([.v (.int .u64 (x*y / 18446744073709551616)),.v (.int .u64 (x*y % 18446744073709551616))],[]):=by
 refine zae rfl rfl ?_;obtain ⟨a,b,c,d,ea,eb,ec,ed,a0,a1,b0,b1,c0,c1,d0,d1,hp⟩:=parts hx hx1 hy hy1;have f1:=zp1 hx hx1;have f2:=zp1 hy hy1;have g1:a % 18446744073709551616=a:=by omega
 have g2:b % 18446744073709551616=b:=by omega
 have g3:c % 18446744073709551616=c:=by omega
 have g4:d % 18446744073709551616=d:=by omega
 have g5:(b+a / 4294967296) % 18446744073709551616=b+a / 4294967296:=by omega
 have f3:=zp1 (x:=b+a / 4294967296) (by omega) (by omega);have f4:=zp1 (x:=a) (by omega) (by omega);simp [-yb0,-ydl,-yek,-ybu,-yo1,yq3,yt6,ytr,qdy,f1,f2,f3,f4,z7k,zks,<- ea,<- eb,<- ec,<- ed,g1,g2,g3,g4,g5];omega
structure Wd where
 n:Bool
 h:Int
 l:Int
deriving DecidableEq
abbrev uv (x:Int):PV := .v (.int .u64 x)
def wd (w:Wd):List PV:=[bv w.n,uv w.h,uv w.l]
def wfU (w:Wd):Prop:=0<=w.h/\w.h<18446744073709551616/\0<=w.l/\w.l<18446744073709551616
def wok (w:Wd):Bool:=decide (w.h<9223372036854775808) && (!w.n || decide (0<w.h) || decide (0<w.l))
def mag (w:Wd):Int:=w.h*18446744073709551616+w.l
def mkW (n:Bool) (m:Int):Wd:=⟨n && decide (0<m),m / 18446744073709551616,m % 18446744073709551616⟩
def za8:Wd:=⟨false,0,0⟩
theorem yb1 {n:Bool} {m:Int} (h0:0<=m) (h1:m<340282366920938463463374607431768211456):wfU (mkW n m):=by
 unfold wfU mkW; simp only; omega
theorem ycw {n:Bool} {m:Int} (h0:0<=m):wok (mkW n m)=decide (m<170141183460469231731687303715884105728):=by
 unfold wok mkW;simp only
 by_cases h:m<170141183460469231731687303715884105728
 ·have e:m / 18446744073709551616<9223372036854775808:=by omega
  rw [decide_eq_true h,decide_eq_true e]
  by_cases hz:0<m
  ·by_cases h2:0<m / 18446744073709551616
   ·simp [h2]
   ·have:0<m % 18446744073709551616:=by omega
    simp [this]
  ·simp [hz]
 ·have e : ¬ m / 18446744073709551616<9223372036854775808:=by omega
  rw [decide_eq_false h,decide_eq_false e]; rfl
theorem yat (n:Int) (h:inI n):RUN T zmj [iv n]=some ([uv n.natAbs],[]):=by
 refine zae rfl rfl ?_;obtain ⟨h0,h1⟩:=h;simp [z7c,ztr];refine zau (fun h => ?_) (fun h => ?_) <;> simp at h <;> simp [zj2] <;> omega
theorem yau (n:Int) (h:inI n):RUN T zml [iv n]=some ([uv n.natAbs],[]):=by
 refine zae rfl rfl ?_;obtain ⟨h0,h1⟩:=h;have e1:n<0->IntKind.i64.wrap (n+1)=n+1:=fun h=>w64 (by omega) (by omega);have e2:n<0->IntKind.i64.wrap (0-(n+1))=0-(n+1):=fun h=>w64 (by omega) (by omega);simp [z7i,ztr];refine zau (fun h => ?_) (fun h => ?_) <;> simp at h
 ·have e1:=e1 h;have e2:=e2 h;simp at e2;simp [e1,e2,zj2]; omega
 ·simp [zj2]; omega
theorem zx3 (n:Bool) (h l:Int):RUN T zhq [bv n,uv h,uv l]=some ([.agg (wd ⟨n && (decide (0<h) || decide (0<l)),h,l⟩)],[]):=by
 refine zae rfl rfl ?_;cases n with
 | false=>simp [zup,zuq,wd]
 | true =>
  by_cases h1:0<h
  ·simp [zup,zuq,wd,h1]
  ·simp [zup,zuq,wd,h1]
theorem zut (w:Wd):RUN T zif [.agg (wd w)]=some ([bv (wok w)],[]):=by
 refine zae rfl rfl ?_;obtain ⟨n,h,l⟩:=w;unfold wok
 by_cases h1:h<9223372036854775808
 ·cases n with
  | false=>simp [zpb,ztr,h1]
  | true =>
   by_cases h2:0<h
   ·simp [zpb,ztr,h1,h2]
   ·simp [zpb,ztr,h1,h2]
 ·simp [zpb,ztr,h1]
theorem zuu (w:Wd):RUN T zig [.agg (wd w)]=some ([bv (wok w)],[]):=by
 refine zae rfl rfl ?_;obtain ⟨n,h,l⟩:=w;unfold wok
 by_cases h1:h<9223372036854775808
 ·cases n with
  | false=>simp [zpd,ztr,h1]
  | true =>
   by_cases h2:0<h
   ·simp [zpd,ztr,h1,h2]
   ·simp [zpd,ztr,h1,h2]
 ·simp [zpd,ztr,h1]
theorem zx4 (w:Wd):RUN T zkf [.agg (wd w)]=some ([bv (decide (w.h=0) && decide (w.l=0))],[]):=by
 refine zae rfl rfl ?_
 by_cases h1:w.h=0
 ·simp [zxw,ztr,h1]
 ·simp [zxw,ztr,h1]
def zcp (a b:Int):Int:=if a<b then -1 else if b<a then 1 else 0
theorem yl4 (x:Int):RUN T zor [uv x]=some ([bv false],[]):=by
 refine zae rfl rfl ?_;simp [z7m,ztr]
theorem yl5 (x y:Int):RUN T zoq [uv x,uv y]=some ([iv (zcp x y)],[]):=by
 refine zae rfl rfl ?_;have e1:=yl4 x;have e2:=yl4 y;unfold zcp
 by_cases h1:x<y
 ·simp [zur,zvz,e1,e2,h1]
 ·by_cases h2:y<x
  ·simp [zur,zvz,e1,e2,h1,h2]
  ·simp [zur,zvz,e1,e2,h1,h2]
theorem yl6 (x y:Int):RUN T zoj [.sl 1 [[iv x],[iv y]]]=some ([iv (if x=0 then y else x)],[]):=by
 refine zae rfl rfl ?_;simp [z6o,ztr];refine zao (fun n st => ∃ i:Nat,i+n=2/\(1<=i->x=0)/\(2<=i->y=0)/\st.V 3=iv 0/\st.V 6 = .sl 1 [[iv x],[iv y]]/\st.V 7=iv 2/\st.V 8=iv i) ?_ 2 _ ⟨0,by simp⟩;rintro n st ⟨i,hi,hx,hy,v3,v6,v7,v8⟩;simp [yf0,v7,v8];have h3:i=0\/i=1\/i=2:=by omega
 rcases h3 with rfl | rfl | rfl
 ·have hw:IntKind.i64.wrap 1=1:=w64 (by omega) (by omega)
  by_cases h:x=0
  ·simp [v3,v6,v8,h,hw];exact zai (n-1) (by omega) ⟨1,by omega,fun _=>h,by simp [v3,v6,h,v7]⟩
  ·simp [v3,v6,v8,h]
 ·have hx:=hx (by omega);have hw:IntKind.i64.wrap 2=2:=w64 (by omega) (by omega)
  by_cases h:y=0
  ·simp [v3,v6,v8,h,hx,hw];exact zai (n-1) (by omega) ⟨2,by omega,fun _=>hx,fun _=>h,by simp [v3,v6,h,hx,v7]⟩
  ·simp [v3,v6,v8,h,hx]
 ·have hx:=hx (by omega);have hy:=hy (by omega);simp [v3,hx,hy]
def zfb (a b:Wd):Int:=if zcp a.h b.h=0 then zcp a.l b.l else zcp a.h b.h
theorem ype {a b:Wd} (ha:wfU a) (hb:wfU b):zfb a b=zcp (mag a) (mag b):=by
 obtain ⟨_,_,_,_⟩:=ha;obtain ⟨_,_,_,_⟩:=hb;unfold zfb zcp mag;split <;> split <;> split <;> (try split) <;> (try split) <;> omega
theorem yav (a b:Wd):RUN T zmg [.agg (wd a),.agg (wd b)]=some ([iv (zfb a b)],[]):=by
 refine zae rfl rfl ?_;have e1:=yl5 a.h b.h;have e2:=yl5 a.l b.l;have e3:=yl6 (zcp a.h b.h) (zcp a.l b.l);simp [z64,zvz,e1,e2,e3,zfb]
theorem yaw (a b:Wd):RUN T zmh [.agg (wd a),.agg (wd b)]=some ([iv (zfb a b)],[]):=by
 refine zae rfl rfl ?_;unfold zfb zcp
 by_cases h1:a.h<b.h
 ·simp [zmt,zvz,h1]
 ·by_cases h2:b.h<a.h
  ·have h3 : ¬ a.h=b.h:=by omega
   simp [zmt,zvz,h1,h2,h3]
  ·have h3:a.h=b.h:=by omega
   by_cases h4:a.l<b.l
   ·simp [zmt,zvz,h3,h4]
   ·by_cases h5:b.l<a.l
    ·simp [zmt,zvz,h3,h4,h5]
    ·simp [zmt,zvz,h3,h4,h5]
def zex (a b:Int):Wd:=mkW (decide (a<0) != decide (b<0)) ((a.natAbs:Int)*b.natAbs)
theorem zk7 {a:Int} (h:inI a):0<=(a.natAbs:Int)/\(a.natAbs:Int)<=9223372036854775808:=by
 obtain ⟨h0,h1⟩:=h; omega
theorem ys4 {a b:Int} (ha:inI a) (hb:inI b):0<=(a.natAbs:Int)*b.natAbs/\(a.natAbs:Int)*b.natAbs<=85070591730234615865843651857942052864:=by
 obtain ⟨a0,a1⟩:=zk7 ha;obtain ⟨b0,b1⟩:=zk7 hb;exact ⟨Int.mul_nonneg a0 b0,Int.le_trans (Int.mul_le_mul a1 b1 b0 (by decide)) (by decide)⟩
theorem y71 (a b:Int) (ha:inI a) (hb:inI b):RUN T zto [iv a,iv b]=some ([.agg (wd (zex a b))],[]):=by
 refine zae rfl rfl ?_;obtain ⟨a0,a1⟩:=zk7 ha;obtain ⟨b0,b1⟩:=zk7 hb;have e1:=yat a ha;have e2:=yat b hb;have e3:=yar a.natAbs b.natAbs a0 (by omega) b0 (by omega);have e4:=zx3 (decide (a<0) != decide (b<0)) ((a.natAbs:Int)*b.natAbs / 18446744073709551616) ((a.natAbs:Int)*b.natAbs % 18446744073709551616);obtain ⟨m0,m1⟩:=ys4 ha hb;have e5:(⟨(decide (a<0) != decide (b<0)) && (decide (0<(a.natAbs:Int)*b.natAbs / 18446744073709551616) || decide (0<(a.natAbs:Int)*b.natAbs % 18446744073709551616)),(a.natAbs:Int)*b.natAbs / 18446744073709551616,(a.natAbs:Int)*b.natAbs % 18446744073709551616⟩:Wd)=zex a b:=by
  unfold zex mkW
  congr 2
  generalize (a.natAbs:Int)*b.natAbs=m at *;rw [Bool.eq_iff_iff]; simp; omega
 rw [e5] at e4;generalize zex a b=w at *;obtain ⟨wn,wh,wl⟩:=w;simp only [wd] at e4 ⊢
 by_cases sa:a<0 <;> by_cases sb:b<0 <;> simp [sa,sb] at e4 <;> simp [z7a,z7b,e1,e2,e3,sa,sb,e4]
theorem y72 (a b:Int) (ha:inI a) (hb:inI b):RUN T ztp [iv a,iv b]=some ([.agg (wd (zex a b))],[]):=by
 refine zae rfl rfl ?_;obtain ⟨a0,a1⟩:=zk7 ha;obtain ⟨b0,b1⟩:=zk7 hb;have e1:=yau a ha;have e2:=yau b hb;have e3:=yas a.natAbs b.natAbs a0 (by omega) b0 (by omega);have hpos:(0<(a.natAbs:Int)*b.natAbs)↔(a≠0/\b≠0):=by
  constructor
  ·intro h;refine ⟨?_,?_⟩ <;> rintro rfl <;> simp at h
  ·rintro ⟨h1,h2⟩;exact Int.mul_pos (by omega) (by omega)
 have e5:zex a b=⟨((decide (a<0) != decide (b<0)) && !decide (a=0)) && !decide (b=0),(a.natAbs:Int)*b.natAbs / 18446744073709551616,(a.natAbs:Int)*b.natAbs % 18446744073709551616⟩:=by
  unfold zex mkW
  congr 1
  rw [Bool.eq_iff_iff]; simp [hpos,and_assoc]
 rw [e5]
 by_cases sa:a<0 <;> by_cases sb:b<0 <;> rcases bL (a=0) with h0 | h0 <;> simp [z7g,z7b,e1,e2,e3,sa,sb,wd,h0]
def zfc (w:Wd):Int:=if w.n then -mag w else mag w
def zcu (a b:Wd):Wd×Bool :=
 if wok a && wok b then
  if ((zfc a+zfc b).natAbs:Int)<170141183460469231731687303715884105728 then (mkW (decide (zfc a+zfc b<0)) (zfc a+zfc b).natAbs,true) else (za8,false)
 else (za8,false)
theorem qgh (a b:Wd):wfU (zcu a b).1:=by
 unfold zcu;split
 ·split
  ·exact yb1 (by omega) (by omega)
  ·exact ⟨by decide,by decide,by decide,by decide⟩
 ·exact ⟨by decide,by decide,by decide,by decide⟩
theorem znc {w:Wd} (h:wfU w) (hk:wok w=true):0<=mag w/\mag w<170141183460469231731687303715884105728/\(w.n=true->0<mag w):=by
 obtain ⟨h0,h1,h2,h3⟩:=h;unfold wok at hk;simp only [Bool.and_eq_true,Bool.or_eq_true,Bool.not_eq_true',decide_eq_true_eq] at hk;unfold mag;obtain ⟨k1,k2⟩:=hk;refine ⟨by omega,by omega,fun hn => ?_⟩;rw [hn] at k2;rcases k2 with (k2 | k2) | k2
 ·cases k2
 ·omega
 ·omega
theorem qcs (a b:Wd) (ha:wfU a) (hb:wfU b) (h:mag a+mag b<340282366920938463463374607431768211456) : ∃ c d:Int,
  RUN T zkg [uv a.l,uv b.l,uv 0]=some ([uv ((mag a+mag b) % 18446744073709551616),uv c],[])/\RUN T zkg [uv a.h,uv b.h,uv c]=some ([uv ((mag a+mag b) / 18446744073709551616),uv d],[]):=by
 obtain ⟨a0,a1,a2,a3⟩:=ha;obtain ⟨b0,b1,b2,b3⟩:=hb;have e1:=ydh yah (x:=a.l) (y:=b.l) (c:=0) a2 b2 (by decide) (by decide);have e2:=ydh yah (x:=a.h) (y:=b.h) (c:=(a.l+b.l+0) / 18446744073709551616) a0 b0 (by omega) (by omega);have f1:(a.l+b.l+0) % 18446744073709551616=(mag a+mag b) % 18446744073709551616:=by unfold mag; omega
 have f2:(a.h+b.h+(a.l+b.l+0) / 18446744073709551616) % 18446744073709551616=(mag a+mag b) / 18446744073709551616:=by unfold mag at *; omega
 rw [f1] at e1;rw [f2] at e2;exact ⟨_,_,e1,e2⟩
theorem yrh (a b:Wd) (ha:wfU a) (hb:wfU b) (h:mag b<=mag a) : ∃ c d:Int,
  RUN T zmi [uv a.l,uv b.l,uv 0]=some ([uv ((mag a-mag b) % 18446744073709551616),uv c],[])/\RUN T zmi [uv a.h,uv b.h,uv c]=some ([uv ((mag a-mag b) / 18446744073709551616),uv d],[]):=by
 obtain ⟨a0,a1,a2,a3⟩:=ha;obtain ⟨b0,b1,b2,b3⟩:=hb;have e1:=ys5 ylf (x:=a.l) (y:=b.l) (c:=0) a2 b2 a3 b3 (by decide) (by decide);have e2:=ys5 ylf (x:=a.h) (y:=b.h) (c:=if a.l<b.l+0 then 1 else 0) a0 b0 a1 b1 (by split <;> omega) (by split <;> omega);have f1:(a.l-b.l-0) % 18446744073709551616=(mag a-mag b) % 18446744073709551616:=by unfold mag; omega
 have f2:(a.h-b.h-(if a.l<b.l+0 then 1 else 0)) % 18446744073709551616=(mag a-mag b) / 18446744073709551616:=by
  unfold mag at *;split <;> omega
 rw [f1] at e1;rw [f2] at e2;exact ⟨_,_,e1,e2⟩
theorem yba {n:Bool} {m:Int} (h:0<=m):RUN T zhq [bv n,uv (m / 18446744073709551616),uv (m % 18446744073709551616)]=some ([.agg (wd (mkW n m))],[]):=by
 rw [zx3];have:(⟨n && (decide (0<m / 18446744073709551616) || decide (0<m % 18446744073709551616)),m / 18446744073709551616,m % 18446744073709551616⟩:Wd)=mkW n m:=by
  unfold mkW
  congr 2
  rw [Bool.eq_iff_iff]; simp; omega
 rw [this]
theorem y73 (a b:Wd) (ha:wfU a) (hb:wfU b):RUN T ztl [.agg (wd a),.agg (wd b)]=some ([.agg (wd (zcu a b).1),bv (zcu a b).2],[]):=by
 refine zae rfl rfl ?_;have ea:=zut a;have eb:=zut b;cases ka:wok a with
 | false =>
  have es:zcu a b=(za8,false):=by unfold zcu; simp [ka]
  rw [es]; rw [ka] at ea;simp only [wd] at ea;simp [zkx,zky,wd,ea,za8]
 | true =>
  cases kb:wok b with
  | false =>
   have es:zcu a b=(za8,false):=by unfold zcu; simp [kb]
   rw [es]; rw [ka] at ea; rw [kb] at eb;simp only [wd] at ea eb;simp [zkx,zky,wd,ea,eb,za8]
  | true =>
   obtain ⟨ma0,ma1,ma2⟩:=znc ha ka;obtain ⟨mb0,mb1,mb2⟩:=znc hb kb;rw [ka] at ea; rw [kb] at eb
   by_cases hn:a.n=b.n
   ·obtain ⟨c,d,f1,f2⟩:=qcs a b ha hb (by omega);have f3:=yba (n:=a.n) (m:=mag a+mag b) (by omega);have f4:=zut (mkW a.n (mag a+mag b));rw [ycw (by omega)] at f4;have es:zcu a b=if mag a+mag b<170141183460469231731687303715884105728 then (mkW a.n (mag a+mag b),true) else (za8,false):=by
     unfold zcu zfc;rw [ka,kb,<- hn];simp only [Bool.and_self,if_true];cases h:a.n with
     | true =>
      have e1:(-mag a + -mag b).natAbs=mag a+mag b:=by omega
      have e2 : -mag a + -mag b<0:=by have:=ma2 h; omega
      simp only [if_true,e1,decide_eq_true e2]
     | false =>
      have e1:((mag a+mag b).natAbs:Int)=mag a+mag b:=by omega
      have e2 : ¬ mag a+mag b<0:=by omega
      simp only [Bool.false_eq_true,if_false,e1,decide_eq_false e2]
    rw [es];generalize hm:mag a+mag b=m at *;generalize mkW a.n m=w at *;generalize m / 18446744073709551616=hi at *;generalize m % 18446744073709551616=lo at *;simp only [wd] at ea eb f3 f4 ⊢;rw [hn] at ea f3
    by_cases hk:m<170141183460469231731687303715884105728
    ·rw [decide_eq_true hk] at f4;rw [if_pos hk];simp [zkx,zky,ea,eb,hn,f1,f2,f3,f4]
    ·rw [decide_eq_false hk] at f4;rw [if_neg hk];simp [zkx,zky,ea,eb,hn,f1,f2,f3,f4,za8]
   ·have ho:=yav a b;rw [ype ha hb] at ho;have es:zcu a b=(mkW (if mag a<mag b then b.n else a.n) (if mag a<mag b then mag b-mag a else mag a-mag b),true):=by
     have gen : ∀ (n:Bool) (m:Int),((zfc a+zfc b).natAbs:Int)=m->m<170141183460469231731687303715884105728->(decide (zfc a+zfc b<0) && decide (0<m))=(n && decide (0<m))->zcu a b=(mkW n m,true):=by
      intro n m h1 h2 h3;unfold zcu;rw [ka,kb,h1];simp only [Bool.and_self,if_true,if_pos h2];unfold mkW;rw [h3]
     unfold zfc at gen;cases h:a.n <;> cases h':b.n <;> simp only [h,h'] at gen hn ⊢
     ·exact (hn trivial).elim
     ·by_cases hl:mag a<mag b
      ·rw [if_pos hl,if_pos hl];exact gen _ _ (by simp; omega) (by omega) (by rw [Bool.eq_iff_iff]; simp; omega)
      ·rw [if_neg hl,if_neg hl];exact gen _ _ (by simp; omega) (by omega) (by rw [Bool.eq_iff_iff]; simp; omega)
     ·by_cases hl:mag a<mag b
      ·rw [if_pos hl,if_pos hl];exact gen _ _ (by simp; omega) (by omega) (by rw [Bool.eq_iff_iff]; simp; omega)
      ·rw [if_neg hl,if_neg hl];exact gen _ _ (by simp; omega) (by omega) (by rw [Bool.eq_iff_iff]; simp; omega)
     ·exact (hn trivial).elim
    rw [es];have hnb:(a.n == b.n)=false:=by cases h:a.n <;> cases h':b.n <;> simp [h,h'] at hn ⊢
    by_cases hl:mag a<mag b
    ·obtain ⟨c,d,f1,f2⟩:=yrh b a hb ha (by omega);have f3:=yba (n:=b.n) (m:=mag b-mag a) (by omega);have hs:zcp (mag a) (mag b) = -1:=by unfold zcp; rw [if_pos hl]
     rw [hs] at ho;rw [if_pos hl,if_pos hl];generalize mag b-mag a=m at *;generalize mkW b.n m=w at *;generalize m / 18446744073709551616=hi at *;generalize m % 18446744073709551616=lo at *;simp only [wd] at ea eb f3 ho ⊢;simp [zkx,zky,ea,eb,hnb,ho,f1,f2,f3]
    ·obtain ⟨c,d,f1,f2⟩:=yrh a b ha hb (by omega);have f3:=yba (n:=a.n) (m:=mag a-mag b) (by omega);have hs : ¬ zcp (mag a) (mag b)<0:=by unfold zcp; rw [if_neg hl]; split <;> omega
     rw [if_neg hl,if_neg hl];generalize mag a-mag b=m at *;generalize mkW a.n m=w at *;generalize m / 18446744073709551616=hi at *;generalize m % 18446744073709551616=lo at *;generalize zcp (mag a) (mag b)=sg at *;simp only [wd] at ea eb f3 ho ⊢;simp [zkx,zky,ea,eb,hnb,ho,hs,f1,f2,f3]
theorem qg9 {a b:Wd} (ha:wfU a) (hb:wfU b) (ka:wok a=true) (kb:wok b=true) (hn:a.n=b.n):zcu a b=if mag a+mag b<170141183460469231731687303715884105728 then (mkW a.n (mag a+mag b),true) else (za8,false):=by
 obtain ⟨ma0,ma1,ma2⟩:=znc ha ka;obtain ⟨mb0,mb1,mb2⟩:=znc hb kb;unfold zcu zfc;rw [ka,kb,<- hn];simp only [Bool.and_self,if_true];cases h:a.n with
 | true =>
  have e1:(-mag a + -mag b).natAbs=mag a+mag b:=by omega
  have e2 : -mag a + -mag b<0:=by have:=ma2 h; omega
  simp only [if_true,e1,decide_eq_true e2]
 | false =>
  have e1:((mag a+mag b).natAbs:Int)=mag a+mag b:=by omega
  have e2 : ¬ mag a+mag b<0:=by omega
  simp only [Bool.false_eq_true,if_false,e1,decide_eq_false e2]
theorem qcm {a b:Wd} (ha:wfU a) (hb:wfU b) (ka:wok a=true) (kb:wok b=true) (hn : ¬ a.n=b.n):zcu a b=(mkW (if mag a<mag b then b.n else a.n) (if mag a<mag b then mag b-mag a else mag a-mag b),true):=by
 obtain ⟨ma0,ma1,ma2⟩:=znc ha ka;obtain ⟨mb0,mb1,mb2⟩:=znc hb kb;have gen : ∀ (n:Bool) (m:Int),((zfc a+zfc b).natAbs:Int)=m->m<170141183460469231731687303715884105728->(decide (zfc a+zfc b<0) && decide (0<m))=(n && decide (0<m))->zcu a b=(mkW n m,true):=by
  intro n m h1 h2 h3;unfold zcu;rw [ka,kb,h1];simp only [Bool.and_self,if_true,if_pos h2];unfold mkW;rw [h3]
 unfold zfc at gen;cases h:a.n <;> cases h':b.n <;> simp only [h,h'] at gen hn ⊢
 ·exact (hn trivial).elim
 ·by_cases hl:mag a<mag b
  ·rw [if_pos hl,if_pos hl];exact gen _ _ (by simp; omega) (by omega) (by rw [Bool.eq_iff_iff]; simp; omega)
  ·rw [if_neg hl,if_neg hl];exact gen _ _ (by simp; omega) (by omega) (by rw [Bool.eq_iff_iff]; simp; omega)
 ·by_cases hl:mag a<mag b
  ·rw [if_pos hl,if_pos hl];exact gen _ _ (by simp; omega) (by omega) (by rw [Bool.eq_iff_iff]; simp; omega)
  ·rw [if_neg hl,if_neg hl];exact gen _ _ (by simp; omega) (by omega) (by rw [Bool.eq_iff_iff]; simp; omega)
 ·exact (hn trivial).elim
theorem qis (a b:Wd) (ha:wfU a) (hb:wfU b) (h:mag a+mag b<340282366920938463463374607431768211456) :
  IntKind.u64.wrap (a.l+b.l)=(mag a+mag b) % 18446744073709551616/\((mag a+mag b) % 18446744073709551616<a.l->IntKind.u64.wrap (IntKind.u64.wrap (a.h+b.h)+1)=(mag a+mag b) / 18446744073709551616)/\(¬ (mag a+mag b) % 18446744073709551616<a.l->IntKind.u64.wrap (a.h+b.h)=(mag a+mag b) / 18446744073709551616):=by
 obtain ⟨a0,a1,a2,a3⟩:=ha;obtain ⟨b0,b1,b2,b3⟩:=hb;unfold mag at *;refine ⟨?_,fun h => ?_,fun h => ?_⟩ <;> simp only [zj2] at * <;> omega
theorem yq5 (a b:Wd) (ha:wfU a) (hb:wfU b) (h:mag b<=mag a) :
  IntKind.u64.wrap (a.l-b.l)=(mag a-mag b) % 18446744073709551616/\(a.l<b.l->IntKind.u64.wrap (IntKind.u64.wrap (a.h-b.h)-1)=(mag a-mag b) / 18446744073709551616)/\(¬ a.l<b.l->IntKind.u64.wrap (a.h-b.h)=(mag a-mag b) / 18446744073709551616):=by
 obtain ⟨a0,a1,a2,a3⟩:=ha;obtain ⟨b0,b1,b2,b3⟩:=hb;unfold mag at *;refine ⟨?_,fun h => ?_,fun h => ?_⟩ <;> simp only [zj2] at * <;> omega
theorem y74 (a b:Wd) (ha:wfU a) (hb:wfU b):RUN T ztn [.agg (wd a),.agg (wd b)]=some ([.agg (wd (zcu a b).1),bv (zcu a b).2],[]):=by
 refine zae rfl rfl ?_;have ea:=zuu a;have eb:=zuu b;cases ka:wok a with
 | false =>
  have es:zcu a b=(za8,false):=by unfold zcu; simp [ka]
  rw [es]; rw [ka] at ea;simp only [wd] at ea;simp [zf9,zky,wd,ea,za8]
 | true =>
  cases kb:wok b with
  | false =>
   have es:zcu a b=(za8,false):=by unfold zcu; simp [kb]
   rw [es]; rw [ka] at ea; rw [kb] at eb;simp only [wd] at ea eb;simp [zf9,zky,wd,ea,eb,za8]
  | true =>
   obtain ⟨ma0,ma1,ma2⟩:=znc ha ka;obtain ⟨mb0,mb1,mb2⟩:=znc hb kb;rw [ka] at ea; rw [kb] at eb
   by_cases hn:a.n=b.n
   ·obtain ⟨f1,f2,f3⟩:=qis a b ha hb (by omega);have f4:=zuu (mkW a.n (mag a+mag b));rw [ycw (by omega)] at f4;rw [qg9 ha hb ka kb hn];have e6:mkW a.n (mag a+mag b)=⟨a.n,(mag a+mag b) / 18446744073709551616,(mag a+mag b) % 18446744073709551616⟩:=by
     unfold mkW
     congr 1
     cases h:a.n with
     | false=>rfl
     | true=>have:=ma2 h; simp; omega
    rw [e6] at f4 ⊢;generalize hm:mag a+mag b=m at *;generalize m / 18446744073709551616=hi at *;generalize m % 18446744073709551616=lo at *;simp only [wd] at ea eb f4 ⊢;rw [hn] at ea f4
    by_cases hc:lo<a.l
    ·have f2:=f2 hc
     by_cases hk:m<170141183460469231731687303715884105728
     ·rw [decide_eq_true hk] at f4;rw [if_pos hk];simp [zf9,zky,ea,eb,hn,hc,f1,f2,f4]
     ·rw [decide_eq_false hk] at f4;rw [if_neg hk];simp [zf9,zky,ea,eb,hn,hc,f1,f2,f4,za8]
    ·have f3:=f3 hc
     by_cases hk:m<170141183460469231731687303715884105728
     ·rw [decide_eq_true hk] at f4;rw [if_pos hk];simp [zf9,zky,ea,eb,hn,hc,f1,f3,f4]
     ·rw [decide_eq_false hk] at f4;rw [if_neg hk];simp [zf9,zky,ea,eb,hn,hc,f1,f3,f4,za8]
   ·have ho:=yaw a b;rw [ype ha hb] at ho;rw [qcm ha hb ka kb hn];have hnb:(a.n == b.n)=false:=by cases h:a.n <;> cases h':b.n <;> simp [h,h'] at hn ⊢
    by_cases hl:mag a<mag b
    ·obtain ⟨f1,f2,f3⟩:=yq5 b a hb ha (by omega);have hz:=zx4 ⟨b.n,(mag b-mag a) / 18446744073709551616,(mag b-mag a) % 18446744073709551616⟩;have hs:zcp (mag a) (mag b) = -1:=by unfold zcp; rw [if_pos hl]
     rw [hs] at ho;rw [if_pos hl,if_pos hl];have e6:mkW b.n (mag b-mag a)=⟨b.n,(mag b-mag a) / 18446744073709551616,(mag b-mag a) % 18446744073709551616⟩:=by
      unfold mkW
      congr 1
      rw [decide_eq_true (show 0<mag b-mag a by omega),Bool.and_true]
     have e7:(decide ((mag b-mag a) / 18446744073709551616=0) && decide ((mag b-mag a) % 18446744073709551616=0))=false:=by
      rw [Bool.eq_false_iff]; simp; omega
     simp only at hz;rw [e7] at hz;rw [e6];clear e6 e7;generalize mag b-mag a=m at *;generalize m / 18446744073709551616=hi at *;generalize m % 18446744073709551616=lo at *;simp only [wd] at ea eb ho hz ⊢
     by_cases hc:b.l<a.l
     ·have f2:=f2 hc;simp [zf9,zky,ea,eb,hnb,ho,hc,f1,f2,hz]
     ·have f3:=f3 hc;simp [zf9,zky,ea,eb,hnb,ho,hc,f1,f3,hz]
    ·obtain ⟨f1,f2,f3⟩:=yq5 a b ha hb (by omega);have hz:=zx4 ⟨a.n,(mag a-mag b) / 18446744073709551616,(mag a-mag b) % 18446744073709551616⟩;have hs : ¬ zcp (mag a) (mag b)<0:=by unfold zcp; rw [if_neg hl]; split <;> omega
     rw [if_neg hl,if_neg hl];generalize zcp (mag a) (mag b)=sg at *
     by_cases h0:mag a-mag b=0
     ·have e6:mkW a.n (mag a-mag b)=⟨false,(mag a-mag b) / 18446744073709551616,(mag a-mag b) % 18446744073709551616⟩:=by
       unfold mkW
       congr 1
       simp [h0]
      have e7:(decide ((mag a-mag b) / 18446744073709551616=0) && decide ((mag a-mag b) % 18446744073709551616=0))=true:=by
       simp; omega
      simp only at hz;rw [e7] at hz;rw [e6];clear e6 e7 h0;generalize mag a-mag b=m at *;generalize m / 18446744073709551616=hi at *;generalize m % 18446744073709551616=lo at *;simp only [wd] at ea eb ho hz ⊢
      by_cases hc:a.l<b.l
      ·have f2:=f2 hc;simp [zf9,zky,ea,eb,hnb,ho,hs,hc,f1,f2,hz]
      ·have f3:=f3 hc;simp [zf9,zky,ea,eb,hnb,ho,hs,hc,f1,f3,hz]
     ·have e6:mkW a.n (mag a-mag b)=⟨a.n,(mag a-mag b) / 18446744073709551616,(mag a-mag b) % 18446744073709551616⟩:=by
       unfold mkW
       congr 1
       rw [decide_eq_true (show 0<mag a-mag b by omega),Bool.and_true]
      have e7:(decide ((mag a-mag b) / 18446744073709551616=0) && decide ((mag a-mag b) % 18446744073709551616=0))=false:=by
       rw [Bool.eq_false_iff]; simp; omega
      simp only at hz;rw [e7] at hz;rw [e6];clear e6 e7 h0;generalize mag a-mag b=m at *;generalize m / 18446744073709551616=hi at *;generalize m % 18446744073709551616=lo at *;simp only [wd] at ea eb ho hz ⊢
      by_cases hc:a.l<b.l
      ·have f2:=f2 hc;simp [zf9,zky,ea,eb,hnb,ho,hs,hc,f1,f2,hz]
      ·have f3:=f3 hc;simp [zf9,zky,ea,eb,hnb,ho,hs,hc,f1,f3,hz]
theorem qde {a b:Int} (ha:inI a) (hb:inI b):wfU (zex a b):=by
 obtain ⟨m0,m1⟩:=ys4 ha hb;exact yb1 m0 (by omega)
theorem qbu {l:List Int} {i:Nat} {x:Int} (h:l[i]?=some x):l.drop i=x::l.drop (i+1):=by
 have hlt:i<l.length:=by
  rcases Nat.lt_or_ge i l.length with h' | h'
  ·exact h'
  ·rw [List.getElem?_eq_none (by omega)] at h; cases h
 rw [List.drop_eq_getElem_cons hlt]
 congr 1
 rw [bG hlt] at h;exact Option.some.inj h
def zdl (w:Wd) (k:Int):Wd×Bool:=if wok w=true/\mag w*k.natAbs<170141183460469231731687303715884105728 then (mkW (w.n != decide (k<0)) (mag w*k.natAbs),true) else (za8,false)
theorem ypk (w:Wd) (k:Int) (hw:wfU w) (hk:inI k) : ∃ p q:Int,w.h*k.natAbs=p/\w.l*k.natAbs=q/\0<=p/\0<=q/\q<=170141183460469231722463931679029329920/\mag w*k.natAbs=p*18446744073709551616+q:=by
 obtain ⟨a0,a1,a2,a3⟩:=hw;obtain ⟨k0,k1⟩:=zk7 hk;refine ⟨_,_,rfl,rfl,Int.mul_nonneg a0 k0,Int.mul_nonneg a2 k0,Int.le_trans (Int.mul_le_mul (show w.l<=18446744073709551615 by omega) k1 k0 (by decide)) (by decide),?_⟩;unfold mag;rw [Int.add_mul,Int.mul_assoc,Int.mul_comm 18446744073709551616,<- Int.mul_assoc]
theorem yoe (w:Wd) (k:Int) (ka:wok w=true) (p q:Int) (p0:0<=p) (q0:0<=q) (q1:q<=170141183460469231722463931679029329920) (hP:mag w*k.natAbs=p*18446744073709551616+q) :
  (zdl w k=(za8,false)/\(0<p / 18446744073709551616\/0<(p % 18446744073709551616+q / 18446744073709551616) / 18446744073709551616\/wok ⟨(w.n != decide (k<0)) && (decide (0<(p % 18446744073709551616+q / 18446744073709551616) % 18446744073709551616) || decide (0<q % 18446744073709551616)),(p % 18446744073709551616+q / 18446744073709551616) % 18446744073709551616,q % 18446744073709551616⟩=false)) \/
  (zdl w k=(⟨(w.n != decide (k<0)) && (decide (0<(p % 18446744073709551616+q / 18446744073709551616) % 18446744073709551616) || decide (0<q % 18446744073709551616)),(p % 18446744073709551616+q / 18446744073709551616) % 18446744073709551616,q % 18446744073709551616⟩,true)/\¬ 0<p / 18446744073709551616/\¬ 0<(p % 18446744073709551616+q / 18446744073709551616) / 18446744073709551616/\wok ⟨(w.n != decide (k<0)) && (decide (0<(p % 18446744073709551616+q / 18446744073709551616) % 18446744073709551616) || decide (0<q % 18446744073709551616)),(p % 18446744073709551616+q / 18446744073709551616) % 18446744073709551616,q % 18446744073709551616⟩=true):=by
 by_cases hk:p*18446744073709551616+q<170141183460469231731687303715884105728
 ·right;have e:(⟨(w.n != decide (k<0)) && (decide (0<(p % 18446744073709551616+q / 18446744073709551616) % 18446744073709551616) || decide (0<q % 18446744073709551616)),(p % 18446744073709551616+q / 18446744073709551616) % 18446744073709551616,q % 18446744073709551616⟩:Wd)=mkW (w.n != decide (k<0)) (p*18446744073709551616+q):=by
   unfold mkW
   congr 1
   ·congr 1
    rw [Bool.eq_iff_iff]; simp; omega
   ·omega
   ·omega
  rw [e,ycw (by omega)];refine ⟨?_,by omega,by omega,decide_eq_true hk⟩;unfold zdl;rw [hP,if_pos ⟨ka,hk⟩]
 ·left;refine ⟨?_,?_⟩
  ·unfold zdl;rw [hP,if_neg (fun h=>hk h.2)]
  ·by_cases h1:0<p / 18446744073709551616
   ·exact .inl h1
   ·by_cases h2:0<(p % 18446744073709551616+q / 18446744073709551616) / 18446744073709551616
    ·exact .inr (.inl h2)
    ·refine .inr (.inr ?_);unfold wok;rw [decide_eq_false (show ¬ (p % 18446744073709551616+q / 18446744073709551616) % 18446744073709551616<9223372036854775808 by omega)];rfl
theorem yl7 (w:Wd) (k:Int) (hw:wfU w) (hk:inI k):RUN T zoo [.agg (wd w),iv k]=some ([.agg (wd (zdl w k).1),bv (zdl w k).2],[]):=by
 refine zae rfl rfl ?_;have ea:=zut w;cases ka:wok w with
 | false =>
  have es:zdl w k=(za8,false):=by unfold zdl; simp [ka]
  rw [es]; rw [ka] at ea;simp only [wd] at ea;simp [zil,zky,wd,ea,za8]
 | true =>
  rw [ka] at ea;obtain ⟨a0,a1,a2,a3⟩:=hw;obtain ⟨k0,k1⟩:=zk7 hk;have e1:=yat k hk;have e2:=yar w.h k.natAbs a0 a1 k0 (by omega);have e3:=yar w.l k.natAbs a2 a3 k0 (by omega);obtain ⟨p,q,hp,hq,p0,q0,q1,hP⟩:=ypk w k ⟨a0,a1,a2,a3⟩ hk;rw [hp] at e2;rw [hq] at e3;have e4:=ydh yah (x:=p % 18446744073709551616) (y:=q / 18446744073709551616) (c:=0) (by omega) (by omega) (by decide) (by decide);rw [Int.add_zero] at e4;have e5:=zx3 (w.n != decide (k<0)) ((p % 18446744073709551616+q / 18446744073709551616) % 18446744073709551616) (q % 18446744073709551616);have e6:=zut ⟨(w.n != decide (k<0)) && (decide (0<(p % 18446744073709551616+q / 18446744073709551616) % 18446744073709551616) || decide (0<q % 18446744073709551616)),(p % 18446744073709551616+q / 18446744073709551616) % 18446744073709551616,q % 18446744073709551616⟩;have key:=yoe w k ka p q p0 q0 q1 hP;generalize ((w.n != decide (k<0)) && (decide (0<(p % 18446744073709551616+q / 18446744073709551616) % 18446744073709551616) || decide (0<q % 18446744073709551616)))=sn at *;generalize p / 18446744073709551616=P1 at *;generalize p % 18446744073709551616=P2 at *;generalize q / 18446744073709551616=Q1 at *;generalize q % 18446744073709551616=Q2 at *;generalize (P2+Q1) / 18446744073709551616=S1 at *;generalize (P2+Q1) % 18446744073709551616=S2 at *;generalize zdl w k=r at *;generalize wok ⟨sn,S2,Q2⟩=o at *;obtain ⟨wn,wh,wl⟩:=w;simp only [wd] at ea e5 e6 ⊢;simp only at e2 e3;rcases key with ⟨rfl,c | c | rfl⟩ | ⟨rfl,c1,c2,rfl⟩
  ·cases wn <;> by_cases sb:k<0 <;> simp [sb] at e5 <;> simp [zil,zky,ea,e1,e2,e3,e4,e5,sb,c,za8]
  ·by_cases c':0<P1
   ·cases wn <;> by_cases sb:k<0 <;> simp [sb] at e5 <;> simp [zil,zky,ea,e1,e2,e3,e4,e5,sb,c',za8]
   ·cases wn <;> by_cases sb:k<0 <;> simp [sb] at e5 <;> simp [zil,zky,ea,e1,e2,e3,e4,e5,sb,c',c,za8]
  ·by_cases c':0<P1
   ·cases wn <;> by_cases sb:k<0 <;> simp [sb] at e5 <;> simp [zil,zky,ea,e1,e2,e3,e4,e5,sb,c',za8]
   ·by_cases c:0<S1
    ·cases wn <;> by_cases sb:k<0 <;> simp [sb] at e5 <;> simp [zil,zky,ea,e1,e2,e3,e4,e5,sb,c',c,za8]
    ·cases wn <;> by_cases sb:k<0 <;> simp [sb] at e5 <;> simp [zil,zky,ea,e1,e2,e3,e4,e5,e6,sb,c',c,za8]
  ·cases wn <;> by_cases sb:k<0 <;> simp [sb] at e5 <;> simp [zil,zky,ea,e1,e2,e3,e4,e5,e6,sb,c1,c2]
theorem yl8 (w:Wd) (k:Int) (hw:wfU w) (hk:inI k):RUN T zop [.agg (wd w),iv k]=some ([.agg (wd (zdl w k).1),bv (zdl w k).2],[]):=by
 refine zae rfl rfl ?_;have ea:=zuu w;cases ka:wok w with
 | false =>
  have es:zdl w k=(za8,false):=by unfold zdl; simp [ka]
  rw [es]; rw [ka] at ea;simp only [wd] at ea;simp [zio,zky,wd,ea,za8]
 | true =>
  rw [ka] at ea;obtain ⟨a0,a1,a2,a3⟩:=hw;obtain ⟨k0,k1⟩:=zk7 hk;have e1:=yau k hk;have e2:=yas w.h k.natAbs a0 a1 k0 (by omega);have e3:=yas w.l k.natAbs a2 a3 k0 (by omega);obtain ⟨p,q,hp,hq,p0,q0,q1,hP⟩:=ypk w k ⟨a0,a1,a2,a3⟩ hk;rw [hp] at e2;rw [hq] at e3;have e4:=zx4 ⟨w.n != decide (k<0),(p % 18446744073709551616+q / 18446744073709551616) % 18446744073709551616,q % 18446744073709551616⟩;have e5:(decide (0<(p % 18446744073709551616+q / 18446744073709551616) % 18446744073709551616) || decide (0<q % 18446744073709551616)) = !(decide ((p % 18446744073709551616+q / 18446744073709551616) % 18446744073709551616=0) && decide (q % 18446744073709551616=0)):=by
   rw [Bool.eq_iff_iff]; simp; omega
  have e6:=zuu ⟨(w.n != decide (k<0)) && (decide (0<(p % 18446744073709551616+q / 18446744073709551616) % 18446744073709551616) || decide (0<q % 18446744073709551616)),(p % 18446744073709551616+q / 18446744073709551616) % 18446744073709551616,q % 18446744073709551616⟩;have e7:0<(p % 18446744073709551616+q / 18446744073709551616) / 18446744073709551616↔(p % 18446744073709551616+q / 18446744073709551616) % 18446744073709551616<p % 18446744073709551616:=by omega
  have e8:=zj2 (p % 18446744073709551616+q / 18446744073709551616);have key:=yoe w k ka p q p0 q0 q1 hP;rw [e7] at key;rw [e5] at key e6;clear e7 e5;simp only at e4;generalize (decide ((p % 18446744073709551616+q / 18446744073709551616) % 18446744073709551616=0) && decide (q % 18446744073709551616=0))=z at *;generalize p / 18446744073709551616=P1 at *;generalize p % 18446744073709551616=P2 at *;generalize q / 18446744073709551616=Q1 at *;generalize q % 18446744073709551616=Q2 at *;generalize (P2+Q1) % 18446744073709551616=S2 at *;generalize zdl w k=r at *;generalize hsn:((w.n != decide (k<0)) && !z)=sn at *;generalize wok ⟨sn,S2,Q2⟩=o at *;obtain ⟨wn,wh,wl⟩:=w;simp only [wd] at ea e4 e6 ⊢;simp only at e2 e3 hsn;rcases key with ⟨rfl,c | c | rfl⟩ | ⟨rfl,c1,c2,rfl⟩
  ·cases wn <;> by_cases sb:k<0 <;> cases z <;> simp [sb] at e4 <;> simp [zio,zky,ea,e1,e2,e3,e4,e8,sb,c,za8]
  ·by_cases c':0<P1
   ·cases wn <;> by_cases sb:k<0 <;> cases z <;> simp [sb] at e4 <;> simp [zio,zky,ea,e1,e2,e3,e4,e8,sb,c',za8]
   ·cases wn <;> by_cases sb:k<0 <;> cases z <;> simp [sb] at e4 <;> simp [zio,zky,ea,e1,e2,e3,e4,e8,sb,c',c,za8]
  ·by_cases c':0<P1
   ·cases wn <;> by_cases sb:k<0 <;> cases z <;> simp [sb] at e4 <;> simp [zio,zky,ea,e1,e2,e3,e4,e8,sb,c',za8]
   ·by_cases c:S2<P2
    ·cases wn <;> by_cases sb:k<0 <;> cases z <;> simp [sb] at e4 <;> simp [zio,zky,ea,e1,e2,e3,e4,e8,sb,c',c,za8]
    ·cases wn <;> by_cases sb:k<0 <;> cases z <;> simp [sb] at e4 hsn <;> subst hsn <;> simp [zio,zky,ea,e1,e2,e3,e4,e6,e8,sb,c',c,za8]
  ·cases wn <;> by_cases sb:k<0 <;> cases z <;> simp [sb] at e4 hsn <;> subst hsn <;> simp [zio,zky,ea,e1,e2,e3,e4,e6,e8,sb,c1,c2]
def zfl (w:Wd):Bool:=w.n && !(decide (w.h=0) && decide (w.l=0))
def zk3 (a b:Wd):Int:=if zfl a=true then (if zfl b=true then zfb b a else -1) else (if zfl b=true then 1 else zfb a b)
theorem y75 (a b:Wd):RUN T ztj [.agg (wd a),.agg (wd b)]=some ([iv (zk3 a b)],[]):=by
 refine zae rfl rfl ?_;have e1:=zx4 a;have e2:=zx4 b;have e3:=yaw a b;have e4:=yaw b a;unfold zk3 zfl;generalize zfb a b=x at *;generalize zfb b a=y at *;generalize (decide (a.h=0) && decide (a.l=0))=z at *;generalize (decide (b.h=0) && decide (b.l=0))=z' at *;obtain ⟨an,ah,al⟩:=a;obtain ⟨bn,bh,bl⟩:=b;simp only [wd] at e1 e2 e3 e4 ⊢;cases an <;> cases bn <;> cases z <;> cases z' <;> simp [z6u,zvz,e1,e2,e3,e4]
theorem yc1 : ∀ (M:Nat) (q:List Int),q.Nodup->(∀ y∈q,0<=y/\y<M)->q.length<=M
 | 0,q,_,h=>by
  cases q with
  | nil=>simp
  | cons x q=>have:=h x (by simp); omega
 | M+1,q,hn,h=>by
  by_cases hm:(M:Int)∈q
  ·have h1:=yc1 M (q.erase M) (hn.erase _) (fun y hy=>by
    obtain ⟨h1,h2⟩:=(List.Nodup.mem_erase_iff hn).mp hy;have:=h y h2;omega)
   rw [List.length_erase_of_mem hm] at h1;omega
  ·exact bJ (yc1 M q hn (fun y hy=>by
    have:=h y hy;have:y≠M:=fun e=>hm (e ▸ hy);omega)) (by omega)
def yeo (u:List Nd):Prop := ∀ (j:Nat) (n:Nd),u[j]?=some n->n.f ≠ -1->1<=n.l/\n.l<u.length/\1<=n.r/\n.r<u.length/\n.l≠n.r/\∀ (j':Nat) (n':Nd),u[j']?=some n'->n'.f ≠ -1->(n.l=n'.l\/n.l=n'.r\/n.r=n'.l\/n.r=n'.r)->j=j'
structure QI (u:List Nd) (q:List Int) (i:Nat):Prop where
 nd:q.Nodup
 rg : ∀ y∈q,0<=y/\y<u.length
 up : ∀ y∈q,y=0\/∃ z∈q.take i,∃ n,u[z.toNat]?=some n/\n.f ≠ -1/\(y=n.l\/y=n.r)
theorem QI.skip {u:List Nd} {q:List Int} {i:Nat} (h:QI u q i):QI u q (i+1) :=
 ⟨h.nd,h.rg,fun y hy=>by
  rcases h.up y hy with h1 | ⟨z,hz,n,h2⟩
  ·exact .inl h1
  ·exact .inr ⟨z,(List.take_subset_take_left q (Nat.le_succ i)) hz,n,h2⟩⟩
theorem QI.step {u:List Nd} (hg:yeo u) {q:List Int} {i:Nat} (h:QI u q i) {z:Int} (hz:q[i]?=some z) {n:Nd} (hn:u[z.toNat]?=some n) (hf:n.f ≠ -1):QI u (q++[n.l,n.r]) (i+1):=by
 obtain ⟨g1,g2,g3,g4,g5,g6⟩:=hg _ _ hn hf;have hlt:i<q.length:=by
  rcases Nat.lt_or_ge i q.length with h' | h'
  ·exact h'
  ·rw [List.getElem?_eq_none (by omega)] at hz; cases hz
 have hzr:=h.rg z (bF hz);have hno:z ∉ q.take i:=by
  intro hm;have hd:=h.nd;rw [<- List.take_append_drop i q,qbu hz,List.nodup_append] at hd;exact hd.2.2 z hm z (by simp) rfl
 have key : ∀ y∈q,(y=n.l\/y=n.r)->False:=by
  intro y hy hc;rcases h.up y hy with h1 | ⟨z',hz',n',h2,h3,h4⟩
  ·omega
  ·have:=g6 _ _ h2 h3 (by rcases hc with c | c <;> rcases h4 with d | d <;> omega);have hz'r:=h.rg z' (List.mem_of_mem_take hz');have:z=z':=by omega
   exact hno (this ▸ hz')
 refine ⟨?_,?_,?_⟩
 ·rw [List.nodup_append];refine ⟨h.nd,by simp [g5],fun a ha b hb => ?_⟩;rintro rfl;simp at hb;exact key a ha hb
 ·intro y hy;rcases bM hy with hy | hy
  ·exact h.rg y hy
  ·simp at hy; omega
 ·intro y hy;rcases bM hy with hy | hy
  ·rcases h.up y hy with h1 | ⟨z',hz',n',h2⟩
   ·exact .inl h1
   ·refine .inr ⟨z',?_,n',h2⟩;rw [List.take_append_of_le_length (by omega)];exact (List.take_subset_take_left q (Nat.le_succ i)) hz'
  ·refine .inr ⟨z,?_,n,hn,hf,by simpa using hy⟩;rw [List.take_append_of_le_length (by omega)];rw [List.take_succ,hz]; simp
theorem QI.len {u:List Nd} {q:List Int} {i:Nat} (h:QI u q i):q.length<=u.length:=yc1 _ q h.nd h.rg
theorem zpo (l:List Nd) (x:Nd):l.map nd++[[iv x.f,iv x.c,iv x.l,iv x.r,iv x.v]]=(l++[x]).map nd:=by simp [nd]
theorem zyc {l:List Nd} {i:Nat} {x:Nd} (h:l[i]?=some x):(l.map nd)[i]?=some [iv x.f,iv x.c,iv x.l,iv x.r,iv x.v]:=by simp [h,nd]
def GL (N:Nat) (r:List PV×List PV):Prop := ∃ w:List Nd,w.length<=N/\r=([.agg [.own 5 (w.map nd)]],[])
theorem y76 (u:List Nd) (hg:yeo u) (h0:1<=u.length) (hl:u.length<=1000) : ∃ r,RUN T zsz [.sl 5 (u.map nd)]=some r/\GL u.length r:=by
 refine ze0 rfl rfl ?_;have hr8:zag 8 1=true:=by decide
 simp [z5a,zii];refine zao (fun n st => ∃ (i oq eq:Nat) (q:List Int) (w:List Nd) (x:PV) (nxt:Int),i+n=u.length/\w.length=i/\QI u q i/\i<=q.length/\1<=q.length/\st.V 0 = .sl 5 (u.map nd)/\st.V 2 = .ptr 0 none 0 0 0/\st.V 3 = .ptr 1 none 0 0 0/\st.V 4 = .ref oq none eq 0 q.length/\st.V 5=iv nxt/\st.V 6=iv i/\1<oq/\oq<st.nx/\st.S oq=some (.row 1 (zab q))/\((w=[]/\x = .e0)\/∃ ow ew,ow≠oq/\1<ow/\ow<st.nx/\x = .ref ow none ew 0 w.length/\st.S ow=some (.row 5 (w.map nd)))/\st.S 0=some (.box [.e0])/\st.S 1=some (.box [x])) ?_ u.length _ ⟨0,2,0,[0],[],.e0,1,by simp,rfl,⟨by simp,by simp; omega,by simp⟩,by simp,by simp,by simp,by simp,by simp,by simp,by simp,by simp,by simp,by simp,by simp [zab],.inl ⟨rfl,rfl⟩,by simp⟩;rintro n st ⟨i,oq,eq,q,w,x,nxt,hi,hw,hq,hiq,hq1,v0,v2,v3,v4,v5,v6,ho,hox,hSo,hx,hS,hS1⟩;have hlen:=hq.len;simp [yfx,v4,v6,hSo];obtain ⟨f1,f2,f3,f4⟩:=fr hox;obtain ⟨g1,g2,g3,g4⟩:=fr (show 0<oq by omega);obtain ⟨z1,z2,z3,z4⟩:=fr (show 0<st.nx by omega);obtain ⟨y1,y2,y3,y4⟩:=fr (show 1<oq by omega);obtain ⟨x1,x2,x3,x4⟩:=fr (show 1<st.nx by omega);have Z0:=bI f1 <| bI f2 <| bI f3 <| bI f4 <| bI g1 <| bI g2 <| bI g3 <| bI g4 <| bI z1 <| bI z2 <| bI z3 <| bI z4 <| bI y1 <| bI y2 <| bI y3 <| bI y4 <| bI x1 <| bI x2 <| bI x3 x4
 refine zau (fun h => ?_) (fun h => ?_)
 ·simp at h;obtain ⟨z,hz⟩ : ∃ z,q[i]?=some z:=⟨_,bG h⟩;obtain ⟨hz0,hz1⟩:=hq.rg z (bF hz);obtain ⟨zn,rfl⟩ : ∃ k:Nat,z=k:=⟨z.toNat,by omega⟩;obtain ⟨m,hm⟩ : ∃ m,u[zn]?=some m:=⟨_,bG (by omega)⟩;have hz':=zay hz;have hm':=zyc hm;have hws:=wS h (by omega:q.length<=9223372036854775807);have hr1:=zbx (n:=q.length+2) (by omega);have hr2:zag 40 (w.length+1)=true:=by simp [zag]; omega
  have hr3:zag 40 1=true:=by decide
  have hQ:m.f ≠ -1->QI u (q++[m.l,m.r]) (i+1):=fun hf=>hq.step hg hz (by simpa using hm) hf;have hints:zab q++[[iv m.l],[iv m.r]]=zab (q++[m.l,m.r]):=by simp [zab]
  have hn1:=zpo w m;have hn2:=zpo w ⟨m.f,m.c,nxt,IntKind.i64.wrap (nxt+1),m.v⟩;simp only at hn2;rcases bL (m.f = -1) with hf | hf
  ·rcases hx with ⟨rfl,rfl⟩ | ⟨ow,ew,how,ho1,ho2,rfl,hSw⟩
   ·simp [-getElem?_pos,v0,v3,v4,v6,hS1,hSo,hz',hm',hf,hws,h,hr3,Z0];refine zai (n-1) (by omega) ⟨i+1,oq,eq,q,[m],_,nxt,by omega,by simp at hw; simp; omega,hq.skip,by omega,by omega,by simp [v0],by simp [v2],by simp [v3],by simp [v4],by simp [v5],by simp,ho,by simp; omega,by simp [Z0,hSo],.inr ⟨st.nx+2,st.ep,by omega,by omega,by simp,rfl,by simp [nd]⟩,by simp [Z0,hS]⟩
   ·obtain ⟨b1,b2,b3,b4⟩:=fr ho2;obtain ⟨c1,c2,c3,c4⟩:=fr ho1;obtain ⟨d1,d2,d3,d4⟩:=fr (show 0<ow by omega);have k1:(ow=oq)=False:=bK how;have k2:(oq=ow)=False:=bK (fun e=>how e.symm);obtain ⟨_,_,k3,k4⟩:=fr (show ow<st.nx+1 by omega);obtain ⟨_,_,k5,k6⟩:=fr (show ow<st.nx+2 by omega);simp [-getElem?_pos,v0,v3,v4,v6,hS1,hSo,hSw,hz',hm',hf,hws,h,hr2,hn1,Z0,b1,b3,c1];refine zai (n-1) (by omega) ⟨i+1,oq,eq,q,w++[m],_,nxt,by omega,by simp; omega,hq.skip,by omega,by omega,by simp [v0],by simp [v2],by simp [v3],by simp [v4],by simp [v5],by simp,ho,by simp; omega,by simp [Z0,k2,hSo],.inr ⟨st.nx+2,st.ep,by omega,by omega,by simp,by simp; rfl,by simp⟩,by simp [Z0,d1,hS]⟩
  ·have hQ:=hQ (by rw [ne_eq,hf]; exact id);rcases hx with ⟨rfl,rfl⟩ | ⟨ow,ew,how,ho1,ho2,rfl,hSw⟩
   ·simp [-getElem?_pos,v0,v3,v4,v5,v6,hS1,hSo,hz',hm',hf,hws,h,hr1,hr3,hints,Z0];refine zai (n-1) (by omega) ⟨i+1,st.nx+2,st.ep,q++[m.l,m.r],[⟨m.f,m.c,nxt,IntKind.i64.wrap (nxt+1),m.v⟩],_,_,by omega,by simp at hw; simp; omega,hQ,by simp; omega,by simp,by simp [v0],by simp [v2],by simp [v3],by simp,by simp; rfl,by simp,by omega,by simp,by simp [Z0],.inr ⟨st.nx+2+2,st.ep,by omega,by omega,by simp,rfl,by simp [nd]⟩,by simp [Z0,hS]⟩
   ·obtain ⟨b1,b2,b3,b4⟩:=fr ho2;obtain ⟨c1,c2,c3,c4⟩:=fr ho1;obtain ⟨d1,d2,d3,d4⟩:=fr (show 0<ow by omega);have k1:(ow=oq)=False:=bK how;have k2:(oq=ow)=False:=bK (fun e=>how e.symm);obtain ⟨_,_,k3,k4⟩:=fr (show ow<st.nx+1 by omega);obtain ⟨_,_,k5,k6⟩:=fr (show ow<st.nx+2 by omega);simp [-getElem?_pos,v0,v3,v4,v5,v6,hS1,hSo,hSw,hz',hm',hf,hws,h,hr1,hr2,hints,hn2,Z0,b1,b3,c1,k1,k3];refine zai (n-1) (by omega) ⟨i+1,st.nx+2,st.ep,q++[m.l,m.r],w++[⟨m.f,m.c,nxt,IntKind.i64.wrap (nxt+1),m.v⟩],_,_,by omega,by simp; omega,hQ,by simp; omega,by simp,by simp [v0],by simp [v2],by simp [v3],by simp,by simp; rfl,by simp,by omega,by simp,by simp [Z0,b4],.inr ⟨st.nx+2+2,st.ep,by omega,by omega,by simp,by simp; rfl,by simp⟩,by simp [Z0,d1,hS]⟩
 ·simp at h;have e1:i=q.length:=by omega
  rcases hx with ⟨rfl,rfl⟩ | ⟨ow,ew,how,ho1,ho2,rfl,hSw⟩
  ·simp at hw; omega
  ·obtain ⟨b1,b2,b3,b4⟩:=fr ho2;obtain ⟨c1,c2,c3,c4⟩:=fr ho1;obtain ⟨d1,d2,d3,d4⟩:=fr (show 0<ow by omega);simp [-getElem?_pos,v2,v3,hS,hS1,hSw,d2];exact ⟨w,by omega,rfl⟩
def ziq (t:List Nd) (k:Nat) (f c a b:Int):List Nd:=t.set k ⟨f,c,t.length,t.length+1,0⟩++[⟨-1,0,0,0,a⟩,⟨-1,0,0,0,b⟩]
theorem z8q {t:List Nd} {k:Nat} {f c a b:Int}:(ziq t k f c a b).length=t.length+2:=by simp [ziq]
theorem ybc {t:List Nd} {F:Int} (hs:Shaped t F) {k:Nat} (hk:k<t.length) {f c a b:Int} {j:Nat} {n:Nd} (h:(ziq t k f c a b)[j]?=some n) (hf:n.f ≠ -1):(j≠k/\j<t.length/\t[j]?=some n/\ydv F n j 1 t.length)\/(j=k/\n.l=t.length/\n.r=t.length+1):=by
 unfold ziq at h;rcases Nat.lt_or_ge j t.length with hj | hj
 ·rw [List.getElem?_append_left (by simpa using hj),List.getElem?_set] at h
  by_cases e:k=j
  ·subst e;rw [if_pos rfl,if_pos hk] at h;cases h;exact .inr ⟨rfl,rfl,rfl⟩
  ·rw [if_neg e] at h;exact .inl ⟨fun e'=>e e'.symm,hj,h,hs.inner j n h hf⟩
 ·rw [bO (by simpa using hj)] at h;simp only [List.length_set] at h;have:j-t.length=0\/j-t.length=1\/2<=j-t.length:=by omega
  rcases this with e | e | e
  ·rw [e] at h; simp at h; subst h; exact (hf rfl).elim
  ·rw [e] at h; simp at h; subst h; exact (hf rfl).elim
  ·rw [List.getElem?_eq_none (by simpa using e)] at h; cases h
theorem qe9 {t:List Nd} {F:Int} (hs:Shaped t F) {k:Nat} (hk:k<t.length) {f c a b:Int}:yeo (ziq t k f c a b):=by
 intro j n h hf;rw [z8q];rcases ybc hs hk h hf with ⟨e,hj,ht,hi⟩ | ⟨rfl,hl,hr⟩
 ·have i1:=hi.lo;have i2:=hi.r;have i3:=hi.hi;refine ⟨by omega,by push_cast; omega,by omega,by push_cast; omega,by omega,fun j' n' h' hf' hc => ?_⟩;rcases ybc hs hk h' hf' with ⟨e',hj',ht',hi'⟩ | ⟨rfl,hl',hr'⟩
  ·have i1':=hi'.r;rcases Nat.lt_trichotomy j j' with c | c | c
   ·have:=hs.ord j j' n n' c ht ht' hf hf'; omega
   ·exact c
   ·have:=hs.ord j' j n' n c ht' ht hf' hf; omega
  ·omega
 ·refine ⟨by omega,by push_cast; omega,by omega,by push_cast; omega,by omega,fun j' n' h' hf' hc => ?_⟩;rcases ybc hs hk h' hf' with ⟨e',hj',ht',hi'⟩ | ⟨rfl,hl',hr'⟩
  ·have i2:=hi'.r;have i3:=hi'.hi;omega
  ·rfl
theorem yt9 (l:List Nd):zch (l.map nd)=true:=by simp [zch,nd]
theorem y77 (t:List Nd) (F:Int) (hs:Shaped t F) (hl:t.length<=31) (k:Nat) (hk:k<t.length) (f c l r v a b:Int) : ∃ r',RUN T zsj [.agg [.sl 5 (t.map nd)],iv k,.agg [iv f,iv c,iv l,iv r,iv v],iv a,iv b]=some r'/\GL (t.length+2) r':=by
 refine ze0 rfl rfl ?_;have h1:=hs.pos;obtain ⟨rr,hr,w,hw,rfl⟩:=y76 (ziq t k f c a b) (qe9 hs hk) (by rw [z8q]; omega) (by rw [z8q]; omega);rw [z8q] at hw;have hw1:=w64 (x:=(t.length:Int)+1) (by omega) (by omega);have hr1:zag 40 t.length=true:=by simp [zag]; omega
 have hr2:zag 40 (t.length+2)=true:=by simp [zag]; omega
 have hr3:zag 40 2=true:=by decide
 have hr0:zag 40 0=true:=by decide
 have hg:(t.map nd).set k [iv f,iv c,iv t.length,iv (t.length+1),iv 0]++[[iv (-1),iv 0,iv 0,iv 0,iv a],[iv (-1),iv 0,iv 0,iv 0,iv b]]=(ziq t k f c a b).map nd:=by
  unfold ziq;rw [List.map_append,List.map_set];rfl
 obtain ⟨x,hx⟩ : ∃ x,t[k]?=some x:=⟨_,bG hk⟩;have hnd : ∀ y:Nd,(nd y).length=5:=fun y=>rfl;have hnx : ∀ y:Nd,nd y=[iv y.f,iv y.c,iv y.l,iv y.r,iv y.v]:=fun y=>rfl;have hset : ∀ y:List PV,((t.map nd).set k y).length=t.length:=by simp
 simp [-getElem?_pos,z31,z32,hk,hw1,hr1,hr2,hg,hr,hset,yt9,hx,hnx];exact ⟨w,hw,rfl⟩
def PT (N:Nat) (v:PV):Prop := ∃ t:List Nd,v = .agg [.own 5 (t.map nd)]/\t.length<=N
def PT1 (N:Nat) (v:PV):Prop := ∃ t:List Nd,v = .agg [.own 5 (t.map nd)]/\1<=t.length/\t.length<=N
theorem ymy : ∀ (t:List Nd) (i y:Int),y∈lvs t i->i<=y/\y<i+t.length
 | [],i,y,h=>by simp [lvs] at h
 | x::xs,i,y,h=>by
  simp only [lvs] at h;have ih:=fun h=>ymy xs (i+1) y h;simp only [List.length_cons];split at h
  ·rcases List.mem_cons.mp h with h | h
   ·omega
   ·have:=ih h; omega
  ·have:=ih h; omega
theorem yqx : ∀ (t:List Nd) (i:Int) (j:Nat) (x:Nd),t[j]?=some x->x.f = -1->0<(lvs t i).length
 | [],_,_,_,h,_=>by simp at h
 | y::ys,i,j,x,h,hf=>by
  simp only [lvs];split
  ·simp
  ·rename_i hy;cases j with
   | zero=>simp at h; subst h; exact (hy hf).elim
   | succ j=>exact yqx ys (i+1) j x (by simpa using h) hf
theorem Shaped.leaves {t:List Nd} {F:Int} (h:Shaped t F):0<(lvs t 0).length:=by
 have hp:=h.pos;have hx:=bG (l:=t) (show t.length-1<t.length by omega);generalize t[t.length-1]'(by omega)=x at hx
 by_cases hf:x.f = -1
 ·exact yqx t 0 _ x hx hf
 ·have h1:=h.inner _ x hx hf;have:=h1.lt;have:=h1.r;have:=h1.hi;omega
theorem qe5 {v:Int} (F:Int) (h:zda v=true):Shaped [zy3 v] F:=by
 refine ⟨fun j x hx hf => ?_,fun j x hx hf => ?_,fun j j' x y hj hx hy hf => ?_,fun k h1 h2 => ?_,by simp⟩
 ·cases j with
  | zero=>simp at hx; subst hx; exact ⟨rfl,rfl,rfl,h⟩
  | succ j=>simp at hx
 ·cases j with
  | zero=>simp at hx; subst hx; exact (hf rfl).elim
  | succ j=>simp at hx
 ·cases j with
  | zero=>simp at hx; subst hx; exact (hf rfl).elim
  | succ j=>simp at hx
 ·simp at h2; omega
theorem y78 (B:List Int) (p:Nat) (s:Int) (hp:p<=B.length) (hB:B.length<=9223372036854775807) (F:Int) (hF:F<=9223372036854775807) : ∃ r,RUN T zro [.bx [.sl 1 (zbl B),iv p,iv s],iv F]=some r/\zf0 B (PT1 31) r:=by
 refine ze0 rfl rfl ?_;obtain ⟨r1,h1,v1,p1,s1,⟨a1,rfl,a10,a11⟩,hp1,rfl⟩:=zba B p s hp hB 21 (by omega);have a12:=a11 (by omega);have w1:=w64 (x:=a1-10) (by omega) (by omega);have w2:=w64 (x:=50*(a1-10)) (by omega) (by omega);have h2:=y7r (50*(a1-10));obtain ⟨r3,h3,v3,p3,s3,⟨a3,rfl,a30,a31⟩,hp3,rfl⟩:=zba B p1 s1 hp1 hB 6 (by omega);have a32:=a31 (by omega);obtain ⟨kn,rfl⟩ : ∃ n:Nat,a3=n:=⟨a3.toNat,by omega⟩;have hsh:Shaped [zy3 (50*(a1-10))] F:=qe5 F (zar.mpr (by omega));generalize hlv:50*(a1-10)=lv at *;simp [-getElem?_pos,z1g,z1h,h1,w1,w2,hlv,h2,h3];refine zao (fun n st => ∃ (i p ot et:Nat) (s:Int) (t:List Nd),i+n=kn/\p<=B.length/\Shaped t F/\t.length<=31/\st.V 0 = .ptr 0 none 0 0 0/\st.V 1=iv F/\st.V 4 = .ptr 1 none 0 0 0/\st.V 5 = .ptr 3 none 0 0 0/\st.V 6=iv kn/\st.V 7=iv i/\1<ot/\ot≠3/\ot<st.nx/\3<st.nx/\st.S 0=some (.box [.sl 1 (zbl B),iv p,iv s])/\st.S 1=some (.box [.e0])/\st.S 3=some (.box [.ref ot none et 0 t.length])/\st.S ot=some (.row 5 (t.map nd))) ?_ kn _ ⟨0,p3,2,0,s3,[zy3 lv],by simp,hp3,hsh,by simp⟩;clear h1 h2 h3 hsh;rintro n st ⟨i,p,ot,et,s,t,hi,hp,hsh,hl,v0,v1,v4,v5,v6,v7,ho,ho3,hox,hnx,hS,hS1,hS3,hSo⟩;obtain ⟨f1,f2,f3,f4⟩:=fr hox;obtain ⟨g1,g2,g3,g4⟩:=fr (show 0<ot by omega);obtain ⟨z1,z2,z3,z4⟩:=fr (show 0<st.nx by omega);obtain ⟨y1,y2,y3,y4⟩:=fr (show 1<ot by omega);obtain ⟨x1,x2,x3,x4⟩:=fr (show 1<st.nx by omega);obtain ⟨u1,u2,u3,u4⟩:=fr (show 3<st.nx by omega);have k1:(ot=3)=False:=bK ho3
 have k2:(3=ot)=False:=bK (fun e=>ho3 e.symm);simp [yfg,v6,v7];refine zau (fun h => ?_) (fun h => ?_)
 ·simp at h;have hw:=w64 (x:=(i:Int)+1) (by omega) (by omega);have e1:=y64 t (by omega);have hlv:=hsh.leaves;have hll:=zyy t 0;obtain ⟨r2,e2,v2,p2,s2,⟨a2,rfl,a20,a21⟩,hp2,rfl⟩:=zba B p s hp hB (lvs t 0).length (by omega);obtain ⟨j,rfl⟩ : ∃ n:Nat,a2=n:=⟨a2.toNat,by omega⟩;have hj:j<(lvs t 0).length:=by have:=a21 (by omega); omega
  obtain ⟨y,hy⟩ : ∃ y,(lvs t 0)[j]?=some y:=⟨_,bG hj⟩;have hy':=zay hy;obtain ⟨b0,b1⟩:=ymy t 0 y (bF hy);obtain ⟨k,rfl⟩ : ∃ n:Nat,y=n:=⟨y.toNat,by omega⟩;obtain ⟨r3,e3,v3,p3,s3,⟨a3,rfl,a30,a31⟩,hp3,rfl⟩:=zba B p2 s2 hp2 hB F hF;obtain ⟨r4,e4,v4',p4,s4,⟨a4,rfl,a40,a41⟩,hp4,rfl⟩:=zba B p3 s3 hp3 hB 9 (by omega);obtain ⟨r5,e5,v5',p5,s5,⟨a5,rfl,a50,a51⟩,hp5,rfl⟩:=zba B p4 s4 hp4 hB 2001 (by omega);obtain ⟨r6,e6,v6',p6,s6,⟨a6,rfl,a60,a61⟩,hp6,rfl⟩:=zba B p5 s5 hp5 hB 2001 (by omega);have a42:=a41 (by omega);have a52:=a51 (by omega);have a62:=a61 (by omega);have w4:=w64 (x:=a4-4) (by omega) (by omega);have w4':=w64 (x:=500*(a4-4)) (by omega) (by omega);have w5:=w64 (x:=a5-1000) (by omega) (by omega);have w6:=w64 (x:=a6-1000) (by omega) (by omega);obtain ⟨r7,e7,w,hw7,rfl⟩:=y77 t F hsh hl k (by omega) a3 (500*(a4-4)) 0 0 0 (a5-1000) (a6-1000);have e8:=ylt w F (by omega);cases hb:zhe w F with
  | true =>
   rw [hb] at e8;simp [-getElem?_pos,v0,v1,v5,v7,hS,hS3,hSo,e1,e2,hy',hj,e3,e4,e5,e6,w4,w4',w5,w6,e7,e8,hw,f1,g2,z1,z2,u1,u3];unfold zhe at hb;simp only [Bool.and_eq_true] at hb;have hwl:=zar.mp hb.1.1.1.2;exact zai (n-1) (by omega) ⟨i+1,p6,st.nx+1,st.ep,s6,w,by omega,hp6,z8r hb.1.1.2,by omega,by simp [v0],by simp [v1],by simp [v4],by simp [v5],by simp [v6],by simp,by omega,by omega,by simp,by simp; omega,by simp [z2,x1,u4,hS1]⟩
  | false =>
   rw [hb] at e8;simp [-getElem?_pos,v0,v1,v5,v7,hS,hS3,hSo,e1,e2,hy',hj,e3,e4,e5,e6,w4,w4',w5,w6,e7,e8,hw,f1,g2,z1,z2,u1];exact zai (n-1) (by omega) ⟨i+1,p6,ot,et,s6,t,by omega,hp6,hsh,hl,by simp [v0],by simp [v1],by simp [v4],by simp [v5],by simp [v6],by simp,ho,ho3,by simp; omega,by simp; omega,by simp [f1,f3,g2,z2,x1,u1,u3,hS1,hS3,hSo]⟩
 ·simp at h;have ho1:1<=ot:=by omega
  simp [-getElem?_pos,v4,v5,ho1,hS,hS1,hS3,hSo,y2];exact ⟨_,p,s,⟨t,rfl,hsh.pos,hl⟩,hp,rfl⟩
theorem zqi (t:List Nd) (k:Nat) (f c l r v:Int):(t.map nd).set k [iv f,iv c,iv l,iv r,iv v]=(t.set k ⟨f,c,l,r,v⟩).map nd:=by
 rw [List.map_set]; rfl
theorem y79 (B:List Int) (p:Nat) (s:Int) (hp:p<=B.length) (hB:B.length<=9223372036854775807) : ∃ r,RUN T zqu [.bx [.sl 1 (zbl B),iv p,iv s]]=some r/\zf0 B (PT 32) r:=by
 refine ze0 rfl rfl ?_;obtain ⟨r1,h1,v1,p1,s1,⟨a1,rfl,a10,a11⟩,hp1,rfl⟩:=zba B p s hp hB 3 (by omega);have a12:=a11 (by omega);have w1:=w64 (x:=1+a1) (by omega) (by omega);obtain ⟨r2,h2,v2,p2,s2,⟨t,rfl,ht1,ht⟩,hp2,rfl⟩:=y78 B p1 s1 hp1 hB (1+a1) (by omega);obtain ⟨r3,h3,v3,p3,s3,⟨a3,rfl,a30,a31⟩,hp3,rfl⟩:=zba B p2 s2 hp2 hB t.length (by omega);have a32:=a31 (by omega);obtain ⟨k,rfl⟩ : ∃ n:Nat,a3=n:=⟨a3.toNat,by omega⟩;have hk:k<t.length:=by omega
 obtain ⟨r4,h4,v4,p4,s4,⟨a4,rfl,a40,a41⟩,hp4,rfl⟩:=zba B p3 s3 hp3 hB 14 (by omega);have Z0:=bI h1 <| bI w1 <| bI h2 <| bI h3 h4
 obtain ⟨x,hx⟩ : ∃ x,t[k]?=some x:=⟨_,bG hk⟩;have hnd : ∀ y:Nd,nd y=[iv y.f,iv y.c,iv y.l,iv y.r,iv y.v]:=fun y=>rfl;have hr5:zag 8 5=true:=by decide
 have hr6:zag 8 6=true:=by decide
 have hr1:zag 40 1=true:=by decide
 have hrt:zag 40 (t.length+1)=true:=by simp [zag]; omega
 by_cases c0:a4=0
 ·obtain ⟨r5,h5,v5,p5,s5,⟨y,rfl,hy⟩,hp5,rfl⟩:=zf2 B p4 s4 hp4 hB [-1,0,1,4,-2,9223372036854775807] (by simp);simp only [zab,List.map] at h5;simp [-getElem?_pos,zih,zii,Z0,c0,h5,hk,hx,hnd];exact ⟨_,p5,s5,⟨t.set k ⟨y,x.c,x.l,x.r,x.v⟩,by rw [<- zqi],by simp; omega⟩,hp5,rfl⟩
 by_cases c1:a4=1
 ·obtain ⟨r5,h5,v5,p5,s5,⟨y,rfl,hy⟩,hp5,rfl⟩:=zf2 B p4 s4 hp4 hB [0,1,2147483648,-2147483648,500] (by simp);simp only [zab,List.map] at h5;simp [-getElem?_pos,zih,zii,Z0,c1,h5,hk,hx,hnd];exact ⟨_,p5,s5,⟨t.set k ⟨x.f,y,x.l,x.r,x.v⟩,by rw [<- zqi],by simp; omega⟩,hp5,rfl⟩
 by_cases c2:a4=2
 ·obtain ⟨r5,h5,v5,p5,s5,⟨y,rfl,hy⟩,hp5,rfl⟩:=zf2 B p4 s4 hp4 hB [0,1,2,-1,40,(k:Int)] (by simp);simp only [zab,List.map] at h5;simp [-getElem?_pos,zih,zii,Z0,c2,h5,hk,hx,hnd];exact ⟨_,p5,s5,⟨t.set k ⟨x.f,x.c,y,x.r,x.v⟩,by rw [<- zqi],by simp; omega⟩,hp5,rfl⟩
 by_cases c3:a4=3
 ·obtain ⟨r5,h5,v5,p5,s5,⟨y,rfl,hy⟩,hp5,rfl⟩:=zf2 B p4 s4 hp4 hB [0,1,2,-1,40,(k:Int)] (by simp);simp only [zab,List.map] at h5;simp [-getElem?_pos,zih,zii,Z0,c3,h5,hk,hx,hnd];exact ⟨_,p5,s5,⟨t.set k ⟨x.f,x.c,x.l,y,x.v⟩,by rw [<- zqi],by simp; omega⟩,hp5,rfl⟩
 by_cases c4:a4=4
 ·obtain ⟨r5,h5,v5,p5,s5,⟨y,rfl,hy⟩,hp5,rfl⟩:=zf2 B p4 s4 hp4 hB [0,1,1099511627776,1099511627777,-1099511627777] (by simp);simp only [zab,List.map] at h5;simp [-getElem?_pos,zih,zii,Z0,c4,h5,hk,hx,hnd];exact ⟨_,p5,s5,⟨t.set k ⟨x.f,x.c,x.l,x.r,y⟩,by rw [<- zqi],by simp; omega⟩,hp5,rfl⟩
 by_cases c5:a4=5
 ·have e:=zpo t ⟨-1,0,0,0,0⟩;simp only at e;simp [-getElem?_pos,zih,zii,Z0,c5,hrt];exact ⟨_,p4,s4,⟨t++[⟨-1,0,0,0,0⟩],by rw [<- e],by simp; omega⟩,hp4,rfl⟩
 by_cases c6:a4=6
 ·have hk':k<=t.length:=by omega
  have hkn : ¬ k=t.length:=by omega
  simp [-getElem?_pos,hk',hkn,zih,zii,Z0,c6];exact ⟨_,p4,s4,⟨t.take k,by rw [List.map_take],by simp; omega⟩,hp4,rfl⟩
 ·simp [-getElem?_pos,zih,zii,Z0,c0,c1,c2,c3,c4,c5,c6];exact ⟨_,p4,s4,⟨t,rfl,by omega⟩,hp4,rfl⟩
theorem y8a (l:List Int) (hl:l.length<=9223372036854775807):RUN T zqm [.sl 1 (zab l),.sl 1 (zab l)]=some ([bv true],[]):=by
 refine zae rfl rfl ?_;simp [zzn,zvz];refine zao (fun n st => ∃ i:Nat,i+n=l.length/\st.V 0 = .sl 1 (zab l)/\st.V 1 = .sl 1 (zab l)/\st.V 5=iv i) ?_ l.length _ ⟨0,by simp⟩;rintro n st ⟨i,hi,v0,v1,v5⟩;simp [ye2,v0,v5];refine zau (fun h => ?_) (fun h => ?_)
 ·simp at h;obtain ⟨x,hx⟩ : ∃ x,l[i]?=some x:=⟨_,bG h⟩;have hx':=zay hx;have hw:=wS h hl;simp [-getElem?_pos,v0,v1,v5,h,hx',hw];exact zai (n-1) (by omega) ⟨i+1,by omega,by simp [v0,v1]⟩
 ·simp
theorem qc4 (l:List ByteArray) (i:Nat) (s:ByteArray):(za6 l).set i [.v (.string s)]=za6 (l.set i s):=by simp [za6]
def qc9 (B:List Int) (l:List ByteArray) (r:List PV×List PV):Prop := ∃ (x:ByteArray) (p:Nat) (s:Int),x∈l/\p<=B.length/\r=([.v (.string x)],[.bx [.sl 1 (zbl B),iv p,iv s],.own 1 (za6 l)])
theorem yl9 (B:List Int) (p:Nat) (s:Int) (hp:p<=B.length) (hB:B.length<=9223372036854775807) (l:List ByteArray) (hl:0<l.length/\l.length<=9223372036854775807) : ∃ r,RUN T zn2 [.bx [.sl 1 (zbl B),iv p,iv s],.own 1 (za6 l)]=some r/\qc9 B l r:=by
 refine ze0 rfl rfl ?_;obtain ⟨r1,h1,v1,p1,s1,⟨a1,rfl,a10,a11⟩,hp1,rfl⟩:=zba B p s hp hB l.length (by omega);obtain ⟨i,rfl⟩ : ∃ i:Nat,a1=i:=⟨a1.toNat,by omega⟩;have hi:i<l.length:=by have:=a11 (by omega); omega
 obtain ⟨x,hx⟩ : ∃ x,l[i]?=some x:=⟨_,bG hi⟩;have hx':=zu4 hx;simp [-getElem?_pos,z3v,zvz,h1,hx',hi];exact ⟨x,p1,s1,bF hx,hp1,rfl⟩
theorem yn4 (l:List ByteArray):zch (za6 l)=true:=by simp [zch,za6]
theorem yqr (M:List (List Nd)) (t:List Nd):trs true M++[[.own 5 (t.map nd)]]=trs true (M++[t]):=by simp [trs,zu9]
theorem zm7 (L:List (List Int)) (r:List Int):rws true L++[[.own 1 (zab r)]]=rws true (L++[r]):=by simp [rws,cel]
theorem zpi (L:List (List Int)) (i:Nat) (r:List Int):(rws true L).set i [.own 1 (zab r)]=rws true (L.set i r):=by simp [rws,cel]
def pos (x:Int) (l:List Int):Nat->Nat
 | 0=>0
 | k+1=>if x<l.getD k 0 then pos x l k else k+1
def ins (l:List Int) (x:Int):List Int:=l.take (pos x l l.length)++x::l.drop (pos x l l.length)
def zef (l:List Int):List Int:=l.foldl ins []
theorem ydf (x:Int) (l:List Int) : ∀ k,pos x l k<=k
 | 0=>by simp [pos]
 | k+1=>by
  have:=ydf x l k;simp only [pos]; split <;> omega
theorem qem (l:List Int) (x:Int):(ins l x).length=l.length+1:=by
 have:=ydf x l l.length;unfold ins;simp; omega
theorem qc8 {l:List Int} {i:Nat} {x:Int} (h:l[i]?=some x):(l.take (i+1)).foldl ins []=ins ((l.take i).foldl ins []) x:=by
 rw [List.take_succ,h];simp [List.foldl_append]
theorem qas (l:List Int) : ∀ a:List Int,(l.foldl ins a).length=a.length+l.length:=by
 induction l with
 | nil=>intro a; rfl
 | cons x l ih=>intro a; simp only [List.foldl_cons,ih,qem,List.length_cons]; omega
theorem qcg (a:List Int) (p:Nat):List.take (a.length-p) (List.drop p (zab a))=zab (a.drop p):=by
 rw [List.take_of_length_le (by simp)];simp [zab,List.map_drop]
theorem qbc (a:List Int) (p:Nat) (h:p<=a.length):(if p=a.length then zab a else List.take p (zab a))=zab (a.take p):=by
 split
 ·rename_i e; subst e; rw [List.take_length]
 ·simp [zab,List.map_take]
theorem yc2 (x:Int) (l:List Int) (k:Nat):pos x l (k+1)=if x<l.getD k 0 then pos x l k else k+1:=rfl
def zem (x:Int) (l:List Int) (k P:Nat):Prop:=pos x l k=P
theorem zem.on {x y:Int} {l:List Int} {k P:Nat} (h:zem x l (k+1) P) (hy:l[k]?=some y) (hc:x<y):zem x l k P:=by
 unfold zem at *;rw [yc2] at h;simp only [List.getD,hy,Option.getD_some,if_pos hc] at h;exact h
theorem zem.off {x y:Int} {l:List Int} {k P:Nat} (h:zem x l (k+1) P) (hy:l[k]?=some y) (hc : ¬ x<y):k+1=P:=by
 unfold zem at *;rw [yc2] at h;simp only [List.getD,hy,Option.getD_some,if_neg hc] at h;exact h
theorem zem.ex (x:Int) (l:List Int) (k:Nat) : ∃ P,zem x l k P:=⟨_,rfl⟩
theorem zem.z {x:Int} {l:List Int} {P:Nat} (h:zem x l 0 P):0=P:=h
theorem z9a {x:Int} {l:List Int} {P:Nat} (h:zem x l l.length P):ins l x=l.take P++x::l.drop P:=by unfold zem at h; unfold ins; rw [h]
attribute [irreducible] pos ins zem
theorem yma (l:List Int) (hl:l.length<=1048576):RUN T zn4 [.sl 1 (zab l)]=some ([.own 1 (zab (zef l))],[]):=by
 refine zae rfl rfl ?_;have hr0:zag 8 0=true:=by decide
 simp [-getElem?_pos,z38,zz2];refine zao (fun n st => ∃ (i o e:Nat) (a:List Int),i+n=l.length/\a=(l.take i).foldl ins []/\a.length=i/\st.V 0 = .sl 1 (zab l)/\st.V 3 = .ref o none e 0 a.length/\st.V 4=iv i/\o<st.nx/\st.S o=some (.row 1 (zab a))) ?_ l.length _ ⟨0,0,0,[],by simp [zab]⟩;rintro n st ⟨i,o,e,a,hi,ha,hal,v0,v3,v4,hox,hSo⟩;simp [yfr,v0,v4];obtain ⟨f1,f2,f3,f4⟩:=fr hox;refine zau (fun h => ?_) (fun h => ?_)
 ·simp at h;obtain ⟨x,hx⟩ : ∃ x,l[i]?=some x:=⟨_,bG h⟩;have hx':=zay hx;have hws:=wS h (by omega:l.length<=9223372036854775807);have hft:=qc8 hx;rw [<- ha] at hft;obtain ⟨P,hP⟩ : ∃ P,zem x a a.length P:=zem.ex x a a.length;simp [-getElem?_pos,v3,hSo];refine zao (fun n' s => ∃ j:Nat,n'=j/\j<=a.length/\zem x a j P/\s.V 0 = .sl 1 (zab l)/\s.V 3 = .ref o none e 0 a.length/\s.V 4=iv i/\s.V 5=iv j/\s.nx=st.nx/\s.S o=some (.row 1 (zab a))) ?_ a.length _ ⟨a.length,by omega,by omega,hP,by simp [v0,v3,v4,hSo]⟩;rintro n' s ⟨j,hjn,hj,hp,u0,u3,u4,u5,unx,hSo'⟩;clear v0 v3 v4 hSo;obtain ⟨g1,g2,g3,g4⟩:=fr (show o<s.nx by omega);obtain ⟨_,_,g5,g6⟩:=fr (show o<s.nx+1 by omega);obtain ⟨_,_,g7,g8⟩:=fr (show o<s.nx+2 by omega);have hcr : ∀ c:Nat,c<=a.length+1->zag 8 c=true:=fun c hc=>zbx (by omega);have hr1:zag 8 1=true:=by decide
  by_cases h0:0<j
  ·obtain ⟨q,rfl⟩ : ∃ q:Nat,j=q+1:=⟨j-1,by omega⟩;have hw:=w64 (x:=(q:Int)) (by omega) (by omega);obtain ⟨y,hy⟩ : ∃ y,a[q]?=some y:=⟨_,bG (by omega)⟩;have hy':=zay hy;have hqa:q<a.length:=by omega
   by_cases hc:x<y
   ·have hp':=hp.on hy hc;simp [-getElem?_pos,z37,u0,u3,u4,u5,hSo',hx',hw,hy',hqa,hc];exact zai q (by omega) ⟨q,rfl,by omega,hp',by simp [u0,u3,u4,unx,hSo']⟩
   ·have hp':=hp.off hy hc;have hk1:=hcr (q+1) (by omega);have hk2:=zbx (n:=q+1+1) (by omega);have hk3:=hcr (a.length+1) (by omega);have hcut:=qbc a (q+1) (by omega);have hal2 : ∀ b:List Int,zch (zab b)=true:=ysq;have hmin:(a.take (q+1)).length=q+1:=by simp; omega
    have hdr:=qcg a (q+1);have hmd:(a.drop (q+1)).length=a.length-(q+1):=by simp
    have hsn:=zbn (a.take (q+1)) x;have hap:=qam (a.take (q+1)++[x]) (a.drop (q+1));have hk4:=zbx (n:=q+2+(a.length-(q+1))) (by omega);have hin:=z9a hP;rw [<- hp'] at hin;have hlen2:q+2+(a.length-(q+1))=a.length+1:=by omega
    simp [-getElem?_pos,z37,u0,u3,u4,u5,hSo',hx',hw,hy',hqa,hc,hj,g1,g3,g5,hk1,hk2,hk3,hcut,hal2,hmin,hdr,hmd,hsn,hap,hlen2];refine zai (n-1) (by omega) ⟨i+1,s.nx+2+2,s.ep,a.take (q+1)++x::a.drop (q+1),by omega,by rw [hft,hin],by simp; omega,by simp [u0],by simp; omega,by simp [hws]⟩
  ·have h0':j=0:=by omega
   subst h0';have hp':=hp.z;have hk0:=hcr 0 (by omega);have hk3:=hcr (a.length+1) (by omega);have hcut:(if 0=a.length then zab a else [])=([]:List (List PV)):=by
    split
    ·rename_i e;have:a=[]:=List.length_eq_zero_iff.mp e.symm;subst this; rfl
    ·rfl
   have hal2 : ∀ b:List Int,zch (zab b)=true:=ysq;have hin:=z9a hP;rw [<- hp'] at hin;have hcons:[iv x]::zab a=zab (x::a):=rfl;have hk4:=hcr (1+a.length) (by omega);have hk5:=hcr (a.length+1) (by omega);simp [-getElem?_pos,z37,u0,u3,u4,u5,hSo',hx',g1,g3,g5,hr1,hk0,hcut,hal2,hcons,hk4];refine zai (n-1) (by omega) ⟨i+1,s.nx+2+2,s.ep,x::a,by omega,by rw [hft,hin]; simp,by (try simp); try omega,by simp [u0],by (try simp); try omega,by simp [hws]⟩
 ·simp at h;have e1:i=l.length:=by omega
  rw [e1,List.take_length] at ha;simp [-getElem?_pos,v3,hSo,zef,<- ha]
structure Ta where
 ns:List ByteArray
 nm:ByteArray
 rw:List (List Int)
 lb:List Int
abbrev taS (q:Bool) (t:Ta):PV := .agg [.sl 1 (za6 t.ns),.v (.string t.nm),.sl 1 (rws q t.rw),.sl 1 (zab t.lb)]
abbrev taO (t:Ta):PV := .agg [.own 1 (za6 t.ns),.v (.string t.nm),.own 1 (rws true t.rw),.own 1 (zab t.lb)]
structure TaL (n:Nat) (t:Ta):Prop where
 ns:t.ns.length<=n
 ss : ∀ x∈t.ns,x.size<=n
 nm:t.nm.size<=n
 rw:t.rw.length<=n
 rr : ∀ l∈t.rw,l.length<=n
 lb:t.lb.length<=n
structure Sta where
 sm:List Int
 ts:List (List Nd)
abbrev stS (q:Bool) (s:Sta):PV := .agg [.sl 1 (zab s.sm),.sl 1 (trs q s.ts)]
abbrev stO (s:Sta):PV := .agg [.own 1 (zab s.sm),.own 1 (trs true s.ts)]
structure z75 (n:Nat) (s:Sta):Prop where
 sm:s.sm.length<=n
 ts:s.ts.length<=n
 tl : ∀ l∈s.ts,l.length<=n
structure Sl where
 n:Int
 g:Int
deriving DecidableEq
def slc (x:Sl):List PV:=[iv x.n,iv x.g]
def zbh (l:List Sl):List (List PV):=l.map slc
@[simp] theorem qwa (l:List Sl):(zbh l).length=l.length:=by simp [zbh]
theorem zm1 {l:List Sl} {i:Nat} {x:Sl} (h:l[i]?=some x):(zbh l)[i]?=some [iv x.n,iv x.g]:=by simp [zbh,h,slc]
theorem yph (l:List Sl) (i:Nat) (a b:Int):(zbh l).set i [iv a,iv b]=zbh (l.set i ⟨a,b⟩):=by simp [zbh,List.map_set,slc]
def slI (x:Sl):Prop:=inI x.n/\inI x.g
def zbk (a b:Sl):Sl×Bool:=if ((adi a.n b.n).2 && (adi a.g b.g).2)=true then (⟨(adi a.n b.n).1,(adi a.g b.g).1⟩,true) else (⟨0,0⟩,false)
theorem zm8 {a b:Sl} (h:slI a):slI (zbk a b).1:=by
 unfold zbk;split
 ·exact ⟨ydr h.1,ydr h.2⟩
 ·unfold slI inI; simp
theorem yax (a b:Sl) (ha:slI a) (hb:slI b):RUN T zl9 [.agg (slc a),.agg (slc b)]=some ([.agg (slc (zbk a b).1),bv (zbk a b).2],[]):=by
 refine zae rfl rfl ?_;have e1:=yao a.n b.n ha.1 hb.1;have e2:=yao a.g b.g ha.2 hb.2;unfold zbk;generalize adi a.n b.n=x at *;generalize adi a.g b.g=y at *;obtain ⟨x,xb⟩:=x;obtain ⟨y,yb⟩:=y;simp only at e1 e2 ⊢;cases xb <;> cases yb <;> simp [z5y,z5o,e1,e2,slc]
theorem yay (a b:Sl) (ha:slI a) (hb:slI b):RUN T zmb [.agg (slc a),.agg (slc b)]=some ([.agg (slc (zbk a b).1),bv (zbk a b).2],[]):=by
 refine zae rfl rfl ?_;have e1:=z7s a.n b.n ha.1 hb.1;have e2:=z7s a.g b.g ha.2 hb.2;unfold zbk;generalize adi a.n b.n=x at *;generalize adi a.g b.g=y at *;obtain ⟨x,xb⟩:=x;obtain ⟨y,yb⟩:=y;simp only at e1 e2 ⊢;cases xb <;> cases yb <;> simp [z6a,z5o,e1,e2,slc]
def atI {α:Type} (l:List α) (i:Int):Option α:=if 0<=i then l[i.toNat]? else none
theorem zg4 {α:Type} {l:List α} {i:Int} {x:α} (h:atI l i=some x) : ∃ j:Nat,i=j/\l[j]?=some x/\j<l.length:=by
 unfold atI at h;split at h
 ·refine ⟨i.toNat,by omega,h,?_⟩;rcases Nat.lt_or_ge i.toNat l.length with h' | h'
  ·exact h'
  ·rw [List.getElem?_eq_none (by omega)] at h; cases h
 ·cases h
theorem zjl {α:Type} {l:List α} {i:Int} (h:atI l i=none):i<0\/(l.length:Int)<=i:=by
 unfold atI at h;split at h
 ·right;rcases Nat.lt_or_ge i.toNat l.length with h' | h'
  ·rw [bG h'] at h; cases h
  ·omega
 ·omega
def zco (b g:List Int):List Int->List Sl->Option (List Sl)
 | [],h=>some h
 | r::rs,h=>match atI b r,atI g r with
  | some x,some y=>match atI h x with
   | some s=>if (zbk s ⟨1,y⟩).2=true then zco b g rs (h.set x.toNat (zbk s ⟨1,y⟩).1) else none
   | none=>none
  | _,_=>none
def zcm (b g rows:List Int) (k:Int):List Sl×Bool:=if zah k 1 8=true then match zco b g rows (List.replicate k.toNat ⟨0,0⟩) with
  | some h=>(h,true)
  | none=>([],false)
 else ([],false)
theorem yol (n:Nat):zbh (List.replicate n ⟨0,0⟩)=List.replicate n [iv 0,iv 0]:=by simp [zbh,slc]
theorem y8b (b g rows:List Int) (k:Int) (hb:b.length<=1048576) (hg:g.length<=1048576) (hr:rows.length<=1048576) (hgi : ∀ x∈g,inI x):RUN T zs2 [.sl 1 (zab b),.sl 1 (zab g),.sl 1 (zab rows),iv k]=some ([.own 2 (zbh (zcm b g rows k).1),bv (zcm b g rows k).2],[]):=by
 refine zae rfl rfl ?_;cases hk:zah k 1 8 with
 | false =>
  have e:=zc0 k 1 8;rw [hk] at e;have e2:zcm b g rows k=([],false):=by unfold zcm; rw [hk]; rfl
  rw [e2];simp [-getElem?_pos,zxg,zxh,-zbm,e,zbh]
 | true =>
  have e:=zc0 k 1 8;rw [hk] at e;have hk':=zar.mp hk;obtain ⟨kn,rfl⟩ : ∃ n:Nat,k=n:=⟨k.toNat,by omega⟩;have hro:zag 16 kn=true:=by simp [zag]; omega
  obtain ⟨R,hR⟩ : ∃ R,R=zcm b g rows kn:=⟨_,rfl⟩;have hR':R=match zco b g rows (List.replicate kn ⟨0,0⟩) with
   | some h=>(h,true)
   | none=>([],false):=by rw [hR]; unfold zcm; rw [if_pos hk]; first | (simp; done) | (simp; rfl)
  rw [<- hR];clear hR;simp [-getElem?_pos,zxg,zxh,-zbm,e,hro];refine zao (fun n st => ∃ (i:Nat) (h:List Sl),i+n=rows.length/\h.length=kn/\(∀ s∈h,slI s)/\zco b g (rows.drop i) h=zco b g rows (List.replicate kn ⟨0,0⟩)/\st.V 0 = .sl 1 (zab b)/\st.V 1 = .sl 1 (zab g)/\st.V 3=iv kn/\st.V 10 = .ref 0 none 0 0 kn/\st.V 20 = .sl 1 (zab rows)/\st.V 21=iv rows.length/\st.V 22=iv i/\0<st.nx/\st.S 0=some (.row 2 (zbh h))) ?_ rows.length _ ⟨0,List.replicate kn ⟨0,0⟩,by omega,by simp,?_,by simp [yol]⟩
  ·rintro n st ⟨i,h,hi,hhl,hhi,hh,v0,v1,v3,v10,v20,v21,v22,hnx,hS⟩;obtain ⟨z1,z2,z3,z4⟩:=fr hnx
   by_cases hlt:i<rows.length
   ·obtain ⟨r,hrr⟩ : ∃ r,rows[i]?=some r:=⟨_,bG hlt⟩;have hr':=zay hrr;have hws:=wS hlt (by omega:rows.length<=9223372036854775807);have w1:=w64 (x:=min (b.length:Int) g.length-1) (by omega) (by omega);have w2:=w64 (x:=(kn:Int)-1) (by omega) (by omega);have e1:=zc0 r 0 (min (b.length:Int) g.length-1);rw [zcr hrr,zco] at hh;cases hbx:atI b r with
    | none =>
     rw [hbx] at hh;have hn:=zjl hbx;have:zah r 0 (min (b.length:Int) g.length-1)=false:=by
      cases hw:zah r 0 (min (b.length:Int) g.length-1) with
      | false=>rfl
      | true=>have:=zar.mp hw; omega
     rw [this] at e1;rw [<- hh] at hR';subst hR';simp [-getElem?_pos,zo9,-zbm,v0,v1,v20,v21,v22,hlt,hr',w1,e1,zbh]
    | some x =>
     obtain ⟨rn,rfl,hbr,hbl⟩:=zg4 hbx;cases hgy:atI g rn with
     | none =>
      rw [hbx,hgy] at hh;have hn:=zjl hgy;have:zah rn 0 (min (b.length:Int) g.length-1)=false:=by
       cases hw:zah rn 0 (min (b.length:Int) g.length-1) with
       | false=>rfl
       | true=>have:=zar.mp hw; omega
      rw [this] at e1;rw [<- hh] at hR';subst hR';simp [-getElem?_pos,zo9,-zbm,v0,v1,v20,v21,v22,hlt,hr',w1,e1,zbh]
     | some y =>
      obtain ⟨rn',hrn,hgr,hgl⟩:=zg4 hgy;have:rn'=rn:=by omega
      subst this;have:zah rn' 0 (min (b.length:Int) g.length-1)=true:=zar.mpr (by omega);rw [this] at e1;rw [hbx,hgy] at hh;simp only at hh;have hb':=zay hbr;have hg':=zay hgr;have e2:=zc0 x 0 ((kn:Int)-1);cases hhx:atI h x with
      | none =>
       rw [hhx] at hh;have hn:=zjl hhx;have:zah x 0 ((kn:Int)-1)=false:=by
        cases hw:zah x 0 ((kn:Int)-1) with
        | false=>rfl
        | true=>have:=zar.mp hw; omega
       rw [this] at e2;simp only at hh;rw [<- hh] at hR';subst hR';simp [-getElem?_pos,zo9,-zbm,v0,v1,v3,v20,v21,v22,hlt,hr',hb',w1,w2,e1,e2,zbh]
      | some s =>
       obtain ⟨xn,rfl,hhs,hhl2⟩:=zg4 hhx;have:zah xn 0 ((kn:Int)-1)=true:=zar.mpr (by omega);rw [this] at e2;rw [hhx] at hh;have hs':=zm1 hhs;have hsi:=hhi s (bF hhs);have hyi:=hgi y (bF hgr);have hpi:=zm8 (b:=⟨1,y⟩) hsi;have e3:=yax s ⟨1,y⟩ hsi ⟨by unfold inI; simp,hyi⟩;simp only [Int.toNat_natCast] at hh;have hxk:xn<kn:=by omega
       generalize zbk s ⟨1,y⟩=p at *;obtain ⟨⟨pn,pg⟩,pb⟩:=p;simp only [slc] at e3 hh;cases pb with
       | false =>
        rw [if_neg (by simp)] at hh;rw [<- hh] at hR';subst hR';simp [-getElem?_pos,zo9,-zbm,v0,v1,v3,v10,v20,v21,v22,hS,hlt,hr',hb',hg',hs',hxk,w1,w2,e1,e2,e3];simp [zbh]
       | true =>
        rw [if_pos rfl] at hh;have hset:=yph h xn pn pg;simp [-getElem?_pos,zo9,-zbm,v0,v1,v3,v10,v20,v21,v22,hS,hlt,hr',hb',hg',hs',hxk,w1,w2,e1,e2,e3,hws,hset,z1];refine zai (n-1) (by omega) ⟨i+1,h.set xn ⟨pn,pg⟩,by omega,by simp [hhl],fun q hq => ?_,hh,by simp [v0,v1,v3,v10,v20,v21]⟩;rcases List.mem_or_eq_of_mem_set hq with h' | h'
        ·exact hhi q h'
        ·subst h'; exact hpi
   ·rw [bN (by omega),zco] at hh;rw [<- hh] at hR';subst hR';simp [-getElem?_pos,zo9,v10,v21,v22,hS,hlt,hhl]
  ·intro s hs;have:=List.eq_of_mem_replicate hs;subst this;exact ⟨by unfold inI; simp,by unfold inI; simp⟩
theorem y8c (b g rows:List Int) (k:Int) (hb:b.length<=1048576) (hg:g.length<=1048576) (hr:rows.length<=1048576) (hgi : ∀ x∈g,inI x):RUN T zs6 [.sl 1 (zab b),.sl 1 (zab g),.sl 1 (zab rows),iv k]=some ([.own 2 (zbh (zcm b g rows k).1),bv (zcm b g rows k).2],[]):=by
 refine zae rfl rfl ?_;cases hk:zah k 1 8 with
 | false =>
  have e:=zbb k 1 8;rw [hk] at e;have e2:zcm b g rows k=([],false):=by unfold zcm; rw [hk]; rfl
  rw [e2];simp [-getElem?_pos,zxi,zxh,-za1,e,zbh]
 | true =>
  have e:=zbb k 1 8;rw [hk] at e;have hk':=zar.mp hk;obtain ⟨kn,rfl⟩ : ∃ n:Nat,k=n:=⟨k.toNat,by omega⟩;have hro:zag 16 kn=true:=by simp [zag]; omega
  have hr0:zag 16 0=true:=by decide
  obtain ⟨R,hR⟩ : ∃ R,R=zcm b g rows kn:=⟨_,rfl⟩;have hR':R=match zco b g rows (List.replicate kn ⟨0,0⟩) with
   | some h=>(h,true)
   | none=>([],false):=by rw [hR]; unfold zcm; rw [if_pos hk]; first | (simp; done) | (simp; rfl)
  rw [<- hR];clear hR;simp [-getElem?_pos,zxi,zxh,-za1,e,hro];refine zao (fun n st => ∃ (i:Nat) (h:List Sl),i+n=rows.length/\h.length=kn/\(∀ s∈h,slI s)/\zco b g (rows.drop i) h=zco b g rows (List.replicate kn ⟨0,0⟩)/\st.V 0 = .sl 1 (zab b)/\st.V 1 = .sl 1 (zab g)/\st.V 2 = .sl 1 (zab rows)/\st.V 3=iv kn/\st.V 10 = .ref 0 none 0 0 0/\st.V 11 = .ref 1 none 0 0 kn/\st.V 12=iv i/\1<st.nx/\st.S 0=some (.row 2 [])/\st.S 1=some (.row 2 (zbh h))) ?_ rows.length _ ⟨0,List.replicate kn ⟨0,0⟩,by omega,by simp,?_,by simp [yol]⟩
  ·rintro n st ⟨i,h,hi,hhl,hhi,hh,v0,v1,v2,v3,v10,v11,v12,hnx,hS0,hS⟩;obtain ⟨z1,z2,z3,z4⟩:=fr hnx;obtain ⟨y1,y2,y3,y4⟩:=fr (show 0<st.nx by omega)
   by_cases hlt:i<rows.length
   ·obtain ⟨r,hrr⟩ : ∃ r,rows[i]?=some r:=⟨_,bG hlt⟩;have hr':=zay hrr;have hws:=wS hlt (by omega:rows.length<=9223372036854775807);have w1:=w64 (x:=(b.length:Int)-1) (by omega) (by omega);have w1':=w64 (x:=(g.length:Int)-1) (by omega) (by omega);have w2:=w64 (x:=(kn:Int)-1) (by omega) (by omega);have e1:=zbb r 0 ((b.length:Int)-1);have e1':=zbb r 0 ((g.length:Int)-1);rw [zcr hrr,zco] at hh;cases hbx:atI b r with
    | none =>
     rw [hbx] at hh;have hn:=zjl hbx;have:zah r 0 ((b.length:Int)-1)=false:=by
      cases hw:zah r 0 ((b.length:Int)-1) with
      | false=>rfl
      | true=>have:=zar.mp hw; omega
     rw [this] at e1;rw [<- hh] at hR';subst hR';simp [-getElem?_pos,zpa,-za1,v0,v2,v10,v12,hS0,hlt,hr',w1,e1,zbh]
    | some x =>
     obtain ⟨rn,rfl,hbr,hbl⟩:=zg4 hbx;cases hgy:atI g rn with
     | none =>
      rw [hbx,hgy] at hh;have hn:=zjl hgy;have:zah rn 0 ((g.length:Int)-1)=false:=by
       cases hw:zah rn 0 ((g.length:Int)-1) with
       | false=>rfl
       | true=>have:=zar.mp hw; omega
      rw [this] at e1';rw [show zah rn 0 ((b.length:Int)-1)=true from zar.mpr (by omega)] at e1;rw [<- hh] at hR';subst hR';simp [-getElem?_pos,zpa,-za1,v0,v1,v2,v10,v12,hS0,hlt,hr',w1,w1',e1,e1',zbh]
     | some y =>
      obtain ⟨rn',hrn,hgr,hgl⟩:=zg4 hgy;have:rn'=rn:=by omega
      subst this;rw [show zah rn' 0 ((b.length:Int)-1)=true from zar.mpr (by omega)] at e1;rw [show zah rn' 0 ((g.length:Int)-1)=true from zar.mpr (by omega)] at e1';rw [hbx,hgy] at hh;simp only at hh;have hb':=zay hbr;have hg':=zay hgr;have e2:=zbb x 0 ((kn:Int)-1);cases hhx:atI h x with
      | none =>
       rw [hhx] at hh;have hn:=zjl hhx;have:zah x 0 ((kn:Int)-1)=false:=by
        cases hw:zah x 0 ((kn:Int)-1) with
        | false=>rfl
        | true=>have:=zar.mp hw; omega
       rw [this] at e2;simp only at hh;rw [<- hh] at hR';subst hR';simp [-getElem?_pos,zpa,-za1,v0,v1,v2,v3,v10,v12,hS0,hlt,hr',hb',w1,w1',w2,e1,e1',e2,zbh]
      | some s =>
       obtain ⟨xn,rfl,hhs,hhl2⟩:=zg4 hhx;have:zah xn 0 ((kn:Int)-1)=true:=zar.mpr (by omega);rw [this] at e2;rw [hhx] at hh;have hs':=zm1 hhs;have hsi:=hhi s (bF hhs);have hyi:=hgi y (bF hgr);have hpi:=zm8 (b:=⟨1,y⟩) hsi;have e3:=yay s ⟨1,y⟩ hsi ⟨by unfold inI; simp,hyi⟩;simp only [Int.toNat_natCast] at hh;have hxk:xn<kn:=by omega
       generalize zbk s ⟨1,y⟩=p at *;obtain ⟨⟨pn,pg⟩,pb⟩:=p;simp only [slc] at e3 hh;cases pb with
       | false =>
        rw [if_neg (by simp)] at hh;rw [<- hh] at hR';subst hR';simp [-getElem?_pos,zpa,-za1,v0,v1,v2,v3,v10,v11,v12,hS0,hS,hlt,hr',hb',hg',hs',hxk,w1,w1',w2,e1,e1',e2,e3,y1];simp [zbh]
       | true =>
        rw [if_pos rfl] at hh;have hset:=yph h xn pn pg;simp [-getElem?_pos,zpa,-za1,v0,v1,v2,v3,v11,v12,hS,hlt,hr',hb',hg',hs',hxk,w1,w1',w2,e1,e1',e2,e3,hws,hset,z1];refine zai (n-1) (by omega) ⟨i+1,h.set xn ⟨pn,pg⟩,by omega,by simp [hhl],fun q hq => ?_,hh,by simp [v0],by simp [v1],by simp [v2],by simp [v3],by simp [v10],by simp [v11],by simp,by simp; omega,by simp [y1,hS0]⟩;rcases List.mem_or_eq_of_mem_set hq with h' | h'
        ·exact hhi q h'
        ·subst h'; exact hpi
   ·rw [bN (by omega),zco] at hh;rw [<- hh] at hR';subst hR';simp [-getElem?_pos,zpa,v2,v11,v12,hS,hlt,hhl]
  ·intro s hs;have:=List.eq_of_mem_replicate hs;subst this;exact ⟨by unfold inI; simp,by unfold inI; simp⟩
def zyd (q:Bool) (l:List Sl):PV:=if q then .own 2 (zbh l) else .sl 2 (zbh l)
@[simp] theorem q45 (q:Bool) (l:List Sl):fz (zyd q l) = .sl 2 (zbh l):=by cases q <;> simp [zyd]
def rss (q:Bool) (H:List (List Sl)):List (List PV):=H.map fun l=>[zyd q l]
@[simp] theorem q0t (q:Bool) (H:List (List Sl)):(rss q H).length=H.length:=by simp [rss]
theorem yu7 {q:Bool} {H:List (List Sl)} {i:Nat} {l:List Sl} (h:H[i]?=some l):(rss q H)[i]?=some [zyd q l]:=by simp [rss,h]
theorem yru (H:List (List Sl)) (l:List Sl):rss true H++[[.own 2 (zbh l)]]=rss true (H++[l]):=by simp [rss,zyd]
def zb3 (g rows:List Int):List (List Int)->List (List Int)->Option (List (List Sl))
 | x::c,y::v=>if (zcm y g rows (x.length+1)).2=true then (zb3 g rows c v).map ((zcm y g rows (x.length+1)).1 :: ·) else none
 | _,_=>some []
def zbz (c v:List (List Int)) (g rows:List Int):List (List Sl)×Bool:=if zdb c v=true then match zb3 g rows c v with
  | some h=>(h,true)
  | none=>([],false)
 else ([],false)
theorem yq2 {g rows:List Int} {c v:List (List Int)} {i:Nat} {x y:List Int} (hx:c[i]?=some x) (hy:v[i]?=some y):zb3 g rows (c.drop i) (v.drop i)=if (zcm y g rows (x.length+1)).2=true then (zb3 g rows (c.drop (i+1)) (v.drop (i+1))).map ((zcm y g rows (x.length+1)).1 :: ·) else none:=by
 rw [zcr hx,zcr hy,zb3]
theorem yni {g rows:List Int} {v:List (List Int)}:zb3 g rows [] v=some []:=by simp [zb3]
theorem ycb {b g:List Int} : ∀ (rows:List Int) (h h':List Sl),zco b g rows h=some h'->h'.length=h.length
 | [],h,h',e=>by simp [zco] at e; subst e; rfl
 | r::rs,h,h',e=>by
  simp only [zco] at e;split at e
  ·split at e
   ·split at e
    ·have:=ycb rs _ _ e;simpa using this
    ·cases e
   ·cases e
  ·cases e
theorem qc5 (b g rows:List Int) (k:Int):(zcm b g rows k).1.length<=8:=by
 unfold zcm;split
 ·rename_i hk;have:=zar.mp hk;cases h:zco b g rows (List.replicate k.toNat ⟨0,0⟩) with
  | none=>simp
  | some h'=>have:=ycb _ _ _ h; simp at this; simp; omega
 ·simp
theorem yt1 {g rows:List Int} : ∀ (c v:List (List Int)) (H:List (List Sl)),zb3 g rows c v=some H->H.length<=c.length/\∀ l∈H,l.length<=8
 | [],v,H,h=>by simp [zb3] at h; subst h; simp
 | x::c,[],H,h=>by simp [zb3] at h; subst h; simp
 | x::c,y::v,H,h=>by
  simp only [zb3] at h;split at h
  ·simp only [bB] at h;obtain ⟨H',h1,rfl⟩:=h;obtain ⟨h2,h3⟩:=yt1 c v H' h1;refine ⟨by simp; omega,fun l hl => ?_⟩;rcases List.mem_cons.mp hl with e | e
   ·subst e; exact qc5 _ _ _ _
   ·exact h3 l e
  ·cases h
theorem zqa (c v:List (List Int)) (g rows:List Int):(zbz c v g rows).1.length<=c.length/\∀ l∈(zbz c v g rows).1,l.length<=8:=by
 unfold zbz;split
 ·cases h:zb3 g rows c v with
  | none=>simp
  | some H=>exact yt1 c v H h
 ·simp
theorem zy9 {c v:List (List Int)} (h:zdb c v=true):v.length=c.length/\c.length<=4:=by
 unfold zdb at h;simp only [Bool.and_eq_true,decide_eq_true_eq] at h;have:=zar.mp h.1.1.1;omega
theorem y8d (q:Bool) (c v:List (List Int)) (g rows:List Int) (hc : ∀ l∈c,l.length<=1048576) (hv : ∀ l∈v,l.length<=1048576) (hg:g.length<=1048576) (hr:rows.length<=1048576) (hgi : ∀ x∈g,inI x):RUN T zsr [.agg [.sl 1 (rws q c),.sl 1 (rws q v)],.sl 1 (zab g),.sl 1 (zab rows)]=some ([.own 1 (rss true (zbz c v g rows).1),bv (zbz c v g rows).2],[]):=by
 refine zae rfl rfl ?_;have e:=ylv q c v (fun l hl=>bJ (hc l hl) (by omega)) (fun l hl=>bJ (hv l hl) (by omega));cases hk:zdb c v with
 | false =>
  rw [hk] at e;have e2:zbz c v g rows=([],false):=by unfold zbz; rw [hk]; rfl
  rw [e2];simp [-getElem?_pos,zw5,zw6,e,rss]
 | true =>
  rw [hk] at e;obtain ⟨hvc,hc4⟩:=zy9 hk;obtain ⟨R,hR⟩ : ∃ R,R=zbz c v g rows:=⟨_,rfl⟩;have hR':R=match zb3 g rows c v with
   | some h=>(h,true)
   | none=>([],false):=by rw [hR]; unfold zbz; exact if_pos hk
  rw [<- hR];clear hR;have hr0:zag 24 0=true:=by decide
  have hr1:zag 24 1=true:=by decide
  simp [-getElem?_pos,zw5,zw6,e];refine zao (fun n st => ∃ (i o e:Nat) (H:List (List Sl)),i+n=c.length/\H.length=i/\zb3 g rows c v=(zb3 g rows (c.drop i) (v.drop i)).map (H ++ ·)/\st.V 1 = .sl 1 (zab g)/\st.V 2 = .sl 1 (zab rows)/\st.V 3 = .ptr 0 none 0 0 0/\st.V 8 = .ref o none e 0 H.length/\st.V 18 = .sl 1 (rws q c)/\st.V 19=iv c.length/\st.V 20=iv i/\0<o/\o<st.nx/\st.S 0=some (.box [.sl 1 (rws q c),.sl 1 (rws q v)])/\st.S o=some (.row 1 (rss true H))) ?_ c.length _ ⟨0,1,0,[],by simp [rss]⟩;rintro n st ⟨i,o,ep,H,hi,hH,hL,v1,v2,v3,v8,v18,v19,v20,ho,hox,hS,hSo⟩;obtain ⟨x1,x2,x3,x4⟩:=fr hox;obtain ⟨g1,g2,g3,g4⟩:=fr ho;obtain ⟨z1,z2,z3,z4⟩:=fr (show 0<st.nx by omega)
  by_cases hlt:i<c.length
  ·obtain ⟨x,hx⟩ : ∃ x,c[i]?=some x:=⟨_,bG hlt⟩;obtain ⟨y,hy⟩ : ∃ y,v[i]?=some y:=⟨_,bG (by omega)⟩;have hx':=zc3 (q:=q) hx;have hy':=zc3 (q:=q) hy;have hiv:i<v.length:=by omega
   have hxl:=hc x (bF hx);have hws:=wS hlt (by omega:c.length<=9223372036854775807);have hwl:=w64 (x:=(x.length:Int)+1) (by omega) (by omega);have hh:=y8b y g rows (x.length+1) (hv y (bF hy)) hg hr hgi;have hr24:zag 24 (H.length+1)=true:=by simp [zag]; omega
   rw [yq2 hx hy] at hL;generalize zcm y g rows (x.length+1)=p at *;obtain ⟨ph,pb⟩:=p;simp only at hh hL;cases pb with
   | false =>
    rw [if_neg (by simp)] at hL;rw [hL] at hR';subst hR';simp [-getElem?_pos,z4m,v1,v2,v3,v18,v19,v20,hS,hlt,hx',hy',hwl,hh,rss]
   | true =>
    rw [if_pos rfl] at hL;have hsn:=yru H ph;simp [-getElem?_pos,z4m,v1,v2,v3,v8,v18,v19,v20,hS,hSo,hlt,hx',hy',hwl,hws,hh,hr24,hsn,x1,x3];exact zai (n-1) (by omega) ⟨i+1,st.nx+2,st.ep,H++[ph],by omega,by simp [hH],by rw [hL]; cases zb3 g rows (c.drop (i+1)) (v.drop (i+1)) <;> simp,by simp [v1],by simp [v2],by simp [v3],by simp,by simp [v18],by simp [v19],by simp,by omega,by simp [g1,z1,z2,hS]⟩
  ·have h0:c.drop i=[]:=bN (by omega);rw [h0,yni] at hL;rw [hL] at hR';simp only [Option.map_some,List.append_nil] at hR';subst hR';simp [-getElem?_pos,z4m,v8,v19,v20,hSo,hlt]
theorem y8e (q:Bool) (c v:List (List Int)) (g rows:List Int) (hc : ∀ l∈c,l.length<=1048576) (hv : ∀ l∈v,l.length<=1048576) (hg:g.length<=1048576) (hr:rows.length<=1048576) (hgi : ∀ x∈g,inI x):RUN T zsv [.agg [.sl 1 (rws q c),.sl 1 (rws q v)],.sl 1 (zab g),.sl 1 (zab rows)]=some ([.own 1 (rss true (zbz c v g rows).1),bv (zbz c v g rows).2],[]):=by
 refine zae rfl rfl ?_;have e:=ylw q c v (fun l hl=>bJ (hc l hl) (by omega)) (fun l hl=>bJ (hv l hl) (by omega));cases hk:zdb c v with
 | false =>
  rw [hk] at e;have e2:zbz c v g rows=([],false):=by unfold zbz; rw [hk]; rfl
  rw [e2];have hr0:zag 24 0=true:=by decide
  simp [-getElem?_pos,zxb,zw6,e,rss]
 | true =>
  rw [hk] at e;obtain ⟨hvc,hc4⟩:=zy9 hk;obtain ⟨R,hR⟩ : ∃ R,R=zbz c v g rows:=⟨_,rfl⟩;have hR':R=match zb3 g rows c v with
   | some h=>(h,true)
   | none=>([],false):=by rw [hR]; unfold zbz; exact if_pos hk
  rw [<- hR];clear hR;have hr0:zag 24 0=true:=by decide
  have hr1:zag 24 1=true:=by decide
  simp [-getElem?_pos,zxb,zw6,e];refine zao (fun n st => ∃ (i o e:Nat) (H:List (List Sl)),i+n=c.length/\H.length=i/\zb3 g rows c v=(zb3 g rows (c.drop i) (v.drop i)).map (H ++ ·)/\st.V 1 = .sl 1 (zab g)/\st.V 2 = .sl 1 (zab rows)/\st.V 3 = .ptr 0 none 0 0 0/\st.V 8 = .ref o none e 0 H.length/\st.V 9=iv i/\0<o/\o<st.nx/\st.S 0=some (.box [.sl 1 (rws q c),.sl 1 (rws q v)])/\st.S o=some (.row 1 (rss true H))) ?_ c.length _ ⟨0,1,0,[],by simp [rss]⟩;rintro n st ⟨i,o,ep,H,hi,hH,hL,v1,v2,v3,v8,v9,ho,hox,hS,hSo⟩;obtain ⟨x1,x2,x3,x4⟩:=fr hox;obtain ⟨g1,g2,g3,g4⟩:=fr ho;obtain ⟨z1,z2,z3,z4⟩:=fr (show 0<st.nx by omega)
  by_cases hlt:i<c.length
  ·obtain ⟨x,hx⟩ : ∃ x,c[i]?=some x:=⟨_,bG hlt⟩;obtain ⟨y,hy⟩ : ∃ y,v[i]?=some y:=⟨_,bG (by omega)⟩;have hx':=zc3 (q:=q) hx;have hy':=zc3 (q:=q) hy;have hiv:i<v.length:=by omega
   have hxl:=hc x (bF hx);have hws:=wS hlt (by omega:c.length<=9223372036854775807);have hwl:=w64 (x:=(x.length:Int)+1) (by omega) (by omega);have hh:=y8c y g rows (x.length+1) (hv y (bF hy)) hg hr hgi;have hr24:zag 24 (H.length+1)=true:=by simp [zag]; omega
   rw [yq2 hx hy] at hL;generalize zcm y g rows (x.length+1)=p at *;obtain ⟨ph,pb⟩:=p;simp only at hh hL;cases pb with
   | false =>
    rw [if_neg (by simp)] at hL;rw [hL] at hR';subst hR';simp [-getElem?_pos,z4z,v1,v2,v3,v9,hS,hlt,hx',hy',hwl,hh,rss]
   | true =>
    rw [if_pos rfl] at hL;have hsn:=yru H ph;simp [-getElem?_pos,z4z,v1,v2,v3,v8,v9,hS,hSo,hlt,hx',hy',hwl,hws,hh,hr24,hsn,x1,x3];exact zai (n-1) (by omega) ⟨i+1,st.nx+2,st.ep,H++[ph],by omega,by simp [hH],by rw [hL]; cases zb3 g rows (c.drop (i+1)) (v.drop (i+1)) <;> simp,by simp [v1],by simp [v2],by simp [v3],by simp,by simp,by omega,by simp [g1,z1,z2,hS]⟩
  ·have h0:c.drop i=[]:=bN (by omega);rw [h0,yni] at hL;rw [hL] at hR';simp only [Option.map_some,List.append_nil] at hR';subst hR';simp [-getElem?_pos,z4z,v3,v8,v9,hS,hSo,hlt]
def ys7 (k:Int) (n:Nat):List Sl:=(List.range n).map fun (i:Nat)=>⟨k+2*(i:Int),k+2*(i:Int)+1⟩
@[simp] theorem qxu (k:Int) (n:Nat):(ys7 k n).length=n:=by simp [ys7]
theorem ymb (x:Int):RUN T zom [iv x]=some ([bv false],[]):=by
 refine zae rfl rfl ?_;simp [z6w,ztr]
theorem ymc (x y:Int):RUN T zok [iv x,iv y]=some ([iv (zcp x y)],[]):=by
 refine zae rfl rfl ?_;have e1:=ymb x;have e2:=ymb y;unfold zcp
 by_cases h1:x<y
 ·simp [zul,zvz,e1,e2,h1]
 ·by_cases h2:y<x
  ·simp [zul,zvz,e1,e2,h1,h2]
  ·simp [zul,zvz,e1,e2,h1,h2]
end Go.Pe
