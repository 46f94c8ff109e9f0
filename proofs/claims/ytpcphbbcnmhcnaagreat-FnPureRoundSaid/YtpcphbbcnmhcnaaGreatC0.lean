/- What each function answers by the evaluator,and the law; for each answer its own conditions stand ahead of it. -/
import Derived.Test.YtpcphbbcnmhcnaaGreatK1
import Derived.Test.YtpcphbbcnmhcnaaGreatEvB2
import Derived.IntWalk
set_option linter.all false
set_option maxHeartbeats 8000000
set_option maxRecDepth 8000
namespace Go.Pe
open Go
theorem w64 {x:Int} (h1 : -9223372036854775808<=x) (h2:x<=9223372036854775807):IntKind.i64.wrap x=x:=IntWalk.i64_in x ⟨h1,h2⟩
@[simp] theorem qy3 {x:Int} (h1 : -9223372036854775808<=x) (h2:x<=9223372036854775807):IntKind.i64.wrap x=x:=w64 h1 h2
structure Nd where
 f:Int
 c:Int
 l:Int
 r:Int
 v:Int
deriving DecidableEq
def nd (n:Nd):List PV:=[iv n.f,iv n.c,iv n.l,iv n.r,iv n.v]
@[simp] theorem qoc (a b c d e:Int):RUN T znj [.agg [iv a,iv b,iv c,iv d,iv e]]=some ([bv (decide (a = -1))],[]):=by
 refine zae rfl rfl ?_;simp [z2a,zvo]
@[simp] theorem zbm (a b c:Int):RUN T zbu [iv a,iv b,iv c]=some ([bv (decide (b<=a) && decide (a<=c))],[]):=by
 refine zae rfl rfl ?_;simp [z0e,zzs];refine zat (fun h => ?_) (fun h => ?_) <;> simp [h]
@[simp] theorem qod (a b c d e:Int):RUN T zha [.agg [iv a,iv b,iv c,iv d,iv e]]=some ([bv (!decide (a = -1))],[]):=by
 refine zae rfl rfl ?_;simp [z3d,zvo]
@[simp] theorem za0 (a b c:Int):RUN T zbj [iv a,iv b,iv c]=some ([bv (decide (b<=a) && decide (a<=c))],[]):=by
 refine zae rfl rfl ?_;simp [zzr,zzs];refine zat (fun h => ?_) (fun h => ?_) <;> simp [h]
def zg8 {α:Type} (p:α->Bool) (l:List α):Int:=match l.findIdx? p with
 | some i=>(i:Int)
 | none => -1
theorem zyo {α:Type} {p:α->Bool} {l:List α} (h : ∀ (j:Nat) (x:α),j<l.length->l[j]?=some x->p x=false):zg8 p l = -1:=by
 unfold zg8;have:l.findIdx? p=none:=by
  rw [List.findIdx?_eq_none_iff];intro x hx;obtain ⟨j,hj⟩:=bH hx;exact h j x (bD hj).1 hj
 rw [this]
theorem zxw {α:Type} {p:α->Bool} {l:List α} {i:Nat} {x:α} (hi:l[i]?=some x) (hp:p x=true) (h : ∀ (j:Nat) (x:α),j<i->l[j]?=some x->p x=false):zg8 p l=i:=by
 unfold zg8;have:l.findIdx? p=some i:=by
  rw [List.findIdx?_eq_some_iff_getElem];obtain ⟨h1,h2⟩:=bD hi;refine ⟨h1,by rw [h2]; exact hp,fun j hj => ?_⟩;have:=h j l[j] hj (bG (by omega));simp [this]
 rw [this]
theorem z9d {α:Type} {p:α->Bool} {l:List α} {i:Nat} {x:α} (h : ∀ (j:Nat) (x:α),j<i->l[j]?=some x->p x=false) (hi:l[i]?=some x) (hp:p x=false) : ∀ (j:Nat) (x:α),j<i+1->l[j]?=some x->p x=false:=by
 intro j y hj hy
 by_cases e:j=i
 ·subst e; rw [hi] at hy; cases hy; exact hp
 ·exact h j y (by omega) hy
def zi3 (k:Int) (n:Nd):Bool := !decide (n.f = -1) && (decide (n.l=k) || decide (n.r=k))
def par (t:List Nd) (k:Int):Int:=zg8 (zi3 k) t
theorem wS {i n:Nat} (h:i<n) (hn:n<=9223372036854775807):IntKind.i64.wrap ((i:Int)+1)=(i:Int)+1:=w64 (by omega) (by omega)
theorem yk1 (t:List Nd) (k:Int) (hl:t.length<=9223372036854775807):RUN T zlr [.agg [.sl 5 (t.map nd)],iv k]=some ([iv (par t k)],[]):=by
 refine zae rfl rfl ?_;simp [z3p,zvr];refine zan (fun n st => ∃ i:Nat,i+n=t.length/\st.V 1=iv k/\st.V 2 = .ptr 0 none 0 0 0/\st.V 5=iv i/\st.S 0=some (.box [.sl 5 (t.map nd)])/\∀ (j:Nat) (x:Nd),j<i->t[j]?=some x->zi3 k x=false) ?_ t.length _ ⟨0,by simp⟩;rintro n st ⟨i,hi,h1,h2,h5,hS,hj⟩;simp [ye1,h1,h2,h5,hS];refine zat (fun h => ?_) (fun h => ?_)
 ·simp at h;obtain ⟨x,hx⟩ : ∃ x,t[i]?=some x:=⟨_,bG h⟩;have hw:=wS h hl;simp [h1,h2,h5,hS,hx,nd,hw];refine zat (fun b0 => ?_) (fun b0 => ?_) <;> (try simp at b0) <;> simp [-getElem?_pos,b0,h1,h2,h5,hS,hx,nd,hw]
  all_goals try (refine zat (fun b1 => ?_) (fun b1 => ?_) <;> (try simp at b1) <;> simp [-getElem?_pos,b0,b1,h1,h2,h5,hS,hx,nd,hw])
  all_goals try (refine zat (fun b2 => ?_) (fun b2 => ?_) <;> (try simp at b2) <;> simp [-getElem?_pos,b0,b1,b2,h1,h2,h5,hS,hx,nd,hw])
  all_goals first
   | exact (zxw hx (by simp [zi3, *]) hj).symm
   | exact zah (n-1) (by omega) ⟨i+1,by omega,by simp [h1],by simp [h2],by simp,by simp [hS],z9d hj hx (by simp [zi3, *])⟩
 ·simp at h;simp [h];exact (zyo fun j x hl hx=>hj j x (by omega) hx).symm
def lev (t:List Nd):Nat->Int->Int
 | 0,_ => -1
 | n+1,k=>if par t k<0 then 31-n else lev t n (par t k)
theorem y6i (t:List Nd) (k:Int) (hl:t.length<=9223372036854775807):RUN T zns [.agg [.sl 5 (t.map nd)],iv k]=some ([iv (if 0<=k/\k<=t.length-1 then lev t 32 k else -1)],[]):=by
 refine zae rfl rfl ?_;have hw:IntKind.i64.wrap ((t.length:Int)-1)=(t.length:Int)-1:=w64 (by omega) (by omega);simp [z3n,zvr,hw];refine zat (fun h => ?_) (fun h => ?_)
 ·simp at h;simp [h];intro h1 h2;omega
 ·have h':(0<=k/\k<=t.length-1):=by simpa using h
  rw [if_pos h'];clear h;obtain ⟨r,hr⟩ : ∃ r,r=lev t 32 k:=⟨_,rfl⟩;rw [<- hr];simp;refine zan (fun n st => ∃ i:Nat,i+n=32/\∃ k':Int,lev t n k'=r/\st.V 1=iv k'/\st.V 2 = .ptr 0 none 0 0 0/\st.V 5=iv i/\st.S 0=some (.box [.sl 5 (t.map nd)])) ?_ 32 _ ⟨0,by simp [hr]⟩;rintro n st ⟨i,hi,k',hk,h1,h2,h5,hS⟩;simp [ye0,h1,h2,h5,hS];refine zat (fun h => ?_) (fun h => ?_)
  ·simp at h;have hw:IntKind.i64.wrap ((i:Int)+1)=(i:Int)+1:=w64 (by omega) (by omega);obtain ⟨m,rfl⟩ : ∃ m,n=m+1:=⟨n-1,by omega⟩;simp only [lev] at hk;simp [-getElem?_pos,h1,h2,h5,hS,hw,yk1 t k' hl];refine zat (fun b0 => ?_) (fun b0 => ?_) <;> (try simp at b0) <;> simp [-getElem?_pos,b0,h1,h2,h5,hS,hw]
   ·rw [if_pos b0] at hk; omega
   ·rw [if_neg (by omega)] at hk;exact zah m (by omega) ⟨i+1,by omega,_,hk,by simp [h2,hS]⟩
  ·simp at h;obtain rfl:n=0:=by omega
   simp only [lev] at hk;simp [<- hk]
def zab (l:List Int):List (List PV):=l.map fun n=>[iv n]
@[simp] theorem qx4 (l:List Int):(zab l).length=l.length:=by simp [zab]
theorem zax {l:List Int} {i:Nat} {x:Int} (h:l[i]?=some x):(zab l)[i]?=some [iv x]:=by simp [zab,h]
@[simp] theorem qrv:zab []=[]:=rfl
theorem zx4 (x:Int) (l:List Int):zab (x::l)=[iv x]::zab l:=rfl
theorem zyf (l:List Int) (i:Nat) (x:Int):(zab l).set i [iv x]=zab (l.set i x):=by simp [zab,List.map_set]
theorem qbi (l m:List Int):zab l++zab m=zab (l++m):=by simp [zab]
theorem zbn (l:List Int) (x:Int):zab l++[[iv x]]=zab (l++[x]):=by simp [zab]
theorem ytk (l:List Int):zcf (zab l)=true:=by simp [zcf,zab]
def anc (t:List Nd):Nat->Int->Option (List Int)
 | 0,_=>none
 | n+1,k=>if par t k<0 then some [] else (anc t n (par t k)).map (par t k :: ·)
theorem ybw (t:List Nd) (n:Nat) (k:Int):anc t (n+1) k=if par t k<0 then some [] else (anc t n (par t k)).map (par t k :: ·):=rfl
def way (t:List Nd) (k:Int):List Int:=if 0<=k/\k<=t.length-1 then match anc t 32 k with
  | some l=>(k::l).reverse
  | none=>[]
 else []
theorem zbv {n:Nat} (h:n<=17592186044416):zag 8 n=true:=by simp [zag]; omega
theorem yud (t:List Nd) : ∀ (n:Nat) (k:Int) (l:List Int),anc t n k=some l->l.length<n
 | 0,k,l,h=>by simp [anc] at h
 | n+1,k,l,h=>by
  rw [ybw] at h;split at h
  ·cases h; simp
  ·simp at h;obtain ⟨m,hm,rfl⟩:=h;have:=yud t n _ m hm;simp; omega
def upto (k:Int) (n:Nat):List Int:=(List.range n).map fun (i:Nat)=>k+(i:Int)
@[simp] theorem qux (k:Int) (n:Nat):(upto k n).length=n:=by simp [upto]
def lvs:List Nd->Int->List Int
 | [],_=>[]
 | x::xs,i=>if x.f = -1 then i::lvs xs (i+1) else lvs xs (i+1)
theorem zyq : ∀ (t:List Nd) (i:Int),(lvs t i).length<=t.length
 | [],_=>by simp [lvs]
 | x::xs,i=>by
  have:=zyq xs (i+1);simp only [lvs];split <;> simp <;> omega
theorem zc9 {α:Type} {l:List α} {i:Nat} {x:α} (h:l[i]?=some x):l.drop i=x::l.drop (i+1):=by
 obtain ⟨h1,h2⟩:=bD h;rw [List.drop_eq_getElem_cons h1,h2]
theorem y6j (t:List Nd) (hl:t.length<=1048576):RUN T zsc [.agg [.sl 5 (t.map nd)]]=some ([.own 1 (zab (lvs t 0))],[]):=by
 refine zae rfl rfl ?_;simp [z3v,zzy];refine zan (fun n st => ∃ i:Nat,i+n=t.length/\∃ (m:List Int) (o e:Nat),m++lvs (t.drop i) i=lvs t 0/\st.V 1 = .ptr 0 none 0 0 0/\st.V 3 = .ref o none e 0 m.length/\st.V 4=iv i/\0<o/\o<st.nx/\st.S o=some (.row 1 (zab m))/\st.S 0=some (.box [.sl 5 (t.map nd)])) ?_ t.length _ ⟨0,by simp,[],1,0,by simp⟩;rintro n st ⟨i,hi,m,o,e,hm,h1,h3,h4,ho,hox,hSo,hS⟩;simp [ye2,h1,h3,h4,hS];refine zat (fun h => ?_) (fun h => ?_)
 ·simp at h;obtain ⟨x,hx⟩ : ∃ x,t[i]?=some x:=⟨_,bG h⟩;have hw:=wS h (by omega:t.length<=9223372036854775807);have hr:zag 8 (m.length+1)=true:=zbv (by
   have h5:=congrArg List.length hm;have h6:=zyq t 0;simp at h5; omega)
  have n1 : ¬ o=st.nx:=by omega
  have n2 : ¬ 0=o:=by omega
  have n3 : ¬ 0=st.nx:=by omega
  simp [-getElem?_pos,h1,h3,h4,hS,hSo,n1,n2,n3,hx,nd,hw,hr,zbn];refine zat (fun b0 => ?_) (fun b0 => ?_) <;> (try simp at b0) <;> simp [-getElem?_pos,b0,h1,h3,h4,hS,hSo,n1,n2,n3,hx,hw,hr,zbn]
  ·refine zah (n-1) (by omega) ⟨i+1,by omega,m++[(i:Int)],st.nx+1,st.ep,?_,by simp [h1],by simp,by simp,by omega,by simp [n2,n3,hS]⟩;rw [<- hm,zc9 hx,lvs,if_pos b0]; simp
  ·refine zah (n-1) (by omega) ⟨i+1,by omega,m,o,e,?_,by simp [h1],by simp [h3],by simp,by omega,by simp [hox,hSo,hS]⟩;rw [<- hm,zc9 hx,lvs,if_neg b0]; simp
 ·simp at h;have e:m=lvs t 0:=by rw [<- hm,List.drop_eq_nil_of_le h]; simp [lvs]
  simp [h3,hSo,e]
theorem y6k (t:List Nd) (hl:t.length<=1048576):RUN T zr0 [.agg [.sl 5 (t.map nd)]]=some ([.own 1 (zab (lvs t 0))],[]):=by
 refine zae rfl rfl ?_;simp [z2x,zzy];refine zan (fun n st => ∃ i:Nat,i+n=t.length/\∃ (m:List Int) (o e:Nat),m++lvs (t.drop i) i=lvs t 0/\st.V 8 = .sl 5 (t.map nd)/\st.V 9=iv t.length/\st.V 3 = .ref o none e 0 m.length/\st.V 10=iv i/\o<st.nx/\st.S o=some (.row 1 (zab m))) ?_ t.length _ ⟨0,by simp,[],1,0,by simp⟩;rintro n st ⟨i,hi,m,o,e,hm,h8,h9,h3,h10,hox,hSo⟩;simp [yew,h8,h9,h10];refine zat (fun h => ?_) (fun h => ?_)
 ·simp at h;obtain ⟨x,hx⟩ : ∃ x,t[i]?=some x:=⟨_,bG h⟩;have hw:=wS h (by omega:t.length<=9223372036854775807);have hr:zag 8 (m.length+1)=true:=zbv (by
   have h5:=congrArg List.length hm;have h6:=zyq t 0;simp at h5; omega)
  have n1 : ¬ o=st.nx:=by omega
  have n2 : ¬ o=st.nx+1:=by omega
  simp [-getElem?_pos,h8,h9,h3,h10,hSo,n1,n2,hx,nd,hw,hr,zbn];refine zat (fun b0 => ?_) (fun b0 => ?_) <;> (try simp at b0) <;> simp [-getElem?_pos,b0,h8,h9,h3,h10,hSo,n1,n2,hx,hw,hr,zbn]
  ·refine zah (n-1) (by omega) ⟨i+1,by omega,m++[(i:Int)],st.nx+2,st.ep,?_,by simp [h8,h9]⟩;rw [<- hm,zc9 hx,lvs,if_pos b0]; simp
  ·refine zah (n-1) (by omega) ⟨i+1,by omega,m,o,e,?_,by simp [h8],by simp [h9],by simp [h3],by simp,by simp; omega,by simp [hSo,n1]⟩;rw [<- hm,zc9 hx,lvs,if_neg b0]; simp
 ·simp at h;have e:m=lvs t 0:=by rw [<- hm,List.drop_eq_nil_of_le h]; simp [lvs]
  simp [h3,hSo,e]
@[simp] theorem qoe (a b:Int):RUN T zsa [iv a,iv b]=some ([iv (max a b)],[]):=by
 refine zae rfl rfl ?_;simp [z3l,zvr];refine zat (fun b0 => ?_) (fun b0 => ?_) <;> (try simp at b0) <;> simp [-getElem?_pos,b0,]
 all_goals omega
def yq1 (t:List Nd) (k:Int):Int:=if 0<=k/\k<=t.length-1 then lev t 32 k else -1
theorem y6l (t:List Nd) (k:Int) (hl:t.length<=9223372036854775807):RUN T zns [.agg [.sl 5 (t.map nd)],iv k]=some ([iv (yq1 t k)],[]):=y6i t k hl
def dpt (t:List Nd):Nat->Int
 | 0 => -1
 | i+1=>max (dpt t i) (yq1 t i)
theorem y6m (t:List Nd) (hl:t.length<=9223372036854775807):RUN T zrd [.agg [.sl 5 (t.map nd)]]=some ([iv (dpt t t.length)],[]):=by
 refine zae rfl rfl ?_;simp [z04,zvo];refine zan (fun n st => ∃ i:Nat,i+n=t.length/\st.V 1 = .ptr 0 none 0 0 0/\st.V 3=iv (dpt t i)/\st.V 4=iv i/\st.S 0=some (.box [.sl 5 (t.map nd)])) ?_ t.length _ ⟨0,by simp [dpt]⟩;rintro n st ⟨i,hi,h1,h3,h4,hS⟩;simp [yep,h1,h3,h4,hS];refine zat (fun h => ?_) (fun h => ?_)
 ·simp at h;have hw:=wS h hl;simp [h1,h3,h4,hS,hw,y6l t i hl];exact zah (n-1) (by omega) ⟨i+1,by omega,by simp [h1,dpt,hS]⟩
 ·simp at h;obtain rfl:i=t.length:=by omega
  simp [h3]
def rt (t:List Nd) (row:List Int):Nat->Int->Option (List Int)
 | 0,_=>none
 | n+1,a=>match (if 0<=a then t[a.toNat]? else none) with
  | none=>none
  | some x=>if x.f = -1 then some [a] else match (if 0<=x.f then row[x.f.toNat]? else none) with
   | none=>none
   | some y=>(rt t row n (if y<=x.c then x.l else x.r)).map (a :: ·)
theorem yr6 {t:List Nd} {row:List Int} {n:Nat} {a:Int} (h:a<0\/(t.length:Int)-1<a):rt t row n a=none:=by
 cases n with
 | zero=>rfl
 | succ n =>
  rw [rt];have:(if 0<=a then t[a.toNat]? else none)=none:=by
   split
   ·exact List.getElem?_eq_none (by omega)
   ·rfl
  rw [this]
theorem yp2 {t:List Nd} {row:List Int} {n a:Nat} {x:Nd} (hx:t[a]?=some x) (h:x.f = -1):rt t row (n+1) a=some [(a:Int)]:=by
 rw [rt]; simp [hx,h]
theorem yr2 {t:List Nd} {row:List Int} {n a:Nat} {x:Nd} (hx:t[a]?=some x) (h:x.f ≠ -1) (h2:x.f<0\/(row.length:Int)-1<x.f):rt t row (n+1) a=none:=by
 rw [rt];have:(if 0<=x.f then row[x.f.toNat]? else none)=none:=by
  split
  ·exact List.getElem?_eq_none (by omega)
  ·rfl
 simp [hx,h,this]
theorem yrp {t:List Nd} {row:List Int} {n a f:Nat} {x:Nd} {y:Int} (hx:t[a]?=some x) (h:x.f=f) (hy:row[f]?=some y):rt t row (n+1) a=(rt t row n (if y<=x.c then x.l else x.r)).map ((a:Int) :: ·):=by
 rw [rt];have:x.f ≠ -1:=by omega
 simp [hx,this,h,hy]
def zio (t:List Nd) (row:List Int):List Int:=(rt t row (t.length+1) 0).getD []
theorem y6n (t:List Nd) (row:List Int) (hl:t.length<=1048576) (hr:row.length<=1048576):RUN T zr9 [.agg [.sl 5 (t.map nd)],.sl 1 (zab row)]=some ([.own 1 (zab (zio t row))],[]):=by
 refine zae rfl rfl ?_;simp [z3h,z1v];obtain ⟨r,hrr⟩ : ∃ r,r=rt t row (t.length+1) 0:=⟨_,rfl⟩;unfold zio;rw [<- hrr];refine zan (fun n st => ∃ i:Nat,i+n=t.length+1/\∃ (a:Int) (m:List Int) (o e:Nat),m.length=i/\(rt t row n a).map (m ++ ·)=r/\st.V 1 = .sl 1 (zab row)/\st.V 2 = .ptr 0 none 0 0 0/\st.V 5 = .ref o none e 0 m.length/\st.V 6=iv a/\st.V 7=iv i/\0<o/\o<st.nx/\st.S o=some (.row 1 (zab m))/\st.S 0=some (.box [.sl 5 (t.map nd)])) ?_ (t.length+1) _ ⟨0,by simp,0,[],1,0,by simp [hrr]⟩;rintro n st ⟨i,hi,a,m,o,e,hmi,hm,h1,h2,h5,h6,h7,ho,hox,hSo,hS⟩;simp [yez,h1,h2,h5,h6,h7,hS];refine zat (fun h => ?_) (fun h => ?_)
 ·simp at h;obtain ⟨q,rfl⟩ : ∃ q,n=q+1:=⟨n-1,by omega⟩;have hw:=w64 (x:=(t.length:Int)-1) (by omega) (by omega);have hwi:=w64 (x:=(i:Int)+1) (by omega) (by omega);have hwr:=w64 (x:=(row.length:Int)-1) (by omega) (by omega);simp [h1,h2,h5,h6,h7,hS,hw];refine zat (fun h3 => ?_) (fun h3 => ?_)
  ·simp at h3;rw [yr6 h3] at hm;simp at hm;simp [<- hm]
  ·have h3':0<=a/\a<=(t.length:Int)-1:=by simpa using h3
   obtain ⟨a,rfl⟩ : ∃ a':Nat,a=a':=⟨a.toNat,by omega⟩;obtain ⟨x,hx⟩ : ∃ x,t[a]?=some x:=⟨_,bG (by omega)⟩;have z1:=fr hox;have z2:=fr ho;have z3:=fr (by omega:0<st.nx);have hr8:=zbv (n:=m.length+1) (by omega);simp [-getElem?_pos,h1,h2,h5,h6,h7,hS,hSo,z1,z2,z3,hx,nd,hr8,zbn,hwr];refine zat (fun h4 => ?_) (fun h4 => ?_)
   ·simp at h4;rw [yp2 hx h4] at hm;simp at hm;simp [<- hm]
   ·simp at h4;simp [-getElem?_pos,h1,h2,h5,h6,h7,hS,hSo,z1,z2,z3,hx,hr8,zbn,hwr];refine zat (fun h8 => ?_) (fun h8 => ?_)
    ·simp at h8;rw [yr2 hx h4 h8] at hm;simp at hm;simp [<- hm]
    ·have h8':0<=x.f/\x.f<=(row.length:Int)-1:=by simpa using h8
     obtain ⟨f,hf⟩ : ∃ f:Nat,x.f=f:=⟨x.f.toNat,by omega⟩;obtain ⟨y,hy⟩ : ∃ y,row[f]?=some y:=⟨_,bG (by omega)⟩;have hfl:f<row.length:=by omega
     rw [yrp hx hf hy] at hm;have hy':=zax hy;simp [-getElem?_pos,h1,h2,h5,h6,h7,hS,hSo,z1,z2,z3,hr8,zbn,hwr,hf,hy',hfl,hwi];refine zat (fun b0 => ?_) (fun b0 => ?_) <;> (try simp at b0) <;> simp [-getElem?_pos,b0,h1,h2,h5,h6,h7,hS,hSo,z1,z2,z3,hf,hwi]
     all_goals
      refine zah q (by omega) ⟨i+1,by omega,_,m++[(a:Int)],st.nx+2,st.ep,by simp [hmi],?_,by simp [h1],by simp [h2],by simp,by simp; rfl,by simp,by omega,by simp [z2,z3,hS]⟩;rw [<- hm]
      first | rw [if_pos b0] | rw [if_neg (by omega)]
      simp [Function.comp_def]
 ·simp at h;obtain rfl:n=0:=by omega
  simp [rt] at hm;simp [<- hm]
theorem y6o (t:List Nd) (row:List Int) (hl:t.length<=1048576) (hr:row.length<=1048576):RUN T zrp [.agg [.sl 5 (t.map nd)],.sl 1 (zab row)]=some ([.own 1 (zab (zio t row))],[]):=by
 refine zae rfl rfl ?_;have hw1:=w64 (x:=(t.length:Int)+1) (by omega) (by omega);simp [z2c,z1v,hw1];obtain ⟨r,hrr⟩ : ∃ r,r=rt t row (t.length+1) 0:=⟨_,rfl⟩;unfold zio;rw [<- hrr];refine zan (fun n st => ∃ i:Nat,i+n=t.length+1/\∃ (a:Int) (m:List Int) (o e:Nat),m.length=i/\(rt t row n a).map (m ++ ·)=r/\st.V 1 = .sl 1 (zab row)/\st.V 2 = .ptr 0 none 0 0 0/\st.V 5 = .ref o none e 0 m.length/\st.V 6=iv a/\st.V 13=iv i/\st.V 12=iv ((t.length:Int)+1)/\0<o/\o<st.nx/\st.S o=some (.row 1 (zab m))/\st.S 0=some (.box [.sl 5 (t.map nd)])) ?_ (t.length+1) _ ⟨0,by simp,0,[],1,0,by simp [hrr]⟩;rintro n st ⟨i,hi,a,m,o,e,hmi,hm,h1,h2,h5,h6,h13,h12,ho,hox,hSo,hS⟩;simp [yev,h13,h12];refine zat (fun h => ?_) (fun h => ?_)
 ·simp at h;obtain ⟨q,rfl⟩ : ∃ q,n=q+1:=⟨n-1,by omega⟩;have hw:=w64 (x:=(t.length:Int)-1) (by omega) (by omega);have hwi:=w64 (x:=(i:Int)+1) (by omega) (by omega);have hwr:=w64 (x:=(row.length:Int)-1) (by omega) (by omega);simp [h1,h2,h5,h6,hS,hw];refine zat (fun h3 => ?_) (fun h3 => ?_)
  ·simp at h3;rw [yr6 h3] at hm;simp at hm;simp [<- hm]
  ·have h3':0<=a/\a<=(t.length:Int)-1:=by simpa using h3
   obtain ⟨a,rfl⟩ : ∃ a':Nat,a=a':=⟨a.toNat,by omega⟩;obtain ⟨x,hx⟩ : ∃ x,t[a]?=some x:=⟨_,bG (by omega)⟩;have z1:=fr hox;have z2:=fr ho;have z3:=fr (by omega:0<st.nx);have hr8:=zbv (n:=m.length+1) (by omega);simp [-getElem?_pos,h1,h2,h5,h6,hS,hSo,z1,z2,z3,hx,nd,hr8,zbn,hwr];refine zat (fun h4 => ?_) (fun h4 => ?_)
   ·simp at h4;rw [yp2 hx h4] at hm;simp at hm;simp [<- hm]
   ·simp at h4;simp [-getElem?_pos,h1,h2,h5,h6,hS,hSo,z1,z2,z3,hx,hr8,zbn,hwr];refine zat (fun h8 => ?_) (fun h8 => ?_)
    ·simp at h8;rw [yr2 hx h4 h8] at hm;simp at hm;simp [<- hm]
    ·have h8':0<=x.f/\x.f<=(row.length:Int)-1:=by simpa using h8
     obtain ⟨f,hf⟩ : ∃ f:Nat,x.f=f:=⟨x.f.toNat,by omega⟩;obtain ⟨y,hy⟩ : ∃ y,row[f]?=some y:=⟨_,bG (by omega)⟩;have hfl:f<row.length:=by omega
     rw [yrp hx hf hy] at hm;have hy':=zax hy;simp [-getElem?_pos,h1,h2,h5,h6,h13,h12,hS,hSo,z1,z2,z3,hr8,zbn,hwr,hf,hy',hfl,hwi];refine zat (fun b0 => ?_) (fun b0 => ?_) <;> (try simp at b0) <;> simp [-getElem?_pos,b0,h1,h2,h5,h6,h13,h12,hS,hSo,z1,z2,z3,hf,hwi]
     all_goals
      refine zah q (by omega) ⟨i+1,by omega,_,m++[(a:Int)],st.nx+2,st.ep,by simp [hmi],?_,by simp [h1],by simp [h2],by simp,by simp; rfl,by simp,by simp [h12],by omega,by simp [z2,z3,hS]⟩;rw [<- hm]
      first | rw [if_pos b0] | rw [if_neg (by omega)]
      simp [Function.comp_def]
 ·simp at h;obtain rfl:n=0:=by omega
  simp [rt] at hm;simp [<- hm]
theorem ym8 (t:List Nd) (row:List Int) : ∀ (n:Nat) (a:Int) (l:List Int),rt t row n a=some l->l.length<=n/\l≠[]/\∀ k∈l,0<=k/\k<t.length
 | 0,_,_,h=>by cases h
 | n+1,a,l,h=>by
  rw [rt] at h;have ha : ∀ x,(if 0<=a then t[a.toNat]? else none)=some x->0<=a/\a<t.length:=by
   intro x hx;split at hx
   ·have:=(bD hx).1; omega
   ·cases hx
  split at h
  ·cases h
  ·rename_i x hx;have hax:=ha x hx;split at h
   ·cases h; simpa using hax
   ·split at h
    ·cases h
    ·simp only [bB] at h;obtain ⟨m,hm,rfl⟩:=h;have:=ym8 t row n _ m hm;refine ⟨by simp; omega,by simp,fun k hk => ?_⟩;rcases List.mem_cons.mp hk with e | e
     ·subst e; exact hax
     ·exact this.2.2 k e
theorem ya3 (t:List Nd) (row:List Int):(zio t row).length<=t.length+1/\∀ k∈zio t row,0<=k/\k<t.length:=by
 unfold zio;cases h:rt t row (t.length+1) 0 with
 | none=>simp
 | some l=>have:=ym8 t row _ _ l h; exact ⟨this.1,this.2.2⟩
def rto (t:List Nd) (row:List Int):Int:=((zio t row).getLast?).getD (-1)
theorem yph {t:List Nd} {row:List Int}:rto t row = -1\/∃ i:Nat,rto t row=i/\i<t.length:=by
 unfold rto;cases h:(zio t row).getLast? with
 | none=>exact .inl rfl
 | some k =>
  have:=(ya3 t row).2 k (List.mem_of_getLast? h);exact .inr ⟨k.toNat,by simp; omega,by omega⟩
theorem y6p (t:List Nd) (row:List Int) (hl:t.length<=1048576) (hr:row.length<=1048576):RUN T zrb [.agg [.sl 5 (t.map nd)],.sl 1 (zab row)]=some ([iv (rto t row)],[]):=by
 refine zae rfl rfl ?_;have hw:=(ya3 t row).1;simp [z00,zvr,y6n t row hl hr];refine zat (fun h => ?_) (fun h => ?_)
 ·simp at h;simp [rto,h]
 ·simp at h;obtain ⟨l,x,hlx⟩ : ∃ l x,zio t row=l++[x]:=⟨_,_,(List.dropLast_concat_getLast h).symm⟩;have e1:rto t row=x:=by simp [rto,hlx]
  rw [e1];rw [hlx] at hw ⊢;simp at hw;have hwr:IntKind.i64.wrap (l.length:Int)=(l.length:Int):=w64 (by omega) (by omega);have hg:=zax (l:=l++[x]) (i:=l.length) (x:=x) (by simp);simp [-getElem?_pos,hwr,hg]
theorem y6q (t:List Nd) (row:List Int) (hl:t.length<=1048576) (hr:row.length<=1048576):RUN T zq0 [.agg [.sl 5 (t.map nd)],.sl 1 (zab row)]=some ([iv (rto t row)],[]):=by
 refine zae rfl rfl ?_;have hw:=(ya3 t row).1;simp [z0o,zvr,y6o t row hl hr];refine zat (fun h => ?_) (fun h => ?_)
 ·simp at h;simp [rto,h]
 ·simp at h;obtain ⟨l,x,hlx⟩ : ∃ l x,zio t row=l++[x]:=⟨_,_,(List.dropLast_concat_getLast h).symm⟩;have e1:rto t row=x:=by simp [rto,hlx]
  rw [e1];rw [hlx] at hw ⊢;simp at hw;have hwr:IntKind.i64.wrap (l.length:Int)=(l.length:Int):=w64 (by omega) (by omega);have hg:=zax (l:=l++[x]) (i:=l.length) (x:=x) (by simp);simp [-getElem?_pos,hwr,hg]
def evt (t:List Nd) (row:List Int):Int:=if rto t row<0 then 0 else ((t[(rto t row).toNat]?).map (·.v)).getD 0
theorem y6r (t:List Nd) (row:List Int) (hl:t.length<=1048576) (hr:row.length<=1048576):RUN T zqi [.agg [.sl 5 (t.map nd)],.sl 1 (zab row)]=some ([iv (evt t row)],[]):=by
 refine zae rfl rfl ?_;simp [zzp,zvr,y6p t row hl hr];unfold evt;rcases yph (t:=t) (row:=row) with h | ⟨i,h,hi⟩
 ·simp [h]
 ·obtain ⟨x,hx⟩ : ∃ x,t[i]?=some x:=⟨_,bG hi⟩;rw [h];have h0 : ¬ ((i:Int)<0):=by omega
  simp [-getElem?_pos,h0,hx,nd]
theorem y6s (t:List Nd) (row:List Int) (hl:t.length<=1048576) (hr:row.length<=1048576):RUN T zqf [.agg [.sl 5 (t.map nd)],.sl 1 (zab row)]=some ([iv (evt t row)],[]):=by
 refine zae rfl rfl ?_;simp [zzl,zvr,y6q t row hl hr];unfold evt;rcases yph (t:=t) (row:=row) with h | ⟨i,h,hi⟩
 ·simp [h]
 ·obtain ⟨x,hx⟩ : ∃ x,t[i]?=some x:=⟨_,bG hi⟩;rw [h];have h0 : ¬ ((i:Int)<0):=by omega
  simp [-getElem?_pos,h0,hx,nd]
def inI (n:Int):Prop := -9223372036854775808<=n/\n<=9223372036854775807
def Chn (t:List Nd):List Int->Int->Prop
 | [],c=>c<0
 | x::xs,c=>x=c/\0<=c/\Chn t xs (par t c)
theorem yn8 (t:List Nd) : ∀ (n:Nat) (k:Int) (l:List Int),0<=k->anc t n k=some l->Chn t (k::l) k
 | 0,k,l,_,h=>by cases h
 | n+1,k,l,h0,h=>by
  rw [ybw] at h;split at h
  ·rename_i hc;cases h;exact ⟨rfl,h0,hc⟩
  ·simp at h;obtain ⟨m,hm,rfl⟩:=h;exact ⟨rfl,h0,yn8 t n _ m (by omega) hm⟩
theorem ytc (t:List Nd) (k:Int):par t k = -1\/0<=par t k/\par t k<t.length:=by
 unfold par zg8;split
 ·rename_i i hi;have:=(List.findIdx?_eq_some_iff_getElem.mp hi).1;right; omega
 ·exact .inl rfl
def box (t:List Nd) (f:Int):List Int->Int->Int->Int×Int
 | a::b::r,lo,hi=>match t[a.toNat]? with
  | none=>(lo,hi)
  | some x=>if x.f=f then (if x.l=b then box t f (b::r) lo (min hi x.c) else if x.c=9223372036854775807 then box t f (b::r) lo hi else box t f (b::r) (max lo (x.c+1)) hi) else box t f (b::r) lo hi
 | _,lo,hi=>(lo,hi)
theorem y6t {f:Nat} {p:Int->Bool} (l:List Int) (hl:l.length<=9223372036854775807) (hm:zad T f=[]) (hp : ∀ n∈l,RUN T f [iv n]=some ([bv (p n)],[])) :
  RUN T zni [.sl 1 (zab l),.fn f []]=some ([iv (zg8 p l)],[]):=by
 refine zae rfl rfl ?_;simp [zwd,zvr];refine zan (fun n st => ∃ i:Nat,i+n=l.length/\st.V 0 = .sl 1 (zab l)/\st.V 1 = .fn f []/\st.V 8=iv i/\st.V 7=iv l.length/\∀ (j:Nat) (x:Int),j<i->l[j]?=some x->p x=false) ?_ l.length _ ⟨0,by simp⟩;rintro n st ⟨i,hi,h0,h1,h8,h7,hj⟩;simp [z9w,h0,h1,h8,h7];refine zat (fun h => ?_) (fun h => ?_)
 ·simp at h;obtain ⟨x,hx⟩ : ∃ x,l[i]?=some x:=⟨_,bG h⟩;have hw:=wS h hl;have hx':=zax hx;have hpx:=hp x (bF hx);simp [-getElem?_pos,h0,h1,h8,h7,hx',hw,hm,hpx,h];refine zat (fun b0 => ?_) (fun b0 => ?_) <;> (try simp at b0) <;> simp [-getElem?_pos,b0,h0,h1,h8,h7,hx',hw]
  all_goals first
   | exact (zxw hx b0 hj).symm
   | exact zah (n-1) (by omega) ⟨i+1,by omega,by simp [h0],by simp [h1],by simp,by simp [h7],z9d hj hx b0⟩
 ·simp at h;simp [h];exact (zyo fun j x hl hx=>hj j x (by omega) hx).symm
theorem z8x {α:Type} {p:α->Bool} {l:List α}:decide (0<=zg8 p l)=l.any p:=by
 unfold zg8;cases h:l.findIdx? p with
 | none =>
  rw [List.findIdx?_eq_none_iff] at h;simp;exact fun x hx=>h x hx
 | some i =>
  obtain ⟨h1,h2,_⟩:=List.findIdx?_eq_some_iff_getElem.mp h;simp;exact ⟨_,List.getElem_mem h1,h2⟩
theorem z99 {f:Nat} {p:Int->Bool} (l:List Int) (hl:l.length<=9223372036854775807) (hm:zad T f=[]) (hp : ∀ n∈l,RUN T f [iv n]=some ([bv (p n)],[])) :
  RUN T zi0 [.sl 1 (zab l),.fn f []]=some ([bv (l.any p)],[]):=by
 refine zae rfl rfl ?_;have e:=y6t l hl hm hp;simp [zvz,zvr,e,z8x]
structure Cfg where
 ro:Int
 de:Int
 bi:Int
 la:Int
 rw:Int
 nu:Int
 dn:Int
 sg:List Int
def zaj (n a b:Int):Bool:=decide (a<=n) && decide (n<=b)
def zb7 (c:Cfg):Bool:=zaj c.ro 1 8 && zaj c.de 0 4 && zaj c.bi 2 8 && zaj c.la 1 100 && zaj c.rw 1 20 && zaj c.dn 1 1000 && zaj c.nu 1 c.dn && decide ((c.sg.length:Int)<=4) && c.sg.all fun n=>zaj n (-1) 1
@[simp] theorem qof (n:Int):RUN T zqy [iv n]=some ([bv (zaj n (-1) 1)],[]):=by
 refine zae rfl rfl ?_;simp [z0i,zvo,zaj]
@[simp] theorem y6u (n:Int):RUN T znf [iv n]=some ([bv (!zaj n (-1) 1)],[]):=by
 refine zae rfl rfl ?_;simp [z1m,zvo]
theorem zcu (a b c:Int):RUN T zbu [iv a,iv b,iv c]=some ([bv (zaj a b c)],[]):=zbm a b c
theorem zba (a b c:Int):RUN T zbj [iv a,iv b,iv c]=some ([bv (zaj a b c)],[]):=za0 a b c
theorem yaa (c:Cfg) (hl:c.sg.length<=9223372036854775807):RUN T zlg [.agg [iv c.ro,iv c.de,iv c.bi,iv c.la,iv c.rw,iv c.nu,iv c.dn,.sl 1 (zab c.sg)]]=some ([bv (zb7 c)],[]):=by
 refine zae rfl rfl ?_;have e:=z99 (f:=znf) (p:=fun n => !zaj n (-1) 1) c.sg hl (by simp) (fun n _=>y6u n);have e2 : ∀ l:List Int,(l.any fun n => !zaj n (-1) 1) = !(l.all fun n=>zaj n (-1) 1):=by intro l; induction l <;> simp_all
 rw [e2] at e;simp [zz5,zvo,zcu,-zbm];cases h0:zaj c.ro 1 8 <;> cases h1:zaj c.de 0 4 <;> simp [h0,h1,zcu,-zbm]
 all_goals try (simp [zb7,h0,h1]; done)
 cases h2:zaj c.bi 2 8 <;> cases h3:zaj c.la 1 100 <;> simp [h2,h3,zcu,-zbm]
 all_goals try (simp [zb7,h2,h3]; done)
 cases h4:zaj c.rw 1 20 <;> cases h5:zaj c.dn 1 1000 <;> simp [h4,h5,zcu,-zbm]
 all_goals try (simp [zb7,h4,h5]; done)
 cases h6:zaj c.nu 1 c.dn <;> simp [h6,zcu,-zbm]
 all_goals try (simp [zb7,h6]; done)
 by_cases h7:(c.sg.length:Int)<=4
 ·simp [h7,e,zb7,h0,h1,h2,h3,h4,h5,h6]
 ·simp [h7,zb7]
theorem zvc {m:Nat->List Bool} {R:zak} {c:IC} {st:St} {Q:Ex->St->Prop} (h:W m R c st (Nx (fun s=>W m R (.loop c) s Q) Q ⟨⟩ ⟨⟩)):W m R (.loop c) st Q:=qg0 ▸ h
theorem y6v (a b c d e f g:Int) (x:PV) (sg:List (List PV)):RUN T zql [.agg [iv a,iv b,iv c,iv d,iv e,iv f,iv g,.sl 1 sg]]=some ([.own 1 (zab [a,b,c,d,e])],[]):=by
 refine zae rfl rfl ?_;simp [zzx,zzy,zab]
theorem zxr:RUN T zqm []=some ([.own 1 (zab [1,0,2,1,1])],[]):=by
 refine zae rfl rfl ?_;simp [zzz,zz0,zab]
theorem zxs:RUN T zqn []=some ([.own 1 (zab [8,4,8,100,20])],[]):=by
 refine zae rfl rfl ?_;simp [zz1,zz0,zab]
theorem yab (c:Cfg) (hl:c.sg.length<=9223372036854775807):RUN T zlf [.agg [iv c.ro,iv c.de,iv c.bi,iv c.la,iv c.rw,iv c.nu,iv c.dn,.sl 1 (zab c.sg)]]=some ([bv (zb7 c)],[]):=by
 refine zae rfl rfl ?_;have e1:=y6v c.ro c.de c.bi c.la c.rw c.nu c.dn .undef (zab c.sg);simp [zzh,zvo,e1];refine zvc ?_;simp [zoj,zxr,zxs,zba,-za0,zx4];cases h0:zaj c.ro 1 8 <;> simp [h0]
 ·simp [zb7,h0]
 refine zvc ?_;simp [zoj,zxr,zxs,zba,-za0,zx4];cases h1:zaj c.de 0 4 <;> simp [h1]
 ·simp [zb7,h1]
 refine zvc ?_;simp [zoj,zxr,zxs,zba,-za0,zx4];cases h2:zaj c.bi 2 8 <;> simp [h2]
 ·simp [zb7,h2]
 refine zvc ?_;simp [zoj,zxr,zxs,zba,-za0,zx4];cases h3:zaj c.la 1 100 <;> simp [h3]
 ·simp [zb7,h3]
 refine zvc ?_;simp [zoj,zxr,zxs,zba,-za0,zx4];cases h4:zaj c.rw 1 20 <;> simp [h4]
 ·simp [zb7,h4]
 refine zvc ?_;simp [zoj];refine zan (fun n st => ∃ i:Nat,i+n=c.sg.length/\st.V 1 = .ptr 0 none 0 0 0/\st.V 5=iv i/\st.S 0=some (.box [iv c.ro,iv c.de,iv c.bi,iv c.la,iv c.rw,iv c.nu,iv c.dn,.sl 1 (zab c.sg)])/\∀ (j:Nat) (x:Int),j<i->c.sg[j]?=some x->zaj x (-1) 1=true) ?_ c.sg.length _ ⟨0,by simp⟩;rintro n st ⟨i,hi,h1',h5,hS,hj⟩;simp [yec,h1',h5,hS];refine zat (fun h => ?_) (fun h => ?_)
 ·simp at h;obtain ⟨x,hx⟩ : ∃ x,c.sg[i]?=some x:=⟨_,bG h⟩;have hw:=wS h hl;have hx':=zax hx;simp [-getElem?_pos,h1',h5,hS,hx',hw,h,zba,-za0];cases hb:zaj x (-1) 1 with
  | true =>
   simp [-getElem?_pos,h1',h5,hS,hw];refine zah (n-1) (by omega) ⟨i+1,by omega,by simp [h1'],by simp,by simp [hS],fun j y hj' hy => ?_⟩
   by_cases e:j=i
   ·subst e; rw [hx] at hy; cases hy; exact hb
   ·exact hj j y (by omega) hy
  | false =>
   simp [zb7]
   intros
   exact ⟨x,bF hx,hb⟩
 ·simp at h;have hall:(c.sg.all fun n=>zaj n (-1) 1)=true:=by
   rw [List.all_eq_true];intro x hx;obtain ⟨j,hj'⟩:=bH hx;exact hj j x (by have:=(bD hj').1; omega) hj'
  simp [h1',hS,zba,-za0];cases h5:zaj c.dn 1 1000 <;> simp [h1',hS,h5,zba,-za0]
  ·simp [zb7,h5]
  cases h6:zaj c.nu 1 c.dn <;> simp [h1',hS,h6,zba,-za0]
  ·simp [zb7,h6]
  simp [zb7,h0,h1,h2,h3,h4,h5,h6,hall]
def fdv (a b:Int):Int×Bool:=if b=0\/(b = -1/\a = -9223372036854775808) then (0,false) else (a.fdiv b,true)
theorem ysp {a b:Int} (ha:inI a) (hb:b≠0) (h : ¬ (b = -1/\a = -9223372036854775808)) : -9223372036854775808<=a.tdiv b/\a.tdiv b<=9223372036854775807/\(b≠1 -> -9223372036854775808<=a.tdiv b-1):=by
 obtain ⟨h1,h2⟩:=ha;have h3:(a.tdiv b).natAbs=a.natAbs / b.natAbs:=Int.natAbs_tdiv a b;have h4:a.natAbs / b.natAbs<=a.natAbs:=Nat.div_le_self _ _
 by_cases c:b=1
 ·subst c; simp; omega
 by_cases c2:b = -1
 ·subst c2; simp; omega
 have h5:a.natAbs / b.natAbs<=a.natAbs / 2:=Nat.div_le_div_left (by omega) (by omega);omega
theorem ypv (a b:Int) (hb:b≠0):a.fdiv b=if a.tmod b≠0/\¬ (a<0↔b<0) then a.tdiv b-1 else a.tdiv b:=by
 rw [Int.fdiv_eq_tdiv];have hd:b ∣ a↔a.tmod b=0:=Int.dvd_iff_tmod_eq_zero
 by_cases c:b ∣ a
 ·rw [if_pos c,if_neg (by rw [hd.mp c]; simp)]; simp
 ·have hc:a.tmod b≠0:=fun e=>c (hd.mpr e);have ha:a≠0:=fun e=>c (by subst e; exact ⟨0,by simp⟩);rw [if_neg c];rcases Int.lt_or_gt_of_ne hb with s2 | s2
  ·rw [if_neg (by omega : ¬ 0<=b),if_neg (by omega : ¬ 0<=b),Int.sign_eq_neg_one_of_neg s2]
   by_cases s1:0<=a
   ·rw [if_pos s1,if_pos ⟨hc,by omega⟩]
   ·rw [if_neg s1,if_neg (fun h=>h.2 (by omega))]; omega
  ·rw [if_pos (by omega:0<=b),if_pos (by omega:0<=b),Int.sign_eq_one_of_pos s2]
   by_cases s1:0<=a
   ·rw [if_pos s1,if_neg (fun h=>h.2 (by omega))]; omega
   ·rw [if_neg s1,if_pos ⟨hc,by omega⟩]
theorem yac (a b:Int) (ha:inI a):RUN T zll [iv a,iv b]=some ([iv (fdv a b).1,bv (fdv a b).2],[]):=by
 refine zae rfl rfl ?_;simp [z1q,zkg]
 by_cases h0:b=0
 ·subst h0; simp [fdv]
 by_cases hbad:b = -1/\a = -9223372036854775808
 ·obtain ⟨rfl,rfl⟩:=hbad; simp [fdv]
 have hr:=ysp ha h0 hbad;have hq:=w64 hr.1 hr.2.1;have hf:=ypv a b h0;have e1:fdv a b=(a.fdiv b,true):=by unfold fdv; rw [if_neg (by simp [h0]; intro h; exact fun h2=>hbad ⟨h,h2⟩)]
 rw [e1];have hq2:a.tmod b≠0->IntKind.i64.wrap (a.tdiv b-1)=a.tdiv b-1:=fun h=>w64 (hr.2.2 (by rintro rfl; simp at h)) (by omega);have f0:=eq_false h0;obtain ⟨p1,hp1⟩ : ∃ p,(b = -1)=p:=⟨_,rfl⟩;obtain ⟨p2,hp2⟩ : ∃ p,(a = -9223372036854775808)=p:=⟨_,rfl⟩;rw [hp1,hp2] at hbad
 by_cases c1:p1 <;> by_cases c2:p2
 ·exact (hbad ⟨c1,c2⟩).elim
 all_goals
  simp only [c1,c2] at hp1 hp2;simp [f0,hp1,hp2,hq]
  by_cases d0:a.tmod b=0
  ·rw [if_neg (by simp [d0])] at hf;simp [d0,hf]
  ·have hq3:=hq2 d0;have d1:=eq_false d0
   by_cases d2:a<0 <;> by_cases d3:b<0
   all_goals
    simp only [d2,d3,ne_eq,d1,not_false_eq_true,iff_self,not_true_eq_false,and_false,if_false,iff_true,iff_false,and_true,if_true,true_iff,false_iff] at hf;simp [d1,d2,d3,hq3,hf]
theorem yk2 (a b:Int) (ha:inI a):RUN T znb [iv a,iv b]=some ([iv (fdv a b).1,bv (fdv a b).2],[]):=by
 refine zae rfl rfl ?_;simp [z0m,zkg]
 by_cases h0:b=0
 ·subst h0; simp [fdv]
 by_cases hbad:b = -1/\a = -9223372036854775808
 ·obtain ⟨rfl,rfl⟩:=hbad; simp [fdv]
 have hr:=ysp ha h0 hbad;have hq:=w64 hr.1 hr.2.1;have hf:=ypv a b h0;have e1:fdv a b=(a.fdiv b,true):=by unfold fdv; rw [if_neg (by simp [h0]; intro h; exact fun h2=>hbad ⟨h,h2⟩)]
 rw [e1];have hq2:a.tmod b≠0->IntKind.i64.wrap (a.tdiv b-1)=a.tdiv b-1:=fun h=>w64 (hr.2.2 (by rintro rfl; simp at h)) (by omega);have f0:=eq_false h0;obtain ⟨p1,hp1⟩ : ∃ p,(b = -1)=p:=⟨_,rfl⟩;obtain ⟨p2,hp2⟩ : ∃ p,(a = -9223372036854775808)=p:=⟨_,rfl⟩;rw [hp1,hp2] at hbad
 by_cases c1:p1 <;> by_cases c2:p2
 ·exact (hbad ⟨c1,c2⟩).elim
 all_goals
  simp only [c1,c2] at hp1 hp2;simp [f0,hp1,hp2,hq]
  by_cases d0:a.tmod b=0
  ·rw [if_neg (by simp [d0])] at hf;simp [d0,hf]
  ·have hq3:=hq2 d0;have d1:=eq_false d0
   by_cases d2:a<0 <;> by_cases d3:b<0
   all_goals
    simp only [d2,d3,ne_eq,d1,not_false_eq_true,iff_self,not_true_eq_false,and_false,if_false,iff_true,iff_false,and_true,if_true,true_iff,false_iff] at hf;simp [d1,d2,d3,hq3,hf]
abbrev zdw (c:Cfg):PV := .agg [iv c.ro,iv c.de,iv c.bi,iv c.la,iv c.rw,iv c.nu,iv c.dn,.sl 1 (zab c.sg)]
abbrev zis (c:Cfg):PV := .agg [iv c.ro,iv c.de,iv c.bi,iv c.la,iv c.rw,iv c.nu,iv c.dn,.own 1 (zab c.sg)]
theorem zay {n a b:Int}:zaj n a b=true↔a<=n/\n<=b:=by simp [zaj]
theorem ypm {c:Cfg} (h:zb7 c=true):(1<=c.ro/\c.ro<=8)/\(0<=c.de/\c.de<=4)/\(2<=c.bi/\c.bi<=8)/\(1<=c.la/\c.la<=100)/\(1<=c.rw/\c.rw<=20)/\(1<=c.dn/\c.dn<=1000)/\(1<=c.nu/\c.nu<=c.dn)/\c.sg.length<=4/\∀ n∈c.sg,-1<=n/\n<=1:=by
 simp only [zb7,Bool.and_eq_true,zay,decide_eq_true_eq,List.all_eq_true] at h;obtain ⟨⟨⟨⟨⟨⟨⟨⟨h1,h2⟩,h3⟩,h4⟩,h5⟩,h6⟩,h7⟩,h8⟩,h9⟩:=h;exact ⟨h1,h2,h3,h4,h5,h6,h7,by omega,h9⟩
def zeb (v:Int):Bool:=zaj v (-1099511627776) 1099511627776
@[simp] theorem yk3 (v:Int):RUN T zj0 [iv v]=some ([bv (zeb v)],[]):=by
 refine zae rfl rfl ?_;simp [z3j,zvo,zeb,zaj]
@[simp] theorem yk4 (v:Int):RUN T zls [iv v]=some ([bv (zeb v)],[]):=by
 refine zae rfl rfl ?_;simp [z4a,zvo,zeb,zaj]
def shr (v:Int) (c:Cfg):Int×Bool:=if zb7 c && zeb v then (( v*c.nu).fdiv c.dn,true) else (0,false)
theorem ytv {v:Int} {c:Cfg} (h:zb7 c=true) (hv:zeb v=true):inI (v*c.nu)/\IntKind.i64.wrap (v*c.nu)=v*c.nu/\fdv (v*c.nu) c.dn=((v*c.nu).fdiv c.dn,true):=by
 obtain ⟨_,_,_,_,_,hd,hn,_⟩:=ypm h;have h1:=zay.mp hv;have h2 : -1099511627776*1000<=v*c.nu:=by
  have a1 : -1099511627776*c.nu<=v*c.nu:=Int.mul_le_mul_of_nonneg_right h1.1 (by omega);omega
 have h3:v*c.nu<=1099511627776*1000:=by
  have a1:v*c.nu<=1099511627776*c.nu:=Int.mul_le_mul_of_nonneg_right h1.2 (by omega);omega
 refine ⟨⟨by omega,by omega⟩,w64 (by omega) (by omega),?_⟩;unfold fdv;rw [if_neg (by omega)]
theorem y6w (v:Int) (c:Cfg) (hl:c.sg.length<=9223372036854775807):RUN T zr8 [iv v,zdw c]=some ([iv (shr v c).1,bv (shr v c).2],[]):=by
 refine zae rfl rfl ?_;have e:=yab c hl;simp [z3f,zkg,e];cases h:zb7 c
 ·simp [shr,h]
 ·cases hv:zeb v
  ·simp [h,hv,shr]
  ·obtain ⟨h1,h2,h3⟩:=ytv h hv;have e2:=yac _ c.dn h1;rw [h3] at e2;simp [h,hv,shr,h2,e2]
theorem y6x (v:Int) (c:Cfg) (hl:c.sg.length<=9223372036854775807):RUN T zr1 [iv v,zdw c]=some ([iv (shr v c).1,bv (shr v c).2],[]):=by
 refine zae rfl rfl ?_;have e:=yaa c hl;simp [z2z,zkg,e];cases h:zb7 c
 ·simp [shr,h]
 ·cases hv:zeb v
  ·simp [h,hv,shr]
  ·obtain ⟨h1,h2,h3⟩:=ytv h hv;have e2:=yk2 _ c.dn h1;rw [h3] at e2;simp [h,hv,shr,h2,e2]
theorem z7u (a b c d e a' b' c' d' e':Int):eqP [.i .i64,.i .i64,.i .i64,.i .i64,.i .i64] (.agg [iv a,iv b,iv c,iv d,iv e]) (.agg [iv a',iv b',iv c',iv d',iv e'])=some (decide (a=a'/\b=b'/\c=c'/\d=d'/\e=e')):=by
 simp only [eqP,zb6,qdo,Option.bind_some]
 by_cases h1:a=a' <;> by_cases h2:b=b' <;> by_cases h3:c=c' <;> by_cases h4:d=d' <;> by_cases h5:e=e' <;> simp [h1,h2,h3,h4,h5]
def zbe (n:Int):Bool:=zaj n (-2147483647) 2147483647
@[simp] theorem zo8 (v:Int):RUN T zjx [iv v]=some ([bv (zbe v)],[]):=by
 refine zae rfl rfl ?_;simp [zzv,zvo,zbe,zaj]
@[simp] theorem qog (v:Int):RUN T zqz [iv v]=some ([bv (zbe v)],[]):=by
 refine zae rfl rfl ?_;simp [z0k,zvo,zbe,zaj]
def shp (F:Int):List Nd->Int->Int->Option Int
 | [],_,n=>some n
 | x::xs,i,n =>
  if x.f = -1 then (if (x.c=0/\x.l=0/\x.r=0)/\zeb x.v=true then shp F xs (i+1) n else none)
  else if zaj x.f 0 (F-1)=true/\zbe x.c=true/\x.v=0/\x.l=n/\x.r=n+1/\i<n then shp F xs (i+1) (n+2) else none
def zje (t:List Nd) (F:Int):Bool:=match shp F t 0 1 with
 | some n=>decide (n=t.length)
 | none=>false
theorem y6y (t:List Nd) (F:Int) (hl:t.length<=1048576) (hF:0<=F/\F<=4):RUN T zrc [.agg [.sl 5 (t.map nd)],iv F]=some ([bv (zje t F)],[]):=by
 refine zae rfl rfl ?_;simp [z02,zvr];have hwF:=w64 (x:=F-1) (by omega) (by omega);refine zan (fun n st => ∃ i:Nat,i+n=t.length/\∃ k:Nat,k<=i/\shp F (t.drop i) i (1+2*k)=shp F t 0 1/\st.V 1=iv F/\st.V 2 = .ptr 0 none 0 0 0/\st.V 5=iv (1+2*k)/\st.V 6=iv i/\0<st.nx/\st.S 0=some (.box [.sl 5 (t.map nd)])) ?_ t.length _ ⟨0,by simp,0,by simp⟩;rintro n st ⟨i,hi,k,hk,hr,h1,h2,h5,h6,hnx,hS⟩;have Z0:=bI h1 <| bI h2 <| bI h5 <| bI h6 hS
 simp [yeo,h2,h6,hS];have z:=fr hnx;refine zat (fun h => ?_) (fun h => ?_)
 ·simp at h;obtain ⟨x,hx⟩ : ∃ x,t[i]?=some x:=⟨_,bG h⟩;have hw:=wS h (by omega:t.length<=9223372036854775807);have hw1:=w64 (x:=1+2*(k:Int)+1) (by omega) (by omega);have hw2:=w64 (x:=1+2*(k:Int)+2) (by omega) (by omega);rw [zc9 hx,shp] at hr;simp [-getElem?_pos,Z0,hx,nd,z];refine zat (fun h3 => ?_) (fun h3 => ?_)
  ·simp at h3;rw [if_pos h3] at hr
   by_cases hc:x.c=0/\x.l=0/\x.r=0
   ·have hc':=eq_true hc;simp [-getElem?_pos,Z0,z,h3,z7u,hc'];cases hv:zeb x.v with
    | false =>
     rw [if_neg (by simp [hv])] at hr;simp [zje,<- hr]
    | true =>
     rw [if_pos ⟨hc,hv⟩] at hr;simp [-getElem?_pos,Z0,z,hw];exact zah (n-1) (by omega) ⟨i+1,by omega,k,by omega,by simpa using hr,by simp [h1,h2,h5,z,hS]⟩
   ·have hc':=eq_false hc;rw [if_neg (fun h=>hc h.1)] at hr;simp [-getElem?_pos,Z0,z,h3,z7u,hc'];simp [zje,<- hr]
  ·simp at h3;rw [if_neg h3] at hr;simp [-getElem?_pos,Z0,z,h3,hwF,zba,-za0]
   by_cases hc:zaj x.f 0 (F-1)=true/\zbe x.c=true/\x.v=0/\x.l=1+2*(k:Int)/\x.r=1+2*(k:Int)+1/\(i:Int)<1+2*(k:Int)
   ·rw [if_pos hc] at hr;obtain ⟨c1,c2,c3,c4,c5,c6⟩:=hc;have c7 : ¬ (1+2*(k:Int)<=i):=by omega
    simp [-getElem?_pos,Z0,z,h3,hwF,c1,c2,c3,c4,c5,c7,hw,hw1,hw2];exact zah (n-1) (by omega) ⟨i+1,by omega,k+1,by omega,by rw [<- hr]; congr 1,by simp [h1],by simp [h2],by simp; omega,by simp [z,hS]⟩
   ·rw [if_neg hc] at hr;have e0:zje t F=false:=by simp [zje,<- hr]
    rw [e0];refine zat (fun b0 => ?_) (fun b0 => ?_) <;> (try simp at b0) <;> simp [-getElem?_pos,b0,Z0,z,h3,hwF,hw1]
    all_goals try (refine zat (fun b1 => ?_) (fun b1 => ?_) <;> (try simp at b1) <;> simp [-getElem?_pos,b0,b1,Z0,z,h3,hwF,hw1])
    all_goals try (refine zat (fun b2 => ?_) (fun b2 => ?_) <;> (try simp at b2) <;> simp [-getElem?_pos,b0,b1,b2,Z0,z,h3,hwF,hw1])
    all_goals try (refine zat (fun b3 => ?_) (fun b3 => ?_) <;> (try simp at b3) <;> simp [-getElem?_pos,b0,b1,b2,b3,Z0,z,h3,hwF,hw1])
    all_goals try (refine zat (fun b4 => ?_) (fun b4 => ?_) <;> (try simp at b4) <;> simp [-getElem?_pos,b0,b1,b2,b3,b4,Z0,z,h3,hwF,hw1])
    all_goals try (refine zat (fun b5 => ?_) (fun b5 => ?_) <;> (try simp at b5) <;> simp [-getElem?_pos,b0,b1,b2,b3,b4,b5,Z0,z,h3,hwF,hw1])
    exact (hc ⟨b0,b1,b2,b3,b4,by omega⟩).elim
 ·simp at h;rw [List.drop_eq_nil_of_le h,shp] at hr;unfold zje;rw [<- hr];simp [h5,hS,h2]
structure ycu (F:Int) (x:Nd) (i n m:Int):Prop where
 lo:n<=x.l
 lt:i<x.l
 r:x.r=x.l+1
 hi:x.r<m
 f:0<=x.f/\x.f<=F-1
 c:zbe x.c=true
 v:x.v=0
theorem ybh (F:Int) : ∀ (l:List Nd) (i n m:Int),shp F l i n=some m->n<=m /\
  (∀ (j:Nat) (x:Nd),l[j]?=some x->x.f = -1->x.c=0/\x.l=0/\x.r=0/\zeb x.v=true) /\
  (∀ (j:Nat) (x:Nd),l[j]?=some x->x.f ≠ -1->ycu F x (i+j) n m) /\
  (∀ (j j':Nat) (x y:Nd),j<j'->l[j]?=some x->l[j']?=some y->x.f ≠ -1->y.f ≠ -1->x.r<y.l) /\
  (∀ k:Int,n<=k->k<m->∃ (j:Nat) (x:Nd),l[j]?=some x/\x.f ≠ -1/\(x.l=k\/x.r=k))
 | [],i,n,m,h=>by
  simp only [shp,bC] at h;subst h;exact ⟨Int.le_refl _,by simp,by simp,by simp,fun k h1 h2=>by omega⟩
 | x::xs,i,n,m,h=>by
  rw [shp] at h;split at h
  ·rename_i hf;split at h
   ·rename_i hc;obtain ⟨h1,h2,h3,h4,h5⟩:=ybh F xs (i+1) n m h;refine ⟨h1,fun j y hj hy => ?_,fun j y hj hy => ?_,fun j j' y z hjj hj hj' hy hz => ?_,fun k hk1 hk2 => ?_⟩
    ·cases j with
     | zero=>simp at hj; subst hj; exact ⟨hc.1.1,hc.1.2.1,hc.1.2.2,hc.2⟩
     | succ j=>exact h2 j y (by simpa using hj) hy
    ·cases j with
     | zero=>simp at hj; subst hj; exact (hy hf).elim
     | succ j =>
      have:=h3 j y (by simpa using hj) hy;exact ⟨this.lo,by have:=this.lt; push_cast; omega,this.r,this.hi,this.f,this.c,this.v⟩
    ·cases j' with
     | zero=>omega
     | succ j' =>
      cases j with
      | zero=>simp at hj; subst hj; exact (hy hf).elim
      | succ j=>exact h4 j j' y z (by omega) (by simpa using hj) (by simpa using hj') hy hz
    ·obtain ⟨j,y,hj,hy⟩:=h5 k hk1 hk2;exact ⟨j+1,y,by simpa using hj,hy⟩
   ·cases h
  ·rename_i hf;split at h
   ·rename_i hc;obtain ⟨c1,c2,c3,c4,c5,c6⟩:=hc;have c1':=zay.mp c1;obtain ⟨h1,h2,h3,h4,h5⟩:=ybh F xs (i+1) (n+2) m h;refine ⟨by omega,fun j y hj hy => ?_,fun j y hj hy => ?_,fun j j' y z hjj hj hj' hy hz => ?_,fun k hk1 hk2 => ?_⟩
    ·cases j with
     | zero=>simp at hj; subst hj; exact (hf hy).elim
     | succ j=>exact h2 j y (by simpa using hj) hy
    ·cases j with
     | zero=>simp at hj; subst hj; exact ⟨by omega,by simp; omega,by omega,by omega,c1',c2,c3⟩
     | succ j =>
      have:=h3 j y (by simpa using hj) hy;exact ⟨by have:=this.lo; omega,by have:=this.lt; push_cast; omega,this.r,this.hi,this.f,this.c,this.v⟩
    ·cases j' with
     | zero=>omega
     | succ j' =>
      cases j with
      | zero =>
       simp at hj; subst hj;have:=(h3 j' z (by simpa using hj') hz).lo;omega
      | succ j=>exact h4 j j' y z (by omega) (by simpa using hj) (by simpa using hj') hy hz
    ·by_cases hkn:k<n+2
     ·exact ⟨0,x,rfl,hf,by omega⟩
     ·obtain ⟨j,y,hj,hy⟩:=h5 k (by omega) hk2;exact ⟨j+1,y,by simpa using hj,hy⟩
   ·cases h
structure Shaped (t:List Nd) (F:Int):Prop where
 leaf : ∀ (j:Nat) (x:Nd),t[j]?=some x->x.f = -1->x.c=0/\x.l=0/\x.r=0/\zeb x.v=true
 inner : ∀ (j:Nat) (x:Nd),t[j]?=some x->x.f ≠ -1->ycu F x j 1 t.length
 ord : ∀ (j j':Nat) (x y:Nd),j<j'->t[j]?=some x->t[j']?=some y->x.f ≠ -1->y.f ≠ -1->x.r<y.l
 cover : ∀ k:Int,1<=k->k<t.length->∃ (j:Nat) (x:Nd),t[j]?=some x/\x.f ≠ -1/\(x.l=k\/x.r=k)
 pos:1<=t.length
theorem yuh {t:List Nd} {F:Int} (h:zje t F=true):Shaped t F:=by
 unfold zje at h;split at h
 ·rename_i n hn;simp at h;subst h;obtain ⟨h1,h2,h3,h4,h5⟩:=ybh F t 0 1 _ hn;exact ⟨h2,fun j x hj hx=>by simpa using h3 j x hj hx,h4,h5,by omega⟩
 ·cases h
theorem qev {k:Int} {x:Nd}:zi3 k x=true↔x.f ≠ -1/\(x.l=k\/x.r=k):=by simp [zi3]
theorem Shaped.par_lt {t:List Nd} {F:Int} (h:Shaped t F) (k:Int):par t k<0\/∃ (i:Nat) (x:Nd),par t k=i/\t[i]?=some x/\x.f ≠ -1/\(x.l=k\/x.r=k)/\(i:Int)<k/\k<t.length:=by
 rcases ytc t k with h1 | h1
 ·left; omega
 ·obtain ⟨i,hi⟩ : ∃ i:Nat,par t k=i:=⟨(par t k).toNat,by omega⟩;right;have hil:i<t.length:=by omega
  have hx:=bG hil;refine ⟨i,t[i],hi,hx,?_⟩;have ha:zi3 k t[i]=true:=by
   unfold par zg8 at hi;split at hi
   ·rename_i j hj;obtain ⟨h2,h3,_⟩:=List.findIdx?_eq_some_iff_getElem.mp hj;have:j=i:=by omega
    subst this; exact h3
   ·omega
  obtain ⟨hf,hk⟩:=qev.mp ha;have:=h.inner i _ hx hf;have h2:=this.lt;have h3:=this.r;have h4:=this.hi;exact ⟨hf,hk,by omega,by omega⟩
theorem Shaped.anc {t:List Nd} {F:Int} (h:Shaped t F) : ∀ (n:Nat) (k:Int),k<n->0<n->∃ l,anc t n k=some l
 | 0,_,_,h0=>by omega
 | n+1,k,hk,_=>by
  rw [ybw];split
  ·exact ⟨[],rfl⟩
  ·rename_i hp;rcases h.par_lt k with h1 | ⟨i,x,h1,_,_,_,h2,_⟩
   ·omega
   ·obtain ⟨l,hl⟩:=h.anc n (par t k) (by omega) (by omega);exact ⟨_,by rw [hl]; rfl⟩
def adj (p:Int->Int->Bool):List Int->Bool
 | a::b::r=>p a b || adj p (b::r)
 | _=>false
theorem yng (p:Int->Int->Bool) : ∀ (l:List Int) (a b:Int),adj p (l++[a,b])=(adj p (l++[a]) || p a b)
 | [],a,b=>by simp [adj]
 | [x],a,b=>by simp [adj]
 | x::y::r,a,b=>by
  have:=yng p (y::r) a b;simp only [List.cons_append,adj] at this ⊢;rw [this,Bool.or_assoc]
theorem yt1 (p:Int->Int->Bool) : ∀ l:List Int,adj p l.reverse=adj (fun a b=>p b a) l
 | []=>rfl
 | [x]=>rfl
 | x::y::r=>by
  have:=yt1 p (y::r);rw [adj,<- this];simp only [List.reverse_cons,List.append_assoc,List.cons_append,List.nil_append];rw [yng,Bool.or_comm]
theorem yc4 {p:Int->Int->Bool} : ∀ {l:List Int},adj p l=true↔∃ (i:Nat) (a b:Int),l[i]?=some a/\l[i+1]?=some b/\p a b=true
 | []=>by simp [adj]
 | [x]=>by simp [adj]
 | x::y::r=>by
  simp only [adj,Bool.or_eq_true];rw [yc4 (l:=y::r)];constructor
  ·rintro (h | ⟨i,a,b,h1,h2,h3⟩)
   ·exact ⟨0,x,y,rfl,rfl,h⟩
   ·exact ⟨i+1,a,b,by simpa using h1,by simpa using h2,h3⟩
  ·rintro ⟨i,a,b,h1,h2,h3⟩;cases i with
   | zero=>simp at h1 h2; subst h1; subst h2; exact .inl h3
   | succ i=>exact .inr ⟨i,a,b,by simpa using h1,by simpa using h2,h3⟩
def zu6 (t:List Nd) (n:Nd) (a b:Int):Bool:=match t[a.toNat]? with
 | none=>false
 | some x=>decide (x.f=n.f) && ((decide (x.r=b) && decide (n.c<=x.c)) || (decide (x.l=b) && decide (x.c<=n.c)))
def zkv (t:List Nd) (i:Nat):Bool:=match t[i]? with
 | none=>true
 | some x=>decide (x.f = -1) || !adj (zu6 t x) (way t i)
def zm4 (t:List Nd):Bool:=(List.range t.length).all (zkv t)
def z8u (t:List Nd) (F:Int):Bool:=zaj F 0 4 && zaj t.length 1 31 && zje t F && decide (dpt t t.length<=4) && zm4 t
theorem Shaped.way {t:List Nd} {F:Int} (h:Shaped t F) (hl:t.length<=31) {i:Nat} (hi:i<t.length) : ∃ l,Pe.way t i=((i:Int)::l).reverse/\Chn t l (par t i)/\l.length<=31:=by
 obtain ⟨l,ha⟩:=h.anc 32 i (by omega) (by omega);have hc:=yn8 t 32 i l (by omega) ha;have hle:=yud t 32 i l ha;refine ⟨l,?_,hc.2.2,by omega⟩;unfold Pe.way;rw [if_pos (by omega),ha]
theorem qcb {t:List Nd} {a:Nat} {z:Nd} (h:t[a]?=some z) (n:Nd) (b:Int):zu6 t n a b=(decide (z.f=n.f) && ((decide (z.r=b) && decide (n.c<=z.c)) || (decide (z.l=b) && decide (z.c<=n.c)))):=by
 simp [zu6,h]
theorem yub {t:List Nd} {i:Nat} {x:Nd} (h:t[i]?=some x):zkv t i=(decide (x.f = -1) || !adj (zu6 t x) (way t i)):=by simp [zkv,h]
theorem yti {t:List Nd}:zm4 t=true↔∀ j:Nat,j<t.length->zkv t j=true:=by
 simp [zm4]
theorem qee {t:List Nd} {i:Nat} (hi:i<t.length) (h:zkv t i=false):zm4 t=false:=by
 cases e:zm4 t with
 | false=>rfl
 | true=>rw [yti.mp e i hi] at h; cases h
theorem y6z (t:List Nd) (F:Int) (hl:t.length<=31) (hs:Shaped t F):RUN T zre [.agg [.sl 5 (t.map nd)]]=some ([bv (zm4 t)],[]):=by
 refine zae rfl rfl ?_;simp [z06,zvo];refine zan (fun n st => ∃ i:Nat,i+n=t.length/\(∀ j:Nat,j<i->zkv t j=true)/\st.V 1 = .ptr 0 none 0 0 0/\st.V 3=iv i/\0<st.nx/\st.S 0=some (.box [.sl 5 (t.map nd)])) ?_ t.length _ ⟨0,by simp⟩;rintro n st ⟨i,hi,hk,h1,h3,hnx,hS⟩;simp [yer,h1,h3,hS];have z:=fr hnx;refine zat (fun h => ?_) (fun h => ?_)
 ·simp at h;obtain ⟨x,hx⟩ : ∃ x,t[i]?=some x:=⟨_,bG h⟩;have hw:=wS h (by omega:t.length<=9223372036854775807);have hup:=fun k=>yk1 t k (by omega);obtain ⟨l,hway,hchn,hll⟩:=hs.way hl h;simp [-getElem?_pos,h1,h3,hS,hx,z,nd];refine zat (fun h4 => ?_) (fun h4 => ?_)
  ·simp at h4;have ok:zkv t i=true:=by rw [yub hx]; simp [h4]
   simp [-getElem?_pos,h1,h3,hS,hx,z,hw];exact zah (n-1) (by omega) ⟨i+1,by omega,fun j hj=>by by_cases e:j=i; (subst e; exact ok); exact hk j (by omega),by simp [h1,hnx,hS]⟩
  ·simp at h4;obtain ⟨A,hA⟩ : ∃ A,A=adj (zu6 t x) (way t i):=⟨_,rfl⟩;have hA':zkv t i = !A:=by rw [yub hx,hA]; simp [h4]
   rw [hway,yt1] at hA;simp [-getElem?_pos,h1,h3,hS,hx,z,hw,hup];refine zan (fun n st => ∃ (c:Int) (r:List Int),r.length=n/\Chn t r (par t c)/\adj (fun a b=>zu6 t x b a) (c::r)=A/\st.V 1 = .ptr 0 none 0 0 0/\st.V 3=iv i/\st.V 4=iv c/\st.V 5=iv (par t c)/\0<st.nx/\st.S 0=some (.box [.sl 5 (t.map nd)])) ?_ l.length _ ⟨i,l,rfl,hchn,hA.symm,by simp [h1,h3,hnx,hS]⟩;clear hnx hS h1 h3 z;rintro n' st ⟨c,r,hr,hc,hcA,h1,h3,h4',h5,hnx,hS⟩;have z:=fr hnx;simp [yeq,h1,h3,h5];refine zat (fun h => ?_) (fun h => ?_)
   ·simp at h;cases r with
    | nil=>have:par t c<0:=hc; omega
    | cons y ys =>
     obtain ⟨rfl,h0,hc'⟩:=hc;have hpr:=ytc t c;obtain ⟨a,ha⟩ : ∃ a:Nat,par t c=a:=⟨(par t c).toNat,by omega⟩;rw [ha] at h5 hc' hcA hpr;obtain ⟨y,hy⟩ : ∃ y,t[a]?=some y:=⟨_,bG (by omega)⟩;rw [adj,qcb hy] at hcA;have z2:=fr (by omega:st.nx<st.nx+1)
     by_cases b0:y.f=x.f
     all_goals by_cases b1:y.r=c
     all_goals by_cases b2:x.c<=y.c
     all_goals by_cases b3:y.l=c
     all_goals by_cases b4:y.c<=x.c
     all_goals simp [b0,b1,b2,b3,b4] at hcA
     all_goals simp [-getElem?_pos,h1,h3,h4',h5,hS,hx,hy,z,nd,hup,b0,b1,b2,b3,b4]
     all_goals first
      | (have no:zm4 t=false:=qee (i:=i) (by omega) (by rw [hA']; simp [hcA])
         simp [no]; done)
      | (simp at hr
         exact zah ys.length (by omega) ⟨a,ys,rfl,hc',hcA,by simp [h1,h3,z,hS]⟩)
      | skip
   ·simp at h;cases r with
    | nil =>
     have ok:zkv t i=true:=by rw [hA',<- hcA]; rfl
     simp [-getElem?_pos,h1,h3,hS,hx,z,hw];exact zah (n-1) (by omega) ⟨i+1,by omega,fun j hj=>by by_cases e:j=i; (subst e; exact ok); exact hk j (by omega),by simp [h1,hnx,hS]⟩
    | cons x xs=>obtain ⟨_,h0,_⟩:=hc; omega
 ·simp at h;have:zm4 t=true:=yti.mpr fun j hj=>hk j (by omega);simp [this]
theorem y60 (t:List Nd) (F:Int) (hl:t.length<=9223372036854775807):RUN T zqj [.agg [.sl 5 (t.map nd)],iv F]=some ([bv (z8u t F)],[]):=by
 refine zae rfl rfl ?_;unfold z8u
 by_cases h1:zaj F 0 4=true
 ·by_cases h2:zaj t.length 1 31=true
  ·have h1':=zay.mp h1;have h2':=zay.mp h2;have hS:=y6y t F (by omega) h1';have hD:=y6m t hl
   by_cases h3:zje t F=true
   ·have hW:=y6z t F (by omega) (yuh h3)
    by_cases h4:dpt t t.length<=4
    ·simp [zkb,zvr,zba,-za0,h1,h2,hS,hD,hW,h3,h4]
    ·simp [zkb,zvr,zba,-za0,h1,h2,hS,hD,h3,h4]
   ·simp [zkb,zvr,zba,-za0,h1,h2,hS,h3]
  ·simp [zkb,zvr,zba,-za0,h1,h2]
 ·by_cases h2:zaj t.length 1 31=true
  ·simp [zkb,zvr,zba,-za0,h1,h2]
  ·simp [zkb,zvr,zba,-za0,h1,h2]
theorem zla {α:Type} {P:Nat->α->Prop} {l:List α} {i:Nat} {x:α} (h : ∀ (j:Nat) (x:α),j<i->l[j]?=some x->P j x) (hi:l[i]?=some x) (hp:P i x) : ∀ (j:Nat) (x:α),j<i+1->l[j]?=some x->P j x:=by
 intro j y hj hy
 by_cases e:j=i
 ·subst e; rw [hi] at hy; cases hy; exact hp
 ·exact h j y (by omega) hy
def cel (q:Bool) (l:List Int):PV:=if q then .own 1 (zab l) else .sl 1 (zab l)
@[simp] theorem qr8 (q:Bool) (l:List Int):fz (cel q l) = .sl 1 (zab l):=by cases q <;> simp [cel]
def rws (q:Bool) (L:List (List Int)):List (List PV):=L.map fun l=>[cel q l]
@[simp] theorem qo0 (q:Bool) (L:List (List Int)):(rws q L).length=L.length:=by simp [rws]
theorem zc3 {q:Bool} {L:List (List Int)} {i:Nat} {l:List Int} (h:L[i]?=some l):(rws q L)[i]?=some [cel q l]:=by simp [rws,h]
@[simp] theorem qoh (n:Int):RUN T znu [iv n]=some ([bv (!zbe n)],[]):=by
 refine zae rfl rfl ?_;simp [z3z,zvo]
theorem yad (l:List Int) (hl:l.length<=9223372036854775807):RUN T zlk [.sl 1 (zab l)]=some ([bv (l.all zbe)],[]):=by
 refine zae rfl rfl ?_;have e:=z99 (f:=znu) (p:=fun n => !zbe n) l hl (by simp) (fun n _=>by simp);simp [z1g,zvo,e];simp [List.any_eq_not_all_not]
def zgd (l:List Int):Bool := !adj (fun a b=>decide (b<=a)) l && l.all zbe && decide ((l.length:Int)<=7)
theorem ypi {p:Int->Int->Bool} {l:List Int} (h : ∀ (j:Nat) (a b:Int),l[j]?=some a->l[j+1]?=some b->p a b=false):adj p l=false:=by
 cases e:adj p l with
 | false=>rfl
 | true =>
  obtain ⟨j,a,b,h1,h2,h3⟩:=yc4.mp e;rw [h j a b h1 h2] at h3; cases h3
theorem ytw {p:Int->Int->Bool} {l:List Int} {j:Nat} {a b:Int} (h1:l[j]?=some a) (h2:l[j+1]?=some b) (h3:p a b=true):adj p l=true:=yc4.mpr ⟨j,a,b,h1,h2,h3⟩
theorem zy0 {l:List Int} {p:Int->Bool} {j:Nat} {a:Int} (h1:l[j]?=some a) (h2:p a=false):l.all p=false:=by
 cases e:l.all p with
 | false=>rfl
 | true=>rw [List.all_eq_true.mp e a (bF h1)] at h2; cases h2
theorem zyw {l:List Int} {p:Int->Bool} (h : ∀ (j:Nat) (a:Int),j<l.length->l[j]?=some a->p a=true):l.all p=true:=by
 rw [List.all_eq_true];intro x hx;obtain ⟨j,hj⟩:=bH hx;exact h j x (bD hj).1 hj
theorem y61 (l:List Int) (hl:l.length<=9223372036854775807):RUN T zsv [.sl 1 (zab l)]=some ([bv (zgd l)],[]):=by
 refine zae rfl rfl ?_;have hd:=yad l hl;simp [z48,zvo];refine zan (fun n st => ∃ i:Nat,i+n=l.length+1/\1<=i/\st.V 0 = .sl 1 (zab l)/\st.V 3=iv i/\∀ (j:Nat) (a b:Int),j+1<i->l[j]?=some a->l[j+1]?=some b->decide (b<=a)=false) ?_ l.length _ ⟨1,by omega,by omega,by simp,by simp,fun j a b h=>by omega⟩;rintro n st ⟨i,hi,h1,v0,v3,hj⟩;simp [yfb,v0,v3];refine zat (fun h => ?_) (fun h => ?_)
 ·simp at h;obtain ⟨k,rfl⟩ : ∃ k,i=k+1:=⟨i-1,by omega⟩;obtain ⟨a,ha⟩ : ∃ a,l[k]?=some a:=⟨_,bG (by omega)⟩;obtain ⟨b,hb⟩ : ∃ b,l[k+1]?=some b:=⟨_,bG h⟩;have ha':=zax ha;have hb':=zax hb;have hw:IntKind.i64.wrap ((k:Int)+1+1)=(k:Int)+1+1:=w64 (by omega) (by omega);have hw1:IntKind.i64.wrap (k:Int)=k:=w64 (by omega) (by omega);have hkl:k<l.length:=by omega
  simp [-getElem?_pos,v0,v3,ha',hb',hw1,h,hkl];refine zat (fun h2 => ?_) (fun h2 => ?_)
  ·simp at h2;have:zgd l=false:=by unfold zgd; rw [ytw ha hb (by simpa using h2)]; rfl
   simp [this]
  ·simp at h2;simp [-getElem?_pos,v0,v3,hw];refine zah (n-1) (by omega) ⟨k+2,by omega,by omega,by simp [v0],by simp; omega,fun j x y hjk hx hy => ?_⟩
   by_cases e:j=k
   ·subst e; rw [ha] at hx; rw [hb] at hy; cases hx; cases hy; simp; omega
   ·exact hj j x y (by omega) hx hy
 ·simp at h;have e:adj (fun a b=>decide (b<=a)) l=false:=ypi fun j a b h1 h2=>hj j a b (by have:=(bD h2).1; omega) h1 h2;unfold zgd;rw [e]
  by_cases c:(l.length:Int)<=7
  ·simp [v0,hd,c]
  ·simp [v0,c]
theorem y62 (l:List Int) (hl:l.length<=9223372036854775807):RUN T zsz [.sl 1 (zab l)]=some ([bv (zgd l)],[]):=by
 refine zae rfl rfl ?_;simp [z5l,zvo];refine zan (fun n st => ∃ i:Nat,i+n=l.length/\st.V 0 = .sl 1 (zab l)/\st.V 3=iv i/\(∀ (j:Nat) (a:Int),j<i->l[j]?=some a->zbe a=true)/\∀ (j:Nat) (a b:Int),j+1<i->l[j]?=some a->l[j+1]?=some b->decide (b<=a)=false) ?_ l.length _ ⟨0,by simp⟩;rintro n st ⟨i,hi,v0,v3,hd,hj⟩;simp [yfc,v0,v3];refine zat (fun h => ?_) (fun h => ?_)
 ·simp at h;obtain ⟨b,hb⟩ : ∃ b,l[i]?=some b:=⟨_,bG h⟩;have hb':=zax hb;have hw:=wS h hl;rcases Bool.eq_false_or_eq_true (zbe b) with d | d
  ·have hd':=zla (P:=fun _ a=>zbe a=true) hd hb d;rcases i with _ | k
   ·simp [-getElem?_pos,v0,v3,hb',d,h,hw];exact zah (n-1) (by omega) ⟨1,by omega,by simp [v0],by simp,by simpa using hd',fun j x y hjk hx hy=>by omega⟩
   ·obtain ⟨a,ha⟩ : ∃ a,l[k]?=some a:=⟨_,bG (by omega)⟩;have ha':=zax ha;have hw:IntKind.i64.wrap ((k:Int)+1+1)=(k:Int)+1+1:=w64 (by omega) (by omega);have hw1:IntKind.i64.wrap (k:Int)=k:=w64 (by omega) (by omega);have hkl:k<l.length:=by omega
    have hk0:(0:Int)<((k+1:Nat):Int):=by omega
    rcases Classical.propComplete (b<=a) with c | c
    ·have:zgd l=false:=by unfold zgd; rw [ytw ha hb (by simp [c])]; rfl
     simp [-getElem?_pos,v0,v3,ha',hb',d,h,hw,hw1,hkl,hk0,c,this]
    ·simp [-getElem?_pos,v0,v3,ha',hb',d,h,hw,hw1,hkl,hk0,c];refine zah (n-1) (by omega) ⟨k+2,by omega,by simp [v0],by simp; omega,hd',fun j x y hjk hx hy => ?_⟩
     by_cases e:j=k
     ·subst e; rw [ha] at hx; rw [hb] at hy; cases hx; cases hy; simp [c]
     ·exact hj j x y (by omega) hx hy
  ·have:zgd l=false:=by unfold zgd; rw [zy0 hb d]; simp
   simp [-getElem?_pos,v0,v3,hb',d,h,this]
 ·simp at h;have e:adj (fun a b=>decide (b<=a)) l=false:=ypi fun j a b h1 h2=>hj j a b (by have:=(bD h2).1; omega) h1 h2;have e2:l.all zbe=true:=zyw fun j a h1 h2=>hd j a (by omega) h2;unfold zgd;rw [e,e2];simp [v0]
def zdy:List (List Int)->Nat
 | []=>0
 | l::_=>l.length
theorem yk5 (q:Bool) (c v:List (List Int)):RUN T zlv [.agg [.sl 1 (rws q c),.sl 1 (rws q v)]]=some ([iv (zdy v)],[]):=by
 refine zae rfl rfl ?_;cases v with
 | nil=>simp [zw1,zvo,zdy]
 | cons l L =>
  have h:rws q (l::L)=[cel q l]::rws q L:=rfl;have h0:((L.length:Int)+1=0)=False:=eq_false (by omega);simp [h0,zw1,zvo,zdy,h]
theorem yae (q:Bool) (c v:List (List Int)):RUN T zjz [.agg [.sl 1 (rws q c),.sl 1 (rws q v)]]=some ([iv (zdy v)],[]):=by
 refine zae rfl rfl ?_;cases v with
 | nil=>simp [zwi,zvo,zdy]
 | cons l L =>
  have h:rws q (l::L)=[cel q l]::rws q L:=rfl;have h0:((L.length:Int)+1=0)=False:=eq_false (by omega);simp [h0,zwi,zvo,zdy,h]
theorem y63 {f:Nat} {c:PV} {p:Int->Bool} (l:List Int) (hl:l.length<=9223372036854775807) (hm:zad T f=[]) (hp : ∀ n∈l,RUN T f [iv n,.fptr [c] 0]=some ([bv (p n)],[])) :
  RUN T zni [.sl 1 (zab l),.fn f [.fptr [c] 0]]=some ([iv (zg8 p l)],[]):=by
 refine zae rfl rfl ?_;simp [zwd,zvr];refine zan (fun n st => ∃ i:Nat,i+n=l.length/\st.V 0 = .sl 1 (zab l)/\st.V 1 = .fn f [.fptr [c] 0]/\st.V 8=iv i/\st.V 7=iv l.length/\∀ (j:Nat) (x:Int),j<i->l[j]?=some x->p x=false) ?_ l.length _ ⟨0,by simp⟩;rintro n st ⟨i,hi,h0,h1,h8,h7,hj⟩;simp [z9w,h0,h1,h8,h7];refine zat (fun h => ?_) (fun h => ?_)
 ·simp at h;obtain ⟨x,hx⟩ : ∃ x,l[i]?=some x:=⟨_,bG h⟩;have hw:=wS h hl;have hx':=zax hx;have hpx:=hp x (bF hx);simp [-getElem?_pos,h0,h1,h8,h7,hx',hw,hm,hpx,h];refine zat (fun b0 => ?_) (fun b0 => ?_) <;> (try simp at b0) <;> simp [-getElem?_pos,b0,h0,h1,h8,h7,hx',hw]
  all_goals first
   | exact (zxw hx b0 hj).symm
   | exact zah (n-1) (by omega) ⟨i+1,by omega,by simp [h0],by simp [h1],by simp,by simp [h7],z9d hj hx b0⟩
 ·simp at h;simp [h];exact (zyo fun j x hl hx=>hj j x (by omega) hx).symm
theorem y64 {f:Nat} {c:PV} {p:Int->Bool} (l:List Int) (hl:l.length<=9223372036854775807) (hm:zad T f=[]) (hp : ∀ n∈l,RUN T f [iv n,.fptr [c] 0]=some ([bv (p n)],[])) :
  RUN T zi0 [.sl 1 (zab l),.fn f [.fptr [c] 0]]=some ([bv (l.any p)],[]):=by
 refine zae rfl rfl ?_;have e:=y63 l hl hm hp;simp [zvz,zvr,e,z8x]
@[simp] theorem qoi (n:Int) (a:List Int):RUN T zn4 [iv n,.fptr [.sl 1 (zab a)] 0]=some ([bv (!zaj n 0 a.length)],[]):=by
 refine zae rfl rfl ?_;simp [z5a,z1l,zcu,-zbm]
theorem yrd {s:St} {d:Option Dst} {op:IOp} {g:Opd} {v:Bool} {x:PV}:(yv s ⟨d,op,some (g,v)⟩=some x)=(Ob' (zia v (g.get s)) fun t=>Br t (WI (fun _=>[]) (fun _ _=>none) op s (fun y _=>y=x)) (PV.v Go.undef=x)):=by
 simp only [yv,yod,WI,Ob',Br,bB,Option.bind_eq_some_iff,eq_iff_iff];constructor
 ·rintro ⟨⟨y,s'⟩,⟨t,h1,h2⟩,h3⟩;refine ⟨t,h1,fun ht => ?_,fun ht => ?_⟩ <;> subst ht
  ·exact ⟨y,s',by simpa using h2,h3⟩
  ·simp at h2; obtain ⟨rfl,rfl⟩:=h2; exact h3
 ·rintro ⟨t,h1,h2,h3⟩;cases t with
  | true=>obtain ⟨y,s',h4,h5⟩:=h2 rfl; exact ⟨(y,s'),⟨true,h1,by simpa using h4⟩,h5⟩
  | false=>exact ⟨_,⟨false,h1,rfl⟩,h3 rfl⟩
@[simp] theorem qvq {s:St} {d:Option Dst} {op:IOp} {g:Opd} {v:Bool} {x:PV} {n:Nat} {r:List (zac×PV×Nat)}:zce s ((⟨d,op,some (g,v)⟩,x,n+1)::r)=((Ob' (zia v (g.get s)) fun t=>Br t (WI (fun _=>[]) (fun _ _=>none) op s (fun y _=>y=x)) (PV.v Go.undef=x))/\zce s r):=by
 simp only [zce,yrd]
@[simp] theorem qy7 {V E:Nat->PV} {d:Option Dst} {op:IOp} {g:Opd} {v:Bool} {x:PV} {n:Nat} {s:St} {ms:List St}:za3 V E ⟨d,op,some (g,v)⟩ x (n+1) (s::ms)=((Ob' (zia v (g.get { s with V:=V,E:=E })) fun t=>Br t (WI (fun _=>[]) (fun _ _=>none) op { s with V:=V,E:=E } (fun y _=>y=x)) (PV.v Go.undef=x))/\za3 V E ⟨d,op,some (g,v)⟩ x n ms):=by
 simp only [za3,yrd]
def zf1 (c v:List (List Int)) (f:Nat):Bool:=match c[f]?,v[f]? with
 | some a,some b=>zgd a && decide ((b.length:Int)=zdy v) && b.all fun x=>zaj x 0 a.length
 | _,_=>true
def zd1 (c v:List (List Int)):Bool:=zaj c.length 1 4 && decide ((v.length:Int)=c.length) && zaj (zdy v) 1 40 && (List.range c.length).all (zf1 c v)
theorem yp8 {c v:List (List Int)} (h1:zaj c.length 1 4=true) (h2:(v.length:Int)=c.length) (h3:zaj (zdy v) 1 40=true):zd1 c v=(List.range c.length).all (zf1 c v):=by
 simp [zd1,h1,h2,h3]
theorem zuv {p:Nat->Bool} {n:Nat} (h : ∀ i,i<n->p i=true):(List.range n).all p=true:=by
 rw [List.all_eq_true];intro x hx;exact h x (by simpa using hx)
theorem zgy {p:Nat->Bool} {n i:Nat} (hi:i<n) (h:p i=false):(List.range n).all p=false:=by
 cases e:(List.range n).all p with
 | false=>rfl
 | true=>rw [List.all_eq_true.mp e i (by simpa using hi)] at h; cases h
theorem yq3 {c v:List (List Int)} {f:Nat} {a b:List Int} (ha:c[f]?=some a) (hb:v[f]?=some b):zf1 c v f=(zgd a && decide ((b.length:Int)=zdy v) && b.all fun x=>zaj x 0 a.length):=by
 simp [zf1,ha,hb]
theorem zhm {P:Nat->Prop} {i:Nat} (h : ∀ j,j<i->P j) (hi:P i) : ∀ j,j<i+1->P j:=by
 intro j hj
 by_cases e:j=i
 ·subst e; exact hi
 ·exact h j (by omega)
theorem yk6 (q:Bool) (c v:List (List Int)) (hc : ∀ l∈c,l.length<=9223372036854775807) (hv : ∀ l∈v,l.length<=9223372036854775807):RUN T znw [.agg [.sl 1 (rws q c),.sl 1 (rws q v)]]=some ([bv (zd1 c v)],[]):=by
 refine zae rfl rfl ?_;have hR:=yae q c v
 by_cases h1:zaj c.length 1 4=true
 case neg=>simp [zou,zvo,zcu,-zbm,h1,zd1]
 by_cases h2:(v.length:Int)=c.length
 case neg=>simp [zou,zvo,zcu,-zbm,h1,h2,zd1]
 by_cases h3:zaj (zdy v) 1 40=true
 case neg=>simp [zou,zvo,zcu,-zbm,h1,h2,h3,hR,zd1]
 have h1':=zay.mp h1;rw [yp8 h1 h2 h3];simp [zou,zvo,zcu,-zbm,h1,h2,h3,hR];refine zan (fun n st => ∃ i:Nat,i+n=c.length/\(∀ j,j<i->zf1 c v j=true)/\st.V 1 = .ptr 0 none 0 0 0/\st.V 26 = .sl 1 (rws q c)/\st.V 27=iv c.length/\st.V 28=iv i/\0<st.nx/\st.S 0=some (.box [.sl 1 (rws q c),.sl 1 (rws q v)])) ?_ c.length _ ⟨0,by simp⟩;rintro n st ⟨i,hi,hk,v1,v26,v27,v28,hnx,hS⟩;simp [ye7,v26,v27,v28];have z:=fr hnx;refine zat (fun h => ?_) (fun h => ?_)
 ·simp at h;obtain ⟨a,ha⟩ : ∃ a,c[i]?=some a:=⟨_,bG h⟩;obtain ⟨b,hb⟩ : ∃ b,v[i]?=some b:=⟨_,bG (by omega)⟩;have ha':=zc3 (q:=q) ha;have hb':=zc3 (q:=q) hb;have hal:=hc a (bF ha);have hbl:=hv b (bF hb);have hC:=y61 a hal;have hF:=y64 (f:=zn4) (c := .sl 1 (zab a)) (p:=fun n => !zaj n 0 a.length) b hbl (by simp) (fun n _=>by simp);have hw:=wS h (by omega:c.length<=9223372036854775807);have hiv:i<v.length:=by omega
  have hfe:=yq3 ha hb
  by_cases d1:zgd a=true
  ·rcases Classical.propComplete ((b.length:Int)=zdy v) with d2 | d2
   ·by_cases d3:(b.all fun x=>zaj x 0 a.length)=true
    ·have d3':(b.any fun n => !zaj n 0 a.length)=false:=by simpa [List.any_eq_not_all_not] using d3
     simp [-getElem?_pos,v1,v26,v27,v28,hS,z,ha',hb',hC,hF,hR,hw,h,hiv,d1,d2,d3'];exact zah (n-1) (by omega) ⟨i+1,by omega,zhm hk (by rw [hfe,d1,d3]; simp [d2]),by simp [v1,v26,v27,z,hS]⟩
    ·have d3':(b.any fun n => !zaj n 0 a.length)=true:=by simpa [List.any_eq_not_all_not] using d3
     have no:=zgy h (by rw [hfe,d1]; simp [d3]:zf1 c v i=false);simp [-getElem?_pos,v1,v26,v27,v28,hS,z,ha',hb',hC,hF,hR,hw,h,hiv,d1,d2,d3',no]
   ·have no:=zgy h (by rw [hfe,d1]; simp [d2]:zf1 c v i=false);simp [-getElem?_pos,v1,v26,v27,v28,hS,z,ha',hb',hC,hF,hR,hw,h,hiv,d1,d2,no]
  ·have no:=zgy h (by rw [hfe]; simp [d1]:zf1 c v i=false);simp [-getElem?_pos,v1,v26,v27,v28,hS,z,ha',hb',hC,hF,hR,hw,h,hiv,d1,no]
 ·simp at h;have:=zuv (p:=zf1 c v) (n:=c.length) fun j hj=>hk j (by omega);simp [this]
theorem yk7 (q:Bool) (c v:List (List Int)) (hc : ∀ l∈c,l.length<=9223372036854775807) (hv : ∀ l∈v,l.length<=9223372036854775807):RUN T zn1 [.agg [.sl 1 (rws q c),.sl 1 (rws q v)]]=some ([bv (zd1 c v)],[]):=by
 refine zae rfl rfl ?_;have hR:=yk5 q c v
 by_cases h1:zaj c.length 1 4=true
 case neg=>simp [zox,zvo,zba,-za0,h1,zd1]
 by_cases h2:(v.length:Int)=c.length
 case neg=>simp [zox,zvo,zba,-za0,h1,h2,zd1]
 by_cases h3:zaj (zdy v) 1 40=true
 case neg=>simp [zox,zvo,zba,-za0,h1,h2,h3,hR,zd1]
 have h1':=zay.mp h1;rw [yp8 h1 h2 h3];simp [zox,zvo,zba,-za0,h1,h2,h3,hR];refine zan (fun n st => ∃ i:Nat,i+n=c.length/\(∀ j,j<i->zf1 c v j=true)/\st.V 1 = .ptr 0 none 0 0 0/\st.V 3=iv i/\0<st.nx/\st.S 0=some (.box [.sl 1 (rws q c),.sl 1 (rws q v)])) ?_ c.length _ ⟨0,by simp⟩;rintro n st ⟨i,hi,hk,v1,v3,hnx,hS⟩;simp [ye9,v1,v3,hS];have z:=fr hnx;refine zat (fun h => ?_) (fun h => ?_)
 ·simp at h;obtain ⟨a,ha⟩ : ∃ a,c[i]?=some a:=⟨_,bG h⟩;obtain ⟨b,hb⟩ : ∃ b,v[i]?=some b:=⟨_,bG (by omega)⟩;have ha':=zc3 (q:=q) ha;have hb':=zc3 (q:=q) hb;have hal:=hc a (bF ha);have hbl:=hv b (bF hb);have hC:=y62 a hal;have hw:=wS h (by omega:c.length<=9223372036854775807);have hiv:i<v.length:=by omega
  have hfe:=yq3 ha hb
  by_cases d1:zgd a=true
  case neg =>
   have no:=zgy h (by rw [hfe]; simp [d1]:zf1 c v i=false);simp [-getElem?_pos,v1,v3,hS,z,ha',hb',hC,hR,hw,h,hiv,d1,no]
  rcases Classical.propComplete ((b.length:Int)=zdy v) with d2 | d2
  case inr =>
   have no:=zgy h (by rw [hfe,d1]; simp [d2]:zf1 c v i=false);simp [-getElem?_pos,v1,v3,hS,z,ha',hb',hC,hR,hw,h,hiv,d1,d2,no]
  simp [-getElem?_pos,v1,v3,hS,z,ha',hb',hC,hR,hw,h,hiv,d1,d2];refine zan (fun n st => ∃ j:Nat,j+n=b.length/\(∀ (k:Nat) (x:Int),k<j->b[k]?=some x->zaj x 0 a.length=true)/\st.V 1 = .ptr 0 none 0 0 0/\st.V 3=iv i/\st.V 4=iv j/\0<st.nx/\st.S 0=some (.box [.sl 1 (rws q c),.sl 1 (rws q v)])) ?_ b.length _ ⟨0,by omega,fun _ _ h=>by omega,by simp [v1,v3,hnx,hS]⟩;clear v1 v3 hnx hS z;rintro n' st ⟨j,hj,hjk,v1,v3,v4,hnx,hS⟩;simp [-getElem?_pos,ye8,v1,v3,v4,hS,hb',hiv];refine zat (fun h4 => ?_) (fun h4 => ?_)
  ·simp at h4;obtain ⟨x,hx⟩ : ∃ x,b[j]?=some x:=⟨_,bG h4⟩;have hx':=zax hx;have hwj:=wS h4 hbl;rcases Bool.eq_false_or_eq_true (zaj x 0 a.length) with d3 | d3
   ·simp [-getElem?_pos,v1,v3,v4,hS,ha',hb',hx',hiv,h,h4,d3,hwj,zba,-za0];exact zah (n'-1) (by omega) ⟨j+1,by omega,zla (P:=fun _ x=>zaj x 0 a.length=true) hjk hx d3,by simp [v1,v3,hnx,hS]⟩
   ·have no:=zgy h (by rw [hfe,zy0 hx d3]; simp:zf1 c v i=false);simp [-getElem?_pos,v1,v3,v4,hS,ha',hb',hx',hiv,h,h4,d3,hwj,no,zba,-za0]
  ·simp at h4;have ok:zf1 c v i=true:=by
    rw [hfe,d1,zyw fun k x hk hx=>hjk k x (by omega) hx]; simp [d2]
   simp [-getElem?_pos,v1,v3,v4,hS,hw];exact zah (n-1) (by omega) ⟨i+1,by omega,zhm hk ok,by simp [v1,hnx,hS]⟩
 ·simp at h;have:=zuv (p:=zf1 c v) (n:=c.length) fun j hj=>hk j (by omega);simp [this]
def ziz (x:Int):Bool:=zaj x (-2199023255552) 2199023255552
def zgp (c v:List (List Int)) (lab:List Int) (g:Cfg):Bool:=zd1 c v && zb7 g && decide ((lab.length:Int)=zdy v) && lab.all ziz
@[simp] theorem qoj (n:Int):RUN T znx [iv n]=some ([bv (!ziz n)],[]):=by
 refine zae rfl rfl ?_;simp [z4g,zvo,zcu,-zbm,ziz]
theorem yk8 (q:Bool) (c v:List (List Int)) (lab:List Int) (g:Cfg) (hc : ∀ l∈c,l.length<=9223372036854775807) (hv : ∀ l∈v,l.length<=9223372036854775807) (hlab:lab.length<=9223372036854775807) (hg:g.sg.length<=9223372036854775807):RUN T znl [.agg [.sl 1 (rws q c),.sl 1 (rws q v)],.sl 1 (zab lab),zdw g]=some ([bv (zgp c v lab g)],[]):=by
 refine zae rfl rfl ?_;have e1:=yk6 q c v hc hv;have e2:=yaa g hg;have e3:=yae q c v;have e4:=z99 (f:=znx) (p:=fun n => !ziz n) lab hlab (by simp) (fun n _=>by simp);unfold zgp;cases d1:zd1 c v with
 | false=>simp [zoq,zzs,zdw,e1,d1]
 | true =>
  cases d2:zb7 g with
  | false=>simp [zoq,zzs,zdw,e1,d1,e2,d2]
  | true =>
   rcases Classical.propComplete ((lab.length:Int)=zdy v) with d3 | d3
   ·have d4:(!(lab.any fun n => !ziz n))=lab.all ziz:=by simp [List.any_eq_not_all_not]
    simp [zoq,zzs,zdw,e1,d1,e2,d2,e3,d3,e4,d4]
   ·simp [zoq,zzs,zdw,e1,d1,e2,d2,e3,d3]
theorem yk9 (q:Bool) (c v:List (List Int)) (lab:List Int) (g:Cfg) (hc : ∀ l∈c,l.length<=9223372036854775807) (hv : ∀ l∈v,l.length<=9223372036854775807) (hlab:lab.length<=9223372036854775807) (hg:g.sg.length<=9223372036854775807):RUN T znp [.agg [.sl 1 (rws q c),.sl 1 (rws q v)],.sl 1 (zab lab),zdw g]=some ([bv (zgp c v lab g)],[]):=by
 refine zae rfl rfl ?_;have e1:=yk7 q c v hc hv;have e2:=yab g hg;have e3:=yk5 q c v;unfold zgp;cases d1:zd1 c v with
 | false=>simp [zos,zzs,zdw,e1,d1]
 | true =>
  cases d2:zb7 g with
  | false=>simp [zos,zzs,zdw,e1,d1,e2,d2]
  | true =>
   rcases Classical.propComplete ((lab.length:Int)=zdy v) with d3 | d3
   ·simp [zos,zzs,zdw,e1,d1,e2,d2,e3,d3];refine zan (fun n st => ∃ i:Nat,i+n=lab.length/\(∀ (j:Nat) (x:Int),j<i->lab[j]?=some x->ziz x=true)/\st.V 1 = .sl 1 (zab lab)/\st.V 7=iv i) ?_ lab.length _ ⟨0,by omega,fun _ _ h=>by omega,by simp⟩;rintro n st ⟨i,hi,hj,v1,v7⟩;simp [yey,v1,v7];refine zat (fun h => ?_) (fun h => ?_)
    ·simp at h;obtain ⟨x,hx⟩ : ∃ x,lab[i]?=some x:=⟨_,bG h⟩;have hx':=zax hx;have hw:=wS h hlab;have hlb:ziz x=zaj x (-2199023255552) 2199023255552:=rfl;cases d4:ziz x with
     | true =>
      have d5:=hlb.symm.trans d4;simp [-getElem?_pos,v1,v7,hx',hw,h,d5,zba,-za0];exact zah (n-1) (by omega) ⟨i+1,by omega,zla (P:=fun _ x=>ziz x=true) hj hx d4,by simp [v1]⟩
     | false =>
      have d5:=hlb.symm.trans d4;have no:=zy0 hx d4;simp [-getElem?_pos,v1,v7,hx',hw,h,d5,no,zba,-za0]
    ·simp at h;have:=zyw (p:=ziz) fun j a h1 h2=>hj j a (by omega) h2;simp [this,d3]
   ·simp [zos,zzs,zdw,e1,d1,e2,d2,e3,d3]
theorem yt3 {α:Type} {f:α->List PV} {p:α->Prop} {tys:List TY} (h : ∀ cs,zcc tys cs->∃ a,f a=cs/\p a) : ∀ {es:List (List PV)},(∀ cs∈es,zcc tys cs)->∃ l:List α,l.map f=es/\∀ a∈l,p a
 | [],_=>⟨[],rfl,by simp⟩
 | e::es,hs=>by
  obtain ⟨a,ha,hp⟩:=h e (hs e (by simp));obtain ⟨l,hl,hq⟩:=yt3 h (es:=es) (fun cs hc=>hs cs (by simp [hc]));refine ⟨a::l,by simp [ha,hl],fun b hb => ?_⟩;rcases List.mem_cons.mp hb with e | e
  ·subst e; exact hp
  ·exact hq b e
theorem qc1 {P:Program} {l:List TypeId} (h:(l.all fun t=>P.readableRec t && decide (t<P.types.size))=true) : ∀ t∈l,P.readableRec t=true/\t<P.types.size:=by
 intro t ht;have:=List.all_eq_true.mp h t ht;simpa using this
theorem qgn {p:Bool×List TY} {pvs:List PV} (h:zdj (fun p c=>zmu p.1 p.2 c) [p] pvs) : ∃ a,pvs=[a]/\zmu p.1 p.2 a:=by
 cases h with
 | cons h1 t=>cases t with
  | nil=>exact ⟨_,rfl,h1⟩
def zbl (B:List Int):List (List PV):=B.map fun n=>[.v (.int .u8 n)]
@[simp] theorem qhk (B:List Int):(zbl B).length=B.length:=by simp [zbl]
theorem ymt {B:List Int} {i:Nat} {x:Int} (h:B[i]?=some x):(zbl B)[i]?=some [.v (.int .u8 x)]:=by simp [zbl,h]
def zjq (rv:List RV) (io:Nat) (G:List PV×List PV->Prop) (_:Dm rv) (_:Dm G) (e:Ex) (s:St):Prop:=(e = .normal\/e = .ret)/\∃ r,zfv ⟨[],rv,.skip⟩ io s=some r/\G r
@[simp] theorem qpo {rv:List RV} {io:Nat} {G:List PV×List PV->Prop} {s:St}:zjq rv io G ⟨⟩ ⟨⟩ .normal s = ∃ r,zfv ⟨[],rv,.skip⟩ io s=some r/\G r:=by simp [zjq]
@[simp] theorem qy5 {rv:List RV} {io:Nat} {G:List PV×List PV->Prop} {s:St}:zjq rv io G ⟨⟩ ⟨⟩ .ret s = ∃ r,zfv ⟨[],rv,.skip⟩ io s=some r/\G r:=by simp [zjq]
theorem zeu {T:zch} {f:Nat} {ms:List Bool} {rv:List RV} {ic:IC} {G:List PV×List PV->Prop} (hT:T f=some (.code ⟨ms,rv,ic⟩)) {args:List PV} {st:St} (hi:zkp args=some st) (h:W (zad T) (RUN T) ic st (zjq rv st.nx G ⟨⟩ ⟨⟩)) : ∃ r,RUN T f args=some r/\G r:=by
 unfold W at h;obtain ⟨e,s,h1,h2,r,h3,hG⟩:=h;refine ⟨r,ysr hT ?_,hG⟩;unfold zx2;rw [hi];simp only [Option.bind_some,h1];rcases h2 with rfl | rfl <;> exact h3
attribute [irreducible] zjq
theorem z9j (X:Nat):0<=IntKind.i64.wrap ((X &&& 255 % 2 ^ IntKind.i64.bits:Nat):Int)/\IntKind.i64.wrap ((X &&& 255 % 2 ^ IntKind.i64.bits:Nat):Int)<=255:=by
 have h:X &&& 255 % 2 ^ IntKind.i64.bits<=255:=Nat.le_trans Nat.and_le_right (by decide);rw [w64 (by omega) (by omega)];omega
def zfk (B:List Int) (P:PV->Prop) (r:List PV×List PV):Prop := ∃ (v:PV) (p:Nat) (s:Int),P v/\p<=B.length/\r=([v],[.bx [.sl 1 (zbl B),iv p,iv s]])
def PB (v:PV):Prop := ∃ b,v=bv b
def PM (l:List Int) (v:PV):Prop := ∃ n,v=iv n/\n∈l
def PI (v:PV):Prop := ∃ n,v=iv n/\inI n
def PN (n:Int) (v:PV):Prop := ∃ m,v=iv m/\0<=m/\(0<n->m<n)
theorem zxt (B:List Int) (p:Nat) (s:Int) (hp:p<=B.length) (hB:B.length<=9223372036854775807) : ∃ r,RUN T zhw [.bx [.sl 1 (zbl B),iv p,iv s]]=some r/\zfk B (fun v => ∃ n,v=iv n/\0<=n/\n<=255) r:=by
 refine zeu rfl rfl ?_
 by_cases h:p<B.length
 ·obtain ⟨x,hx⟩ : ∃ x,B[p]?=some x:=⟨_,bG h⟩;have hx':=ymt hx;have hw:=wS h hB;simp [-getElem?_pos,zwf,zvo,h,hx',hw];exact ⟨_,p+1,_,⟨_,rfl,(z9j _).1,(z9j _).2⟩,h,rfl⟩
 ·have h' : ¬ ((p:Int)<B.length):=by omega
  simp [-getElem?_pos,zwf,zvo,h,h'];exact ⟨_,p,_,⟨_,rfl,(z9j _).1,(z9j _).2⟩,hp,rfl⟩
theorem za9 (B:List Int) (p:Nat) (s:Int) (hp:p<=B.length) (hB:B.length<=9223372036854775807) (n:Int) (hn:n<=9223372036854775807) : ∃ r,RUN T za8 [.bx [.sl 1 (zbl B),iv p,iv s],iv n]=some r/\zfk B (PN n) r:=by
 refine zeu rfl rfl ?_;obtain ⟨r1,h1,v1,p1,s1,⟨a1,rfl,a10,a11⟩,hp1,rfl⟩:=zxt B p s hp hB
 by_cases c1:n<=0
 ·simp [-getElem?_pos,zts,zvr,c1];exact ⟨_,p,s,⟨0,rfl,by omega,by omega⟩,hp,rfl⟩
 have c0 : ¬ (n=0):=by omega
 by_cases c2:n<=256
 ·simp [-getElem?_pos,zts,zvr,c0,c1,c2,h1];refine ⟨_,p1,s1,⟨_,rfl,?_,fun _ => ?_⟩,hp1,rfl⟩
  ·exact Int.tmod_nonneg _ a10
  ·exact Int.tmod_lt_of_pos _ (by omega)
 obtain ⟨r2,h2,v2,p2,s2,⟨a2,rfl,a20,a21⟩,hp2,rfl⟩:=zxt B p1 s1 hp1 hB;obtain ⟨r3,h3,v3,p3,s3,⟨a3,rfl,a30,a31⟩,hp3,rfl⟩:=zxt B p2 s2 hp2 hB;obtain ⟨r4,h4,v4,p4,s4,⟨a4,rfl,a40,a41⟩,hp4,rfl⟩:=zxt B p3 s3 hp3 hB;have w1:=w64 (x:=a1*16777216) (by omega) (by omega);have w2:=w64 (x:=a2*65536) (by omega) (by omega);have w3:=w64 (x:=a1*16777216+a2*65536) (by omega) (by omega);have w4:=w64 (x:=a3*256) (by omega) (by omega);have w5:=w64 (x:=a1*16777216+a2*65536+a3*256) (by omega) (by omega);have w6:=w64 (x:=a1*16777216+a2*65536+a3*256+a4) (by omega) (by omega);simp [-getElem?_pos,zts,zvr,c0,c1,c2,h1,h2,h3,h4,w1,w2,w3,w4,w5,w6];refine ⟨_,p4,s4,⟨_,rfl,?_,fun _ => ?_⟩,hp4,rfl⟩
 ·exact Int.tmod_nonneg _ (by omega)
 ·exact Int.tmod_lt_of_pos _ (by omega)
theorem zgq (B:List Int) (p:Nat) (s:Int) (hp:p<=B.length) (hB:B.length<=9223372036854775807) (n:Int) (hn:n<=9223372036854775807) : ∃ r,RUN T zgc [.bx [.sl 1 (zbl B),iv p,iv s],iv n]=some r/\zfk B PB r:=by
 refine zeu rfl rfl ?_;obtain ⟨r1,h1,v1,p1,s1,⟨a1,rfl,a10,a11⟩,hp1,rfl⟩:=za9 B p s hp hB n hn;simp [-getElem?_pos,zz3,zvr,h1];exact ⟨_,p1,s1,⟨_,rfl⟩,hp1,rfl⟩
def qfk (B:List Int) (l:List Int) (P:PV->Prop) (r:List PV×List PV):Prop := ∃ (v:PV) (p:Nat) (s:Int),P v/\p<=B.length/\r=([v],[.bx [.sl 1 (zbl B),iv p,iv s],.own 1 (zab l)])
theorem zfr (B:List Int) (p:Nat) (s:Int) (hp:p<=B.length) (hB:B.length<=9223372036854775807) (l:List Int) (hl:0<l.length/\l.length<=9223372036854775807) : ∃ r,RUN T zd3 [.bx [.sl 1 (zbl B),iv p,iv s],.own 1 (zab l)]=some r/\qfk B l (PM l) r:=by
 refine zeu rfl rfl ?_;obtain ⟨r1,h1,v1,p1,s1,⟨a1,rfl,a10,a11⟩,hp1,rfl⟩:=za9 B p s hp hB l.length (by omega);obtain ⟨i,rfl⟩ : ∃ i:Nat,a1=i:=⟨a1.toNat,by omega⟩;have hi:i<l.length:=by have:=a11 (by omega); omega
 obtain ⟨x,hx⟩ : ∃ x,l[i]?=some x:=⟨_,bG hi⟩;have hx':=zax hx;simp [-getElem?_pos,z1e,zvr,h1,hx',hi];exact ⟨_,p1,s1,⟨x,rfl,bF hx⟩,hp1,rfl⟩
theorem qdp (x:Int):inI (IntKind.i64.wrap x):=by
 unfold inI IntKind.wrap;simp [IntKind.bits,IntKind.signed];omega
theorem yla (B:List Int) (p:Nat) (s:Int) (hp:p<=B.length) (hB:B.length<=9223372036854775807) : ∃ r,RUN T znc [.bx [.sl 1 (zbl B),iv p,iv s]]=some r/\zfk B PI r:=by
 refine zeu rfl rfl ?_;obtain ⟨r1,h1,v1,p1,s1,⟨a1,rfl,a10,a11⟩,hp1,rfl⟩:=za9 B p s hp hB 4 (by omega)
 by_cases c0:a1=0
 ·obtain ⟨r2,h2,v2,p2,s2,⟨a2,rfl,hm⟩,hp2,rfl⟩:=zfr B p1 s1 hp1 hB [0,1,-1,9,10,999,1000,2147483647,-2147483648,3037000499,3037000500,9223372036854775807,-9223372036854775807,-9223372036854775808] (by simp);simp only [zab,List.map] at h2;simp [-getElem?_pos,zom,zvo,h1,c0,h2];refine ⟨_,p2,s2,⟨a2,rfl,?_⟩,hp2,rfl⟩;simp at hm;unfold inI;omega
 by_cases c1:a1=1
 ·simp [-getElem?_pos,zom,zvo,h1,c0,c1];refine zan (fun n st => ∃ (i p:Nat) (x s:Int),i+n=8/\p<=B.length/\inI x/\st.V 0 = .ptr 0 none 0 0 0/\st.V 3=iv x/\st.V 4=iv i/\0<st.nx/\st.ep=0/\st.S 0=some (.box [.sl 1 (zbl B),iv p,iv s])) ?_ 8 _ ⟨0,p1,0,s1,by omega,hp1,by unfold inI; omega,by simp⟩;clear h1;rintro n st ⟨i,p,x,s,hi,hp,hx,v0,v3,v4,hnx,hep,hS⟩;simp [yel,v4];refine zat (fun h => ?_) (fun h => ?_)
  ·simp at h;obtain ⟨r2,h2,v2,p2,s2,⟨a2,rfl,a20,a21⟩,hp2,rfl⟩:=zxt B p s hp hB;have w:=w64 (x:=(i:Int)+1) (by omega) (by omega);simp [-getElem?_pos,v0,v3,v4,hep,hS,h2,w];exact zah (n-1) (by omega) ⟨i+1,p2,_,s2,by omega,hp2,qdp _,by simp [v0],by simp; rfl,by simp [hnx,hep]⟩
  ·simp [-getElem?_pos,v3,v0,hS];exact ⟨_,p,s,⟨x,rfl,hx⟩,hp,rfl⟩
 by_cases c2:a1=2
 ·obtain ⟨r2,h2,v2,p2,s2,⟨a2,rfl,a20,a21⟩,hp2,rfl⟩:=za9 B p1 s1 hp1 hB 1000000 (by omega);have a22:=a21 (by omega);have w:=w64 (x:=a2-500000) (by omega) (by omega);simp [-getElem?_pos,zom,zvo,h1,c0,c1,c2,h2,w];exact ⟨_,p2,s2,⟨_,rfl,by unfold inI; omega⟩,hp2,rfl⟩
 ·obtain ⟨r2,h2,v2,p2,s2,⟨a2,rfl,a20,a21⟩,hp2,rfl⟩:=za9 B p1 s1 hp1 hB 41 (by omega);have a22:=a21 (by omega);have w:=w64 (x:=a2-20) (by omega) (by omega);simp [-getElem?_pos,zom,zvo,h1,c0,c1,c2,h2,w];exact ⟨_,p2,s2,⟨_,rfl,by unfold inI; omega⟩,hp2,rfl⟩
theorem y65 (B:List Int) (hB:B.length<=9223372036854775807) : ∃ r,RUN T zrf [.sl 1 (zbl B)]=some r/\∃ s:Int,r=([.bx [.sl 1 (zbl B),iv (0:Nat),iv s]],[]):=by
 refine zeu rfl rfl ?_;simp [-getElem?_pos,z09,zvo];refine zan (fun n st => ∃ (i:Nat) (x:Int),i+n=B.length/\st.V 0 = .sl 1 (zbl B)/\st.V 3=iv x/\st.V 4=iv i) ?_ B.length _ ⟨0,_,by omega,by simp,by simp; rfl,by simp⟩;rintro n st ⟨i,x,hi,v0,v3,v4⟩
 by_cases h:i<B.length
 ·obtain ⟨b,hx⟩ : ∃ b,B[i]?=some b:=⟨_,bG h⟩;have hx':=ymt hx;have hw:=wS h hB
  by_cases h2:(i:Int)<4000
  ·have h2':=eq_true h2;simp [-getElem?_pos,z08,v0,v3,v4,h,h2',hx',hw];exact zah (n-1) (by omega) ⟨i+1,_,by omega,by simp [v0],by simp; rfl,by simp⟩
  ·have h2':=eq_false h2;simp [-getElem?_pos,z08,v0,v3,v4,h,h2']
 ·simp [-getElem?_pos,z08,v0,v3,v4,h]
def adi (a b:Int):Int×Bool:=if -9223372036854775808<=a+b/\a+b<=9223372036854775807 then (a+b,true) else (0,false)
theorem ymw {a b:Int} (ha:inI a) (hb:inI b):IntKind.i64.wrap (a+b)=if 9223372036854775807<a+b then a+b-18446744073709551616 else if a+b < -9223372036854775808 then a+b+18446744073709551616 else a+b:=by
 unfold inI at ha hb;unfold IntKind.wrap;simp [IntKind.bits,IntKind.signed];omega
theorem yaf (a b:Int) (ha:inI a) (hb:inI b):RUN T zli [iv a,iv b]=some ([iv (adi a b).1,bv (adi a b).2],[]):=by
 refine zae rfl rfl ?_;have hw:=ymw ha hb;unfold inI at ha hb;unfold adi
 by_cases c1:9223372036854775807<a+b
 ·rw [if_pos c1] at hw;rw [if_neg (by omega)];have d1:=eq_false (by omega : ¬ a<0);have d2:=eq_false (by omega : ¬ b<0);have d3:=eq_true (by omega:a+b-18446744073709551616<0);simp [-getElem?_pos,zkf,zkg,hw,d1,d2,d3]
 ·rw [if_neg c1] at hw
  by_cases c2:a+b < -9223372036854775808
  ·rw [if_pos c2] at hw;rw [if_neg (by omega)];have d1:=eq_true (by omega:a<0);have d2:=eq_true (by omega:b<0);have d3:=eq_false (by omega : ¬ a+b+18446744073709551616<0);simp [-getElem?_pos,zkf,zkg,hw,d1,d2,d3]
  ·rw [if_neg c2] at hw;rw [if_pos (by omega)];rcases Classical.propComplete (a<0) with d1 | d1
   all_goals rcases Classical.propComplete (b<0) with d2 | d2
   all_goals simp at d1 d2
   ·have d3:=eq_true (by omega:a+b<0);simp [-getElem?_pos,zkf,zkg,hw,eq_true d1,eq_true d2,d3]
   ·have d2':=eq_false (by omega : ¬ b<0);simp [-getElem?_pos,zkf,zkg,hw,eq_true d1,d2']
   ·have d1':=eq_false (by omega : ¬ a<0);simp [-getElem?_pos,zkf,zkg,hw,eq_true d2,d1']
   ·have d1':=eq_false (by omega : ¬ a<0);have d2':=eq_false (by omega : ¬ b<0);have d3:=eq_false (by omega : ¬ a+b<0);simp [-getElem?_pos,zkf,zkg,hw,d1',d2',d3]
theorem z7p (a b:Int) (ha:inI a) (hb:inI b):RUN T zjy [iv a,iv b]=some ([iv (adi a b).1,bv (adi a b).2],[]):=by
 refine zae rfl rfl ?_;have hw:=ymw ha hb;unfold inI at ha hb;unfold adi;rcases Int.lt_trichotomy b 0 with c | c | c
 ·have d1:=eq_false (by omega : ¬ 0<b);have d2:=eq_true c;have w:=w64 (x := -9223372036854775808-b) (by omega) (by omega)
  by_cases e:a < -9223372036854775808-b
  ·rw [if_neg (by omega)];simp [-getElem?_pos,zmc,zkg,d1,d2,w,e]
  ·rw [if_neg (by omega),if_neg (by omega)] at hw;rw [if_pos (by omega)];simp [-getElem?_pos,zmc,zkg,d1,d2,w,e,hw]
 ·subst c;rw [if_neg (by omega),if_neg (by omega)] at hw;rw [if_pos (by omega)];simp at hw;simp [zmc,zkg,hw]
 ·have d1:=eq_true c;have d2:=eq_false (by omega : ¬ b<0);have w:=w64 (x:=9223372036854775807-b) (by omega) (by omega)
  by_cases e:9223372036854775807-b<a
  ·rw [if_neg (by omega)];simp [-getElem?_pos,zmc,zkg,d1,d2,w,e]
  ·rw [if_neg (by omega),if_neg (by omega)] at hw;rw [if_pos (by omega)];simp [-getElem?_pos,zmc,zkg,d1,d2,w,e,hw]
def zjt:Int->List Int->Option Int
 | t,[]=>some t
 | t,x::xs=>if (adi t x).2 then zjt (adi t x).1 xs else none
def zc5 (l:List Int):Int×Bool:=match zjt 0 l with
 | some t=>fdv t l.length
 | none=>(0,false)
theorem ydb {a b:Int} (ha:inI a):inI (adi a b).1:=by
 unfold adi;split
 ·rename_i h; exact h
 ·unfold inI; omega
theorem y66 (l:List Int) (hl:l.length<=9223372036854775807) (hin : ∀ n∈l,inI n):RUN T zqs [.sl 1 (zab l)]=some ([iv (zc5 l).1,bv (zc5 l).2],[]):=by
 refine zae rfl rfl ?_;simp [-getElem?_pos,zz9,z0a];refine zan (fun n st => ∃ (i:Nat) (t:Int),i+n=l.length/\inI t/\zjt t (l.drop i)=zjt 0 l/\st.V 0 = .sl 1 (zab l)/\st.V 4=iv t/\st.V 5=iv i) ?_ l.length _ ⟨0,0,by omega,by unfold inI; omega,by simp⟩;rintro n st ⟨i,t,hi,ht,hb,v0,v4,v5⟩;simp [yeh,v0,v5];refine zat (fun h => ?_) (fun h => ?_)
 ·simp at h;obtain ⟨x,hx⟩ : ∃ x,l[i]?=some x:=⟨_,bG h⟩;have hx':=zax hx;have hw:=wS h hl;have ha:=z7p t x ht (hin x (bF hx));rw [zc9 hx,zjt] at hb;cases c:(adi t x).2 with
  | true =>
   rw [if_pos c] at hb;rw [c] at ha;simp [-getElem?_pos,v0,v4,v5,hx',h,ha,hw];exact zah (n-1) (by omega) ⟨i+1,_,by omega,ydb ht,hb,by simp [v0]⟩
  | false =>
   rw [if_neg (by simp [c])] at hb;rw [c] at ha;have:zc5 l=(0,false):=by unfold zc5; rw [<- hb]
   simp [-getElem?_pos,v0,v4,v5,hx',h,ha,hw,this]
 ·simp at h;rw [List.drop_eq_nil_of_le h,zjt] at hb;have hf:=yac t l.length ht;have e:zc5 l=fdv t l.length:=by unfold zc5; rw [<- hb]
  simp [-getElem?_pos,v0,v4,hf,e]
theorem y67 (es:List (List PV)):RUN T zqc [.sl 1 es]=some ([bv (decide ((1048576:Int)<es.length))],[]):=by
 refine zae rfl rfl ?_;simp [-getElem?_pos,zzf,zvo]
def zyk (v:Int):Nd:=⟨-1,0,0,0,v⟩
theorem y68 (v:Int):RUN T zsb [iv v]=some ([.agg [.own 5 ([zyk v].map nd)]],[]):=by
 refine zae rfl rfl ?_;have hr:zag 40 1=true:=by decide
 simp [-getElem?_pos,z3t,zh0,hr,zyk,nd]
theorem qfe {x y:Nd}:x=y↔x.f=y.f/\x.c=y.c/\x.l=y.l/\x.r=y.r/\x.v=y.v:=by
 cases x; cases y; simp
open Classical in
theorem y69 (t u:List Nd) (ht:t.length<=9223372036854775807) (hu:u.length<=9223372036854775807):RUN T zqd [.agg [.sl 5 (t.map nd)],.agg [.sl 5 (u.map nd)]]=some ([bv (decide (t=u))],[]):=by
 refine zae rfl rfl ?_;rcases Classical.propComplete ((t.length:Int)=u.length) with hl | hl
 case inr =>
  have:decide (t=u)=false:=by simp; rintro rfl; simp at hl
  simp [-getElem?_pos,zvq,zvr,hl,this]
 simp [-getElem?_pos,zvq,zvr,hl];have hlen:t.length=u.length:=by simp at hl; omega
 refine zan (fun n st => ∃ i:Nat,i+n=t.length/\(∀ j,j<i->t[j]?=u[j]?)/\st.V 2 = .ptr 0 none 0 0 0/\st.V 3 = .ptr 1 none 0 0 0/\st.V 5=iv i/\st.S 0=some (.box [.sl 5 (t.map nd)])/\st.S 1=some (.box [.sl 5 (u.map nd)])) ?_ t.length _ ⟨0,by simp⟩;rintro n st ⟨i,hi,hj,v2,v3,v5,hS,hS1⟩;simp [yed,v2,v3,v5,hS];refine zat (fun h => ?_) (fun h => ?_)
 ·simp at h;obtain ⟨x,hx⟩ : ∃ x,t[i]?=some x:=⟨_,bG h⟩;obtain ⟨y,hy⟩ : ∃ y,u[i]?=some y:=⟨_,bG (by omega)⟩;have hw:=wS h ht;have hiu:i<u.length:=by omega
  rcases Classical.propComplete (x.f=y.f/\x.c=y.c/\x.l=y.l/\x.r=y.r/\x.v=y.v) with e | e
  ·simp [-getElem?_pos,v2,v3,v5,hS,hS1,hx,hy,nd,h,hiu,hw,z7u,e];refine zah (n-1) (by omega) ⟨i+1,by omega,zhm hj ?_,by simp [v2,v3,hS,hS1]⟩;rw [hx,hy,qfe.mpr (of_eq_true e)]
  ·have:decide (t=u)=false:=by
    simp;rintro rfl;rw [hx] at hy;cases hy;simp at e
   simp [-getElem?_pos,v2,v3,v5,hS,hS1,hx,hy,nd,h,hiu,hw,z7u,e,this]
 ·simp at h;have:t=u:=by
   apply List.ext_getElem?;intro j
   by_cases c:j<i
   ·exact hj j c
   ·rw [List.getElem?_eq_none (by omega),List.getElem?_eq_none (by omega)]
  simp [this]
def sbi (a b:Int):Int×Bool:=if -9223372036854775808<=a-b/\a-b<=9223372036854775807 then (a-b,true) else (0,false)
theorem yor {a b:Int} (ha:inI a) (hb:inI b):IntKind.i64.wrap (a-b)=if 9223372036854775807<a-b then a-b-18446744073709551616 else if a-b < -9223372036854775808 then a-b+18446744073709551616 else a-b:=by
 unfold inI at ha hb;unfold IntKind.wrap;simp [IntKind.bits,IntKind.signed];omega
theorem yag (a b:Int) (ha:inI a) (hb:inI b):RUN T zln [iv a,iv b]=some ([iv (sbi a b).1,bv (sbi a b).2],[]):=by
 refine zae rfl rfl ?_;have hw:=yor ha hb;unfold inI at ha hb;unfold sbi
 by_cases c1:9223372036854775807<a-b
 ·rw [if_pos c1] at hw;rw [if_neg (by omega)];have d1:=eq_false (by omega : ¬ a<0);have d2:=eq_true (by omega:b<0);have d3:=eq_true (by omega:a-b-18446744073709551616<0);simp [-getElem?_pos,zkj,zkg,hw,d1,d2,d3]
 ·rw [if_neg c1] at hw
  by_cases c2:a-b < -9223372036854775808
  ·rw [if_pos c2] at hw;rw [if_neg (by omega)];have d1:=eq_true (by omega:a<0);have d2:=eq_false (by omega : ¬ b<0);have d3:=eq_false (by omega : ¬ a-b+18446744073709551616<0);simp [-getElem?_pos,zkj,zkg,hw,d1,d2,d3]
  ·rw [if_neg c2] at hw;rw [if_pos (by omega)];rcases Classical.propComplete (a<0) with d1 | d1
   all_goals rcases Classical.propComplete (b<0) with d2 | d2
   all_goals simp at d1 d2
   ·simp [-getElem?_pos,zkj,zkg,hw,eq_true d1,eq_true d2]
   ·have d2':=eq_false (by omega : ¬ b<0);have d3:=eq_true (by omega:a-b<0);simp [-getElem?_pos,zkj,zkg,hw,eq_true d1,d2',d3]
   ·have d1':=eq_false (by omega : ¬ a<0);have d3:=eq_false (by omega : ¬ a-b<0);simp [-getElem?_pos,zkj,zkg,hw,eq_true d2,d1',d3]
   ·have d1':=eq_false (by omega : ¬ a<0);have d2':=eq_false (by omega : ¬ b<0);simp [-getElem?_pos,zkj,zkg,hw,d1',d2']
theorem yah (a b:Int) (ha:inI a) (hb:inI b):RUN T zlp [iv a,iv b]=some ([iv (sbi a b).1,bv (sbi a b).2],[]):=by
 refine zae rfl rfl ?_;have hw:=yor ha hb;unfold inI at ha hb;unfold sbi;rcases Int.lt_trichotomy b 0 with c | c | c
 ·have d1:=eq_false (by omega : ¬ 0<b);have d2:=eq_true c;have w:=w64 (x:=9223372036854775807+b) (by omega) (by omega)
  by_cases e:9223372036854775807+b<a
  ·rw [if_neg (by omega)];simp [-getElem?_pos,zmf,zkg,d1,d2,w,e]
  ·rw [if_neg (by omega),if_neg (by omega)] at hw;rw [if_pos (by omega)];simp [-getElem?_pos,zmf,zkg,d1,d2,w,e,hw]
 ·subst c;rw [if_neg (by omega),if_neg (by omega)] at hw;rw [if_pos (by omega)];simp at hw;simp [zmf,zkg,hw]
 ·have d1:=eq_true c;have d2:=eq_false (by omega : ¬ b<0);have w:=w64 (x := -9223372036854775808+b) (by omega) (by omega)
  by_cases e:a < -9223372036854775808+b
  ·rw [if_neg (by omega)];simp [-getElem?_pos,zmf,zkg,d1,d2,w,e]
  ·rw [if_neg (by omega),if_neg (by omega)] at hw;rw [if_pos (by omega)];simp [-getElem?_pos,zmf,zkg,d1,d2,w,e,hw]
def res:List Int->List Int->Option (List Int)
 | x::xs,y::ys=>if (sbi x y).2 then (res xs ys).map ((sbi x y).1 :: ·) else none
 | _,_=>some []
theorem yq6 {l m:List Int} {i:Nat} {x y:Int} (hx:l[i]?=some x) (hy:m[i]?=some y):res (l.drop i) (m.drop i)=if (sbi x y).2 then (res (l.drop (i+1)) (m.drop (i+1))).map ((sbi x y).1 :: ·) else none:=by
 rw [zc9 hx,zc9 hy,res]
theorem yqm (m:List Int):res [] m=some []:=by cases m <;> rfl
def zfs (l m:List Int):List Int×Bool:=if l.length=m.length then match res l m with
  | some r=>(r,true)
  | none=>([],false)
 else ([],false)
theorem yd4 : ∀ {l m r:List Int},l.length=m.length->res l m=some r->r.length=l.length/\∀ (i:Nat) (x y z:Int),l[i]?=some x->m[i]?=some y->r[i]?=some z->z=x-y /\ -9223372036854775808<=x-y/\x-y<=9223372036854775807
 | [],[],r,_,h=>by simp [res] at h; subst h; simp
 | x::xs,y::ys,r,hl,h=>by
  rw [res] at h;split at h
  ·rename_i c;simp only [bB] at h;obtain ⟨r',hr,rfl⟩:=h;obtain ⟨h1,h2⟩:=yd4 (by simpa using hl) hr;refine ⟨by simp [h1],fun i a b z ha hb hz => ?_⟩;cases i with
   | zero =>
    simp at ha hb hz;subst ha hb hz;unfold sbi at c ⊢;split at c
    ·rename_i hh; rw [if_pos hh]; exact ⟨rfl,hh⟩
    ·cases c
   | succ i=>exact h2 i a b z (by simpa using ha) (by simpa using hb) (by simpa using hz)
  ·cases h
 | [],_::_,_,hl,_=>by simp at hl
 | _::_,[],_,hl,_=>by simp at hl
theorem y7a (l m:List Int) (hl:l.length<=1048576) (hm:m.length<=1048576) (hli : ∀ n∈l,inI n) (hmi : ∀ n∈m,inI n):RUN T zq4 [.sl 1 (zab l),.sl 1 (zab m)]=some ([.own 1 (zab (zfs l m).1),bv (zfs l m).2],[]):=by
 refine zae rfl rfl ?_;unfold zfs;rcases Classical.propComplete ((l.length:Int)=m.length) with e | e
 case inr =>
  rw [if_neg (by simp at e; omega)];simp [-getElem?_pos,zv1,zv2,e]
 have e':l.length=m.length:=by simp at e; omega
 rw [if_pos e'];simp [-getElem?_pos,zv1,zv2,e];refine zan (fun n st => ∃ (i o e:Nat) (a:List Int),i+n=l.length/\a.length=i/\(res (l.drop i) (m.drop i)).map (a ++ ·)=res l m/\st.V 0 = .sl 1 (zab l)/\st.V 1 = .sl 1 (zab m)/\st.V 6 = .ref o none e 0 a.length/\st.V 17=iv l.length/\st.V 18=iv i/\o<st.nx/\st.ep=0/\st.S o=some (.row 1 (zab a))) ?_ l.length _ ⟨0,0,0,[],by omega,rfl,by simp⟩;rintro n st ⟨i,o,ep,a,hi,ha,hr,v0,v1,v6,v17,v18,hox,hep,hSo⟩;simp [yem,v17,v18];refine zat (fun h => ?_) (fun h => ?_)
 ·simp at h;obtain ⟨x,hx⟩ : ∃ x,l[i]?=some x:=⟨_,bG h⟩;obtain ⟨y,hy⟩ : ∃ y,m[i]?=some y:=⟨_,bG (by omega)⟩;have hx':=zax hx;have hy':=zax hy;have him:i<m.length:=by omega
  have hw:=wS h (by omega:l.length<=9223372036854775807);have hsub:=yag x y (hli x (bF hx)) (hmi y (bF hy));rw [yq6 hx hy] at hr;have z1:=fr hox;have hr8:=zbv (n:=a.length+1) (by omega);cases c:(sbi x y).2 with
  | true =>
   rw [if_pos c] at hr;rw [c] at hsub;simp [-getElem?_pos,v0,v1,v6,v17,v18,hep,hSo,z1,hx',hy',h,him,hsub,hr8,zbn,hw];refine zah (n-1) (by omega) ⟨i+1,st.nx+1,0,a++[(sbi x y).1],by omega,by simp [ha],?_,by simp [v0,v1,v17,hep]⟩;rw [<- hr];cases res (l.drop (i+1)) (m.drop (i+1)) <;> simp
  | false =>
   rw [if_neg (by simp [c])] at hr;rw [c] at hsub;simp at hr;simp [-getElem?_pos,v0,v1,v6,v17,v18,hep,hSo,z1,hx',hy',h,him,hsub,<- hr]
 ·simp at h;rw [List.drop_eq_nil_of_le h,yqm] at hr;simp at hr;rw [<- hr];simp [-getElem?_pos,v6,hSo]
theorem y7b (l m:List Int) (hl:l.length<=1048576) (hm:m.length<=1048576) (hli : ∀ n∈l,inI n) (hmi : ∀ n∈m,inI n):RUN T zq8 [.sl 1 (zab l),.sl 1 (zab m)]=some ([.own 1 (zab (zfs l m).1),bv (zfs l m).2],[]):=by
 refine zae rfl rfl ?_;unfold zfs;rcases Classical.propComplete ((l.length:Int)=m.length) with e | e
 case inr =>
  rw [if_neg (by simp at e; omega)];simp [-getElem?_pos,zv5,zv2,e]
 have e':l.length=m.length:=by simp at e; omega
 rw [if_pos e'];simp [-getElem?_pos,zv5,zv2,e];refine zan (fun n st => ∃ (i o e:Nat) (a:List Int),i+n=l.length/\a.length=i/\(res (l.drop i) (m.drop i)).map (a ++ ·)=res l m/\st.V 0 = .sl 1 (zab l)/\st.V 1 = .sl 1 (zab m)/\st.V 6 = .ref o none e 0 a.length/\st.V 7=iv i/\o<st.nx/\st.ep=0/\st.S o=some (.row 1 (zab a))) ?_ l.length _ ⟨0,0,0,[],by omega,rfl,by simp⟩;rintro n st ⟨i,o,ep,a,hi,ha,hr,v0,v1,v6,v7,hox,hep,hSo⟩;simp [yen,v0,v7];refine zat (fun h => ?_) (fun h => ?_)
 ·simp at h;obtain ⟨x,hx⟩ : ∃ x,l[i]?=some x:=⟨_,bG h⟩;obtain ⟨y,hy⟩ : ∃ y,m[i]?=some y:=⟨_,bG (by omega)⟩;have hx':=zax hx;have hy':=zax hy;have him:i<m.length:=by omega
  have hw:=wS h (by omega:l.length<=9223372036854775807);have hsub:=yah x y (hli x (bF hx)) (hmi y (bF hy));rw [yq6 hx hy] at hr;have z1:=fr hox;have hr8:=zbv (n:=a.length+1) (by omega);cases c:(sbi x y).2 with
  | true =>
   rw [if_pos c] at hr;rw [c] at hsub;simp [-getElem?_pos,v0,v1,v6,v7,hep,hSo,z1,hx',hy',h,him,hsub,hr8,zbn,hw];refine zah (n-1) (by omega) ⟨i+1,st.nx+1,0,a++[(sbi x y).1],by omega,by simp [ha],?_,by simp [v0,v1,hep]⟩;rw [<- hr];cases res (l.drop (i+1)) (m.drop (i+1)) <;> simp
  | false =>
   rw [if_neg (by simp [c])] at hr;rw [c] at hsub;simp at hr;simp [-getElem?_pos,v0,v1,v6,v7,hep,hSo,z1,hx',hy',h,him,hsub,<- hr]
 ·simp at h;rw [List.drop_eq_nil_of_le h,yqm] at hr;simp at hr;rw [<- hr];simp [-getElem?_pos,v6,hSo]
def PC (n:Nat) (v:PV):Prop := ∃ c:Cfg,v=zis c/\c.sg.length<=n
def LC (S:Nat->Option Ob) (nx:Nat) (lo:Nat) (m:List Int) (x:PV):Prop:=(x = .e0/\m=[])\/∃ o e,x = .ref o none e 0 m.length/\lo<o/\o<nx/\S o=some (.row 1 (zab m))
theorem ylb (B:List Int) (p:Nat) (s:Int) (hp:p<=B.length) (hB:B.length<=9223372036854775807) : ∃ r,RUN T znd [.bx [.sl 1 (zbl B),iv p,iv s]]=some r/\zfk B (PC 60) r:=by
 refine zeu rfl rfl ?_;obtain ⟨r1,h1,v1,p1,s1,⟨a1,rfl,a10,a11⟩,hp1,rfl⟩:=za9 B p s hp hB 4 (by omega);obtain ⟨r2,h2,v2,p2,s2,⟨a2,rfl,a20,a21⟩,hp2,rfl⟩:=za9 B p1 s1 hp1 hB 4 (by omega);obtain ⟨r3,h3,v3,p3,s3,⟨a3,rfl,a30,a31⟩,hp3,rfl⟩:=za9 B p2 s2 hp2 hB 5 (by omega);obtain ⟨r4,h4,v4,p4,s4,⟨a4,rfl,a40,a41⟩,hp4,rfl⟩:=za9 B p3 s3 hp3 hB 3 (by omega);obtain ⟨r5,h5,v5,p5,s5,⟨a5,rfl,a50,a51⟩,hp5,rfl⟩:=za9 B p4 s4 hp4 hB 3 (by omega);obtain ⟨r6,h6,v6,p6,s6,⟨a6,rfl,a60,a61⟩,hp6,rfl⟩:=za9 B p5 s5 hp5 hB 3 (by omega);obtain ⟨r7,h7,v7,p7,s7,⟨b1,rfl⟩,hp7,rfl⟩:=zgq B p6 s6 hp6 hB 8 (by omega);have w6:IntKind.i64.wrap (1+a6)=1+a6:=by have:=a61 (by omega); exact w64 (by omega) (by omega)
 have key : ∀ (k:Int) (x0 x1 x2 x3 x4 x5 x6:Int) (st:St) (p:Nat) (s:Int),0<=k->k<=60->p<=B.length->st.V 0 = .ptr 0 none 0 0 0->st.V 2 = .ptr 1 none 0 0 0->st.V 3 = .ptr 2 none 0 0 0->st.V 4=iv k->st.V 5=iv (0:Nat)->st.nx=3->st.S 0=some (.box [.sl 1 (zbl B),iv p,iv s])->st.S 1=some (.box [iv 0,iv 0,iv 0,iv 0,iv 0,iv 0,iv 0,.e0])->st.S 2=some (.box [iv x0,iv x1,iv x2,iv x3,iv x4,iv x5,iv x6,.e0])->W (zad T) (RUN T) (.loop z9t) st (Bl 0 (Nx (fun s=>W (zad T) (RUN T) (.seq (.reg [⟨some (.E 53),.load true 8 (.V 3),none⟩,⟨none,.store [0,0,0,0,0,0,0,1] (.V 2) (.E 53),none⟩]) .ret) s (zjq [.cell [0,0,0,0,0,0,0,1] 2 true] 1 (zfk B (PC 60)) ⟨⟩ ⟨⟩)) (zjq [.cell [0,0,0,0,0,0,0,1] 2 true] 1 (zfk B (PC 60)) ⟨⟩ ⟨⟩) ⟨⟩ ⟨⟩) ⟨⟩):=by
  intro k x0 x1 x2 x3 x4 x5 x6 st p s hk0 hk hp v0 v2 v3 v4 v5 hnx hS hS1 hS2;obtain ⟨kn,rfl⟩ : ∃ n:Nat,k=n:=⟨k.toNat,by omega⟩;refine zan (fun n st => ∃ (i p:Nat) (s:Int) (m:List Int) (x:PV),i+n=kn/\m.length=i/\p<=B.length/\st.V 0 = .ptr 0 none 0 0 0/\st.V 2 = .ptr 1 none 0 0 0/\st.V 3 = .ptr 2 none 0 0 0/\st.V 4=iv kn/\st.V 5=iv i/\2<st.nx/\LC st.S st.nx 2 m x/\st.S 0=some (.box [.sl 1 (zbl B),iv p,iv s])/\st.S 1=some (.box [iv 0,iv 0,iv 0,iv 0,iv 0,iv 0,iv 0,.e0])/\st.S 2=some (.box [iv x0,iv x1,iv x2,iv x3,iv x4,iv x5,iv x6,x])) ?_ kn _ ⟨0,p,s,[],.e0,by omega,rfl,hp,v0,v2,v3,v4,v5,by omega,.inl ⟨rfl,rfl⟩,hS,hS1,hS2⟩;clear v0 v2 v3 v4 v5 hnx hS hS1 hS2 hp;rintro n st ⟨i,p,s,m,x,hi,hm,hp,v0,v2,v3,v4,v5,hnx,hx,hS,hS1,hS2⟩;have z1:=fr hnx;have z2:=fr (by omega:0<st.nx);have z3:=fr (by omega:1<st.nx);simp [z9t,v4,v5];refine zat (fun h => ?_) (fun h => ?_)
  ·simp at h;have hw:=w64 (x:=(i:Int)+1) (by omega) (by omega);obtain ⟨r1,h1,v1,p1,s1,⟨a,rfl,a0,a1⟩,hp1,rfl⟩:=za9 B p s hp hB 3 (by omega);have a2:=a1 (by omega);have w:=w64 (x:=a-1) (by omega) (by omega);rcases hx with ⟨rfl,rfl⟩ | ⟨o,e,rfl,ho,hox,hSo⟩
   ·have hr8:zag 8 1=true:=by decide
    have hone:[[iv (a-1)]]=zab [a-1]:=rfl;simp [-getElem?_pos,v0,v2,v3,v4,v5,hS,hS1,hS2,z1,z2,z3,h1,w,hw,hr8];exact zah (n-1) (by omega) ⟨i+1,p1,s1,[a-1],.ref (st.nx+1) none st.ep 0 1,by omega,by simp at hm; simp; omega,hp1,by simp [v0],by simp [v2],by simp [v3],by simp [v4],by simp,by simp; omega,.inr ⟨st.nx+1,st.ep,rfl,by omega,by simp,by
     have n2 : ¬ st.nx+1=2:=by omega
     simp [n2,zab]⟩,by simp [z1,z2,z3,hS1]⟩
   ·have hr8:=zbv (n:=m.length+1) (by omega);have y1:=fr hox;have y2:=fr ho;have y3:=fr (by omega:0<o);have y4:=fr (by omega:1<o);simp [-getElem?_pos,v0,v2,v3,v4,v5,hS,hS1,hS2,hSo,z1,z2,z3,y1,y2,y3,y4,h1,w,hw,hr8,zbn];exact zah (n-1) (by omega) ⟨i+1,p1,s1,m++[a-1],.ref (st.nx+1) none st.ep 0 (m.length+1),by omega,by simp [hm],hp1,by simp [v0],by simp [v2],by simp [v3],by simp [v4],by simp,by simp; omega,.inr ⟨st.nx+1,st.ep,by simp,by omega,by simp,by
     have n2 : ¬ st.nx+1=2:=by omega
     simp [n2]⟩,by simp [z1,z2,z3,y1,y2,y3,y4,hS1]⟩
  ·simp at h;rcases hx with ⟨rfl,rfl⟩ | ⟨o,e,rfl,ho,hox,hSo⟩
   ·simp [-getElem?_pos,v0,v2,v3,hS,hS1,hS2];exact ⟨_,p,s,⟨⟨x0,x1,x2,x3,x4,x5,x6,[]⟩,rfl,by simp⟩,hp,rfl⟩
   ·have y2:=fr ho;have y3:=fr (by omega:0<o);have y4:=fr (by omega:1<o);have y5:1<=o:=by omega
    simp [-getElem?_pos,v0,v2,v3,hS,hS1,hS2,hSo,y2,y3,y4,y5];exact ⟨_,p,s,⟨⟨x0,x1,x2,x3,x4,x5,x6,m⟩,rfl,by simp only; omega⟩,hp,rfl⟩
 cases b1 with
 | true =>
  obtain ⟨r8,h8,v8,p8,s8,⟨a8,rfl,a80,a81⟩,hp8,rfl⟩:=za9 B p7 s7 hp7 hB 100 (by omega);obtain ⟨r9,h9,v9,p9,s9,⟨b2,rfl⟩,hp9,rfl⟩:=zgq B p8 s8 hp8 hB 4 (by omega);cases b2 with
  | true =>
   obtain ⟨r10,h10,v10,p10,s10,⟨a10',rfl,_,_⟩,hp10,rfl⟩:=za9 B p9 s9 hp9 hB (1+a6) (by have:=a61 (by omega); omega);obtain ⟨r11,h11,v11,p11,s11,⟨k,rfl,k0,k1⟩,hp11,rfl⟩:=za9 B p10 s10 hp10 hB 5 (by omega);have k2:=k1 (by omega);simp [-getElem?_pos,zoo,zop,h1,h2,h3,h4,h5,h6,h7,h8,h9,h10,h11,w6];exact key k _ _ _ _ _ _ _ _ p11 s11 k0 (by omega) hp11 (by simp) (by simp) (by simp) (by simp) (by simp) (by simp) (by simp) (by simp) (by simp; exact ⟨rfl,rfl,rfl,rfl,rfl,rfl,rfl⟩)
  | false =>
   obtain ⟨r11,h11,v11,p11,s11,⟨k,rfl,k0,k1⟩,hp11,rfl⟩:=za9 B p9 s9 hp9 hB 5 (by omega);have k2:=k1 (by omega);simp [-getElem?_pos,zoo,zop,h1,h2,h3,h4,h5,h6,h7,h8,h9,h11,w6];exact key k _ _ _ _ _ _ _ _ p11 s11 k0 (by omega) hp11 (by simp) (by simp) (by simp) (by simp) (by simp) (by simp) (by simp) (by simp) (by simp; exact ⟨rfl,rfl,rfl,rfl,rfl,rfl,rfl⟩)
 | false =>
  obtain ⟨r9,h9,v9,p9,s9,⟨b2,rfl⟩,hp9,rfl⟩:=zgq B p7 s7 hp7 hB 4 (by omega);cases b2 with
  | true =>
   obtain ⟨r10,h10,v10,p10,s10,⟨a10',rfl,_,_⟩,hp10,rfl⟩:=za9 B p9 s9 hp9 hB (1+a6) (by have:=a61 (by omega); omega);obtain ⟨r11,h11,v11,p11,s11,⟨k,rfl,k0,k1⟩,hp11,rfl⟩:=za9 B p10 s10 hp10 hB 5 (by omega);have k2:=k1 (by omega);simp [-getElem?_pos,zoo,zop,h1,h2,h3,h4,h5,h6,h7,h9,h10,h11,w6];exact key k _ _ _ _ _ _ _ _ p11 s11 k0 (by omega) hp11 (by simp) (by simp) (by simp) (by simp) (by simp) (by simp) (by simp) (by simp) (by simp; exact ⟨rfl,rfl,rfl,rfl,rfl,rfl,rfl⟩)
  | false =>
   obtain ⟨r11,h11,v11,p11,s11,⟨k,rfl,k0,k1⟩,hp11,rfl⟩:=za9 B p9 s9 hp9 hB 5 (by omega);have k2:=k1 (by omega);simp [-getElem?_pos,zoo,zop,h1,h2,h3,h4,h5,h6,h7,h9,h11,w6];exact key k _ _ _ _ _ _ _ _ p11 s11 k0 (by omega) hp11 (by simp) (by simp) (by simp) (by simp) (by simp) (by simp) (by simp) (by simp) (by simp; exact ⟨rfl,rfl,rfl,rfl,rfl,rfl,rfl⟩)
theorem ylc (B:List Int) (p:Nat) (s:Int) (hp:p<=B.length) (hB:B.length<=9223372036854775807) : ∃ r,RUN T zrh [.bx [.sl 1 (zbl B),iv p,iv s]]=some r/\zfk B (PC 64) r:=by
 refine zeu rfl rfl ?_;obtain ⟨r1,h1,v1,p1,s1,⟨c,rfl,hc⟩,hp1,rfl⟩:=ylb B p s hp hB;obtain ⟨r2,h2,v2,p2,s2,⟨a,rfl,a0,a1⟩,hp2,rfl⟩:=za9 B p1 s1 hp1 hB 12 (by omega);have hr8:zag 8 1=true:=by decide
 have Z0:=bI hr8 <| bI h1 h2
 by_cases c0:a=0
 ·obtain ⟨r3,h3,v,p3,s3,⟨x,rfl,hx⟩,hp3,rfl⟩:=zfr B p2 s2 hp2 hB [0,1,8,9,-1] (by simp);simp only [zab,List.map] at h3;simp [-getElem?_pos,zhe,zop,Z0,c0,h3];exact ⟨_,p3,s3,⟨⟨x,c.de,c.bi,c.la,c.rw,c.nu,c.dn,c.sg⟩,rfl,by simp only; omega⟩,hp3,rfl⟩
 by_cases c1:a=1
 ·obtain ⟨r3,h3,v,p3,s3,⟨x,rfl,hx⟩,hp3,rfl⟩:=zfr B p2 s2 hp2 hB [-1,0,4,5] (by simp);simp only [zab,List.map] at h3;simp [-getElem?_pos,zhe,zop,Z0,c0,c1,h3];exact ⟨_,p3,s3,⟨⟨c.ro,x,c.bi,c.la,c.rw,c.nu,c.dn,c.sg⟩,rfl,by simp only; omega⟩,hp3,rfl⟩
 by_cases c2:a=2
 ·obtain ⟨r3,h3,v,p3,s3,⟨x,rfl,hx⟩,hp3,rfl⟩:=zfr B p2 s2 hp2 hB [1,2,8,9] (by simp);simp only [zab,List.map] at h3;simp [-getElem?_pos,zhe,zop,Z0,c0,c1,c2,h3];exact ⟨_,p3,s3,⟨⟨c.ro,c.de,x,c.la,c.rw,c.nu,c.dn,c.sg⟩,rfl,by simp only; omega⟩,hp3,rfl⟩
 by_cases c3:a=3
 ·obtain ⟨r3,h3,v,p3,s3,⟨x,rfl,hx⟩,hp3,rfl⟩:=zfr B p2 s2 hp2 hB [0,1,100,101,9223372036854775807] (by simp);simp only [zab,List.map] at h3;simp [-getElem?_pos,zhe,zop,Z0,c0,c1,c2,c3,h3];exact ⟨_,p3,s3,⟨⟨c.ro,c.de,c.bi,x,c.rw,c.nu,c.dn,c.sg⟩,rfl,by simp only; omega⟩,hp3,rfl⟩
 by_cases c4:a=4
 ·obtain ⟨r3,h3,v,p3,s3,⟨x,rfl,hx⟩,hp3,rfl⟩:=zfr B p2 s2 hp2 hB [0,1,20,21] (by simp);simp only [zab,List.map] at h3;simp [-getElem?_pos,zhe,zop,Z0,c0,c1,c2,c3,c4,h3];exact ⟨_,p3,s3,⟨⟨c.ro,c.de,c.bi,c.la,x,c.nu,c.dn,c.sg⟩,rfl,by simp only; omega⟩,hp3,rfl⟩
 by_cases c5:a=5
 ·obtain ⟨r3,h3,v,p3,s3,⟨x,rfl,hx⟩,hp3,rfl⟩:=zfr B p2 s2 hp2 hB [0,1,c.dn,IntKind.i64.wrap (c.dn+1),-1] (by simp);simp only [zab,List.map] at h3;simp [-getElem?_pos,zhe,zop,Z0,c0,c1,c2,c3,c4,c5,h3];exact ⟨_,p3,s3,⟨⟨c.ro,c.de,c.bi,c.la,c.rw,x,c.dn,c.sg⟩,rfl,by simp only; omega⟩,hp3,rfl⟩
 by_cases c6:a=6
 ·obtain ⟨r3,h3,v,p3,s3,⟨x,rfl,hx⟩,hp3,rfl⟩:=zfr B p2 s2 hp2 hB [0,1,1000,1001,9223372036854775807] (by simp);simp only [zab,List.map] at h3;simp [-getElem?_pos,zhe,zop,Z0,c0,c1,c2,c3,c4,c5,c6,h3];exact ⟨_,p3,s3,⟨⟨c.ro,c.de,c.bi,c.la,c.rw,c.nu,x,c.sg⟩,rfl,by simp only; omega⟩,hp3,rfl⟩
 by_cases c7:a=7
 ·obtain ⟨r3,h3,v,p3,s3,⟨x,rfl,x0,x1⟩,hp3,rfl⟩:=za9 B p2 s2 hp2 hB 5 (by omega);have x2:=x1 (by omega);have w:=w64 (x:=x-2) (by omega) (by omega);have hr9:=zbv (n:=c.sg.length+1) (by omega);simp [-getElem?_pos,zhe,zop,hr8,hr9,h1,h2,c0,c1,c2,c3,c4,c5,c6,c7,h3,w,zbn];exact ⟨_,p3,s3,⟨⟨c.ro,c.de,c.bi,c.la,c.rw,c.nu,c.dn,c.sg++[x-2]⟩,rfl,by simp; omega⟩,hp3,rfl⟩
 ·simp [-getElem?_pos,zhe,zop,Z0,c0,c1,c2,c3,c4,c5,c6,c7];exact ⟨_,p2,s2,⟨c,rfl,by omega⟩,hp2,rfl⟩
def sv (s:ByteArray):PV := .v (.string s)
def za5 (l:List ByteArray):List (List PV):=l.map fun s=>[.v (.string s)]
@[simp] theorem qyk (l:List ByteArray):(za5 l).length=l.length:=by simp [za5]
theorem zvi {l:List ByteArray} {i:Nat} {x:ByteArray} (h:l[i]?=some x):(za5 l)[i]?=some [.v (.string x)]:=by simp [za5,h]
def zi1 (q:Bool) (t:List Nd):PV:=if q then .own 5 (t.map nd) else .sl 5 (t.map nd)
@[simp] theorem qy4 (q:Bool) (t:List Nd):fz (zi1 q t) = .sl 5 (t.map nd):=by cases q <;> simp [zi1]
def trs (q:Bool) (M:List (List Nd)):List (List PV):=M.map fun t=>[zi1 q t]
@[simp] theorem quk (q:Bool) (M:List (List Nd)):(trs q M).length=M.length:=by simp [trs]
theorem zy4 {q:Bool} {M:List (List Nd)} {i:Nat} {t:List Nd} (h:M[i]?=some t):(trs q M)[i]?=some [zi1 q t]:=by simp [trs,h]
structure Mo where
 ns:List ByteArray
 ix:List Int
 b:Int
 ts:List (List Nd)
structure MoL (n:Nat) (m:Mo):Prop where
 ns:m.ns.length<=n
 ss : ∀ x∈m.ns,x.size<=n
 ix:m.ix.length<=n
 ts:m.ts.length<=n
 tl : ∀ l∈m.ts,l.length<=n
theorem MoL.mono {n k:Nat} {m:Mo} (h:MoL n m) (hk:n<=k):MoL k m:=⟨Nat.le_trans h.ns hk,fun x hx=>Nat.le_trans (h.ss x hx) hk,Nat.le_trans h.ix hk,Nat.le_trans h.ts hk,fun x hx=>Nat.le_trans (h.tl x hx) hk⟩
theorem z7v {α:Type} {l m:List α} {i:Nat} (hl:l.length=m.length) (hi:l.length<=i) (h : ∀ j,j<i->l[j]?=m[j]?):l=m:=by
 apply List.ext_getElem?;intro j
 by_cases c:j<i
 ·exact h j c
 ·rw [List.getElem?_eq_none (by omega),List.getElem?_eq_none (by omega)]
theorem z9c {α:Type} {l m:List α} {i:Nat} {x y:α} (hx:l[i]?=some x) (hy:m[i]?=some y) (h : ¬ x=y):(l=m)=False:=by
 apply eq_false;rintro rfl;rw [hx] at hy;cases hy;exact h rfl
theorem z8h {α:Type} {l m:List α} (h:((l.length:Int)=m.length)=False):(l=m)=False:=by
 apply eq_false;rintro rfl;simp at h
theorem qga (s:ByteArray) : ∀ (n i:Nat) (r:List UInt8),s.size-i<=n->ByteArray.toList.loop s i r=r.reverse++s.data.toList.drop i:=by
 have hs:s.data.toList.length=s.size:=by cases s; rfl
 intro n
 induction n with
 | zero =>
  intro i r h;rw [ByteArray.toList.loop,if_neg (by omega),List.drop_eq_nil_of_le (by omega)];simp
 | succ n ih =>
  intro i r h;rw [ByteArray.toList.loop];split
  ·rename_i hi;rw [ih _ _ (by omega)];have hi':i<s.data.toList.length:=by omega
   rw [List.drop_eq_getElem_cons hi'];have:s.get! i=s.data.toList[i]:=by
    cases s with
    | mk d =>
     show d[i]! = _;rw [getElem!_pos d i (by simpa using hi')];simp
   simp [this]
  ·rename_i hi;rw [List.drop_eq_nil_of_le (by omega)];simp
theorem yrv (s:ByteArray):s.toList=s.data.toList:=by
 unfold ByteArray.toList;rw [qga s s.size 0 [] (by omega)];simp
theorem qdk {x y:ByteArray} (h:x.toList=y.toList):x=y:=by
 rw [yrv,yrv] at h;cases x; cases y;simp at h;simp [h]
theorem ymp {x y:ByteArray} (h : ¬ x=y):(x.toList == y.toList)=false:=by
 simp only [beq_eq_false_iff_ne,ne_eq];exact fun e=>h (qdk e)
open Classical in
theorem y7c (l m:List Int) (hl:l.length<=9223372036854775807):RUN T zqu [.sl 1 (zab l),.sl 1 (zab m)]=some ([bv (decide (l=m))],[]):=by
 refine zae rfl rfl ?_;rcases Classical.propComplete ((l.length:Int)=m.length) with hlm | hlm
 case inr =>
  simp [-getElem?_pos,zvs,zvr,hlm,z8h hlm]
 simp [-getElem?_pos,zvs,zvr,hlm];have hlen:l.length=m.length:=by simp at hlm; omega
 refine zan (fun n st => ∃ i:Nat,i+n=l.length/\(∀ j,j<i->l[j]?=m[j]?)/\st.V 0 = .sl 1 (zab l)/\st.V 1 = .sl 1 (zab m)/\st.V 5=iv i) ?_ l.length _ ⟨0,by simp⟩;rintro n st ⟨i,hi,hj,v0,v1,v5⟩;simp [yei,v0,v1,v5];refine zat (fun h => ?_) (fun h => ?_)
 ·simp at h;obtain ⟨x,hx⟩ : ∃ x,l[i]?=some x:=⟨_,bG h⟩;obtain ⟨y,hy⟩ : ∃ y,m[i]?=some y:=⟨_,bG (by omega)⟩;have hx':=zax hx;have hy':=zax hy;have hw:=wS h hl;have him:i<m.length:=by omega
  by_cases e:x=y
  ·simp [-getElem?_pos,v0,v1,v5,hx',hy',h,him,hw,eq_true e];exact zah (n-1) (by omega) ⟨i+1,by omega,zhm hj (by rw [hx,hy,e]),by simp [v0,v1]⟩
  ·simp [-getElem?_pos,v0,v1,v5,hx',hy',h,him,hw,eq_false e,z9c hx hy e]
 ·simp at h;simp [z7v hlen h hj]
open Classical in
theorem y7d (l m:List Int) (hl:l.length<=9223372036854775807):RUN T zqv [.sl 1 (zab l),.sl 1 (zab m)]=some ([bv (decide (l=m))],[]):=by
 refine zae rfl rfl ?_;rcases Classical.propComplete ((l.length:Int)=m.length) with hlm | hlm
 case inr =>
  simp [-getElem?_pos,zvu,zvr,hlm,z8h hlm]
 simp [-getElem?_pos,zvu,zvr,hlm];have hlen:l.length=m.length:=by simp at hlm; omega
 refine zan (fun n st => ∃ i:Nat,i+n=l.length/\(∀ j,j<i->l[j]?=m[j]?)/\st.V 0 = .sl 1 (zab l)/\st.V 1 = .sl 1 (zab m)/\st.V 12=iv l.length/\st.V 13=iv i) ?_ l.length _ ⟨0,by simp [hlen]⟩;rintro n st ⟨i,hi,hj,v0,v1,v12,v13⟩;simp [yej,v12,v13];refine zat (fun h => ?_) (fun h => ?_)
 ·simp at h;obtain ⟨x,hx⟩ : ∃ x,l[i]?=some x:=⟨_,bG h⟩;obtain ⟨y,hy⟩ : ∃ y,m[i]?=some y:=⟨_,bG (by omega)⟩;have hx':=zax hx;have hy':=zax hy;have hw:=wS h hl;have him:i<m.length:=by omega
  by_cases e:x=y
  ·simp [-getElem?_pos,v0,v1,v12,v13,hx',hy',h,him,hw,eq_true e];exact zah (n-1) (by omega) ⟨i+1,by omega,zhm hj (by rw [hx,hy,e]),by simp [v0,v1,v12]⟩
  ·simp [-getElem?_pos,v0,v1,v12,v13,hx',hy',h,him,hw,eq_false e,z9c hx hy e]
 ·simp at h;simp [z7v hlen h hj]
def rwS (q:Bool) (l:List ByteArray):PV:=if q then .own 1 (za5 l) else .sl 1 (za5 l)
@[simp] theorem qzq (q:Bool) (l:List ByteArray):fz (rwS q l) = .sl 1 (za5 l):=by cases q <;> simp [rwS]
def yn4 (q:Bool) (L:List (List ByteArray)):List (List PV):=L.map fun l=>[rwS q l]
@[simp] theorem qqi (q:Bool) (L:List (List ByteArray)):(yn4 q L).length=L.length:=by simp [yn4]
def ltr (n:Int):Bool:=decide (97<=n) && decide (n<=122)
def dgt (n:Int):Bool:=decide (48<=n) && decide (n<=57)
def chB (s:ByteArray) (i:Nat):Bool:=match s[i]? with
 | none=>true
 | some b=>ltr b.toNat || (decide (i≠0) && dgt b.toNat)
def zd6 (s:ByteArray):Bool:=zaj s.size 1 12 && (List.range s.size).all (chB s)
theorem yeb {s:ByteArray} {i:Nat} {b:UInt8} (h:s[i]?=some b):chB s i=(ltr b.toNat || (decide (i≠0) && dgt b.toNat)):=by simp [chB,h]
theorem y7e (s:ByteArray) (hs:s.size<=9223372036854775807):RUN T zrn [.v (.string s)]=some ([bv (zd6 s)],[]):=by
 refine zae rfl rfl ?_;simp [-getElem?_pos,z1z,zvo];refine zan (fun n st => ∃ i:Nat,i+n=s.size/\(∀ j,j<i->chB s j=true)/\st.V 0 = .v (.string s)/\st.V 6=iv s.size/\st.V 7=iv i) ?_ s.size _ ⟨0,by simp⟩;rintro n st ⟨i,hi,hj,v0,v6,v7⟩;simp [yeu,v6,v7];refine zat (fun h => ?_) (fun h => ?_)
 ·simp at h;obtain ⟨b,hb⟩ : ∃ b,s[i]?=some b:=⟨_,getElem?_pos s i h⟩;have hw:=wS h hs;have hc:=yeb hb;obtain ⟨c,hcc⟩ : ∃ c:Int,c=b.toNat:=⟨_,rfl⟩;rw [<- hcc] at hc;have hi0:((i:Int)=0)=(i=0):=by simp
  rcases Classical.propComplete (97<=c) with a1 | a1
  all_goals rcases Classical.propComplete (c<=122) with a2 | a2
  all_goals rcases Classical.propComplete (i=0) with a3 | a3
  all_goals rcases Classical.propComplete (48<=c) with a4 | a4
  all_goals rcases Classical.propComplete (c<=57) with a5 | a5
  all_goals have a6:(c<48) = ¬ (48<=c):=by simp
  all_goals have a7:(57<c) = ¬ (c<=57):=by simp
  all_goals simp [ltr,dgt,a1,a2,a3,a4,a5] at hc
  all_goals simp [-getElem?_pos,v0,v6,v7,hb,<- hcc,a1,a2,a3,a4,a5,a6,a7,hi0,hw]
  all_goals first
   | exact zah (n-1) (by omega) ⟨i+1,by omega,zhm hj hc,by simp [v0,v6]⟩
   | (have no:zd6 s=false:=by
       unfold zd6;rw [zgy h hc]; simp
      simp [no]; done)
   | skip
 ·simp at h;have:=zuv (p:=chB s) (n:=s.size) fun j hj'=>hj j (by omega);unfold zd6;rw [this];simp [-getElem?_pos,v0,zcu,-zbm]
theorem yld (s:ByteArray) (hs:s.size<=9223372036854775807):RUN T zm8 [.v (.string s)]=some ([bv (zd6 s)],[]):=by
 refine zae rfl rfl ?_;rcases Bool.eq_false_or_eq_true (zaj s.size 1 12) with h0 | h0
 case inr =>
  have no:zd6 s=false:=by unfold zd6; rw [h0]; rfl
  simp [-getElem?_pos,zto,zvo,zba,-za0,h0,no]
 have hr:=zay.mp h0;obtain ⟨b0,hb0⟩ : ∃ b,s[0]?=some b:=⟨_,getElem?_pos s 0 (by omega)⟩;have hn0:zb4 (.v (.int .i64 0))=some 0:=rfl;rcases Classical.propComplete (((b0.toNat:Nat):Int)<97) with f | f
 case inl =>
  have hc:chB s 0=false:=by
   rw [yeb hb0];have : ¬ (97<=(b0.toNat:Int)):=by have:=of_eq_true f; omega
   simp [ltr,this]
  have no:zd6 s=false:=by unfold zd6; rw [zgy (by omega) hc]; simp
  simp [-getElem?_pos,zto,zvo,zba,-za0,h0,no,hb0,f]
 simp [-getElem?_pos,zto,zvo,zba,-za0,h0,hb0,f];refine zan (fun n st => ∃ i:Nat,i+n=s.size/\(∀ j,j<i->chB s j=true)/\st.V 0 = .v (.string s)/\st.V 3=iv i) ?_ s.size _ ⟨0,by simp⟩;rintro n st ⟨i,hi,hj,v0,v3⟩;simp [yef,v0,v3];refine zat (fun h => ?_) (fun h => ?_)
 ·simp at h;obtain ⟨b,hb⟩ : ∃ b,s[i]?=some b:=⟨_,getElem?_pos s i h⟩;have hw:=wS h hs;have hc:=yeb hb;have hcv:IntKind.i64.wrap (b.toNat:Int)=b.toNat:=w64 (by omega) (by have:=b.toNat_lt; omega);have e1:zaj (b.toNat:Int) 97 122=ltr b.toNat:=rfl;have e2:zaj (b.toNat:Int) 48 57=dgt b.toNat:=rfl;cases a1:ltr b.toNat with
  | true =>
   have e3:=e1.trans a1;simp [-getElem?_pos,v0,v3,hb,hcv,e3,hw,zba,-za0];exact zah (n-1) (by omega) ⟨i+1,by omega,zhm hj (by rw [hc,a1]; rfl),by simp [v0]⟩
  | false =>
   have e3:=e1.trans a1;cases a2:dgt b.toNat with
   | true =>
    have e4:=e2.trans a2;have hi0:i≠0:=by
     rintro rfl;rw [hb0] at hb;cases hb;simp [dgt] at a2;have:=of_eq_false f;omega
    simp [-getElem?_pos,v0,v3,hb,hcv,e3,e4,hw,zba,-za0];exact zah (n-1) (by omega) ⟨i+1,by omega,zhm hj (by rw [hc,a1,a2]; simp [hi0]),by simp [v0]⟩
   | false =>
    have e4:=e2.trans a2;have no:zd6 s=false:=by unfold zd6; rw [zgy h (by rw [hc,a1,a2]; simp:chB s i=false)]; simp
    simp [-getElem?_pos,v0,v3,hb,hcv,e3,e4,hw,no,zba,-za0]
 ·simp at h;have:=zuv (p:=chB s) (n:=s.size) fun j hj'=>hj j (by omega);have ok:zd6 s=true:=by unfold zd6; rw [this,h0]; rfl
  simp [ok]
theorem z8f (l:List ByteArray) (i:Nat):List.take i (za5 l)=za5 (l.take i):=by simp [za5]
def zf7 (l:List ByteArray) (x:ByteArray):Bool:=l.any fun y=>decide (y=x)
theorem yle (l:List ByteArray) (x:ByteArray) (hl:l.length<=9223372036854775807):RUN T zm9 [.sl 1 (za5 l),.v (.string x)]=some ([bv (zf7 l x)],[]):=by
 refine zae rfl rfl ?_;simp [-getElem?_pos,zzt,zvr];refine zan (fun n st => ∃ i:Nat,i+n=l.length/\(∀ (j:Nat) (y:ByteArray),j<i->l[j]?=some y->¬ y=x)/\st.V 0 = .sl 1 (za5 l)/\st.V 1 = .v (.string x)/\st.V 5=iv i) ?_ l.length _ ⟨0,by simp⟩;rintro n st ⟨i,hi,hj,v0,v1,v5⟩;simp [yeg,v0,v5];refine zat (fun h => ?_) (fun h => ?_)
 ·simp at h;obtain ⟨y,hy⟩ : ∃ y,l[i]?=some y:=⟨_,bG h⟩;have hy':=zvi hy;have hw:=wS h hl
  by_cases e:y=x
  ·subst e;have:zf7 l y=true:=by
    unfold zf7; rw [List.any_eq_true]; exact ⟨y,bF hy,by simp⟩
   simp [-getElem?_pos,v0,v1,v5,hy',h,this]
  ·simp [-getElem?_pos,v0,v1,v5,hy',h,hw,ymp e];exact zah (n-1) (by omega) ⟨i+1,by omega,zla (P:=fun _ y => ¬ y=x) hj hy e,by simp [v0,v1]⟩
 ·simp at h;have:zf7 l x=false:=by
   unfold zf7;rw [List.any_eq_false];intro y hy;obtain ⟨j,hjy⟩:=bH hy;simpa using hj j y (by have:=(bD hjy).1; omega) hjy
  simp [this]
theorem y7f (l:List ByteArray) (x:ByteArray) (hl:l.length<=9223372036854775807):RUN T zsh [.sl 1 (za5 l),.v (.string x)]=some ([iv (zg8 (fun y=>decide (y=x)) l)],[]):=by
 refine zae rfl rfl ?_;simp [-getElem?_pos,z38,zvr];refine zan (fun n st => ∃ i:Nat,i+n=l.length/\(∀ (j:Nat) (y:ByteArray),j<i->l[j]?=some y->decide (y=x)=false)/\st.V 0 = .sl 1 (za5 l)/\st.V 1 = .v (.string x)/\st.V 7=iv l.length/\st.V 8=iv i) ?_ l.length _ ⟨0,by simp⟩;rintro n st ⟨i,hi,hj,v0,v1,v7,v8⟩;simp [ye5,v7,v8];refine zat (fun h => ?_) (fun h => ?_)
 ·simp at h;obtain ⟨y,hy⟩ : ∃ y,l[i]?=some y:=⟨_,bG h⟩;have hy':=zvi hy;have hw:=wS h hl
  by_cases e:y=x
  ·subst e;have:=zxw (p:=fun z=>decide (z=y)) hy (by simp) hj;simp [-getElem?_pos,v0,v1,v7,v8,hy',h,this]
  ·simp [-getElem?_pos,v0,v1,v7,v8,hy',h,hw,ymp (fun e'=>e e'.symm)];exact zah (n-1) (by omega) ⟨i+1,by omega,zla (P:=fun _ y=>decide (y=x)=false) hj hy (by simpa using e),by simp [v0,v1,v7]⟩
 ·simp at h;have:=zyo (p:=fun z=>decide (z=x)) (l:=l) fun j y h1 h2=>hj j y (by omega) h2;simp [-getElem?_pos,this]
theorem y7g (l:List ByteArray) (x:ByteArray) (hl:l.length<=9223372036854775807):RUN T zro [.sl 1 (za5 l),.v (.string x)]=some ([bv (zf7 l x)],[]):=by
 refine zae rfl rfl ?_;have h:=y7f l x hl;have e:=z8x (p:=fun y=>decide (y=x)) (l:=l);have e2:zf7 l x=l.any fun y=>decide (y=x):=rfl;rw [e2,<- e];simp [-getElem?_pos,z18,zvr,h]
def nmB (L:List ByteArray) (i:Nat):Bool:=match L[i]? with
 | none=>true
 | some x=>zd6 x && !zf7 (L.take i) x
def zgo (L:List ByteArray):Bool:=(List.range L.length).all (nmB L)
theorem zyz {L:List ByteArray} {i:Nat} {x:ByteArray} (h:L[i]?=some x):nmB L i=(zd6 x && !zf7 (L.take i) x):=by simp [nmB,h]
theorem y7h (L:List ByteArray) (hl:L.length<=9223372036854775807) (hs : ∀ x∈L,x.size<=9223372036854775807):RUN T zqx [.sl 1 (za5 L)]=some ([bv (zgo L)],[]):=by
 refine zae rfl rfl ?_;simp [-getElem?_pos,z0g,zvo];refine zan (fun n st => ∃ i:Nat,i+n=L.length/\(∀ j,j<i->nmB L j=true)/\st.V 0 = .sl 1 (za5 L)/\st.V 5 = .sl 1 (za5 L)/\st.V 6=iv L.length/\st.V 7=iv i) ?_ L.length _ ⟨0,by simp⟩;rintro n st ⟨i,hi,hj,v0,v5,v6,v7⟩;simp [yek,v6,v7];refine zat (fun h => ?_) (fun h => ?_)
 ·simp at h;obtain ⟨x,hx⟩ : ∃ x,L[i]?=some x:=⟨_,bG h⟩;have hx':=zvi hx;have hw:=wS h hl;have hN:=y7e x (hs x (bF hx));have hC:=y7g (L.take i) x (by simp; omega);have hc:=zyz hx;have hil:i<=L.length:=by omega
  cases a1:zd6 x with
  | false =>
   rw [a1] at hN hc;have no:zgo L=false:=zgy h (by rw [hc]; rfl);simp [-getElem?_pos,v0,v5,v6,v7,hx',h,hw,hN,no]
  | true =>
   rw [a1] at hN hc;cases a2:zf7 (L.take i) x with
   | true =>
    rw [a2] at hC hc;have no:zgo L=false:=zgy h (by rw [hc]; rfl);simp [-getElem?_pos,v0,v5,v6,v7,hx',h,hw,hN,hC,hil,z8f,no]
   | false =>
    rw [a2] at hC hc;simp [-getElem?_pos,v0,v5,v6,v7,hx',h,hw,hN,hC,hil,z8f];exact zah (n-1) (by omega) ⟨i+1,by omega,zhm hj (by rw [hc]; rfl),by simp [v0,v5,v6]⟩
 ·simp at h;have:zgo L=true:=zuv fun j hj'=>hj j (by omega);simp [this]
def ym7 (row:List Int):List (List Nd)->Int->Int
 | [],a=>a
 | t::ts,a=>ym7 row ts (IntKind.i64.wrap (a+evt t row))
def qci (p:Nat->Bool) (i:Nat):List Int:=((List.range i).filter p).map fun (j:Nat)=>(j:Int)
@[simp] theorem q05 (p:Nat->Bool):qci p 0=[]:=rfl
theorem zjf (x:Int):IntKind.u64.wrap x=x % 18446744073709551616:=IntKind.wrap_u64 x
theorem yqn (a b:Int):zbc .mul (.int .u64 a) (.int .u64 b)=some (.int .u64 (a*b % 18446744073709551616)):=by rw [ycz,zjf]
theorem ysf (a b:Int):zbc .add (.int .u64 a) (.int .u64 b)=some (.int .u64 ((a+b) % 18446744073709551616)):=by rw [ybq,zjf]
theorem yqc (x:Int):zbc .shr (.int .u64 x) (.int .u64 32)=some (.int .u64 (x / 4294967296)):=by
 rw [ydv,if_pos (by decide)];have:(2:Int) ^ min (32:Int).toNat IntKind.u64.bits=4294967296:=by decide
 rw [this,Int.fdiv_eq_ediv_of_nonneg _ (by decide)]
theorem qcq (x:Int):zbc .shl (.int .u64 x) (.int .u64 32)=some (.int .u64 (x*4294967296 % 18446744073709551616)):=by
 rw [yny,if_pos (by decide),zjf];have:(2:Int) ^ min (32:Int).toNat IntKind.u64.bits=4294967296:=by decide
 rw [this]
theorem zph {x:Int} (h0:0<=x) (h1:x<18446744073709551616):zbc .and (.int .u64 x) (.int .u64 4294967295)=some (.int .u64 (x % 4294967296)):=by
 rw [yb9,zjf];have e:((BitVec.ofInt IntKind.u64.bits x &&& BitVec.ofInt IntKind.u64.bits 4294967295).toNat:Int)=x % 4294967296:=by
  obtain ⟨n,rfl⟩:=Int.eq_ofNat_of_zero_le h0;have hn:n<2 ^ 64:=by omega
  have e2:(BitVec.ofInt 64 (n:Int) &&& BitVec.ofInt 64 4294967295).toNat=n % 4294967296:=by
   rw [BitVec.toNat_and];have e3:(BitVec.ofInt 64 (n:Int)).toNat=n:=by
    rw [BitVec.ofInt_natCast,BitVec.toNat_ofNat,Nat.mod_eq_of_lt hn]
   have e4:(BitVec.ofInt 64 4294967295).toNat=2 ^ 32-1:=by decide
   rw [e3,e4,Nat.and_two_pow_sub_one_eq_mod]
  show (((BitVec.ofInt 64 (n:Int) &&& BitVec.ofInt 64 4294967295).toNat:Nat):Int)=_;rw [e2]; omega
 rw [e]; congr 2; omega
theorem parts {x y:Int} (hx:0<=x) (hx1:x<18446744073709551616) (hy:0<=y) (hy1:y<18446744073709551616) :
  ∃ a b c d:Int,a=x % 4294967296*(y % 4294967296)/\b=x / 4294967296*(y % 4294967296)/\c=x % 4294967296*(y / 4294967296)/\d=x / 4294967296*(y / 4294967296)/\0<=a/\a<=18446744065119617025/\0<=b/\b<=18446744065119617025/\0<=c/\c<=18446744065119617025/\0<=d/\d<=18446744065119617025/\x*y=d*18446744073709551616+(b+c)*4294967296+a:=by
 have bd : ∀ u v:Int,0<=u->u<=4294967295->0<=v->v<=4294967295->0<=u*v/\u*v<=18446744065119617025:=fun u v h1 h2 h3 h4 =>
  ⟨Int.mul_nonneg h1 h3,Int.le_trans (Int.mul_le_mul h2 h4 h3 (by decide)) (by decide)⟩
 have x0:0<=x % 4294967296/\x % 4294967296<=4294967295:=by omega
 have x1:0<=x / 4294967296/\x / 4294967296<=4294967295:=by omega
 have y0:0<=y % 4294967296/\y % 4294967296<=4294967295:=by omega
 have y1:0<=y / 4294967296/\y / 4294967296<=4294967295:=by omega
 refine ⟨_,_,_,_,rfl,rfl,rfl,rfl,(bd _ _ x0.1 x0.2 y0.1 y0.2).1,(bd _ _ x0.1 x0.2 y0.1 y0.2).2,(bd _ _ x1.1 x1.2 y0.1 y0.2).1,(bd _ _ x1.1 x1.2 y0.1 y0.2).2,(bd _ _ x0.1 x0.2 y1.1 y1.2).1,(bd _ _ x0.1 x0.2 y1.1 y1.2).2,(bd _ _ x1.1 x1.2 y1.1 y1.2).1,(bd _ _ x1.1 x1.2 y1.1 y1.2).2,?_⟩;have ex:x=x / 4294967296*4294967296+x % 4294967296:=by omega
 have ey:y=y / 4294967296*4294967296+y % 4294967296:=by omega
 generalize x / 4294967296=p at *;generalize x % 4294967296=q at *;generalize y / 4294967296=r at *;generalize y % 4294967296=s at *;rw [ex,ey,Int.add_mul,Int.mul_add,Int.mul_add];have e1:p*4294967296*(r*4294967296)=p*r*18446744073709551616:=by
  rw [show (18446744073709551616:Int)=4294967296*4294967296 by decide,Int.mul_assoc,Int.mul_comm 4294967296 (r*4294967296),Int.mul_assoc r,<- Int.mul_assoc p r]
 have e2:p*4294967296*s=p*s*4294967296:=by rw [Int.mul_assoc,Int.mul_comm 4294967296 s,<- Int.mul_assoc]
 have e3:q*(r*4294967296)=q*r*4294967296:=by rw [<- Int.mul_assoc]
 rw [e1,e2,e3,Int.add_mul];omega
theorem yai (x y:Int) (hx:0<=x) (hx1:x<18446744073709551616) (hy:0<=y) (hy1:y<18446744073709551616):RUN T zl8 [.v (.int .u64 x),.v (.int .u64 y)]=some ([.v (.int .u64 (x*y / 18446744073709551616)),.v (.int .u64 (x*y % 18446744073709551616))],[]):=by
 refine zae rfl rfl ?_;obtain ⟨a,b,c,d,ea,eb,ec,ed,a0,a1,b0,b1,c0,c1,d0,d1,hp⟩:=parts hx hx1 hy hy1;have f1:=zph hx hx1;have f2:=zph hy hy1;have g1:a % 18446744073709551616=a:=by omega
 have g2:b % 18446744073709551616=b:=by omega
 have g3:c % 18446744073709551616=c:=by omega
 have g4:d % 18446744073709551616=d:=by omega
 have g5:(b+a / 4294967296) % 18446744073709551616=b+a / 4294967296:=by omega
 have f3:=zph (x:=b+a / 4294967296) (by omega) (by omega);simp [-ycz,-ybq,-yb9,-ydv,yqn,ysf,yqc,f1,f2,f3,z7a,zkg,<- ea,<- eb,<- ec,<- ed,g1,g2,g3,g4,g5];omega
theorem yaj (x y:Int) (hx:0<=x) (hx1:x<18446744073709551616) (hy:0<=y) (hy1:y<18446744073709551616):RUN T zma [.v (.int .u64 x),.v (.int .u64 y)]=some ([.v (.int .u64 (x*y / 18446744073709551616)),.v (.int .u64 (x*y % 18446744073709551616))],[]):=by
 refine zae rfl rfl ?_;obtain ⟨a,b,c,d,ea,eb,ec,ed,a0,a1,b0,b1,c0,c1,d0,d1,hp⟩:=parts hx hx1 hy hy1;have f1:=zph hx hx1;have f2:=zph hy hy1;have g1:a % 18446744073709551616=a:=by omega
 have g2:b % 18446744073709551616=b:=by omega
 have g3:c % 18446744073709551616=c:=by omega
 have g4:d % 18446744073709551616=d:=by omega
 have g5:(b+a / 4294967296) % 18446744073709551616=b+a / 4294967296:=by omega
 have f3:=zph (x:=b+a / 4294967296) (by omega) (by omega);have f4:=zph (x:=a) (by omega) (by omega);simp [-ycz,-ybq,-yb9,-ydv,-yny,yqn,ysf,yqc,qcq,f1,f2,f3,f4,z7g,zkg,<- ea,<- eb,<- ec,<- ed,g1,g2,g3,g4,g5];omega
structure Wd where
 n:Bool
 h:Int
 l:Int
deriving DecidableEq
abbrev uv (x:Int):PV := .v (.int .u64 x)
def wd (w:Wd):List PV:=[bv w.n,uv w.h,uv w.l]
def wfU (w:Wd):Prop:=0<=w.h/\w.h<18446744073709551616/\0<=w.l/\w.l<18446744073709551616
def wok (w:Wd):Bool:=decide (w.h<9223372036854775808) && (!w.n || decide (0<w.h) || decide (0<w.l))
def mag (w:Wd):Int:=w.h*18446744073709551616+w.l
def mkW (n:Bool) (m:Int):Wd:=⟨n && decide (0<m),m / 18446744073709551616,m % 18446744073709551616⟩
def za7:Wd:=⟨false,0,0⟩
theorem ydl {n:Bool} {m:Int} (h0:0<=m) (h1:m<340282366920938463463374607431768211456):wfU (mkW n m):=by
 unfold wfU mkW; simp only; omega
theorem yc1 {n:Bool} {m:Int} (h0:0<=m):wok (mkW n m)=decide (m<170141183460469231731687303715884105728):=by
 unfold wok mkW;simp only
 by_cases h:m<170141183460469231731687303715884105728
 ·have e:m / 18446744073709551616<9223372036854775808:=by omega
  rw [decide_eq_true h,decide_eq_true e]
  by_cases hz:0<m
  ·by_cases h2:0<m / 18446744073709551616
   ·simp [h2]
   ·have:0<m % 18446744073709551616:=by omega
    simp [this]
  ·simp [hz]
 ·have e : ¬ m / 18446744073709551616<9223372036854775808:=by omega
  rw [decide_eq_false h,decide_eq_false e]; rfl
theorem yak (n:Int) (h:inI n):RUN T zl7 [iv n]=some ([uv n.natAbs],[]):=by
 refine zae rfl rfl ?_;obtain ⟨h0,h1⟩:=h;simp [z68,zvo];refine zat (fun h => ?_) (fun h => ?_) <;> simp at h <;> simp [zjf] <;> omega
theorem yal (n:Int) (h:inI n):RUN T zl9 [iv n]=some ([uv n.natAbs],[]):=by
 refine zae rfl rfl ?_;obtain ⟨h0,h1⟩:=h;have e1:n<0->IntKind.i64.wrap (n+1)=n+1:=fun h=>w64 (by omega) (by omega);have e2:n<0->IntKind.i64.wrap (0-(n+1))=0-(n+1):=fun h=>w64 (by omega) (by omega);simp [z7e,zvo];refine zat (fun h => ?_) (fun h => ?_) <;> simp at h
 ·have e1:=e1 h;have e2:=e2 h;simp at e2;simp [e1,e2,zjf]; omega
 ·simp [zjf]; omega
theorem zxu (n:Bool) (h l:Int):RUN T zhb [bv n,uv h,uv l]=some ([.agg (wd ⟨n && (decide (0<h) || decide (0<l)),h,l⟩)],[]):=by
 refine zae rfl rfl ?_;cases n with
 | false=>simp [zuh,zui,wd]
 | true =>
  by_cases h1:0<h
  ·simp [zuh,zui,wd,h1]
  ·simp [zuh,zui,wd,h1]
theorem zul (w:Wd):RUN T zhx [.agg (wd w)]=some ([bv (wok w)],[]):=by
 refine zae rfl rfl ?_;obtain ⟨n,h,l⟩:=w;unfold wok
 by_cases h1:h<9223372036854775808
 ·cases n with
  | false=>simp [zo2,zvo,wd,h1]
  | true =>
   by_cases h2:0<h
   ·simp [zo2,zvo,wd,h1,h2]
   ·simp [zo2,zvo,wd,h1,h2]
 ·simp [zo2,zvo,wd,h1]
theorem zum (w:Wd):RUN T zhy [.agg (wd w)]=some ([bv (wok w)],[]):=by
 refine zae rfl rfl ?_;obtain ⟨n,h,l⟩:=w;unfold wok
 by_cases h1:h<9223372036854775808
 ·cases n with
  | false=>simp [zo4,zvo,wd,h1]
  | true =>
   by_cases h2:0<h
   ·simp [zo4,zvo,wd,h1,h2]
   ·simp [zo4,zvo,wd,h1,h2]
 ·simp [zo4,zvo,wd,h1]
theorem zxv (w:Wd):RUN T zj3 [.agg (wd w)]=some ([bv (decide (w.h=0) && decide (w.l=0))],[]):=by
 refine zae rfl rfl ?_
 by_cases h1:w.h=0
 ·simp [zxo,zvo,wd,h1]
 ·simp [zxo,zvo,wd,h1]
def zcn (a b:Int):Int:=if a<b then -1 else if b<a then 1 else 0
theorem ylf (x:Int):RUN T zoi [uv x]=some ([bv false],[]):=by
 refine zae rfl rfl ?_;simp [z7i,zvo]
theorem ylg (x y:Int):RUN T zoh [uv x,uv y]=some ([iv (zcn x y)],[]):=by
 refine zae rfl rfl ?_;have e1:=ylf x;have e2:=ylf y;unfold zcn
 by_cases h1:x<y
 ·simp [zuj,zvr,e1,e2,h1]
 ·by_cases h2:y<x
  ·simp [zuj,zvr,e1,e2,h1,h2]
  ·simp [zuj,zvr,e1,e2,h1,h2]
theorem ylh (x y:Int):RUN T zoa [.sl 1 [[iv x],[iv y]]]=some ([iv (if x=0 then y else x)],[]):=by
 refine zae rfl rfl ?_;simp [z6k,zvo];refine zan (fun n st => ∃ i:Nat,i+n=2/\(1<=i->x=0)/\(2<=i->y=0)/\st.V 3=iv 0/\st.V 6 = .sl 1 [[iv x],[iv y]]/\st.V 7=iv 2/\st.V 8=iv i) ?_ 2 _ ⟨0,by simp⟩;rintro n st ⟨i,hi,hx,hy,v3,v6,v7,v8⟩;simp [yfd,v7,v8];have h3:i=0\/i=1\/i=2:=by omega
 rcases h3 with rfl | rfl | rfl
 ·have hw:IntKind.i64.wrap 1=1:=w64 (by omega) (by omega)
  by_cases h:x=0
  ·simp [v3,v6,v7,v8,h,hw];exact zah (n-1) (by omega) ⟨1,by omega,fun _=>h,by simp [v3,v6,h,v7]⟩
  ·simp [v3,v6,v7,v8,h]
 ·have hx:=hx (by omega);have hw:IntKind.i64.wrap 2=2:=w64 (by omega) (by omega)
  by_cases h:y=0
  ·simp [v3,v6,v7,v8,h,hx,hw];exact zah (n-1) (by omega) ⟨2,by omega,fun _=>hx,fun _=>h,by simp [v3,v6,h,hx,v7]⟩
  ·simp [v3,v6,v7,v8,h,hx]
 ·have hx:=hx (by omega);have hy:=hy (by omega);simp [v3,hx,hy]
def ze1 (a b:Wd):Int:=if zcn a.h b.h=0 then zcn a.l b.l else zcn a.h b.h
theorem yoh {a b:Wd} (ha:wfU a) (hb:wfU b):ze1 a b=zcn (mag a) (mag b):=by
 obtain ⟨_,_,_,_⟩:=ha;obtain ⟨_,_,_,_⟩:=hb;unfold ze1 zcn mag;split <;> split <;> split <;> (try split) <;> (try split) <;> omega
theorem yam (a b:Wd):RUN T zl4 [.agg (wd a),.agg (wd b)]=some ([iv (ze1 a b)],[]):=by
 refine zae rfl rfl ?_;have e1:=ylg a.h b.h;have e2:=ylg a.l b.l;have e3:=ylh (zcn a.h b.h) (zcn a.l b.l);simp [z60,zvr,wd,e1,e2,e3,ze1]
theorem yan (a b:Wd):RUN T zl5 [.agg (wd a),.agg (wd b)]=some ([iv (ze1 a b)],[]):=by
 refine zae rfl rfl ?_;unfold ze1 zcn
 by_cases h1:a.h<b.h
 ·simp [zmh,zvr,wd,h1]
 ·by_cases h2:b.h<a.h
  ·have h3 : ¬ a.h=b.h:=by omega
   simp [zmh,zvr,wd,h1,h2,h3]
  ·have h3:a.h=b.h:=by omega
   by_cases h4:a.l<b.l
   ·simp [zmh,zvr,wd,h3,h4]
   ·by_cases h5:b.l<a.l
    ·simp [zmh,zvr,wd,h3,h4,h5]
    ·simp [zmh,zvr,wd,h3,h4,h5]
def zet (a b:Int):Wd:=mkW (decide (a<0) != decide (b<0)) ((a.natAbs:Int)*b.natAbs)
theorem zku {a:Int} (h:inI a):0<=(a.natAbs:Int)/\(a.natAbs:Int)<=9223372036854775808:=by
 obtain ⟨h0,h1⟩:=h; omega
theorem ymc {a b:Int} (ha:inI a) (hb:inI b):0<=(a.natAbs:Int)*b.natAbs/\(a.natAbs:Int)*b.natAbs<=85070591730234615865843651857942052864:=by
 obtain ⟨a0,a1⟩:=zku ha;obtain ⟨b0,b1⟩:=zku hb;exact ⟨Int.mul_nonneg a0 b0,Int.le_trans (Int.mul_le_mul a1 b1 b0 (by decide)) (by decide)⟩
theorem y7i (a b:Int) (ha:inI a) (hb:inI b):RUN T zti [iv a,iv b]=some ([.agg (wd (zet a b))],[]):=by
 refine zae rfl rfl ?_;obtain ⟨a0,a1⟩:=zku ha;obtain ⟨b0,b1⟩:=zku hb;have e1:=yak a ha;have e2:=yak b hb;have e3:=yai a.natAbs b.natAbs a0 (by omega) b0 (by omega);have e4:=zxu (decide (a<0) != decide (b<0)) ((a.natAbs:Int)*b.natAbs / 18446744073709551616) ((a.natAbs:Int)*b.natAbs % 18446744073709551616);obtain ⟨m0,m1⟩:=ymc ha hb;have e5:(⟨(decide (a<0) != decide (b<0)) && (decide (0<(a.natAbs:Int)*b.natAbs / 18446744073709551616) || decide (0<(a.natAbs:Int)*b.natAbs % 18446744073709551616)),(a.natAbs:Int)*b.natAbs / 18446744073709551616,(a.natAbs:Int)*b.natAbs % 18446744073709551616⟩:Wd)=zet a b:=by
  unfold zet mkW
  congr 2
  generalize (a.natAbs:Int)*b.natAbs=m at *;rw [Bool.eq_iff_iff]; simp; omega
 rw [e5] at e4;generalize zet a b=w at *;obtain ⟨wn,wh,wl⟩:=w;simp only [wd] at e4 ⊢
 by_cases sa:a<0 <;> by_cases sb:b<0 <;> simp [sa,sb] at e4 <;> simp [z66,z67,e1,e2,e3,sa,sb,e4]
theorem y7j (a b:Int) (ha:inI a) (hb:inI b):RUN T ztj [iv a,iv b]=some ([.agg (wd (zet a b))],[]):=by
 refine zae rfl rfl ?_;obtain ⟨a0,a1⟩:=zku ha;obtain ⟨b0,b1⟩:=zku hb;have e1:=yal a ha;have e2:=yal b hb;have e3:=yaj a.natAbs b.natAbs a0 (by omega) b0 (by omega);have hpos:(0<(a.natAbs:Int)*b.natAbs)↔(a≠0/\b≠0):=by
  constructor
  ·intro h;refine ⟨?_,?_⟩ <;> rintro rfl <;> simp at h
  ·rintro ⟨h1,h2⟩;exact Int.mul_pos (by omega) (by omega)
 have e5:zet a b=⟨((decide (a<0) != decide (b<0)) && !decide (a=0)) && !decide (b=0),(a.natAbs:Int)*b.natAbs / 18446744073709551616,(a.natAbs:Int)*b.natAbs % 18446744073709551616⟩:=by
  unfold zet mkW
  congr 1
  rw [Bool.eq_iff_iff]; simp [hpos,and_assoc]
 rw [e5]
 by_cases sa:a<0 <;> by_cases sb:b<0 <;> rcases Classical.propComplete (a=0) with h0 | h0 <;> simp [z7c,z67,e1,e2,e3,sa,sb,wd,h0]
def ze0 (w:Wd):Int:=if w.n then -mag w else mag w
def zco (a b:Wd):Wd×Bool :=
 if wok a && wok b then
  if ((ze0 a+ze0 b).natAbs:Int)<170141183460469231731687303715884105728 then (mkW (decide (ze0 a+ze0 b<0)) (ze0 a+ze0 b).natAbs,true) else (za7,false)
 else (za7,false)
theorem qgz (a b:Wd):wfU (zco a b).1:=by
 unfold zco;split
 ·split
  ·exact ydl (by omega) (by omega)
  ·exact ⟨by decide,by decide,by decide,by decide⟩
 ·exact ⟨by decide,by decide,by decide,by decide⟩
theorem zmv {w:Wd} (h:wfU w) (hk:wok w=true):0<=mag w/\mag w<170141183460469231731687303715884105728/\(w.n=true->0<mag w):=by
 obtain ⟨h0,h1,h2,h3⟩:=h;unfold wok at hk;simp only [Bool.and_eq_true,Bool.or_eq_true,Bool.not_eq_true',decide_eq_true_eq] at hk;unfold mag;obtain ⟨k1,k2⟩:=hk;refine ⟨by omega,by omega,fun hn => ?_⟩;rw [hn] at k2;rcases k2 with (k2 | k2) | k2
 ·cases k2
 ·omega
 ·omega
theorem qcf (a b:Wd) (ha:wfU a) (hb:wfU b) (h:mag a+mag b<340282366920938463463374607431768211456) : ∃ c d:Int,
  RUN T zj4 [uv a.l,uv b.l,uv 0]=some ([uv ((mag a+mag b) % 18446744073709551616),uv c],[])/\RUN T zj4 [uv a.h,uv b.h,uv c]=some ([uv ((mag a+mag b) / 18446744073709551616),uv d],[]):=by
 obtain ⟨a0,a1,a2,a3⟩:=ha;obtain ⟨b0,b1,b2,b3⟩:=hb;have e1:=ybk z98 (x:=a.l) (y:=b.l) (c:=0) a2 b2 (by decide) (by decide);have e2:=ybk z98 (x:=a.h) (y:=b.h) (c:=(a.l+b.l+0) / 18446744073709551616) a0 b0 (by omega) (by omega);have f1:(a.l+b.l+0) % 18446744073709551616=(mag a+mag b) % 18446744073709551616:=by unfold mag; omega
 have f2:(a.h+b.h+(a.l+b.l+0) / 18446744073709551616) % 18446744073709551616=(mag a+mag b) / 18446744073709551616:=by unfold mag at *; omega
 rw [f1] at e1;rw [f2] at e2;exact ⟨_,_,e1,e2⟩
theorem yrj (a b:Wd) (ha:wfU a) (hb:wfU b) (h:mag b<=mag a) : ∃ c d:Int,
  RUN T zl6 [uv a.l,uv b.l,uv 0]=some ([uv ((mag a-mag b) % 18446744073709551616),uv c],[])/\RUN T zl6 [uv a.h,uv b.h,uv c]=some ([uv ((mag a-mag b) / 18446744073709551616),uv d],[]):=by
 obtain ⟨a0,a1,a2,a3⟩:=ha;obtain ⟨b0,b1,b2,b3⟩:=hb;have e1:=ypy yks (x:=a.l) (y:=b.l) (c:=0) a2 b2 a3 b3 (by decide) (by decide);have e2:=ypy yks (x:=a.h) (y:=b.h) (c:=if a.l<b.l+0 then 1 else 0) a0 b0 a1 b1 (by split <;> omega) (by split <;> omega);have f1:(a.l-b.l-0) % 18446744073709551616=(mag a-mag b) % 18446744073709551616:=by unfold mag; omega
 have f2:(a.h-b.h-(if a.l<b.l+0 then 1 else 0)) % 18446744073709551616=(mag a-mag b) / 18446744073709551616:=by
  unfold mag at *;split <;> omega
 rw [f1] at e1;rw [f2] at e2;exact ⟨_,_,e1,e2⟩
theorem ybu {n:Bool} {m:Int} (h:0<=m):RUN T zhb [bv n,uv (m / 18446744073709551616),uv (m % 18446744073709551616)]=some ([.agg (wd (mkW n m))],[]):=by
 rw [zxu];have:(⟨n && (decide (0<m / 18446744073709551616) || decide (0<m % 18446744073709551616)),m / 18446744073709551616,m % 18446744073709551616⟩:Wd)=mkW n m:=by
  unfold mkW
  congr 2
  rw [Bool.eq_iff_iff]; simp; omega
 rw [this]
theorem y7k (a b:Wd) (ha:wfU a) (hb:wfU b):RUN T ztf [.agg (wd a),.agg (wd b)]=some ([.agg (wd (zco a b).1),bv (zco a b).2],[]):=by
 refine zae rfl rfl ?_;have ea:=zul a;have eb:=zul b;cases ka:wok a with
 | false =>
  have es:zco a b=(za7,false):=by unfold zco; simp [ka]
  rw [es]; rw [ka] at ea;simp only [wd] at ea;simp [zkl,zkm,wd,ea,za7]
 | true =>
  cases kb:wok b with
  | false =>
   have es:zco a b=(za7,false):=by unfold zco; simp [kb]
   rw [es]; rw [ka] at ea; rw [kb] at eb;simp only [wd] at ea eb;simp [zkl,zkm,wd,ea,eb,za7]
  | true =>
   obtain ⟨ma0,ma1,ma2⟩:=zmv ha ka;obtain ⟨mb0,mb1,mb2⟩:=zmv hb kb;rw [ka] at ea; rw [kb] at eb
   by_cases hn:a.n=b.n
   ·obtain ⟨c,d,f1,f2⟩:=qcf a b ha hb (by omega);have f3:=ybu (n:=a.n) (m:=mag a+mag b) (by omega);have f4:=zul (mkW a.n (mag a+mag b));rw [yc1 (by omega)] at f4;have es:zco a b=if mag a+mag b<170141183460469231731687303715884105728 then (mkW a.n (mag a+mag b),true) else (za7,false):=by
     unfold zco ze0;rw [ka,kb,<- hn];simp only [Bool.and_self,if_true];cases h:a.n with
     | true =>
      have e1:(-mag a + -mag b).natAbs=mag a+mag b:=by omega
      have e2 : -mag a + -mag b<0:=by have:=ma2 h; omega
      simp only [if_true,e1,decide_eq_true e2]
     | false =>
      have e1:((mag a+mag b).natAbs:Int)=mag a+mag b:=by omega
      have e2 : ¬ mag a+mag b<0:=by omega
      simp only [Bool.false_eq_true,if_false,e1,decide_eq_false e2]
    rw [es];generalize hm:mag a+mag b=m at *;generalize mkW a.n m=w at *;generalize m / 18446744073709551616=hi at *;generalize m % 18446744073709551616=lo at *;simp only [wd] at ea eb f3 f4 ⊢;rw [hn] at ea f3
    by_cases hk:m<170141183460469231731687303715884105728
    ·rw [decide_eq_true hk] at f4;rw [if_pos hk];simp [zkl,zkm,ea,eb,hn,f1,f2,f3,f4]
    ·rw [decide_eq_false hk] at f4;rw [if_neg hk];simp [zkl,zkm,ea,eb,hn,f1,f2,f3,f4,za7]
   ·have ho:=yam a b;rw [yoh ha hb] at ho;have es:zco a b=(mkW (if mag a<mag b then b.n else a.n) (if mag a<mag b then mag b-mag a else mag a-mag b),true):=by
     have gen : ∀ (n:Bool) (m:Int),((ze0 a+ze0 b).natAbs:Int)=m->m<170141183460469231731687303715884105728->(decide (ze0 a+ze0 b<0) && decide (0<m))=(n && decide (0<m))->zco a b=(mkW n m,true):=by
      intro n m h1 h2 h3;unfold zco;rw [ka,kb,h1];simp only [Bool.and_self,if_true,if_pos h2];unfold mkW;rw [h3]
     unfold ze0 at gen;cases h:a.n <;> cases h':b.n <;> simp only [h,h'] at gen hn ⊢
     ·exact (hn trivial).elim
     ·by_cases hl:mag a<mag b
      ·rw [if_pos hl,if_pos hl];exact gen _ _ (by simp; omega) (by omega) (by rw [Bool.eq_iff_iff]; simp; omega)
      ·rw [if_neg hl,if_neg hl];exact gen _ _ (by simp; omega) (by omega) (by rw [Bool.eq_iff_iff]; simp; omega)
     ·by_cases hl:mag a<mag b
      ·rw [if_pos hl,if_pos hl];exact gen _ _ (by simp; omega) (by omega) (by rw [Bool.eq_iff_iff]; simp; omega)
      ·rw [if_neg hl,if_neg hl];exact gen _ _ (by simp; omega) (by omega) (by rw [Bool.eq_iff_iff]; simp; omega)
     ·exact (hn trivial).elim
    rw [es];have hnb:(a.n == b.n)=false:=by cases h:a.n <;> cases h':b.n <;> simp [h,h'] at hn ⊢
    by_cases hl:mag a<mag b
    ·obtain ⟨c,d,f1,f2⟩:=yrj b a hb ha (by omega);have f3:=ybu (n:=b.n) (m:=mag b-mag a) (by omega);have hs:zcn (mag a) (mag b) = -1:=by unfold zcn; rw [if_pos hl]
     rw [hs] at ho;rw [if_pos hl,if_pos hl];generalize mag b-mag a=m at *;generalize mkW b.n m=w at *;generalize m / 18446744073709551616=hi at *;generalize m % 18446744073709551616=lo at *;simp only [wd] at ea eb f3 ho ⊢;simp [zkl,zkm,ea,eb,hnb,ho,f1,f2,f3]
    ·obtain ⟨c,d,f1,f2⟩:=yrj a b ha hb (by omega);have f3:=ybu (n:=a.n) (m:=mag a-mag b) (by omega);have hs : ¬ zcn (mag a) (mag b)<0:=by unfold zcn; rw [if_neg hl]; split <;> omega
     rw [if_neg hl,if_neg hl];generalize mag a-mag b=m at *;generalize mkW a.n m=w at *;generalize m / 18446744073709551616=hi at *;generalize m % 18446744073709551616=lo at *;generalize zcn (mag a) (mag b)=sg at *;simp only [wd] at ea eb f3 ho ⊢;simp [zkl,zkm,ea,eb,hnb,ho,hs,f1,f2,f3]
theorem qc7 {a b:Wd} (ha:wfU a) (hb:wfU b) (ka:wok a=true) (kb:wok b=true) (hn:a.n=b.n):zco a b=if mag a+mag b<170141183460469231731687303715884105728 then (mkW a.n (mag a+mag b),true) else (za7,false):=by
 obtain ⟨ma0,ma1,ma2⟩:=zmv ha ka;obtain ⟨mb0,mb1,mb2⟩:=zmv hb kb;unfold zco ze0;rw [ka,kb,<- hn];simp only [Bool.and_self,if_true];cases h:a.n with
 | true =>
  have e1:(-mag a + -mag b).natAbs=mag a+mag b:=by omega
  have e2 : -mag a + -mag b<0:=by have:=ma2 h; omega
  simp only [if_true,e1,decide_eq_true e2]
 | false =>
  have e1:((mag a+mag b).natAbs:Int)=mag a+mag b:=by omega
  have e2 : ¬ mag a+mag b<0:=by omega
  simp only [Bool.false_eq_true,if_false,e1,decide_eq_false e2]
theorem qgv {a b:Wd} (ha:wfU a) (hb:wfU b) (ka:wok a=true) (kb:wok b=true) (hn : ¬ a.n=b.n):zco a b=(mkW (if mag a<mag b then b.n else a.n) (if mag a<mag b then mag b-mag a else mag a-mag b),true):=by
 obtain ⟨ma0,ma1,ma2⟩:=zmv ha ka;obtain ⟨mb0,mb1,mb2⟩:=zmv hb kb;have gen : ∀ (n:Bool) (m:Int),((ze0 a+ze0 b).natAbs:Int)=m->m<170141183460469231731687303715884105728->(decide (ze0 a+ze0 b<0) && decide (0<m))=(n && decide (0<m))->zco a b=(mkW n m,true):=by
  intro n m h1 h2 h3;unfold zco;rw [ka,kb,h1];simp only [Bool.and_self,if_true,if_pos h2];unfold mkW;rw [h3]
 unfold ze0 at gen;cases h:a.n <;> cases h':b.n <;> simp only [h,h'] at gen hn ⊢
 ·exact (hn trivial).elim
 ·by_cases hl:mag a<mag b
  ·rw [if_pos hl,if_pos hl];exact gen _ _ (by simp; omega) (by omega) (by rw [Bool.eq_iff_iff]; simp; omega)
  ·rw [if_neg hl,if_neg hl];exact gen _ _ (by simp; omega) (by omega) (by rw [Bool.eq_iff_iff]; simp; omega)
 ·by_cases hl:mag a<mag b
  ·rw [if_pos hl,if_pos hl];exact gen _ _ (by simp; omega) (by omega) (by rw [Bool.eq_iff_iff]; simp; omega)
  ·rw [if_neg hl,if_neg hl];exact gen _ _ (by simp; omega) (by omega) (by rw [Bool.eq_iff_iff]; simp; omega)
 ·exact (hn trivial).elim
theorem qet (a b:Wd) (ha:wfU a) (hb:wfU b) (h:mag a+mag b<340282366920938463463374607431768211456) :
  IntKind.u64.wrap (a.l+b.l)=(mag a+mag b) % 18446744073709551616/\((mag a+mag b) % 18446744073709551616<a.l->IntKind.u64.wrap (IntKind.u64.wrap (a.h+b.h)+1)=(mag a+mag b) / 18446744073709551616)/\(¬ (mag a+mag b) % 18446744073709551616<a.l->IntKind.u64.wrap (a.h+b.h)=(mag a+mag b) / 18446744073709551616):=by
 obtain ⟨a0,a1,a2,a3⟩:=ha;obtain ⟨b0,b1,b2,b3⟩:=hb;unfold mag at *;refine ⟨?_,fun h => ?_,fun h => ?_⟩ <;> simp only [zjf] at * <;> omega
theorem yuk (a b:Wd) (ha:wfU a) (hb:wfU b) (h:mag b<=mag a) :
  IntKind.u64.wrap (a.l-b.l)=(mag a-mag b) % 18446744073709551616/\(a.l<b.l->IntKind.u64.wrap (IntKind.u64.wrap (a.h-b.h)-1)=(mag a-mag b) / 18446744073709551616)/\(¬ a.l<b.l->IntKind.u64.wrap (a.h-b.h)=(mag a-mag b) / 18446744073709551616):=by
 obtain ⟨a0,a1,a2,a3⟩:=ha;obtain ⟨b0,b1,b2,b3⟩:=hb;unfold mag at *;refine ⟨?_,fun h => ?_,fun h => ?_⟩ <;> simp only [zjf] at * <;> omega
theorem y7l (a b:Wd) (ha:wfU a) (hb:wfU b):RUN T zth [.agg (wd a),.agg (wd b)]=some ([.agg (wd (zco a b).1),bv (zco a b).2],[]):=by
 refine zae rfl rfl ?_;have ea:=zum a;have eb:=zum b;cases ka:wok a with
 | false =>
  have es:zco a b=(za7,false):=by unfold zco; simp [ka]
  rw [es]; rw [ka] at ea;simp only [wd] at ea;simp [zfy,zkm,wd,ea,za7]
 | true =>
  cases kb:wok b with
  | false =>
   have es:zco a b=(za7,false):=by unfold zco; simp [kb]
   rw [es]; rw [ka] at ea; rw [kb] at eb;simp only [wd] at ea eb;simp [zfy,zkm,wd,ea,eb,za7]
  | true =>
   obtain ⟨ma0,ma1,ma2⟩:=zmv ha ka;obtain ⟨mb0,mb1,mb2⟩:=zmv hb kb;rw [ka] at ea; rw [kb] at eb
   by_cases hn:a.n=b.n
   ·obtain ⟨f1,f2,f3⟩:=qet a b ha hb (by omega);have f4:=zum (mkW a.n (mag a+mag b));rw [yc1 (by omega)] at f4;rw [qc7 ha hb ka kb hn];have e6:mkW a.n (mag a+mag b)=⟨a.n,(mag a+mag b) / 18446744073709551616,(mag a+mag b) % 18446744073709551616⟩:=by
     unfold mkW
     congr 1
     cases h:a.n with
     | false=>rfl
     | true=>have:=ma2 h; simp; omega
    rw [e6] at f4 ⊢;generalize hm:mag a+mag b=m at *;generalize m / 18446744073709551616=hi at *;generalize m % 18446744073709551616=lo at *;simp only [wd] at ea eb f4 ⊢;rw [hn] at ea f4
    by_cases hc:lo<a.l
    ·have f2:=f2 hc
     by_cases hk:m<170141183460469231731687303715884105728
     ·rw [decide_eq_true hk] at f4;rw [if_pos hk];simp [zfy,zkm,ea,eb,hn,hc,f1,f2,f4]
     ·rw [decide_eq_false hk] at f4;rw [if_neg hk];simp [zfy,zkm,ea,eb,hn,hc,f1,f2,f4,za7]
    ·have f3:=f3 hc
     by_cases hk:m<170141183460469231731687303715884105728
     ·rw [decide_eq_true hk] at f4;rw [if_pos hk];simp [zfy,zkm,ea,eb,hn,hc,f1,f3,f4]
     ·rw [decide_eq_false hk] at f4;rw [if_neg hk];simp [zfy,zkm,ea,eb,hn,hc,f1,f3,f4,za7]
   ·have ho:=yan a b;rw [yoh ha hb] at ho;rw [qgv ha hb ka kb hn];have hnb:(a.n == b.n)=false:=by cases h:a.n <;> cases h':b.n <;> simp [h,h'] at hn ⊢
    by_cases hl:mag a<mag b
    ·obtain ⟨f1,f2,f3⟩:=yuk b a hb ha (by omega);have hz:=zxv ⟨b.n,(mag b-mag a) / 18446744073709551616,(mag b-mag a) % 18446744073709551616⟩;have hs:zcn (mag a) (mag b) = -1:=by unfold zcn; rw [if_pos hl]
     rw [hs] at ho;rw [if_pos hl,if_pos hl];have e6:mkW b.n (mag b-mag a)=⟨b.n,(mag b-mag a) / 18446744073709551616,(mag b-mag a) % 18446744073709551616⟩:=by
      unfold mkW
      congr 1
      rw [decide_eq_true (show 0<mag b-mag a by omega),Bool.and_true]
     have e7:(decide ((mag b-mag a) / 18446744073709551616=0) && decide ((mag b-mag a) % 18446744073709551616=0))=false:=by
      rw [Bool.eq_false_iff]; simp; omega
     simp only at hz;rw [e7] at hz;rw [e6];clear e6 e7;generalize mag b-mag a=m at *;generalize m / 18446744073709551616=hi at *;generalize m % 18446744073709551616=lo at *;simp only [wd] at ea eb ho hz ⊢
     by_cases hc:b.l<a.l
     ·have f2:=f2 hc;simp [zfy,zkm,ea,eb,hnb,ho,hc,f1,f2,hz]
     ·have f3:=f3 hc;simp [zfy,zkm,ea,eb,hnb,ho,hc,f1,f3,hz]
    ·obtain ⟨f1,f2,f3⟩:=yuk a b ha hb (by omega);have hz:=zxv ⟨a.n,(mag a-mag b) / 18446744073709551616,(mag a-mag b) % 18446744073709551616⟩;have hs : ¬ zcn (mag a) (mag b)<0:=by unfold zcn; rw [if_neg hl]; split <;> omega
     rw [if_neg hl,if_neg hl];generalize zcn (mag a) (mag b)=sg at *
     by_cases h0:mag a-mag b=0
     ·have e6:mkW a.n (mag a-mag b)=⟨false,(mag a-mag b) / 18446744073709551616,(mag a-mag b) % 18446744073709551616⟩:=by
       unfold mkW
       congr 1
       simp [h0]
      have e7:(decide ((mag a-mag b) / 18446744073709551616=0) && decide ((mag a-mag b) % 18446744073709551616=0))=true:=by
       simp; omega
      simp only at hz;rw [e7] at hz;rw [e6];clear e6 e7 h0;generalize mag a-mag b=m at *;generalize m / 18446744073709551616=hi at *;generalize m % 18446744073709551616=lo at *;simp only [wd] at ea eb ho hz ⊢
      by_cases hc:a.l<b.l
      ·have f2:=f2 hc;simp [zfy,zkm,ea,eb,hnb,ho,hs,hc,f1,f2,hz]
      ·have f3:=f3 hc;simp [zfy,zkm,ea,eb,hnb,ho,hs,hc,f1,f3,hz]
     ·have e6:mkW a.n (mag a-mag b)=⟨a.n,(mag a-mag b) / 18446744073709551616,(mag a-mag b) % 18446744073709551616⟩:=by
       unfold mkW
       congr 1
       rw [decide_eq_true (show 0<mag a-mag b by omega),Bool.and_true]
      have e7:(decide ((mag a-mag b) / 18446744073709551616=0) && decide ((mag a-mag b) % 18446744073709551616=0))=false:=by
       rw [Bool.eq_false_iff]; simp; omega
      simp only at hz;rw [e7] at hz;rw [e6];clear e6 e7 h0;generalize mag a-mag b=m at *;generalize m / 18446744073709551616=hi at *;generalize m % 18446744073709551616=lo at *;simp only [wd] at ea eb ho hz ⊢
      by_cases hc:a.l<b.l
      ·have f2:=f2 hc;simp [zfy,zkm,ea,eb,hnb,ho,hs,hc,f1,f2,hz]
      ·have f3:=f3 hc;simp [zfy,zkm,ea,eb,hnb,ho,hs,hc,f1,f3,hz]
theorem qc2 {a b:Int} (ha:inI a) (hb:inI b):wfU (zet a b):=by
 obtain ⟨m0,m1⟩:=ymc ha hb;exact ydl m0 (by omega)
theorem qhb {l:List Int} {i:Nat} {x:Int} (h:l[i]?=some x):l.drop i=x::l.drop (i+1):=by
 have hlt:i<l.length:=by
  rcases Nat.lt_or_ge i l.length with h' | h'
  ·exact h'
  ·rw [List.getElem?_eq_none (by omega)] at h; cases h
 rw [List.drop_eq_getElem_cons hlt]
 congr 1
 rw [bG hlt] at h;exact Option.some.inj h
def zdf (w:Wd) (k:Int):Wd×Bool:=if wok w=true/\mag w*k.natAbs<170141183460469231731687303715884105728 then (mkW (w.n != decide (k<0)) (mag w*k.natAbs),true) else (za7,false)
theorem ypq (w:Wd) (k:Int) (hw:wfU w) (hk:inI k) : ∃ p q:Int,w.h*k.natAbs=p/\w.l*k.natAbs=q/\0<=p/\0<=q/\q<=170141183460469231722463931679029329920/\mag w*k.natAbs=p*18446744073709551616+q:=by
 obtain ⟨a0,a1,a2,a3⟩:=hw;obtain ⟨k0,k1⟩:=zku hk;refine ⟨_,_,rfl,rfl,Int.mul_nonneg a0 k0,Int.mul_nonneg a2 k0,Int.le_trans (Int.mul_le_mul (show w.l<=18446744073709551615 by omega) k1 k0 (by decide)) (by decide),?_⟩;unfold mag;rw [Int.add_mul,Int.mul_assoc,Int.mul_comm 18446744073709551616,<- Int.mul_assoc]
theorem yne (w:Wd) (k:Int) (ka:wok w=true) (p q:Int) (p0:0<=p) (q0:0<=q) (q1:q<=170141183460469231722463931679029329920) (hP:mag w*k.natAbs=p*18446744073709551616+q) :
  (zdf w k=(za7,false)/\(0<p / 18446744073709551616\/0<(p % 18446744073709551616+q / 18446744073709551616) / 18446744073709551616\/wok ⟨(w.n != decide (k<0)) && (decide (0<(p % 18446744073709551616+q / 18446744073709551616) % 18446744073709551616) || decide (0<q % 18446744073709551616)),(p % 18446744073709551616+q / 18446744073709551616) % 18446744073709551616,q % 18446744073709551616⟩=false)) \/
  (zdf w k=(⟨(w.n != decide (k<0)) && (decide (0<(p % 18446744073709551616+q / 18446744073709551616) % 18446744073709551616) || decide (0<q % 18446744073709551616)),(p % 18446744073709551616+q / 18446744073709551616) % 18446744073709551616,q % 18446744073709551616⟩,true)/\¬ 0<p / 18446744073709551616/\¬ 0<(p % 18446744073709551616+q / 18446744073709551616) / 18446744073709551616/\wok ⟨(w.n != decide (k<0)) && (decide (0<(p % 18446744073709551616+q / 18446744073709551616) % 18446744073709551616) || decide (0<q % 18446744073709551616)),(p % 18446744073709551616+q / 18446744073709551616) % 18446744073709551616,q % 18446744073709551616⟩=true):=by
 by_cases hk:p*18446744073709551616+q<170141183460469231731687303715884105728
 ·right;have e:(⟨(w.n != decide (k<0)) && (decide (0<(p % 18446744073709551616+q / 18446744073709551616) % 18446744073709551616) || decide (0<q % 18446744073709551616)),(p % 18446744073709551616+q / 18446744073709551616) % 18446744073709551616,q % 18446744073709551616⟩:Wd)=mkW (w.n != decide (k<0)) (p*18446744073709551616+q):=by
   unfold mkW
   congr 1
   ·congr 1
    rw [Bool.eq_iff_iff]; simp; omega
   ·omega
   ·omega
  rw [e,yc1 (by omega)];refine ⟨?_,by omega,by omega,decide_eq_true hk⟩;unfold zdf;rw [hP,if_pos ⟨ka,hk⟩]
 ·left;refine ⟨?_,?_⟩
  ·unfold zdf;rw [hP,if_neg (fun h=>hk h.2)]
  ·by_cases h1:0<p / 18446744073709551616
   ·exact .inl h1
   ·by_cases h2:0<(p % 18446744073709551616+q / 18446744073709551616) / 18446744073709551616
    ·exact .inr (.inl h2)
    ·refine .inr (.inr ?_);unfold wok;rw [decide_eq_false (show ¬ (p % 18446744073709551616+q / 18446744073709551616) % 18446744073709551616<9223372036854775808 by omega)];rfl
theorem yli (w:Wd) (k:Int) (hw:wfU w) (hk:inI k):RUN T zof [.agg (wd w),iv k]=some ([.agg (wd (zdf w k).1),bv (zdf w k).2],[]):=by
 refine zae rfl rfl ?_;have ea:=zul w;cases ka:wok w with
 | false =>
  have es:zdf w k=(za7,false):=by unfold zdf; simp [ka]
  rw [es]; rw [ka] at ea;simp only [wd] at ea;simp [zh3,zkm,wd,ea,za7]
 | true =>
  rw [ka] at ea;obtain ⟨a0,a1,a2,a3⟩:=hw;obtain ⟨k0,k1⟩:=zku hk;have e1:=yak k hk;have e2:=yai w.h k.natAbs a0 a1 k0 (by omega);have e3:=yai w.l k.natAbs a2 a3 k0 (by omega);obtain ⟨p,q,hp,hq,p0,q0,q1,hP⟩:=ypq w k ⟨a0,a1,a2,a3⟩ hk;rw [hp] at e2;rw [hq] at e3;have e4:=ybk z98 (x:=p % 18446744073709551616) (y:=q / 18446744073709551616) (c:=0) (by omega) (by omega) (by decide) (by decide);rw [Int.add_zero] at e4;have e5:=zxu (w.n != decide (k<0)) ((p % 18446744073709551616+q / 18446744073709551616) % 18446744073709551616) (q % 18446744073709551616);have e6:=zul ⟨(w.n != decide (k<0)) && (decide (0<(p % 18446744073709551616+q / 18446744073709551616) % 18446744073709551616) || decide (0<q % 18446744073709551616)),(p % 18446744073709551616+q / 18446744073709551616) % 18446744073709551616,q % 18446744073709551616⟩;have key:=yne w k ka p q p0 q0 q1 hP;generalize ((w.n != decide (k<0)) && (decide (0<(p % 18446744073709551616+q / 18446744073709551616) % 18446744073709551616) || decide (0<q % 18446744073709551616)))=sn at *;generalize p / 18446744073709551616=P1 at *;generalize p % 18446744073709551616=P2 at *;generalize q / 18446744073709551616=Q1 at *;generalize q % 18446744073709551616=Q2 at *;generalize (P2+Q1) / 18446744073709551616=S1 at *;generalize (P2+Q1) % 18446744073709551616=S2 at *;generalize zdf w k=r at *;generalize wok ⟨sn,S2,Q2⟩=o at *;obtain ⟨wn,wh,wl⟩:=w;simp only [wd] at ea e5 e6 ⊢;simp only at e2 e3;rcases key with ⟨rfl,c | c | rfl⟩ | ⟨rfl,c1,c2,rfl⟩
  ·cases wn <;> by_cases sb:k<0 <;> simp [sb] at e5 <;> simp [zh3,zkm,ea,e1,e2,e3,e4,e5,sb,c,za7]
  ·by_cases c':0<P1
   ·cases wn <;> by_cases sb:k<0 <;> simp [sb] at e5 <;> simp [zh3,zkm,ea,e1,e2,e3,e4,e5,sb,c',za7]
   ·cases wn <;> by_cases sb:k<0 <;> simp [sb] at e5 <;> simp [zh3,zkm,ea,e1,e2,e3,e4,e5,sb,c',c,za7]
  ·by_cases c':0<P1
   ·cases wn <;> by_cases sb:k<0 <;> simp [sb] at e5 <;> simp [zh3,zkm,ea,e1,e2,e3,e4,e5,sb,c',za7]
   ·by_cases c:0<S1
    ·cases wn <;> by_cases sb:k<0 <;> simp [sb] at e5 <;> simp [zh3,zkm,ea,e1,e2,e3,e4,e5,sb,c',c,za7]
    ·cases wn <;> by_cases sb:k<0 <;> simp [sb] at e5 <;> simp [zh3,zkm,ea,e1,e2,e3,e4,e5,e6,sb,c',c,za7]
  ·cases wn <;> by_cases sb:k<0 <;> simp [sb] at e5 <;> simp [zh3,zkm,ea,e1,e2,e3,e4,e5,e6,sb,c1,c2]
theorem ylj (w:Wd) (k:Int) (hw:wfU w) (hk:inI k):RUN T zog [.agg (wd w),iv k]=some ([.agg (wd (zdf w k).1),bv (zdf w k).2],[]):=by
 refine zae rfl rfl ?_;have ea:=zum w;cases ka:wok w with
 | false =>
  have es:zdf w k=(za7,false):=by unfold zdf; simp [ka]
  rw [es]; rw [ka] at ea;simp only [wd] at ea;simp [zh5,zkm,wd,ea,za7]
 | true =>
  rw [ka] at ea;obtain ⟨a0,a1,a2,a3⟩:=hw;obtain ⟨k0,k1⟩:=zku hk;have e1:=yal k hk;have e2:=yaj w.h k.natAbs a0 a1 k0 (by omega);have e3:=yaj w.l k.natAbs a2 a3 k0 (by omega);obtain ⟨p,q,hp,hq,p0,q0,q1,hP⟩:=ypq w k ⟨a0,a1,a2,a3⟩ hk;rw [hp] at e2;rw [hq] at e3;have e4:=zxv ⟨w.n != decide (k<0),(p % 18446744073709551616+q / 18446744073709551616) % 18446744073709551616,q % 18446744073709551616⟩;have e5:(decide (0<(p % 18446744073709551616+q / 18446744073709551616) % 18446744073709551616) || decide (0<q % 18446744073709551616)) = !(decide ((p % 18446744073709551616+q / 18446744073709551616) % 18446744073709551616=0) && decide (q % 18446744073709551616=0)):=by
   rw [Bool.eq_iff_iff]; simp; omega
  have e6:=zum ⟨(w.n != decide (k<0)) && (decide (0<(p % 18446744073709551616+q / 18446744073709551616) % 18446744073709551616) || decide (0<q % 18446744073709551616)),(p % 18446744073709551616+q / 18446744073709551616) % 18446744073709551616,q % 18446744073709551616⟩;have e7:0<(p % 18446744073709551616+q / 18446744073709551616) / 18446744073709551616↔(p % 18446744073709551616+q / 18446744073709551616) % 18446744073709551616<p % 18446744073709551616:=by omega
  have e8:=zjf (p % 18446744073709551616+q / 18446744073709551616);have key:=yne w k ka p q p0 q0 q1 hP;rw [e7] at key;rw [e5] at key e6;clear e7 e5;simp only at e4;generalize (decide ((p % 18446744073709551616+q / 18446744073709551616) % 18446744073709551616=0) && decide (q % 18446744073709551616=0))=z at *;generalize p / 18446744073709551616=P1 at *;generalize p % 18446744073709551616=P2 at *;generalize q / 18446744073709551616=Q1 at *;generalize q % 18446744073709551616=Q2 at *;generalize (P2+Q1) % 18446744073709551616=S2 at *;generalize zdf w k=r at *;generalize hsn:((w.n != decide (k<0)) && !z)=sn at *;generalize wok ⟨sn,S2,Q2⟩=o at *;obtain ⟨wn,wh,wl⟩:=w;simp only [wd] at ea e4 e6 ⊢;simp only at e2 e3 hsn;rcases key with ⟨rfl,c | c | rfl⟩ | ⟨rfl,c1,c2,rfl⟩
  ·cases wn <;> by_cases sb:k<0 <;> cases z <;> simp [sb] at e4 <;> simp [zh5,zkm,ea,e1,e2,e3,e4,e8,sb,c,za7]
  ·by_cases c':0<P1
   ·cases wn <;> by_cases sb:k<0 <;> cases z <;> simp [sb] at e4 <;> simp [zh5,zkm,ea,e1,e2,e3,e4,e8,sb,c',za7]
   ·cases wn <;> by_cases sb:k<0 <;> cases z <;> simp [sb] at e4 <;> simp [zh5,zkm,ea,e1,e2,e3,e4,e8,sb,c',c,za7]
  ·by_cases c':0<P1
   ·cases wn <;> by_cases sb:k<0 <;> cases z <;> simp [sb] at e4 <;> simp [zh5,zkm,ea,e1,e2,e3,e4,e8,sb,c',za7]
   ·by_cases c:S2<P2
    ·cases wn <;> by_cases sb:k<0 <;> cases z <;> simp [sb] at e4 <;> simp [zh5,zkm,ea,e1,e2,e3,e4,e8,sb,c',c,za7]
    ·cases wn <;> by_cases sb:k<0 <;> cases z <;> simp [sb] at e4 hsn <;> subst hsn <;> simp [zh5,zkm,ea,e1,e2,e3,e4,e6,e8,sb,c',c,za7]
  ·cases wn <;> by_cases sb:k<0 <;> cases z <;> simp [sb] at e4 hsn <;> subst hsn <;> simp [zh5,zkm,ea,e1,e2,e3,e4,e6,e8,sb,c1,c2]
def ze5 (w:Wd):Bool:=w.n && !(decide (w.h=0) && decide (w.l=0))
def zk7 (a b:Wd):Int:=if ze5 a=true then (if ze5 b=true then ze1 b a else -1) else (if ze5 b=true then 1 else ze1 a b)
theorem y7m (a b:Wd):RUN T ztd [.agg (wd a),.agg (wd b)]=some ([iv (zk7 a b)],[]):=by
 refine zae rfl rfl ?_;have e1:=zxv a;have e2:=zxv b;have e3:=yan a b;have e4:=yan b a;unfold zk7 ze5;generalize ze1 a b=x at *;generalize ze1 b a=y at *;generalize (decide (a.h=0) && decide (a.l=0))=z at *;generalize (decide (b.h=0) && decide (b.l=0))=z' at *;obtain ⟨an,ah,al⟩:=a;obtain ⟨bn,bh,bl⟩:=b;simp only [wd] at e1 e2 e3 e4 ⊢;cases an <;> cases bn <;> cases z <;> cases z' <;> simp [z6q,zvr,e1,e2,e3,e4]
theorem ydz : ∀ (M:Nat) (q:List Int),q.Nodup->(∀ y∈q,0<=y/\y<M)->q.length<=M
 | 0,q,_,h=>by
  cases q with
  | nil=>simp
  | cons x q=>have:=h x (by simp); omega
 | M+1,q,hn,h=>by
  by_cases hm:(M:Int)∈q
  ·have h1:=ydz M (q.erase M) (hn.erase _) (fun y hy=>by
    obtain ⟨h1,h2⟩:=(List.Nodup.mem_erase_iff hn).mp hy;have:=h y h2;omega)
   rw [List.length_erase_of_mem hm] at h1;omega
  ·exact Nat.le_trans (ydz M q hn (fun y hy=>by
    have:=h y hy;have:y≠M:=fun e=>hm (e ▸ hy);omega)) (by omega)
def ya5 (u:List Nd):Prop := ∀ (j:Nat) (n:Nd),u[j]?=some n->n.f ≠ -1->1<=n.l/\n.l<u.length/\1<=n.r/\n.r<u.length/\n.l≠n.r/\∀ (j':Nat) (n':Nd),u[j']?=some n'->n'.f ≠ -1->(n.l=n'.l\/n.l=n'.r\/n.r=n'.l\/n.r=n'.r)->j=j'
structure QI (u:List Nd) (q:List Int) (i:Nat):Prop where
 nd:q.Nodup
 rg : ∀ y∈q,0<=y/\y<u.length
 up : ∀ y∈q,y=0\/∃ z∈q.take i,∃ n,u[z.toNat]?=some n/\n.f ≠ -1/\(y=n.l\/y=n.r)
theorem QI.skip {u:List Nd} {q:List Int} {i:Nat} (h:QI u q i):QI u q (i+1) :=
 ⟨h.nd,h.rg,fun y hy=>by
  rcases h.up y hy with h1 | ⟨z,hz,n,h2⟩
  ·exact .inl h1
  ·exact .inr ⟨z,(List.take_subset_take_left q (Nat.le_succ i)) hz,n,h2⟩⟩
theorem QI.step {u:List Nd} (hg:ya5 u) {q:List Int} {i:Nat} (h:QI u q i) {z:Int} (hz:q[i]?=some z) {n:Nd} (hn:u[z.toNat]?=some n) (hf:n.f ≠ -1):QI u (q++[n.l,n.r]) (i+1):=by
 obtain ⟨g1,g2,g3,g4,g5,g6⟩:=hg _ _ hn hf;have hlt:i<q.length:=by
  rcases Nat.lt_or_ge i q.length with h' | h'
  ·exact h'
  ·rw [List.getElem?_eq_none (by omega)] at hz; cases hz
 have hzr:=h.rg z (bF hz);have hno:z ∉ q.take i:=by
  intro hm;have hd:=h.nd;rw [<- List.take_append_drop i q,qhb hz,List.nodup_append] at hd;exact hd.2.2 z hm z (by simp) rfl
 have key : ∀ y∈q,(y=n.l\/y=n.r)->False:=by
  intro y hy hc;rcases h.up y hy with h1 | ⟨z',hz',n',h2,h3,h4⟩
  ·omega
  ·have:=g6 _ _ h2 h3 (by rcases hc with c | c <;> rcases h4 with d | d <;> omega);have hz'r:=h.rg z' (List.mem_of_mem_take hz');have:z=z':=by omega
   exact hno (this ▸ hz')
 refine ⟨?_,?_,?_⟩
 ·rw [List.nodup_append];refine ⟨h.nd,by simp [g5],fun a ha b hb => ?_⟩;rintro rfl;simp at hb;exact key a ha hb
 ·intro y hy;rcases List.mem_append.mp hy with hy | hy
  ·exact h.rg y hy
  ·simp at hy; omega
 ·intro y hy;rcases List.mem_append.mp hy with hy | hy
  ·rcases h.up y hy with h1 | ⟨z',hz',n',h2⟩
   ·exact .inl h1
   ·refine .inr ⟨z',?_,n',h2⟩;rw [List.take_append_of_le_length (by omega)];exact (List.take_subset_take_left q (Nat.le_succ i)) hz'
  ·refine .inr ⟨z,?_,n,hn,hf,by simpa using hy⟩;rw [List.take_append_of_le_length (by omega)];rw [List.take_succ,hz]; simp
theorem QI.len {u:List Nd} {q:List Int} {i:Nat} (h:QI u q i):q.length<=u.length:=ydz _ q h.nd h.rg
theorem zp5 (l:List Nd) (x:Nd):l.map nd++[[iv x.f,iv x.c,iv x.l,iv x.r,iv x.v]]=(l++[x]).map nd:=by simp [nd]
theorem zya {l:List Nd} {i:Nat} {x:Nd} (h:l[i]?=some x):(l.map nd)[i]?=some [iv x.f,iv x.c,iv x.l,iv x.r,iv x.v]:=by simp [h,nd]
def GL (N:Nat) (r:List PV×List PV):Prop := ∃ w:List Nd,w.length<=N/\r=([.agg [.own 5 (w.map nd)]],[])
theorem y7n (u:List Nd) (hg:ya5 u) (h0:1<=u.length) (hl:u.length<=1000) : ∃ r,RUN T zst [.sl 5 (u.map nd)]=some r/\GL u.length r:=by
 refine zeu rfl rfl ?_;have hr8:zag 8 1=true:=by decide
 simp [z45,zh0,hr8];refine zan (fun n st => ∃ (i oq eq:Nat) (q:List Int) (w:List Nd) (x:PV) (nxt:Int),i+n=u.length/\w.length=i/\QI u q i/\i<=q.length/\1<=q.length/\st.V 0 = .sl 5 (u.map nd)/\st.V 2 = .ptr 0 none 0 0 0/\st.V 3 = .ptr 1 none 0 0 0/\st.V 4 = .ref oq none eq 0 q.length/\st.V 5=iv nxt/\st.V 6=iv i/\1<oq/\oq<st.nx/\st.S oq=some (.row 1 (zab q))/\((w=[]/\x = .e0)\/∃ ow ew,ow≠oq/\1<ow/\ow<st.nx/\x = .ref ow none ew 0 w.length/\st.S ow=some (.row 5 (w.map nd)))/\st.S 0=some (.box [.e0])/\st.S 1=some (.box [x])) ?_ u.length _ ⟨0,2,0,[0],[],.e0,1,by simp,rfl,⟨by simp,by simp; omega,by simp⟩,by simp,by simp,by simp,by simp,by simp,by simp,by simp,by simp,by simp,by simp,by simp [zab],.inl ⟨rfl,rfl⟩,by simp⟩;rintro n st ⟨i,oq,eq,q,w,x,nxt,hi,hw,hq,hiq,hq1,v0,v2,v3,v4,v5,v6,ho,hox,hSo,hx,hS,hS1⟩;have hlen:=hq.len;simp [yfa,v4,v6,hSo];obtain ⟨f1,f2,f3,f4⟩:=fr hox;obtain ⟨g1,g2,g3,g4⟩:=fr (show 0<oq by omega);obtain ⟨z1,z2,z3,z4⟩:=fr (show 0<st.nx by omega);obtain ⟨y1,y2,y3,y4⟩:=fr (show 1<oq by omega);obtain ⟨x1,x2,x3,x4⟩:=fr (show 1<st.nx by omega);have Z0:=bI f1 <| bI f2 <| bI f3 <| bI f4 <| bI g1 <| bI g2 <| bI g3 <| bI g4 <| bI z1 <| bI z2 <| bI z3 <| bI z4 <| bI y1 <| bI y2 <| bI y3 <| bI y4 <| bI x1 <| bI x2 <| bI x3 x4
 refine zat (fun h => ?_) (fun h => ?_)
 ·simp at h;obtain ⟨z,hz⟩ : ∃ z,q[i]?=some z:=⟨_,bG h⟩;obtain ⟨hz0,hz1⟩:=hq.rg z (bF hz);obtain ⟨zn,rfl⟩ : ∃ k:Nat,z=k:=⟨z.toNat,by omega⟩;obtain ⟨m,hm⟩ : ∃ m,u[zn]?=some m:=⟨_,bG (by omega)⟩;have hz':=zax hz;have hm':=zya hm;have hws:=wS h (by omega:q.length<=9223372036854775807);have hr1:=zbv (n:=q.length+2) (by omega);have hr2:zag 40 (w.length+1)=true:=by simp [zag]; omega
  have hr3:zag 40 1=true:=by decide
  have hQ:m.f ≠ -1->QI u (q++[m.l,m.r]) (i+1):=fun hf=>hq.step hg hz (by simpa using hm) hf;have hints:zab q++[[iv m.l],[iv m.r]]=zab (q++[m.l,m.r]):=by simp [zab]
  have hn1:=zp5 w m;have hn2:=zp5 w ⟨m.f,m.c,nxt,IntKind.i64.wrap (nxt+1),m.v⟩;simp only at hn2;rcases Classical.propComplete (m.f = -1) with hf | hf
  ·rcases hx with ⟨rfl,rfl⟩ | ⟨ow,ew,how,ho1,ho2,rfl,hSw⟩
   ·simp [-getElem?_pos,v0,v2,v3,v4,v5,v6,hS,hS1,hSo,hz',hm',hf,hws,h,hr3,Z0];refine zah (n-1) (by omega) ⟨i+1,oq,eq,q,[m],_,nxt,by omega,by simp at hw; simp; omega,hq.skip,by omega,by omega,by simp [v0],by simp [v2],by simp [v3],by simp [v4],by simp [v5],by simp,ho,by simp; omega,by simp [Z0,hSo],.inr ⟨st.nx+2,st.ep,by omega,by omega,by simp,rfl,by simp [nd]⟩,by simp [Z0,hS]⟩
   ·obtain ⟨b1,b2,b3,b4⟩:=fr ho2;obtain ⟨c1,c2,c3,c4⟩:=fr ho1;obtain ⟨d1,d2,d3,d4⟩:=fr (show 0<ow by omega);have k1:(ow=oq)=False:=eq_false how;have k2:(oq=ow)=False:=eq_false (fun e=>how e.symm);obtain ⟨_,_,k3,k4⟩:=fr (show ow<st.nx+1 by omega);obtain ⟨_,_,k5,k6⟩:=fr (show ow<st.nx+2 by omega);simp [-getElem?_pos,v0,v2,v3,v4,v5,v6,hS,hS1,hSo,hSw,hz',hm',hf,hws,h,hr2,hn1,Z0,b1,b2,b3,b4,c1,c2,c3,c4,d1,d2,d3,d4,k1,k2,k3,k4,k5,k6];refine zah (n-1) (by omega) ⟨i+1,oq,eq,q,w++[m],_,nxt,by omega,by simp; omega,hq.skip,by omega,by omega,by simp [v0],by simp [v2],by simp [v3],by simp [v4],by simp [v5],by simp,ho,by simp; omega,by simp [Z0,b1,b2,b3,b4,c1,c2,c3,c4,d1,d2,d3,d4,k1,k2,k3,k4,k5,k6,hSo],.inr ⟨st.nx+2,st.ep,by omega,by omega,by simp,by simp; rfl,by simp⟩,by simp [Z0,b1,b2,b3,b4,c1,c2,c3,c4,d1,d2,d3,d4,k1,k2,k3,k4,k5,k6,hS]⟩
  ·have hQ:=hQ (by rw [ne_eq,hf]; exact id);rcases hx with ⟨rfl,rfl⟩ | ⟨ow,ew,how,ho1,ho2,rfl,hSw⟩
   ·simp [-getElem?_pos,v0,v2,v3,v4,v5,v6,hS,hS1,hSo,hz',hm',hf,hws,h,hr1,hr3,hints,Z0];refine zah (n-1) (by omega) ⟨i+1,st.nx+2,st.ep,q++[m.l,m.r],[⟨m.f,m.c,nxt,IntKind.i64.wrap (nxt+1),m.v⟩],_,_,by omega,by simp at hw; simp; omega,hQ,by simp; omega,by simp,by simp [v0],by simp [v2],by simp [v3],by simp,by simp; rfl,by simp,by omega,by simp,by simp [Z0],.inr ⟨st.nx+2+2,st.ep,by omega,by omega,by simp,rfl,by simp [nd]⟩,by simp [Z0,hS]⟩
   ·obtain ⟨b1,b2,b3,b4⟩:=fr ho2;obtain ⟨c1,c2,c3,c4⟩:=fr ho1;obtain ⟨d1,d2,d3,d4⟩:=fr (show 0<ow by omega);have k1:(ow=oq)=False:=eq_false how;have k2:(oq=ow)=False:=eq_false (fun e=>how e.symm);obtain ⟨_,_,k3,k4⟩:=fr (show ow<st.nx+1 by omega);obtain ⟨_,_,k5,k6⟩:=fr (show ow<st.nx+2 by omega);simp [-getElem?_pos,v0,v2,v3,v4,v5,v6,hS,hS1,hSo,hSw,hz',hm',hf,hws,h,hr1,hr2,hints,hn2,Z0,b1,b2,b3,b4,c1,c2,c3,c4,d1,d2,d3,d4,k1,k2,k3,k4,k5,k6];refine zah (n-1) (by omega) ⟨i+1,st.nx+2,st.ep,q++[m.l,m.r],w++[⟨m.f,m.c,nxt,IntKind.i64.wrap (nxt+1),m.v⟩],_,_,by omega,by simp; omega,hQ,by simp; omega,by simp,by simp [v0],by simp [v2],by simp [v3],by simp,by simp; rfl,by simp,by omega,by simp,by simp [Z0,b1,b2,b3,b4,c1,c2,c3,c4,d1,d2,d3,d4,k1,k2,k3,k4,k5,k6],.inr ⟨st.nx+2+2,st.ep,by omega,by omega,by simp,by simp; rfl,by simp⟩,by simp [Z0,b1,b2,b3,b4,c1,c2,c3,c4,d1,d2,d3,d4,k1,k2,k3,k4,k5,k6,hS]⟩
 ·simp at h;have e1:i=q.length:=by omega
  rcases hx with ⟨rfl,rfl⟩ | ⟨ow,ew,how,ho1,ho2,rfl,hSw⟩
  ·simp at hw; omega
  ·obtain ⟨b1,b2,b3,b4⟩:=fr ho2;obtain ⟨c1,c2,c3,c4⟩:=fr ho1;obtain ⟨d1,d2,d3,d4⟩:=fr (show 0<ow by omega);simp [-getElem?_pos,v2,v3,hS,hS1,hSw,b1,b2,b3,b4,c1,c2,c3,c4,d1,d2,d3,d4];exact ⟨w,by omega,rfl⟩
def zjv (t:List Nd) (k:Nat) (f c a b:Int):List Nd:=t.set k ⟨f,c,t.length,t.length+1,0⟩++[⟨-1,0,0,0,a⟩,⟨-1,0,0,0,b⟩]
theorem z89 {t:List Nd} {k:Nat} {f c a b:Int}:(zjv t k f c a b).length=t.length+2:=by simp [zjv]
theorem ya1 {t:List Nd} {F:Int} (hs:Shaped t F) {k:Nat} (hk:k<t.length) {f c a b:Int} {j:Nat} {n:Nd} (h:(zjv t k f c a b)[j]?=some n) (hf:n.f ≠ -1):(j≠k/\j<t.length/\t[j]?=some n/\ycu F n j 1 t.length)\/(j=k/\n.l=t.length/\n.r=t.length+1):=by
 unfold zjv at h;rcases Nat.lt_or_ge j t.length with hj | hj
 ·rw [List.getElem?_append_left (by simpa using hj),List.getElem?_set] at h
  by_cases e:k=j
  ·subst e;rw [if_pos rfl,if_pos hk] at h;cases h;exact .inr ⟨rfl,rfl,rfl⟩
  ·rw [if_neg e] at h;exact .inl ⟨fun e'=>e e'.symm,hj,h,hs.inner j n h hf⟩
 ·rw [List.getElem?_append_right (by simpa using hj)] at h;simp only [List.length_set] at h;have:j-t.length=0\/j-t.length=1\/2<=j-t.length:=by omega
  rcases this with e | e | e
  ·rw [e] at h; simp at h; subst h; exact (hf rfl).elim
  ·rw [e] at h; simp at h; subst h; exact (hf rfl).elim
  ·rw [List.getElem?_eq_none (by simpa using e)] at h; cases h
theorem qd2 {t:List Nd} {F:Int} (hs:Shaped t F) {k:Nat} (hk:k<t.length) {f c a b:Int}:ya5 (zjv t k f c a b):=by
 intro j n h hf;rw [z89];rcases ya1 hs hk h hf with ⟨e,hj,ht,hi⟩ | ⟨rfl,hl,hr⟩
 ·have i1:=hi.lo;have i2:=hi.r;have i3:=hi.hi;refine ⟨by omega,by push_cast; omega,by omega,by push_cast; omega,by omega,fun j' n' h' hf' hc => ?_⟩;rcases ya1 hs hk h' hf' with ⟨e',hj',ht',hi'⟩ | ⟨rfl,hl',hr'⟩
  ·have i1':=hi'.r;rcases Nat.lt_trichotomy j j' with c | c | c
   ·have:=hs.ord j j' n n' c ht ht' hf hf'; omega
   ·exact c
   ·have:=hs.ord j' j n' n c ht' ht hf' hf; omega
  ·omega
 ·refine ⟨by omega,by push_cast; omega,by omega,by push_cast; omega,by omega,fun j' n' h' hf' hc => ?_⟩;rcases ya1 hs hk h' hf' with ⟨e',hj',ht',hi'⟩ | ⟨rfl,hl',hr'⟩
  ·have i2:=hi'.r;have i3:=hi'.hi;omega
  ·rfl
theorem ymz (l:List Nd):zcf (l.map nd)=true:=by simp [zcf,nd]
theorem y7o (t:List Nd) (F:Int) (hs:Shaped t F) (hl:t.length<=31) (k:Nat) (hk:k<t.length) (f c l r v a b:Int) : ∃ r',RUN T zsd [.agg [.sl 5 (t.map nd)],iv k,.agg [iv f,iv c,iv l,iv r,iv v],iv a,iv b]=some r'/\GL (t.length+2) r':=by
 refine zeu rfl rfl ?_;have h1:=hs.pos;obtain ⟨rr,hr,w,hw,rfl⟩:=y7n (zjv t k f c a b) (qd2 hs hk) (by rw [z89]; omega) (by rw [z89]; omega);rw [z89] at hw;have hw1:=w64 (x:=(t.length:Int)+1) (by omega) (by omega);have hr1:zag 40 t.length=true:=by simp [zag]; omega
 have hr2:zag 40 (t.length+2)=true:=by simp [zag]; omega
 have hr3:zag 40 2=true:=by decide
 have hr0:zag 40 0=true:=by decide
 have hg:(t.map nd).set k [iv f,iv c,iv t.length,iv (t.length+1),iv 0]++[[iv (-1),iv 0,iv 0,iv 0,iv a],[iv (-1),iv 0,iv 0,iv 0,iv b]]=(zjv t k f c a b).map nd:=by
  unfold zjv;rw [List.map_append,List.map_set];rfl
 obtain ⟨x,hx⟩ : ∃ x,t[k]?=some x:=⟨_,bG hk⟩;have hnd : ∀ y:Nd,(nd y).length=5:=fun y=>rfl;have hnx : ∀ y:Nd,nd y=[iv y.f,iv y.c,iv y.l,iv y.r,iv y.v]:=fun y=>rfl;have hset : ∀ y:List PV,((t.map nd).set k y).length=t.length:=by simp
 simp [-getElem?_pos,z3x,z3y,hk,hw1,hr0,hr1,hr2,hr3,hg,hr,hset,ymz,hx,hnd,hnx];exact ⟨w,hw,rfl⟩
def PT (N:Nat) (v:PV):Prop := ∃ t:List Nd,v = .agg [.own 5 (t.map nd)]/\t.length<=N
def PT1 (N:Nat) (v:PV):Prop := ∃ t:List Nd,v = .agg [.own 5 (t.map nd)]/\1<=t.length/\t.length<=N
theorem yuf : ∀ (t:List Nd) (i y:Int),y∈lvs t i->i<=y/\y<i+t.length
 | [],i,y,h=>by simp [lvs] at h
 | x::xs,i,y,h=>by
  simp only [lvs] at h;have ih:=fun h=>yuf xs (i+1) y h;simp only [List.length_cons];split at h
  ·rcases List.mem_cons.mp h with h | h
   ·omega
   ·have:=ih h; omega
  ·have:=ih h; omega
theorem ysu : ∀ (t:List Nd) (i:Int) (j:Nat) (x:Nd),t[j]?=some x->x.f = -1->0<(lvs t i).length
 | [],_,_,_,h,_=>by simp at h
 | y::ys,i,j,x,h,hf=>by
  simp only [lvs];split
  ·simp
  ·rename_i hy;cases j with
   | zero=>simp at h; subst h; exact (hy hf).elim
   | succ j=>exact ysu ys (i+1) j x (by simpa using h) hf
theorem Shaped.leaves {t:List Nd} {F:Int} (h:Shaped t F):0<(lvs t 0).length:=by
 have hp:=h.pos;have hx:=bG (l:=t) (show t.length-1<t.length by omega);generalize t[t.length-1]'(by omega)=x at hx
 by_cases hf:x.f = -1
 ·exact ysu t 0 _ x hx hf
 ·have h1:=h.inner _ x hx hf;have:=h1.lt;have:=h1.r;have:=h1.hi;omega
theorem qdy {v:Int} (F:Int) (h:zeb v=true):Shaped [zyk v] F:=by
 refine ⟨fun j x hx hf => ?_,fun j x hx hf => ?_,fun j j' x y hj hx hy hf => ?_,fun k h1 h2 => ?_,by simp⟩
 ·cases j with
  | zero=>simp at hx; subst hx; exact ⟨rfl,rfl,rfl,h⟩
  | succ j=>simp at hx
 ·cases j with
  | zero=>simp at hx; subst hx; exact (hf rfl).elim
  | succ j=>simp at hx
 ·cases j with
  | zero=>simp at hx; subst hx; exact (hf rfl).elim
  | succ j=>simp at hx
 ·simp at h2; omega
theorem y7p (B:List Int) (p:Nat) (s:Int) (hp:p<=B.length) (hB:B.length<=9223372036854775807) (F:Int) (hF:F<=9223372036854775807) : ∃ r,RUN T zri [.bx [.sl 1 (zbl B),iv p,iv s],iv F]=some r/\zfk B (PT1 31) r:=by
 refine zeu rfl rfl ?_;obtain ⟨r1,h1,v1,p1,s1,⟨a1,rfl,a10,a11⟩,hp1,rfl⟩:=za9 B p s hp hB 21 (by omega);have a12:=a11 (by omega);have w1:=w64 (x:=a1-10) (by omega) (by omega);have w2:=w64 (x:=50*(a1-10)) (by omega) (by omega);have h2:=y68 (50*(a1-10));obtain ⟨r3,h3,v3,p3,s3,⟨a3,rfl,a30,a31⟩,hp3,rfl⟩:=za9 B p1 s1 hp1 hB 6 (by omega);have a32:=a31 (by omega);obtain ⟨kn,rfl⟩ : ∃ n:Nat,a3=n:=⟨a3.toNat,by omega⟩;have hsh:Shaped [zyk (50*(a1-10))] F:=qdy F (zay.mpr (by omega));generalize hlv:50*(a1-10)=lv at *;simp [-getElem?_pos,z1c,z1d,h1,w1,w2,hlv,h2,h3];refine zan (fun n st => ∃ (i p ot et:Nat) (s:Int) (t:List Nd),i+n=kn/\p<=B.length/\Shaped t F/\t.length<=31/\st.V 0 = .ptr 0 none 0 0 0/\st.V 1=iv F/\st.V 4 = .ptr 1 none 0 0 0/\st.V 5 = .ptr 3 none 0 0 0/\st.V 6=iv kn/\st.V 7=iv i/\1<ot/\ot≠3/\ot<st.nx/\3<st.nx/\st.S 0=some (.box [.sl 1 (zbl B),iv p,iv s])/\st.S 1=some (.box [.e0])/\st.S 3=some (.box [.ref ot none et 0 t.length])/\st.S ot=some (.row 5 (t.map nd))) ?_ kn _ ⟨0,p3,2,0,s3,[zyk lv],by simp,hp3,hsh,by simp⟩;clear h1 h2 h3 hsh;rintro n st ⟨i,p,ot,et,s,t,hi,hp,hsh,hl,v0,v1,v4,v5,v6,v7,ho,ho3,hox,hnx,hS,hS1,hS3,hSo⟩;obtain ⟨f1,f2,f3,f4⟩:=fr hox;obtain ⟨g1,g2,g3,g4⟩:=fr (show 0<ot by omega);obtain ⟨z1,z2,z3,z4⟩:=fr (show 0<st.nx by omega);obtain ⟨y1,y2,y3,y4⟩:=fr (show 1<ot by omega);obtain ⟨x1,x2,x3,x4⟩:=fr (show 1<st.nx by omega);obtain ⟨u1,u2,u3,u4⟩:=fr (show 3<st.nx by omega);have k1:(ot=3)=False:=eq_false ho3
 have k2:(3=ot)=False:=eq_false (fun e=>ho3 e.symm);simp [yes,v6,v7];refine zat (fun h => ?_) (fun h => ?_)
 ·simp at h;have hw:=w64 (x:=(i:Int)+1) (by omega) (by omega);have e1:=y6j t (by omega);have hlv:=hsh.leaves;have hll:=zyq t 0;obtain ⟨r2,e2,v2,p2,s2,⟨a2,rfl,a20,a21⟩,hp2,rfl⟩:=za9 B p s hp hB (lvs t 0).length (by omega);obtain ⟨j,rfl⟩ : ∃ n:Nat,a2=n:=⟨a2.toNat,by omega⟩;have hj:j<(lvs t 0).length:=by have:=a21 (by omega); omega
  obtain ⟨y,hy⟩ : ∃ y,(lvs t 0)[j]?=some y:=⟨_,bG hj⟩;have hy':=zax hy;obtain ⟨b0,b1⟩:=yuf t 0 y (bF hy);obtain ⟨k,rfl⟩ : ∃ n:Nat,y=n:=⟨y.toNat,by omega⟩;obtain ⟨r3,e3,v3,p3,s3,⟨a3,rfl,a30,a31⟩,hp3,rfl⟩:=za9 B p2 s2 hp2 hB F hF;obtain ⟨r4,e4,v4',p4,s4,⟨a4,rfl,a40,a41⟩,hp4,rfl⟩:=za9 B p3 s3 hp3 hB 9 (by omega);obtain ⟨r5,e5,v5',p5,s5,⟨a5,rfl,a50,a51⟩,hp5,rfl⟩:=za9 B p4 s4 hp4 hB 2001 (by omega);obtain ⟨r6,e6,v6',p6,s6,⟨a6,rfl,a60,a61⟩,hp6,rfl⟩:=za9 B p5 s5 hp5 hB 2001 (by omega);have a42:=a41 (by omega);have a52:=a51 (by omega);have a62:=a61 (by omega);have w4:=w64 (x:=a4-4) (by omega) (by omega);have w4':=w64 (x:=500*(a4-4)) (by omega) (by omega);have w5:=w64 (x:=a5-1000) (by omega) (by omega);have w6:=w64 (x:=a6-1000) (by omega) (by omega);obtain ⟨r7,e7,w,hw7,rfl⟩:=y7o t F hsh hl k (by omega) a3 (500*(a4-4)) 0 0 0 (a5-1000) (a6-1000);have e8:=y60 w F (by omega);cases hb:z8u w F with
  | true =>
   rw [hb] at e8;simp [-getElem?_pos,v0,v1,v4,v5,v6,v7,hS,hS1,hS3,hSo,e1,e2,hy',hj,e3,e4,e5,e6,w4,w4',w5,w6,e7,e8,hw,f1,f2,f3,f4,g1,g2,g3,g4,z1,z2,z3,z4,y1,y2,y3,y4,x1,x2,x3,x4,u1,u2,u3,u4,k1,k2];unfold z8u at hb;simp only [Bool.and_eq_true] at hb;have hwl:=zay.mp hb.1.1.1.2;exact zah (n-1) (by omega) ⟨i+1,p6,st.nx+1,st.ep,s6,w,by omega,hp6,yuh hb.1.1.2,by omega,by simp [v0],by simp [v1],by simp [v4],by simp [v5],by simp [v6],by simp,by omega,by omega,by simp,by simp; omega,by simp [f1,f2,f3,f4,g1,g2,g3,g4,z1,z2,z3,z4,y1,y2,y3,y4,x1,x2,x3,x4,u1,u2,u3,u4,k1,k2,hS1]⟩
  | false =>
   rw [hb] at e8;simp [-getElem?_pos,v0,v1,v4,v5,v6,v7,hS,hS1,hS3,hSo,e1,e2,hy',hj,e3,e4,e5,e6,w4,w4',w5,w6,e7,e8,hw,f1,f2,f3,f4,g1,g2,g3,g4,z1,z2,z3,z4,y1,y2,y3,y4,x1,x2,x3,x4,u1,u2,u3,u4,k1,k2];exact zah (n-1) (by omega) ⟨i+1,p6,ot,et,s6,t,by omega,hp6,hsh,hl,by simp [v0],by simp [v1],by simp [v4],by simp [v5],by simp [v6],by simp,ho,ho3,by simp; omega,by simp; omega,by simp [f1,f2,f3,f4,g1,g2,g3,g4,z1,z2,z3,z4,y1,y2,y3,y4,x1,x2,x3,x4,u1,u2,u3,u4,k1,k2,hS1,hS3,hSo]⟩
 ·simp at h;have ho1:1<=ot:=by omega
  simp [-getElem?_pos,v0,v4,v5,ho1,hS,hS1,hS3,hSo,f1,f2,f3,f4,g1,g2,g3,g4,z1,z2,z3,z4,y1,y2,y3,y4,x1,x2,x3,x4,u1,u2,u3,u4,k1,k2];exact ⟨_,p,s,⟨t,rfl,hsh.pos,hl⟩,hp,rfl⟩
theorem zmy (t:List Nd) (k:Nat) (f c l r v:Int):(t.map nd).set k [iv f,iv c,iv l,iv r,iv v]=(t.set k ⟨f,c,l,r,v⟩).map nd:=by
 rw [List.map_set]; rfl
theorem y7q (B:List Int) (p:Nat) (s:Int) (hp:p<=B.length) (hB:B.length<=9223372036854775807) : ∃ r,RUN T zqo [.bx [.sl 1 (zbl B),iv p,iv s]]=some r/\zfk B (PT 32) r:=by
 refine zeu rfl rfl ?_;obtain ⟨r1,h1,v1,p1,s1,⟨a1,rfl,a10,a11⟩,hp1,rfl⟩:=za9 B p s hp hB 3 (by omega);have a12:=a11 (by omega);have w1:=w64 (x:=1+a1) (by omega) (by omega);obtain ⟨r2,h2,v2,p2,s2,⟨t,rfl,ht1,ht⟩,hp2,rfl⟩:=y7p B p1 s1 hp1 hB (1+a1) (by omega);obtain ⟨r3,h3,v3,p3,s3,⟨a3,rfl,a30,a31⟩,hp3,rfl⟩:=za9 B p2 s2 hp2 hB t.length (by omega);have a32:=a31 (by omega);obtain ⟨k,rfl⟩ : ∃ n:Nat,a3=n:=⟨a3.toNat,by omega⟩;have hk:k<t.length:=by omega
 obtain ⟨r4,h4,v4,p4,s4,⟨a4,rfl,a40,a41⟩,hp4,rfl⟩:=za9 B p3 s3 hp3 hB 14 (by omega);have Z0:=bI h1 <| bI w1 <| bI h2 <| bI h3 h4
 obtain ⟨x,hx⟩ : ∃ x,t[k]?=some x:=⟨_,bG hk⟩;have hnd : ∀ y:Nd,nd y=[iv y.f,iv y.c,iv y.l,iv y.r,iv y.v]:=fun y=>rfl;have hr5:zag 8 5=true:=by decide
 have hr6:zag 8 6=true:=by decide
 have hr1:zag 40 1=true:=by decide
 have hrt:zag 40 (t.length+1)=true:=by simp [zag]; omega
 by_cases c0:a4=0
 ·obtain ⟨r5,h5,v5,p5,s5,⟨y,rfl,hy⟩,hp5,rfl⟩:=zfr B p4 s4 hp4 hB [-1,0,1,4,-2,9223372036854775807] (by simp);simp only [zab,List.map] at h5;simp [-getElem?_pos,zhz,zh0,Z0,c0,h5,hr5,hr6,hk,hx,hnd];exact ⟨_,p5,s5,⟨t.set k ⟨y,x.c,x.l,x.r,x.v⟩,by rw [<- zmy],by simp; omega⟩,hp5,rfl⟩
 by_cases c1:a4=1
 ·obtain ⟨r5,h5,v5,p5,s5,⟨y,rfl,hy⟩,hp5,rfl⟩:=zfr B p4 s4 hp4 hB [0,1,2147483648,-2147483648,500] (by simp);simp only [zab,List.map] at h5;simp [-getElem?_pos,zhz,zh0,Z0,c0,c1,h5,hr5,hr6,hk,hx,hnd];exact ⟨_,p5,s5,⟨t.set k ⟨x.f,y,x.l,x.r,x.v⟩,by rw [<- zmy],by simp; omega⟩,hp5,rfl⟩
 by_cases c2:a4=2
 ·obtain ⟨r5,h5,v5,p5,s5,⟨y,rfl,hy⟩,hp5,rfl⟩:=zfr B p4 s4 hp4 hB [0,1,2,-1,40,(k:Int)] (by simp);simp only [zab,List.map] at h5;simp [-getElem?_pos,zhz,zh0,Z0,c0,c1,c2,h5,hr5,hr6,hk,hx,hnd];exact ⟨_,p5,s5,⟨t.set k ⟨x.f,x.c,y,x.r,x.v⟩,by rw [<- zmy],by simp; omega⟩,hp5,rfl⟩
 by_cases c3:a4=3
 ·obtain ⟨r5,h5,v5,p5,s5,⟨y,rfl,hy⟩,hp5,rfl⟩:=zfr B p4 s4 hp4 hB [0,1,2,-1,40,(k:Int)] (by simp);simp only [zab,List.map] at h5;simp [-getElem?_pos,zhz,zh0,Z0,c0,c1,c2,c3,h5,hr5,hr6,hk,hx,hnd];exact ⟨_,p5,s5,⟨t.set k ⟨x.f,x.c,x.l,y,x.v⟩,by rw [<- zmy],by simp; omega⟩,hp5,rfl⟩
 by_cases c4:a4=4
 ·obtain ⟨r5,h5,v5,p5,s5,⟨y,rfl,hy⟩,hp5,rfl⟩:=zfr B p4 s4 hp4 hB [0,1,1099511627776,1099511627777,-1099511627777] (by simp);simp only [zab,List.map] at h5;simp [-getElem?_pos,zhz,zh0,Z0,c0,c1,c2,c3,c4,h5,hr5,hr6,hk,hx,hnd];exact ⟨_,p5,s5,⟨t.set k ⟨x.f,x.c,x.l,x.r,y⟩,by rw [<- zmy],by simp; omega⟩,hp5,rfl⟩
 by_cases c5:a4=5
 ·have e:=zp5 t ⟨-1,0,0,0,0⟩;simp only at e;simp [-getElem?_pos,zhz,zh0,Z0,c0,c1,c2,c3,c4,c5,hr1,hrt];exact ⟨_,p4,s4,⟨t++[⟨-1,0,0,0,0⟩],by rw [<- e],by simp; omega⟩,hp4,rfl⟩
 by_cases c6:a4=6
 ·have hk':k<=t.length:=by omega
  have hkn : ¬ k=t.length:=by omega
  simp [-getElem?_pos,hk',hkn,zhz,zh0,Z0,c0,c1,c2,c3,c4,c5,c6];exact ⟨_,p4,s4,⟨t.take k,by rw [List.map_take],by simp; omega⟩,hp4,rfl⟩
 ·simp [-getElem?_pos,zhz,zh0,Z0,c0,c1,c2,c3,c4,c5,c6];exact ⟨_,p4,s4,⟨t,rfl,by omega⟩,hp4,rfl⟩
theorem y7r (l:List Int) (hl:l.length<=9223372036854775807):RUN T zqe [.sl 1 (zab l),.sl 1 (zab l)]=some ([bv true],[]):=by
 refine zae rfl rfl ?_;simp [zzj,zvr];refine zan (fun n st => ∃ i:Nat,i+n=l.length/\st.V 0 = .sl 1 (zab l)/\st.V 1 = .sl 1 (zab l)/\st.V 5=iv i) ?_ l.length _ ⟨0,by simp⟩;rintro n st ⟨i,hi,v0,v1,v5⟩;simp [yee,v0,v5];refine zat (fun h => ?_) (fun h => ?_)
 ·simp at h;obtain ⟨x,hx⟩ : ∃ x,l[i]?=some x:=⟨_,bG h⟩;have hx':=zax hx;have hw:=wS h hl;simp [-getElem?_pos,v0,v1,v5,h,hx',hw];exact zah (n-1) (by omega) ⟨i+1,by omega,by simp [v0,v1]⟩
 ·simp
theorem qib (l:List ByteArray) (i:Nat) (s:ByteArray):(za5 l).set i [.v (.string s)]=za5 (l.set i s):=by simp [za5]
def qcy (B:List Int) (l:List ByteArray) (r:List PV×List PV):Prop := ∃ (x:ByteArray) (p:Nat) (s:Int),x∈l/\p<=B.length/\r=([.v (.string x)],[.bx [.sl 1 (zbl B),iv p,iv s],.own 1 (za5 l)])
theorem ylk (B:List Int) (p:Nat) (s:Int) (hp:p<=B.length) (hB:B.length<=9223372036854775807) (l:List ByteArray) (hl:0<l.length/\l.length<=9223372036854775807) : ∃ r,RUN T znt [.bx [.sl 1 (zbl B),iv p,iv s],.own 1 (za5 l)]=some r/\qcy B l r:=by
 refine zeu rfl rfl ?_;obtain ⟨r1,h1,v1,p1,s1,⟨a1,rfl,a10,a11⟩,hp1,rfl⟩:=za9 B p s hp hB l.length (by omega);obtain ⟨i,rfl⟩ : ∃ i:Nat,a1=i:=⟨a1.toNat,by omega⟩;have hi:i<l.length:=by have:=a11 (by omega); omega
 obtain ⟨x,hx⟩ : ∃ x,l[i]?=some x:=⟨_,bG hi⟩;have hx':=zvi hx;simp [-getElem?_pos,z3r,zvr,h1,hx',hi];exact ⟨x,p1,s1,bF hx,hp1,rfl⟩
theorem ymg (l:List ByteArray):zcf (za5 l)=true:=by simp [zcf,za5]
theorem yuc (M:List (List Nd)) (t:List Nd):trs true M++[[.own 5 (t.map nd)]]=trs true (M++[t]):=by simp [trs,zi1]
theorem zml (L:List (List Int)) (r:List Int):rws true L++[[.own 1 (zab r)]]=rws true (L++[r]):=by simp [rws,cel]
theorem zpv (L:List (List Int)) (i:Nat) (r:List Int):(rws true L).set i [.own 1 (zab r)]=rws true (L.set i r):=by simp [rws,cel]
def pos (x:Int) (l:List Int):Nat->Nat
 | 0=>0
 | k+1=>if x<l.getD k 0 then pos x l k else k+1
def ins (l:List Int) (x:Int):List Int:=l.take (pos x l l.length)++x::l.drop (pos x l l.length)
def zd7 (l:List Int):List Int:=l.foldl ins []
theorem ya9 (x:Int) (l:List Int) : ∀ k,pos x l k<=k
 | 0=>by simp [pos]
 | k+1=>by
  have:=ya9 x l k;simp only [pos]; split <;> omega
theorem qc6 (l:List Int) (x:Int):(ins l x).length=l.length+1:=by
 have:=ya9 x l l.length;unfold ins;simp; omega
theorem qh4 {l:List Int} {i:Nat} {x:Int} (h:l[i]?=some x):(l.take (i+1)).foldl ins []=ins ((l.take i).foldl ins []) x:=by
 rw [List.take_succ,h];simp [List.foldl_append]
theorem qg2 (l:List Int) : ∀ a:List Int,(l.foldl ins a).length=a.length+l.length:=by
 induction l with
 | nil=>intro a; rfl
 | cons x l ih=>intro a; simp only [List.foldl_cons,ih,qc6,List.length_cons]; omega
theorem qbs (a:List Int) (p:Nat):List.take (a.length-p) (List.drop p (zab a))=zab (a.drop p):=by
 rw [List.take_of_length_le (by simp)];simp [zab,List.map_drop]
theorem qdq (a:List Int) (p:Nat) (h:p<=a.length):(if p=a.length then zab a else List.take p (zab a))=zab (a.take p):=by
 split
 ·rename_i e; subst e; rw [List.take_length]
 ·simp [zab,List.map_take]
theorem ybv (x:Int) (l:List Int) (k:Nat):pos x l (k+1)=if x<l.getD k 0 then pos x l k else k+1:=rfl
def zef (x:Int) (l:List Int) (k P:Nat):Prop:=pos x l k=P
theorem zef.on {x y:Int} {l:List Int} {k P:Nat} (h:zef x l (k+1) P) (hy:l[k]?=some y) (hc:x<y):zef x l k P:=by
 unfold zef at *;rw [ybv] at h;simp only [List.getD,hy,Option.getD_some,if_pos hc] at h;exact h
theorem zef.off {x y:Int} {l:List Int} {k P:Nat} (h:zef x l (k+1) P) (hy:l[k]?=some y) (hc : ¬ x<y):k+1=P:=by
 unfold zef at *;rw [ybv] at h;simp only [List.getD,hy,Option.getD_some,if_neg hc] at h;exact h
theorem zef.ex (x:Int) (l:List Int) (k:Nat) : ∃ P,zef x l k P:=⟨_,rfl⟩
theorem zef.z {x:Int} {l:List Int} {P:Nat} (h:zef x l 0 P):0=P:=h
theorem z9h {x:Int} {l:List Int} {P:Nat} (h:zef x l l.length P):ins l x=l.take P++x::l.drop P:=by unfold zef at h; unfold ins; rw [h]
attribute [irreducible] pos ins zef
theorem yll (l:List Int) (hl:l.length<=1048576):RUN T znv [.sl 1 (zab l)]=some ([.own 1 (zab (zd7 l))],[]):=by
 refine zae rfl rfl ?_;have hr0:zag 8 0=true:=by decide
 simp [-getElem?_pos,z34,zzy,hr0];refine zan (fun n st => ∃ (i o e:Nat) (a:List Int),i+n=l.length/\a=(l.take i).foldl ins []/\a.length=i/\st.V 0 = .sl 1 (zab l)/\st.V 3 = .ref o none e 0 a.length/\st.V 4=iv i/\o<st.nx/\st.S o=some (.row 1 (zab a))) ?_ l.length _ ⟨0,0,0,[],by simp [zab]⟩;rintro n st ⟨i,o,e,a,hi,ha,hal,v0,v3,v4,hox,hSo⟩;simp [ye4,v0,v4];obtain ⟨f1,f2,f3,f4⟩:=fr hox;refine zat (fun h => ?_) (fun h => ?_)
 ·simp at h;obtain ⟨x,hx⟩ : ∃ x,l[i]?=some x:=⟨_,bG h⟩;have hx':=zax hx;have hws:=wS h (by omega:l.length<=9223372036854775807);have hft:=qh4 hx;rw [<- ha] at hft;obtain ⟨P,hP⟩ : ∃ P,zef x a a.length P:=zef.ex x a a.length;simp [-getElem?_pos,v0,v3,v4,hSo];refine zan (fun n' s => ∃ j:Nat,n'=j/\j<=a.length/\zef x a j P/\s.V 0 = .sl 1 (zab l)/\s.V 3 = .ref o none e 0 a.length/\s.V 4=iv i/\s.V 5=iv j/\s.nx=st.nx/\s.S o=some (.row 1 (zab a))) ?_ a.length _ ⟨a.length,by omega,by omega,hP,by simp [v0,v3,v4,hSo]⟩;rintro n' s ⟨j,hjn,hj,hp,u0,u3,u4,u5,unx,hSo'⟩;clear v0 v3 v4 hSo;obtain ⟨g1,g2,g3,g4⟩:=fr (show o<s.nx by omega);obtain ⟨_,_,g5,g6⟩:=fr (show o<s.nx+1 by omega);obtain ⟨_,_,g7,g8⟩:=fr (show o<s.nx+2 by omega);have hcr : ∀ c:Nat,c<=a.length+1->zag 8 c=true:=fun c hc=>zbv (by omega);have hr1:zag 8 1=true:=by decide
  by_cases h0:0<j
  ·obtain ⟨q,rfl⟩ : ∃ q:Nat,j=q+1:=⟨j-1,by omega⟩;have hw:=w64 (x:=(q:Int)) (by omega) (by omega);obtain ⟨y,hy⟩ : ∃ y,a[q]?=some y:=⟨_,bG (by omega)⟩;have hy':=zax hy;have hqa:q<a.length:=by omega
   by_cases hc:x<y
   ·have hp':=hp.on hy hc;simp [-getElem?_pos,z33,u0,u3,u4,u5,hSo',hx',h,h0,hw,hy',hqa,hc];exact zah q (by omega) ⟨q,rfl,by omega,hp',by simp [u0,u3,u4,unx,hSo']⟩
   ·have hp':=hp.off hy hc;have hk1:=hcr (q+1) (by omega);have hk2:=zbv (n:=q+1+1) (by omega);have hk3:=hcr (a.length+1) (by omega);have hcut:=qdq a (q+1) (by omega);have hal2 : ∀ b:List Int,zcf (zab b)=true:=ytk;have hmin:(a.take (q+1)).length=q+1:=by simp; omega
    have hdr:=qbs a (q+1);have hmd:(a.drop (q+1)).length=a.length-(q+1):=by simp
    have hsn:=zbn (a.take (q+1)) x;have hap:=qbi (a.take (q+1)++[x]) (a.drop (q+1));have hk4:=zbv (n:=q+2+(a.length-(q+1))) (by omega);have hin:=z9h hP;rw [<- hp'] at hin;have hlen2:q+2+(a.length-(q+1))=a.length+1:=by omega
    simp [-getElem?_pos,z33,u0,u3,u4,u5,hSo',hx',h,h0,hw,hy',hqa,hc,hj,g1,g2,g3,g4,g5,g6,g7,g8,hr1,hk1,hk2,hk3,hcut,hal2,hmin,hdr,hmd,hsn,hap,hk4,hlen2];refine zah (n-1) (by omega) ⟨i+1,s.nx+2+2,s.ep,a.take (q+1)++x::a.drop (q+1),by omega,by rw [hft,hin],by simp; omega,by simp [u0],by simp; omega,by simp [hws]⟩
  ·have h0':j=0:=by omega
   subst h0';have hp':=hp.z;have hk0:=hcr 0 (by omega);have hk3:=hcr (a.length+1) (by omega);have hcut:(if 0=a.length then zab a else [])=([]:List (List PV)):=by
    split
    ·rename_i e;have:a=[]:=List.length_eq_zero_iff.mp e.symm;subst this; rfl
    ·rfl
   have hal2 : ∀ b:List Int,zcf (zab b)=true:=ytk;have hin:=z9h hP;rw [<- hp'] at hin;have hcons:[iv x]::zab a=zab (x::a):=rfl;have hk4:=hcr (1+a.length) (by omega);have hk5:=hcr (a.length+1) (by omega);simp [-getElem?_pos,z33,u0,u3,u4,u5,hSo',hx',h,g1,g2,g3,g4,g5,g6,g7,g8,hr1,hk0,hk3,hcut,hal2,hcons,hk4,hk5];refine zah (n-1) (by omega) ⟨i+1,s.nx+2+2,s.ep,x::a,by omega,by rw [hft,hin]; simp,by (try simp); try omega,by simp [u0],by (try simp); try omega,by simp [hws]⟩
 ·simp at h;have e1:i=l.length:=by omega
  rw [e1,List.take_length] at ha;simp [-getElem?_pos,v3,hSo,zd7,<- ha]
structure Ta where
 ns:List ByteArray
 nm:ByteArray
 rw:List (List Int)
 lb:List Int
abbrev taS (q:Bool) (t:Ta):PV := .agg [.sl 1 (za5 t.ns),.v (.string t.nm),.sl 1 (rws q t.rw),.sl 1 (zab t.lb)]
abbrev taO (t:Ta):PV := .agg [.own 1 (za5 t.ns),.v (.string t.nm),.own 1 (rws true t.rw),.own 1 (zab t.lb)]
structure TaL (n:Nat) (t:Ta):Prop where
 ns:t.ns.length<=n
 ss : ∀ x∈t.ns,x.size<=n
 nm:t.nm.size<=n
 rw:t.rw.length<=n
 rr : ∀ l∈t.rw,l.length<=n
 lb:t.lb.length<=n
structure Sta where
 sm:List Int
 ts:List (List Nd)
abbrev stS (q:Bool) (s:Sta):PV := .agg [.sl 1 (zab s.sm),.sl 1 (trs q s.ts)]
abbrev stO (s:Sta):PV := .agg [.own 1 (zab s.sm),.own 1 (trs true s.ts)]
structure z8v (n:Nat) (s:Sta):Prop where
 sm:s.sm.length<=n
 ts:s.ts.length<=n
 tl : ∀ l∈s.ts,l.length<=n
structure Sl where
 n:Int
 g:Int
deriving DecidableEq
def slc (x:Sl):List PV:=[iv x.n,iv x.g]
def zbg (l:List Sl):List (List PV):=l.map slc
@[simp] theorem qzr (l:List Sl):(zbg l).length=l.length:=by simp [zbg]
theorem zm5 {l:List Sl} {i:Nat} {x:Sl} (h:l[i]?=some x):(zbg l)[i]?=some [iv x.n,iv x.g]:=by simp [zbg,h,slc]
theorem ymr (l:List Sl) (i:Nat) (a b:Int):(zbg l).set i [iv a,iv b]=zbg (l.set i ⟨a,b⟩):=by simp [zbg,List.map_set,slc]
def slI (x:Sl):Prop:=inI x.n/\inI x.g
def zbk (a b:Sl):Sl×Bool:=if ((adi a.n b.n).2 && (adi a.g b.g).2)=true then (⟨(adi a.n b.n).1,(adi a.g b.g).1⟩,true) else (⟨0,0⟩,false)
theorem zmj {a b:Sl} (h:slI a):slI (zbk a b).1:=by
 unfold zbk;split
 ·exact ⟨ydb h.1,ydb h.2⟩
 ·unfold slI inI; simp
theorem yao (a b:Sl) (ha:slI a) (hb:slI b):RUN T zlx [.agg (slc a),.agg (slc b)]=some ([.agg (slc (zbk a b).1),bv (zbk a b).2],[]):=by
 refine zae rfl rfl ?_;have e1:=yaf a.n b.n ha.1 hb.1;have e2:=yaf a.g b.g ha.2 hb.2;unfold zbk;generalize adi a.n b.n=x at *;generalize adi a.g b.g=y at *;obtain ⟨x,xb⟩:=x;obtain ⟨y,yb⟩:=y;simp only at e1 e2 ⊢;cases xb <;> cases yb <;> simp [z5u,z5k,e1,e2,slc]
theorem yap (a b:Sl) (ha:slI a) (hb:slI b):RUN T zlz [.agg (slc a),.agg (slc b)]=some ([.agg (slc (zbk a b).1),bv (zbk a b).2],[]):=by
 refine zae rfl rfl ?_;have e1:=z7p a.n b.n ha.1 hb.1;have e2:=z7p a.g b.g ha.2 hb.2;unfold zbk;generalize adi a.n b.n=x at *;generalize adi a.g b.g=y at *;obtain ⟨x,xb⟩:=x;obtain ⟨y,yb⟩:=y;simp only at e1 e2 ⊢;cases xb <;> cases yb <;> simp [z56,z5k,e1,e2,slc]
def atI {α:Type} (l:List α) (i:Int):Option α:=if 0<=i then l[i.toNat]? else none
theorem zgn {α:Type} {l:List α} {i:Int} {x:α} (h:atI l i=some x) : ∃ j:Nat,i=j/\l[j]?=some x/\j<l.length:=by
 unfold atI at h;split at h
 ·refine ⟨i.toNat,by omega,h,?_⟩;rcases Nat.lt_or_ge i.toNat l.length with h' | h'
  ·exact h'
  ·rw [List.getElem?_eq_none (by omega)] at h; cases h
 ·cases h
theorem zjs {α:Type} {l:List α} {i:Int} (h:atI l i=none):i<0\/(l.length:Int)<=i:=by
 unfold atI at h;split at h
 ·right;rcases Nat.lt_or_ge i.toNat l.length with h' | h'
  ·rw [bG h'] at h; cases h
  ·omega
 ·omega
def zck (b g:List Int):List Int->List Sl->Option (List Sl)
 | [],h=>some h
 | r::rs,h=>match atI b r,atI g r with
  | some x,some y=>match atI h x with
   | some s=>if (zbk s ⟨1,y⟩).2=true then zck b g rs (h.set x.toNat (zbk s ⟨1,y⟩).1) else none
   | none=>none
  | _,_=>none
def zci (b g rows:List Int) (k:Int):List Sl×Bool:=if zaj k 1 8=true then match zck b g rows (List.replicate k.toNat ⟨0,0⟩) with
  | some h=>(h,true)
  | none=>([],false)
 else ([],false)
theorem yqw (n:Nat):zbg (List.replicate n ⟨0,0⟩)=List.replicate n [iv 0,iv 0]:=by simp [zbg,slc]
theorem y7s (b g rows:List Int) (k:Int) (hb:b.length<=1048576) (hg:g.length<=1048576) (hr:rows.length<=1048576) (hgi : ∀ x∈g,inI x):RUN T zsw [.sl 1 (zab b),.sl 1 (zab g),.sl 1 (zab rows),iv k]=some ([.own 2 (zbg (zci b g rows k).1),bv (zci b g rows k).2],[]):=by
 refine zae rfl rfl ?_;cases hk:zaj k 1 8 with
 | false =>
  have e:=zcu k 1 8;rw [hk] at e;have e2:zci b g rows k=([],false):=by unfold zci; rw [hk]; rfl
  rw [e2];simp [-getElem?_pos,zw8,zw9,-zbm,e,zbg]
 | true =>
  have e:=zcu k 1 8;rw [hk] at e;have hk':=zay.mp hk;obtain ⟨kn,rfl⟩ : ∃ n:Nat,k=n:=⟨k.toNat,by omega⟩;have hro:zag 16 kn=true:=by simp [zag]; omega
  obtain ⟨R,hR⟩ : ∃ R,R=zci b g rows kn:=⟨_,rfl⟩;have hR':R=match zck b g rows (List.replicate kn ⟨0,0⟩) with
   | some h=>(h,true)
   | none=>([],false):=by rw [hR]; unfold zci; rw [if_pos hk]; first | (simp; done) | (simp; rfl)
  rw [<- hR];clear hR;simp [-getElem?_pos,zw8,zw9,-zbm,e,hro];refine zan (fun n st => ∃ (i:Nat) (h:List Sl),i+n=rows.length/\h.length=kn/\(∀ s∈h,slI s)/\zck b g (rows.drop i) h=zck b g rows (List.replicate kn ⟨0,0⟩)/\st.V 0 = .sl 1 (zab b)/\st.V 1 = .sl 1 (zab g)/\st.V 3=iv kn/\st.V 10 = .ref 0 none 0 0 kn/\st.V 20 = .sl 1 (zab rows)/\st.V 21=iv rows.length/\st.V 22=iv i/\0<st.nx/\st.S 0=some (.row 2 (zbg h))) ?_ rows.length _ ⟨0,List.replicate kn ⟨0,0⟩,by omega,by simp,?_,by simp [yqw]⟩
  ·rintro n st ⟨i,h,hi,hhl,hhi,hh,v0,v1,v3,v10,v20,v21,v22,hnx,hS⟩;have Z0:=bI v0 <| bI v1 <| bI v3 <| bI v10 <| bI v20 v21
   obtain ⟨z1,z2,z3,z4⟩:=fr hnx
   by_cases hlt:i<rows.length
   ·obtain ⟨r,hrr⟩ : ∃ r,rows[i]?=some r:=⟨_,bG hlt⟩;have hr':=zax hrr;have hws:=wS hlt (by omega:rows.length<=9223372036854775807);have w1:=w64 (x:=min (b.length:Int) g.length-1) (by omega) (by omega);have w2:=w64 (x:=(kn:Int)-1) (by omega) (by omega);have e1:=zcu r 0 (min (b.length:Int) g.length-1);rw [zc9 hrr,zck] at hh;cases hbx:atI b r with
    | none =>
     rw [hbx] at hh;have hn:=zjs hbx;have:zaj r 0 (min (b.length:Int) g.length-1)=false:=by
      cases hw:zaj r 0 (min (b.length:Int) g.length-1) with
      | false=>rfl
      | true=>have:=zay.mp hw; omega
     rw [this] at e1;rw [<- hh] at hR';subst hR';simp [-getElem?_pos,zo0,-zbm,Z0,v22,hS,hlt,hr',w1,e1,zbg]
    | some x =>
     obtain ⟨rn,rfl,hbr,hbl⟩:=zgn hbx;cases hgy:atI g rn with
     | none =>
      rw [hbx,hgy] at hh;have hn:=zjs hgy;have:zaj rn 0 (min (b.length:Int) g.length-1)=false:=by
       cases hw:zaj rn 0 (min (b.length:Int) g.length-1) with
       | false=>rfl
       | true=>have:=zay.mp hw; omega
      rw [this] at e1;rw [<- hh] at hR';subst hR';simp [-getElem?_pos,zo0,-zbm,Z0,v22,hS,hlt,hr',w1,e1,zbg]
     | some y =>
      obtain ⟨rn',hrn,hgr,hgl⟩:=zgn hgy;have:rn'=rn:=by omega
      subst this;have:zaj rn' 0 (min (b.length:Int) g.length-1)=true:=zay.mpr (by omega);rw [this] at e1;rw [hbx,hgy] at hh;simp only at hh;have hb':=zax hbr;have hg':=zax hgr;have e2:=zcu x 0 ((kn:Int)-1);cases hhx:atI h x with
      | none =>
       rw [hhx] at hh;have hn:=zjs hhx;have:zaj x 0 ((kn:Int)-1)=false:=by
        cases hw:zaj x 0 ((kn:Int)-1) with
        | false=>rfl
        | true=>have:=zay.mp hw; omega
       rw [this] at e2;simp only at hh;rw [<- hh] at hR';subst hR';simp [-getElem?_pos,zo0,-zbm,Z0,v22,hS,hlt,hr',hb',hbl,w1,w2,e1,e2,zbg]
      | some s =>
       obtain ⟨xn,rfl,hhs,hhl2⟩:=zgn hhx;have:zaj xn 0 ((kn:Int)-1)=true:=zay.mpr (by omega);rw [this] at e2;rw [hhx] at hh;have hs':=zm5 hhs;have hsi:=hhi s (bF hhs);have hyi:=hgi y (bF hgr);have hpi:=zmj (b:=⟨1,y⟩) hsi;have e3:=yao s ⟨1,y⟩ hsi ⟨by unfold inI; simp,hyi⟩;simp only [Int.toNat_natCast] at hh;have hxk:xn<kn:=by omega
       generalize zbk s ⟨1,y⟩=p at *;obtain ⟨⟨pn,pg⟩,pb⟩:=p;simp only [slc] at e3 hh;cases pb with
       | false =>
        rw [if_neg (by simp)] at hh;rw [<- hh] at hR';subst hR';simp [-getElem?_pos,zo0,-zbm,Z0,v22,hS,hlt,hr',hb',hbl,hg',hgl,hs',hxk,hhl,w1,w2,e1,e2,e3,z1,z2,z3,z4];simp [zbg]
       | true =>
        rw [if_pos rfl] at hh;have hset:=ymr h xn pn pg;simp [-getElem?_pos,zo0,-zbm,Z0,v22,hS,hlt,hr',hb',hbl,hg',hgl,hs',hxk,hhl,w1,w2,e1,e2,e3,hws,hset,z1,z2,z3,z4];refine zah (n-1) (by omega) ⟨i+1,h.set xn ⟨pn,pg⟩,by omega,by simp [hhl],fun q hq => ?_,hh,by simp [Z0]⟩;rcases List.mem_or_eq_of_mem_set hq with h' | h'
        ·exact hhi q h'
        ·subst h'; exact hpi
   ·rw [List.drop_eq_nil_of_le (by omega),zck] at hh;rw [<- hh] at hR';subst hR';simp [-getElem?_pos,zo0,v10,v21,v22,hS,hlt,hhl]
  ·intro s hs;have:=List.eq_of_mem_replicate hs;subst this;exact ⟨by unfold inI; simp,by unfold inI; simp⟩
theorem y7t (b g rows:List Int) (k:Int) (hb:b.length<=1048576) (hg:g.length<=1048576) (hr:rows.length<=1048576) (hgi : ∀ x∈g,inI x):RUN T zs0 [.sl 1 (zab b),.sl 1 (zab g),.sl 1 (zab rows),iv k]=some ([.own 2 (zbg (zci b g rows k).1),bv (zci b g rows k).2],[]):=by
 refine zae rfl rfl ?_;cases hk:zaj k 1 8 with
 | false =>
  have e:=zba k 1 8;rw [hk] at e;have e2:zci b g rows k=([],false):=by unfold zci; rw [hk]; rfl
  rw [e2];simp [-getElem?_pos,zxa,zw9,-za0,e,zbg]
 | true =>
  have e:=zba k 1 8;rw [hk] at e;have hk':=zay.mp hk;obtain ⟨kn,rfl⟩ : ∃ n:Nat,k=n:=⟨k.toNat,by omega⟩;have hro:zag 16 kn=true:=by simp [zag]; omega
  have hr0:zag 16 0=true:=by decide
  obtain ⟨R,hR⟩ : ∃ R,R=zci b g rows kn:=⟨_,rfl⟩;have hR':R=match zck b g rows (List.replicate kn ⟨0,0⟩) with
   | some h=>(h,true)
   | none=>([],false):=by rw [hR]; unfold zci; rw [if_pos hk]; first | (simp; done) | (simp; rfl)
  rw [<- hR];clear hR;simp [-getElem?_pos,zxa,zw9,-za0,e,hro,hr0];refine zan (fun n st => ∃ (i:Nat) (h:List Sl),i+n=rows.length/\h.length=kn/\(∀ s∈h,slI s)/\zck b g (rows.drop i) h=zck b g rows (List.replicate kn ⟨0,0⟩)/\st.V 0 = .sl 1 (zab b)/\st.V 1 = .sl 1 (zab g)/\st.V 2 = .sl 1 (zab rows)/\st.V 3=iv kn/\st.V 10 = .ref 0 none 0 0 0/\st.V 11 = .ref 1 none 0 0 kn/\st.V 12=iv i/\1<st.nx/\st.S 0=some (.row 2 [])/\st.S 1=some (.row 2 (zbg h))) ?_ rows.length _ ⟨0,List.replicate kn ⟨0,0⟩,by omega,by simp,?_,by simp [yqw]⟩
  ·rintro n st ⟨i,h,hi,hhl,hhi,hh,v0,v1,v2,v3,v10,v11,v12,hnx,hS0,hS⟩;obtain ⟨z1,z2,z3,z4⟩:=fr hnx;obtain ⟨y1,y2,y3,y4⟩:=fr (show 0<st.nx by omega)
   by_cases hlt:i<rows.length
   ·obtain ⟨r,hrr⟩ : ∃ r,rows[i]?=some r:=⟨_,bG hlt⟩;have hr':=zax hrr;have hws:=wS hlt (by omega:rows.length<=9223372036854775807);have w1:=w64 (x:=(b.length:Int)-1) (by omega) (by omega);have w1':=w64 (x:=(g.length:Int)-1) (by omega) (by omega);have w2:=w64 (x:=(kn:Int)-1) (by omega) (by omega);have e1:=zba r 0 ((b.length:Int)-1);have e1':=zba r 0 ((g.length:Int)-1);rw [zc9 hrr,zck] at hh;cases hbx:atI b r with
    | none =>
     rw [hbx] at hh;have hn:=zjs hbx;have:zaj r 0 ((b.length:Int)-1)=false:=by
      cases hw:zaj r 0 ((b.length:Int)-1) with
      | false=>rfl
      | true=>have:=zay.mp hw; omega
     rw [this] at e1;rw [<- hh] at hR';subst hR';simp [-getElem?_pos,zo1,-za0,v0,v1,v2,v3,v10,v11,v12,hS0,hS,hlt,hr',w1,e1,zbg]
    | some x =>
     obtain ⟨rn,rfl,hbr,hbl⟩:=zgn hbx;cases hgy:atI g rn with
     | none =>
      rw [hbx,hgy] at hh;have hn:=zjs hgy;have:zaj rn 0 ((g.length:Int)-1)=false:=by
       cases hw:zaj rn 0 ((g.length:Int)-1) with
       | false=>rfl
       | true=>have:=zay.mp hw; omega
      rw [this] at e1';rw [show zaj rn 0 ((b.length:Int)-1)=true from zay.mpr (by omega)] at e1;rw [<- hh] at hR';subst hR';simp [-getElem?_pos,zo1,-za0,v0,v1,v2,v3,v10,v11,v12,hS0,hS,hlt,hr',w1,w1',e1,e1',zbg]
     | some y =>
      obtain ⟨rn',hrn,hgr,hgl⟩:=zgn hgy;have:rn'=rn:=by omega
      subst this;rw [show zaj rn' 0 ((b.length:Int)-1)=true from zay.mpr (by omega)] at e1;rw [show zaj rn' 0 ((g.length:Int)-1)=true from zay.mpr (by omega)] at e1';rw [hbx,hgy] at hh;simp only at hh;have hb':=zax hbr;have hg':=zax hgr;have e2:=zba x 0 ((kn:Int)-1);cases hhx:atI h x with
      | none =>
       rw [hhx] at hh;have hn:=zjs hhx;have:zaj x 0 ((kn:Int)-1)=false:=by
        cases hw:zaj x 0 ((kn:Int)-1) with
        | false=>rfl
        | true=>have:=zay.mp hw; omega
       rw [this] at e2;simp only at hh;rw [<- hh] at hR';subst hR';simp [-getElem?_pos,zo1,-za0,v0,v1,v2,v3,v10,v11,v12,hS0,hS,hlt,hr',hb',hbl,w1,w1',w2,e1,e1',e2,zbg]
      | some s =>
       obtain ⟨xn,rfl,hhs,hhl2⟩:=zgn hhx;have:zaj xn 0 ((kn:Int)-1)=true:=zay.mpr (by omega);rw [this] at e2;rw [hhx] at hh;have hs':=zm5 hhs;have hsi:=hhi s (bF hhs);have hyi:=hgi y (bF hgr);have hpi:=zmj (b:=⟨1,y⟩) hsi;have e3:=yap s ⟨1,y⟩ hsi ⟨by unfold inI; simp,hyi⟩;simp only [Int.toNat_natCast] at hh;have hxk:xn<kn:=by omega
       generalize zbk s ⟨1,y⟩=p at *;obtain ⟨⟨pn,pg⟩,pb⟩:=p;simp only [slc] at e3 hh;cases pb with
       | false =>
        rw [if_neg (by simp)] at hh;rw [<- hh] at hR';subst hR';simp [-getElem?_pos,zo1,-za0,v0,v1,v2,v3,v10,v11,v12,hS0,hS,hlt,hr',hb',hbl,hg',hgl,hs',hxk,hhl,w1,w1',w2,e1,e1',e2,e3,z1,z2,z3,z4,y1,y2,y3,y4];simp [zbg]
       | true =>
        rw [if_pos rfl] at hh;have hset:=ymr h xn pn pg;simp [-getElem?_pos,zo1,-za0,v0,v1,v2,v3,v10,v11,v12,hS0,hS,hlt,hr',hb',hbl,hg',hgl,hs',hxk,hhl,w1,w1',w2,e1,e1',e2,e3,hws,hset,z1,z2,z3,z4,y1,y2,y3,y4];refine zah (n-1) (by omega) ⟨i+1,h.set xn ⟨pn,pg⟩,by omega,by simp [hhl],fun q hq => ?_,hh,by simp [v0],by simp [v1],by simp [v2],by simp [v3],by simp [v10],by simp [v11],by simp,by simp; omega,by simp [y1,y2,y3,y4,z1,z2,z3,z4,hS0]⟩;rcases List.mem_or_eq_of_mem_set hq with h' | h'
        ·exact hhi q h'
        ·subst h'; exact hpi
   ·rw [List.drop_eq_nil_of_le (by omega),zck] at hh;rw [<- hh] at hR';subst hR';simp [-getElem?_pos,zo1,v2,v11,v12,hS,hlt,hhl]
  ·intro s hs;have:=List.eq_of_mem_replicate hs;subst this;exact ⟨by unfold inI; simp,by unfold inI; simp⟩
def zy5 (q:Bool) (l:List Sl):PV:=if q then .own 2 (zbg l) else .sl 2 (zbg l)
@[simp] theorem qrd (q:Bool) (l:List Sl):fz (zy5 q l) = .sl 2 (zbg l):=by cases q <;> simp [zy5]
def rss (q:Bool) (H:List (List Sl)):List (List PV):=H.map fun l=>[zy5 q l]
@[simp] theorem q1a (q:Bool) (H:List (List Sl)):(rss q H).length=H.length:=by simp [rss]
theorem yp4 {q:Bool} {H:List (List Sl)} {i:Nat} {l:List Sl} (h:H[i]?=some l):(rss q H)[i]?=some [zy5 q l]:=by simp [rss,h]
theorem ymn (H:List (List Sl)) (l:List Sl):rss true H++[[.own 2 (zbg l)]]=rss true (H++[l]):=by simp [rss,zy5]
def zb2 (g rows:List Int):List (List Int)->List (List Int)->Option (List (List Sl))
 | x::c,y::v=>if (zci y g rows (x.length+1)).2=true then (zb2 g rows c v).map ((zci y g rows (x.length+1)).1 :: ·) else none
 | _,_=>some []
def zby (c v:List (List Int)) (g rows:List Int):List (List Sl)×Bool:=if zd1 c v=true then match zb2 g rows c v with
  | some h=>(h,true)
  | none=>([],false)
 else ([],false)
theorem ypd {g rows:List Int} {c v:List (List Int)} {i:Nat} {x y:List Int} (hx:c[i]?=some x) (hy:v[i]?=some y):zb2 g rows (c.drop i) (v.drop i)=if (zci y g rows (x.length+1)).2=true then (zb2 g rows (c.drop (i+1)) (v.drop (i+1))).map ((zci y g rows (x.length+1)).1 :: ·) else none:=by
 rw [zc9 hx,zc9 hy,zb2]
theorem yo6 {g rows:List Int} {v:List (List Int)}:zb2 g rows [] v=some []:=by simp [zb2]
theorem ya8 {b g:List Int} : ∀ (rows:List Int) (h h':List Sl),zck b g rows h=some h'->h'.length=h.length
 | [],h,h',e=>by simp [zck] at e; subst e; rfl
 | r::rs,h,h',e=>by
  simp only [zck] at e;split at e
  ·split at e
   ·split at e
    ·have:=ya8 rs _ _ e;simpa using this
    ·cases e
   ·cases e
  ·cases e
theorem qgw (b g rows:List Int) (k:Int):(zci b g rows k).1.length<=8:=by
 unfold zci;split
 ·rename_i hk;have:=zay.mp hk;cases h:zck b g rows (List.replicate k.toNat ⟨0,0⟩) with
  | none=>simp
  | some h'=>have:=ya8 _ _ _ h; simp at this; simp; omega
 ·simp
theorem ypc {g rows:List Int} : ∀ (c v:List (List Int)) (H:List (List Sl)),zb2 g rows c v=some H->H.length<=c.length/\∀ l∈H,l.length<=8
 | [],v,H,h=>by simp [zb2] at h; subst h; simp
 | x::c,[],H,h=>by simp [zb2] at h; subst h; simp
 | x::c,y::v,H,h=>by
  simp only [zb2] at h;split at h
  ·simp only [bB] at h;obtain ⟨H',h1,rfl⟩:=h;obtain ⟨h2,h3⟩:=ypc c v H' h1;refine ⟨by simp; omega,fun l hl => ?_⟩;rcases List.mem_cons.mp hl with e | e
   ·subst e; exact qgw _ _ _ _
   ·exact h3 l e
  ·cases h
theorem zuz (c v:List (List Int)) (g rows:List Int):(zby c v g rows).1.length<=c.length/\∀ l∈(zby c v g rows).1,l.length<=8:=by
 unfold zby;split
 ·cases h:zb2 g rows c v with
  | none=>simp
  | some H=>exact ypc c v H h
 ·simp
theorem ych {c v:List (List Int)} (h:zd1 c v=true):v.length=c.length/\c.length<=4:=by
 unfold zd1 at h;simp only [Bool.and_eq_true,decide_eq_true_eq] at h;have:=zay.mp h.1.1.1;omega
theorem y7u (q:Bool) (c v:List (List Int)) (g rows:List Int) (hc : ∀ l∈c,l.length<=1048576) (hv : ∀ l∈v,l.length<=1048576) (hg:g.length<=1048576) (hr:rows.length<=1048576) (hgi : ∀ x∈g,inI x):RUN T zsl [.agg [.sl 1 (rws q c),.sl 1 (rws q v)],.sl 1 (zab g),.sl 1 (zab rows)]=some ([.own 1 (rss true (zby c v g rows).1),bv (zby c v g rows).2],[]):=by
 refine zae rfl rfl ?_;have e:=yk6 q c v (fun l hl=>Nat.le_trans (hc l hl) (by omega)) (fun l hl=>Nat.le_trans (hv l hl) (by omega));cases hk:zd1 c v with
 | false =>
  rw [hk] at e;have e2:zby c v g rows=([],false):=by unfold zby; rw [hk]; rfl
  rw [e2];simp [-getElem?_pos,zwx,zwy,e,rss]
 | true =>
  rw [hk] at e;obtain ⟨hvc,hc4⟩:=ych hk;obtain ⟨R,hR⟩ : ∃ R,R=zby c v g rows:=⟨_,rfl⟩;have hR':R=match zb2 g rows c v with
   | some h=>(h,true)
   | none=>([],false):=by rw [hR]; unfold zby; exact if_pos hk
  rw [<- hR];clear hR;have hr0:zag 24 0=true:=by decide
  have hr1:zag 24 1=true:=by decide
  simp [-getElem?_pos,zwx,zwy,e,hr0];refine zan (fun n st => ∃ (i o e:Nat) (H:List (List Sl)),i+n=c.length/\H.length=i/\zb2 g rows c v=(zb2 g rows (c.drop i) (v.drop i)).map (H ++ ·)/\st.V 1 = .sl 1 (zab g)/\st.V 2 = .sl 1 (zab rows)/\st.V 3 = .ptr 0 none 0 0 0/\st.V 8 = .ref o none e 0 H.length/\st.V 18 = .sl 1 (rws q c)/\st.V 19=iv c.length/\st.V 20=iv i/\0<o/\o<st.nx/\st.S 0=some (.box [.sl 1 (rws q c),.sl 1 (rws q v)])/\st.S o=some (.row 1 (rss true H))) ?_ c.length _ ⟨0,1,0,[],by simp [rss]⟩;rintro n st ⟨i,o,ep,H,hi,hH,hL,v1,v2,v3,v8,v18,v19,v20,ho,hox,hS,hSo⟩;obtain ⟨x1,x2,x3,x4⟩:=fr hox;obtain ⟨g1,g2,g3,g4⟩:=fr ho;obtain ⟨z1,z2,z3,z4⟩:=fr (show 0<st.nx by omega)
  by_cases hlt:i<c.length
  ·obtain ⟨x,hx⟩ : ∃ x,c[i]?=some x:=⟨_,bG hlt⟩;obtain ⟨y,hy⟩ : ∃ y,v[i]?=some y:=⟨_,bG (by omega)⟩;have hx':=zc3 (q:=q) hx;have hy':=zc3 (q:=q) hy;have hiv:i<v.length:=by omega
   have hxl:=hc x (bF hx);have hws:=wS hlt (by omega:c.length<=9223372036854775807);have hwl:=w64 (x:=(x.length:Int)+1) (by omega) (by omega);have hh:=y7s y g rows (x.length+1) (hv y (bF hy)) hg hr hgi;have hr24:zag 24 (H.length+1)=true:=by simp [zag]; omega
   rw [ypd hx hy] at hL;generalize zci y g rows (x.length+1)=p at *;obtain ⟨ph,pb⟩:=p;simp only at hh hL;cases pb with
   | false =>
    rw [if_neg (by simp)] at hL;rw [hL] at hR';subst hR';simp [-getElem?_pos,z4i,v1,v2,v3,v8,v18,v19,v20,hS,hSo,hlt,hiv,hx',hy',hwl,hh,rss,x1,x2,x3,x4,g1,g2,g3,g4,z1,z2,z3,z4]
   | true =>
    rw [if_pos rfl] at hL;have hsn:=ymn H ph;simp [-getElem?_pos,z4i,v1,v2,v3,v8,v18,v19,v20,hS,hSo,hlt,hiv,hx',hy',hwl,hws,hh,hr1,hr24,hsn,x1,x2,x3,x4,g1,g2,g3,g4,z1,z2,z3,z4];exact zah (n-1) (by omega) ⟨i+1,st.nx+2,st.ep,H++[ph],by omega,by simp [hH],by rw [hL]; cases zb2 g rows (c.drop (i+1)) (v.drop (i+1)) <;> simp,by simp [v1],by simp [v2],by simp [v3],by simp,by simp [v18],by simp [v19],by simp,by omega,by simp [x1,x2,x3,x4,g1,g2,g3,g4,z1,z2,z3,z4,hS]⟩
  ·have h0:c.drop i=[]:=List.drop_eq_nil_of_le (by omega);rw [h0,yo6] at hL;rw [hL] at hR';simp only [Option.map_some,List.append_nil] at hR';subst hR';simp [-getElem?_pos,z4i,v8,v19,v20,hSo,hlt]
theorem y7v (q:Bool) (c v:List (List Int)) (g rows:List Int) (hc : ∀ l∈c,l.length<=1048576) (hv : ∀ l∈v,l.length<=1048576) (hg:g.length<=1048576) (hr:rows.length<=1048576) (hgi : ∀ x∈g,inI x):RUN T zsp [.agg [.sl 1 (rws q c),.sl 1 (rws q v)],.sl 1 (zab g),.sl 1 (zab rows)]=some ([.own 1 (rss true (zby c v g rows).1),bv (zby c v g rows).2],[]):=by
 refine zae rfl rfl ?_;have e:=yk7 q c v (fun l hl=>Nat.le_trans (hc l hl) (by omega)) (fun l hl=>Nat.le_trans (hv l hl) (by omega));cases hk:zd1 c v with
 | false =>
  rw [hk] at e;have e2:zby c v g rows=([],false):=by unfold zby; rw [hk]; rfl
  rw [e2];have hr0:zag 24 0=true:=by decide
  simp [-getElem?_pos,zw3,zwy,e,hr0,rss]
 | true =>
  rw [hk] at e;obtain ⟨hvc,hc4⟩:=ych hk;obtain ⟨R,hR⟩ : ∃ R,R=zby c v g rows:=⟨_,rfl⟩;have hR':R=match zb2 g rows c v with
   | some h=>(h,true)
   | none=>([],false):=by rw [hR]; unfold zby; exact if_pos hk
  rw [<- hR];clear hR;have hr0:zag 24 0=true:=by decide
  have hr1:zag 24 1=true:=by decide
  simp [-getElem?_pos,zw3,zwy,e,hr0];refine zan (fun n st => ∃ (i o e:Nat) (H:List (List Sl)),i+n=c.length/\H.length=i/\zb2 g rows c v=(zb2 g rows (c.drop i) (v.drop i)).map (H ++ ·)/\st.V 1 = .sl 1 (zab g)/\st.V 2 = .sl 1 (zab rows)/\st.V 3 = .ptr 0 none 0 0 0/\st.V 8 = .ref o none e 0 H.length/\st.V 9=iv i/\0<o/\o<st.nx/\st.S 0=some (.box [.sl 1 (rws q c),.sl 1 (rws q v)])/\st.S o=some (.row 1 (rss true H))) ?_ c.length _ ⟨0,1,0,[],by simp [rss]⟩;rintro n st ⟨i,o,ep,H,hi,hH,hL,v1,v2,v3,v8,v9,ho,hox,hS,hSo⟩;obtain ⟨x1,x2,x3,x4⟩:=fr hox;obtain ⟨g1,g2,g3,g4⟩:=fr ho;obtain ⟨z1,z2,z3,z4⟩:=fr (show 0<st.nx by omega)
  by_cases hlt:i<c.length
  ·obtain ⟨x,hx⟩ : ∃ x,c[i]?=some x:=⟨_,bG hlt⟩;obtain ⟨y,hy⟩ : ∃ y,v[i]?=some y:=⟨_,bG (by omega)⟩;have hx':=zc3 (q:=q) hx;have hy':=zc3 (q:=q) hy;have hiv:i<v.length:=by omega
   have hxl:=hc x (bF hx);have hws:=wS hlt (by omega:c.length<=9223372036854775807);have hwl:=w64 (x:=(x.length:Int)+1) (by omega) (by omega);have hh:=y7t y g rows (x.length+1) (hv y (bF hy)) hg hr hgi;have hr24:zag 24 (H.length+1)=true:=by simp [zag]; omega
   rw [ypd hx hy] at hL;generalize zci y g rows (x.length+1)=p at *;obtain ⟨ph,pb⟩:=p;simp only at hh hL;cases pb with
   | false =>
    rw [if_neg (by simp)] at hL;rw [hL] at hR';subst hR';simp [-getElem?_pos,z4v,v1,v2,v3,v8,v9,hr0,hS,hSo,hlt,hiv,hx',hy',hwl,hh,rss,x1,x2,x3,x4,g1,g2,g3,g4,z1,z2,z3,z4]
   | true =>
    rw [if_pos rfl] at hL;have hsn:=ymn H ph;simp [-getElem?_pos,z4v,v1,v2,v3,v8,v9,hr0,hS,hSo,hlt,hiv,hx',hy',hwl,hws,hh,hr1,hr24,hsn,x1,x2,x3,x4,g1,g2,g3,g4,z1,z2,z3,z4];exact zah (n-1) (by omega) ⟨i+1,st.nx+2,st.ep,H++[ph],by omega,by simp [hH],by rw [hL]; cases zb2 g rows (c.drop (i+1)) (v.drop (i+1)) <;> simp,by simp [v1],by simp [v2],by simp [v3],by simp,by simp,by omega,by simp [x1,x2,x3,x4,g1,g2,g3,g4,z1,z2,z3,z4,hS]⟩
  ·have h0:c.drop i=[]:=List.drop_eq_nil_of_le (by omega);rw [h0,yo6] at hL;rw [hL] at hR';simp only [Option.map_some,List.append_nil] at hR';subst hR';simp [-getElem?_pos,z4v,v3,v8,v9,hS,hSo,hlt]
def ym6 (k:Int) (n:Nat):List Sl:=(List.range n).map fun (i:Nat)=>⟨k+2*(i:Int),k+2*(i:Int)+1⟩
@[simp] theorem qym (k:Int) (n:Nat):(ym6 k n).length=n:=by simp [ym6]
theorem ylm (x:Int):RUN T zod [iv x]=some ([bv false],[]):=by
 refine zae rfl rfl ?_;simp [z6s,zvo]
theorem yln (x y:Int):RUN T zob [iv x,iv y]=some ([iv (zcn x y)],[]):=by
 refine zae rfl rfl ?_;have e1:=ylm x;have e2:=ylm y;unfold zcn
 by_cases h1:x<y
 ·simp [zud,zvr,e1,e2,h1]
 ·by_cases h2:y<x
  ·simp [zud,zvr,e1,e2,h1,h2]
  ·simp [zud,zvr,e1,e2,h1,h2]
theorem y7w (a b:Wd) (ha:wfU a) (hb:wfU b):RUN T zta [.agg (wd a),.agg (wd b)]=some ([iv (zk7 a b)],[]):=by
 refine zae rfl rfl ?_;have n1:(a.n && (decide (0<a.h) || decide (0<a.l)))=ze5 a:=by
  obtain ⟨h0,_,h1,_⟩:=ha;unfold ze5
  congr 1
  rw [Bool.eq_iff_iff]; simp; omega
 have n2:(b.n && (decide (0<b.h) || decide (0<b.l)))=ze5 b:=by
  obtain ⟨h0,_,h1,_⟩:=hb;unfold ze5
  congr 1
  rw [Bool.eq_iff_iff]; simp; omega
 have e1:=zxu a.n a.h a.l;have e2:=zxu b.n b.h b.l;rw [n1] at e1;rw [n2] at e2;have e3:=yam ⟨ze5 a,a.h,a.l⟩ ⟨ze5 b,b.h,b.l⟩;have e4:=yam ⟨ze5 b,b.h,b.l⟩ ⟨ze5 a,a.h,a.l⟩;have o1:ze1 ⟨ze5 a,a.h,a.l⟩ ⟨ze5 b,b.h,b.l⟩=ze1 a b:=rfl;have o2:ze1 ⟨ze5 b,b.h,b.l⟩ ⟨ze5 a,a.h,a.l⟩=ze1 b a:=rfl;rw [o1] at e3;rw [o2] at e4;clear o1 o2 n1 n2 ha hb;unfold zk7;generalize ze1 a b=x at *;generalize ze1 b a=y at *;generalize ze5 a=p at *;generalize ze5 b=q at *;obtain ⟨an,ah,al⟩:=a;obtain ⟨bn,bh,bl⟩:=b;simp only [wd] at e1 e2 e3 e4 ⊢;cases p <;> cases q <;> simp [z6i,zvr,e1,e2,e3,e4]
structure Fr where
 w:Wd
 d:Int
def frc (f:Fr):List PV:=[bv f.w.n,uv f.w.h,uv f.w.l,iv f.d]
def frB (f:Fr):Bool:=wok f.w && zaj f.d 1 1000000
def zew:Fr:=⟨za7,0⟩
def zff (w:Wd) (d:Int):Fr×Bool:=if frB ⟨w,d⟩=true then (⟨w,d⟩,true) else (zew,false)
theorem yaq (f:Fr):RUN T zl3 [.agg (frc f)]=some ([bv (frB f)],[]):=by
 refine zae rfl rfl ?_;have e1:=zul f.w;have e2:=zcu f.d 1 1000000;unfold frB;generalize wok f.w=x at *;generalize zaj f.d 1 1000000=y at *;simp only [wd] at e1;cases x <;> simp [z6y,zvo,-zbm,frc,e1,e2]
theorem z7q (f:Fr):RUN T zj2 [.agg (frc f)]=some ([bv (frB f)],[]):=by
 refine zae rfl rfl ?_;have e1:=zum f.w;have e2:=zba f.d 1 1000000;unfold frB;generalize wok f.w=x at *;generalize zaj f.d 1 1000000=y at *;simp only [wd] at e1;cases x <;> simp [z64,zvo,-za0,frc,e1,e2]
theorem ylo (w:Wd) (d:Int):RUN T zoe [.agg (wd w),iv d]=some ([.agg (frc (zff w d).1),bv (zff w d).2],[]):=by
 refine zae rfl rfl ?_;have e1:=yaq ⟨w,d⟩;unfold zff;generalize frB ⟨w,d⟩=x at *;simp only [frc] at e1;cases x <;> simp [z6w,z5z,wd,frc,zew,za7,e1]
theorem y7x (a d:Int) (ha:inI a):RUN T zte [iv a,iv d]=some ([.agg (frc (zff (zet a a) d).1),bv (zff (zet a a) d).2],[]):=by
 refine zae rfl rfl ?_;have e1:=y7i a a ha ha;have e2:=ylo (zet a a) d;generalize zet a a=m at *;generalize zff m d=f at *;obtain ⟨⟨fw,fd⟩,fb⟩:=f;simp only [wd,frc] at e1 e2 ⊢;simp [z6u,z5z,e1,e2]
theorem y7y (a d:Int) (ha:inI a):RUN T ztg [iv a,iv d]=some ([.agg (frc (zff (zet a a) d).1),bv (zff (zet a a) d).2],[]):=by
 refine zae rfl rfl ?_;have e1:=y7j a a ha ha;have e2:=z7q ⟨zet a a,d⟩;unfold zff;generalize zet a a=m at *;generalize frB ⟨m,d⟩=x at *;simp only [wd,frc] at e1 e2;cases x <;> simp [z62,z5z,frc,zew,za7,e1,e2]
def frI (f:Fr):Prop:=wfU f.w/\inI f.d
theorem zyl:wfU za7:=⟨by decide,by decide,by decide,by decide⟩
theorem ynd (w:Wd) (k:Int) (h:wfU w):wfU (zdf w k).1:=by
 unfold zdf;split
 ·rename_i hc;refine ydl ?_ (by omega);obtain ⟨h0,h1,h2,h3⟩:=h;exact Int.mul_nonneg (by unfold mag; omega) (by omega)
 ·exact zyl
def zbs (a b:Fr):Wd×Wd×Bool:=if (frB a && frB b)=true then ((zdf a.w b.d).1,(zdf b.w a.d).1,(zdf a.w b.d).2 && (zdf b.w a.d).2) else (za7,za7,false)
theorem ydt (a b:Fr) (ha:wfU a.w) (hb:wfU b.w):wfU (zbs a b).1/\wfU (zbs a b).2.1:=by
 unfold zbs;split
 ·exact ⟨ynd _ _ ha,ynd _ _ hb⟩
 ·exact ⟨zyl,zyl⟩
theorem yqt {a b:Fr} (h:(zbs a b).2.2=true):(1<=a.d/\a.d<=1000000)/\1<=b.d/\b.d<=1000000:=by
 unfold zbs at h;split at h
 ·rename_i hc;simp only [frB,Bool.and_eq_true] at hc;exact ⟨zay.mp hc.1.2,zay.mp hc.2.2⟩
 ·cases h
theorem ylp (a b:Fr) (ha:frI a) (hb:frI b):RUN T zn9 [.agg (frc a),.agg (frc b)]=some ([.agg (wd (zbs a b).1),.agg (wd (zbs a b).2.1),bv (zbs a b).2.2],[]):=by
 refine zae rfl rfl ?_;have e1:=yaq a;have e2:=yaq b;have e3:=yli a.w b.d ha.1 hb.2;have e4:=yli b.w a.d hb.1 ha.2;unfold zbs;generalize zdf a.w b.d=x at *;generalize zdf b.w a.d=y at *;generalize frB a=p at *;generalize frB b=q at *;obtain ⟨⟨an,ah,al⟩,ad⟩:=a;obtain ⟨⟨bn,bh,bl⟩,bd⟩:=b;obtain ⟨x,xb⟩:=x;obtain ⟨y,yb⟩:=y;simp only [frc,wd] at e1 e2 e3 e4 ⊢;cases p <;> cases q <;> cases xb <;> simp [z6g,z6h,e1,e2,e3,e4,za7]
end Go.Pe
