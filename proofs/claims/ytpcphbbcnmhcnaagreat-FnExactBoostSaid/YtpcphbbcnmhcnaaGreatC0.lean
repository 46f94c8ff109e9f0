/- What each function answers by the evaluator,and the law; for each answer its own conditions stand ahead of it. -/
import Derived.Test.YtpcphbbcnmhcnaaGreatK1
import Derived.Test.YtpcphbbcnmhcnaaGreatEvB2
import Derived.IntWalk
set_option linter.all false
set_option maxHeartbeats 8000000
set_option maxRecDepth 8000
namespace Go.Pe
open Go
theorem w64 {x:Int} (h1 : -9223372036854775808<=x) (h2:x<=9223372036854775807):IntKind.i64.wrap x=x:=IntWalk.i64_in x ⟨h1,h2⟩
@[simp] theorem q1y {x:Int} (h1 : -9223372036854775808<=x) (h2:x<=9223372036854775807):IntKind.i64.wrap x=x:=w64 h1 h2
structure Nd where
 f:Int
 c:Int
 l:Int
 r:Int
 v:Int
deriving DecidableEq
def nd (n:Nd):List PV:=[iv n.f,iv n.c,iv n.l,iv n.r,iv n.v]
@[simp] theorem qpg (a b c d e:Int):RUN T zm5 [.agg [iv a,iv b,iv c,iv d,iv e]]=some ([bv (decide (a = -1))],[]):=by
 refine zae rfl rfl ?_;simp [z2g,zj1]
@[simp] theorem zbm (a b c:Int):RUN T zbt [iv a,iv b,iv c]=some ([bv (decide (b<=a) && decide (a<=c))],[]):=by
 refine zae rfl rfl ?_;simp [zz5,zzl];refine zay (fun h => ?_) (fun h => ?_) <;> simp [h]
@[simp] theorem qph (a b c d e:Int):RUN T zne [.agg [iv a,iv b,iv c,iv d,iv e]]=some ([bv (!decide (a = -1))],[]):=by
 refine zae rfl rfl ?_;simp [z3h,zj1]
@[simp] theorem za3 (a b c:Int):RUN T zbs [iv a,iv b,iv c]=some ([bv (decide (b<=a) && decide (a<=c))],[]):=by
 refine zae rfl rfl ?_;simp [zzk,zzl];refine zay (fun h => ?_) (fun h => ?_) <;> simp [h]
@[simp] theorem qpi (a b c d e:Int):RUN T zsm [.agg [iv a,iv b,iv c,iv d,iv e],.agg [iv a,iv b,iv c,iv d,iv e]]=some ([bv true],[]):=by
 refine zae rfl rfl ?_;simp [z5q,zs6]
def zh2 {α:Type} (p:α->Bool) (l:List α):Int:=match l.findIdx? p with
 | some i=>(i:Int)
 | none => -1
theorem z9f {α:Type} {p:α->Bool} {l:List α} (h : ∀ (j:Nat) (x:α),j<l.length->l[j]?=some x->p x=false):zh2 p l = -1:=by
 unfold zh2;have:l.findIdx? p=none:=by
  rw [List.findIdx?_eq_none_iff];intro x hx;obtain ⟨j,hj⟩:=bH hx;exact h j x (bD hj).1 hj
 rw [this]
theorem z9q {α:Type} {p:α->Bool} {l:List α} {i:Nat} {x:α} (hi:l[i]?=some x) (hp:p x=true) (h : ∀ (j:Nat) (x:α),j<i->l[j]?=some x->p x=false):zh2 p l=i:=by
 unfold zh2;have:l.findIdx? p=some i:=by
  rw [List.findIdx?_eq_some_iff_getElem];obtain ⟨h1,h2⟩:=bD hi;refine ⟨h1,by rw [h2]; exact hp,fun j hj => ?_⟩;have:=h j l[j] hj (bG (by omega));simp [this]
 rw [this]
theorem ydu {α:Type} {p:α->Bool} {l:List α} {i:Nat} {x:α} (h : ∀ (j:Nat) (x:α),j<i->l[j]?=some x->p x=false) (hi:l[i]?=some x) (hp:p x=false) : ∀ (j:Nat) (x:α),j<i+1->l[j]?=some x->p x=false:=by
 intro j y hj hy
 by_cases e:j=i
 ·subst e; rw [hi] at hy; cases hy; exact hp
 ·exact h j y (by omega) hy
def yu0 (k:Int) (n:Nd):Bool := !decide (n.f = -1) && (decide (n.l=k) || decide (n.r=k))
def par (t:List Nd) (k:Int):Int:=zh2 (yu0 k) t
theorem wS {i n:Nat} (h:i<n) (hn:n<=9223372036854775807):IntKind.i64.wrap ((i:Int)+1)=(i:Int)+1:=w64 (by omega) (by omega)
def fil {α β:Type} (f:α->β) (z:β) (l:List α) (i:Nat):List β:=(l.take i).map f++List.replicate (l.length-i) z
theorem yce {α β:Type} {f:α->β} {l:List α} {z:β} {i:Nat} {x:α} (hx:l[i]?=some x):(fil f z l i).set i (f x)=fil f z l (i+1):=by
 unfold fil;obtain ⟨h1,h2⟩:=bD hx;apply List.ext_getElem?;intro j;rw [List.getElem?_set];simp only [List.length_append,List.length_map,List.length_take,List.length_replicate]
 by_cases e:i=j
 ·subst e;rw [if_pos rfl,if_pos (by omega),List.getElem?_append_left (by simp; omega)];simp [List.getElem?_take,hx]
 ·rw [if_neg e]
  by_cases hj:j<i
  ·rw [List.getElem?_append_left (by simp; omega),List.getElem?_append_left (by simp; omega)];simp [List.getElem?_take,hj,show j<i+1 by omega]
  ·rw [List.getElem?_append_right (by simp; omega),List.getElem?_append_right (by simp; omega)];simp [List.getElem?_replicate]
   congr 1
   simp; omega
theorem yc2 {α β:Type} {f:α->β} {l:List α} {z:β} {i:Nat} (h:i<l.length):(fil f z l i)[i]?=some z:=by
 unfold fil;rw [List.getElem?_append_right (by simp; omega)];simp [List.getElem?_replicate]; omega
theorem ycg {α β:Type} {f:α->β} {l:List α} {z:β} {i:Nat} (h:i<=l.length):(fil f z l i).length=l.length:=by unfold fil; simp; omega
theorem ycz {α β:Type} {f:α->β} {l:List α} {z:β}:fil f z l 0=List.replicate l.length z:=by simp [fil]
theorem ych {α β:Type} {f:α->β} {l:List α} {z:β} {i:Nat} (h:i=l.length):fil f z l i=l.map f:=by subst h; simp [fil]
theorem y7a (t:List Nd) (hl:t.length<=9223372036854775807):RUN T zsd [.sl 5 (t.map nd),.sl 5 (t.map nd)]=some ([bv true],[]):=by
 refine zae rfl rfl ?_;simp [z41,zs6];refine zan (fun n st => ∃ i:Nat,i+n=t.length/\st.V 0 = .sl 5 (t.map nd)/\st.V 1 = .sl 5 (t.map nd)/\st.V 5=iv i) ?_ t.length _ ⟨0,by simp⟩;rintro n st ⟨i,hi,h0,h1,h5⟩;simp [yfz,h0,h1,h5];refine zay (fun h => ?_) (fun h => ?_)
 ·simp at h;obtain ⟨x,hx⟩ : ∃ x,t[i]?=some x:=⟨_,bG h⟩;have hw:=wS h hl;simp [-getElem?_pos,h0,h1,h5,h,hx,nd,hw];exact zai (n-1) (by omega) ⟨i+1,by omega,by simp [h0,h1]⟩
 ·simp
theorem y7b (t:List Nd) (hl:t.length<=9223372036854775807):RUN T zrv [.agg [.sl 5 (t.map nd)],.agg [.sl 5 (t.map nd)]]=some ([bv true],[]):=by
 refine zae rfl rfl ?_;simp [z3p,zs6,y7a t hl]
def zab (l:List Int):List (List PV):=l.map fun n=>[iv n]
@[simp] theorem yeq (l:List Int):(zab l).length=l.length:=by simp [zab]
theorem zaz {l:List Int} {i:Nat} {x:Int} (h:l[i]?=some x):(zab l)[i]?=some [iv x]:=by simp [zab,h]
@[simp] theorem q1k:zab []=[]:=rfl
theorem zxp (x:Int) (l:List Int):zab (x::l)=[iv x]::zab l:=rfl
theorem qb7 (l m:List Int):zab l++zab m=zab (l++m):=by simp [zab]
theorem zc8 (l:List Int) (x:Int):zab l++[[iv x]]=zab (l++[x]):=by simp [zab]
theorem yog (l:List Int):zcl (zab l)=true:=by simp [zcl,zab]
def anc (t:List Nd):Nat->Int->Option (List Int)
 | 0,_=>none
 | n+1,k=>if par t k<0 then some [] else (anc t n (par t k)).map (par t k :: ·)
def way (t:List Nd) (k:Int):List Int:=if 0<=k/\k<=t.length-1 then match anc t 32 k with
  | some l=>(k::l).reverse
  | none=>[]
 else []
theorem zc4 {n:Nat} (h:n<=17592186044416):zaj 8 n=true:=by simp [zaj]; omega
def mix {β:Type} (f:Nat->β) (l:List β) (i:Nat):List β:=(List.range i).map f++l.drop i
theorem z8u {β:Type} {f:Nat->β} {l:List β}:mix f l 0=l:=by simp [mix]
theorem z8x {β:Type} {f:Nat->β} {l:List β} {i:Nat} (h:i=l.length):mix f l i=(List.range i).map f:=by subst h; simp [mix]
theorem z87 {β:Type} {f:Nat->β} {l:List β} {i:Nat} (h:i<=l.length):(mix f l i).length=l.length:=by simp [mix]; omega
theorem z86 {β:Type} {f:Nat->β} {l:List β} {i:Nat}:(mix f l i)[i]?=l[i]?:=by
 unfold mix;rw [List.getElem?_append_right (by simp)];simp
theorem z89 {β:Type} {f:Nat->β} {l:List β} {i:Nat} (h:i<l.length):(mix f l i).set i (f i)=mix f l (i+1):=by
 unfold mix;apply List.ext_getElem?;intro j;rw [List.getElem?_set];simp only [List.length_append,List.length_map,List.length_range,List.length_drop]
 by_cases e:i=j
 ·subst e;rw [if_pos rfl,if_pos (by omega),List.getElem?_append_left (by simp)];simp
 ·rw [if_neg e]
  by_cases hj:j<i
  ·rw [List.getElem?_append_left (by simp; omega),List.getElem?_append_left (by simp; omega)];simp [hj,show j<i+1 by omega]
  ·rw [List.getElem?_append_right (by simp; omega),List.getElem?_append_right (by simp; omega)];simp
   congr 1
   omega
theorem yar (es:List (List PV)) (left:Int) (h0:0<=left) (h1:left<=1048576) (hl:es.length<=9223372036854775807):RUN T zlc [.sl 1 es,iv left]=some ([iv (if left-es.length<0 then -1 else left-es.length)],[]):=by
 refine zae rfl rfl ?_;have e:=w64 (x:=left-es.length) (by omega) (by omega);simp [z0x,zs6,e];refine zay (fun h => ?_) (fun h => ?_) <;> simp at h <;> simp [h];omega
theorem yas (l:List Int) (hl:l.length<=1048576):RUN T zld [.sl 1 (zab l)]=some ([.own 1 (zab l)],[]):=by
 refine zae rfl rfl ?_;have hr:zaj 8 l.length=true:=zc4 (by omega);simp [z03,zzr,hr];refine zan (fun n st => ∃ i:Nat,i+n=l.length/\st.V 0 = .sl 1 (zab l)/\st.V 3 = .ref 0 none 0 0 l.length/\st.V 4=iv i/\st.ep=0/\st.S 0=some (.row 1 (fil (fun n=>[iv n]) [iv 0] l i))) ?_ l.length _ ⟨0,by simp [ycz]⟩;rintro n st ⟨i,hi,h0,h3,h4,hep,hS⟩;simp [yfb,h0,h3,h4,hS];refine zay (fun h => ?_) (fun h => ?_)
 ·simp at h;obtain ⟨x,hx⟩ : ∃ x,l[i]?=some x:=⟨_,bG h⟩;have hw:=wS h (by omega:l.length<=9223372036854775807);have hg:=yc2 (f:=fun n=>[iv n]) (z:=[iv 0]) h;have hs:=yce (f:=fun n=>[iv n]) (z:=[iv 0]) hx;have hx':=zaz hx;simp [-getElem?_pos,h0,h3,h4,hS,hep,h,hx',hw,hg,hs,ycg (Nat.le_of_lt h)];exact zai (n-1) (by omega) ⟨i+1,by omega,by simp [h0,h3]⟩
 ·simp at h;have e:=ych (f:=fun n=>[iv n]) (z:=[iv 0]) (by omega:i=l.length);simp [h3,hS,e,zab]
theorem z7o (l:List Int) (hl:l.length<=9223372036854775807):RUN T zjs [.sl 1 (zab l),.sl 1 (zab l)]=some ([bv true],[]):=by
 refine zae rfl rfl ?_;simp [z05,zs6];refine zan (fun n st => ∃ i:Nat,i+n=l.length/\st.V 0 = .sl 1 (zab l)/\st.V 1 = .sl 1 (zab l)/\st.V 5=iv i) ?_ l.length _ ⟨0,by simp⟩;rintro n st ⟨i,hi,h0,h1,h5⟩;simp [yfc,h0,h1,h5];refine zay (fun h => ?_) (fun h => ?_)
 ·simp at h;obtain ⟨x,hx⟩ : ∃ x,l[i]?=some x:=⟨_,bG h⟩;have hw:=wS h hl;have hx':=zaz hx;simp [-getElem?_pos,h0,h1,h5,h,hx',hw];exact zai (n-1) (by omega) ⟨i+1,by omega,by simp [h0,h1]⟩
 ·simp
def upto (k:Int) (n:Nat):List Int:=(List.range n).map fun (i:Nat)=>k+(i:Int)
@[simp] theorem qud (k:Int) (n:Nat):(upto k n).length=n:=by simp [upto]
theorem z7p (l:List Int) (k:Int) (h0:0<=k) (hk:k+l.length<=9223372036854775806):RUN T zjt [.own 1 (zab l),iv k]=some ([iv (k+l.length)],[.own 1 (zab (upto k l.length))]):=by
 refine zae rfl rfl ?_;simp [z1h,zs6];refine zan (fun n st => ∃ i:Nat,i+n=l.length/\st.V 0 = .ref 0 none 0 0 l.length/\st.V 1=iv (k+i)/\st.V 5=iv i/\st.ep=0/\st.S 0=some (.row 1 (mix (fun j=>[iv (k+(j:Int))]) (zab l) i))) ?_ l.length _ ⟨0,by simp [z8u]⟩;rintro n st ⟨i,hi,h0,h1,h5,hep,hS⟩;simp [yfh,h0,h1,h5,hS];refine zay (fun h => ?_) (fun h => ?_)
 ·simp at h;obtain ⟨x,hx⟩ : ∃ x,l[i]?=some x:=⟨_,bG h⟩;have hw:=wS h (by omega:l.length<=9223372036854775807);have hw2:IntKind.i64.wrap (k+(i:Int)+1)=k+(i:Int)+1:=w64 (by omega) (by omega);have hx':=zaz hx;have hg:=(z86 (f:=fun (j:Nat)=>[iv (k+(j:Int))]) (l:=zab l) (i:=i)).trans hx';have hs:=z89 (f:=fun (j:Nat)=>[iv (k+(j:Int))]) (l:=zab l) (i:=i) (by simpa using h);have hl:=z87 (f:=fun (j:Nat)=>[iv (k+(j:Int))]) (l:=zab l) (i:=i) (by simp; omega);simp at hl;simp [-getElem?_pos,h0,h1,h5,hS,hep,h,hg,hs,hl,hw,hw2];exact zai (n-1) (by omega) ⟨i+1,by omega,by simp [h0],by simp; omega,by simp⟩
 ·simp at h;have e:=z8x (f:=fun (j:Nat)=>[iv (k+(j:Int))]) (l:=zab l) (i:=i) (by simp; omega);have e2:i=l.length:=by omega
  subst e2;simp [hS,e,h1];simp [zab,upto,Function.comp_def]
theorem y7c (k:Int) (n:Nat) (h0:0<=k) (hk:k+n<=9223372036854775806):RUN T zq2 [.sl 1 (zab (upto k n)),iv k]=some ([iv (k+n)],[]):=by
 refine zae rfl rfl ?_;simp [z1l,zs6];refine zan (fun q st => ∃ i:Nat,i+q=n/\st.V 0 = .sl 1 (zab (upto k n))/\st.V 1=iv (k+i)/\st.V 5=iv i) ?_ n _ ⟨0,by simp⟩;rintro q st ⟨i,hi,h0,h1,h5⟩;simp [yfj,h0,h1,h5];refine zay (fun h => ?_) (fun h => ?_)
 ·simp at h;have hw:=wS h (by omega:n<=9223372036854775807);have hw2:IntKind.i64.wrap (k+(i:Int)+1)=k+(i:Int)+1:=w64 (by omega) (by omega);have hx':(zab (upto k n))[i]?=some [iv (k+i)]:=zaz (by simp [upto,h]);simp [-getElem?_pos,h0,h1,h5,h,hx',hw,hw2];exact zai (q-1) (by omega) ⟨i+1,by omega,by simp [h0],by simp; omega,by simp⟩
 ·simp at h;simp [h1]; omega
def zfd (k:Int) (n:Nat):List Nd:=(List.range n).map fun (i:Nat)=>⟨k+5*(i:Int),k+5*(i:Int)+1,k+5*(i:Int)+2,k+5*(i:Int)+3,k+5*(i:Int)+4⟩
theorem y7d (t:List Nd) (k:Int) (h0:0<=k) (hk:k+5*t.length<=9223372036854775806):RUN T zrw [.own 5 (t.map nd),iv k]=some ([iv (k+5*t.length)],[.own 5 ((zfd k t.length).map nd)]):=by
 refine zae rfl rfl ?_;simp [z3r,zs6];obtain ⟨f,hf⟩ : ∃ f:Nat->List PV,f=fun (j:Nat)=>[iv (k+5*(j:Int)),iv (k+5*(j:Int)+1),iv (k+5*(j:Int)+2),iv (k+5*(j:Int)+3),iv (k+5*(j:Int)+4)]:=⟨_,rfl⟩;refine zan (fun n st => ∃ i:Nat,i+n=t.length/\st.V 0 = .ref 0 none 0 0 t.length/\st.V 1=iv (k+5*i)/\st.V 5=iv i/\st.ep=0/\st.S 0=some (.row 5 (mix f (t.map nd) i))) ?_ t.length _ ⟨0,by simp [z8u]⟩;rintro n st ⟨i,hi,h0,h1,h5,hep,hS⟩;simp [yfr,h0,h1,h5,hS];refine zay (fun h => ?_) (fun h => ?_)
 ·simp at h;obtain ⟨x,hx⟩ : ∃ x,t[i]?=some x:=⟨_,bG h⟩;have hw:=wS h (by omega:t.length<=9223372036854775807);have w1:IntKind.i64.wrap (k+5*(i:Int)+1)=k+5*(i:Int)+1:=w64 (by omega) (by omega);have w2:IntKind.i64.wrap (k+5*(i:Int)+1+1)=k+5*(i:Int)+2:=by rw [w64 (by omega) (by omega)]; omega
  have w3:IntKind.i64.wrap (k+5*(i:Int)+2+1)=k+5*(i:Int)+3:=by rw [w64 (by omega) (by omega)]; omega
  have w4:IntKind.i64.wrap (k+5*(i:Int)+3+1)=k+5*(i:Int)+4:=by rw [w64 (by omega) (by omega)]; omega
  have w5:IntKind.i64.wrap (k+5*(i:Int)+4+1)=k+5*((i:Int)+1):=by rw [w64 (by omega) (by omega)]; omega
  have hx':(t.map nd)[i]?=some (nd x):=by simp [hx]
  have hg:=(z86 (f:=f) (l:=t.map nd) (i:=i)).trans hx';have hs:=z89 (f:=f) (l:=t.map nd) (i:=i) (by simpa using h);have hfi:f i=[iv (k+5*(i:Int)),iv (k+5*(i:Int)+1),iv (k+5*(i:Int)+2),iv (k+5*(i:Int)+3),iv (k+5*(i:Int)+4)]:=by rw [hf]
  rw [hfi] at hs;have hl:=z87 (f:=f) (l:=t.map nd) (i:=i) (by simp; omega);simp at hl;simp [-getElem?_pos,h0,h1,h5,hS,hep,h,hg,hs,hl,hw,w1,w2,w3,w4,w5,nd];exact zai (n-1) (by omega) ⟨i+1,by omega,by simp [h0]⟩
 ·simp at h;have e:=z8x (f:=f) (l:=t.map nd) (i:=i) (by simp; omega);have e2:i=t.length:=by omega
  subst e2;simp [hS,e,h1];simp [zfd,hf,Function.comp_def,nd]
def lvs:List Nd->Int->List Int
 | [],_=>[]
 | x::xs,i=>if x.f = -1 then i::lvs xs (i+1) else lvs xs (i+1)
theorem ybz : ∀ (t:List Nd) (i:Int),(lvs t i).length<=t.length
 | [],_=>by simp [lvs]
 | x::xs,i=>by
  have:=ybz xs (i+1);simp only [lvs];split <;> simp <;> omega
theorem zc3 {α:Type} {l:List α} {i:Nat} {x:α} (h:l[i]?=some x):l.drop i=x::l.drop (i+1):=by
 obtain ⟨h1,h2⟩:=bD h;rw [List.drop_eq_getElem_cons h1,h2]
theorem y7e (t:List Nd) (hl:t.length<=1048576):RUN T zrl [.agg [.sl 5 (t.map nd)]]=some ([.own 1 (zab (lvs t 0))],[]):=by
 refine zae rfl rfl ?_;simp [z21,zzr];refine zan (fun n st => ∃ i:Nat,i+n=t.length/\∃ (m:List Int) (o e:Nat),m++lvs (t.drop i) i=lvs t 0/\st.V 8 = .sl 5 (t.map nd)/\st.V 9=iv t.length/\st.V 3 = .ref o none e 0 m.length/\st.V 10=iv i/\o<st.nx/\st.S o=some (.row 1 (zab m))) ?_ t.length _ ⟨0,by simp,[],1,0,by simp⟩;rintro n st ⟨i,hi,m,o,e,hm,h8,h9,h3,h10,hox,hSo⟩;simp [yfm,h8,h9,h10];refine zay (fun h => ?_) (fun h => ?_)
 ·simp at h;obtain ⟨x,hx⟩ : ∃ x,t[i]?=some x:=⟨_,bG h⟩;have hw:=wS h (by omega:t.length<=9223372036854775807);have hr:zaj 8 (m.length+1)=true:=zc4 (by
   have h5:=congrArg List.length hm;have h6:=ybz t 0;simp at h5; omega)
  have n1 : ¬ o=st.nx:=by omega
  have n2 : ¬ o=st.nx+1:=by omega
  simp [-getElem?_pos,h8,h9,h3,h10,hSo,n1,n2,hx,nd,hw,hr,zc8];refine zay (fun b0 => ?_) (fun b0 => ?_) <;> (try simp at b0) <;> simp [-getElem?_pos,b0,h8,h9,h3,h10,hSo,n1,n2,hx,hw,hr,zc8]
  ·refine zai (n-1) (by omega) ⟨i+1,by omega,m++[(i:Int)],st.nx+2,st.ep,?_,by simp [h8,h9]⟩;rw [<- hm,zc3 hx,lvs,if_pos b0]; simp
  ·refine zai (n-1) (by omega) ⟨i+1,by omega,m,o,e,?_,by simp [h8],by simp [h9],by simp [h3],by simp,by simp; omega,by simp [hSo,n1]⟩;rw [<- hm,zc3 hx,lvs,if_neg b0]; simp
 ·simp at h;have e:m=lvs t 0:=by rw [<- hm,List.drop_eq_nil_of_le h]; simp [lvs]
  simp [h3,hSo,e]
def rt (t:List Nd) (row:List Int):Nat->Int->Option (List Int)
 | 0,_=>none
 | n+1,a=>match (if 0<=a then t[a.toNat]? else none) with
  | none=>none
  | some x=>if x.f = -1 then some [a] else match (if 0<=x.f then row[x.f.toNat]? else none) with
   | none=>none
   | some y=>(rt t row n (if y<=x.c then x.l else x.r)).map (a :: ·)
theorem yoz {t:List Nd} {row:List Int} {n:Nat} {a:Int} (h:a<0\/(t.length:Int)-1<a):rt t row n a=none:=by
 cases n with
 | zero=>rfl
 | succ n =>
  rw [rt];have:(if 0<=a then t[a.toNat]? else none)=none:=by
   split
   ·exact List.getElem?_eq_none (by omega)
   ·rfl
  rw [this]
theorem yoc {t:List Nd} {row:List Int} {n a:Nat} {x:Nd} (hx:t[a]?=some x) (h:x.f = -1):rt t row (n+1) a=some [(a:Int)]:=by
 rw [rt]; simp [hx,h]
theorem yo9 {t:List Nd} {row:List Int} {n a:Nat} {x:Nd} (hx:t[a]?=some x) (h:x.f ≠ -1) (h2:x.f<0\/(row.length:Int)-1<x.f):rt t row (n+1) a=none:=by
 rw [rt];have:(if 0<=x.f then row[x.f.toNat]? else none)=none:=by
  split
  ·exact List.getElem?_eq_none (by omega)
  ·rfl
 simp [hx,h,this]
theorem yox {t:List Nd} {row:List Int} {n a f:Nat} {x:Nd} {y:Int} (hx:t[a]?=some x) (h:x.f=f) (hy:row[f]?=some y):rt t row (n+1) a=(rt t row n (if y<=x.c then x.l else x.r)).map ((a:Int) :: ·):=by
 rw [rt];have:x.f ≠ -1:=by omega
 simp [hx,this,h,hy]
def zib (t:List Nd) (row:List Int):List Int:=(rt t row (t.length+1) 0).getD []
theorem y7f (t:List Nd) (row:List Int) (hl:t.length<=1048576) (hr:row.length<=1048576):RUN T zru [.agg [.sl 5 (t.map nd)],.sl 1 (zab row)]=some ([.own 1 (zab (zib t row))],[]):=by
 refine zae rfl rfl ?_;simp [z3l,z18];obtain ⟨r,hrr⟩ : ∃ r,r=rt t row (t.length+1) 0:=⟨_,rfl⟩;unfold zib;rw [<- hrr];refine zan (fun n st => ∃ i:Nat,i+n=t.length+1/\∃ (a:Int) (m:List Int) (o e:Nat),m.length=i/\(rt t row n a).map (m ++ ·)=r/\st.V 1 = .sl 1 (zab row)/\st.V 2 = .ptr 0 none 0 0 0/\st.V 5 = .ref o none e 0 m.length/\st.V 6=iv a/\st.V 7=iv i/\0<o/\o<st.nx/\st.S o=some (.row 1 (zab m))/\st.S 0=some (.box [.sl 5 (t.map nd)])) ?_ (t.length+1) _ ⟨0,by simp,0,[],1,0,by simp [hrr]⟩;rintro n st ⟨i,hi,a,m,o,e,hmi,hm,h1,h2,h5,h6,h7,ho,hox,hSo,hS⟩;simp [yfp,h1,h2,h5,h6,h7,hS];refine zay (fun h => ?_) (fun h => ?_)
 ·simp at h;obtain ⟨q,rfl⟩ : ∃ q,n=q+1:=⟨n-1,by omega⟩;have hw:=w64 (x:=(t.length:Int)-1) (by omega) (by omega);have hwi:=w64 (x:=(i:Int)+1) (by omega) (by omega);have hwr:=w64 (x:=(row.length:Int)-1) (by omega) (by omega);simp [h1,h2,h5,h6,h7,hS,hw];refine zay (fun h3 => ?_) (fun h3 => ?_)
  ·simp at h3;rw [yoz h3] at hm;simp at hm;simp [<- hm]
  ·have h3':0<=a/\a<=(t.length:Int)-1:=by simpa using h3
   obtain ⟨a,rfl⟩ : ∃ a':Nat,a=a':=⟨a.toNat,by omega⟩;obtain ⟨x,hx⟩ : ∃ x,t[a]?=some x:=⟨_,bG (by omega)⟩;have z1:=fr hox;have z2:=fr ho;have z3:=fr (by omega:0<st.nx);have hr8:=zc4 (n:=m.length+1) (by omega);simp [-getElem?_pos,h1,h2,h5,h6,h7,hS,hSo,z1,z2,z3,hx,nd,hr8,zc8,hwr];refine zay (fun h4 => ?_) (fun h4 => ?_)
   ·simp at h4;rw [yoc hx h4] at hm;simp at hm;simp [<- hm]
   ·simp at h4;simp [-getElem?_pos,h1,h2,h5,h6,h7,hS,hSo,z1,z2,z3,hx,hr8,zc8,hwr];refine zay (fun h8 => ?_) (fun h8 => ?_)
    ·simp at h8;rw [yo9 hx h4 h8] at hm;simp at hm;simp [<- hm]
    ·have h8':0<=x.f/\x.f<=(row.length:Int)-1:=by simpa using h8
     obtain ⟨f,hf⟩ : ∃ f:Nat,x.f=f:=⟨x.f.toNat,by omega⟩;obtain ⟨y,hy⟩ : ∃ y,row[f]?=some y:=⟨_,bG (by omega)⟩;have hfl:f<row.length:=by omega
     rw [yox hx hf hy] at hm;have hy':=zaz hy;simp [-getElem?_pos,h1,h2,h5,h6,h7,hS,hSo,z1,z2,z3,hr8,zc8,hwr,hf,hy',hfl,hwi];refine zay (fun b0 => ?_) (fun b0 => ?_) <;> (try simp at b0) <;> simp [-getElem?_pos,b0,h1,h2,h5,h6,h7,hS,hSo,z1,z2,z3,hf,hwi]
     all_goals
      refine zai q (by omega) ⟨i+1,by omega,_,m++[(a:Int)],st.nx+2,st.ep,by simp [hmi],?_,by simp [h1],by simp [h2],by simp,by simp; rfl,by simp,by omega,by simp [z2,z3,hS]⟩;rw [<- hm]
      first | rw [if_pos b0] | rw [if_neg (by omega)]
      simp [Function.comp_def]
 ·simp at h;obtain rfl:n=0:=by omega
  simp [rt] at hm;simp [<- hm]
theorem y7g (t:List Nd) (row:List Int) (hl:t.length<=1048576) (hr:row.length<=1048576):RUN T zrb [.agg [.sl 5 (t.map nd)],.sl 1 (zab row)]=some ([.own 1 (zab (zib t row))],[]):=by
 refine zae rfl rfl ?_;have hw1:=w64 (x:=(t.length:Int)+1) (by omega) (by omega);simp [z2i,z18,hw1];obtain ⟨r,hrr⟩ : ∃ r,r=rt t row (t.length+1) 0:=⟨_,rfl⟩;unfold zib;rw [<- hrr];refine zan (fun n st => ∃ i:Nat,i+n=t.length+1/\∃ (a:Int) (m:List Int) (o e:Nat),m.length=i/\(rt t row n a).map (m ++ ·)=r/\st.V 1 = .sl 1 (zab row)/\st.V 2 = .ptr 0 none 0 0 0/\st.V 5 = .ref o none e 0 m.length/\st.V 6=iv a/\st.V 13=iv i/\st.V 12=iv ((t.length:Int)+1)/\0<o/\o<st.nx/\st.S o=some (.row 1 (zab m))/\st.S 0=some (.box [.sl 5 (t.map nd)])) ?_ (t.length+1) _ ⟨0,by simp,0,[],1,0,by simp [hrr]⟩;rintro n st ⟨i,hi,a,m,o,e,hmi,hm,h1,h2,h5,h6,h13,h12,ho,hox,hSo,hS⟩;simp [yfl,h13,h12];refine zay (fun h => ?_) (fun h => ?_)
 ·simp at h;obtain ⟨q,rfl⟩ : ∃ q,n=q+1:=⟨n-1,by omega⟩;have hw:=w64 (x:=(t.length:Int)-1) (by omega) (by omega);have hwi:=w64 (x:=(i:Int)+1) (by omega) (by omega);have hwr:=w64 (x:=(row.length:Int)-1) (by omega) (by omega);simp [h1,h2,h5,h6,hS,hw];refine zay (fun h3 => ?_) (fun h3 => ?_)
  ·simp at h3;rw [yoz h3] at hm;simp at hm;simp [<- hm]
  ·have h3':0<=a/\a<=(t.length:Int)-1:=by simpa using h3
   obtain ⟨a,rfl⟩ : ∃ a':Nat,a=a':=⟨a.toNat,by omega⟩;obtain ⟨x,hx⟩ : ∃ x,t[a]?=some x:=⟨_,bG (by omega)⟩;have z1:=fr hox;have z2:=fr ho;have z3:=fr (by omega:0<st.nx);have hr8:=zc4 (n:=m.length+1) (by omega);simp [-getElem?_pos,h1,h2,h5,h6,hS,hSo,z1,z2,z3,hx,nd,hr8,zc8,hwr];refine zay (fun h4 => ?_) (fun h4 => ?_)
   ·simp at h4;rw [yoc hx h4] at hm;simp at hm;simp [<- hm]
   ·simp at h4;simp [-getElem?_pos,h1,h2,h5,h6,hS,hSo,z1,z2,z3,hx,hr8,zc8,hwr];refine zay (fun h8 => ?_) (fun h8 => ?_)
    ·simp at h8;rw [yo9 hx h4 h8] at hm;simp at hm;simp [<- hm]
    ·have h8':0<=x.f/\x.f<=(row.length:Int)-1:=by simpa using h8
     obtain ⟨f,hf⟩ : ∃ f:Nat,x.f=f:=⟨x.f.toNat,by omega⟩;obtain ⟨y,hy⟩ : ∃ y,row[f]?=some y:=⟨_,bG (by omega)⟩;have hfl:f<row.length:=by omega
     rw [yox hx hf hy] at hm;have hy':=zaz hy;simp [-getElem?_pos,h1,h2,h5,h6,h13,h12,hS,hSo,z1,z2,z3,hr8,zc8,hwr,hf,hy',hfl,hwi];refine zay (fun b0 => ?_) (fun b0 => ?_) <;> (try simp at b0) <;> simp [-getElem?_pos,b0,h1,h2,h5,h6,h13,h12,hS,hSo,z1,z2,z3,hf,hwi]
     all_goals
      refine zai q (by omega) ⟨i+1,by omega,_,m++[(a:Int)],st.nx+2,st.ep,by simp [hmi],?_,by simp [h1],by simp [h2],by simp,by simp; rfl,by simp,by simp [h12],by omega,by simp [z2,z3,hS]⟩;rw [<- hm]
      first | rw [if_pos b0] | rw [if_neg (by omega)]
      simp [Function.comp_def]
 ·simp at h;obtain rfl:n=0:=by omega
  simp [rt] at hm;simp [<- hm]
theorem ys9 (t:List Nd) (row:List Int) : ∀ (n:Nat) (a:Int) (l:List Int),rt t row n a=some l->l.length<=n/\l≠[]/\∀ k∈l,0<=k/\k<t.length
 | 0,_,_,h=>by cases h
 | n+1,a,l,h=>by
  rw [rt] at h;have ha : ∀ x,(if 0<=a then t[a.toNat]? else none)=some x->0<=a/\a<t.length:=by
   intro x hx;split at hx
   ·have:=(bD hx).1; omega
   ·cases hx
  split at h
  ·cases h
  ·rename_i x hx;have hax:=ha x hx;split at h
   ·cases h; simpa using hax
   ·split at h
    ·cases h
    ·simp only [bB] at h;obtain ⟨m,hm,rfl⟩:=h;have:=ys9 t row n _ m hm;refine ⟨by simp; omega,by simp,fun k hk => ?_⟩;rcases List.mem_cons.mp hk with e | e
     ·subst e; exact hax
     ·exact this.2.2 k e
theorem ycl (t:List Nd) (row:List Int):(zib t row).length<=t.length+1/\∀ k∈zib t row,0<=k/\k<t.length:=by
 unfold zib;cases h:rt t row (t.length+1) 0 with
 | none=>simp
 | some l=>have:=ys9 t row _ _ l h; exact ⟨this.1,this.2.2⟩
def rto (t:List Nd) (row:List Int):Int:=((zib t row).getLast?).getD (-1)
theorem ysr {t:List Nd} {row:List Int}:rto t row = -1\/∃ i:Nat,rto t row=i/\i<t.length:=by
 unfold rto;cases h:(zib t row).getLast? with
 | none=>exact .inl rfl
 | some k =>
  have:=(ycl t row).2 k (List.mem_of_getLast? h);exact .inr ⟨k.toNat,by simp; omega,by omega⟩
theorem y7h (t:List Nd) (row:List Int) (hl:t.length<=1048576) (hr:row.length<=1048576):RUN T zqr [.agg [.sl 5 (t.map nd)],.sl 1 (zab row)]=some ([iv (rto t row)],[]):=by
 refine zae rfl rfl ?_;have hw:=(ycl t row).1;simp [z0r,zs6,y7f t row hl hr];refine zay (fun h => ?_) (fun h => ?_)
 ·simp at h;simp [rto,h]
 ·simp at h;obtain ⟨l,x,hlx⟩ : ∃ l x,zib t row=l++[x]:=⟨_,_,(List.dropLast_concat_getLast h).symm⟩;have e1:rto t row=x:=by simp [rto,hlx]
  rw [e1];rw [hlx] at hw ⊢;simp at hw;have hwr:IntKind.i64.wrap (l.length:Int)=(l.length:Int):=w64 (by omega) (by omega);have hg:=zaz (l:=l++[x]) (i:=l.length) (x:=x) (by simp);simp [-getElem?_pos,hwr,hg]
theorem y7i (t:List Nd) (row:List Int) (hl:t.length<=1048576) (hr:row.length<=1048576):RUN T zqi [.agg [.sl 5 (t.map nd)],.sl 1 (zab row)]=some ([iv (rto t row)],[]):=by
 refine zae rfl rfl ?_;have hw:=(ycl t row).1;simp [z0f,zs6,y7g t row hl hr];refine zay (fun h => ?_) (fun h => ?_)
 ·simp at h;simp [rto,h]
 ·simp at h;obtain ⟨l,x,hlx⟩ : ∃ l x,zib t row=l++[x]:=⟨_,_,(List.dropLast_concat_getLast h).symm⟩;have e1:rto t row=x:=by simp [rto,hlx]
  rw [e1];rw [hlx] at hw ⊢;simp at hw;have hwr:IntKind.i64.wrap (l.length:Int)=(l.length:Int):=w64 (by omega) (by omega);have hg:=zaz (l:=l++[x]) (i:=l.length) (x:=x) (by simp);simp [-getElem?_pos,hwr,hg]
def evt (t:List Nd) (row:List Int):Int:=if rto t row<0 then 0 else ((t[(rto t row).toNat]?).map (·.v)).getD 0
theorem y7j (t:List Nd) (row:List Int) (hl:t.length<=1048576) (hr:row.length<=1048576):RUN T zpv [.agg [.sl 5 (t.map nd)],.sl 1 (zab row)]=some ([iv (evt t row)],[]):=by
 refine zae rfl rfl ?_;simp [zy0,zs6,y7h t row hl hr];unfold evt;rcases ysr (t:=t) (row:=row) with h | ⟨i,h,hi⟩
 ·simp [h]
 ·obtain ⟨x,hx⟩ : ∃ x,t[i]?=some x:=⟨_,bG hi⟩;rw [h];have h0 : ¬ ((i:Int)<0):=by omega
  simp [-getElem?_pos,h0,hx,nd]
theorem y7k (t:List Nd) (row:List Int) (hl:t.length<=1048576) (hr:row.length<=1048576):RUN T zps [.agg [.sl 5 (t.map nd)],.sl 1 (zab row)]=some ([iv (evt t row)],[]):=by
 refine zae rfl rfl ?_;simp [zyy,zs6,y7i t row hl hr];unfold evt;rcases ysr (t:=t) (row:=row) with h | ⟨i,h,hi⟩
 ·simp [h]
 ·obtain ⟨x,hx⟩ : ∃ x,t[i]?=some x:=⟨_,bG hi⟩;rw [h];have h0 : ¬ ((i:Int)<0):=by omega
  simp [-getElem?_pos,h0,hx,nd]
def inI (n:Int):Prop := -9223372036854775808<=n/\n<=9223372036854775807
def box (t:List Nd) (f:Int):List Int->Int->Int->Int×Int
 | a::b::r,lo,hi=>match t[a.toNat]? with
  | none=>(lo,hi)
  | some x=>if x.f=f then (if x.l=b then box t f (b::r) lo (min hi x.c) else if x.c=9223372036854775807 then box t f (b::r) lo hi else box t f (b::r) (max lo (x.c+1)) hi) else box t f (b::r) lo hi
 | _,lo,hi=>(lo,hi)
def wfN (n:Nd):Prop:=inI n.f/\inI n.c/\inI n.l/\inI n.r/\inI n.v
theorem y7l {f:Nat} {p:Int->Bool} (l:List Int) (hl:l.length<=9223372036854775807) (hm:zad T f=[]) (hp : ∀ n∈l,RUN T f [iv n]=some ([bv (p n)],[])) :
  RUN T zm4 [.sl 1 (zab l),.fn f []]=some ([iv (zh2 p l)],[]):=by
 refine zae rfl rfl ?_;simp [zv3,zs6];refine zan (fun n st => ∃ i:Nat,i+n=l.length/\st.V 0 = .sl 1 (zab l)/\st.V 1 = .fn f []/\st.V 8=iv i/\st.V 7=iv l.length/\∀ (j:Nat) (x:Int),j<i->l[j]?=some x->p x=false) ?_ l.length _ ⟨0,by simp⟩;rintro n st ⟨i,hi,h0,h1,h8,h7,hj⟩;simp [yac,h0,h1,h8,h7];refine zay (fun h => ?_) (fun h => ?_)
 ·simp at h;obtain ⟨x,hx⟩ : ∃ x,l[i]?=some x:=⟨_,bG h⟩;have hw:=wS h hl;have hx':=zaz hx;have hpx:=hp x (bF hx);simp [-getElem?_pos,h0,h1,h8,h7,hx',hw,hm,hpx,h];refine zay (fun b0 => ?_) (fun b0 => ?_) <;> (try simp at b0) <;> simp [-getElem?_pos,b0,h0,h1,h8,h7,hx',hw]
  all_goals first
   | exact (z9q hx b0 hj).symm
   | exact zai (n-1) (by omega) ⟨i+1,by omega,by simp [h0],by simp [h1],by simp,by simp [h7],ydu hj hx b0⟩
 ·simp at h;simp [h];exact (z9f fun j x hl hx=>hj j x (by omega) hx).symm
theorem z81 {α:Type} {p:α->Bool} {l:List α}:decide (0<=zh2 p l)=l.any p:=by
 unfold zh2;cases h:l.findIdx? p with
 | none =>
  rw [List.findIdx?_eq_none_iff] at h;simp;exact fun x hx=>h x hx
 | some i =>
  obtain ⟨h1,h2,_⟩:=List.findIdx?_eq_some_iff_getElem.mp h;simp;exact ⟨_,List.getElem_mem h1,h2⟩
theorem yat {f:Nat} {p:Int->Bool} (l:List Int) (hl:l.length<=9223372036854775807) (hm:zad T f=[]) (hp : ∀ n∈l,RUN T f [iv n]=some ([bv (p n)],[])) :
  RUN T zis [.sl 1 (zab l),.fn f []]=some ([bv (l.any p)],[]):=by
 refine zae rfl rfl ?_;have e:=y7l l hl hm hp;simp [zvo,zs6,e,z81]
structure Cfg where
 ro:Int
 de:Int
 bi:Int
 la:Int
 rw:Int
 nu:Int
 dn:Int
 sg:List Int
def zah (n a b:Int):Bool:=decide (a<=n) && decide (n<=b)
def zbk (c:Cfg):Bool:=zah c.ro 1 8 && zah c.de 0 4 && zah c.bi 2 8 && zah c.la 1 100 && zah c.rw 1 20 && zah c.dn 1 1000 && zah c.nu 1 c.dn && decide ((c.sg.length:Int)<=4) && c.sg.all fun n=>zah n (-1) 1
@[simp] theorem qpj (n:Int):RUN T zqg [iv n]=some ([bv (zah n (-1) 1)],[]):=by
 refine zae rfl rfl ?_;simp [zz9,zj1,zah]
@[simp] theorem y7m (n:Int):RUN T zm1 [iv n]=some ([bv (!zah n (-1) 1)],[]):=by
 refine zae rfl rfl ?_;simp [z1v,zj1]
theorem zcs (a b c:Int):RUN T zbt [iv a,iv b,iv c]=some ([bv (zah a b c)],[]):=zbm a b c
theorem zbn (a b c:Int):RUN T zbs [iv a,iv b,iv c]=some ([bv (zah a b c)],[]):=za3 a b c
theorem z7q (c:Cfg) (hl:c.sg.length<=9223372036854775807):RUN T zjp [.agg [iv c.ro,iv c.de,iv c.bi,iv c.la,iv c.rw,iv c.nu,iv c.dn,.sl 1 (zab c.sg)]]=some ([bv (zbk c)],[]):=by
 refine zae rfl rfl ?_;have e:=yat (f:=zm1) (p:=fun n => !zah n (-1) 1) c.sg hl (by simp) (fun n _=>y7m n);have e2 : ∀ l:List Int,(l.any fun n => !zah n (-1) 1) = !(l.all fun n=>zah n (-1) 1):=by intro l; induction l <;> simp_all
 rw [e2] at e;simp [zzw,zj1,zcs,-zbm];cases h0:zah c.ro 1 8 <;> cases h1:zah c.de 0 4 <;> simp [h0,h1,zcs,-zbm]
 all_goals try (simp [zbk,h0,h1]; done)
 cases h2:zah c.bi 2 8 <;> cases h3:zah c.la 1 100 <;> simp [h2,h3,zcs,-zbm]
 all_goals try (simp [zbk,h2,h3]; done)
 cases h4:zah c.rw 1 20 <;> cases h5:zah c.dn 1 1000 <;> simp [h4,h5,zcs,-zbm]
 all_goals try (simp [zbk,h4,h5]; done)
 cases h6:zah c.nu 1 c.dn <;> simp [h6,zcs,-zbm]
 all_goals try (simp [zbk,h6]; done)
 by_cases h7:(c.sg.length:Int)<=4
 ·simp [h7,e,zbk,h0,h1,h2,h3,h4,h5,h6]
 ·simp [h7,zbk]
theorem zur {m:Nat->List Bool} {R:zak} {c:IC} {st:St} {Q:Ex->St->Prop} (h:W m R c st (Nx (fun s=>W m R (.loop c) s Q) Q ⟨⟩ ⟨⟩)):W m R (.loop c) st Q:=qfl ▸ h
theorem y7n (a b c d e f g:Int) (x:PV) (sg:List (List PV)):RUN T zp4 [.agg [iv a,iv b,iv c,iv d,iv e,iv f,iv g,.sl 1 sg]]=some ([.own 1 (zab [a,b,c,d,e])],[]):=by
 refine zae rfl rfl ?_;simp [zzq,zzr,zab]
theorem zxh:RUN T zp5 []=some ([.own 1 (zab [1,0,2,1,1])],[]):=by
 refine zae rfl rfl ?_;simp [zzs,zzt,zab]
theorem zxi:RUN T zp6 []=some ([.own 1 (zab [8,4,8,100,20])],[]):=by
 refine zae rfl rfl ?_;simp [zzu,zzt,zab]
theorem z7r (c:Cfg) (hl:c.sg.length<=9223372036854775807):RUN T zjm [.agg [iv c.ro,iv c.de,iv c.bi,iv c.la,iv c.rw,iv c.nu,iv c.dn,.sl 1 (zab c.sg)]]=some ([bv (zbk c)],[]):=by
 refine zae rfl rfl ?_;have e1:=y7n c.ro c.de c.bi c.la c.rw c.nu c.dn .undef (zab c.sg);simp [zyu,zj1,e1];refine zur ?_;simp [zn4,zxh,zxi,zbn,-za3,zxp];cases h0:zah c.ro 1 8 <;> simp [h0]
 ·simp [zbk,h0]
 refine zur ?_;simp [zn4,zxh,zxi,zbn,-za3,zxp];cases h1:zah c.de 0 4 <;> simp [h1]
 ·simp [zbk,h1]
 refine zur ?_;simp [zn4,zxh,zxi,zbn,-za3,zxp];cases h2:zah c.bi 2 8 <;> simp [h2]
 ·simp [zbk,h2]
 refine zur ?_;simp [zn4,zxh,zxi,zbn,-za3,zxp];cases h3:zah c.la 1 100 <;> simp [h3]
 ·simp [zbk,h3]
 refine zur ?_;simp [zn4,zxh,zxi,zbn,-za3,zxp];cases h4:zah c.rw 1 20 <;> simp [h4]
 ·simp [zbk,h4]
 refine zur ?_;simp [zn4];refine zan (fun n st => ∃ i:Nat,i+n=c.sg.length/\st.V 1 = .ptr 0 none 0 0 0/\st.V 5=iv i/\st.S 0=some (.box [iv c.ro,iv c.de,iv c.bi,iv c.la,iv c.rw,iv c.nu,iv c.dn,.sl 1 (zab c.sg)])/\∀ (j:Nat) (x:Int),j<i->c.sg[j]?=some x->zah x (-1) 1=true) ?_ c.sg.length _ ⟨0,by simp⟩;rintro n st ⟨i,hi,h1',h5,hS,hj⟩;simp [yex,h1',h5,hS];refine zay (fun h => ?_) (fun h => ?_)
 ·simp at h;obtain ⟨x,hx⟩ : ∃ x,c.sg[i]?=some x:=⟨_,bG h⟩;have hw:=wS h hl;have hx':=zaz hx;simp [-getElem?_pos,h1',h5,hS,hx',hw,h,zbn,-za3];cases hb:zah x (-1) 1 with
  | true =>
   simp [-getElem?_pos,h1',h5,hS,hw];refine zai (n-1) (by omega) ⟨i+1,by omega,by simp [h1'],by simp,by simp [hS],fun j y hj' hy => ?_⟩
   by_cases e:j=i
   ·subst e; rw [hx] at hy; cases hy; exact hb
   ·exact hj j y (by omega) hy
  | false =>
   simp [zbk]
   intros
   exact ⟨x,bF hx,hb⟩
 ·simp at h;have hall:(c.sg.all fun n=>zah n (-1) 1)=true:=by
   rw [List.all_eq_true];intro x hx;obtain ⟨j,hj'⟩:=bH hx;exact hj j x (by have:=(bD hj').1; omega) hj'
  simp [h1',hS,zbn,-za3];cases h5:zah c.dn 1 1000 <;> simp [h1',hS,h5,zbn,-za3]
  ·simp [zbk,h5]
  cases h6:zah c.nu 1 c.dn <;> simp [h1',hS,h6,zbn,-za3]
  ·simp [zbk,h6]
  simp [zbk,h0,h1,h2,h3,h4,h5,h6,hall]
def fdv (a b:Int):Int×Bool:=if b=0\/(b = -1/\a = -9223372036854775808) then (0,false) else (a.fdiv b,true)
theorem yri {a b:Int} (ha:inI a) (hb:b≠0) (h : ¬ (b = -1/\a = -9223372036854775808)) : -9223372036854775808<=a.tdiv b/\a.tdiv b<=9223372036854775807/\(b≠1 -> -9223372036854775808<=a.tdiv b-1):=by
 obtain ⟨h1,h2⟩:=ha;have h3:(a.tdiv b).natAbs=a.natAbs / b.natAbs:=Int.natAbs_tdiv a b;have h4:a.natAbs / b.natAbs<=a.natAbs:=Nat.div_le_self _ _
 by_cases c:b=1
 ·subst c; simp; omega
 by_cases c2:b = -1
 ·subst c2; simp; omega
 have h5:a.natAbs / b.natAbs<=a.natAbs / 2:=Nat.div_le_div_left (by omega) (by omega);omega
theorem ynd (a b:Int) (hb:b≠0):a.fdiv b=if a.tmod b≠0/\¬ (a<0↔b<0) then a.tdiv b-1 else a.tdiv b:=by
 rw [Int.fdiv_eq_tdiv];have hd:b ∣ a↔a.tmod b=0:=Int.dvd_iff_tmod_eq_zero
 by_cases c:b ∣ a
 ·rw [if_pos c,if_neg (by rw [hd.mp c]; simp)]; simp
 ·have hc:a.tmod b≠0:=fun e=>c (hd.mpr e);have ha:a≠0:=fun e=>c (by subst e; exact ⟨0,by simp⟩);rw [if_neg c];rcases Int.lt_or_gt_of_ne hb with s2 | s2
  ·rw [if_neg (by omega : ¬ 0<=b),if_neg (by omega : ¬ 0<=b),Int.sign_eq_neg_one_of_neg s2]
   by_cases s1:0<=a
   ·rw [if_pos s1,if_pos ⟨hc,by omega⟩]
   ·rw [if_neg s1,if_neg (fun h=>h.2 (by omega))]; omega
  ·rw [if_pos (by omega:0<=b),if_pos (by omega:0<=b),Int.sign_eq_one_of_pos s2]
   by_cases s1:0<=a
   ·rw [if_pos s1,if_neg (fun h=>h.2 (by omega))]; omega
   ·rw [if_neg s1,if_pos ⟨hc,by omega⟩]
theorem yau (a b:Int) (ha:inI a):RUN T zlf [iv a,iv b]=some ([iv (fdv a b).1,bv (fdv a b).2],[]):=by
 refine zae rfl rfl ?_;simp [z1z,zj9]
 by_cases h0:b=0
 ·subst h0; simp [fdv]
 by_cases hbad:b = -1/\a = -9223372036854775808
 ·obtain ⟨rfl,rfl⟩:=hbad; simp [fdv]
 have hr:=yri ha h0 hbad;have hq:=w64 hr.1 hr.2.1;have hf:=ynd a b h0;have e1:fdv a b=(a.fdiv b,true):=by unfold fdv; rw [if_neg (by simp [h0]; intro h; exact fun h2=>hbad ⟨h,h2⟩)]
 rw [e1];have hq2:a.tmod b≠0->IntKind.i64.wrap (a.tdiv b-1)=a.tdiv b-1:=fun h=>w64 (hr.2.2 (by rintro rfl; simp at h)) (by omega);have f0:=eq_false h0;obtain ⟨p1,hp1⟩ : ∃ p,(b = -1)=p:=⟨_,rfl⟩;obtain ⟨p2,hp2⟩ : ∃ p,(a = -9223372036854775808)=p:=⟨_,rfl⟩;rw [hp1,hp2] at hbad
 by_cases c1:p1 <;> by_cases c2:p2
 ·exact (hbad ⟨c1,c2⟩).elim
 all_goals
  simp only [c1,c2] at hp1 hp2;simp [f0,hp1,hp2,hq]
  by_cases d0:a.tmod b=0
  ·rw [if_neg (by simp [d0])] at hf;simp [d0,hf]
  ·have hq3:=hq2 d0;have d1:=eq_false d0
   by_cases d2:a<0 <;> by_cases d3:b<0
   all_goals
    simp only [d2,d3,ne_eq,d1,not_false_eq_true,iff_self,not_true_eq_false,and_false,if_false,iff_true,iff_false,and_true,if_true,true_iff,false_iff] at hf;simp [d1,d2,d3,hq3,hf]
theorem yav (a b:Int) (ha:inI a):RUN T zlb [iv a,iv b]=some ([iv (fdv a b).1,bv (fdv a b).2],[]):=by
 refine zae rfl rfl ?_;simp [z0d,zj9]
 by_cases h0:b=0
 ·subst h0; simp [fdv]
 by_cases hbad:b = -1/\a = -9223372036854775808
 ·obtain ⟨rfl,rfl⟩:=hbad; simp [fdv]
 have hr:=yri ha h0 hbad;have hq:=w64 hr.1 hr.2.1;have hf:=ynd a b h0;have e1:fdv a b=(a.fdiv b,true):=by unfold fdv; rw [if_neg (by simp [h0]; intro h; exact fun h2=>hbad ⟨h,h2⟩)]
 rw [e1];have hq2:a.tmod b≠0->IntKind.i64.wrap (a.tdiv b-1)=a.tdiv b-1:=fun h=>w64 (hr.2.2 (by rintro rfl; simp at h)) (by omega);have f0:=eq_false h0;obtain ⟨p1,hp1⟩ : ∃ p,(b = -1)=p:=⟨_,rfl⟩;obtain ⟨p2,hp2⟩ : ∃ p,(a = -9223372036854775808)=p:=⟨_,rfl⟩;rw [hp1,hp2] at hbad
 by_cases c1:p1 <;> by_cases c2:p2
 ·exact (hbad ⟨c1,c2⟩).elim
 all_goals
  simp only [c1,c2] at hp1 hp2;simp [f0,hp1,hp2,hq]
  by_cases d0:a.tmod b=0
  ·rw [if_neg (by simp [d0])] at hf;simp [d0,hf]
  ·have hq3:=hq2 d0;have d1:=eq_false d0
   by_cases d2:a<0 <;> by_cases d3:b<0
   all_goals
    simp only [d2,d3,ne_eq,d1,not_false_eq_true,iff_self,not_true_eq_false,and_false,if_false,iff_true,iff_false,and_true,if_true,true_iff,false_iff] at hf;simp [d1,d2,d3,hq3,hf]
abbrev zcj (c:Cfg):PV := .agg [iv c.ro,iv c.de,iv c.bi,iv c.la,iv c.rw,iv c.nu,iv c.dn,.sl 1 (zab c.sg)]
abbrev z71 (c:Cfg):PV := .agg [iv c.ro,iv c.de,iv c.bi,iv c.la,iv c.rw,iv c.nu,iv c.dn,.own 1 (zab c.sg)]
theorem zaw {n a b:Int}:zah n a b=true↔a<=n/\n<=b:=by simp [zah]
theorem zo9 {c:Cfg} (h:zbk c=true):(1<=c.ro/\c.ro<=8)/\(0<=c.de/\c.de<=4)/\(2<=c.bi/\c.bi<=8)/\(1<=c.la/\c.la<=100)/\(1<=c.rw/\c.rw<=20)/\(1<=c.dn/\c.dn<=1000)/\(1<=c.nu/\c.nu<=c.dn)/\c.sg.length<=4/\∀ n∈c.sg,-1<=n/\n<=1:=by
 simp only [zbk,Bool.and_eq_true,zaw,decide_eq_true_eq,List.all_eq_true] at h;obtain ⟨⟨⟨⟨⟨⟨⟨⟨h1,h2⟩,h3⟩,h4⟩,h5⟩,h6⟩,h7⟩,h8⟩,h9⟩:=h;exact ⟨h1,h2,h3,h4,h5,h6,h7,by omega,h9⟩
def zfs (v:Int):Bool:=zah v (-1099511627776) 1099511627776
@[simp] theorem ylu (v:Int):RUN T zlk [iv v]=some ([bv (zfs v)],[]):=by
 refine zae rfl rfl ?_;simp [z3n,zj1,zfs,zah]
@[simp] theorem ylv (v:Int):RUN T zll [iv v]=some ([bv (zfs v)],[]):=by
 refine zae rfl rfl ?_;simp [z36,zj1,zfs,zah]
def shr (v:Int) (c:Cfg):Int×Bool:=if zbk c && zfs v then (( v*c.nu).fdiv c.dn,true) else (0,false)
theorem ynw {v:Int} {c:Cfg} (h:zbk c=true) (hv:zfs v=true):inI (v*c.nu)/\IntKind.i64.wrap (v*c.nu)=v*c.nu/\fdv (v*c.nu) c.dn=((v*c.nu).fdiv c.dn,true):=by
 obtain ⟨_,_,_,_,_,hd,hn,_⟩:=zo9 h;have h1:=zaw.mp hv;have h2 : -1099511627776*1000<=v*c.nu:=by
  have a1 : -1099511627776*c.nu<=v*c.nu:=Int.mul_le_mul_of_nonneg_right h1.1 (by omega);omega
 have h3:v*c.nu<=1099511627776*1000:=by
  have a1:v*c.nu<=1099511627776*c.nu:=Int.mul_le_mul_of_nonneg_right h1.2 (by omega);omega
 refine ⟨⟨by omega,by omega⟩,w64 (by omega) (by omega),?_⟩;unfold fdv;rw [if_neg (by omega)]
theorem y7o (v:Int) (c:Cfg) (hl:c.sg.length<=9223372036854775807):RUN T zrt [iv v,zcj c]=some ([iv (shr v c).1,bv (shr v c).2],[]):=by
 refine zae rfl rfl ?_;have e:=z7r c hl;simp [z3j,zj9,e];cases h:zbk c
 ·simp [shr,h]
 ·cases hv:zfs v
  ·simp [h,hv,shr]
  ·obtain ⟨h1,h2,h3⟩:=ynw h hv;have e2:=yau _ c.dn h1;rw [h3] at e2;simp [h,hv,shr,h2,e2]
theorem y7p (v:Int) (c:Cfg) (hl:c.sg.length<=9223372036854775807):RUN T zrm [iv v,zcj c]=some ([iv (shr v c).1,bv (shr v c).2],[]):=by
 refine zae rfl rfl ?_;have e:=z7q c hl;simp [z24,zj9,e];cases h:zbk c
 ·simp [shr,h]
 ·cases hv:zfs v
  ·simp [h,hv,shr]
  ·obtain ⟨h1,h2,h3⟩:=ynw h hv;have e2:=yav _ c.dn h1;rw [h3] at e2;simp [h,hv,shr,h2,e2]
theorem y7q (c:Cfg) (left:Int) (h0:0<=left) (h1:left<=1048576) (hl:c.sg.length<=9223372036854775807):RUN T zpx [zcj c,iv left]=some ([iv (if left-c.sg.length<0 then -1 else left-c.sg.length)],[]):=by
 refine zae rfl rfl ?_;have e:=yar (zab c.sg) left h0 h1 (by simpa using hl);simp only [yeq] at e
 by_cases h:left-c.sg.length<0
 ·simp only [h,if_true] at e ⊢;simp [zvf,zs6,e];intro _; omega
 ·simp only [h,if_false] at e ⊢;simp [zvf,zs6,e,h]
theorem y7r (c:Cfg) (hl:c.sg.length<=1048576):RUN T zjo [zcj c]=some ([z71 c],[]):=by
 refine zae rfl rfl ?_;simp [zy4,zy5,yas c.sg hl]
theorem y7s (c:Cfg) (hl:c.sg.length<=9223372036854775807):RUN T zpz [zcj c,zcj c]=some ([bv true],[]):=by
 refine zae rfl rfl ?_;simp [zza,zs6,z7o c.sg hl]
def zb7 (n:Int):Bool:=zah n (-2147483647) 2147483647
@[simp] theorem zon (v:Int):RUN T zk9 [iv v]=some ([bv (zb7 v)],[]):=by
 refine zae rfl rfl ?_;simp [zzo,zj1,zb7,zah]
@[simp] theorem qpk (v:Int):RUN T zqh [iv v]=some ([bv (zb7 v)],[]):=by
 refine zae rfl rfl ?_;simp [z0b,zj1,zb7,zah]
structure qfx (F:Int) (x:Nd) (i n m:Int):Prop where
 lo:n<=x.l
 lt:i<x.l
 r:x.r=x.l+1
 hi:x.r<m
 f:0<=x.f/\x.f<=F-1
 c:zb7 x.c=true
 v:x.v=0
structure Shaped (t:List Nd) (F:Int):Prop where
 leaf : ∀ (j:Nat) (x:Nd),t[j]?=some x->x.f = -1->x.c=0/\x.l=0/\x.r=0/\zfs x.v=true
 inner : ∀ (j:Nat) (x:Nd),t[j]?=some x->x.f ≠ -1->qfx F x j 1 t.length
 ord : ∀ (j j':Nat) (x y:Nd),j<j'->t[j]?=some x->t[j']?=some y->x.f ≠ -1->y.f ≠ -1->x.r<y.l
 cover : ∀ k:Int,1<=k->k<t.length->∃ (j:Nat) (x:Nd),t[j]?=some x/\x.f ≠ -1/\(x.l=k\/x.r=k)
 pos:1<=t.length
def adj (p:Int->Int->Bool):List Int->Bool
 | a::b::r=>p a b || adj p (b::r)
 | _=>false
theorem ycp {p:Int->Int->Bool} : ∀ {l:List Int},adj p l=true↔∃ (i:Nat) (a b:Int),l[i]?=some a/\l[i+1]?=some b/\p a b=true
 | []=>by simp [adj]
 | [x]=>by simp [adj]
 | x::y::r=>by
  simp only [adj,Bool.or_eq_true];rw [ycp (l:=y::r)];constructor
  ·rintro (h | ⟨i,a,b,h1,h2,h3⟩)
   ·exact ⟨0,x,y,rfl,rfl,h⟩
   ·exact ⟨i+1,a,b,by simpa using h1,by simpa using h2,h3⟩
  ·rintro ⟨i,a,b,h1,h2,h3⟩;cases i with
   | zero=>simp at h1 h2; subst h1; subst h2; exact .inl h3
   | succ i=>exact .inr ⟨i,a,b,by simpa using h1,by simpa using h2,h3⟩
theorem zku {α:Type} {P:Nat->α->Prop} {l:List α} {i:Nat} {x:α} (h : ∀ (j:Nat) (x:α),j<i->l[j]?=some x->P j x) (hi:l[i]?=some x) (hp:P i x) : ∀ (j:Nat) (x:α),j<i+1->l[j]?=some x->P j x:=by
 intro j y hj hy
 by_cases e:j=i
 ·subst e; rw [hi] at hy; cases hy; exact hp
 ·exact h j y (by omega) hy
def cel (q:Bool) (l:List Int):PV:=if q then .own 1 (zab l) else .sl 1 (zab l)
@[simp] theorem qqf (q:Bool) (l:List Int):fz (cel q l) = .sl 1 (zab l):=by cases q <;> simp [cel]
def rws (q:Bool) (L:List (List Int)):List (List PV):=L.map fun l=>[cel q l]
@[simp] theorem qtu (q:Bool) (L:List (List Int)):(rws q L).length=L.length:=by simp [rws]
theorem zcu {q:Bool} {L:List (List Int)} {i:Nat} {l:List Int} (h:L[i]?=some l):(rws q L)[i]?=some [cel q l]:=by simp [rws,h]
@[simp] theorem qpl (n:Int):RUN T znf [iv n]=some ([bv (!zb7 n)],[]):=by
 refine zae rfl rfl ?_;simp [z3v,zj1]
theorem yaw (l:List Int) (hl:l.length<=9223372036854775807):RUN T zle [.sl 1 (zab l)]=some ([bv (l.all zb7)],[]):=by
 refine zae rfl rfl ?_;have e:=yat (f:=znf) (p:=fun n => !zb7 n) l hl (by simp) (fun n _=>by simp);simp [z1p,zj1,e];simp [List.any_eq_not_all_not]
def zfx (l:List Int):Bool := !adj (fun a b=>decide (b<=a)) l && l.all zb7 && decide ((l.length:Int)<=7)
theorem yrd {p:Int->Int->Bool} {l:List Int} (h : ∀ (j:Nat) (a b:Int),l[j]?=some a->l[j+1]?=some b->p a b=false):adj p l=false:=by
 cases e:adj p l with
 | false=>rfl
 | true =>
  obtain ⟨j,a,b,h1,h2,h3⟩:=ycp.mp e;rw [h j a b h1 h2] at h3; cases h3
theorem yq8 {p:Int->Int->Bool} {l:List Int} {j:Nat} {a b:Int} (h1:l[j]?=some a) (h2:l[j+1]?=some b) (h3:p a b=true):adj p l=true:=ycp.mpr ⟨j,a,b,h1,h2,h3⟩
theorem zxl {l:List Int} {p:Int->Bool} {j:Nat} {a:Int} (h1:l[j]?=some a) (h2:p a=false):l.all p=false:=by
 cases e:l.all p with
 | false=>rfl
 | true=>rw [List.all_eq_true.mp e a (bF h1)] at h2; cases h2
theorem zx0 {l:List Int} {p:Int->Bool} (h : ∀ (j:Nat) (a:Int),j<l.length->l[j]?=some a->p a=true):l.all p=true:=by
 rw [List.all_eq_true];intro x hx;obtain ⟨j,hj⟩:=bH hx;exact h j x (bD hj).1 hj
theorem y7t (l:List Int) (hl:l.length<=9223372036854775807):RUN T zsf [.sl 1 (zab l)]=some ([bv (zfx l)],[]):=by
 refine zae rfl rfl ?_;have hd:=yaw l hl;simp [z43,zj1];refine zan (fun n st => ∃ i:Nat,i+n=l.length+1/\1<=i/\st.V 0 = .sl 1 (zab l)/\st.V 3=iv i/\∀ (j:Nat) (a b:Int),j+1<i->l[j]?=some a->l[j+1]?=some b->decide (b<=a)=false) ?_ l.length _ ⟨1,by omega,by omega,by simp,by simp,fun j a b h=>by omega⟩;rintro n st ⟨i,hi,h1,v0,v3,hj⟩;simp [yf0,v0,v3];refine zay (fun h => ?_) (fun h => ?_)
 ·simp at h;obtain ⟨k,rfl⟩ : ∃ k,i=k+1:=⟨i-1,by omega⟩;obtain ⟨a,ha⟩ : ∃ a,l[k]?=some a:=⟨_,bG (by omega)⟩;obtain ⟨b,hb⟩ : ∃ b,l[k+1]?=some b:=⟨_,bG h⟩;have ha':=zaz ha;have hb':=zaz hb;have hw:IntKind.i64.wrap ((k:Int)+1+1)=(k:Int)+1+1:=w64 (by omega) (by omega);have hw1:IntKind.i64.wrap (k:Int)=k:=w64 (by omega) (by omega);have hkl:k<l.length:=by omega
  simp [-getElem?_pos,v0,v3,ha',hb',hw1,h,hkl];refine zay (fun h2 => ?_) (fun h2 => ?_)
  ·simp at h2;have:zfx l=false:=by unfold zfx; rw [yq8 ha hb (by simpa using h2)]; rfl
   simp [this]
  ·simp at h2;simp [-getElem?_pos,v0,v3,hw];refine zai (n-1) (by omega) ⟨k+2,by omega,by omega,by simp [v0],by simp; omega,fun j x y hjk hx hy => ?_⟩
   by_cases e:j=k
   ·subst e; rw [ha] at hx; rw [hb] at hy; cases hx; cases hy; simp; omega
   ·exact hj j x y (by omega) hx hy
 ·simp at h;have e:adj (fun a b=>decide (b<=a)) l=false:=yrd fun j a b h1 h2=>hj j a b (by have:=(bD h2).1; omega) h1 h2;unfold zfx;rw [e]
  by_cases c:(l.length:Int)<=7
  ·simp [v0,hd,c]
  ·simp [v0,c]
theorem y7u (l:List Int) (hl:l.length<=9223372036854775807):RUN T zsj [.sl 1 (zab l)]=some ([bv (zfx l)],[]):=by
 refine zae rfl rfl ?_;simp [z5h,zj1];refine zan (fun n st => ∃ i:Nat,i+n=l.length/\st.V 0 = .sl 1 (zab l)/\st.V 3=iv i/\(∀ (j:Nat) (a:Int),j<i->l[j]?=some a->zb7 a=true)/\∀ (j:Nat) (a b:Int),j+1<i->l[j]?=some a->l[j+1]?=some b->decide (b<=a)=false) ?_ l.length _ ⟨0,by simp⟩;rintro n st ⟨i,hi,v0,v3,hd,hj⟩;simp [yf1,v0,v3];refine zay (fun h => ?_) (fun h => ?_)
 ·simp at h;obtain ⟨b,hb⟩ : ∃ b,l[i]?=some b:=⟨_,bG h⟩;have hb':=zaz hb;have hw:=wS h hl;rcases Bool.eq_false_or_eq_true (zb7 b) with d | d
  ·have hd':=zku (P:=fun _ a=>zb7 a=true) hd hb d;rcases i with _ | k
   ·simp [-getElem?_pos,v0,v3,hb',d,h,hw];exact zai (n-1) (by omega) ⟨1,by omega,by simp [v0],by simp,by simpa using hd',fun j x y hjk hx hy=>by omega⟩
   ·obtain ⟨a,ha⟩ : ∃ a,l[k]?=some a:=⟨_,bG (by omega)⟩;have ha':=zaz ha;have hw:IntKind.i64.wrap ((k:Int)+1+1)=(k:Int)+1+1:=w64 (by omega) (by omega);have hw1:IntKind.i64.wrap (k:Int)=k:=w64 (by omega) (by omega);have hkl:k<l.length:=by omega
    have hk0:(0:Int)<((k+1:Nat):Int):=by omega
    rcases Classical.propComplete (b<=a) with c | c
    ·have:zfx l=false:=by unfold zfx; rw [yq8 ha hb (by simp [c])]; rfl
     simp [-getElem?_pos,v0,v3,ha',hb',d,h,hw,hw1,hkl,hk0,c,this]
    ·simp [-getElem?_pos,v0,v3,ha',hb',d,h,hw,hw1,hkl,hk0,c];refine zai (n-1) (by omega) ⟨k+2,by omega,by simp [v0],by simp; omega,hd',fun j x y hjk hx hy => ?_⟩
     by_cases e:j=k
     ·subst e; rw [ha] at hx; rw [hb] at hy; cases hx; cases hy; simp [c]
     ·exact hj j x y (by omega) hx hy
  ·have:zfx l=false:=by unfold zfx; rw [zxl hb d]; simp
   simp [-getElem?_pos,v0,v3,hb',d,h,this]
 ·simp at h;have e:adj (fun a b=>decide (b<=a)) l=false:=yrd fun j a b h1 h2=>hj j a b (by have:=(bD h2).1; omega) h1 h2;have e2:l.all zb7=true:=zx0 fun j a h1 h2=>hd j a (by omega) h2;unfold zfx;rw [e,e2];simp [v0]
def zdj:List (List Int)->Nat
 | []=>0
 | l::_=>l.length
theorem ylw (q:Bool) (c v:List (List Int)):RUN T zln [.agg [.sl 1 (rws q c),.sl 1 (rws q v)]]=some ([iv (zdj v)],[]):=by
 refine zae rfl rfl ?_;cases v with
 | nil=>simp [zwr,zj1,zdj]
 | cons l L =>
  have h:rws q (l::L)=[cel q l]::rws q L:=rfl;have h0:((L.length:Int)+1=0)=False:=eq_false (by omega);simp [h0,zwr,zj1,zdj,h]
theorem yax (q:Bool) (c v:List (List Int)):RUN T zju [.agg [.sl 1 (rws q c),.sl 1 (rws q v)]]=some ([iv (zdj v)],[]):=by
 refine zae rfl rfl ?_;cases v with
 | nil=>simp [zv6,zj1,zdj]
 | cons l L =>
  have h:rws q (l::L)=[cel q l]::rws q L:=rfl;have h0:((L.length:Int)+1=0)=False:=eq_false (by omega);simp [h0,zv6,zj1,zdj,h]
theorem y7v {f:Nat} {c:PV} {p:Int->Bool} (l:List Int) (hl:l.length<=9223372036854775807) (hm:zad T f=[]) (hp : ∀ n∈l,RUN T f [iv n,.fptr [c] 0]=some ([bv (p n)],[])) :
  RUN T zm4 [.sl 1 (zab l),.fn f [.fptr [c] 0]]=some ([iv (zh2 p l)],[]):=by
 refine zae rfl rfl ?_;simp [zv3,zs6];refine zan (fun n st => ∃ i:Nat,i+n=l.length/\st.V 0 = .sl 1 (zab l)/\st.V 1 = .fn f [.fptr [c] 0]/\st.V 8=iv i/\st.V 7=iv l.length/\∀ (j:Nat) (x:Int),j<i->l[j]?=some x->p x=false) ?_ l.length _ ⟨0,by simp⟩;rintro n st ⟨i,hi,h0,h1,h8,h7,hj⟩;simp [yac,h0,h1,h8,h7];refine zay (fun h => ?_) (fun h => ?_)
 ·simp at h;obtain ⟨x,hx⟩ : ∃ x,l[i]?=some x:=⟨_,bG h⟩;have hw:=wS h hl;have hx':=zaz hx;have hpx:=hp x (bF hx);simp [-getElem?_pos,h0,h1,h8,h7,hx',hw,hm,hpx,h];refine zay (fun b0 => ?_) (fun b0 => ?_) <;> (try simp at b0) <;> simp [-getElem?_pos,b0,h0,h1,h8,h7,hx',hw]
  all_goals first
   | exact (z9q hx b0 hj).symm
   | exact zai (n-1) (by omega) ⟨i+1,by omega,by simp [h0],by simp [h1],by simp,by simp [h7],ydu hj hx b0⟩
 ·simp at h;simp [h];exact (z9f fun j x hl hx=>hj j x (by omega) hx).symm
theorem y7w {f:Nat} {c:PV} {p:Int->Bool} (l:List Int) (hl:l.length<=9223372036854775807) (hm:zad T f=[]) (hp : ∀ n∈l,RUN T f [iv n,.fptr [c] 0]=some ([bv (p n)],[])) :
  RUN T zis [.sl 1 (zab l),.fn f [.fptr [c] 0]]=some ([bv (l.any p)],[]):=by
 refine zae rfl rfl ?_;have e:=y7v l hl hm hp;simp [zvo,zs6,e,z81]
@[simp] theorem qpm (n:Int) (a:List Int):RUN T znp [iv n,.fptr [.sl 1 (zab a)] 0]=some ([bv (!zah n 0 a.length)],[]):=by
 refine zae rfl rfl ?_;simp [z45,z1u,zcs,-zbm]
theorem yq1 {s:St} {d:Option Dst} {op:IOp} {g:Opd} {v:Bool} {x:PV}:(yv s ⟨d,op,some (g,v)⟩=some x)=(Ob' (zih v (g.get s)) fun t=>Br t (WI (fun _=>[]) (fun _ _=>none) op s (fun y _=>y=x)) (PV.v Go.undef=x)):=by
 simp only [yv,yne,WI,Ob',Br,bB,Option.bind_eq_some_iff,eq_iff_iff];constructor
 ·rintro ⟨⟨y,s'⟩,⟨t,h1,h2⟩,h3⟩;refine ⟨t,h1,fun ht => ?_,fun ht => ?_⟩ <;> subst ht
  ·exact ⟨y,s',by simpa using h2,h3⟩
  ·simp at h2; obtain ⟨rfl,rfl⟩:=h2; exact h3
 ·rintro ⟨t,h1,h2,h3⟩;cases t with
  | true=>obtain ⟨y,s',h4,h5⟩:=h2 rfl; exact ⟨(y,s'),⟨true,h1,by simpa using h4⟩,h5⟩
  | false=>exact ⟨_,⟨false,h1,rfl⟩,h3 rfl⟩
@[simp] theorem qv7 {s:St} {d:Option Dst} {op:IOp} {g:Opd} {v:Bool} {x:PV} {n:Nat} {r:List (zac×PV×Nat)}:zcf s ((⟨d,op,some (g,v)⟩,x,n+1)::r)=((Ob' (zih v (g.get s)) fun t=>Br t (WI (fun _=>[]) (fun _ _=>none) op s (fun y _=>y=x)) (PV.v Go.undef=x))/\zcf s r):=by
 simp only [zcf,yq1]
@[simp] theorem qtn {V E:Nat->PV} {d:Option Dst} {op:IOp} {g:Opd} {v:Bool} {x:PV} {n:Nat} {s:St} {ms:List St}:za4 V E ⟨d,op,some (g,v)⟩ x (n+1) (s::ms)=((Ob' (zih v (g.get { s with V:=V,E:=E })) fun t=>Br t (WI (fun _=>[]) (fun _ _=>none) op { s with V:=V,E:=E } (fun y _=>y=x)) (PV.v Go.undef=x))/\za4 V E ⟨d,op,some (g,v)⟩ x n ms):=by
 simp only [za4,yq1]
def zft (c v:List (List Int)) (f:Nat):Bool:=match c[f]?,v[f]? with
 | some a,some b=>zfx a && decide ((b.length:Int)=zdj v) && b.all fun x=>zah x 0 a.length
 | _,_=>true
def zdg (c v:List (List Int)):Bool:=zah c.length 1 4 && decide ((v.length:Int)=c.length) && zah (zdj v) 1 40 && (List.range c.length).all (zft c v)
theorem ysy {c v:List (List Int)} (h1:zah c.length 1 4=true) (h2:(v.length:Int)=c.length) (h3:zah (zdj v) 1 40=true):zdg c v=(List.range c.length).all (zft c v):=by
 simp [zdg,h1,h2,h3]
theorem zpa {p:Nat->Bool} {n:Nat} (h : ∀ i,i<n->p i=true):(List.range n).all p=true:=by
 rw [List.all_eq_true];intro x hx;exact h x (by simpa using hx)
theorem zg4 {p:Nat->Bool} {n i:Nat} (hi:i<n) (h:p i=false):(List.range n).all p=false:=by
 cases e:(List.range n).all p with
 | false=>rfl
 | true=>rw [List.all_eq_true.mp e i (by simpa using hi)] at h; cases h
theorem ysk {c v:List (List Int)} {f:Nat} {a b:List Int} (ha:c[f]?=some a) (hb:v[f]?=some b):zft c v f=(zfx a && decide ((b.length:Int)=zdj v) && b.all fun x=>zah x 0 a.length):=by
 simp [zft,ha,hb]
theorem zik {P:Nat->Prop} {i:Nat} (h : ∀ j,j<i->P j) (hi:P i) : ∀ j,j<i+1->P j:=by
 intro j hj
 by_cases e:j=i
 ·subst e; exact hi
 ·exact h j (by omega)
theorem ylx (q:Bool) (c v:List (List Int)) (hc : ∀ l∈c,l.length<=9223372036854775807) (hv : ∀ l∈v,l.length<=9223372036854775807):RUN T znh [.agg [.sl 1 (rws q c),.sl 1 (rws q v)]]=some ([bv (zdg c v)],[]):=by
 refine zae rfl rfl ?_;have hR:=yax q c v
 by_cases h1:zah c.length 1 4=true
 case neg=>simp [zn9,zj1,zcs,-zbm,h1,zdg]
 by_cases h2:(v.length:Int)=c.length
 case neg=>simp [zn9,zj1,zcs,-zbm,h1,h2,zdg]
 by_cases h3:zah (zdj v) 1 40=true
 case neg=>simp [zn9,zj1,zcs,-zbm,h1,h2,h3,hR,zdg]
 have h1':=zaw.mp h1;rw [ysy h1 h2 h3];simp [zn9,zj1,zcs,-zbm,h1,h2,h3,hR];refine zan (fun n st => ∃ i:Nat,i+n=c.length/\(∀ j,j<i->zft c v j=true)/\st.V 1 = .ptr 0 none 0 0 0/\st.V 26 = .sl 1 (rws q c)/\st.V 27=iv c.length/\st.V 28=iv i/\0<st.nx/\st.S 0=some (.box [.sl 1 (rws q c),.sl 1 (rws q v)])) ?_ c.length _ ⟨0,by simp⟩;rintro n st ⟨i,hi,hk,v1,v26,v27,v28,hnx,hS⟩;simp [yfw,v26,v27,v28];have z:=fr hnx;refine zay (fun h => ?_) (fun h => ?_)
 ·simp at h;obtain ⟨a,ha⟩ : ∃ a,c[i]?=some a:=⟨_,bG h⟩;obtain ⟨b,hb⟩ : ∃ b,v[i]?=some b:=⟨_,bG (by omega)⟩;have ha':=zcu (q:=q) ha;have hb':=zcu (q:=q) hb;have hal:=hc a (bF ha);have hbl:=hv b (bF hb);have hC:=y7t a hal;have hF:=y7w (f:=znp) (c := .sl 1 (zab a)) (p:=fun n => !zah n 0 a.length) b hbl (by simp) (fun n _=>by simp);have hw:=wS h (by omega:c.length<=9223372036854775807);have hiv:i<v.length:=by omega
  have hfe:=ysk ha hb
  by_cases d1:zfx a=true
  ·rcases Classical.propComplete ((b.length:Int)=zdj v) with d2 | d2
   ·by_cases d3:(b.all fun x=>zah x 0 a.length)=true
    ·have d3':(b.any fun n => !zah n 0 a.length)=false:=by simpa [List.any_eq_not_all_not] using d3
     simp [-getElem?_pos,v1,v26,v27,v28,hS,z,ha',hb',hC,hF,hR,hw,h,hiv,d1,d2,d3'];exact zai (n-1) (by omega) ⟨i+1,by omega,zik hk (by rw [hfe,d1,d3]; simp [d2]),by simp [v1,v26,v27,z,hS]⟩
    ·have d3':(b.any fun n => !zah n 0 a.length)=true:=by simpa [List.any_eq_not_all_not] using d3
     have no:=zg4 h (by rw [hfe,d1]; simp [d3]:zft c v i=false);simp [-getElem?_pos,v1,v26,v27,v28,hS,z,ha',hb',hC,hF,hR,hw,h,hiv,d1,d2,d3',no]
   ·have no:=zg4 h (by rw [hfe,d1]; simp [d2]:zft c v i=false);simp [-getElem?_pos,v1,v26,v27,v28,hS,z,ha',hb',hC,hF,hR,hw,h,hiv,d1,d2,no]
  ·have no:=zg4 h (by rw [hfe]; simp [d1]:zft c v i=false);simp [-getElem?_pos,v1,v26,v27,v28,hS,z,ha',hb',hC,hF,hR,hw,h,hiv,d1,no]
 ·simp at h;have:=zpa (p:=zft c v) (n:=c.length) fun j hj=>hk j (by omega);simp [this]
theorem yly (q:Bool) (c v:List (List Int)) (hc : ∀ l∈c,l.length<=9223372036854775807) (hv : ∀ l∈v,l.length<=9223372036854775807):RUN T znm [.agg [.sl 1 (rws q c),.sl 1 (rws q v)]]=some ([bv (zdg c v)],[]):=by
 refine zae rfl rfl ?_;have hR:=ylw q c v
 by_cases h1:zah c.length 1 4=true
 case neg=>simp [zoc,zj1,zbn,-za3,h1,zdg]
 by_cases h2:(v.length:Int)=c.length
 case neg=>simp [zoc,zj1,zbn,-za3,h1,h2,zdg]
 by_cases h3:zah (zdj v) 1 40=true
 case neg=>simp [zoc,zj1,zbn,-za3,h1,h2,h3,hR,zdg]
 have h1':=zaw.mp h1;rw [ysy h1 h2 h3];simp [zoc,zj1,zbn,-za3,h1,h2,h3,hR];refine zan (fun n st => ∃ i:Nat,i+n=c.length/\(∀ j,j<i->zft c v j=true)/\st.V 1 = .ptr 0 none 0 0 0/\st.V 3=iv i/\0<st.nx/\st.S 0=some (.box [.sl 1 (rws q c),.sl 1 (rws q v)])) ?_ c.length _ ⟨0,by simp⟩;rintro n st ⟨i,hi,hk,v1,v3,hnx,hS⟩;simp [yfy,v1,v3,hS];have z:=fr hnx;refine zay (fun h => ?_) (fun h => ?_)
 ·simp at h;obtain ⟨a,ha⟩ : ∃ a,c[i]?=some a:=⟨_,bG h⟩;obtain ⟨b,hb⟩ : ∃ b,v[i]?=some b:=⟨_,bG (by omega)⟩;have ha':=zcu (q:=q) ha;have hb':=zcu (q:=q) hb;have hal:=hc a (bF ha);have hbl:=hv b (bF hb);have hC:=y7u a hal;have hw:=wS h (by omega:c.length<=9223372036854775807);have hiv:i<v.length:=by omega
  have hfe:=ysk ha hb
  by_cases d1:zfx a=true
  case neg =>
   have no:=zg4 h (by rw [hfe]; simp [d1]:zft c v i=false);simp [-getElem?_pos,v1,v3,hS,z,ha',hb',hC,hR,hw,h,hiv,d1,no]
  rcases Classical.propComplete ((b.length:Int)=zdj v) with d2 | d2
  case inr =>
   have no:=zg4 h (by rw [hfe,d1]; simp [d2]:zft c v i=false);simp [-getElem?_pos,v1,v3,hS,z,ha',hb',hC,hR,hw,h,hiv,d1,d2,no]
  simp [-getElem?_pos,v1,v3,hS,z,ha',hb',hC,hR,hw,h,hiv,d1,d2];refine zan (fun n st => ∃ j:Nat,j+n=b.length/\(∀ (k:Nat) (x:Int),k<j->b[k]?=some x->zah x 0 a.length=true)/\st.V 1 = .ptr 0 none 0 0 0/\st.V 3=iv i/\st.V 4=iv j/\0<st.nx/\st.S 0=some (.box [.sl 1 (rws q c),.sl 1 (rws q v)])) ?_ b.length _ ⟨0,by omega,fun _ _ h=>by omega,by simp [v1,v3,hnx,hS]⟩;clear v1 v3 hnx hS z;rintro n' st ⟨j,hj,hjk,v1,v3,v4,hnx,hS⟩;simp [-getElem?_pos,yfx,v1,v3,v4,hS,hb',hiv];refine zay (fun h4 => ?_) (fun h4 => ?_)
  ·simp at h4;obtain ⟨x,hx⟩ : ∃ x,b[j]?=some x:=⟨_,bG h4⟩;have hx':=zaz hx;have hwj:=wS h4 hbl;rcases Bool.eq_false_or_eq_true (zah x 0 a.length) with d3 | d3
   ·simp [-getElem?_pos,v1,v3,v4,hS,ha',hb',hx',hiv,h,h4,d3,hwj,zbn,-za3];exact zai (n'-1) (by omega) ⟨j+1,by omega,zku (P:=fun _ x=>zah x 0 a.length=true) hjk hx d3,by simp [v1,v3,hnx,hS]⟩
   ·have no:=zg4 h (by rw [hfe,zxl hx d3]; simp:zft c v i=false);simp [-getElem?_pos,v1,v3,v4,hS,ha',hb',hx',hiv,h,h4,d3,hwj,no,zbn,-za3]
  ·simp at h4;have ok:zft c v i=true:=by
    rw [hfe,d1,zx0 fun k x hk hx=>hjk k x (by omega) hx]; simp [d2]
   simp [-getElem?_pos,v1,v3,v4,hS,hw];exact zai (n-1) (by omega) ⟨i+1,by omega,zik hk ok,by simp [v1,hnx,hS]⟩
 ·simp at h;have:=zpa (p:=zft c v) (n:=c.length) fun j hj=>hk j (by omega);simp [this]
def lens (L:List (List Int)):Nat:=(L.map List.length).sum
def tot (L:List (List Int)):Nat:=L.length+lens L
theorem z9a (l:List Int) (L:List (List Int)):lens (l::L)=l.length+lens L:=by simp [lens]
theorem qer {L:List (List Int)} : ∀ {l:List Int},l∈L->l.length<=lens L:=by
 induction L with
 | nil=>simp
 | cons a L ih =>
  intro l h;rw [z9a];rcases List.mem_cons.mp h with e | e
  ·subst e; omega
  ·have:=ih e; omega
theorem y7x (q:Bool) (L:List (List Int)) (left:Int) (h0:0<=left) (h1:left<=1048576) (hl:L.length<=9223372036854775807) (hll : ∀ l∈L,l.length<=9223372036854775807):RUN T zqt [.sl 1 (rws q L),iv left]=some ([iv (if left-tot L<0 then -1 else left-tot L)],[]):=by
 refine zae rfl rfl ?_;have e:=w64 (x:=left-L.length) (by omega) (by omega);have ht:tot L=L.length+lens L:=rfl;simp [z0v,zs6,e];refine zay (fun h => ?_) (fun h => ?_)
 ·simp at h;rw [if_pos (by omega)];simp
 ·simp at h;simp;refine zan (fun n st => ∃ i:Nat,i+n=L.length/\∃ r:Int,0<=r/\r<=1048576/\r-lens (L.drop i)=left-tot L/\st.V 0 = .sl 1 (rws q L)/\st.V 1=iv r/\st.V 5=iv i) ?_ L.length _ ⟨0,by omega,left-L.length,by omega,by omega,by simp; omega,by simp⟩;rintro n st ⟨i,hi,r,hr0,hr1,hr,v0,v1,v5⟩;simp [ye8,v0,v5];refine zay (fun h => ?_) (fun h => ?_)
  ·simp at h;obtain ⟨l,hx⟩ : ∃ l,L[i]?=some l:=⟨_,bG h⟩;have hx':=zcu (q:=q) hx;have hw:=wS h hl;have hz:=yar (zab l) r hr0 hr1 (by simpa using hll l (bF hx));rw [yeq] at hz;rw [zc3 hx,z9a] at hr
   by_cases d:r-l.length<0
   ·rw [if_pos d] at hz;rw [if_pos (by omega)];simp [-getElem?_pos,v0,v1,v5,hx',hz,h]
   ·rw [if_neg d] at hz;have d' : ¬ (r-l.length<0):=d;simp [-getElem?_pos,v0,v1,v5,hx',hz,h,hw,d'];exact zai (n-1) (by omega) ⟨i+1,by omega,r-l.length,by omega,by omega,by omega,by simp [v0]⟩
  ·simp at h;rw [List.drop_eq_nil_of_le (by omega)] at hr;have:lens []=0:=rfl;rw [if_neg (by omega)];simp [v1];omega
theorem y7y (q:Bool) (L:List (List Int)) (hl:L.length<=1048576) (hll : ∀ l∈L,l.length<=1048576):RUN T zqv [.sl 1 (rws q L)]=some ([.own 1 (rws true L)],[]):=by
 refine zae rfl rfl ?_;have hr:zaj 24 L.length=true:=by simp [zaj]; omega
 simp [z01,zzr,hr];refine zan (fun n st => ∃ i:Nat,i+n=L.length/\st.V 0 = .sl 1 (rws q L)/\st.V 3 = .ref 0 none 0 0 L.length/\st.V 4=iv i/\0<st.nx/\st.S 0=some (.row 1 (fil (fun l=>[cel true l]) [.own 1 []] L i))) ?_ L.length _ ⟨0,by simp [ycz]⟩;rintro n st ⟨i,hi,v0,v3,v4,hnx,hS⟩;simp [yfa,v0,v3,v4,hS];have z:=fr hnx;refine zay (fun h => ?_) (fun h => ?_)
 ·simp at h;obtain ⟨l,hx⟩ : ∃ l,L[i]?=some l:=⟨_,bG h⟩;have hw:=wS h (by omega:L.length<=9223372036854775807);have hg:=yc2 (f:=fun l=>[cel true l]) (z:=[.own 1 []]) h;have hs:=yce (f:=fun l=>[cel true l]) (z:=[.own 1 []]) hx;have hx':=zcu (q:=q) hx;have hz:=yas l (hll l (bF hx));have hc:cel true l = .own 1 (zab l):=rfl;rw [hc] at hs;simp [-getElem?_pos,v0,v3,v4,hS,z,h,hx',hw,hg,hs,hz,ycg (Nat.le_of_lt h)];exact zai (n-1) (by omega) ⟨i+1,by omega,by simp [v0,v3,z]⟩
 ·simp at h;have e:=ych (f:=fun l=>[cel true l]) (z:=[.own 1 []]) (by omega:i=L.length);simp [v3,hS,e,rws]
theorem y7z (p q:Bool) (L:List (List Int)) (hl:L.length<=9223372036854775807) (hll : ∀ l∈L,l.length<=9223372036854775807):RUN T zqy [.sl 1 (rws p L),.sl 1 (rws q L)]=some ([bv true],[]):=by
 refine zae rfl rfl ?_;simp [z1b,zs6];refine zan (fun n st => ∃ i:Nat,i+n=L.length/\st.V 0 = .sl 1 (rws p L)/\st.V 1 = .sl 1 (rws q L)/\st.V 5=iv i) ?_ L.length _ ⟨0,by simp⟩;rintro n st ⟨i,hi,v0,v1,v5⟩;simp [yff,v0,v1,v5];refine zay (fun h => ?_) (fun h => ?_)
 ·simp at h;obtain ⟨l,hx⟩ : ∃ l,L[i]?=some l:=⟨_,bG h⟩;have hw:=wS h hl;have hx1:=zcu (q:=p) hx;have hx2:=zcu (q:=q) hx;have hz:=z7o l (hll l (bF hx));simp [-getElem?_pos,v0,v1,v5,h,hx1,hx2,hw,hz];exact zai (n-1) (by omega) ⟨i+1,by omega,by simp [v0,v1]⟩
 ·simp at h;simp
def zh7 (x:Int):Bool:=zah x (-2199023255552) 2199023255552
def zf8 (c v:List (List Int)) (lab:List Int) (g:Cfg):Bool:=zdg c v && zbk g && decide ((lab.length:Int)=zdj v) && lab.all zh7
@[simp] theorem qpn (n:Int):RUN T zni [iv n]=some ([bv (!zh7 n)],[]):=by
 refine zae rfl rfl ?_;simp [z4c,zj1,zcs,-zbm,zh7]
theorem ylz (q:Bool) (c v:List (List Int)) (lab:List Int) (g:Cfg) (hc : ∀ l∈c,l.length<=9223372036854775807) (hv : ∀ l∈v,l.length<=9223372036854775807) (hlab:lab.length<=9223372036854775807) (hg:g.sg.length<=9223372036854775807):RUN T zm7 [.agg [.sl 1 (rws q c),.sl 1 (rws q v)],.sl 1 (zab lab),zcj g]=some ([bv (zf8 c v lab g)],[]):=by
 refine zae rfl rfl ?_;have e1:=ylx q c v hc hv;have e2:=z7q g hg;have e3:=yax q c v;have e4:=yat (f:=zni) (p:=fun n => !zh7 n) lab hlab (by simp) (fun n _=>by simp);unfold zf8;cases d1:zdg c v with
 | false=>simp [zn5,zzl,zcj,e1,d1]
 | true =>
  cases d2:zbk g with
  | false=>simp [zn5,zzl,zcj,e1,d1,e2,d2]
  | true =>
   rcases Classical.propComplete ((lab.length:Int)=zdj v) with d3 | d3
   ·have d4:(!(lab.any fun n => !zh7 n))=lab.all zh7:=by simp [List.any_eq_not_all_not]
    simp [zn5,zzl,zcj,e1,d1,e2,d2,e3,d3,e4,d4]
   ·simp [zn5,zzl,zcj,e1,d1,e2,d2,e3,d3]
theorem yl0 (q:Bool) (c v:List (List Int)) (lab:List Int) (g:Cfg) (hc : ∀ l∈c,l.length<=9223372036854775807) (hv : ∀ l∈v,l.length<=9223372036854775807) (hlab:lab.length<=9223372036854775807) (hg:g.sg.length<=9223372036854775807):RUN T znb [.agg [.sl 1 (rws q c),.sl 1 (rws q v)],.sl 1 (zab lab),zcj g]=some ([bv (zf8 c v lab g)],[]):=by
 refine zae rfl rfl ?_;have e1:=yly q c v hc hv;have e2:=z7r g hg;have e3:=ylw q c v;unfold zf8;cases d1:zdg c v with
 | false=>simp [zn7,zzl,zcj,e1,d1]
 | true =>
  cases d2:zbk g with
  | false=>simp [zn7,zzl,zcj,e1,d1,e2,d2]
  | true =>
   rcases Classical.propComplete ((lab.length:Int)=zdj v) with d3 | d3
   ·simp [zn7,zzl,zcj,e1,d1,e2,d2,e3,d3];refine zan (fun n st => ∃ i:Nat,i+n=lab.length/\(∀ (j:Nat) (x:Int),j<i->lab[j]?=some x->zh7 x=true)/\st.V 1 = .sl 1 (zab lab)/\st.V 7=iv i) ?_ lab.length _ ⟨0,by omega,fun _ _ h=>by omega,by simp⟩;rintro n st ⟨i,hi,hj,v1,v7⟩;simp [yfo,v1,v7];refine zay (fun h => ?_) (fun h => ?_)
    ·simp at h;obtain ⟨x,hx⟩ : ∃ x,lab[i]?=some x:=⟨_,bG h⟩;have hx':=zaz hx;have hw:=wS h hlab;have hlb:zh7 x=zah x (-2199023255552) 2199023255552:=rfl;cases d4:zh7 x with
     | true =>
      have d5:=hlb.symm.trans d4;simp [-getElem?_pos,v1,v7,hx',hw,h,d5,zbn,-za3];exact zai (n-1) (by omega) ⟨i+1,by omega,zku (P:=fun _ x=>zh7 x=true) hj hx d4,by simp [v1]⟩
     | false =>
      have d5:=hlb.symm.trans d4;have no:=zxl hx d4;simp [-getElem?_pos,v1,v7,hx',hw,h,d5,no,zbn,-za3]
    ·simp at h;have:=zx0 (p:=zh7) fun j a h1 h2=>hj j a (by omega) h2;simp [this,d3]
   ·simp [zn7,zzl,zcj,e1,d1,e2,d2,e3,d3]
theorem zmh {n:Int} (h:(Lit.int .i64 n).wf=true) : -9223372036854775808<=n/\n<=9223372036854775807:=bounds_i64 h
theorem zu5 {α:Type} {f:α->List PV} {p:α->Prop} {tys:List TY} (h : ∀ cs,zbg tys cs->∃ a,f a=cs/\p a) : ∀ {es:List (List PV)},(∀ cs∈es,zbg tys cs)->∃ l:List α,l.map f=es/\∀ a∈l,p a
 | [],_=>⟨[],rfl,by simp⟩
 | e::es,hs=>by
  obtain ⟨a,ha,hp⟩:=h e (hs e (by simp));obtain ⟨l,hl,hq⟩:=zu5 h (es:=es) (fun cs hc=>hs cs (by simp [hc]));refine ⟨a::l,by simp [ha,hl],fun b hb => ?_⟩;rcases List.mem_cons.mp hb with e | e
  ·subst e; exact hp
  ·exact hq b e
theorem ybw (cs:List PV) (h:zbg [.int .i64] cs) : ∃ n:Int,[iv n]=cs/\inI n:=by
 simp only [zbg,Shp] at h;obtain ⟨_,_,rfl,⟨a,rfl,h1⟩,rfl⟩:=h;exact ⟨a,rfl,zmh h1⟩
def wfC (c:Cfg):Prop:=c.sg.length<=9223372036854775807/\inI c.ro/\inI c.de/\inI c.bi/\inI c.la/\inI c.rw/\inI c.nu/\inI c.dn/\∀ n∈c.sg,inI n
theorem qbq {c:PV} (h:zk2 true [.int .i64,.int .i64,.int .i64,.int .i64,.int .i64,.int .i64,.int .i64,.sl [.int .i64]] c) : ∃ x:Cfg,c=zcj x/\wfC x:=by
 obtain ⟨cs,rfl,h⟩:=h;simp only [zbg,Shp] at h;obtain ⟨_,_,rfl,⟨a,rfl,h1⟩,_,_,rfl,⟨b,rfl,h2⟩,_,_,rfl,⟨c,rfl,h3⟩,_,_,rfl,⟨d,rfl,h4⟩,_,_,rfl,⟨e,rfl,h5⟩,_,_,rfl,⟨f,rfl,h6⟩,_,_,rfl,⟨g,rfl,h7⟩,_,_,rfl,⟨es,rfl,h8,h9⟩,rfl⟩:=h;have h9' : ∀ cs∈es,zbg [.int .i64] cs:=h9;obtain ⟨l,hl,hp⟩:=zu5 (f:=fun n:Int=>[iv n]) (tys:=[.int .i64]) ybw h9';subst hl;simp [maxLen] at h8;exact ⟨⟨a,b,c,d,e,f,g,l⟩,rfl,by simpa using h8,zmh h1,zmh h2,zmh h3,zmh h4,zmh h5,zmh h6,zmh h7,hp⟩
theorem qe8 (cs:List PV) (h:zbg [.sl [.int .i64]] cs) : ∃ l:List Int,[cel false l]=cs/\l.length<=9223372036854775807:=by
 simp only [zbg,Shp] at h;obtain ⟨_,_,rfl,⟨es,rfl,h1,h2⟩,rfl⟩:=h;have h2' : ∀ cs∈es,zbg [.int .i64] cs:=h2;obtain ⟨l,hl,_⟩:=zu5 (f:=fun n:Int=>[iv n]) (tys:=[.int .i64]) ybw h2';subst hl;simp [maxLen] at h1;exact ⟨l,rfl,by omega⟩
theorem qc6 {P:Program} {l:List TypeId} (h:(l.all fun t=>P.readableRec t && decide (t<P.types.size))=true) : ∀ t∈l,P.readableRec t=true/\t<P.types.size:=by
 intro t ht;have:=List.all_eq_true.mp h t ht;simpa using this
theorem qfe {p q:Bool×List TY} {pvs:List PV} (h:zdi (fun p c=>zk2 p.1 p.2 c) [p,q] pvs) : ∃ a b,pvs=[a,b]/\zk2 p.1 p.2 a/\zk2 q.1 q.2 b:=by
 cases h with
 | cons h1 t=>cases t with
  | cons h2 t=>cases t with
   | nil=>exact ⟨_,_,rfl,h1,h2⟩
def ys1 (B:List Int):List (List PV):=B.map fun n=>[.v (.int .u8 n)]
@[simp] theorem qyb (B:List Int):(ys1 B).length=B.length:=by simp [ys1]
def zuk (rv:List RV) (io:Nat) (G:List PV×List PV->Prop) (_:Dm rv) (_:Dm G) (e:Ex) (s:St):Prop:=(e = .normal\/e = .ret)/\∃ r,zfv ⟨[],rv,.skip⟩ io s=some r/\G r
@[simp] theorem qsx {rv:List RV} {io:Nat} {G:List PV×List PV->Prop} {s:St}:zuk rv io G ⟨⟩ ⟨⟩ .normal s = ∃ r,zfv ⟨[],rv,.skip⟩ io s=some r/\G r:=by simp [zuk]
@[simp] theorem qva {rv:List RV} {io:Nat} {G:List PV×List PV->Prop} {s:St}:zuk rv io G ⟨⟩ ⟨⟩ .ret s = ∃ r,zfv ⟨[],rv,.skip⟩ io s=some r/\G r:=by simp [zuk]
theorem qir {T:zcg} {f:Nat} {ms:List Bool} {rv:List RV} {ic:IC} {G:List PV×List PV->Prop} (hT:T f=some (.code ⟨ms,rv,ic⟩)) {args:List PV} {st:St} (hi:zk0 args=some st) (h:W (zad T) (RUN T) ic st (zuk rv st.nx G ⟨⟩ ⟨⟩)) : ∃ r,RUN T f args=some r/\G r:=by
 unfold W at h;obtain ⟨e,s,h1,h2,r,h3,hG⟩:=h;refine ⟨r,yn4 hT ?_,hG⟩;unfold zyo;rw [hi];simp only [Option.bind_some,h1];rcases h2 with rfl | rfl <;> exact h3
attribute [irreducible] zuk
def adi (a b:Int):Int×Bool:=if -9223372036854775808<=a+b/\a+b<=9223372036854775807 then (a+b,true) else (0,false)
theorem yuz {a b:Int} (ha:inI a) (hb:inI b):IntKind.i64.wrap (a+b)=if 9223372036854775807<a+b then a+b-18446744073709551616 else if a+b < -9223372036854775808 then a+b+18446744073709551616 else a+b:=by
 unfold inI at ha hb;unfold IntKind.wrap;simp [IntKind.bits,IntKind.signed];omega
theorem z7s (a b:Int) (ha:inI a) (hb:inI b):RUN T zjq [iv a,iv b]=some ([iv (adi a b).1,bv (adi a b).2],[]):=by
 refine zae rfl rfl ?_;have hw:=yuz ha hb;unfold inI at ha hb;unfold adi
 by_cases c1:9223372036854775807<a+b
 ·rw [if_pos c1] at hw;rw [if_neg (by omega)];have d1:=eq_false (by omega : ¬ a<0);have d2:=eq_false (by omega : ¬ b<0);have d3:=eq_true (by omega:a+b-18446744073709551616<0);simp [-getElem?_pos,zj8,zj9,hw,d1,d2,d3]
 ·rw [if_neg c1] at hw
  by_cases c2:a+b < -9223372036854775808
  ·rw [if_pos c2] at hw;rw [if_neg (by omega)];have d1:=eq_true (by omega:a<0);have d2:=eq_true (by omega:b<0);have d3:=eq_false (by omega : ¬ a+b+18446744073709551616<0);simp [-getElem?_pos,zj8,zj9,hw,d1,d2,d3]
  ·rw [if_neg c2] at hw;rw [if_pos (by omega)];rcases Classical.propComplete (a<0) with d1 | d1
   all_goals rcases Classical.propComplete (b<0) with d2 | d2
   all_goals simp at d1 d2
   ·have d3:=eq_true (by omega:a+b<0);simp [-getElem?_pos,zj8,zj9,hw,eq_true d1,eq_true d2,d3]
   ·have d2':=eq_false (by omega : ¬ b<0);simp [-getElem?_pos,zj8,zj9,hw,eq_true d1,d2']
   ·have d1':=eq_false (by omega : ¬ a<0);simp [-getElem?_pos,zj8,zj9,hw,eq_true d2,d1']
   ·have d1':=eq_false (by omega : ¬ a<0);have d2':=eq_false (by omega : ¬ b<0);have d3:=eq_false (by omega : ¬ a+b<0);simp [-getElem?_pos,zj8,zj9,hw,d1',d2',d3]
theorem z7t (a b:Int) (ha:inI a) (hb:inI b):RUN T zjr [iv a,iv b]=some ([iv (adi a b).1,bv (adi a b).2],[]):=by
 refine zae rfl rfl ?_;have hw:=yuz ha hb;unfold inI at ha hb;unfold adi;rcases Int.lt_trichotomy b 0 with c | c | c
 ·have d1:=eq_false (by omega : ¬ 0<b);have d2:=eq_true c;have w:=w64 (x := -9223372036854775808-b) (by omega) (by omega)
  by_cases e:a < -9223372036854775808-b
  ·rw [if_neg (by omega)];simp [-getElem?_pos,zl6,zj9,d1,d2,w,e]
  ·rw [if_neg (by omega),if_neg (by omega)] at hw;rw [if_pos (by omega)];simp [-getElem?_pos,zl6,zj9,d1,d2,w,e,hw]
 ·subst c;rw [if_neg (by omega),if_neg (by omega)] at hw;rw [if_pos (by omega)];simp at hw;simp [zl6,zj9,hw]
 ·have d1:=eq_true c;have d2:=eq_false (by omega : ¬ b<0);have w:=w64 (x:=9223372036854775807-b) (by omega) (by omega)
  by_cases e:9223372036854775807-b<a
  ·rw [if_neg (by omega)];simp [-getElem?_pos,zl6,zj9,d1,d2,w,e]
  ·rw [if_neg (by omega),if_neg (by omega)] at hw;rw [if_pos (by omega)];simp [-getElem?_pos,zl6,zj9,d1,d2,w,e,hw]
def zgo:Int->List Int->Option Int
 | t,[]=>some t
 | t,x::xs=>if (adi t x).2 then zgo (adi t x).1 xs else none
def zca (l:List Int):Int×Bool:=match zgo 0 l with
 | some t=>fdv t l.length
 | none=>(0,false)
theorem z9s {a b:Int} (ha:inI a):inI (adi a b).1:=by
 unfold adi;split
 ·rename_i h; exact h
 ·unfold inI; omega
theorem y70 (l:List Int) (hl:l.length<=9223372036854775807) (hin : ∀ n∈l,inI n):RUN T zpr [.sl 1 (zab l)]=some ([iv (zca l).1,bv (zca l).2],[]):=by
 refine zae rfl rfl ?_;simp [-getElem?_pos,zyw,zyx];refine zan (fun n st => ∃ (i:Nat) (t:Int),i+n=l.length/\inI t/\zgo t (l.drop i)=zgo 0 l/\st.V 0 = .sl 1 (zab l)/\st.V 4=iv t/\st.V 9 = .sl 1 (zab l)/\st.V 10=iv l.length/\st.V 11=iv i) ?_ l.length _ ⟨0,0,by omega,by unfold inI; omega,by simp⟩;rintro n st ⟨i,t,hi,ht,hb,v0,v4,v9,v10,v11⟩;simp [yey,v10,v11];refine zay (fun h => ?_) (fun h => ?_)
 ·simp at h;obtain ⟨x,hx⟩ : ∃ x,l[i]?=some x:=⟨_,bG h⟩;have hx':=zaz hx;have hw:=wS h hl;have ha:=z7s t x ht (hin x (bF hx));rw [zc3 hx,zgo] at hb;cases c:(adi t x).2 with
  | true =>
   rw [if_pos c] at hb;rw [c] at ha;simp [-getElem?_pos,v0,v4,v9,v10,v11,hx',h,ha,hw];exact zai (n-1) (by omega) ⟨i+1,_,by omega,z9s ht,hb,by simp [v0,v9,v10]⟩
  | false =>
   rw [if_neg (by simp [c])] at hb;rw [c] at ha;have:zca l=(0,false):=by unfold zca; rw [<- hb]
   simp [-getElem?_pos,v0,v4,v9,v10,v11,hx',h,ha,hw,this]
 ·simp at h;rw [List.drop_eq_nil_of_le h,zgo] at hb;have hf:=yav t l.length ht;have e:zca l=fdv t l.length:=by unfold zca; rw [<- hb]
  simp [-getElem?_pos,v0,v4,hf,e]
theorem y71 (l:List Int) (hl:l.length<=9223372036854775807) (hin : ∀ n∈l,inI n):RUN T zqa [.sl 1 (zab l)]=some ([iv (zca l).1,bv (zca l).2],[]):=by
 refine zae rfl rfl ?_;simp [-getElem?_pos,zz0,zyx];refine zan (fun n st => ∃ (i:Nat) (t:Int),i+n=l.length/\inI t/\zgo t (l.drop i)=zgo 0 l/\st.V 0 = .sl 1 (zab l)/\st.V 4=iv t/\st.V 5=iv i) ?_ l.length _ ⟨0,0,by omega,by unfold inI; omega,by simp⟩;rintro n st ⟨i,t,hi,ht,hb,v0,v4,v5⟩;simp [ye1,v0,v5];refine zay (fun h => ?_) (fun h => ?_)
 ·simp at h;obtain ⟨x,hx⟩ : ∃ x,l[i]?=some x:=⟨_,bG h⟩;have hx':=zaz hx;have hw:=wS h hl;have ha:=z7t t x ht (hin x (bF hx));rw [zc3 hx,zgo] at hb;cases c:(adi t x).2 with
  | true =>
   rw [if_pos c] at hb;rw [c] at ha;simp [-getElem?_pos,v0,v4,v5,hx',h,ha,hw];exact zai (n-1) (by omega) ⟨i+1,_,by omega,z9s ht,hb,by simp [v0]⟩
  | false =>
   rw [if_neg (by simp [c])] at hb;rw [c] at ha;have:zca l=(0,false):=by unfold zca; rw [<- hb]
   simp [-getElem?_pos,v0,v4,v5,hx',h,ha,hw,this]
 ·simp at h;rw [List.drop_eq_nil_of_le h,zgo] at hb;have hf:=yau t l.length ht;have e:zca l=fdv t l.length:=by unfold zca; rw [<- hb]
  simp [-getElem?_pos,v0,v4,hf,e]
def sbi (a b:Int):Int×Bool:=if -9223372036854775808<=a-b/\a-b<=9223372036854775807 then (a-b,true) else (0,false)
theorem yuf {a b:Int} (ha:inI a) (hb:inI b):IntKind.i64.wrap (a-b)=if 9223372036854775807<a-b then a-b-18446744073709551616 else if a-b < -9223372036854775808 then a-b+18446744073709551616 else a-b:=by
 unfold inI at ha hb;unfold IntKind.wrap;simp [IntKind.bits,IntKind.signed];omega
theorem yay (a b:Int) (ha:inI a) (hb:inI b):RUN T zlg [iv a,iv b]=some ([iv (sbi a b).1,bv (sbi a b).2],[]):=by
 refine zae rfl rfl ?_;have hw:=yuf ha hb;unfold inI at ha hb;unfold sbi
 by_cases c1:9223372036854775807<a-b
 ·rw [if_pos c1] at hw;rw [if_neg (by omega)];have d1:=eq_false (by omega : ¬ a<0);have d2:=eq_true (by omega:b<0);have d3:=eq_true (by omega:a-b-18446744073709551616<0);simp [-getElem?_pos,zkc,zj9,hw,d1,d2,d3]
 ·rw [if_neg c1] at hw
  by_cases c2:a-b < -9223372036854775808
  ·rw [if_pos c2] at hw;rw [if_neg (by omega)];have d1:=eq_true (by omega:a<0);have d2:=eq_false (by omega : ¬ b<0);have d3:=eq_false (by omega : ¬ a-b+18446744073709551616<0);simp [-getElem?_pos,zkc,zj9,hw,d1,d2,d3]
  ·rw [if_neg c2] at hw;rw [if_pos (by omega)];rcases Classical.propComplete (a<0) with d1 | d1
   all_goals rcases Classical.propComplete (b<0) with d2 | d2
   all_goals simp at d1 d2
   ·simp [-getElem?_pos,zkc,zj9,hw,eq_true d1,eq_true d2]
   ·have d2':=eq_false (by omega : ¬ b<0);have d3:=eq_true (by omega:a-b<0);simp [-getElem?_pos,zkc,zj9,hw,eq_true d1,d2',d3]
   ·have d1':=eq_false (by omega : ¬ a<0);have d3:=eq_false (by omega : ¬ a-b<0);simp [-getElem?_pos,zkc,zj9,hw,eq_true d2,d1',d3]
   ·have d1':=eq_false (by omega : ¬ a<0);have d2':=eq_false (by omega : ¬ b<0);simp [-getElem?_pos,zkc,zj9,hw,d1',d2']
theorem yaz (a b:Int) (ha:inI a) (hb:inI b):RUN T zli [iv a,iv b]=some ([iv (sbi a b).1,bv (sbi a b).2],[]):=by
 refine zae rfl rfl ?_;have hw:=yuf ha hb;unfold inI at ha hb;unfold sbi;rcases Int.lt_trichotomy b 0 with c | c | c
 ·have d1:=eq_false (by omega : ¬ 0<b);have d2:=eq_true c;have w:=w64 (x:=9223372036854775807+b) (by omega) (by omega)
  by_cases e:9223372036854775807+b<a
  ·rw [if_neg (by omega)];simp [-getElem?_pos,zl8,zj9,d1,d2,w,e]
  ·rw [if_neg (by omega),if_neg (by omega)] at hw;rw [if_pos (by omega)];simp [-getElem?_pos,zl8,zj9,d1,d2,w,e,hw]
 ·subst c;rw [if_neg (by omega),if_neg (by omega)] at hw;rw [if_pos (by omega)];simp at hw;simp [zl8,zj9,hw]
 ·have d1:=eq_true c;have d2:=eq_false (by omega : ¬ b<0);have w:=w64 (x := -9223372036854775808+b) (by omega) (by omega)
  by_cases e:a < -9223372036854775808+b
  ·rw [if_neg (by omega)];simp [-getElem?_pos,zl8,zj9,d1,d2,w,e]
  ·rw [if_neg (by omega),if_neg (by omega)] at hw;rw [if_pos (by omega)];simp [-getElem?_pos,zl8,zj9,d1,d2,w,e,hw]
def res:List Int->List Int->Option (List Int)
 | x::xs,y::ys=>if (sbi x y).2 then (res xs ys).map ((sbi x y).1 :: ·) else none
 | _,_=>some []
theorem ypo {l m:List Int} {i:Nat} {x y:Int} (hx:l[i]?=some x) (hy:m[i]?=some y):res (l.drop i) (m.drop i)=if (sbi x y).2 then (res (l.drop (i+1)) (m.drop (i+1))).map ((sbi x y).1 :: ·) else none:=by
 rw [zc3 hx,zc3 hy,res]
theorem ybq (m:List Int):res [] m=some []:=by cases m <;> rfl
def zdb (l m:List Int):List Int×Bool:=if l.length=m.length then match res l m with
  | some r=>(r,true)
  | none=>([],false)
 else ([],false)
theorem yc5 : ∀ {l m r:List Int},l.length=m.length->res l m=some r->r.length=l.length/\∀ (i:Nat) (x y z:Int),l[i]?=some x->m[i]?=some y->r[i]?=some z->z=x-y /\ -9223372036854775808<=x-y/\x-y<=9223372036854775807
 | [],[],r,_,h=>by simp [res] at h; subst h; simp
 | x::xs,y::ys,r,hl,h=>by
  rw [res] at h;split at h
  ·rename_i c;simp only [bB] at h;obtain ⟨r',hr,rfl⟩:=h;obtain ⟨h1,h2⟩:=yc5 (by simpa using hl) hr;refine ⟨by simp [h1],fun i a b z ha hb hz => ?_⟩;cases i with
   | zero =>
    simp at ha hb hz;subst ha hb hz;unfold sbi at c ⊢;split at c
    ·rename_i hh; rw [if_pos hh]; exact ⟨rfl,hh⟩
    ·cases c
   | succ i=>exact h2 i a b z (by simpa using ha) (by simpa using hb) (by simpa using hz)
  ·cases h
 | [],_::_,_,hl,_=>by simp at hl
 | _::_,[],_,hl,_=>by simp at hl
theorem y72 (l m:List Int) (hl:l.length<=1048576) (hm:m.length<=1048576) (hli : ∀ n∈l,inI n) (hmi : ∀ n∈m,inI n):RUN T zqk [.sl 1 (zab l),.sl 1 (zab m)]=some ([.own 1 (zab (zdb l m).1),bv (zdb l m).2],[]):=by
 refine zae rfl rfl ?_;unfold zdb;rcases Classical.propComplete ((l.length:Int)=m.length) with e | e
 case inr =>
  rw [if_neg (by simp at e; omega)];simp [-getElem?_pos,zvq,zvr,e]
 have e':l.length=m.length:=by simp at e; omega
 rw [if_pos e'];simp [-getElem?_pos,zvq,zvr,e];refine zan (fun n st => ∃ (i o e:Nat) (a:List Int),i+n=l.length/\a.length=i/\(res (l.drop i) (m.drop i)).map (a ++ ·)=res l m/\st.V 0 = .sl 1 (zab l)/\st.V 1 = .sl 1 (zab m)/\st.V 6 = .ref o none e 0 a.length/\st.V 17=iv l.length/\st.V 18=iv i/\o<st.nx/\st.ep=0/\st.S o=some (.row 1 (zab a))) ?_ l.length _ ⟨0,0,0,[],by omega,rfl,by simp⟩;rintro n st ⟨i,o,ep,a,hi,ha,hr,v0,v1,v6,v17,v18,hox,hep,hSo⟩;simp [ye5,v17,v18];refine zay (fun h => ?_) (fun h => ?_)
 ·simp at h;obtain ⟨x,hx⟩ : ∃ x,l[i]?=some x:=⟨_,bG h⟩;obtain ⟨y,hy⟩ : ∃ y,m[i]?=some y:=⟨_,bG (by omega)⟩;have hx':=zaz hx;have hy':=zaz hy;have him:i<m.length:=by omega
  have hw:=wS h (by omega:l.length<=9223372036854775807);have hsub:=yay x y (hli x (bF hx)) (hmi y (bF hy));rw [ypo hx hy] at hr;have z1:=fr hox;have hr8:=zc4 (n:=a.length+1) (by omega);cases c:(sbi x y).2 with
  | true =>
   rw [if_pos c] at hr;rw [c] at hsub;simp [-getElem?_pos,v0,v1,v6,v17,v18,hep,hSo,z1,hx',hy',h,him,hsub,hr8,zc8,hw];refine zai (n-1) (by omega) ⟨i+1,st.nx+1,0,a++[(sbi x y).1],by omega,by simp [ha],?_,by simp [v0,v1,v17,hep]⟩;rw [<- hr];cases res (l.drop (i+1)) (m.drop (i+1)) <;> simp
  | false =>
   rw [if_neg (by simp [c])] at hr;rw [c] at hsub;simp at hr;simp [-getElem?_pos,v0,v1,v6,v17,v18,hep,hSo,z1,hx',hy',h,him,hsub,<- hr]
 ·simp at h;rw [List.drop_eq_nil_of_le h,ybq] at hr;simp at hr;rw [<- hr];simp [-getElem?_pos,v6,hSo]
theorem y73 (l m:List Int) (hl:l.length<=1048576) (hm:m.length<=1048576) (hli : ∀ n∈l,inI n) (hmi : ∀ n∈m,inI n):RUN T zqo [.sl 1 (zab l),.sl 1 (zab m)]=some ([.own 1 (zab (zdb l m).1),bv (zdb l m).2],[]):=by
 refine zae rfl rfl ?_;unfold zdb;rcases Classical.propComplete ((l.length:Int)=m.length) with e | e
 case inr =>
  rw [if_neg (by simp at e; omega)];simp [-getElem?_pos,zvu,zvr,e]
 have e':l.length=m.length:=by simp at e; omega
 rw [if_pos e'];simp [-getElem?_pos,zvu,zvr,e];refine zan (fun n st => ∃ (i o e:Nat) (a:List Int),i+n=l.length/\a.length=i/\(res (l.drop i) (m.drop i)).map (a ++ ·)=res l m/\st.V 0 = .sl 1 (zab l)/\st.V 1 = .sl 1 (zab m)/\st.V 6 = .ref o none e 0 a.length/\st.V 7=iv i/\o<st.nx/\st.ep=0/\st.S o=some (.row 1 (zab a))) ?_ l.length _ ⟨0,0,0,[],by omega,rfl,by simp⟩;rintro n st ⟨i,o,ep,a,hi,ha,hr,v0,v1,v6,v7,hox,hep,hSo⟩;simp [ye6,v0,v7];refine zay (fun h => ?_) (fun h => ?_)
 ·simp at h;obtain ⟨x,hx⟩ : ∃ x,l[i]?=some x:=⟨_,bG h⟩;obtain ⟨y,hy⟩ : ∃ y,m[i]?=some y:=⟨_,bG (by omega)⟩;have hx':=zaz hx;have hy':=zaz hy;have him:i<m.length:=by omega
  have hw:=wS h (by omega:l.length<=9223372036854775807);have hsub:=yaz x y (hli x (bF hx)) (hmi y (bF hy));rw [ypo hx hy] at hr;have z1:=fr hox;have hr8:=zc4 (n:=a.length+1) (by omega);cases c:(sbi x y).2 with
  | true =>
   rw [if_pos c] at hr;rw [c] at hsub;simp [-getElem?_pos,v0,v1,v6,v7,hep,hSo,z1,hx',hy',h,him,hsub,hr8,zc8,hw];refine zai (n-1) (by omega) ⟨i+1,st.nx+1,0,a++[(sbi x y).1],by omega,by simp [ha],?_,by simp [v0,v1,hep]⟩;rw [<- hr];cases res (l.drop (i+1)) (m.drop (i+1)) <;> simp
  | false =>
   rw [if_neg (by simp [c])] at hr;rw [c] at hsub;simp at hr;simp [-getElem?_pos,v0,v1,v6,v7,hep,hSo,z1,hx',hy',h,him,hsub,<- hr]
 ·simp at h;rw [List.drop_eq_nil_of_le h,ybq] at hr;simp at hr;rw [<- hr];simp [-getElem?_pos,v6,hSo]
def LC (S:Nat->Option Ob) (nx:Nat) (lo:Nat) (m:List Int) (x:PV):Prop:=(x = .e0/\m=[])\/∃ o e,x = .ref o none e 0 m.length/\lo<o/\o<nx/\S o=some (.row 1 (zab m))
def sv (s:ByteArray):PV := .v (.string s)
def za2 (l:List ByteArray):List (List PV):=l.map fun s=>[.v (.string s)]
@[simp] theorem qum (l:List ByteArray):(za2 l).length=l.length:=by simp [za2]
theorem zmf {l:List ByteArray} {i:Nat} {x:ByteArray} (h:l[i]?=some x):(za2 l)[i]?=some [.v (.string x)]:=by simp [za2,h]
def szs (l:List ByteArray):Nat:=(l.map ByteArray.size).sum
theorem yph (x:ByteArray) (l:List ByteArray):szs (x::l)=x.size+szs l:=by simp [szs]
def ze0 (l:List ByteArray):Nat:=l.length+szs l
theorem y74 (l:List ByteArray) (left:Int) (h0:0<=left) (h1:left<=1048576) (hl:l.length<=9223372036854775807) (hll : ∀ x∈l,x.size<=9223372036854775807):RUN T zqs [.sl 1 (za2 l),iv left]=some ([iv (if left-ze0 l<0 then -1 else left-ze0 l)],[]):=by
 refine zae rfl rfl ?_;have e:=w64 (x:=left-l.length) (by omega) (by omega);have ht:ze0 l=l.length+szs l:=rfl;simp [z0t,zs6,e];refine zay (fun h => ?_) (fun h => ?_)
 ·simp at h;rw [if_pos (by omega)];simp
 ·simp at h;simp;refine zan (fun n st => ∃ i:Nat,i+n=l.length/\∃ r:Int,0<=r/\r<=1048576/\r-szs (l.drop i)=left-ze0 l/\st.V 0 = .sl 1 (za2 l)/\st.V 1=iv r/\st.V 5=iv i) ?_ l.length _ ⟨0,by omega,left-l.length,by omega,by omega,by simp; omega,by simp⟩;rintro n st ⟨i,hi,r,hr0,hr1,hr,v0,v1,v5⟩;simp [ye7,v0,v5];refine zay (fun h => ?_) (fun h => ?_)
  ·simp at h;obtain ⟨x,hx⟩ : ∃ x,l[i]?=some x:=⟨_,bG h⟩;have hx':=zmf hx;have hw:=wS h hl;have hxs:=hll x (bF hx);rw [zc3 hx,yph] at hr;have e2:=w64 (x:=r-x.size) (by omega) (by omega);rcases Classical.propComplete (r-x.size<0) with d | d
   ·rw [if_pos (by simp at d; omega)];simp [-getElem?_pos,v0,v1,v5,hx',h,e2,d]
   ·simp [-getElem?_pos,v0,v1,v5,hx',h,hw,e2,d];simp at d;exact zai (n-1) (by omega) ⟨i+1,by omega,r-x.size,by omega,by omega,by omega,by simp [v0]⟩
  ·simp at h;rw [List.drop_eq_nil_of_le (by omega)] at hr;have:szs []=0:=rfl;rw [if_neg (by omega)];simp [v1];omega
theorem y75 (l:List ByteArray) (hl:l.length<=1048576):RUN T zqu [.sl 1 (za2 l)]=some ([.own 1 (za2 l)],[]):=by
 refine zae rfl rfl ?_;have hr:zaj 16 l.length=true:=by simp [zaj]; omega
 simp [z0z,zzr,hr];refine zan (fun n st => ∃ i:Nat,i+n=l.length/\st.V 0 = .sl 1 (za2 l)/\st.V 3 = .ref 0 none 0 0 l.length/\st.V 4=iv i/\st.ep=0/\st.S 0=some (.row 1 (fil (fun s=>[.v (.string s)]) [.v (.string (bs []))] l i))) ?_ l.length _ ⟨0,by simp [ycz]⟩;rintro n st ⟨i,hi,h0,h3,h4,hep,hS⟩;simp [ye9,h0,h3,h4,hS];refine zay (fun h => ?_) (fun h => ?_)
 ·simp at h;obtain ⟨x,hx⟩ : ∃ x,l[i]?=some x:=⟨_,bG h⟩;have hw:=wS h (by omega:l.length<=9223372036854775807);have hg:=yc2 (f:=fun s=>[PV.v (.string s)]) (z:=[.v (.string (bs []))]) h;have hs:=yce (f:=fun s=>[PV.v (.string s)]) (z:=[.v (.string (bs []))]) hx;have hx':=zmf hx;simp [-getElem?_pos,h0,h3,h4,hS,hep,h,hx',hw,hg,hs,ycg (Nat.le_of_lt h)];exact zai (n-1) (by omega) ⟨i+1,by omega,by simp [h0,h3]⟩
 ·simp at h;have e:=ych (f:=fun s=>[PV.v (.string s)]) (z:=[.v (.string (bs []))]) (by omega:i=l.length);simp [h3,hS,e,za2]
theorem y76 (l:List ByteArray) (hl:l.length<=9223372036854775807):RUN T zqx [.sl 1 (za2 l),.sl 1 (za2 l)]=some ([bv true],[]):=by
 refine zae rfl rfl ?_;simp [z09,zs6];refine zan (fun n st => ∃ i:Nat,i+n=l.length/\st.V 0 = .sl 1 (za2 l)/\st.V 1 = .sl 1 (za2 l)/\st.V 5=iv i) ?_ l.length _ ⟨0,by simp⟩;rintro n st ⟨i,hi,h0,h1,h5⟩;simp [yfe,h0,h1,h5];refine zay (fun h => ?_) (fun h => ?_)
 ·simp at h;obtain ⟨x,hx⟩ : ∃ x,l[i]?=some x:=⟨_,bG h⟩;have hw:=wS h hl;have hx':=zmf hx;simp [-getElem?_pos,h0,h1,h5,hx',hw,h];exact zai (n-1) (by omega) ⟨i+1,by omega,by simp [h0,h1]⟩
 ·simp at h;simp
def zjk (q:Bool) (t:List Nd):PV:=if q then .own 5 (t.map nd) else .sl 5 (t.map nd)
@[simp] theorem q5j (q:Bool) (t:List Nd):fz (zjk q t) = .sl 5 (t.map nd):=by cases q <;> simp [zjk]
def trs (q:Bool) (M:List (List Nd)):List (List PV):=M.map fun t=>[zjk q t]
@[simp] theorem qqc (q:Bool) (M:List (List Nd)):(trs q M).length=M.length:=by simp [trs]
theorem zu3 {q:Bool} {M:List (List Nd)} {i:Nat} {t:List Nd} (h:M[i]?=some t):(trs q M)[i]?=some [zjk q t]:=by simp [trs,h]
def zbw (M:List (List Nd)):Nat:=(M.map List.length).sum
def zx9 (M:List (List Nd)):Nat:=M.length+zbw M
theorem z85 (l:List Nd) (M:List (List Nd)):zbw (l::M)=l.length+zbw M:=by simp [zbw]
theorem yts {M:List (List Nd)} : ∀ {l:List Nd},l∈M->l.length<=zbw M:=by
 induction M with
 | nil=>simp
 | cons a M ih =>
  intro l h;rw [z85];rcases List.mem_cons.mp h with e | e
  ·subst e; omega
  ·have:=ih e; omega
theorem y77 (p q:Bool) (M:List (List Nd)) (hl:M.length<=9223372036854775807) (hll : ∀ l∈M,l.length<=9223372036854775807):RUN T zqw [.sl 1 (trs p M),.sl 1 (trs q M)]=some ([bv true],[]):=by
 refine zae rfl rfl ?_;simp [z07,zs6];refine zan (fun n st => ∃ i:Nat,i+n=M.length/\st.V 0 = .sl 1 (trs p M)/\st.V 1 = .sl 1 (trs q M)/\st.V 5=iv i) ?_ M.length _ ⟨0,by simp⟩;rintro n st ⟨i,hi,v0,v1,v5⟩;simp [yfd,v0,v1,v5];refine zay (fun h => ?_) (fun h => ?_)
 ·simp at h;obtain ⟨l,hx⟩ : ∃ l,M[i]?=some l:=⟨_,bG h⟩;have hw:=wS h hl;have hx1:=zu3 (q:=p) hx;have hx2:=zu3 (q:=q) hx;have hz:=y7b l (hll l (bF hx));simp [-getElem?_pos,v0,v1,v5,h,hx1,hx2,hw,hz];exact zai (n-1) (by omega) ⟨i+1,by omega,by simp [v0,v1]⟩
 ·simp at h;simp
structure Mo where
 ns:List ByteArray
 ix:List Int
 b:Int
 ts:List (List Nd)
structure MoL (n:Nat) (m:Mo):Prop where
 ns:m.ns.length<=n
 ss : ∀ x∈m.ns,x.size<=n
 ix:m.ix.length<=n
 ts:m.ts.length<=n
 tl : ∀ l∈m.ts,l.length<=n
theorem MoL.mono {n k:Nat} {m:Mo} (h:MoL n m) (hk:n<=k):MoL k m:=⟨Nat.le_trans h.ns hk,fun x hx=>Nat.le_trans (h.ss x hx) hk,Nat.le_trans h.ix hk,Nat.le_trans h.ts hk,fun x hx=>Nat.le_trans (h.tl x hx) hk⟩
def yn9 (m:Mo):Nat:=ze0 m.ns+m.ix.length+zx9 m.ts
theorem ype {l:List ByteArray} : ∀ {x:ByteArray},x∈l->x.size<=szs l:=by
 induction l with
 | nil=>simp
 | cons a l ih =>
  intro x h;rw [yph];rcases List.mem_cons.mp h with e | e
  ·subst e; omega
  ·have:=ih e; omega
theorem MoL.of {m:Mo} {n:Nat} (h:yn9 m<=n):MoL n m:=by
 unfold yn9 ze0 zx9 at h;exact ⟨by omega,fun x hx=>by have:=ype hx; omega,by omega,by omega,fun x hx=>by have:=yts hx; omega⟩
theorem z9v {α:Type} {l m:List α} {i:Nat} (hl:l.length=m.length) (hi:l.length<=i) (h : ∀ j,j<i->l[j]?=m[j]?):l=m:=by
 apply List.ext_getElem?;intro j
 by_cases c:j<i
 ·exact h j c
 ·rw [List.getElem?_eq_none (by omega),List.getElem?_eq_none (by omega)]
theorem z70 {α:Type} {l m:List α} {i:Nat} {x y:α} (hx:l[i]?=some x) (hy:m[i]?=some y) (h : ¬ x=y):(l=m)=False:=by
 apply eq_false;rintro rfl;rw [hx] at hy;cases hy;exact h rfl
theorem z9x {α:Type} {l m:List α} (h:((l.length:Int)=m.length)=False):(l=m)=False:=by
 apply eq_false;rintro rfl;simp at h
theorem qde (s:ByteArray) : ∀ (n i:Nat) (r:List UInt8),s.size-i<=n->ByteArray.toList.loop s i r=r.reverse++s.data.toList.drop i:=by
 have hs:s.data.toList.length=s.size:=by cases s; rfl
 intro n
 induction n with
 | zero =>
  intro i r h;rw [ByteArray.toList.loop,if_neg (by omega),List.drop_eq_nil_of_le (by omega)];simp
 | succ n ih =>
  intro i r h;rw [ByteArray.toList.loop];split
  ·rename_i hi;rw [ih _ _ (by omega)];have hi':i<s.data.toList.length:=by omega
   rw [List.drop_eq_getElem_cons hi'];have:s.get! i=s.data.toList[i]:=by
    cases s with
    | mk d =>
     show d[i]! = _;rw [getElem!_pos d i (by simpa using hi')];simp
   simp [this]
  ·rename_i hi;rw [List.drop_eq_nil_of_le (by omega)];simp
theorem yqu (s:ByteArray):s.toList=s.data.toList:=by
 unfold ByteArray.toList;rw [qde s s.size 0 [] (by omega)];simp
theorem qho {x y:ByteArray} (h:x.toList=y.toList):x=y:=by
 rw [yqu,yqu] at h;cases x; cases y;simp at h;simp [h]
theorem ytj {x y:ByteArray} (h : ¬ x=y):(x.toList == y.toList)=false:=by
 simp only [beq_eq_false_iff_ne,ne_eq];exact fun e=>h (qho e)
open Classical in
theorem y78 (l m:List Int) (hl:l.length<=9223372036854775807):RUN T zqc [.sl 1 (zab l),.sl 1 (zab m)]=some ([bv (decide (l=m))],[]):=by
 refine zae rfl rfl ?_;rcases Classical.propComplete ((l.length:Int)=m.length) with hlm | hlm
 case inr =>
  simp [-getElem?_pos,zvh,zs6,hlm,z9x hlm]
 simp [-getElem?_pos,zvh,zs6,hlm];have hlen:l.length=m.length:=by simp at hlm; omega
 refine zan (fun n st => ∃ i:Nat,i+n=l.length/\(∀ j,j<i->l[j]?=m[j]?)/\st.V 0 = .sl 1 (zab l)/\st.V 1 = .sl 1 (zab m)/\st.V 5=iv i) ?_ l.length _ ⟨0,by simp⟩;rintro n st ⟨i,hi,hj,v0,v1,v5⟩;simp [ye2,v0,v1,v5];refine zay (fun h => ?_) (fun h => ?_)
 ·simp at h;obtain ⟨x,hx⟩ : ∃ x,l[i]?=some x:=⟨_,bG h⟩;obtain ⟨y,hy⟩ : ∃ y,m[i]?=some y:=⟨_,bG (by omega)⟩;have hx':=zaz hx;have hy':=zaz hy;have hw:=wS h hl;have him:i<m.length:=by omega
  by_cases e:x=y
  ·simp [-getElem?_pos,v0,v1,v5,hx',hy',h,him,hw,eq_true e];exact zai (n-1) (by omega) ⟨i+1,by omega,zik hj (by rw [hx,hy,e]),by simp [v0,v1]⟩
  ·simp [-getElem?_pos,v0,v1,v5,hx',hy',h,him,hw,eq_false e,z70 hx hy e]
 ·simp at h;simp [z9v hlen h hj]
open Classical in
theorem y79 (l m:List Int) (hl:l.length<=9223372036854775807):RUN T zqd [.sl 1 (zab l),.sl 1 (zab m)]=some ([bv (decide (l=m))],[]):=by
 refine zae rfl rfl ?_;rcases Classical.propComplete ((l.length:Int)=m.length) with hlm | hlm
 case inr =>
  simp [-getElem?_pos,zvj,zs6,hlm,z9x hlm]
 simp [-getElem?_pos,zvj,zs6,hlm];have hlen:l.length=m.length:=by simp at hlm; omega
 refine zan (fun n st => ∃ i:Nat,i+n=l.length/\(∀ j,j<i->l[j]?=m[j]?)/\st.V 0 = .sl 1 (zab l)/\st.V 1 = .sl 1 (zab m)/\st.V 12=iv l.length/\st.V 13=iv i) ?_ l.length _ ⟨0,by simp [hlen]⟩;rintro n st ⟨i,hi,hj,v0,v1,v12,v13⟩;simp [ye3,v12,v13];refine zay (fun h => ?_) (fun h => ?_)
 ·simp at h;obtain ⟨x,hx⟩ : ∃ x,l[i]?=some x:=⟨_,bG h⟩;obtain ⟨y,hy⟩ : ∃ y,m[i]?=some y:=⟨_,bG (by omega)⟩;have hx':=zaz hx;have hy':=zaz hy;have hw:=wS h hl;have him:i<m.length:=by omega
  by_cases e:x=y
  ·simp [-getElem?_pos,v0,v1,v12,v13,hx',hy',h,him,hw,eq_true e];exact zai (n-1) (by omega) ⟨i+1,by omega,zik hj (by rw [hx,hy,e]),by simp [v0,v1,v12]⟩
  ·simp [-getElem?_pos,v0,v1,v12,v13,hx',hy',h,him,hw,eq_false e,z70 hx hy e]
 ·simp at h;simp [z9v hlen h hj]
def rwS (q:Bool) (l:List ByteArray):PV:=if q then .own 1 (za2 l) else .sl 1 (za2 l)
@[simp] theorem q54 (q:Bool) (l:List ByteArray):fz (rwS q l) = .sl 1 (za2 l):=by cases q <;> simp [rwS]
def yui (q:Bool) (L:List (List ByteArray)):List (List PV):=L.map fun l=>[rwS q l]
@[simp] theorem qyr (q:Bool) (L:List (List ByteArray)):(yui q L).length=L.length:=by simp [yui]
theorem qep (cs:List PV) (h:zbg [.str] cs) : ∃ s:ByteArray,[PV.v (.string s)]=cs/\s.size<=9223372036854775807:=by
 simp only [zbg,Shp] at h;obtain ⟨_,_,rfl,⟨a,rfl,h1⟩,rfl⟩:=h;simp [maxLen] at h1;exact ⟨a,rfl,by omega⟩
def ltr (n:Int):Bool:=decide (97<=n) && decide (n<=122)
def dgt (n:Int):Bool:=decide (48<=n) && decide (n<=57)
def chB (s:ByteArray) (i:Nat):Bool:=match s[i]? with
 | none=>true
 | some b=>ltr b.toNat || (decide (i≠0) && dgt b.toNat)
def zd6 (s:ByteArray):Bool:=zah s.size 1 12 && (List.range s.size).all (chB s)
theorem yb9 {s:ByteArray} {i:Nat} {b:UInt8} (h:s[i]?=some b):chB s i=(ltr b.toNat || (decide (i≠0) && dgt b.toNat)):=by simp [chB,h]
theorem y8a (s:ByteArray) (hs:s.size<=9223372036854775807):RUN T zq9 [.v (.string s)]=some ([bv (zd6 s)],[]):=by
 refine zae rfl rfl ?_;simp [-getElem?_pos,z2c,zj1];refine zan (fun n st => ∃ i:Nat,i+n=s.size/\(∀ j,j<i->chB s j=true)/\st.V 0 = .v (.string s)/\st.V 6=iv s.size/\st.V 7=iv i) ?_ s.size _ ⟨0,by simp⟩;rintro n st ⟨i,hi,hj,v0,v6,v7⟩;simp [yfk,v6,v7];refine zay (fun h => ?_) (fun h => ?_)
 ·simp at h;obtain ⟨b,hb⟩ : ∃ b,s[i]?=some b:=⟨_,getElem?_pos s i h⟩;have hw:=wS h hs;have hc:=yb9 hb;obtain ⟨c,hcc⟩ : ∃ c:Int,c=b.toNat:=⟨_,rfl⟩;rw [<- hcc] at hc;have hi0:((i:Int)=0)=(i=0):=by simp
  rcases Classical.propComplete (97<=c) with a1 | a1
  all_goals rcases Classical.propComplete (c<=122) with a2 | a2
  all_goals rcases Classical.propComplete (i=0) with a3 | a3
  all_goals rcases Classical.propComplete (48<=c) with a4 | a4
  all_goals rcases Classical.propComplete (c<=57) with a5 | a5
  all_goals have a6:(c<48) = ¬ (48<=c):=by simp
  all_goals have a7:(57<c) = ¬ (c<=57):=by simp
  all_goals simp [ltr,dgt,a1,a2,a3,a4,a5] at hc
  all_goals simp [-getElem?_pos,v0,v6,v7,hb,<- hcc,a1,a2,a3,a4,a5,a6,a7,hi0,hw]
  all_goals first
   | exact zai (n-1) (by omega) ⟨i+1,by omega,zik hj hc,by simp [v0,v6]⟩
   | (have no:zd6 s=false:=by
       unfold zd6;rw [zg4 h hc]; simp
      simp [no]; done)
   | skip
 ·simp at h;have:=zpa (p:=chB s) (n:=s.size) fun j hj'=>hj j (by omega);unfold zd6;rw [this];simp [-getElem?_pos,v0,zcs,-zbm]
theorem yl1 (s:ByteArray) (hs:s.size<=9223372036854775807):RUN T zmw [.v (.string s)]=some ([bv (zd6 s)],[]):=by
 refine zae rfl rfl ?_;rcases Bool.eq_false_or_eq_true (zah s.size 1 12) with h0 | h0
 case inr =>
  have no:zd6 s=false:=by unfold zd6; rw [h0]; rfl
  simp [-getElem?_pos,ztf,zj1,zbn,-za3,h0,no]
 have hr:=zaw.mp h0;obtain ⟨b0,hb0⟩ : ∃ b,s[0]?=some b:=⟨_,getElem?_pos s 0 (by omega)⟩;have hn0:zb1 (.v (.int .i64 0))=some 0:=rfl;rcases Classical.propComplete (((b0.toNat:Nat):Int)<97) with f | f
 case inl =>
  have hc:chB s 0=false:=by
   rw [yb9 hb0];have : ¬ (97<=(b0.toNat:Int)):=by have:=of_eq_true f; omega
   simp [ltr,this]
  have no:zd6 s=false:=by unfold zd6; rw [zg4 (by omega) hc]; simp
  simp [-getElem?_pos,ztf,zj1,zbn,-za3,h0,no,hb0,f]
 simp [-getElem?_pos,ztf,zj1,zbn,-za3,h0,hb0,f];refine zan (fun n st => ∃ i:Nat,i+n=s.size/\(∀ j,j<i->chB s j=true)/\st.V 0 = .v (.string s)/\st.V 3=iv i) ?_ s.size _ ⟨0,by simp⟩;rintro n st ⟨i,hi,hj,v0,v3⟩;simp [yez,v0,v3];refine zay (fun h => ?_) (fun h => ?_)
 ·simp at h;obtain ⟨b,hb⟩ : ∃ b,s[i]?=some b:=⟨_,getElem?_pos s i h⟩;have hw:=wS h hs;have hc:=yb9 hb;have hcv:IntKind.i64.wrap (b.toNat:Int)=b.toNat:=w64 (by omega) (by have:=b.toNat_lt; omega);have e1:zah (b.toNat:Int) 97 122=ltr b.toNat:=rfl;have e2:zah (b.toNat:Int) 48 57=dgt b.toNat:=rfl;cases a1:ltr b.toNat with
  | true =>
   have e3:=e1.trans a1;simp [-getElem?_pos,v0,v3,hb,hcv,e3,hw,zbn,-za3];exact zai (n-1) (by omega) ⟨i+1,by omega,zik hj (by rw [hc,a1]; rfl),by simp [v0]⟩
  | false =>
   have e3:=e1.trans a1;cases a2:dgt b.toNat with
   | true =>
    have e4:=e2.trans a2;have hi0:i≠0:=by
     rintro rfl;rw [hb0] at hb;cases hb;simp [dgt] at a2;have:=of_eq_false f;omega
    simp [-getElem?_pos,v0,v3,hb,hcv,e3,e4,hw,zbn,-za3];exact zai (n-1) (by omega) ⟨i+1,by omega,zik hj (by rw [hc,a1,a2]; simp [hi0]),by simp [v0]⟩
   | false =>
    have e4:=e2.trans a2;have no:zd6 s=false:=by unfold zd6; rw [zg4 h (by rw [hc,a1,a2]; simp:chB s i=false)]; simp
    simp [-getElem?_pos,v0,v3,hb,hcv,e3,e4,hw,no,zbn,-za3]
 ·simp at h;have:=zpa (p:=chB s) (n:=s.size) fun j hj'=>hj j (by omega);have ok:zd6 s=true:=by unfold zd6; rw [this,h0]; rfl
  simp [ok]
theorem z8l (l:List ByteArray) (i:Nat):List.take i (za2 l)=za2 (l.take i):=by simp [za2]
def zga (l:List ByteArray) (x:ByteArray):Bool:=l.any fun y=>decide (y=x)
theorem yl2 (l:List ByteArray) (x:ByteArray) (hl:l.length<=9223372036854775807):RUN T zmx [.sl 1 (za2 l),.v (.string x)]=some ([bv (zga l x)],[]):=by
 refine zae rfl rfl ?_;simp [-getElem?_pos,zzm,zs6];refine zan (fun n st => ∃ i:Nat,i+n=l.length/\(∀ (j:Nat) (y:ByteArray),j<i->l[j]?=some y->¬ y=x)/\st.V 0 = .sl 1 (za2 l)/\st.V 1 = .v (.string x)/\st.V 5=iv i) ?_ l.length _ ⟨0,by simp⟩;rintro n st ⟨i,hi,hj,v0,v1,v5⟩;simp [ye0,v0,v5];refine zay (fun h => ?_) (fun h => ?_)
 ·simp at h;obtain ⟨y,hy⟩ : ∃ y,l[i]?=some y:=⟨_,bG h⟩;have hy':=zmf hy;have hw:=wS h hl
  by_cases e:y=x
  ·subst e;have:zga l y=true:=by
    unfold zga; rw [List.any_eq_true]; exact ⟨y,bF hy,by simp⟩
   simp [-getElem?_pos,v0,v1,v5,hy',h,this]
  ·simp [-getElem?_pos,v0,v1,v5,hy',h,hw,ytj e];exact zai (n-1) (by omega) ⟨i+1,by omega,zku (P:=fun _ y => ¬ y=x) hj hy e,by simp [v0,v1]⟩
 ·simp at h;have:zga l x=false:=by
   unfold zga;rw [List.any_eq_false];intro y hy;obtain ⟨j,hjy⟩:=bH hy;simpa using hj j y (by have:=(bD hjy).1; omega) hjy
  simp [this]
theorem y8b (l:List ByteArray) (x:ByteArray) (hl:l.length<=9223372036854775807):RUN T zr1 [.sl 1 (za2 l),.v (.string x)]=some ([iv (zh2 (fun y=>decide (y=x)) l)],[]):=by
 refine zae rfl rfl ?_;simp [-getElem?_pos,z34,zs6];refine zan (fun n st => ∃ i:Nat,i+n=l.length/\(∀ (j:Nat) (y:ByteArray),j<i->l[j]?=some y->decide (y=x)=false)/\st.V 0 = .sl 1 (za2 l)/\st.V 1 = .v (.string x)/\st.V 7=iv l.length/\st.V 8=iv i) ?_ l.length _ ⟨0,by simp⟩;rintro n st ⟨i,hi,hj,v0,v1,v7,v8⟩;simp [yfu,v7,v8];refine zay (fun h => ?_) (fun h => ?_)
 ·simp at h;obtain ⟨y,hy⟩ : ∃ y,l[i]?=some y:=⟨_,bG h⟩;have hy':=zmf hy;have hw:=wS h hl
  by_cases e:y=x
  ·subst e;have:=z9q (p:=fun z=>decide (z=y)) hy (by simp) hj;simp [-getElem?_pos,v0,v1,v7,v8,hy',h,this]
  ·simp [-getElem?_pos,v0,v1,v7,v8,hy',h,hw,ytj (fun e'=>e e'.symm)];exact zai (n-1) (by omega) ⟨i+1,by omega,zku (P:=fun _ y=>decide (y=x)=false) hj hy (by simpa using e),by simp [v0,v1,v7]⟩
 ·simp at h;have:=z9f (p:=fun z=>decide (z=x)) (l:=l) fun j y h1 h2=>hj j y (by omega) h2;simp [-getElem?_pos,this]
theorem y8c (l:List ByteArray) (x:ByteArray) (hl:l.length<=9223372036854775807):RUN T zra [.sl 1 (za2 l),.v (.string x)]=some ([bv (zga l x)],[]):=by
 refine zae rfl rfl ?_;have h:=y8b l x hl;have e:=z81 (p:=fun y=>decide (y=x)) (l:=l);have e2:zga l x=l.any fun y=>decide (y=x):=rfl;rw [e2,<- e];simp [-getElem?_pos,z2e,zs6,h]
def nmB (L:List ByteArray) (i:Nat):Bool:=match L[i]? with
 | none=>true
 | some x=>zd6 x && !zga (L.take i) x
def zg0 (L:List ByteArray):Bool:=(List.range L.length).all (nmB L)
theorem zxm {L:List ByteArray} {i:Nat} {x:ByteArray} (h:L[i]?=some x):nmB L i=(zd6 x && !zga (L.take i) x):=by simp [nmB,h]
theorem y8d (L:List ByteArray) (hl:L.length<=9223372036854775807) (hs : ∀ x∈L,x.size<=9223372036854775807):RUN T zqf [.sl 1 (za2 L)]=some ([bv (zg0 L)],[]):=by
 refine zae rfl rfl ?_;simp [-getElem?_pos,zz7,zj1];refine zan (fun n st => ∃ i:Nat,i+n=L.length/\(∀ j,j<i->nmB L j=true)/\st.V 0 = .sl 1 (za2 L)/\st.V 5 = .sl 1 (za2 L)/\st.V 6=iv L.length/\st.V 7=iv i) ?_ L.length _ ⟨0,by simp⟩;rintro n st ⟨i,hi,hj,v0,v5,v6,v7⟩;simp [ye4,v6,v7];refine zay (fun h => ?_) (fun h => ?_)
 ·simp at h;obtain ⟨x,hx⟩ : ∃ x,L[i]?=some x:=⟨_,bG h⟩;have hx':=zmf hx;have hw:=wS h hl;have hN:=y8a x (hs x (bF hx));have hC:=y8c (L.take i) x (by simp; omega);have hc:=zxm hx;have hil:i<=L.length:=by omega
  cases a1:zd6 x with
  | false =>
   rw [a1] at hN hc;have no:zg0 L=false:=zg4 h (by rw [hc]; rfl);simp [-getElem?_pos,v0,v5,v6,v7,hx',h,hw,hN,no]
  | true =>
   rw [a1] at hN hc;cases a2:zga (L.take i) x with
   | true =>
    rw [a2] at hC hc;have no:zg0 L=false:=zg4 h (by rw [hc]; rfl);simp [-getElem?_pos,v0,v5,v6,v7,hx',h,hw,hN,hC,hil,z8l,no]
   | false =>
    rw [a2] at hC hc;simp [-getElem?_pos,v0,v5,v6,v7,hx',h,hw,hN,hC,hil,z8l];exact zai (n-1) (by omega) ⟨i+1,by omega,zik hj (by rw [hc]; rfl),by simp [v0,v5,v6]⟩
 ·simp at h;have:zg0 L=true:=zpa fun j hj'=>hj j (by omega);simp [this]
def z8q (row:List Int):List (List Nd)->Int->Int
 | [],a=>a
 | t::ts,a=>z8q row ts (IntKind.i64.wrap (a+evt t row))
def qid (p:Nat->Bool) (i:Nat):List Int:=((List.range i).filter p).map fun (j:Nat)=>(j:Int)
@[simp] theorem qwt (p:Nat->Bool):qid p 0=[]:=rfl
def zxy (k:Int) (L:List (List Int)) (j:Nat):List Int:=upto (k+lens (L.take j)) (L.getD j []).length
theorem z8r {es:List (List PV)} {i:Nat} {c d:PV} (h:es[i]?=some [c]):zb0 es i 0 d=es.set i [d]:=by simp [zb0,h]
theorem qdd {L:List (List Int)} {i:Nat} {l:List Int} (h:L[i]?=some l):lens (L.take (i+1))=lens (L.take i)+l.length:=by
 unfold lens;rw [List.take_succ,h]; simp
theorem qcq (L:List (List Int)) (i:Nat):lens (L.take i)<=lens L:=by
 induction L generalizing i with
 | nil=>simp
 | cons a L ih =>
  cases i with
  | zero=>simp [lens]
  | succ i=>rw [List.take_succ_cons,z9a,z9a]; have:=ih i; omega
theorem y8e (L:List (List Int)) (k:Int) (h0:0<=k) (hk:k+lens L<=9223372036854775806) (hL:L.length<=9223372036854775807):RUN T zq0 [.own 1 (rws true L),iv k]=some ([iv (k+lens L)],[.own 1 (rws true ((List.range L.length).map (zxy k L)))]):=by
 refine zae rfl rfl ?_;simp [-getElem?_pos,z1f,zs6];obtain ⟨f,hf⟩ : ∃ f:Nat->List PV,f=fun j=>[cel true (zxy k L j)]:=⟨_,rfl⟩;refine zan (fun n st => ∃ i:Nat,i+n=L.length/\1<=st.nx/\st.V 0 = .ref 0 none 0 0 L.length/\st.V 1=iv (k+lens (L.take i))/\st.V 5=iv i/\st.S 0=some (.row 1 (mix f (rws true L) i))) ?_ L.length _ ⟨0,by simp [z8u,lens]⟩;rintro n st ⟨i,hi,hnx,v0,v1,v5,hS⟩;simp [yfg,v0,v1,v5,hS];refine zay (fun h => ?_) (fun h => ?_)
 ·simp at h;obtain ⟨l,hx⟩ : ∃ l,L[i]?=some l:=⟨_,bG h⟩;have hw:=wS h hL;have hx':=zcu (q:=true) hx;have hg:=(z86 (f:=f) (l:=rws true L) (i:=i)).trans hx';have hs:=z89 (f:=f) (l:=rws true L) (i:=i) (by simpa using h);have hle:=qcq L (i+1);have htk:=qdd hx;have hM:=z7p l (k+lens (L.take i)) (by omega) (by omega);have hsc : ∀ d:PV,zb0 (mix f (rws true L) i) i 0 d=(mix f (rws true L) i).set i [d]:=fun d=>z8r hg;have hfi:f i=[.own 1 (zab (upto (k+lens (L.take i)) l.length))]:=by rw [hf]; simp [zxy,hx,cel]
  rw [hfi] at hs;have hml:=z87 (f:=f) (l:=rws true L) (i:=i) (by simp; omega);simp at hml;have hss : ∀ d:PV,zb0 ((mix f (rws true L) i).set i [.undef]) i 0 d=(mix f (rws true L) i).set i [d]:=fun d=>by
   rw [z8r (c := .undef) (by rw [List.getElem?_set_self (by omega)]),List.set_set]
  simp only [cel,if_true] at hg;obtain ⟨z1,z2,z3,z4⟩:=fr (show 0<st.nx by omega);simp [-getElem?_pos,v0,v1,v5,hS,h,hg,hml,hM,hsc,hss,hs,hw,z1,z2,z3,z4,zbl];refine zai (n-1) (by omega) ⟨i+1,by omega,by simp,by simp [v0],?_,by simp⟩;simp [htk]; omega
 ·simp at h;have e:=z8x (f:=f) (l:=rws true L) (i:=i) (by simp; omega);have e2:i=L.length:=by omega
  subst e2;rw [e] at hS;rw [List.take_length] at v1;have e3:rws true ((List.range L.length).map (zxy k L))=(List.range L.length).map f:=by rw [hf]; simp [rws,Function.comp_def]
  rw [e3];simp [-getElem?_pos,hS,v1]
theorem zjc (x:Int):IntKind.u64.wrap x=x % 18446744073709551616:=IntKind.wrap_u64 x
theorem ynk (a b:Int):zbb .mul (.int .u64 a) (.int .u64 b)=some (.int .u64 (a*b % 18446744073709551616)):=by rw [ybn,zjc]
theorem yuk (a b:Int):zbb .add (.int .u64 a) (.int .u64 b)=some (.int .u64 ((a+b) % 18446744073709551616)):=by rw [ydk,zjc]
theorem ysq (x:Int):zbb .shr (.int .u64 x) (.int .u64 32)=some (.int .u64 (x / 4294967296)):=by
 rw [ybu,if_pos (by decide)];have:(2:Int) ^ min (32:Int).toNat IntKind.u64.bits=4294967296:=by decide
 rw [this,Int.fdiv_eq_ediv_of_nonneg _ (by decide)]
theorem qhu (x:Int):zbb .shl (.int .u64 x) (.int .u64 32)=some (.int .u64 (x*4294967296 % 18446744073709551616)):=by
 rw [yte,if_pos (by decide),zjc];have:(2:Int) ^ min (32:Int).toNat IntKind.u64.bits=4294967296:=by decide
 rw [this]
theorem zo1 {x:Int} (h0:0<=x) (h1:x<18446744073709551616):zbb .and (.int .u64 x) (.int .u64 4294967295)=some (.int .u64 (x % 4294967296)):=by
 rw [ycs,zjc];have e:((BitVec.ofInt IntKind.u64.bits x &&& BitVec.ofInt IntKind.u64.bits 4294967295).toNat:Int)=x % 4294967296:=by
  obtain ⟨n,rfl⟩:=Int.eq_ofNat_of_zero_le h0;have hn:n<2 ^ 64:=by omega
  have e2:(BitVec.ofInt 64 (n:Int) &&& BitVec.ofInt 64 4294967295).toNat=n % 4294967296:=by
   rw [BitVec.toNat_and];have e3:(BitVec.ofInt 64 (n:Int)).toNat=n:=by
    rw [BitVec.ofInt_natCast,BitVec.toNat_ofNat,Nat.mod_eq_of_lt hn]
   have e4:(BitVec.ofInt 64 4294967295).toNat=2 ^ 32-1:=by decide
   rw [e3,e4,Nat.and_two_pow_sub_one_eq_mod]
  show (((BitVec.ofInt 64 (n:Int) &&& BitVec.ofInt 64 4294967295).toNat:Nat):Int)=_;rw [e2]; omega
 rw [e]; congr 2; omega
theorem parts {x y:Int} (hx:0<=x) (hx1:x<18446744073709551616) (hy:0<=y) (hy1:y<18446744073709551616) :
  ∃ a b c d:Int,a=x % 4294967296*(y % 4294967296)/\b=x / 4294967296*(y % 4294967296)/\c=x % 4294967296*(y / 4294967296)/\d=x / 4294967296*(y / 4294967296)/\0<=a/\a<=18446744065119617025/\0<=b/\b<=18446744065119617025/\0<=c/\c<=18446744065119617025/\0<=d/\d<=18446744065119617025/\x*y=d*18446744073709551616+(b+c)*4294967296+a:=by
 have bd : ∀ u v:Int,0<=u->u<=4294967295->0<=v->v<=4294967295->0<=u*v/\u*v<=18446744065119617025:=fun u v h1 h2 h3 h4 =>
  ⟨Int.mul_nonneg h1 h3,Int.le_trans (Int.mul_le_mul h2 h4 h3 (by decide)) (by decide)⟩
 have x0:0<=x % 4294967296/\x % 4294967296<=4294967295:=by omega
 have x1:0<=x / 4294967296/\x / 4294967296<=4294967295:=by omega
 have y0:0<=y % 4294967296/\y % 4294967296<=4294967295:=by omega
 have y1:0<=y / 4294967296/\y / 4294967296<=4294967295:=by omega
 refine ⟨_,_,_,_,rfl,rfl,rfl,rfl,(bd _ _ x0.1 x0.2 y0.1 y0.2).1,(bd _ _ x0.1 x0.2 y0.1 y0.2).2,(bd _ _ x1.1 x1.2 y0.1 y0.2).1,(bd _ _ x1.1 x1.2 y0.1 y0.2).2,(bd _ _ x0.1 x0.2 y1.1 y1.2).1,(bd _ _ x0.1 x0.2 y1.1 y1.2).2,(bd _ _ x1.1 x1.2 y1.1 y1.2).1,(bd _ _ x1.1 x1.2 y1.1 y1.2).2,?_⟩;have ex:x=x / 4294967296*4294967296+x % 4294967296:=by omega
 have ey:y=y / 4294967296*4294967296+y % 4294967296:=by omega
 generalize x / 4294967296=p at *;generalize x % 4294967296=q at *;generalize y / 4294967296=r at *;generalize y % 4294967296=s at *;rw [ex,ey,Int.add_mul,Int.mul_add,Int.mul_add];have e1:p*4294967296*(r*4294967296)=p*r*18446744073709551616:=by
  rw [show (18446744073709551616:Int)=4294967296*4294967296 by decide,Int.mul_assoc,Int.mul_comm 4294967296 (r*4294967296),Int.mul_assoc r,<- Int.mul_assoc p r]
 have e2:p*4294967296*s=p*s*4294967296:=by rw [Int.mul_assoc,Int.mul_comm 4294967296 s,<- Int.mul_assoc]
 have e3:q*(r*4294967296)=q*r*4294967296:=by rw [<- Int.mul_assoc]
 rw [e1,e2,e3,Int.add_mul];omega
theorem ya0 (x y:Int) (hx:0<=x) (hx1:x<18446744073709551616) (hy:0<=y) (hy1:y<18446744073709551616):RUN T zl1 [.v (.int .u64 x),.v (.int .u64 y)]=some ([.v (.int .u64 (x*y / 18446744073709551616)),.v (.int .u64 (x*y % 18446744073709551616))],[]):=by
 refine zae rfl rfl ?_;obtain ⟨a,b,c,d,ea,eb,ec,ed,a0,a1,b0,b1,c0,c1,d0,d1,hp⟩:=parts hx hx1 hy hy1;have f1:=zo1 hx hx1;have f2:=zo1 hy hy1;have g1:a % 18446744073709551616=a:=by omega
 have g2:b % 18446744073709551616=b:=by omega
 have g3:c % 18446744073709551616=c:=by omega
 have g4:d % 18446744073709551616=d:=by omega
 have g5:(b+a / 4294967296) % 18446744073709551616=b+a / 4294967296:=by omega
 have f3:=zo1 (x:=b+a / 4294967296) (by omega) (by omega);simp [-ybn,-ydk,-ycs,-ybu,ynk,yuk,ysq,f1,f2,f3,z68,zj9,<- ea,<- eb,<- ec,<- ed,g1,g2,g3,g4,g5];omega
theorem ya1 (x y:Int) (hx:0<=x) (hx1:x<18446744073709551616) (hy:0<=y) (hy1:y<18446744073709551616):RUN T zl3 [.v (.int .u64 x),.v (.int .u64 y)]=some ([.v (.int .u64 (x*y / 18446744073709551616)),.v (.int .u64 (x*y % 18446744073709551616))],[]):=by
 refine zae rfl rfl ?_;obtain ⟨a,b,c,d,ea,eb,ec,ed,a0,a1,b0,b1,c0,c1,d0,d1,hp⟩:=parts hx hx1 hy hy1;have f1:=zo1 hx hx1;have f2:=zo1 hy hy1;have g1:a % 18446744073709551616=a:=by omega
 have g2:b % 18446744073709551616=b:=by omega
 have g3:c % 18446744073709551616=c:=by omega
 have g4:d % 18446744073709551616=d:=by omega
 have g5:(b+a / 4294967296) % 18446744073709551616=b+a / 4294967296:=by omega
 have f3:=zo1 (x:=b+a / 4294967296) (by omega) (by omega);have f4:=zo1 (x:=a) (by omega) (by omega);simp [-ybn,-ydk,-ycs,-ybu,-yte,ynk,yuk,ysq,qhu,f1,f2,f3,f4,z7e,zj9,<- ea,<- eb,<- ec,<- ed,g1,g2,g3,g4,g5];omega
structure Wd where
 n:Bool
 h:Int
 l:Int
deriving DecidableEq
abbrev uv (x:Int):PV := .v (.int .u64 x)
def wd (w:Wd):List PV:=[bv w.n,uv w.h,uv w.l]
def wfU (w:Wd):Prop:=0<=w.h/\w.h<18446744073709551616/\0<=w.l/\w.l<18446744073709551616
def wok (w:Wd):Bool:=decide (w.h<9223372036854775808) && (!w.n || decide (0<w.h) || decide (0<w.l))
def mag (w:Wd):Int:=w.h*18446744073709551616+w.l
def mkW (n:Bool) (m:Int):Wd:=⟨n && decide (0<m),m / 18446744073709551616,m % 18446744073709551616⟩
def za8:Wd:=⟨false,0,0⟩
theorem ycf {n:Bool} {m:Int} (h0:0<=m) (h1:m<340282366920938463463374607431768211456):wfU (mkW n m):=by
 unfold wfU mkW; simp only; omega
theorem ybx {n:Bool} {m:Int} (h0:0<=m):wok (mkW n m)=decide (m<170141183460469231731687303715884105728):=by
 unfold wok mkW;simp only
 by_cases h:m<170141183460469231731687303715884105728
 ·have e:m / 18446744073709551616<9223372036854775808:=by omega
  rw [decide_eq_true h,decide_eq_true e]
  by_cases hz:0<m
  ·by_cases h2:0<m / 18446744073709551616
   ·simp [h2]
   ·have:0<m % 18446744073709551616:=by omega
    simp [this]
  ·simp [hz]
 ·have e : ¬ m / 18446744073709551616<9223372036854775808:=by omega
  rw [decide_eq_false h,decide_eq_false e]; rfl
theorem ya2 (n:Int) (h:inI n):RUN T zl0 [iv n]=some ([uv n.natAbs],[]):=by
 refine zae rfl rfl ?_;obtain ⟨h0,h1⟩:=h;simp [z66,zj1];refine zay (fun h => ?_) (fun h => ?_) <;> simp at h <;> simp [zjc] <;> omega
theorem ya3 (n:Int) (h:inI n):RUN T zl2 [iv n]=some ([uv n.natAbs],[]):=by
 refine zae rfl rfl ?_;obtain ⟨h0,h1⟩:=h;have e1:n<0->IntKind.i64.wrap (n+1)=n+1:=fun h=>w64 (by omega) (by omega);have e2:n<0->IntKind.i64.wrap (0-(n+1))=0-(n+1):=fun h=>w64 (by omega) (by omega);simp [z7c,zj1];refine zay (fun h => ?_) (fun h => ?_) <;> simp at h
 ·have e1:=e1 h;have e2:=e2 h;simp at e2;simp [e1,e2,zjc]; omega
 ·simp [zjc]; omega
theorem zxj (n:Bool) (h l:Int):RUN T zhd [bv n,uv h,uv l]=some ([.agg (wd ⟨n && (decide (0<h) || decide (0<l)),h,l⟩)],[]):=by
 refine zae rfl rfl ?_;cases n with
 | false=>simp [zt4,zt5,wd]
 | true =>
  by_cases h1:0<h
  ·simp [zt4,zt5,wd,h1]
  ·simp [zt4,zt5,wd,h1]
theorem zt8 (w:Wd):RUN T zht [.agg (wd w)]=some ([bv (wok w)],[]):=by
 refine zae rfl rfl ?_;obtain ⟨n,h,l⟩:=w;unfold wok
 by_cases h1:h<9223372036854775808
 ·cases n with
  | false=>simp [zoh,zj1,wd,h1]
  | true =>
   by_cases h2:0<h
   ·simp [zoh,zj1,wd,h1,h2]
   ·simp [zoh,zj1,wd,h1,h2]
 ·simp [zoh,zj1,wd,h1]
theorem zt9 (w:Wd):RUN T zhu [.agg (wd w)]=some ([bv (wok w)],[]):=by
 refine zae rfl rfl ?_;obtain ⟨n,h,l⟩:=w;unfold wok
 by_cases h1:h<9223372036854775808
 ·cases n with
  | false=>simp [zoj,zj1,wd,h1]
  | true =>
   by_cases h2:0<h
   ·simp [zoj,zj1,wd,h1,h2]
   ·simp [zoj,zj1,wd,h1,h2]
 ·simp [zoj,zj1,wd,h1]
theorem zxk (w:Wd):RUN T zjy [.agg (wd w)]=some ([bv (decide (w.h=0) && decide (w.l=0))],[]):=by
 refine zae rfl rfl ?_
 by_cases h1:w.h=0
 ·simp [zxe,zj1,wd,h1]
 ·simp [zxe,zj1,wd,h1]
def zco (a b:Int):Int:=if a<b then -1 else if b<a then 1 else 0
theorem yl3 (x:Int):RUN T zn3 [uv x]=some ([bv false],[]):=by
 refine zae rfl rfl ?_;simp [z7g,zj1]
theorem yl4 (x y:Int):RUN T zn2 [uv x,uv y]=some ([iv (zco x y)],[]):=by
 refine zae rfl rfl ?_;have e1:=yl3 x;have e2:=yl3 y;unfold zco
 by_cases h1:x<y
 ·simp [zt6,zs6,e1,e2,h1]
 ·by_cases h2:y<x
  ·simp [zt6,zs6,e1,e2,h1,h2]
  ·simp [zt6,zs6,e1,e2,h1,h2]
theorem yl5 (x y:Int):RUN T znv [.sl 1 [[iv x],[iv y]]]=some ([iv (if x=0 then y else x)],[]):=by
 refine zae rfl rfl ?_;simp [z6i,zj1];refine zan (fun n st => ∃ i:Nat,i+n=2/\(1<=i->x=0)/\(2<=i->y=0)/\st.V 3=iv 0/\st.V 6 = .sl 1 [[iv x],[iv y]]/\st.V 7=iv 2/\st.V 8=iv i) ?_ 2 _ ⟨0,by simp⟩;rintro n st ⟨i,hi,hx,hy,v3,v6,v7,v8⟩;simp [yf2,v7,v8];have h3:i=0\/i=1\/i=2:=by omega
 rcases h3 with rfl | rfl | rfl
 ·have hw:IntKind.i64.wrap 1=1:=w64 (by omega) (by omega)
  by_cases h:x=0
  ·simp [v3,v6,v7,v8,h,hw];exact zai (n-1) (by omega) ⟨1,by omega,fun _=>h,by simp [v3,v6,h,v7]⟩
  ·simp [v3,v6,v7,v8,h]
 ·have hx:=hx (by omega);have hw:IntKind.i64.wrap 2=2:=w64 (by omega) (by omega)
  by_cases h:y=0
  ·simp [v3,v6,v7,v8,h,hx,hw];exact zai (n-1) (by omega) ⟨2,by omega,fun _=>hx,fun _=>h,by simp [v3,v6,h,hx,v7]⟩
  ·simp [v3,v6,v7,v8,h,hx]
 ·have hx:=hx (by omega);have hy:=hy (by omega);simp [v3,hx,hy]
def ze3 (a b:Wd):Int:=if zco a.h b.h=0 then zco a.l b.l else zco a.h b.h
theorem ysa {a b:Wd} (ha:wfU a) (hb:wfU b):ze3 a b=zco (mag a) (mag b):=by
 obtain ⟨_,_,_,_⟩:=ha;obtain ⟨_,_,_,_⟩:=hb;unfold ze3 zco mag;split <;> split <;> split <;> (try split) <;> (try split) <;> omega
theorem ya4 (a b:Wd):RUN T zlx [.agg (wd a),.agg (wd b)]=some ([iv (ze3 a b)],[]):=by
 refine zae rfl rfl ?_;have e1:=yl4 a.h b.h;have e2:=yl4 a.l b.l;have e3:=yl5 (zco a.h b.h) (zco a.l b.l);simp [z6y,zs6,wd,e1,e2,e3,ze3]
theorem ya5 (a b:Wd):RUN T zly [.agg (wd a),.agg (wd b)]=some ([iv (ze3 a b)],[]):=by
 refine zae rfl rfl ?_;unfold ze3 zco
 by_cases h1:a.h<b.h
 ·simp [zma,zs6,wd,h1]
 ·by_cases h2:b.h<a.h
  ·have h3 : ¬ a.h=b.h:=by omega
   simp [zma,zs6,wd,h1,h2,h3]
  ·have h3:a.h=b.h:=by omega
   by_cases h4:a.l<b.l
   ·simp [zma,zs6,wd,h3,h4]
   ·by_cases h5:b.l<a.l
    ·simp [zma,zs6,wd,h3,h4,h5]
    ·simp [zma,zs6,wd,h3,h4,h5]
def zen (a b:Int):Wd:=mkW (decide (a<0) != decide (b<0)) ((a.natAbs:Int)*b.natAbs)
theorem zkj {a:Int} (h:inI a):0<=(a.natAbs:Int)/\(a.natAbs:Int)<=9223372036854775808:=by
 obtain ⟨h0,h1⟩:=h; omega
theorem yqe {a b:Int} (ha:inI a) (hb:inI b):0<=(a.natAbs:Int)*b.natAbs/\(a.natAbs:Int)*b.natAbs<=85070591730234615865843651857942052864:=by
 obtain ⟨a0,a1⟩:=zkj ha;obtain ⟨b0,b1⟩:=zkj hb;exact ⟨Int.mul_nonneg a0 b0,Int.le_trans (Int.mul_le_mul a1 b1 b0 (by decide)) (by decide)⟩
theorem y8f (a b:Int) (ha:inI a) (hb:inI b):RUN T zs3 [iv a,iv b]=some ([.agg (wd (zen a b))],[]):=by
 refine zae rfl rfl ?_;obtain ⟨a0,a1⟩:=zkj ha;obtain ⟨b0,b1⟩:=zkj hb;have e1:=ya2 a ha;have e2:=ya2 b hb;have e3:=ya0 a.natAbs b.natAbs a0 (by omega) b0 (by omega);have e4:=zxj (decide (a<0) != decide (b<0)) ((a.natAbs:Int)*b.natAbs / 18446744073709551616) ((a.natAbs:Int)*b.natAbs % 18446744073709551616);obtain ⟨m0,m1⟩:=yqe ha hb;have e5:(⟨(decide (a<0) != decide (b<0)) && (decide (0<(a.natAbs:Int)*b.natAbs / 18446744073709551616) || decide (0<(a.natAbs:Int)*b.natAbs % 18446744073709551616)),(a.natAbs:Int)*b.natAbs / 18446744073709551616,(a.natAbs:Int)*b.natAbs % 18446744073709551616⟩:Wd)=zen a b:=by
  unfold zen mkW
  congr 2
  generalize (a.natAbs:Int)*b.natAbs=m at *;rw [Bool.eq_iff_iff]; simp; omega
 rw [e5] at e4;generalize zen a b=w at *;obtain ⟨wn,wh,wl⟩:=w;simp only [wd] at e4 ⊢
 by_cases sa:a<0 <;> by_cases sb:b<0 <;> simp [sa,sb] at e4 <;> simp [z64,z65,e1,e2,e3,sa,sb,e4]
theorem y8g (a b:Int) (ha:inI a) (hb:inI b):RUN T zs4 [iv a,iv b]=some ([.agg (wd (zen a b))],[]):=by
 refine zae rfl rfl ?_;obtain ⟨a0,a1⟩:=zkj ha;obtain ⟨b0,b1⟩:=zkj hb;have e1:=ya3 a ha;have e2:=ya3 b hb;have e3:=ya1 a.natAbs b.natAbs a0 (by omega) b0 (by omega);have hpos:(0<(a.natAbs:Int)*b.natAbs)↔(a≠0/\b≠0):=by
  constructor
  ·intro h;refine ⟨?_,?_⟩ <;> rintro rfl <;> simp at h
  ·rintro ⟨h1,h2⟩;exact Int.mul_pos (by omega) (by omega)
 have e5:zen a b=⟨((decide (a<0) != decide (b<0)) && !decide (a=0)) && !decide (b=0),(a.natAbs:Int)*b.natAbs / 18446744073709551616,(a.natAbs:Int)*b.natAbs % 18446744073709551616⟩:=by
  unfold zen mkW
  congr 1
  rw [Bool.eq_iff_iff]; simp [hpos,and_assoc]
 rw [e5]
 by_cases sa:a<0 <;> by_cases sb:b<0 <;> rcases Classical.propComplete (a=0) with h0 | h0 <;> simp [z7a,z65,e1,e2,e3,sa,sb,wd,h0]
def zez (w:Wd):Int:=if w.n then -mag w else mag w
def zck (a b:Wd):Wd×Bool :=
 if wok a && wok b then
  if ((zez a+zez b).natAbs:Int)<170141183460469231731687303715884105728 then (mkW (decide (zez a+zez b<0)) (zez a+zez b).natAbs,true) else (za8,false)
 else (za8,false)
theorem qe2 (a b:Wd):wfU (zck a b).1:=by
 unfold zck;split
 ·split
  ·exact ycf (by omega) (by omega)
  ·exact ⟨by decide,by decide,by decide,by decide⟩
 ·exact ⟨by decide,by decide,by decide,by decide⟩
theorem zmr {w:Wd} (h:wfU w) (hk:wok w=true):0<=mag w/\mag w<170141183460469231731687303715884105728/\(w.n=true->0<mag w):=by
 obtain ⟨h0,h1,h2,h3⟩:=h;unfold wok at hk;simp only [Bool.and_eq_true,Bool.or_eq_true,Bool.not_eq_true',decide_eq_true_eq] at hk;unfold mag;obtain ⟨k1,k2⟩:=hk;refine ⟨by omega,by omega,fun hn => ?_⟩;rw [hn] at k2;rcases k2 with (k2 | k2) | k2
 ·cases k2
 ·omega
 ·omega
theorem qb5 (a b:Wd) (ha:wfU a) (hb:wfU b) (h:mag a+mag b<340282366920938463463374607431768211456) : ∃ c d:Int,
  RUN T zjz [uv a.l,uv b.l,uv 0]=some ([uv ((mag a+mag b) % 18446744073709551616),uv c],[])/\RUN T zjz [uv a.h,uv b.h,uv c]=some ([uv ((mag a+mag b) / 18446744073709551616),uv d],[]):=by
 obtain ⟨a0,a1,a2,a3⟩:=ha;obtain ⟨b0,b1,b2,b3⟩:=hb;have e1:=yco yaq (x:=a.l) (y:=b.l) (c:=0) a2 b2 (by decide) (by decide);have e2:=yco yaq (x:=a.h) (y:=b.h) (c:=(a.l+b.l+0) / 18446744073709551616) a0 b0 (by omega) (by omega);have f1:(a.l+b.l+0) % 18446744073709551616=(mag a+mag b) % 18446744073709551616:=by unfold mag; omega
 have f2:(a.h+b.h+(a.l+b.l+0) / 18446744073709551616) % 18446744073709551616=(mag a+mag b) / 18446744073709551616:=by unfold mag at *; omega
 rw [f1] at e1;rw [f2] at e2;exact ⟨_,_,e1,e2⟩
theorem ynm (a b:Wd) (ha:wfU a) (hb:wfU b) (h:mag b<=mag a) : ∃ c d:Int,
  RUN T zlz [uv a.l,uv b.l,uv 0]=some ([uv ((mag a-mag b) % 18446744073709551616),uv c],[])/\RUN T zlz [uv a.h,uv b.h,uv c]=some ([uv ((mag a-mag b) / 18446744073709551616),uv d],[]):=by
 obtain ⟨a0,a1,a2,a3⟩:=ha;obtain ⟨b0,b1,b2,b3⟩:=hb;have e1:=yot yll (x:=a.l) (y:=b.l) (c:=0) a2 b2 a3 b3 (by decide) (by decide);have e2:=yot yll (x:=a.h) (y:=b.h) (c:=if a.l<b.l+0 then 1 else 0) a0 b0 a1 b1 (by split <;> omega) (by split <;> omega);have f1:(a.l-b.l-0) % 18446744073709551616=(mag a-mag b) % 18446744073709551616:=by unfold mag; omega
 have f2:(a.h-b.h-(if a.l<b.l+0 then 1 else 0)) % 18446744073709551616=(mag a-mag b) / 18446744073709551616:=by
  unfold mag at *;split <;> omega
 rw [f1] at e1;rw [f2] at e2;exact ⟨_,_,e1,e2⟩
theorem yds {n:Bool} {m:Int} (h:0<=m):RUN T zhd [bv n,uv (m / 18446744073709551616),uv (m % 18446744073709551616)]=some ([.agg (wd (mkW n m))],[]):=by
 rw [zxj];have:(⟨n && (decide (0<m / 18446744073709551616) || decide (0<m % 18446744073709551616)),m / 18446744073709551616,m % 18446744073709551616⟩:Wd)=mkW n m:=by
  unfold mkW
  congr 2
  rw [Bool.eq_iff_iff]; simp; omega
 rw [this]
theorem y8h (a b:Wd) (ha:wfU a) (hb:wfU b):RUN T zs0 [.agg (wd a),.agg (wd b)]=some ([.agg (wd (zck a b).1),bv (zck a b).2],[]):=by
 refine zae rfl rfl ?_;have ea:=zt8 a;have eb:=zt8 b;cases ka:wok a with
 | false =>
  have es:zck a b=(za8,false):=by unfold zck; simp [ka]
  rw [es]; rw [ka] at ea;simp only [wd] at ea;simp [zke,zkf,wd,ea,za8]
 | true =>
  cases kb:wok b with
  | false =>
   have es:zck a b=(za8,false):=by unfold zck; simp [kb]
   rw [es]; rw [ka] at ea; rw [kb] at eb;simp only [wd] at ea eb;simp [zke,zkf,wd,ea,eb,za8]
  | true =>
   obtain ⟨ma0,ma1,ma2⟩:=zmr ha ka;obtain ⟨mb0,mb1,mb2⟩:=zmr hb kb;rw [ka] at ea; rw [kb] at eb
   by_cases hn:a.n=b.n
   ·obtain ⟨c,d,f1,f2⟩:=qb5 a b ha hb (by omega);have f3:=yds (n:=a.n) (m:=mag a+mag b) (by omega);have f4:=zt8 (mkW a.n (mag a+mag b));rw [ybx (by omega)] at f4;have es:zck a b=if mag a+mag b<170141183460469231731687303715884105728 then (mkW a.n (mag a+mag b),true) else (za8,false):=by
     unfold zck zez;rw [ka,kb,<- hn];simp only [Bool.and_self,if_true];cases h:a.n with
     | true =>
      have e1:(-mag a + -mag b).natAbs=mag a+mag b:=by omega
      have e2 : -mag a + -mag b<0:=by have:=ma2 h; omega
      simp only [if_true,e1,decide_eq_true e2]
     | false =>
      have e1:((mag a+mag b).natAbs:Int)=mag a+mag b:=by omega
      have e2 : ¬ mag a+mag b<0:=by omega
      simp only [Bool.false_eq_true,if_false,e1,decide_eq_false e2]
    rw [es];generalize hm:mag a+mag b=m at *;generalize mkW a.n m=w at *;generalize m / 18446744073709551616=hi at *;generalize m % 18446744073709551616=lo at *;simp only [wd] at ea eb f3 f4 ⊢;rw [hn] at ea f3
    by_cases hk:m<170141183460469231731687303715884105728
    ·rw [decide_eq_true hk] at f4;rw [if_pos hk];simp [zke,zkf,ea,eb,hn,f1,f2,f3,f4]
    ·rw [decide_eq_false hk] at f4;rw [if_neg hk];simp [zke,zkf,ea,eb,hn,f1,f2,f3,f4,za8]
   ·have ho:=ya4 a b;rw [ysa ha hb] at ho;have es:zck a b=(mkW (if mag a<mag b then b.n else a.n) (if mag a<mag b then mag b-mag a else mag a-mag b),true):=by
     have gen : ∀ (n:Bool) (m:Int),((zez a+zez b).natAbs:Int)=m->m<170141183460469231731687303715884105728->(decide (zez a+zez b<0) && decide (0<m))=(n && decide (0<m))->zck a b=(mkW n m,true):=by
      intro n m h1 h2 h3;unfold zck;rw [ka,kb,h1];simp only [Bool.and_self,if_true,if_pos h2];unfold mkW;rw [h3]
     unfold zez at gen;cases h:a.n <;> cases h':b.n <;> simp only [h,h'] at gen hn ⊢
     ·exact (hn trivial).elim
     ·by_cases hl:mag a<mag b
      ·rw [if_pos hl,if_pos hl];exact gen _ _ (by simp; omega) (by omega) (by rw [Bool.eq_iff_iff]; simp; omega)
      ·rw [if_neg hl,if_neg hl];exact gen _ _ (by simp; omega) (by omega) (by rw [Bool.eq_iff_iff]; simp; omega)
     ·by_cases hl:mag a<mag b
      ·rw [if_pos hl,if_pos hl];exact gen _ _ (by simp; omega) (by omega) (by rw [Bool.eq_iff_iff]; simp; omega)
      ·rw [if_neg hl,if_neg hl];exact gen _ _ (by simp; omega) (by omega) (by rw [Bool.eq_iff_iff]; simp; omega)
     ·exact (hn trivial).elim
    rw [es];have hnb:(a.n == b.n)=false:=by cases h:a.n <;> cases h':b.n <;> simp [h,h'] at hn ⊢
    by_cases hl:mag a<mag b
    ·obtain ⟨c,d,f1,f2⟩:=ynm b a hb ha (by omega);have f3:=yds (n:=b.n) (m:=mag b-mag a) (by omega);have hs:zco (mag a) (mag b) = -1:=by unfold zco; rw [if_pos hl]
     rw [hs] at ho;rw [if_pos hl,if_pos hl];generalize mag b-mag a=m at *;generalize mkW b.n m=w at *;generalize m / 18446744073709551616=hi at *;generalize m % 18446744073709551616=lo at *;simp only [wd] at ea eb f3 ho ⊢;simp [zke,zkf,ea,eb,hnb,ho,f1,f2,f3]
    ·obtain ⟨c,d,f1,f2⟩:=ynm a b ha hb (by omega);have f3:=yds (n:=a.n) (m:=mag a-mag b) (by omega);have hs : ¬ zco (mag a) (mag b)<0:=by unfold zco; rw [if_neg hl]; split <;> omega
     rw [if_neg hl,if_neg hl];generalize mag a-mag b=m at *;generalize mkW a.n m=w at *;generalize m / 18446744073709551616=hi at *;generalize m % 18446744073709551616=lo at *;generalize zco (mag a) (mag b)=sg at *;simp only [wd] at ea eb f3 ho ⊢;simp [zke,zkf,ea,eb,hnb,ho,hs,f1,f2,f3]
theorem qhx {a b:Wd} (ha:wfU a) (hb:wfU b) (ka:wok a=true) (kb:wok b=true) (hn:a.n=b.n):zck a b=if mag a+mag b<170141183460469231731687303715884105728 then (mkW a.n (mag a+mag b),true) else (za8,false):=by
 obtain ⟨ma0,ma1,ma2⟩:=zmr ha ka;obtain ⟨mb0,mb1,mb2⟩:=zmr hb kb;unfold zck zez;rw [ka,kb,<- hn];simp only [Bool.and_self,if_true];cases h:a.n with
 | true =>
  have e1:(-mag a + -mag b).natAbs=mag a+mag b:=by omega
  have e2 : -mag a + -mag b<0:=by have:=ma2 h; omega
  simp only [if_true,e1,decide_eq_true e2]
 | false =>
  have e1:((mag a+mag b).natAbs:Int)=mag a+mag b:=by omega
  have e2 : ¬ mag a+mag b<0:=by omega
  simp only [Bool.false_eq_true,if_false,e1,decide_eq_false e2]
theorem qed {a b:Wd} (ha:wfU a) (hb:wfU b) (ka:wok a=true) (kb:wok b=true) (hn : ¬ a.n=b.n):zck a b=(mkW (if mag a<mag b then b.n else a.n) (if mag a<mag b then mag b-mag a else mag a-mag b),true):=by
 obtain ⟨ma0,ma1,ma2⟩:=zmr ha ka;obtain ⟨mb0,mb1,mb2⟩:=zmr hb kb;have gen : ∀ (n:Bool) (m:Int),((zez a+zez b).natAbs:Int)=m->m<170141183460469231731687303715884105728->(decide (zez a+zez b<0) && decide (0<m))=(n && decide (0<m))->zck a b=(mkW n m,true):=by
  intro n m h1 h2 h3;unfold zck;rw [ka,kb,h1];simp only [Bool.and_self,if_true,if_pos h2];unfold mkW;rw [h3]
 unfold zez at gen;cases h:a.n <;> cases h':b.n <;> simp only [h,h'] at gen hn ⊢
 ·exact (hn trivial).elim
 ·by_cases hl:mag a<mag b
  ·rw [if_pos hl,if_pos hl];exact gen _ _ (by simp; omega) (by omega) (by rw [Bool.eq_iff_iff]; simp; omega)
  ·rw [if_neg hl,if_neg hl];exact gen _ _ (by simp; omega) (by omega) (by rw [Bool.eq_iff_iff]; simp; omega)
 ·by_cases hl:mag a<mag b
  ·rw [if_pos hl,if_pos hl];exact gen _ _ (by simp; omega) (by omega) (by rw [Bool.eq_iff_iff]; simp; omega)
  ·rw [if_neg hl,if_neg hl];exact gen _ _ (by simp; omega) (by omega) (by rw [Bool.eq_iff_iff]; simp; omega)
 ·exact (hn trivial).elim
theorem qbl (a b:Wd) (ha:wfU a) (hb:wfU b) (h:mag a+mag b<340282366920938463463374607431768211456) :
  IntKind.u64.wrap (a.l+b.l)=(mag a+mag b) % 18446744073709551616/\((mag a+mag b) % 18446744073709551616<a.l->IntKind.u64.wrap (IntKind.u64.wrap (a.h+b.h)+1)=(mag a+mag b) / 18446744073709551616)/\(¬ (mag a+mag b) % 18446744073709551616<a.l->IntKind.u64.wrap (a.h+b.h)=(mag a+mag b) / 18446744073709551616):=by
 obtain ⟨a0,a1,a2,a3⟩:=ha;obtain ⟨b0,b1,b2,b3⟩:=hb;unfold mag at *;refine ⟨?_,fun h => ?_,fun h => ?_⟩ <;> simp only [zjc] at * <;> omega
theorem ym2 (a b:Wd) (ha:wfU a) (hb:wfU b) (h:mag b<=mag a) :
  IntKind.u64.wrap (a.l-b.l)=(mag a-mag b) % 18446744073709551616/\(a.l<b.l->IntKind.u64.wrap (IntKind.u64.wrap (a.h-b.h)-1)=(mag a-mag b) / 18446744073709551616)/\(¬ a.l<b.l->IntKind.u64.wrap (a.h-b.h)=(mag a-mag b) / 18446744073709551616):=by
 obtain ⟨a0,a1,a2,a3⟩:=ha;obtain ⟨b0,b1,b2,b3⟩:=hb;unfold mag at *;refine ⟨?_,fun h => ?_,fun h => ?_⟩ <;> simp only [zjc] at * <;> omega
theorem y8i (a b:Wd) (ha:wfU a) (hb:wfU b):RUN T zs2 [.agg (wd a),.agg (wd b)]=some ([.agg (wd (zck a b).1),bv (zck a b).2],[]):=by
 refine zae rfl rfl ?_;have ea:=zt9 a;have eb:=zt9 b;cases ka:wok a with
 | false =>
  have es:zck a b=(za8,false):=by unfold zck; simp [ka]
  rw [es]; rw [ka] at ea;simp only [wd] at ea;simp [zf0,zkf,wd,ea,za8]
 | true =>
  cases kb:wok b with
  | false =>
   have es:zck a b=(za8,false):=by unfold zck; simp [kb]
   rw [es]; rw [ka] at ea; rw [kb] at eb;simp only [wd] at ea eb;simp [zf0,zkf,wd,ea,eb,za8]
  | true =>
   obtain ⟨ma0,ma1,ma2⟩:=zmr ha ka;obtain ⟨mb0,mb1,mb2⟩:=zmr hb kb;rw [ka] at ea; rw [kb] at eb
   by_cases hn:a.n=b.n
   ·obtain ⟨f1,f2,f3⟩:=qbl a b ha hb (by omega);have f4:=zt9 (mkW a.n (mag a+mag b));rw [ybx (by omega)] at f4;rw [qhx ha hb ka kb hn];have e6:mkW a.n (mag a+mag b)=⟨a.n,(mag a+mag b) / 18446744073709551616,(mag a+mag b) % 18446744073709551616⟩:=by
     unfold mkW
     congr 1
     cases h:a.n with
     | false=>rfl
     | true=>have:=ma2 h; simp; omega
    rw [e6] at f4 ⊢;generalize hm:mag a+mag b=m at *;generalize m / 18446744073709551616=hi at *;generalize m % 18446744073709551616=lo at *;simp only [wd] at ea eb f4 ⊢;rw [hn] at ea f4
    by_cases hc:lo<a.l
    ·have f2:=f2 hc
     by_cases hk:m<170141183460469231731687303715884105728
     ·rw [decide_eq_true hk] at f4;rw [if_pos hk];simp [zf0,zkf,ea,eb,hn,hc,f1,f2,f4]
     ·rw [decide_eq_false hk] at f4;rw [if_neg hk];simp [zf0,zkf,ea,eb,hn,hc,f1,f2,f4,za8]
    ·have f3:=f3 hc
     by_cases hk:m<170141183460469231731687303715884105728
     ·rw [decide_eq_true hk] at f4;rw [if_pos hk];simp [zf0,zkf,ea,eb,hn,hc,f1,f3,f4]
     ·rw [decide_eq_false hk] at f4;rw [if_neg hk];simp [zf0,zkf,ea,eb,hn,hc,f1,f3,f4,za8]
   ·have ho:=ya5 a b;rw [ysa ha hb] at ho;rw [qed ha hb ka kb hn];have hnb:(a.n == b.n)=false:=by cases h:a.n <;> cases h':b.n <;> simp [h,h'] at hn ⊢
    by_cases hl:mag a<mag b
    ·obtain ⟨f1,f2,f3⟩:=ym2 b a hb ha (by omega);have hz:=zxk ⟨b.n,(mag b-mag a) / 18446744073709551616,(mag b-mag a) % 18446744073709551616⟩;have hs:zco (mag a) (mag b) = -1:=by unfold zco; rw [if_pos hl]
     rw [hs] at ho;rw [if_pos hl,if_pos hl];have e6:mkW b.n (mag b-mag a)=⟨b.n,(mag b-mag a) / 18446744073709551616,(mag b-mag a) % 18446744073709551616⟩:=by
      unfold mkW
      congr 1
      rw [decide_eq_true (show 0<mag b-mag a by omega),Bool.and_true]
     have e7:(decide ((mag b-mag a) / 18446744073709551616=0) && decide ((mag b-mag a) % 18446744073709551616=0))=false:=by
      rw [Bool.eq_false_iff]; simp; omega
     simp only at hz;rw [e7] at hz;rw [e6];clear e6 e7;generalize mag b-mag a=m at *;generalize m / 18446744073709551616=hi at *;generalize m % 18446744073709551616=lo at *;simp only [wd] at ea eb ho hz ⊢
     by_cases hc:b.l<a.l
     ·have f2:=f2 hc;simp [zf0,zkf,ea,eb,hnb,ho,hc,f1,f2,hz]
     ·have f3:=f3 hc;simp [zf0,zkf,ea,eb,hnb,ho,hc,f1,f3,hz]
    ·obtain ⟨f1,f2,f3⟩:=ym2 a b ha hb (by omega);have hz:=zxk ⟨a.n,(mag a-mag b) / 18446744073709551616,(mag a-mag b) % 18446744073709551616⟩;have hs : ¬ zco (mag a) (mag b)<0:=by unfold zco; rw [if_neg hl]; split <;> omega
     rw [if_neg hl,if_neg hl];generalize zco (mag a) (mag b)=sg at *
     by_cases h0:mag a-mag b=0
     ·have e6:mkW a.n (mag a-mag b)=⟨false,(mag a-mag b) / 18446744073709551616,(mag a-mag b) % 18446744073709551616⟩:=by
       unfold mkW
       congr 1
       simp [h0]
      have e7:(decide ((mag a-mag b) / 18446744073709551616=0) && decide ((mag a-mag b) % 18446744073709551616=0))=true:=by
       simp; omega
      simp only at hz;rw [e7] at hz;rw [e6];clear e6 e7 h0;generalize mag a-mag b=m at *;generalize m / 18446744073709551616=hi at *;generalize m % 18446744073709551616=lo at *;simp only [wd] at ea eb ho hz ⊢
      by_cases hc:a.l<b.l
      ·have f2:=f2 hc;simp [zf0,zkf,ea,eb,hnb,ho,hs,hc,f1,f2,hz]
      ·have f3:=f3 hc;simp [zf0,zkf,ea,eb,hnb,ho,hs,hc,f1,f3,hz]
     ·have e6:mkW a.n (mag a-mag b)=⟨a.n,(mag a-mag b) / 18446744073709551616,(mag a-mag b) % 18446744073709551616⟩:=by
       unfold mkW
       congr 1
       rw [decide_eq_true (show 0<mag a-mag b by omega),Bool.and_true]
      have e7:(decide ((mag a-mag b) / 18446744073709551616=0) && decide ((mag a-mag b) % 18446744073709551616=0))=false:=by
       rw [Bool.eq_false_iff]; simp; omega
      simp only at hz;rw [e7] at hz;rw [e6];clear e6 e7 h0;generalize mag a-mag b=m at *;generalize m / 18446744073709551616=hi at *;generalize m % 18446744073709551616=lo at *;simp only [wd] at ea eb ho hz ⊢
      by_cases hc:a.l<b.l
      ·have f2:=f2 hc;simp [zf0,zkf,ea,eb,hnb,ho,hs,hc,f1,f2,hz]
      ·have f3:=f3 hc;simp [zf0,zkf,ea,eb,hnb,ho,hs,hc,f1,f3,hz]
theorem qbz {a b:Int} (ha:inI a) (hb:inI b):wfU (zen a b):=by
 obtain ⟨m0,m1⟩:=yqe ha hb;exact ycf m0 (by omega)
def zdl (w:Wd) (k:Int):Wd×Bool:=if wok w=true/\mag w*k.natAbs<170141183460469231731687303715884105728 then (mkW (w.n != decide (k<0)) (mag w*k.natAbs),true) else (za8,false)
theorem yqa (w:Wd) (k:Int) (hw:wfU w) (hk:inI k) : ∃ p q:Int,w.h*k.natAbs=p/\w.l*k.natAbs=q/\0<=p/\0<=q/\q<=170141183460469231722463931679029329920/\mag w*k.natAbs=p*18446744073709551616+q:=by
 obtain ⟨a0,a1,a2,a3⟩:=hw;obtain ⟨k0,k1⟩:=zkj hk;refine ⟨_,_,rfl,rfl,Int.mul_nonneg a0 k0,Int.mul_nonneg a2 k0,Int.le_trans (Int.mul_le_mul (show w.l<=18446744073709551615 by omega) k1 k0 (by decide)) (by decide),?_⟩;unfold mag;rw [Int.add_mul,Int.mul_assoc,Int.mul_comm 18446744073709551616,<- Int.mul_assoc]
theorem yr3 (w:Wd) (k:Int) (ka:wok w=true) (p q:Int) (p0:0<=p) (q0:0<=q) (q1:q<=170141183460469231722463931679029329920) (hP:mag w*k.natAbs=p*18446744073709551616+q) :
  (zdl w k=(za8,false)/\(0<p / 18446744073709551616\/0<(p % 18446744073709551616+q / 18446744073709551616) / 18446744073709551616\/wok ⟨(w.n != decide (k<0)) && (decide (0<(p % 18446744073709551616+q / 18446744073709551616) % 18446744073709551616) || decide (0<q % 18446744073709551616)),(p % 18446744073709551616+q / 18446744073709551616) % 18446744073709551616,q % 18446744073709551616⟩=false)) \/
  (zdl w k=(⟨(w.n != decide (k<0)) && (decide (0<(p % 18446744073709551616+q / 18446744073709551616) % 18446744073709551616) || decide (0<q % 18446744073709551616)),(p % 18446744073709551616+q / 18446744073709551616) % 18446744073709551616,q % 18446744073709551616⟩,true)/\¬ 0<p / 18446744073709551616/\¬ 0<(p % 18446744073709551616+q / 18446744073709551616) / 18446744073709551616/\wok ⟨(w.n != decide (k<0)) && (decide (0<(p % 18446744073709551616+q / 18446744073709551616) % 18446744073709551616) || decide (0<q % 18446744073709551616)),(p % 18446744073709551616+q / 18446744073709551616) % 18446744073709551616,q % 18446744073709551616⟩=true):=by
 by_cases hk:p*18446744073709551616+q<170141183460469231731687303715884105728
 ·right;have e:(⟨(w.n != decide (k<0)) && (decide (0<(p % 18446744073709551616+q / 18446744073709551616) % 18446744073709551616) || decide (0<q % 18446744073709551616)),(p % 18446744073709551616+q / 18446744073709551616) % 18446744073709551616,q % 18446744073709551616⟩:Wd)=mkW (w.n != decide (k<0)) (p*18446744073709551616+q):=by
   unfold mkW
   congr 1
   ·congr 1
    rw [Bool.eq_iff_iff]; simp; omega
   ·omega
   ·omega
  rw [e,ybx (by omega)];refine ⟨?_,by omega,by omega,decide_eq_true hk⟩;unfold zdl;rw [hP,if_pos ⟨ka,hk⟩]
 ·left;refine ⟨?_,?_⟩
  ·unfold zdl;rw [hP,if_neg (fun h=>hk h.2)]
  ·by_cases h1:0<p / 18446744073709551616
   ·exact .inl h1
   ·by_cases h2:0<(p % 18446744073709551616+q / 18446744073709551616) / 18446744073709551616
    ·exact .inr (.inl h2)
    ·refine .inr (.inr ?_);unfold wok;rw [decide_eq_false (show ¬ (p % 18446744073709551616+q / 18446744073709551616) % 18446744073709551616<9223372036854775808 by omega)];rfl
theorem yl6 (w:Wd) (k:Int) (hw:wfU w) (hk:inI k):RUN T zn0 [.agg (wd w),iv k]=some ([.agg (wd (zdl w k).1),bv (zdl w k).2],[]):=by
 refine zae rfl rfl ?_;have ea:=zt8 w;cases ka:wok w with
 | false =>
  have es:zdl w k=(za8,false):=by unfold zdl; simp [ka]
  rw [es]; rw [ka] at ea;simp only [wd] at ea;simp [zhv,zkf,wd,ea,za8]
 | true =>
  rw [ka] at ea;obtain ⟨a0,a1,a2,a3⟩:=hw;obtain ⟨k0,k1⟩:=zkj hk;have e1:=ya2 k hk;have e2:=ya0 w.h k.natAbs a0 a1 k0 (by omega);have e3:=ya0 w.l k.natAbs a2 a3 k0 (by omega);obtain ⟨p,q,hp,hq,p0,q0,q1,hP⟩:=yqa w k ⟨a0,a1,a2,a3⟩ hk;rw [hp] at e2;rw [hq] at e3;have e4:=yco yaq (x:=p % 18446744073709551616) (y:=q / 18446744073709551616) (c:=0) (by omega) (by omega) (by decide) (by decide);rw [Int.add_zero] at e4;have e5:=zxj (w.n != decide (k<0)) ((p % 18446744073709551616+q / 18446744073709551616) % 18446744073709551616) (q % 18446744073709551616);have e6:=zt8 ⟨(w.n != decide (k<0)) && (decide (0<(p % 18446744073709551616+q / 18446744073709551616) % 18446744073709551616) || decide (0<q % 18446744073709551616)),(p % 18446744073709551616+q / 18446744073709551616) % 18446744073709551616,q % 18446744073709551616⟩;have key:=yr3 w k ka p q p0 q0 q1 hP;generalize ((w.n != decide (k<0)) && (decide (0<(p % 18446744073709551616+q / 18446744073709551616) % 18446744073709551616) || decide (0<q % 18446744073709551616)))=sn at *;generalize p / 18446744073709551616=P1 at *;generalize p % 18446744073709551616=P2 at *;generalize q / 18446744073709551616=Q1 at *;generalize q % 18446744073709551616=Q2 at *;generalize (P2+Q1) / 18446744073709551616=S1 at *;generalize (P2+Q1) % 18446744073709551616=S2 at *;generalize zdl w k=r at *;generalize wok ⟨sn,S2,Q2⟩=o at *;obtain ⟨wn,wh,wl⟩:=w;simp only [wd] at ea e5 e6 ⊢;simp only at e2 e3;rcases key with ⟨rfl,c | c | rfl⟩ | ⟨rfl,c1,c2,rfl⟩
  ·cases wn <;> by_cases sb:k<0 <;> simp [sb] at e5 <;> simp [zhv,zkf,ea,e1,e2,e3,e4,e5,sb,c,za8]
  ·by_cases c':0<P1
   ·cases wn <;> by_cases sb:k<0 <;> simp [sb] at e5 <;> simp [zhv,zkf,ea,e1,e2,e3,e4,e5,sb,c',za8]
   ·cases wn <;> by_cases sb:k<0 <;> simp [sb] at e5 <;> simp [zhv,zkf,ea,e1,e2,e3,e4,e5,sb,c',c,za8]
  ·by_cases c':0<P1
   ·cases wn <;> by_cases sb:k<0 <;> simp [sb] at e5 <;> simp [zhv,zkf,ea,e1,e2,e3,e4,e5,sb,c',za8]
   ·by_cases c:0<S1
    ·cases wn <;> by_cases sb:k<0 <;> simp [sb] at e5 <;> simp [zhv,zkf,ea,e1,e2,e3,e4,e5,sb,c',c,za8]
    ·cases wn <;> by_cases sb:k<0 <;> simp [sb] at e5 <;> simp [zhv,zkf,ea,e1,e2,e3,e4,e5,e6,sb,c',c,za8]
  ·cases wn <;> by_cases sb:k<0 <;> simp [sb] at e5 <;> simp [zhv,zkf,ea,e1,e2,e3,e4,e5,e6,sb,c1,c2]
theorem yl7 (w:Wd) (k:Int) (hw:wfU w) (hk:inI k):RUN T zn1 [.agg (wd w),iv k]=some ([.agg (wd (zdl w k).1),bv (zdl w k).2],[]):=by
 refine zae rfl rfl ?_;have ea:=zt9 w;cases ka:wok w with
 | false =>
  have es:zdl w k=(za8,false):=by unfold zdl; simp [ka]
  rw [es]; rw [ka] at ea;simp only [wd] at ea;simp [zhx,zkf,wd,ea,za8]
 | true =>
  rw [ka] at ea;obtain ⟨a0,a1,a2,a3⟩:=hw;obtain ⟨k0,k1⟩:=zkj hk;have e1:=ya3 k hk;have e2:=ya1 w.h k.natAbs a0 a1 k0 (by omega);have e3:=ya1 w.l k.natAbs a2 a3 k0 (by omega);obtain ⟨p,q,hp,hq,p0,q0,q1,hP⟩:=yqa w k ⟨a0,a1,a2,a3⟩ hk;rw [hp] at e2;rw [hq] at e3;have e4:=zxk ⟨w.n != decide (k<0),(p % 18446744073709551616+q / 18446744073709551616) % 18446744073709551616,q % 18446744073709551616⟩;have e5:(decide (0<(p % 18446744073709551616+q / 18446744073709551616) % 18446744073709551616) || decide (0<q % 18446744073709551616)) = !(decide ((p % 18446744073709551616+q / 18446744073709551616) % 18446744073709551616=0) && decide (q % 18446744073709551616=0)):=by
   rw [Bool.eq_iff_iff]; simp; omega
  have e6:=zt9 ⟨(w.n != decide (k<0)) && (decide (0<(p % 18446744073709551616+q / 18446744073709551616) % 18446744073709551616) || decide (0<q % 18446744073709551616)),(p % 18446744073709551616+q / 18446744073709551616) % 18446744073709551616,q % 18446744073709551616⟩;have e7:0<(p % 18446744073709551616+q / 18446744073709551616) / 18446744073709551616↔(p % 18446744073709551616+q / 18446744073709551616) % 18446744073709551616<p % 18446744073709551616:=by omega
  have e8:=zjc (p % 18446744073709551616+q / 18446744073709551616);have key:=yr3 w k ka p q p0 q0 q1 hP;rw [e7] at key;rw [e5] at key e6;clear e7 e5;simp only at e4;generalize (decide ((p % 18446744073709551616+q / 18446744073709551616) % 18446744073709551616=0) && decide (q % 18446744073709551616=0))=z at *;generalize p / 18446744073709551616=P1 at *;generalize p % 18446744073709551616=P2 at *;generalize q / 18446744073709551616=Q1 at *;generalize q % 18446744073709551616=Q2 at *;generalize (P2+Q1) % 18446744073709551616=S2 at *;generalize zdl w k=r at *;generalize hsn:((w.n != decide (k<0)) && !z)=sn at *;generalize wok ⟨sn,S2,Q2⟩=o at *;obtain ⟨wn,wh,wl⟩:=w;simp only [wd] at ea e4 e6 ⊢;simp only at e2 e3 hsn;rcases key with ⟨rfl,c | c | rfl⟩ | ⟨rfl,c1,c2,rfl⟩
  ·cases wn <;> by_cases sb:k<0 <;> cases z <;> simp [sb] at e4 <;> simp [zhx,zkf,ea,e1,e2,e3,e4,e8,sb,c,za8]
  ·by_cases c':0<P1
   ·cases wn <;> by_cases sb:k<0 <;> cases z <;> simp [sb] at e4 <;> simp [zhx,zkf,ea,e1,e2,e3,e4,e8,sb,c',za8]
   ·cases wn <;> by_cases sb:k<0 <;> cases z <;> simp [sb] at e4 <;> simp [zhx,zkf,ea,e1,e2,e3,e4,e8,sb,c',c,za8]
  ·by_cases c':0<P1
   ·cases wn <;> by_cases sb:k<0 <;> cases z <;> simp [sb] at e4 <;> simp [zhx,zkf,ea,e1,e2,e3,e4,e8,sb,c',za8]
   ·by_cases c:S2<P2
    ·cases wn <;> by_cases sb:k<0 <;> cases z <;> simp [sb] at e4 <;> simp [zhx,zkf,ea,e1,e2,e3,e4,e8,sb,c',c,za8]
    ·cases wn <;> by_cases sb:k<0 <;> cases z <;> simp [sb] at e4 hsn <;> subst hsn <;> simp [zhx,zkf,ea,e1,e2,e3,e4,e6,e8,sb,c',c,za8]
  ·cases wn <;> by_cases sb:k<0 <;> cases z <;> simp [sb] at e4 hsn <;> subst hsn <;> simp [zhx,zkf,ea,e1,e2,e3,e4,e6,e8,sb,c1,c2]
def ze9 (w:Wd):Bool:=w.n && !(decide (w.h=0) && decide (w.l=0))
def zkm (a b:Wd):Int:=if ze9 a=true then (if ze9 b=true then ze3 b a else -1) else (if ze9 b=true then 1 else ze3 a b)
theorem y8j (a b:Wd):RUN T zsy [.agg (wd a),.agg (wd b)]=some ([iv (zkm a b)],[]):=by
 refine zae rfl rfl ?_;have e1:=zxk a;have e2:=zxk b;have e3:=ya5 a b;have e4:=ya5 b a;unfold zkm ze9;generalize ze3 a b=x at *;generalize ze3 b a=y at *;generalize (decide (a.h=0) && decide (a.l=0))=z at *;generalize (decide (b.h=0) && decide (b.l=0))=z' at *;obtain ⟨an,ah,al⟩:=a;obtain ⟨bn,bh,bl⟩:=b;simp only [wd] at e1 e2 e3 e4 ⊢;cases an <;> cases bn <;> cases z <;> cases z' <;> simp [z6o,zs6,e1,e2,e3,e4]
theorem z8p (l:List Nd) (x:Nd):l.map nd++[[iv x.f,iv x.c,iv x.l,iv x.r,iv x.v]]=(l++[x]).map nd:=by simp [nd]
theorem z9l {l:List Nd} {i:Nat} {x:Nd} (h:l[i]?=some x):(l.map nd)[i]?=some [iv x.f,iv x.c,iv x.l,iv x.r,iv x.v]:=by simp [h,nd]
def ym8 (t:List Nd) (k:Nat) (f c a b:Int):List Nd:=t.set k ⟨f,c,t.length,t.length+1,0⟩++[⟨-1,0,0,0,a⟩,⟨-1,0,0,0,b⟩]
theorem qew (l:List Nd):zcl (l.map nd)=true:=by simp [zcl,nd]
theorem ypp (t:List Nd) (k:Nat) (f c l r v:Int):(t.map nd).set k [iv f,iv c,iv l,iv r,iv v]=(t.set k ⟨f,c,l,r,v⟩).map nd:=by
 rw [List.map_set]; rfl
def GS (r:List PV×List PV):Prop := ∃ s:ByteArray,r=([.v (.string s)],[])
theorem y8k (k:Int) (hk:k<=4611686018427387904) : ∃ r,RUN T zjv [iv k]=some r/\GS r:=by
 refine qir rfl rfl ?_
 by_cases c:k<=0
 ·simp [-getElem?_pos,zwi,zj1,c];exact ⟨_,rfl⟩
 obtain ⟨n,rfl⟩ : ∃ n:Nat,k=n:=⟨k.toNat,by omega⟩;have c0 : ¬ n=0:=by omega
 simp [-getElem?_pos,zwi,zj1,c0];have hsz : ∀ b:UInt8,(⟨#[b]⟩:ByteArray).size=1:=fun b=>rfl;have hs0:(bs []).size=0:=rfl;refine zan (fun m st => ∃ s:ByteArray,s.size+m<=n/\st.V 0=iv m/\st.V 3 = .v (.string s)) ?_ n _ ⟨bs [],by omega,by simp⟩;rintro m st ⟨s,hs,v0,v3⟩;simp [yfq,v0];refine zay (fun h => ?_) (fun h => ?_)
 ·simp at h;have hq:((m:Int)).tdiv 10=((m / 10:Nat):Int):=by
   rw [Int.tdiv_eq_ediv_of_nonneg (by omega)]; omega
  have hwq:IntKind.i64.wrap ((m / 10:Nat):Int)=((m / 10:Nat):Int):=w64 (by omega) (by omega);generalize hx:IntKind.u8.wrap (IntKind.i64.wrap (48+(m:Int).tmod 10))=x;obtain ⟨b,hby⟩ : ∃ b:UInt8,ziv [[.v (.int .u8 x)]]=some [b]:=⟨_,rfl⟩;have hc:((⟨#[b]⟩:ByteArray).size:Int)+(s.size:Int)<=9223372036854775807:=by rw [hsz]; omega
  have hsa:((⟨#[b]⟩:ByteArray)++s).size=1+s.size:=by rw [ByteArray.size_append,hsz]
  simp [-getElem?_pos,v0,v3,hx,hby,hc,hq,hwq];have hwq':IntKind.i64.wrap ((m:Int) / 10)=(m:Int) / 10:=w64 (by omega) (by omega);exact zai (m / 10) (by omega) ⟨_,by rw [hsa]; omega,by simp [hwq']⟩
 ·have hc:((bs [109]).size:Int)+(s.size:Int)<=9223372036854775807:=by
   have:(bs [109]).size=1:=rfl;rw [this]; omega
  simp [-getElem?_pos,v0,v3,hc];exact ⟨_,rfl⟩
theorem qe7 (l:List ByteArray) (i:Nat) (s:ByteArray):(za2 l).set i [.v (.string s)]=za2 (l.set i s):=by simp [za2]
def zha (k:Int) (M:List (List Nd)) (j:Nat):List Nd:=zfd (k+5*zbw (M.take j)) (M.getD j []).length
theorem yt9 {L:List (List Nd)} {i:Nat} {l:List Nd} (h:L[i]?=some l):zbw (L.take (i+1))=zbw (L.take i)+l.length:=by
 unfold zbw;rw [List.take_succ,h]; simp
theorem yr2 (L:List (List Nd)) (i:Nat):zbw (L.take i)<=zbw L:=by
 induction L generalizing i with
 | nil=>simp
 | cons a L ih =>
  cases i with
  | zero=>simp [zbw]
  | succ i=>rw [List.take_succ_cons,z85,z85]; have:=ih i; omega
theorem y8l (L:List (List Nd)) (k:Int) (h0:0<=k) (hk:k+5*zbw L<=9223372036854775806) (hL:L.length<=9223372036854775807):RUN T zq1 [.own 1 (trs true L),iv k]=some ([iv (k+5*zbw L)],[.own 1 (trs true ((List.range L.length).map (zha k L)))]):=by
 refine zae rfl rfl ?_;simp [-getElem?_pos,z1j,zs6];obtain ⟨f,hf⟩ : ∃ f:Nat->List PV,f=fun j=>[zjk true (zha k L j)]:=⟨_,rfl⟩;refine zan (fun n st => ∃ i:Nat,i+n=L.length/\1<=st.nx/\st.V 0 = .ref 0 none 0 0 L.length/\st.V 1=iv (k+5*zbw (L.take i))/\st.V 5=iv i/\st.S 0=some (.row 1 (mix f (trs true L) i))) ?_ L.length _ ⟨0,by simp [z8u,zbw]⟩;rintro n st ⟨i,hi,hnx,v0,v1,v5,hS⟩;simp [yfi,v0,v1,v5,hS];refine zay (fun h => ?_) (fun h => ?_)
 ·simp at h;obtain ⟨l,hx⟩ : ∃ l,L[i]?=some l:=⟨_,bG h⟩;have hw:=wS h hL;have hx':=zu3 (q:=true) hx;have hg:=(z86 (f:=f) (l:=trs true L) (i:=i)).trans hx';have hs:=z89 (f:=f) (l:=trs true L) (i:=i) (by simpa using h);have hle:=yr2 L (i+1);have htk:=yt9 hx;have hM:=y7d l (k+5*zbw (L.take i)) (by omega) (by omega);have hsc : ∀ d:PV,zb0 (mix f (trs true L) i) i 0 d=(mix f (trs true L) i).set i [d]:=fun d=>z8r hg;have hfi:f i=[.own 5 ((zfd (k+5*zbw (L.take i)) l.length).map nd)]:=by rw [hf]; simp [zha,hx,zjk]
  rw [hfi] at hs;have hml:=z87 (f:=f) (l:=trs true L) (i:=i) (by simp; omega);simp at hml;have hss : ∀ d:PV,zb0 ((mix f (trs true L) i).set i [.undef]) i 0 d=(mix f (trs true L) i).set i [d]:=fun d=>by
   rw [z8r (c := .undef) (by rw [List.getElem?_set_self (by omega)]),List.set_set]
  simp only [zjk,if_true] at hg;generalize hnn:zfd (k+5*zbw (L.take i)) l.length=nn at *;have hnl:nn.length=l.length:=by rw [<- hnn]; simp [zfd]
  obtain ⟨z1,z2,z3,z4⟩:=fr (show 0<st.nx by omega);simp [-getElem?_pos,v0,v1,v5,hS,h,hg,hml,hM,hsc,hss,hs,hw,hnl,z1,z2,z3,z4,zbl];refine zai (n-1) (by omega) ⟨i+1,by omega,by simp,by simp [v0],?_,by simp⟩;simp [htk]; omega
 ·simp at h;have e:=z8x (f:=f) (l:=trs true L) (i:=i) (by simp; omega);have e2:i=L.length:=by omega
  subst e2;rw [e] at hS;rw [List.take_length] at v1;have e3:trs true ((List.range L.length).map (zha k L))=(List.range L.length).map f:=by rw [hf]; simp [trs,Function.comp_def]
  rw [e3];simp [-getElem?_pos,hS,v1]
theorem qcb (st:St):ziz st 3=(((zgq (st.S 0)).map fun x=>[x]).bind fun l=>(zgq (st.S 1)).map fun x=>l++[x]).bind fun l=>(zgq (st.S 2)).map fun x=>l++[x]:=rfl
theorem yup (M:List (List Nd)) (t:List Nd):trs true M++[[.own 5 (t.map nd)]]=trs true (M++[t]):=by simp [trs,zjk]
theorem z8j (L:List (List Int)) (r:List Int):rws true L++[[.own 1 (zab r)]]=rws true (L++[r]):=by simp [rws,cel]
def pos (x:Int) (l:List Int):Nat->Nat
 | 0=>0
 | k+1=>if x<l.getD k 0 then pos x l k else k+1
def ins (l:List Int) (x:Int):List Int:=l.take (pos x l l.length)++x::l.drop (pos x l l.length)
def zd3 (l:List Int):List Int:=l.foldl ins []
theorem yev (x:Int) (l:List Int) : ∀ k,pos x l k<=k
 | 0=>by simp [pos]
 | k+1=>by
  have:=yev x l k;simp only [pos]; split <;> omega
theorem qh4 (l:List Int) (x:Int):(ins l x).length=l.length+1:=by
 have:=yev x l l.length;unfold ins;simp; omega
theorem qbi {l:List Int} {i:Nat} {x:Int} (h:l[i]?=some x):(l.take (i+1)).foldl ins []=ins ((l.take i).foldl ins []) x:=by
 rw [List.take_succ,h];simp [List.foldl_append]
theorem qd4 (l:List Int) : ∀ a:List Int,(l.foldl ins a).length=a.length+l.length:=by
 induction l with
 | nil=>intro a; rfl
 | cons x l ih=>intro a; simp only [List.foldl_cons,ih,qh4,List.length_cons]; omega
theorem qc8 (a:List Int) (p:Nat):List.take (a.length-p) (List.drop p (zab a))=zab (a.drop p):=by
 rw [List.take_of_length_le (by simp)];simp [zab,List.map_drop]
theorem qhr (a:List Int) (p:Nat) (h:p<=a.length):(if p=a.length then zab a else List.take p (zab a))=zab (a.take p):=by
 split
 ·rename_i e; subst e; rw [List.take_length]
 ·simp [zab,List.map_take]
theorem ydp (x:Int) (l:List Int) (k:Nat):pos x l (k+1)=if x<l.getD k 0 then pos x l k else k+1:=rfl
def zeh (x:Int) (l:List Int) (k P:Nat):Prop:=pos x l k=P
theorem zeh.on {x y:Int} {l:List Int} {k P:Nat} (h:zeh x l (k+1) P) (hy:l[k]?=some y) (hc:x<y):zeh x l k P:=by
 unfold zeh at *;rw [ydp] at h;simp only [List.getD,hy,Option.getD_some,if_pos hc] at h;exact h
theorem zeh.off {x y:Int} {l:List Int} {k P:Nat} (h:zeh x l (k+1) P) (hy:l[k]?=some y) (hc : ¬ x<y):k+1=P:=by
 unfold zeh at *;rw [ydp] at h;simp only [List.getD,hy,Option.getD_some,if_neg hc] at h;exact h
theorem zeh.ex (x:Int) (l:List Int) (k:Nat) : ∃ P,zeh x l k P:=⟨_,rfl⟩
theorem zeh.z {x:Int} {l:List Int} {P:Nat} (h:zeh x l 0 P):0=P:=h
theorem z9d {x:Int} {l:List Int} {P:Nat} (h:zeh x l l.length P):ins l x=l.take P++x::l.drop P:=by unfold zeh at h; unfold ins; rw [h]
attribute [irreducible] pos ins zeh
theorem yl8 (l:List Int) (hl:l.length<=1048576):RUN T zng [.sl 1 (zab l)]=some ([.own 1 (zab (zd3 l))],[]):=by
 refine zae rfl rfl ?_;have hr0:zaj 8 0=true:=by decide
 simp [-getElem?_pos,z30,zzr,hr0];refine zan (fun n st => ∃ (i o e:Nat) (a:List Int),i+n=l.length/\a=(l.take i).foldl ins []/\a.length=i/\st.V 0 = .sl 1 (zab l)/\st.V 3 = .ref o none e 0 a.length/\st.V 4=iv i/\o<st.nx/\st.S o=some (.row 1 (zab a))) ?_ l.length _ ⟨0,0,0,[],by simp [zab]⟩;rintro n st ⟨i,o,e,a,hi,ha,hal,v0,v3,v4,hox,hSo⟩;simp [yft,v0,v4];obtain ⟨f1,f2,f3,f4⟩:=fr hox;refine zay (fun h => ?_) (fun h => ?_)
 ·simp at h;obtain ⟨x,hx⟩ : ∃ x,l[i]?=some x:=⟨_,bG h⟩;have hx':=zaz hx;have hws:=wS h (by omega:l.length<=9223372036854775807);have hft:=qbi hx;rw [<- ha] at hft;obtain ⟨P,hP⟩ : ∃ P,zeh x a a.length P:=zeh.ex x a a.length;simp [-getElem?_pos,v0,v3,v4,hSo];refine zan (fun n' s => ∃ j:Nat,n'=j/\j<=a.length/\zeh x a j P/\s.V 0 = .sl 1 (zab l)/\s.V 3 = .ref o none e 0 a.length/\s.V 4=iv i/\s.V 5=iv j/\s.nx=st.nx/\s.S o=some (.row 1 (zab a))) ?_ a.length _ ⟨a.length,by omega,by omega,hP,by simp [v0,v3,v4,hSo]⟩;rintro n' s ⟨j,hjn,hj,hp,u0,u3,u4,u5,unx,hSo'⟩;clear v0 v3 v4 hSo;obtain ⟨g1,g2,g3,g4⟩:=fr (show o<s.nx by omega);obtain ⟨_,_,g5,g6⟩:=fr (show o<s.nx+1 by omega);obtain ⟨_,_,g7,g8⟩:=fr (show o<s.nx+2 by omega);have hcr : ∀ c:Nat,c<=a.length+1->zaj 8 c=true:=fun c hc=>zc4 (by omega);have hr1:zaj 8 1=true:=by decide
  by_cases h0:0<j
  ·obtain ⟨q,rfl⟩ : ∃ q:Nat,j=q+1:=⟨j-1,by omega⟩;have hw:=w64 (x:=(q:Int)) (by omega) (by omega);obtain ⟨y,hy⟩ : ∃ y,a[q]?=some y:=⟨_,bG (by omega)⟩;have hy':=zaz hy;have hqa:q<a.length:=by omega
   by_cases hc:x<y
   ·have hp':=hp.on hy hc;simp [-getElem?_pos,z3z,u0,u3,u4,u5,hSo',hx',h,h0,hw,hy',hqa,hc];exact zai q (by omega) ⟨q,rfl,by omega,hp',by simp [u0,u3,u4,unx,hSo']⟩
   ·have hp':=hp.off hy hc;have hk1:=hcr (q+1) (by omega);have hk2:=zc4 (n:=q+1+1) (by omega);have hk3:=hcr (a.length+1) (by omega);have hcut:=qhr a (q+1) (by omega);have hal2 : ∀ b:List Int,zcl (zab b)=true:=yog;have hmin:(a.take (q+1)).length=q+1:=by simp; omega
    have hdr:=qc8 a (q+1);have hmd:(a.drop (q+1)).length=a.length-(q+1):=by simp
    have hsn:=zc8 (a.take (q+1)) x;have hap:=qb7 (a.take (q+1)++[x]) (a.drop (q+1));have hk4:=zc4 (n:=q+2+(a.length-(q+1))) (by omega);have hin:=z9d hP;rw [<- hp'] at hin;have hlen2:q+2+(a.length-(q+1))=a.length+1:=by omega
    simp [-getElem?_pos,z3z,u0,u3,u4,u5,hSo',hx',h,h0,hw,hy',hqa,hc,hj,g1,g2,g3,g4,g5,g6,g7,g8,hr1,hk1,hk2,hk3,hcut,hal2,hmin,hdr,hmd,hsn,hap,hk4,hlen2];refine zai (n-1) (by omega) ⟨i+1,s.nx+2+2,s.ep,a.take (q+1)++x::a.drop (q+1),by omega,by rw [hft,hin],by simp; omega,by simp [u0],by simp; omega,by simp [hws]⟩
  ·have h0':j=0:=by omega
   subst h0';have hp':=hp.z;have hk0:=hcr 0 (by omega);have hk3:=hcr (a.length+1) (by omega);have hcut:(if 0=a.length then zab a else [])=([]:List (List PV)):=by
    split
    ·rename_i e;have:a=[]:=List.length_eq_zero_iff.mp e.symm;subst this; rfl
    ·rfl
   have hal2 : ∀ b:List Int,zcl (zab b)=true:=yog;have hin:=z9d hP;rw [<- hp'] at hin;have hcons:[iv x]::zab a=zab (x::a):=rfl;have hk4:=hcr (1+a.length) (by omega);have hk5:=hcr (a.length+1) (by omega);simp [-getElem?_pos,z3z,u0,u3,u4,u5,hSo',hx',h,g1,g2,g3,g4,g5,g6,g7,g8,hr1,hk0,hk3,hcut,hal2,hcons,hk4,hk5];refine zai (n-1) (by omega) ⟨i+1,s.nx+2+2,s.ep,x::a,by omega,by rw [hft,hin]; simp,by (try simp); try omega,by simp [u0],by (try simp); try omega,by simp [hws]⟩
 ·simp at h;have e1:i=l.length:=by omega
  rw [e1,List.take_length] at ha;simp [-getElem?_pos,v3,hSo,zd3,<- ha]
theorem Shaped.wf {t:List Nd} {F:Int} (h:Shaped t F) (hF:F<=100) (hl:t.length<=31) : ∀ n∈t,wfN n:=by
 intro n hn;obtain ⟨j,hj⟩:=bH hn;unfold wfN inI
 by_cases hf:n.f = -1
 ·obtain ⟨h1,h2,h3,h4⟩:=h.leaf j n hj hf;have:=zaw.mp h4;omega
 ·have hi:=h.inner j n hj hf;have h1:=zaw.mp hi.c;have h2:=hi.f;have h3:=hi.lo;have h4:=hi.r;have h5:=hi.hi;have h6:=hi.v;omega
structure Ta where
 ns:List ByteArray
 nm:ByteArray
 rw:List (List Int)
 lb:List Int
abbrev taS (q:Bool) (t:Ta):PV := .agg [.sl 1 (za2 t.ns),.v (.string t.nm),.sl 1 (rws q t.rw),.sl 1 (zab t.lb)]
abbrev taO (t:Ta):PV := .agg [.own 1 (za2 t.ns),.v (.string t.nm),.own 1 (rws true t.rw),.own 1 (zab t.lb)]
structure TaL (n:Nat) (t:Ta):Prop where
 ns:t.ns.length<=n
 ss : ∀ x∈t.ns,x.size<=n
 nm:t.nm.size<=n
 rw:t.rw.length<=n
 rr : ∀ l∈t.rw,l.length<=n
 lb:t.lb.length<=n
def zk3 (t:Ta):Nat:=ze0 t.ns+t.nm.size+tot t.rw+t.lb.length
theorem TaL.of {t:Ta} (h:zk3 t<=1048576):TaL 1048576 t:=by
 have h1:zk3 t=ze0 t.ns+t.nm.size+tot t.rw+t.lb.length:=rfl;have h2:ze0 t.ns=t.ns.length+szs t.ns:=rfl;have h3:tot t.rw=t.rw.length+lens t.rw:=rfl;exact ⟨by omega,fun x hx=>by have:=ype hx; omega,by omega,by omega,fun l hl=>by have:=qer hl; omega,by omega⟩
theorem y8m (q:Bool) (t:Ta) (left:Int) (h0:0<=left) (h1:left<=1048576) (ht:TaL 9223372036854775807 t):RUN T zpw [taS q t,iv left]=some ([iv (if left-zk3 t<0 then -1 else left-zk3 t)],[]):=by
 refine zae rfl rfl ?_;have htt:zk3 t=ze0 t.ns+t.nm.size+tot t.rw+t.lb.length:=rfl;have hnm:=ht.nm;have e1:=y74 t.ns left h0 h1 ht.ns ht.ss
 by_cases d:left-ze0 t.ns<0
 ·rw [if_pos d] at e1;rw [if_pos (by omega)];simp [zl4,zs6,e1]
 ·rw [if_neg d] at e1;have w1:=w64 (x:=left-ze0 t.ns-t.nm.size) (by omega) (by omega)
  by_cases d1:left-ze0 t.ns-t.nm.size<0
  ·rw [if_pos (by omega)];simp [zl4,zs6,e1,d,w1,d1]
  ·have e2:=y7x q t.rw (left-ze0 t.ns-t.nm.size) (by omega) (by omega) ht.rw ht.rr
   by_cases d2:left-ze0 t.ns-t.nm.size-tot t.rw<0
   ·rw [if_pos d2] at e2;rw [if_pos (by omega)];simp [zl4,zs6,e1,e2,d,w1,d1]
   ·rw [if_neg d2] at e2;have e3:=yar (zab t.lb) (left-ze0 t.ns-t.nm.size-tot t.rw) (by omega) (by omega) (by simpa using ht.lb);rw [yeq] at e3
    by_cases d3:left-ze0 t.ns-t.nm.size-tot t.rw-t.lb.length<0
    ·rw [if_pos d3] at e3;rw [if_pos (by omega)];simp [zl4,zs6,e1,e2,e3,d,w1,d1,d2]
    ·rw [if_neg d3] at e3;rw [if_neg (by omega)];simp [zl4,zs6,e1,e2,e3,d,w1,d1,d2,d3];omega
theorem y8n (q:Bool) (t:Ta) (ht:TaL 1048576 t):RUN T zjn [taS q t]=some ([taO t],[]):=by
 refine zae rfl rfl ?_;simp [zy2,zy3,y75 t.ns ht.ns,y7y q t.rw ht.rw ht.rr,yas t.lb ht.lb]
theorem y8o (p q:Bool) (t:Ta) (ht:TaL 9223372036854775807 t):RUN T zpy [taS p t,taS q t]=some ([bv true],[]):=by
 refine zae rfl rfl ?_;simp [zy8,zs6,y76 t.ns ht.ns,y7z p q t.rw ht.rw ht.rr,z7o t.lb ht.lb]
structure Sta where
 sm:List Int
 ts:List (List Nd)
abbrev stS (q:Bool) (s:Sta):PV := .agg [.sl 1 (zab s.sm),.sl 1 (trs q s.ts)]
abbrev stO (s:Sta):PV := .agg [.own 1 (zab s.sm),.own 1 (trs true s.ts)]
structure zk5 (n:Nat) (s:Sta):Prop where
 sm:s.sm.length<=n
 ts:s.ts.length<=n
 tl : ∀ l∈s.ts,l.length<=n
def ys0 (s:Sta):Nat:=s.sm.length+zx9 s.ts
theorem zk5.of {s:Sta} (h:ys0 s<=1048576):zk5 1048576 s:=by
 have h1:ys0 s=s.sm.length+zx9 s.ts:=rfl;have h2:zx9 s.ts=s.ts.length+zbw s.ts:=rfl;exact ⟨by omega,by omega,fun l hl=>by have:=yts hl; omega⟩
theorem y8p (p q:Bool) (s:Sta) (hs:zk5 9223372036854775807 s):RUN T zk8 [stS p s,stS q s]=some ([bv true],[]):=by
 refine zae rfl rfl ?_;simp [zy6,zs6,z7o s.sm hs.sm,y77 p q s.ts hs.ts hs.tl]
theorem qbe {c:PV} (h:zk2 true [.sl [.str],.str,.sl [.sl [.int .i64]],.sl [.int .i64]] c) : ∃ t:Ta,c=taS false t/\TaL 9223372036854775807 t/\∀ x∈t.lb,inI x:=by
 obtain ⟨cs,rfl,h⟩:=h;simp only [zbg,Shp] at h;obtain ⟨_,_,rfl,⟨es,rfl,h1,h2⟩,_,_,rfl,⟨nm,rfl,h5⟩,_,_,rfl,⟨es2,rfl,h6,h7⟩,_,_,rfl,⟨es',rfl,h3,h4⟩,rfl⟩:=h;have h2' : ∀ cs∈es,zbg [.str] cs:=h2;have h4' : ∀ cs∈es',zbg [.int .i64] cs:=h4;have h7' : ∀ cs∈es2,zbg [.sl [.int .i64]] cs:=h7;obtain ⟨ns,hn,hpn⟩:=zu5 (f:=fun s=>[PV.v (.string s)]) qep h2';obtain ⟨lb,hx,hpx⟩:=zu5 (f:=fun n:Int=>[iv n]) ybw h4';obtain ⟨rw',hr,hpr⟩:=zu5 (f:=fun l=>[cel false l]) qe8 h7';subst hn;subst hx;subst hr;simp [maxLen] at h1 h3 h6;exact ⟨⟨ns,nm,rw',lb⟩,rfl,⟨by simpa using h1,hpn,by simpa [maxLen] using h5,by simpa using h6,hpr,by simpa using h3⟩,hpx⟩
structure Sl where
 n:Int
 g:Int
deriving DecidableEq
def slc (x:Sl):List PV:=[iv x.n,iv x.g]
def zbe (l:List Sl):List (List PV):=l.map slc
@[simp] theorem qzv (l:List Sl):(zbe l).length=l.length:=by simp [zbe]
theorem zmq {l:List Sl} {i:Nat} {x:Sl} (h:l[i]?=some x):(zbe l)[i]?=some [iv x.n,iv x.g]:=by simp [zbe,h,slc]
theorem yqi (l:List Sl) (i:Nat) (a b:Int):(zbe l).set i [iv a,iv b]=zbe (l.set i ⟨a,b⟩):=by simp [zbe,List.map_set,slc]
def slI (x:Sl):Prop:=inI x.n/\inI x.g
def zbj (a b:Sl):Sl×Bool:=if ((adi a.n b.n).2 && (adi a.g b.g).2)=true then (⟨(adi a.n b.n).1,(adi a.g b.g).1⟩,true) else (⟨0,0⟩,false)
theorem zmo {a b:Sl} (h:slI a):slI (zbj a b).1:=by
 unfold zbj;split
 ·exact ⟨z9s h.1,z9s h.2⟩
 ·unfold slI inI; simp
theorem ya6 (a b:Sl) (ha:slI a) (hb:slI b):RUN T zlp [.agg (slc a),.agg (slc b)]=some ([.agg (slc (zbj a b).1),bv (zbj a b).2],[]):=by
 refine zae rfl rfl ?_;have e1:=z7s a.n b.n ha.1 hb.1;have e2:=z7s a.g b.g ha.2 hb.2;unfold zbj;generalize adi a.n b.n=x at *;generalize adi a.g b.g=y at *;obtain ⟨x,xb⟩:=x;obtain ⟨y,yb⟩:=y;simp only at e1 e2 ⊢;cases xb <;> cases yb <;> simp [z5s,z5g,e1,e2,slc]
theorem ya7 (a b:Sl) (ha:slI a) (hb:slI b):RUN T zlr [.agg (slc a),.agg (slc b)]=some ([.agg (slc (zbj a b).1),bv (zbj a b).2],[]):=by
 refine zae rfl rfl ?_;have e1:=z7t a.n b.n ha.1 hb.1;have e2:=z7t a.g b.g ha.2 hb.2;unfold zbj;generalize adi a.n b.n=x at *;generalize adi a.g b.g=y at *;obtain ⟨x,xb⟩:=x;obtain ⟨y,yb⟩:=y;simp only at e1 e2 ⊢;cases xb <;> cases yb <;> simp [z54,z5g,e1,e2,slc]
def atI {α:Type} (l:List α) (i:Int):Option α:=if 0<=i then l[i.toNat]? else none
theorem zgn {α:Type} {l:List α} {i:Int} {x:α} (h:atI l i=some x) : ∃ j:Nat,i=j/\l[j]?=some x/\j<l.length:=by
 unfold atI at h;split at h
 ·refine ⟨i.toNat,by omega,h,?_⟩;rcases Nat.lt_or_ge i.toNat l.length with h' | h'
  ·exact h'
  ·rw [List.getElem?_eq_none (by omega)] at h; cases h
 ·cases h
theorem zi2 {α:Type} {l:List α} {i:Int} (h:atI l i=none):i<0\/(l.length:Int)<=i:=by
 unfold atI at h;split at h
 ·right;rcases Nat.lt_or_ge i.toNat l.length with h' | h'
  ·rw [bG h'] at h; cases h
  ·omega
 ·omega
def zci (b g:List Int):List Int->List Sl->Option (List Sl)
 | [],h=>some h
 | r::rs,h=>match atI b r,atI g r with
  | some x,some y=>match atI h x with
   | some s=>if (zbj s ⟨1,y⟩).2=true then zci b g rs (h.set x.toNat (zbj s ⟨1,y⟩).1) else none
   | none=>none
  | _,_=>none
def zch (b g rows:List Int) (k:Int):List Sl×Bool:=if zah k 1 8=true then match zci b g rows (List.replicate k.toNat ⟨0,0⟩) with
  | some h=>(h,true)
  | none=>([],false)
 else ([],false)
theorem yro (n:Nat):zbe (List.replicate n ⟨0,0⟩)=List.replicate n [iv 0,iv 0]:=by simp [zbe,slc]
theorem y8q (b g rows:List Int) (k:Int) (hb:b.length<=1048576) (hg:g.length<=1048576) (hr:rows.length<=1048576) (hgi : ∀ x∈g,inI x):RUN T zsg [.sl 1 (zab b),.sl 1 (zab g),.sl 1 (zab rows),iv k]=some ([.own 2 (zbe (zch b g rows k).1),bv (zch b g rows k).2],[]):=by
 refine zae rfl rfl ?_;cases hk:zah k 1 8 with
 | false =>
  have e:=zcs k 1 8;rw [hk] at e;have e2:zch b g rows k=([],false):=by unfold zch; rw [hk]; rfl
  rw [e2];simp [-getElem?_pos,zwy,zwz,-zbm,e,zbe]
 | true =>
  have e:=zcs k 1 8;rw [hk] at e;have hk':=zaw.mp hk;obtain ⟨kn,rfl⟩ : ∃ n:Nat,k=n:=⟨k.toNat,by omega⟩;have hro:zaj 16 kn=true:=by simp [zaj]; omega
  obtain ⟨R,hR⟩ : ∃ R,R=zch b g rows kn:=⟨_,rfl⟩;have hR':R=match zci b g rows (List.replicate kn ⟨0,0⟩) with
   | some h=>(h,true)
   | none=>([],false):=by rw [hR]; unfold zch; rw [if_pos hk]; first | (simp; done) | (simp; rfl)
  rw [<- hR];clear hR;simp [-getElem?_pos,zwy,zwz,-zbm,e,hro];refine zan (fun n st => ∃ (i:Nat) (h:List Sl),i+n=rows.length/\h.length=kn/\(∀ s∈h,slI s)/\zci b g (rows.drop i) h=zci b g rows (List.replicate kn ⟨0,0⟩)/\st.V 0 = .sl 1 (zab b)/\st.V 1 = .sl 1 (zab g)/\st.V 3=iv kn/\st.V 10 = .ref 0 none 0 0 kn/\st.V 20 = .sl 1 (zab rows)/\st.V 21=iv rows.length/\st.V 22=iv i/\0<st.nx/\st.S 0=some (.row 2 (zbe h))) ?_ rows.length _ ⟨0,List.replicate kn ⟨0,0⟩,by omega,by simp,?_,by simp [yro]⟩
  ·rintro n st ⟨i,h,hi,hhl,hhi,hh,v0,v1,v3,v10,v20,v21,v22,hnx,hS⟩;have Z0:=bI v0 <| bI v1 <| bI v3 <| bI v10 <| bI v20 v21
   obtain ⟨z1,z2,z3,z4⟩:=fr hnx
   by_cases hlt:i<rows.length
   ·obtain ⟨r,hrr⟩ : ∃ r,rows[i]?=some r:=⟨_,bG hlt⟩;have hr':=zaz hrr;have hws:=wS hlt (by omega:rows.length<=9223372036854775807);have w1:=w64 (x:=min (b.length:Int) g.length-1) (by omega) (by omega);have w2:=w64 (x:=(kn:Int)-1) (by omega) (by omega);have e1:=zcs r 0 (min (b.length:Int) g.length-1);rw [zc3 hrr,zci] at hh;cases hbx:atI b r with
    | none =>
     rw [hbx] at hh;have hn:=zi2 hbx;have:zah r 0 (min (b.length:Int) g.length-1)=false:=by
      cases hw:zah r 0 (min (b.length:Int) g.length-1) with
      | false=>rfl
      | true=>have:=zaw.mp hw; omega
     rw [this] at e1;rw [<- hh] at hR';subst hR';simp [-getElem?_pos,zof,-zbm,Z0,v22,hS,hlt,hr',w1,e1,zbe]
    | some x =>
     obtain ⟨rn,rfl,hbr,hbl⟩:=zgn hbx;cases hgy:atI g rn with
     | none =>
      rw [hbx,hgy] at hh;have hn:=zi2 hgy;have:zah rn 0 (min (b.length:Int) g.length-1)=false:=by
       cases hw:zah rn 0 (min (b.length:Int) g.length-1) with
       | false=>rfl
       | true=>have:=zaw.mp hw; omega
      rw [this] at e1;rw [<- hh] at hR';subst hR';simp [-getElem?_pos,zof,-zbm,Z0,v22,hS,hlt,hr',w1,e1,zbe]
     | some y =>
      obtain ⟨rn',hrn,hgr,hgl⟩:=zgn hgy;have:rn'=rn:=by omega
      subst this;have:zah rn' 0 (min (b.length:Int) g.length-1)=true:=zaw.mpr (by omega);rw [this] at e1;rw [hbx,hgy] at hh;simp only at hh;have hb':=zaz hbr;have hg':=zaz hgr;have e2:=zcs x 0 ((kn:Int)-1);cases hhx:atI h x with
      | none =>
       rw [hhx] at hh;have hn:=zi2 hhx;have:zah x 0 ((kn:Int)-1)=false:=by
        cases hw:zah x 0 ((kn:Int)-1) with
        | false=>rfl
        | true=>have:=zaw.mp hw; omega
       rw [this] at e2;simp only at hh;rw [<- hh] at hR';subst hR';simp [-getElem?_pos,zof,-zbm,Z0,v22,hS,hlt,hr',hb',hbl,w1,w2,e1,e2,zbe]
      | some s =>
       obtain ⟨xn,rfl,hhs,hhl2⟩:=zgn hhx;have:zah xn 0 ((kn:Int)-1)=true:=zaw.mpr (by omega);rw [this] at e2;rw [hhx] at hh;have hs':=zmq hhs;have hsi:=hhi s (bF hhs);have hyi:=hgi y (bF hgr);have hpi:=zmo (b:=⟨1,y⟩) hsi;have e3:=ya6 s ⟨1,y⟩ hsi ⟨by unfold inI; simp,hyi⟩;simp only [Int.toNat_natCast] at hh;have hxk:xn<kn:=by omega
       generalize zbj s ⟨1,y⟩=p at *;obtain ⟨⟨pn,pg⟩,pb⟩:=p;simp only [slc] at e3 hh;cases pb with
       | false =>
        rw [if_neg (by simp)] at hh;rw [<- hh] at hR';subst hR';simp [-getElem?_pos,zof,-zbm,Z0,v22,hS,hlt,hr',hb',hbl,hg',hgl,hs',hxk,hhl,w1,w2,e1,e2,e3,z1,z2,z3,z4];simp [zbe]
       | true =>
        rw [if_pos rfl] at hh;have hset:=yqi h xn pn pg;simp [-getElem?_pos,zof,-zbm,Z0,v22,hS,hlt,hr',hb',hbl,hg',hgl,hs',hxk,hhl,w1,w2,e1,e2,e3,hws,hset,z1,z2,z3,z4];refine zai (n-1) (by omega) ⟨i+1,h.set xn ⟨pn,pg⟩,by omega,by simp [hhl],fun q hq => ?_,hh,by simp [Z0]⟩;rcases List.mem_or_eq_of_mem_set hq with h' | h'
        ·exact hhi q h'
        ·subst h'; exact hpi
   ·rw [List.drop_eq_nil_of_le (by omega),zci] at hh;rw [<- hh] at hR';subst hR';simp [-getElem?_pos,zof,v10,v21,v22,hS,hlt,hhl]
  ·intro s hs;have:=List.eq_of_mem_replicate hs;subst this;exact ⟨by unfold inI; simp,by unfold inI; simp⟩
theorem y8r (b g rows:List Int) (k:Int) (hb:b.length<=1048576) (hg:g.length<=1048576) (hr:rows.length<=1048576) (hgi : ∀ x∈g,inI x):RUN T zsk [.sl 1 (zab b),.sl 1 (zab g),.sl 1 (zab rows),iv k]=some ([.own 2 (zbe (zch b g rows k).1),bv (zch b g rows k).2],[]):=by
 refine zae rfl rfl ?_;cases hk:zah k 1 8 with
 | false =>
  have e:=zbn k 1 8;rw [hk] at e;have e2:zch b g rows k=([],false):=by unfold zch; rw [hk]; rfl
  rw [e2];simp [-getElem?_pos,zw0,zwz,-za3,e,zbe]
 | true =>
  have e:=zbn k 1 8;rw [hk] at e;have hk':=zaw.mp hk;obtain ⟨kn,rfl⟩ : ∃ n:Nat,k=n:=⟨k.toNat,by omega⟩;have hro:zaj 16 kn=true:=by simp [zaj]; omega
  have hr0:zaj 16 0=true:=by decide
  obtain ⟨R,hR⟩ : ∃ R,R=zch b g rows kn:=⟨_,rfl⟩;have hR':R=match zci b g rows (List.replicate kn ⟨0,0⟩) with
   | some h=>(h,true)
   | none=>([],false):=by rw [hR]; unfold zch; rw [if_pos hk]; first | (simp; done) | (simp; rfl)
  rw [<- hR];clear hR;simp [-getElem?_pos,zw0,zwz,-za3,e,hro,hr0];refine zan (fun n st => ∃ (i:Nat) (h:List Sl),i+n=rows.length/\h.length=kn/\(∀ s∈h,slI s)/\zci b g (rows.drop i) h=zci b g rows (List.replicate kn ⟨0,0⟩)/\st.V 0 = .sl 1 (zab b)/\st.V 1 = .sl 1 (zab g)/\st.V 2 = .sl 1 (zab rows)/\st.V 3=iv kn/\st.V 10 = .ref 0 none 0 0 0/\st.V 11 = .ref 1 none 0 0 kn/\st.V 12=iv i/\1<st.nx/\st.S 0=some (.row 2 [])/\st.S 1=some (.row 2 (zbe h))) ?_ rows.length _ ⟨0,List.replicate kn ⟨0,0⟩,by omega,by simp,?_,by simp [yro]⟩
  ·rintro n st ⟨i,h,hi,hhl,hhi,hh,v0,v1,v2,v3,v10,v11,v12,hnx,hS0,hS⟩;obtain ⟨z1,z2,z3,z4⟩:=fr hnx;obtain ⟨y1,y2,y3,y4⟩:=fr (show 0<st.nx by omega)
   by_cases hlt:i<rows.length
   ·obtain ⟨r,hrr⟩ : ∃ r,rows[i]?=some r:=⟨_,bG hlt⟩;have hr':=zaz hrr;have hws:=wS hlt (by omega:rows.length<=9223372036854775807);have w1:=w64 (x:=(b.length:Int)-1) (by omega) (by omega);have w1':=w64 (x:=(g.length:Int)-1) (by omega) (by omega);have w2:=w64 (x:=(kn:Int)-1) (by omega) (by omega);have e1:=zbn r 0 ((b.length:Int)-1);have e1':=zbn r 0 ((g.length:Int)-1);rw [zc3 hrr,zci] at hh;cases hbx:atI b r with
    | none =>
     rw [hbx] at hh;have hn:=zi2 hbx;have:zah r 0 ((b.length:Int)-1)=false:=by
      cases hw:zah r 0 ((b.length:Int)-1) with
      | false=>rfl
      | true=>have:=zaw.mp hw; omega
     rw [this] at e1;rw [<- hh] at hR';subst hR';simp [-getElem?_pos,zog,-za3,v0,v1,v2,v3,v10,v11,v12,hS0,hS,hlt,hr',w1,e1,zbe]
    | some x =>
     obtain ⟨rn,rfl,hbr,hbl⟩:=zgn hbx;cases hgy:atI g rn with
     | none =>
      rw [hbx,hgy] at hh;have hn:=zi2 hgy;have:zah rn 0 ((g.length:Int)-1)=false:=by
       cases hw:zah rn 0 ((g.length:Int)-1) with
       | false=>rfl
       | true=>have:=zaw.mp hw; omega
      rw [this] at e1';rw [show zah rn 0 ((b.length:Int)-1)=true from zaw.mpr (by omega)] at e1;rw [<- hh] at hR';subst hR';simp [-getElem?_pos,zog,-za3,v0,v1,v2,v3,v10,v11,v12,hS0,hS,hlt,hr',w1,w1',e1,e1',zbe]
     | some y =>
      obtain ⟨rn',hrn,hgr,hgl⟩:=zgn hgy;have:rn'=rn:=by omega
      subst this;rw [show zah rn' 0 ((b.length:Int)-1)=true from zaw.mpr (by omega)] at e1;rw [show zah rn' 0 ((g.length:Int)-1)=true from zaw.mpr (by omega)] at e1';rw [hbx,hgy] at hh;simp only at hh;have hb':=zaz hbr;have hg':=zaz hgr;have e2:=zbn x 0 ((kn:Int)-1);cases hhx:atI h x with
      | none =>
       rw [hhx] at hh;have hn:=zi2 hhx;have:zah x 0 ((kn:Int)-1)=false:=by
        cases hw:zah x 0 ((kn:Int)-1) with
        | false=>rfl
        | true=>have:=zaw.mp hw; omega
       rw [this] at e2;simp only at hh;rw [<- hh] at hR';subst hR';simp [-getElem?_pos,zog,-za3,v0,v1,v2,v3,v10,v11,v12,hS0,hS,hlt,hr',hb',hbl,w1,w1',w2,e1,e1',e2,zbe]
      | some s =>
       obtain ⟨xn,rfl,hhs,hhl2⟩:=zgn hhx;have:zah xn 0 ((kn:Int)-1)=true:=zaw.mpr (by omega);rw [this] at e2;rw [hhx] at hh;have hs':=zmq hhs;have hsi:=hhi s (bF hhs);have hyi:=hgi y (bF hgr);have hpi:=zmo (b:=⟨1,y⟩) hsi;have e3:=ya7 s ⟨1,y⟩ hsi ⟨by unfold inI; simp,hyi⟩;simp only [Int.toNat_natCast] at hh;have hxk:xn<kn:=by omega
       generalize zbj s ⟨1,y⟩=p at *;obtain ⟨⟨pn,pg⟩,pb⟩:=p;simp only [slc] at e3 hh;cases pb with
       | false =>
        rw [if_neg (by simp)] at hh;rw [<- hh] at hR';subst hR';simp [-getElem?_pos,zog,-za3,v0,v1,v2,v3,v10,v11,v12,hS0,hS,hlt,hr',hb',hbl,hg',hgl,hs',hxk,hhl,w1,w1',w2,e1,e1',e2,e3,z1,z2,z3,z4,y1,y2,y3,y4];simp [zbe]
       | true =>
        rw [if_pos rfl] at hh;have hset:=yqi h xn pn pg;simp [-getElem?_pos,zog,-za3,v0,v1,v2,v3,v10,v11,v12,hS0,hS,hlt,hr',hb',hbl,hg',hgl,hs',hxk,hhl,w1,w1',w2,e1,e1',e2,e3,hws,hset,z1,z2,z3,z4,y1,y2,y3,y4];refine zai (n-1) (by omega) ⟨i+1,h.set xn ⟨pn,pg⟩,by omega,by simp [hhl],fun q hq => ?_,hh,by simp [v0],by simp [v1],by simp [v2],by simp [v3],by simp [v10],by simp [v11],by simp,by simp; omega,by simp [y1,y2,y3,y4,z1,z2,z3,z4,hS0]⟩;rcases List.mem_or_eq_of_mem_set hq with h' | h'
        ·exact hhi q h'
        ·subst h'; exact hpi
   ·rw [List.drop_eq_nil_of_le (by omega),zci] at hh;rw [<- hh] at hR';subst hR';simp [-getElem?_pos,zog,v2,v11,v12,hS,hlt,hhl]
  ·intro s hs;have:=List.eq_of_mem_replicate hs;subst this;exact ⟨by unfold inI; simp,by unfold inI; simp⟩
def zxo (q:Bool) (l:List Sl):PV:=if q then .own 2 (zbe l) else .sl 2 (zbe l)
@[simp] theorem qrb (q:Bool) (l:List Sl):fz (zxo q l) = .sl 2 (zbe l):=by cases q <;> simp [zxo]
def rss (q:Bool) (H:List (List Sl)):List (List PV):=H.map fun l=>[zxo q l]
@[simp] theorem qqm (q:Bool) (H:List (List Sl)):(rss q H).length=H.length:=by simp [rss]
theorem yt1 {q:Bool} {H:List (List Sl)} {i:Nat} {l:List Sl} (h:H[i]?=some l):(rss q H)[i]?=some [zxo q l]:=by simp [rss,h]
theorem yrm (H:List (List Sl)) (l:List Sl):rss true H++[[.own 2 (zbe l)]]=rss true (H++[l]):=by simp [rss,zxo]
def zb2 (g rows:List Int):List (List Int)->List (List Int)->Option (List (List Sl))
 | x::c,y::v=>if (zch y g rows (x.length+1)).2=true then (zb2 g rows c v).map ((zch y g rows (x.length+1)).1 :: ·) else none
 | _,_=>some []
def zbz (c v:List (List Int)) (g rows:List Int):List (List Sl)×Bool:=if zdg c v=true then match zb2 g rows c v with
  | some h=>(h,true)
  | none=>([],false)
 else ([],false)
theorem yr9 {g rows:List Int} {c v:List (List Int)} {i:Nat} {x y:List Int} (hx:c[i]?=some x) (hy:v[i]?=some y):zb2 g rows (c.drop i) (v.drop i)=if (zch y g rows (x.length+1)).2=true then (zb2 g rows (c.drop (i+1)) (v.drop (i+1))).map ((zch y g rows (x.length+1)).1 :: ·) else none:=by
 rw [zc3 hx,zc3 hy,zb2]
theorem yqs {g rows:List Int} {v:List (List Int)}:zb2 g rows [] v=some []:=by simp [zb2]
theorem yb1 {b g:List Int} : ∀ (rows:List Int) (h h':List Sl),zci b g rows h=some h'->h'.length=h.length
 | [],h,h',e=>by simp [zci] at e; subst e; rfl
 | r::rs,h,h',e=>by
  simp only [zci] at e;split at e
  ·split at e
   ·split at e
    ·have:=yb1 rs _ _ e;simpa using this
    ·cases e
   ·cases e
  ·cases e
theorem qdj (b g rows:List Int) (k:Int):(zch b g rows k).1.length<=8:=by
 unfold zch;split
 ·rename_i hk;have:=zaw.mp hk;cases h:zci b g rows (List.replicate k.toNat ⟨0,0⟩) with
  | none=>simp
  | some h'=>have:=yb1 _ _ _ h; simp at this; simp; omega
 ·simp
theorem yn1 {g rows:List Int} : ∀ (c v:List (List Int)) (H:List (List Sl)),zb2 g rows c v=some H->H.length<=c.length/\∀ l∈H,l.length<=8
 | [],v,H,h=>by simp [zb2] at h; subst h; simp
 | x::c,[],H,h=>by simp [zb2] at h; subst h; simp
 | x::c,y::v,H,h=>by
  simp only [zb2] at h;split at h
  ·simp only [bB] at h;obtain ⟨H',h1,rfl⟩:=h;obtain ⟨h2,h3⟩:=yn1 c v H' h1;refine ⟨by simp; omega,fun l hl => ?_⟩;rcases List.mem_cons.mp hl with e | e
   ·subst e; exact qdj _ _ _ _
   ·exact h3 l e
  ·cases h
theorem zuy (c v:List (List Int)) (g rows:List Int):(zbz c v g rows).1.length<=c.length/\∀ l∈(zbz c v g rows).1,l.length<=8:=by
 unfold zbz;split
 ·cases h:zb2 g rows c v with
  | none=>simp
  | some H=>exact yn1 c v H h
 ·simp
theorem yc6 {c v:List (List Int)} (h:zdg c v=true):v.length=c.length/\c.length<=4:=by
 unfold zdg at h;simp only [Bool.and_eq_true,decide_eq_true_eq] at h;have:=zaw.mp h.1.1.1;omega
theorem y8s (q:Bool) (c v:List (List Int)) (g rows:List Int) (hc : ∀ l∈c,l.length<=1048576) (hv : ∀ l∈v,l.length<=1048576) (hg:g.length<=1048576) (hr:rows.length<=1048576) (hgi : ∀ x∈g,inI x):RUN T zr5 [.agg [.sl 1 (rws q c),.sl 1 (rws q v)],.sl 1 (zab g),.sl 1 (zab rows)]=some ([.own 1 (rss true (zbz c v g rows).1),bv (zbz c v g rows).2],[]):=by
 refine zae rfl rfl ?_;have e:=ylx q c v (fun l hl=>Nat.le_trans (hc l hl) (by omega)) (fun l hl=>Nat.le_trans (hv l hl) (by omega));cases hk:zdg c v with
 | false =>
  rw [hk] at e;have e2:zbz c v g rows=([],false):=by unfold zbz; rw [hk]; rfl
  rw [e2];simp [-getElem?_pos,zwn,zwo,e,rss]
 | true =>
  rw [hk] at e;obtain ⟨hvc,hc4⟩:=yc6 hk;obtain ⟨R,hR⟩ : ∃ R,R=zbz c v g rows:=⟨_,rfl⟩;have hR':R=match zb2 g rows c v with
   | some h=>(h,true)
   | none=>([],false):=by rw [hR]; unfold zbz; exact if_pos hk
  rw [<- hR];clear hR;have hr0:zaj 24 0=true:=by decide
  have hr1:zaj 24 1=true:=by decide
  simp [-getElem?_pos,zwn,zwo,e,hr0];refine zan (fun n st => ∃ (i o e:Nat) (H:List (List Sl)),i+n=c.length/\H.length=i/\zb2 g rows c v=(zb2 g rows (c.drop i) (v.drop i)).map (H ++ ·)/\st.V 1 = .sl 1 (zab g)/\st.V 2 = .sl 1 (zab rows)/\st.V 3 = .ptr 0 none 0 0 0/\st.V 8 = .ref o none e 0 H.length/\st.V 18 = .sl 1 (rws q c)/\st.V 19=iv c.length/\st.V 20=iv i/\0<o/\o<st.nx/\st.S 0=some (.box [.sl 1 (rws q c),.sl 1 (rws q v)])/\st.S o=some (.row 1 (rss true H))) ?_ c.length _ ⟨0,1,0,[],by simp [rss]⟩;rintro n st ⟨i,o,ep,H,hi,hH,hL,v1,v2,v3,v8,v18,v19,v20,ho,hox,hS,hSo⟩;obtain ⟨x1,x2,x3,x4⟩:=fr hox;obtain ⟨g1,g2,g3,g4⟩:=fr ho;obtain ⟨z1,z2,z3,z4⟩:=fr (show 0<st.nx by omega)
  by_cases hlt:i<c.length
  ·obtain ⟨x,hx⟩ : ∃ x,c[i]?=some x:=⟨_,bG hlt⟩;obtain ⟨y,hy⟩ : ∃ y,v[i]?=some y:=⟨_,bG (by omega)⟩;have hx':=zcu (q:=q) hx;have hy':=zcu (q:=q) hy;have hiv:i<v.length:=by omega
   have hxl:=hc x (bF hx);have hws:=wS hlt (by omega:c.length<=9223372036854775807);have hwl:=w64 (x:=(x.length:Int)+1) (by omega) (by omega);have hh:=y8q y g rows (x.length+1) (hv y (bF hy)) hg hr hgi;have hr24:zaj 24 (H.length+1)=true:=by simp [zaj]; omega
   rw [yr9 hx hy] at hL;generalize zch y g rows (x.length+1)=p at *;obtain ⟨ph,pb⟩:=p;simp only at hh hL;cases pb with
   | false =>
    rw [if_neg (by simp)] at hL;rw [hL] at hR';subst hR';simp [-getElem?_pos,z4e,v1,v2,v3,v8,v18,v19,v20,hS,hSo,hlt,hiv,hx',hy',hwl,hh,rss,x1,x2,x3,x4,g1,g2,g3,g4,z1,z2,z3,z4]
   | true =>
    rw [if_pos rfl] at hL;have hsn:=yrm H ph;simp [-getElem?_pos,z4e,v1,v2,v3,v8,v18,v19,v20,hS,hSo,hlt,hiv,hx',hy',hwl,hws,hh,hr1,hr24,hsn,x1,x2,x3,x4,g1,g2,g3,g4,z1,z2,z3,z4];exact zai (n-1) (by omega) ⟨i+1,st.nx+2,st.ep,H++[ph],by omega,by simp [hH],by rw [hL]; cases zb2 g rows (c.drop (i+1)) (v.drop (i+1)) <;> simp,by simp [v1],by simp [v2],by simp [v3],by simp,by simp [v18],by simp [v19],by simp,by omega,by simp [x1,x2,x3,x4,g1,g2,g3,g4,z1,z2,z3,z4,hS]⟩
  ·have h0:c.drop i=[]:=List.drop_eq_nil_of_le (by omega);rw [h0,yqs] at hL;rw [hL] at hR';simp only [Option.map_some,List.append_nil] at hR';subst hR';simp [-getElem?_pos,z4e,v8,v19,v20,hSo,hlt]
theorem y8t (q:Bool) (c v:List (List Int)) (g rows:List Int) (hc : ∀ l∈c,l.length<=1048576) (hv : ∀ l∈v,l.length<=1048576) (hg:g.length<=1048576) (hr:rows.length<=1048576) (hgi : ∀ x∈g,inI x):RUN T zr9 [.agg [.sl 1 (rws q c),.sl 1 (rws q v)],.sl 1 (zab g),.sl 1 (zab rows)]=some ([.own 1 (rss true (zbz c v g rows).1),bv (zbz c v g rows).2],[]):=by
 refine zae rfl rfl ?_;have e:=yly q c v (fun l hl=>Nat.le_trans (hc l hl) (by omega)) (fun l hl=>Nat.le_trans (hv l hl) (by omega));cases hk:zdg c v with
 | false =>
  rw [hk] at e;have e2:zbz c v g rows=([],false):=by unfold zbz; rw [hk]; rfl
  rw [e2];have hr0:zaj 24 0=true:=by decide
  simp [-getElem?_pos,zwt,zwo,e,hr0,rss]
 | true =>
  rw [hk] at e;obtain ⟨hvc,hc4⟩:=yc6 hk;obtain ⟨R,hR⟩ : ∃ R,R=zbz c v g rows:=⟨_,rfl⟩;have hR':R=match zb2 g rows c v with
   | some h=>(h,true)
   | none=>([],false):=by rw [hR]; unfold zbz; exact if_pos hk
  rw [<- hR];clear hR;have hr0:zaj 24 0=true:=by decide
  have hr1:zaj 24 1=true:=by decide
  simp [-getElem?_pos,zwt,zwo,e,hr0];refine zan (fun n st => ∃ (i o e:Nat) (H:List (List Sl)),i+n=c.length/\H.length=i/\zb2 g rows c v=(zb2 g rows (c.drop i) (v.drop i)).map (H ++ ·)/\st.V 1 = .sl 1 (zab g)/\st.V 2 = .sl 1 (zab rows)/\st.V 3 = .ptr 0 none 0 0 0/\st.V 8 = .ref o none e 0 H.length/\st.V 9=iv i/\0<o/\o<st.nx/\st.S 0=some (.box [.sl 1 (rws q c),.sl 1 (rws q v)])/\st.S o=some (.row 1 (rss true H))) ?_ c.length _ ⟨0,1,0,[],by simp [rss]⟩;rintro n st ⟨i,o,ep,H,hi,hH,hL,v1,v2,v3,v8,v9,ho,hox,hS,hSo⟩;obtain ⟨x1,x2,x3,x4⟩:=fr hox;obtain ⟨g1,g2,g3,g4⟩:=fr ho;obtain ⟨z1,z2,z3,z4⟩:=fr (show 0<st.nx by omega)
  by_cases hlt:i<c.length
  ·obtain ⟨x,hx⟩ : ∃ x,c[i]?=some x:=⟨_,bG hlt⟩;obtain ⟨y,hy⟩ : ∃ y,v[i]?=some y:=⟨_,bG (by omega)⟩;have hx':=zcu (q:=q) hx;have hy':=zcu (q:=q) hy;have hiv:i<v.length:=by omega
   have hxl:=hc x (bF hx);have hws:=wS hlt (by omega:c.length<=9223372036854775807);have hwl:=w64 (x:=(x.length:Int)+1) (by omega) (by omega);have hh:=y8r y g rows (x.length+1) (hv y (bF hy)) hg hr hgi;have hr24:zaj 24 (H.length+1)=true:=by simp [zaj]; omega
   rw [yr9 hx hy] at hL;generalize zch y g rows (x.length+1)=p at *;obtain ⟨ph,pb⟩:=p;simp only at hh hL;cases pb with
   | false =>
    rw [if_neg (by simp)] at hL;rw [hL] at hR';subst hR';simp [-getElem?_pos,z4r,v1,v2,v3,v8,v9,hr0,hS,hSo,hlt,hiv,hx',hy',hwl,hh,rss,x1,x2,x3,x4,g1,g2,g3,g4,z1,z2,z3,z4]
   | true =>
    rw [if_pos rfl] at hL;have hsn:=yrm H ph;simp [-getElem?_pos,z4r,v1,v2,v3,v8,v9,hr0,hS,hSo,hlt,hiv,hx',hy',hwl,hws,hh,hr1,hr24,hsn,x1,x2,x3,x4,g1,g2,g3,g4,z1,z2,z3,z4];exact zai (n-1) (by omega) ⟨i+1,st.nx+2,st.ep,H++[ph],by omega,by simp [hH],by rw [hL]; cases zb2 g rows (c.drop (i+1)) (v.drop (i+1)) <;> simp,by simp [v1],by simp [v2],by simp [v3],by simp,by simp,by omega,by simp [x1,x2,x3,x4,g1,g2,g3,g4,z1,z2,z3,z4,hS]⟩
  ·have h0:c.drop i=[]:=List.drop_eq_nil_of_le (by omega);rw [h0,yqs] at hL;rw [hL] at hR';simp only [Option.map_some,List.append_nil] at hR';subst hR';simp [-getElem?_pos,z4r,v3,v8,v9,hS,hSo,hlt]
def yto (k:Int) (n:Nat):List Sl:=(List.range n).map fun (i:Nat)=>⟨k+2*(i:Int),k+2*(i:Int)+1⟩
@[simp] theorem q4p (k:Int) (n:Nat):(yto k n).length=n:=by simp [yto]
theorem yl9 (x:Int):RUN T zny [iv x]=some ([bv false],[]):=by
 refine zae rfl rfl ?_;simp [z6q,zj1]
theorem yma (x y:Int):RUN T znw [iv x,iv y]=some ([iv (zco x y)],[]):=by
 refine zae rfl rfl ?_;have e1:=yl9 x;have e2:=yl9 y;unfold zco
 by_cases h1:x<y
 ·simp [zt0,zs6,e1,e2,h1]
 ·by_cases h2:y<x
  ·simp [zt0,zs6,e1,e2,h1,h2]
  ·simp [zt0,zs6,e1,e2,h1,h2]
theorem y8u (a b:Wd) (ha:wfU a) (hb:wfU b):RUN T zsv [.agg (wd a),.agg (wd b)]=some ([iv (zkm a b)],[]):=by
 refine zae rfl rfl ?_;have n1:(a.n && (decide (0<a.h) || decide (0<a.l)))=ze9 a:=by
  obtain ⟨h0,_,h1,_⟩:=ha;unfold ze9
  congr 1
  rw [Bool.eq_iff_iff]; simp; omega
 have n2:(b.n && (decide (0<b.h) || decide (0<b.l)))=ze9 b:=by
  obtain ⟨h0,_,h1,_⟩:=hb;unfold ze9
  congr 1
  rw [Bool.eq_iff_iff]; simp; omega
 have e1:=zxj a.n a.h a.l;have e2:=zxj b.n b.h b.l;rw [n1] at e1;rw [n2] at e2;have e3:=ya4 ⟨ze9 a,a.h,a.l⟩ ⟨ze9 b,b.h,b.l⟩;have e4:=ya4 ⟨ze9 b,b.h,b.l⟩ ⟨ze9 a,a.h,a.l⟩;have o1:ze3 ⟨ze9 a,a.h,a.l⟩ ⟨ze9 b,b.h,b.l⟩=ze3 a b:=rfl;have o2:ze3 ⟨ze9 b,b.h,b.l⟩ ⟨ze9 a,a.h,a.l⟩=ze3 b a:=rfl;rw [o1] at e3;rw [o2] at e4;clear o1 o2 n1 n2 ha hb;unfold zkm;generalize ze3 a b=x at *;generalize ze3 b a=y at *;generalize ze9 a=p at *;generalize ze9 b=q at *;obtain ⟨an,ah,al⟩:=a;obtain ⟨bn,bh,bl⟩:=b;simp only [wd] at e1 e2 e3 e4 ⊢;cases p <;> cases q <;> simp [z6g,zs6,e1,e2,e3,e4]
structure Fr where
 w:Wd
 d:Int
def frc (f:Fr):List PV:=[bv f.w.n,uv f.w.h,uv f.w.l,iv f.d]
def frB (f:Fr):Bool:=wok f.w && zah f.d 1 1000000
def zet:Fr:=⟨za8,0⟩
def zfn (w:Wd) (d:Int):Fr×Bool:=if frB ⟨w,d⟩=true then (⟨w,d⟩,true) else (zet,false)
theorem ya8 (f:Fr):RUN T zlw [.agg (frc f)]=some ([bv (frB f)],[]):=by
 refine zae rfl rfl ?_;have e1:=zt8 f.w;have e2:=zcs f.d 1 1000000;unfold frB;generalize wok f.w=x at *;generalize zah f.d 1 1000000=y at *;simp only [wd] at e1;cases x <;> simp [z6w,zj1,-zbm,frc,e1,e2]
theorem z7u (f:Fr):RUN T zjx [.agg (frc f)]=some ([bv (frB f)],[]):=by
 refine zae rfl rfl ?_;have e1:=zt9 f.w;have e2:=zbn f.d 1 1000000;unfold frB;generalize wok f.w=x at *;generalize zah f.d 1 1000000=y at *;simp only [wd] at e1;cases x <;> simp [z62,zj1,-za3,frc,e1,e2]
theorem ymb (w:Wd) (d:Int):RUN T znz [.agg (wd w),iv d]=some ([.agg (frc (zfn w d).1),bv (zfn w d).2],[]):=by
 refine zae rfl rfl ?_;have e1:=ya8 ⟨w,d⟩;unfold zfn;generalize frB ⟨w,d⟩=x at *;simp only [frc] at e1;cases x <;> simp [z6u,z5x,wd,frc,zet,za8,e1]
theorem y8v (a d:Int) (ha:inI a):RUN T zsz [iv a,iv d]=some ([.agg (frc (zfn (zen a a) d).1),bv (zfn (zen a a) d).2],[]):=by
 refine zae rfl rfl ?_;have e1:=y8f a a ha ha;have e2:=ymb (zen a a) d;generalize zen a a=m at *;generalize zfn m d=f at *;obtain ⟨⟨fw,fd⟩,fb⟩:=f;simp only [wd,frc] at e1 e2 ⊢;simp [z6s,z5x,e1,e2]
theorem y8w (a d:Int) (ha:inI a):RUN T zs1 [iv a,iv d]=some ([.agg (frc (zfn (zen a a) d).1),bv (zfn (zen a a) d).2],[]):=by
 refine zae rfl rfl ?_;have e1:=y8g a a ha ha;have e2:=z7u ⟨zen a a,d⟩;unfold zfn;generalize zen a a=m at *;generalize frB ⟨m,d⟩=x at *;simp only [wd,frc] at e1 e2;cases x <;> simp [z60,z5x,frc,zet,za8,e1,e2]
def frI (f:Fr):Prop:=wfU f.w/\inI f.d
theorem zyb:wfU za8:=⟨by decide,by decide,by decide,by decide⟩
theorem yp7 (w:Wd) (k:Int) (h:wfU w):wfU (zdl w k).1:=by
 unfold zdl;split
 ·rename_i hc;refine ycf ?_ (by omega);obtain ⟨h0,h1,h2,h3⟩:=h;exact Int.mul_nonneg (by unfold mag; omega) (by omega)
 ·exact zyb
def zbq (a b:Fr):Wd×Wd×Bool:=if (frB a && frB b)=true then ((zdl a.w b.d).1,(zdl b.w a.d).1,(zdl a.w b.d).2 && (zdl b.w a.d).2) else (za8,za8,false)
theorem yci (a b:Fr) (ha:wfU a.w) (hb:wfU b.w):wfU (zbq a b).1/\wfU (zbq a b).2.1:=by
 unfold zbq;split
 ·exact ⟨yp7 _ _ ha,yp7 _ _ hb⟩
 ·exact ⟨zyb,zyb⟩
theorem yuv {a b:Fr} (h:(zbq a b).2.2=true):(1<=a.d/\a.d<=1000000)/\1<=b.d/\b.d<=1000000:=by
 unfold zbq at h;split at h
 ·rename_i hc;simp only [frB,Bool.and_eq_true] at hc;exact ⟨zaw.mp hc.1.2,zaw.mp hc.2.2⟩
 ·cases h
theorem ymc (a b:Fr) (ha:frI a) (hb:frI b):RUN T znu [.agg (frc a),.agg (frc b)]=some ([.agg (wd (zbq a b).1),.agg (wd (zbq a b).2.1),bv (zbq a b).2.2],[]):=by
 refine zae rfl rfl ?_;have e1:=ya8 a;have e2:=ya8 b;have e3:=yl6 a.w b.d ha.1 hb.2;have e4:=yl6 b.w a.d hb.1 ha.2;unfold zbq;generalize zdl a.w b.d=x at *;generalize zdl b.w a.d=y at *;generalize frB a=p at *;generalize frB b=q at *;obtain ⟨⟨an,ah,al⟩,ad⟩:=a;obtain ⟨⟨bn,bh,bl⟩,bd⟩:=b;obtain ⟨x,xb⟩:=x;obtain ⟨y,yb⟩:=y;simp only [frc,wd] at e1 e2 e3 e4 ⊢;cases p <;> cases q <;> cases xb <;> simp [z6e,z6f,e1,e2,e3,e4,za8]
theorem ymd (a b:Fr) (ha:frI a) (hb:frI b):RUN T znx [.agg (frc a),.agg (frc b)]=some ([.agg (wd (zbq a b).1),.agg (wd (zbq a b).2.1),bv (zbq a b).2.2],[]):=by
 refine zae rfl rfl ?_;have e1:=z7u a;have e2:=z7u b;have e3:=yl7 a.w b.d ha.1 hb.2;have e4:=yl7 b.w a.d hb.1 ha.2;unfold zbq;generalize zdl a.w b.d=x at *;generalize zdl b.w a.d=y at *;generalize frB a=p at *;generalize frB b=q at *;obtain ⟨⟨an,ah,al⟩,ad⟩:=a;obtain ⟨⟨bn,bh,bl⟩,bd⟩:=b;obtain ⟨x,xb⟩:=x;obtain ⟨y,yb⟩:=y;simp only [frc,wd] at e1 e2 e3 e4 ⊢;cases p <;> cases q <;> cases xb <;> simp [z6m,z6f,e1,e2,e3,e4,za8]
def zfc (a b:Fr):Int×Bool:=if (zbq a b).2.2=true then (zkm (zbq a b).1 (zbq a b).2.1,true) else (0,false)
theorem yme (a b:Fr) (ha:frI a) (hb:frI b):RUN T zns [.agg (frc a),.agg (frc b)]=some ([iv (zfc a b).1,bv (zfc a b).2],[]):=by
 refine zae rfl rfl ?_;have e1:=ymc a b ha hb;obtain ⟨w1,w2⟩:=yci a b ha.1 hb.1;have e2:=y8u (zbq a b).1 (zbq a b).2.1 w1 w2;unfold zfc;generalize zbq a b=r at *;obtain ⟨x,y,o⟩:=r;simp only at e2 ⊢;generalize zkm x y=z at *;simp only [frc,wd] at e1 e2 ⊢;cases o <;> simp [z5y,zj9,e1,e2]
theorem ymf (a b:Fr) (ha:frI a) (hb:frI b):RUN T znt [.agg (frc a),.agg (frc b)]=some ([iv (zfc a b).1,bv (zfc a b).2],[]):=by
 refine zae rfl rfl ?_;have e1:=ymd a b ha hb;have e2:=y8j (zbq a b).1 (zbq a b).2.1;unfold zfc;generalize zbq a b=r at *;obtain ⟨x,y,o⟩:=r;simp only at e2 ⊢;generalize zkm x y=z at *;simp only [frc,wd] at e1 e2 ⊢;cases o <;> simp [z6a,zj9,e1,e2]
def zh5 (a b:Fr):Fr×Bool:=if (zbq a b).2.2=true then (if (zck (zbq a b).1 (zbq a b).2.1).2=true then zfn (zck (zbq a b).1 (zbq a b).2.1).1 (a.d*b.d) else (zet,false)) else (zet,false)
theorem ym6 {a b:Int} (h:(1<=a/\a<=1000000)/\1<=b/\b<=1000000):IntKind.i64.wrap (a*b)=a*b:=by
 have h1:a*b<=1000000*1000000:=Int.mul_le_mul h.1.2 h.2.2 (by omega) (by decide);have h2:0<=a*b:=Int.mul_nonneg (by omega) (by omega);exact w64 (by omega) (by omega)
theorem y8x (a b:Fr) (ha:frI a) (hb:frI b):RUN T zsu [.agg (frc a),.agg (frc b)]=some ([.agg (frc (zh5 a b).1),bv (zh5 a b).2],[]):=by
 refine zae rfl rfl ?_;have e1:=ymc a b ha hb;obtain ⟨w1,w2⟩:=yci a b ha.1 hb.1;have e2:=y8h (zbq a b).1 (zbq a b).2.1 w1 w2;have hok := @yuv a b;have e3:=ymb (zck (zbq a b).1 (zbq a b).2.1).1 (a.d*b.d);unfold zh5;generalize zbq a b=r at *;obtain ⟨x,y,o⟩:=r;simp only at e2 e3 hok ⊢;generalize zck x y=s at *;obtain ⟨s,so⟩:=s;simp only at e2 e3 ⊢;cases o with
 | false =>
  simp only [frc,wd] at e1 ⊢;simp [zxa,z5x,e1,zet,za8]
 | true =>
  have hm:=ym6 (hok rfl);generalize zfn s (a.d*b.d)=f at *;obtain ⟨f,fo⟩:=f;simp only [frc,wd] at e1 e2 e3 ⊢;cases so <;> simp [zxa,z5x,e1,e2,e3,hm,zet,za8]
theorem y8y (a b:Fr) (ha:frI a) (hb:frI b):RUN T zsx [.agg (frc a),.agg (frc b)]=some ([.agg (frc (zh5 a b).1),bv (zh5 a b).2],[]):=by
 refine zae rfl rfl ?_;have e1:=ymd a b ha hb;obtain ⟨w1,w2⟩:=yci a b ha.1 hb.1;have e2:=y8i (zbq a b).1 (zbq a b).2.1 w1 w2;have hok := @yuv a b;have e3:=z7u ⟨(zck (zbq a b).1 (zbq a b).2.1).1,a.d*b.d⟩;unfold zh5 zfn;generalize zbq a b=r at *;obtain ⟨x,y,o⟩:=r;simp only at e2 e3 hok ⊢;generalize zck x y=s at *;obtain ⟨s,so⟩:=s;simp only at e2 e3 ⊢;cases o with
 | false =>
  simp only [frc,wd] at e1 ⊢;simp [zxc,z5x,e1,zet,za8]
 | true =>
  have hm:=ym6 (hok rfl);generalize frB ⟨s,a.d*b.d⟩=fo at *;simp only [frc,wd] at e1 e2 e3 ⊢;cases so <;> cases fo <;> simp [zxc,z5x,e1,e2,e3,hm,frc,zet,za8]
structure Cnd where
 f:Int
 b:Int
 a:Sl
 z:Sl
deriving DecidableEq
def cnd (c:Cnd):List PV:=[iv c.f,iv c.b,iv c.a.n,iv c.a.g,iv c.z.n,iv c.z.g]
def zeq (c:Cnd):Prop:=inI c.f/\inI c.b/\slI c.a/\slI c.z
structure Bd where
 lo:Int
 hi:Int
def bnd (b:Bd):List PV:=[iv b.lo,iv b.hi]
def zgz (b:Bd):Bool:=decide (b.lo<=b.hi) && zfs b.lo && zfs b.hi
def zfq (x lo hi:Int):Int:=if x<lo then lo else if hi<x then hi else x
def zic (n l:Int):Bool:=zah n 0 40 && zah l 1 100
def zeb (s:Sl) (l:Int) (b:Bd):Int×Bool:=if (zic s.n l && zgz b)=true then (zfq (fdv s.g (s.n+l)).1 b.lo b.hi,true) else (0,false)
def zc2 (s:Sl) (l:Int):Fr×Bool:=if zic s.n l=true then zfn (zen s.g s.g) (s.n+l) else (zet,false)
def zcc (c:Cnd) (l:Int):Fr×Bool:=if ((zc2 c.a l).2 && (zc2 c.z l).2)=true then zh5 (zc2 c.a l).1 (zc2 c.z l).1 else (zet,false)
theorem ymg (n l:Int):RUN T znj [iv n,iv l]=some ([bv (zic n l)],[]):=by
 refine zae rfl rfl ?_;have e1:=zcs n 0 40;have e2:=zcs l 1 100;unfold zic;generalize zah n 0 40=x at *;cases x <;> simp [z4l,zs6,-zbm,e1,e2]
theorem ymh (b:Bd):RUN T znk [.agg (bnd b)]=some ([bv (zgz b)],[]):=by
 refine zae rfl rfl ?_;have e1:=ylv b.lo;have e2:=ylv b.hi;unfold zgz;generalize zfs b.lo=x at *;generalize zfs b.hi=y at *
 by_cases h:b.lo<=b.hi <;> cases x <;> simp [z4n,zj1,bnd,e1,e2,h]
theorem ymi (b:Bd):RUN T znn [.agg (bnd b)]=some ([bv (zgz b)],[]):=by
 refine zae rfl rfl ?_;have e1:=ylu b.lo;have e2:=ylu b.hi;unfold zgz;generalize zfs b.lo=x at *;generalize zfs b.hi=y at *
 by_cases h:b.lo<=b.hi <;> cases x <;> simp [z4x,zj1,bnd,e1,e2,h]
theorem ymj (x lo hi:Int):RUN T znl [iv x,iv lo,iv hi]=some ([iv (zfq x lo hi)],[]):=by
 refine zae rfl rfl ?_;unfold zfq
 by_cases h1:x<lo
 ·simp [zwp,zzl,h1]
 ·by_cases h2:hi<x <;> simp [zwp,zzl,h1,h2]
theorem ymk (x lo hi:Int):RUN T zno [iv x,iv lo,iv hi]=some ([iv (zfq x lo hi)],[]):=by
 refine zae rfl rfl ?_;unfold zfq
 by_cases h1:x<lo
 ·simp [zww,zzl,h1]
 ·by_cases h2:hi<x <;> simp [zww,zzl,h1,h2]
theorem z9h {n l:Int} (h:zic n l=true):IntKind.i64.wrap (n+l)=n+l:=by
 unfold zic at h;simp only [Bool.and_eq_true] at h;have h1:=zaw.mp h.1;have h2:=zaw.mp h.2;exact w64 (by omega) (by omega)
theorem ya9 (s:Sl) (l:Int) (b:Bd) (hs:slI s):RUN T zlh [.agg (slc s),iv l,.agg (bnd b)]=some ([iv (zeb s l b).1,bv (zeb s l b).2],[]):=by
 refine zae rfl rfl ?_;have e1:=ymg s.n l;have e2:=ymh b;have e3:=yav s.g (s.n+l) hs.2;have e4:=ymj (fdv s.g (s.n+l)).1 b.lo b.hi;have hw := @z9h s.n l;unfold zeb;generalize zic s.n l=x at *;generalize zgz b=y at *;generalize fdv s.g (s.n+l)=q at *;obtain ⟨q,qo⟩:=q;simp only [bnd] at e2;cases x with
 | false=>simp [zv8,zv9,slc,bnd,e1]
 | true =>
  have hw:=hw rfl;cases y <;> simp [zv8,zv9,slc,bnd,e1,e2,e3,e4,hw]
theorem yba (s:Sl) (l:Int) (b:Bd) (hs:slI s):RUN T zlj [.agg (slc s),iv l,.agg (bnd b)]=some ([iv (zeb s l b).1,bv (zeb s l b).2],[]):=by
 refine zae rfl rfl ?_;have e1:=zbn s.n 0 40;have e1':=zbn l 1 100;have e2:=ymi b;have e3:=yau s.g (s.n+l) hs.2;have e4:=ymk (fdv s.g (s.n+l)).1 b.lo b.hi;have hw := @z9h s.n l;unfold zeb;unfold zic at *;generalize zah s.n 0 40=x at *;generalize zah l 1 100=x' at *;generalize zgz b=y at *;generalize fdv s.g (s.n+l)=q at *;obtain ⟨q,qo⟩:=q;simp only [bnd] at e2;cases x with
 | false=>simp [ztv,zv9,-za3,slc,bnd,e1]
 | true =>
  cases x' with
  | false=>simp [ztv,zv9,-za3,slc,bnd,e1,e1']
  | true =>
   have hw:=hw rfl;cases y <;> simp [ztv,zv9,-za3,slc,bnd,e1,e1',e2,e3,e4,hw]
theorem y8z (c:Cnd) (h:zeq c):RUN T zst [.agg (cnd c)]=some ([.agg (slc (zbj c.a c.z).1),bv (zbj c.a c.z).2],[]):=by
 refine zae rfl rfl ?_;have e1:=ya6 c.a c.z h.2.2.1 h.2.2.2;generalize zbj c.a c.z=p at *;obtain ⟨⟨pn,pg⟩,pb⟩:=p;simp only [slc] at e1 ⊢;simp [z6c,z6d,cnd,e1]
theorem y80 (c:Cnd) (h:zeq c):RUN T zsw [.agg (cnd c)]=some ([.agg (slc (zbj c.a c.z).1),bv (zbj c.a c.z).2],[]):=by
 refine zae rfl rfl ?_;have e1:=ya7 c.a c.z h.2.2.1 h.2.2.2;generalize zbj c.a c.z=p at *;obtain ⟨⟨pn,pg⟩,pb⟩:=p;simp only [slc] at e1 ⊢;simp [z6k,z6d,cnd,e1]
theorem ybb (s:Sl) (l:Int) (hs:slI s):RUN T zlu [.agg (slc s),iv l]=some ([.agg (frc (zc2 s l).1),bv (zc2 s l).2],[]):=by
 refine zae rfl rfl ?_;have e1:=ymg s.n l;have e2:=y8v s.g (s.n+l) hs.2;have hw := @z9h s.n l;unfold zc2;generalize zic s.n l=x at *;generalize zfn (zen s.g s.g) (s.n+l)=f at *;obtain ⟨⟨fw,fd⟩,fb⟩:=f;simp only [frc] at e2 ⊢;cases x with
 | false=>simp [zw8,z5x,slc,e1,zet,za8]
 | true =>
  have hw:=hw rfl;simp [zw8,z5x,slc,e1,e2,hw]
theorem ybc (s:Sl) (l:Int) (hs:slI s):RUN T zlv [.agg (slc s),iv l]=some ([.agg (frc (zc2 s l).1),bv (zc2 s l).2],[]):=by
 refine zae rfl rfl ?_;have e1:=zbn s.n 0 40;have e1':=zbn l 1 100;have e2:=y8w s.g (s.n+l) hs.2;have hw := @z9h s.n l;unfold zc2;unfold zic at *;generalize zah s.n 0 40=x at *;generalize zah l 1 100=x' at *;generalize zfn (zen s.g s.g) (s.n+l)=f at *;obtain ⟨⟨fw,fd⟩,fb⟩:=f;simp only [frc] at e2 ⊢;cases x with
 | false=>simp [zt2,z5x,-za3,slc,e1,zet,za8]
 | true =>
  cases x' with
  | false=>simp [zt2,z5x,-za3,slc,e1,e1',zet,za8]
  | true =>
   have hw:=hw rfl;simp [zt2,z5x,-za3,slc,e1,e1',e2,hw]
theorem yqc (w:Wd) (d:Int) (hw:wfU w):frI (zfn w d).1:=by
 unfold zfn;split
 ·rename_i h;simp only [frB,Bool.and_eq_true] at h;have:=zaw.mp h.2;exact ⟨hw,by unfold inI; simp only; omega⟩
 ·exact ⟨zyb,by unfold inI zet; simp⟩
theorem z9n:frI zet:=⟨zyb,by unfold inI zet; simp⟩
theorem zub (s:Sl) (l:Int) (hs:slI s):frI (zc2 s l).1:=by
 unfold zc2;split
 ·exact yqc _ _ (qbz hs.2 hs.2)
 ·exact z9n
theorem qgv (a b:Fr):frI (zh5 a b).1:=by
 unfold zh5;split
 ·split
  ·exact yqc _ _ (qe2 _ _)
  ·exact z9n
 ·exact z9n
theorem zuf (c:Cnd) (l:Int):frI (zcc c l).1:=by
 unfold zcc;split
 ·exact qgv _ _
 ·exact z9n
theorem ybd (c:Cnd) (l:Int) (h:zeq c):RUN T zlq [.agg (cnd c),iv l]=some ([.agg (frc (zcc c l).1),bv (zcc c l).2],[]):=by
 refine zae rfl rfl ?_;have e1:=ybb c.a l h.2.2.1;have e2:=ybb c.z l h.2.2.2;have e3:=y8x (zc2 c.a l).1 (zc2 c.z l).1 (zub _ _ h.2.2.1) (zub _ _ h.2.2.2);unfold zcc;generalize zc2 c.a l=p at *;generalize zc2 c.z l=q at *;obtain ⟨p,pb⟩:=p;obtain ⟨q,qb⟩:=q;simp only at e1 e2 e3 ⊢;generalize zh5 p q=r at *;obtain ⟨r,rb⟩:=r;simp only [frc,slc] at e1 e2 e3 ⊢;cases pb <;> cases qb <;> simp [z5w,z5x,cnd,e1,e2,e3,zet,za8]
theorem ybe (c:Cnd) (l:Int) (h:zeq c):RUN T zls [.agg (cnd c),iv l]=some ([.agg (frc (zcc c l).1),bv (zcc c l).2],[]):=by
 refine zae rfl rfl ?_;have e1:=ybc c.a l h.2.2.1;have e2:=ybc c.z l h.2.2.2;have e3:=y8y (zc2 c.a l).1 (zc2 c.z l).1 (zub _ _ h.2.2.1) (zub _ _ h.2.2.2);unfold zcc;generalize zc2 c.a l=p at *;generalize zc2 c.z l=q at *;obtain ⟨p,pb⟩:=p;obtain ⟨q,qb⟩:=q;simp only at e1 e2 e3 ⊢;generalize zh5 p q=r at *;obtain ⟨r,rb⟩:=r;simp only [frc,slc] at e1 e2 e3 ⊢;cases pb <;> cases qb <;> simp [z58,z5x,cnd,e1,e2,e3,zet,za8]
abbrev cfS (c:Cfg):PV := .agg [iv c.ro,iv c.de,iv c.bi,iv c.la,iv c.rw,iv c.nu,iv c.dn,.sl 1 (zab c.sg)]
def zbx (c:Cfg) (b:Bd) (x:Cnd):Int×Int×Bool:=if ((zeb x.a c.la b).2 && (zeb x.z c.la b).2)=true then ((zeb x.a c.la b).1,(zeb x.z c.la b).1,true) else (0,0,false)
def zej (c:Cfg) (f:Int):Int:=(atI c.sg f).getD 0
def zoy (s l r:Int):Bool:=if s=1 then decide (l<=r) else if s = -1 then decide (r<=l) else true
def zpf (x:Cnd) (l:Int):Bool:=(zcc x l).2 && ((zbj x.a x.z).2 && ((zc2 (zbj x.a x.z).1 l).2 && ((zfc (zcc x l).1 (zc2 (zbj x.a x.z).1 l).1).2 && decide (0<(zfc (zcc x l).1 (zc2 (zbj x.a x.z).1 l).1).1))))
def zjj (a b:Cnd):Bool:=decide (a.f<b.f) || (decide (a.f=b.f) && decide (a.b<b.b))
def zd0 (a b:Cnd) (l:Int):Bool:=(zcc a l).2 && ((zcc b l).2 && ((zfc (zcc a l).1 (zcc b l).1).2 && (decide (0<(zfc (zcc a l).1 (zcc b l).1).1) || (decide ((zfc (zcc a l).1 (zcc b l).1).1=0) && zjj a b))))
theorem yml (c:Cfg) (b:Bd) (x:Cnd) (h:zeq x):RUN T zm8 [cfS c,.agg (bnd b),.agg (cnd x)]=some ([iv (zbx c b x).1,iv (zbx c b x).2.1,bv (zbx c b x).2.2],[]):=by
 have e1:=ya9 x.a c.la b h.2.2.1;have e2:=ya9 x.z c.la b h.2.2.2;unfold zbx;generalize zeb x.a c.la b=p at *;generalize zeb x.z c.la b=q at *;obtain ⟨p,pb⟩:=p;obtain ⟨q,qb⟩:=q;simp only [slc,bnd] at e1 e2 ⊢;refine zae rfl rfl ?_;cases pb <;> cases qb <;> simp [z2x,z2y,cnd,e1,e2]
theorem ymm (c:Cfg) (b:Bd) (x:Cnd) (h:zeq x):RUN T znc [cfS c,.agg (bnd b),.agg (cnd x)]=some ([iv (zbx c b x).1,iv (zbx c b x).2.1,bv (zbx c b x).2.2],[]):=by
 have e1:=yba x.a c.la b h.2.2.1;have e2:=yba x.z c.la b h.2.2.2;unfold zbx;generalize zeb x.a c.la b=p at *;generalize zeb x.z c.la b=q at *;obtain ⟨p,pb⟩:=p;obtain ⟨q,qb⟩:=q;simp only [slc,bnd] at e1 e2 ⊢;refine zae rfl rfl ?_;cases pb <;> cases qb <;> simp [z3f,z2y,cnd,e1,e2]
theorem ymn (c:Cfg) (f:Int) (hl:c.sg.length<=9223372036854775807):RUN T zm9 [cfS c,iv f]=some ([iv (zej c f)],[]):=by
 refine zae rfl rfl ?_;have hw:=w64 (x:=(c.sg.length:Int)-1) (by omega) (by omega);have e1:=zcs f 0 ((c.sg.length:Int)-1);unfold zej;cases hs:atI c.sg f with
 | none =>
  have hn:=zi2 hs;have:zah f 0 ((c.sg.length:Int)-1)=false:=by
   cases hw:zah f 0 ((c.sg.length:Int)-1) with
   | false=>rfl
   | true=>have:=zaw.mp hw; omega
  rw [this] at e1;simp [zwa,zs6,-zbm,e1,hw]
 | some x =>
  obtain ⟨j,rfl,hj,hjl⟩:=zgn hs;rw [show zah j 0 ((c.sg.length:Int)-1)=true from zaw.mpr (by omega)] at e1;have hj':=zaz hj;simp [-getElem?_pos,zwa,zs6,-zbm,e1,hw,hj',hjl]
theorem ymo (c:Cfg) (f:Int) (hl:c.sg.length<=9223372036854775807):RUN T znd [cfS c,iv f]=some ([iv (zej c f)],[]):=by
 refine zae rfl rfl ?_;have hw:=w64 (x:=(c.sg.length:Int)-1) (by omega) (by omega);have e1:=zbn f 0 ((c.sg.length:Int)-1);unfold zej;cases hs:atI c.sg f with
 | none =>
  have hn:=zi2 hs;have:zah f 0 ((c.sg.length:Int)-1)=false:=by
   cases hw:zah f 0 ((c.sg.length:Int)-1) with
   | false=>rfl
   | true=>have:=zaw.mp hw; omega
  rw [this] at e1;simp [zwg,zs6,-za3,e1,hw]
 | some x =>
  obtain ⟨j,rfl,hj,hjl⟩:=zgn hs;rw [show zah j 0 ((c.sg.length:Int)-1)=true from zaw.mpr (by omega)] at e1;have hj':=zaz hj;simp [-getElem?_pos,zwg,zs6,-za3,e1,hw,hj',hjl]
theorem y81 (s l r:Int):RUN T zsn [iv s,iv l,iv r]=some ([bv (zoy s l r)],[]):=by
 refine zae rfl rfl ?_;unfold zoy
 by_cases h1:s=1
 ·simp [zw2,zzl,h1]
 ·by_cases h2:s = -1 <;> simp [zw2,zzl,h1,h2]
theorem y82 (s l r:Int):RUN T zsq [iv s,iv l,iv r]=some ([bv (zoy s l r)],[]):=by
 refine zae rfl rfl ?_;unfold zoy
 by_cases h1:s=1
 ·by_cases h3:l<=r <;> simp [zw4,zzl,h1,h3]
 ·by_cases h2:s = -1 <;> simp [zw4,zzl,h1,h2]
theorem y83 (x:Cnd) (l:Int) (h:zeq x):RUN T zso [.agg (cnd x),iv l]=some ([bv (zpf x l)],[]):=by
 refine zae rfl rfl ?_;have hp:=zmo (b:=x.z) h.2.2.1;have e1:=ybd x l h;have e2:=y8z x h;have e3:=ybb (zbj x.a x.z).1 l hp;have e4:=yme (zcc x l).1 (zc2 (zbj x.a x.z).1 l).1 (zuf _ _) (zub _ _ hp);unfold zpf;generalize zcc x l=g at *;generalize zbj x.a x.z=p at *;obtain ⟨p,pb⟩:=p;simp only at e2 e3 e4 ⊢;generalize zc2 p l=q at *;obtain ⟨g,gb⟩:=g;obtain ⟨q,qb⟩:=q;simp only at e1 e3 e4 ⊢;generalize zfc g q=m at *;obtain ⟨m,mb⟩:=m;simp only [frc,slc,cnd] at e1 e2 e3 e4 ⊢;cases gb <;> cases pb <;> cases qb <;> cases mb <;> simp [z5u,zs6,e1,e2,e3,e4]
theorem y84 (x:Cnd) (l:Int) (h:zeq x):RUN T zsr [.agg (cnd x),iv l]=some ([bv (zpf x l)],[]):=by
 refine zae rfl rfl ?_;have hp:=zmo (b:=x.z) h.2.2.1;have e1:=ybe x l h;have e2:=y80 x h;have e3:=ybc (zbj x.a x.z).1 l hp;have e4:=ymf (zcc x l).1 (zc2 (zbj x.a x.z).1 l).1 (zuf _ _) (zub _ _ hp);unfold zpf;generalize zcc x l=g at *;generalize zbj x.a x.z=p at *;obtain ⟨p,pb⟩:=p;simp only at e2 e3 e4 ⊢;generalize zc2 p l=q at *;obtain ⟨g,gb⟩:=g;obtain ⟨q,qb⟩:=q;simp only at e1 e3 e4 ⊢;generalize zfc g q=m at *;obtain ⟨m,mb⟩:=m;simp only [frc,slc,cnd] at e1 e2 e3 e4 ⊢;cases gb <;> cases pb <;> cases qb <;> cases mb <;> simp [z56,zs6,e1,e2,e3,e4]
theorem y85 (a b:Cnd):RUN T zsp [.agg (cnd a),.agg (cnd b)]=some ([bv (zjj a b)],[]):=by
 refine zae rfl rfl ?_;have e1:=yma a.f b.f;have e2:=yma a.b b.b;have e3:=yl5 (zco a.f b.f) (zco a.b b.b);have hr:zaj 8 2=true:=by decide
 have e4:zjj a b=decide ((if zco a.f b.f=0 then zco a.b b.b else zco a.f b.f)<0):=by
  unfold zjj zco;rw [Bool.eq_iff_iff];simp only [Bool.or_eq_true,Bool.and_eq_true,decide_eq_true_eq];split <;> split <;> (try split) <;> (try split) <;> (try split) <;> (try split) <;> omega
 rw [e4];simp [z50,zs6,cnd,e1,e2,e3,hr]
theorem y86 (a b:Cnd):RUN T zss [.agg (cnd a),.agg (cnd b)]=some ([bv (zjj a b)],[]):=by
 refine zae rfl rfl ?_;unfold zjj
 by_cases h1:a.f<b.f
 ·simp [zw6,zs6,cnd,h1]
 ·by_cases h2:a.f=b.f <;> simp [zw6,zs6,cnd,h1,h2]
theorem y87 (a b:Cnd) (l:Int) (ha:zeq a) (hb:zeq b):RUN T znr [.agg (cnd a),.agg (cnd b),iv l]=some ([bv (zd0 a b l)],[]):=by
 have e1:=ybd a l ha;have e2:=ybd b l hb;have e3:=yme (zcc a l).1 (zcc b l).1 (zuf _ _) (zuf _ _);have e4:=y85 a b;unfold zd0;generalize zcc a l=g at *;generalize zcc b l=q at *;generalize zjj a b=le at *;obtain ⟨g,gb⟩:=g;obtain ⟨q,qb⟩:=q;simp only at e1 e2 e3 ⊢;generalize zfc g q=m at *;obtain ⟨m,mb⟩:=m;simp only [frc,cnd] at e1 e2 e3 e4 ⊢;refine zae rfl rfl ?_;cases gb <;> cases qb <;> cases mb <;> by_cases h1:0<m <;> by_cases h2:m=0 <;> simp [z5a,zzl,e1,e2,e3,e4,h1,h2]
theorem y88 (a b:Cnd) (l:Int) (ha:zeq a) (hb:zeq b):RUN T zlo [.agg (cnd a),.agg (cnd b),iv l]=some ([bv (zd0 a b l)],[]):=by
 have e1:=ybe a l ha;have e2:=ybe b l hb;have e3:=ymf (zcc a l).1 (zcc b l).1 (zuf _ _) (zuf _ _);have e4:=y86 a b;unfold zd0;generalize zcc a l=g at *;generalize zcc b l=q at *;generalize zjj a b=le at *;obtain ⟨g,gb⟩:=g;obtain ⟨q,qb⟩:=q;simp only at e1 e2 e3 ⊢;generalize zfc g q=m at *;obtain ⟨m,mb⟩:=m;simp only [frc,cnd] at e1 e2 e3 e4 ⊢;refine zae rfl rfl ?_;cases gb <;> cases qb <;> cases mb <;> by_cases h1:0<m <;> by_cases h2:m=0 <;> simp [z5l,zzl,e1,e2,e3,e4,h1,h2]
def zdz (c:Cfg) (b:Bd) (x:Cnd):Bool:=zbk c && ((zbx c b x).2.2 && (decide (c.rw<=x.a.n) && (decide (c.rw<=x.z.n) && (zoy (zej c x.f) (zbx c b x).1 (zbx c b x).2.1 && zpf x c.la))))
theorem y89 (c:Cfg) (b:Bd) (x:Cnd) (h:zeq x) (hl:c.sg.length<=9223372036854775807):RUN T znq [cfS c,.agg (bnd b),.agg (cnd x)]=some ([bv (zdz c b x)],[]):=by
 have e1:=yml c b x h;have e2:=z7q c hl;have e3:=ymn c x.f hl;have e5:=y83 x c.la h;unfold zdz;generalize zbx c b x=p at *;obtain ⟨p1,p2,pb⟩:=p;have e4:=y81 (zej c x.f) p1 p2;simp only at e1 ⊢;generalize zej c x.f=s at *;generalize zoy s p1 p2=ab at *;generalize zpf x c.la=ib at *;generalize zbk c=cb at *;simp only [cnd,bnd] at e1 e5 ⊢;refine zae rfl rfl ?_;cases cb <;> cases pb <;> by_cases h1:c.rw<=x.a.n <;> by_cases h2:c.rw<=x.z.n <;> cases ab <;> simp [z48,zzl,e1,e2,e3,e4,e5,h1,h2]
theorem y9a (c:Cfg) (b:Bd) (x:Cnd) (h:zeq x) (hl:c.sg.length<=9223372036854775807):RUN T zjw [cfS c,.agg (bnd b),.agg (cnd x)]=some ([bv (zdz c b x)],[]):=by
 have e1:=ymm c b x h;have e2:=z7r c hl;have e3:=ymo c x.f hl;have e5:=y84 x c.la h;unfold zdz;generalize zbx c b x=p at *;obtain ⟨p1,p2,pb⟩:=p;have e4:=y82 (zej c x.f) p1 p2;simp only at e1 ⊢;generalize zej c x.f=s at *;generalize zoy s p1 p2=ab at *;generalize zpf x c.la=ib at *;generalize zbk c=cb at *;simp only [cnd,bnd] at e1 e5 ⊢;refine zae rfl rfl ?_;cases cb <;> cases pb <;> by_cases h1:c.rw<=x.a.n <;> by_cases h2:c.rw<=x.z.n <;> cases ab <;> simp [z5j,zzl,e1,e2,e3,e4,e5,h1,h2]
def zcd (l:List Cnd):List (List PV):=l.map cnd
@[simp] theorem qpy (l:List Cnd):(zcd l).length=l.length:=by simp [zcd]
theorem zxn {l:List Cnd} {i:Nat} {x:Cnd} (h:l[i]?=some x):(zcd l)[i]?=some (cnd x):=by simp [zcd,h]
def noB (c:Cfg) (b:Bd) (x y:Cnd):Bool := !zdz c b y || !zd0 y x c.la
def zmk (c:Cfg) (b:Bd) (l:List Cnd) (x:Cnd):Bool:=zdz c b x && l.all (noB c b x)
def zky:Cnd:=⟨0,0,⟨0,0⟩,⟨0,0⟩⟩
def zex (c:Cfg) (b:Bd) (l:List Cnd):Cnd×Bool:=match l.find? (zmk c b l) with
 | some x=>(x,true)
 | none=>(zky,false)
theorem y9b (c:Cfg) (b:Bd) (l:List Cnd) (hl:l.length<=1048576) (hc:c.sg.length<=1048576) (hi : ∀ x∈l,zeq x):RUN T zsa [cfS c,.agg (bnd b),.sl 6 (zcd l)]=some ([.agg (cnd (zex c b l).1),bv (zex c b l).2],[]):=by
 have eM : ∀ x∈l,RUN T zjw [cfS c,.agg (bnd b),.agg (cnd x)]=some ([bv (zdz c b x)],[]):=fun x hx=>y9a c b x (hi x hx) (by omega);have eB : ∀ x∈l,∀ y∈l,RUN T zlo [.agg (cnd x),.agg (cnd y),iv c.la]=some ([bv (zd0 x y c.la)],[]):=fun x hx y hy=>y88 x y c.la (hi x hx) (hi y hy);obtain ⟨R,hR⟩ : ∃ R,R=zex c b l:=⟨_,rfl⟩;unfold zex at hR;rw [show zex c b l=R by rw [hR]; rfl];simp only [bnd] at eM ⊢;refine zae rfl rfl ?_;simp [-getElem?_pos,z4s,z4h];refine zan (fun n st => ∃ i:Nat,i+n=l.length/\(l.drop i).find? (zmk c b l)=l.find? (zmk c b l)/\st.V 2 = .sl 6 (zcd l)/\st.V 3 = .ptr 0 none 0 0 0/\st.V 4 = .ptr 1 none 0 0 0/\st.V 6 = .ptr 2 none 0 0 0/\st.V 8=iv i/\st.S 0=some (.box [iv c.ro,iv c.de,iv c.bi,iv c.la,iv c.rw,iv c.nu,iv c.dn,.sl 1 (zab c.sg)])/\st.S 1=some (.box [iv b.lo,iv b.hi])/\st.S 2=some (.box [iv 0,iv 0,iv 0,iv 0,iv 0,iv 0])) ?_ l.length _ ⟨0,by simp⟩;rintro n st ⟨i,hin,hf,v2,v3,v4,v6,v8,hS0,hS1,hS2⟩
 by_cases h:i<l.length
 ·obtain ⟨x,hx⟩ : ∃ x,l[i]?=some x:=⟨_,bG h⟩;have hx':=zxn hx;have hxm:=bF hx;have hws:=wS h (by omega:l.length<=9223372036854775807);rw [zc3 hx,List.find?_cons] at hf;have e1:=eM x hxm;simp only [cnd] at e1;have eB' : ∀ y∈l,RUN T zlo [.agg [iv y.f,iv y.b,iv y.a.n,iv y.a.g,iv y.z.n,iv y.z.g],.agg [iv x.f,iv x.b,iv x.a.n,iv x.a.g,iv x.z.n,iv x.z.g],iv c.la]=some ([bv (zd0 y x c.la)],[]):=fun y hy=>eB y hy x hxm;have eM' : ∀ y∈l,RUN T zjw [cfS c,.agg [iv b.lo,iv b.hi],.agg [iv y.f,iv y.b,iv y.a.n,iv y.a.g,iv y.z.n,iv y.z.g]]=some ([bv (zdz c b y)],[]):=fun y hy=>eM y hy;clear eM eB;obtain ⟨kb0,hkb⟩ : ∃ k,k=zmk c b l x:=⟨_,rfl⟩;rw [<- hkb] at hf;have hkb2:kb0=(zdz c b x && (l.drop 0).all (noB c b x)):=by rw [hkb]; rfl
  clear hkb;generalize hmx:zdz c b x=mx at *;simp [-getElem?_pos,yak,v2,v3,v4,v6,v8,hS0,hS1,hS2,h,hx',cnd,e1];refine zan (fun n' s => ∃ (j:Nat) (k:Bool),j+n'=l.length/\(k && (l.drop j).all (noB c b x))=kb0/\s.V 2 = .sl 6 (zcd l)/\s.V 3 = .ptr 0 none 0 0 0/\s.V 4 = .ptr 1 none 0 0 0/\s.V 6 = .ptr 2 none 0 0 0/\s.V 8=iv i/\s.V 9=bv k/\s.V 10=iv j/\s.S 0=some (.box [iv c.ro,iv c.de,iv c.bi,iv c.la,iv c.rw,iv c.nu,iv c.dn,.sl 1 (zab c.sg)])/\s.S 1=some (.box [iv b.lo,iv b.hi])/\s.S 2=some (.box [iv 0,iv 0,iv 0,iv 0,iv 0,iv 0])) ?_ l.length _ ⟨0,mx,by omega,hkb2.symm,by simp [v2,v3,v4,v6,v8,hS0,hS1,hS2]⟩;clear v2 v3 v4 v6 v8 hS0 hS1 hS2;rintro n' s ⟨j,k,hj,hk,v2,v3,v4,v6,v8,v9,v10,hS0,hS1,hS2⟩
  by_cases hjl:j<l.length
  ·cases k with
   | true =>
    obtain ⟨y,hy⟩ : ∃ y,l[j]?=some y:=⟨_,bG hjl⟩;have hy':=zxn hy;have hym:=bF hy;have hwj:=wS hjl (by omega:l.length<=9223372036854775807);have e2:=eM' y hym;have e3:=eB' y hym;rw [zc3 hy,List.all_cons] at hk;have hno:noB c b x y=(!zdz c b y || !zd0 y x c.la):=rfl;rw [hno] at hk;clear eM' eB' e1 hno;generalize zdz c b y=my at *;generalize zd0 y x c.la=by' at *
    cases my <;> cases by' <;> simp [-getElem?_pos,zwv,v2,v3,v4,v6,v8,hS0,hS1,hS2,v9,v10,hjl,h,hx',hy',cnd,e2,e3,hwj]
    all_goals first
     | exact zai (n'-1) (by omega) ⟨j+1,true,by omega,(by simpa using hk),by simp [v2,v3,v4,v6,v8,hS0,hS1,hS2]⟩
     | exact zai (n'-1) (by omega) ⟨j+1,false,by omega,(by simpa using hk),by simp [v2,v3,v4,v6,v8,hS0,hS1,hS2]⟩
   | false =>
    have hk0:kb0=false:=by rw [<- hk]; rfl
    subst hk0;simp only at hf;simp [-getElem?_pos,zwv,v2,v3,v4,v6,v8,hS0,hS1,hS2,v9,v10,hjl,hws];exact zai (n-1) (by omega) ⟨i+1,by omega,hf,by simp [v2,v3,v4,v6,hS0,hS1,hS2]⟩
  ·rw [List.drop_eq_nil_of_le (by omega)] at hk;simp only [List.all_nil,Bool.and_true] at hk;subst hk;cases k with
   | true =>
    simp only at hf;rw [<- hf] at hR;simp only at hR;subst hR;simp [-getElem?_pos,zwv,v2,v3,v4,v6,v8,hS0,hS1,hS2,v9,v10,hjl,h,hx',cnd]
   | false =>
    simp only at hf;simp [-getElem?_pos,zwv,v2,v3,v4,v6,v8,hS0,hS1,hS2,v9,v10,hjl,hws];exact zai (n-1) (by omega) ⟨i+1,by omega,hf,by simp [v2,v3,v4,v6,hS0,hS1,hS2]⟩
 ·rw [List.drop_eq_nil_of_le (by omega)] at hf;rw [<- hf] at hR;simp only [List.find?_nil] at hR;subst hR;simp [-getElem?_pos,yak,v2,v6,v8,hS2,h,zky,cnd]
theorem qfg (a:Wd):ze3 a a=0:=by
 have h : ∀ x,zco x x=0:=fun x=>by
  unfold zco;rw [if_neg (by omega),if_neg (by omega)]
 unfold ze3;rw [h,h,if_pos rfl]
theorem qfd (a:Wd):zkm a a=0:=by
 unfold zkm;rw [qfg];split <;> simp_all
theorem qiy (a:Fr):(zfc a a).1=0:=by
 unfold zfc;split
 ·rename_i h;have:(zbq a a).1=(zbq a a).2.1:=by
   unfold zbq;split <;> rfl
  simp only;rw [this,qfd]
 ·rfl
theorem qfs (x:Cnd) (l:Int):zd0 x x l=false:=by
 have h1:=qiy (zcc x l).1;have h2:zjj x x=false:=by
  unfold zjj;rw [decide_eq_false (show ¬ x.f<x.f by omega),decide_eq_false (show ¬ x.b<x.b by omega)];simp
 unfold zd0;rw [h1,h2];simp
theorem qc3 {p q:Cnd->Bool} (l:List Cnd):(l.filter p).all q=l.all fun y => !p y || q y:=by
 induction l with
 | nil=>rfl
 | cons y l ih =>
  simp only [List.filter_cons,List.all_cons];cases h:p y with
  | true=>simp [ih]
  | false=>simp [ih]
theorem qe6 {p q:Cnd->Bool} (l:List Cnd):(l.filter p).find? q=l.find? fun x=>p x && q x:=by
 induction l with
 | nil=>rfl
 | cons y l ih =>
  simp only [List.filter_cons,List.find?_cons];cases h:p y with
  | true =>
   simp only [if_true,List.find?_cons,Bool.true_and];cases q y <;> simp [ih]
  | false=>simp [ih]
theorem qef (c:Cfg) (b:Bd) (l:List Cnd):l.find? (zmk c b l)=(l.filter (zdz c b)).find? fun x=>(l.filter (zdz c b)).all fun y => !zd0 y x c.la:=by
 rw [qe6]
 congr 1
 funext x
 unfold zmk;rw [qc3];rfl
end Go.Pe
