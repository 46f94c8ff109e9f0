/- What each function answers by the evaluator,and the law; for each answer its own conditions stand ahead of it. -/
import Derived.Test.YtpcphbbcnmhcnaaGreatK1
import Derived.Test.YtpcphbbcnmhcnaaGreatEvB2
import Derived.IntWalk
set_option linter.all false
set_option maxHeartbeats 8000000
set_option maxRecDepth 8000
namespace Go.Pe
open Go
theorem w64 {x:Int} (h1 : -9223372036854775808<=x) (h2:x<=9223372036854775807):IntKind.i64.wrap x=x:=IntWalk.i64_in x ⟨h1,h2⟩
@[simp] theorem q5e {x:Int} (h1 : -9223372036854775808<=x) (h2:x<=9223372036854775807):IntKind.i64.wrap x=x:=w64 h1 h2
structure Nd where
 f:Int
 c:Int
 l:Int
 r:Int
 v:Int
deriving DecidableEq
def nd (n:Nd):List PV:=[iv n.f,iv n.c,iv n.l,iv n.r,iv n.v]
@[simp] theorem qp5 (a b c d e:Int):RUN T zm9 [.agg [iv a,iv b,iv c,iv d,iv e]]=some ([bv (decide (a = -1))],[]):=by
 refine zae rfl rfl ?_;simp [z2o,zjz]
@[simp] theorem zbi (a b c:Int):RUN T zbp [iv a,iv b,iv c]=some ([bv (decide (b<=a) && decide (a<=c))],[]):=by
 refine zae rfl rfl ?_;simp [zz9,zzr];refine zaw (fun h => ?_) (fun h => ?_) <;> simp [h]
@[simp] theorem qp6 (a b c d e:Int):RUN T zni [.agg [iv a,iv b,iv c,iv d,iv e]]=some ([bv (!decide (a = -1))],[]):=by
 refine zae rfl rfl ?_;simp [z3p,zjz]
@[simp] theorem za1 (a b c:Int):RUN T zbo [iv a,iv b,iv c]=some ([bv (decide (b<=a) && decide (a<=c))],[]):=by
 refine zae rfl rfl ?_;simp [zzq,zzr];refine zaw (fun h => ?_) (fun h => ?_) <;> simp [h]
@[simp] theorem qp7 (a b c d e:Int):RUN T zsr [.agg [iv a,iv b,iv c,iv d,iv e]]=some ([.agg [iv a,iv b,iv c,iv d,iv e]],[]):=by
 refine zae rfl rfl ?_;simp [z58,z59]
@[simp] theorem qp8 (a b c d e:Int):RUN T zsq [.agg [iv a,iv b,iv c,iv d,iv e],.agg [iv a,iv b,iv c,iv d,iv e]]=some ([bv true],[]):=by
 refine zae rfl rfl ?_;simp [z56,zyz]
theorem y7t (es:List (List PV)) (left:Int) (h0:0<=left) (h1:left<=1048576) (hl:es.length<=9223372036854775807):RUN T zsg [.sl 5 es,iv left]=some ([iv (if left-es.length<0 then -1 else left-es.length)],[]):=by
 refine zae rfl rfl ?_;have e:=w64 (x:=left-es.length) (by omega) (by omega);simp [z5e,zyz,e];refine zaw (fun h => ?_) (fun h => ?_) <;> simp at h <;> simp [h];omega
def zik {α:Type} (p:α->Bool) (l:List α):Int:=match l.findIdx? p with
 | some i=>(i:Int)
 | none => -1
theorem z8d {α:Type} {p:α->Bool} {l:List α} (h : ∀ (j:Nat) (x:α),j<l.length->l[j]?=some x->p x=false):zik p l = -1:=by
 unfold zik;have:l.findIdx? p=none:=by
  rw [List.findIdx?_eq_none_iff];intro x hx;obtain ⟨j,hj⟩:=bH hx;exact h j x (bD hj).1 hj
 rw [this]
theorem z80 {α:Type} {p:α->Bool} {l:List α} {i:Nat} {x:α} (hi:l[i]?=some x) (hp:p x=true) (h : ∀ (j:Nat) (x:α),j<i->l[j]?=some x->p x=false):zik p l=i:=by
 unfold zik;have:l.findIdx? p=some i:=by
  rw [List.findIdx?_eq_some_iff_getElem];obtain ⟨h1,h2⟩:=bD hi;refine ⟨h1,by rw [h2]; exact hp,fun j hj => ?_⟩;have:=h j l[j] hj (bG (by omega));simp [this]
 rw [this]
theorem ydq {α:Type} {p:α->Bool} {l:List α} {i:Nat} {x:α} (h : ∀ (j:Nat) (x:α),j<i->l[j]?=some x->p x=false) (hi:l[i]?=some x) (hp:p x=false) : ∀ (j:Nat) (x:α),j<i+1->l[j]?=some x->p x=false:=by
 intro j y hj hy
 by_cases e:j=i
 ·subst e; rw [hi] at hy; cases hy; exact hp
 ·exact h j y (by omega) hy
def yrp (k:Int) (n:Nd):Bool := !decide (n.f = -1) && (decide (n.l=k) || decide (n.r=k))
def par (t:List Nd) (k:Int):Int:=zik (yrp k) t
theorem wS {i n:Nat} (h:i<n) (hn:n<=9223372036854775807):IntKind.i64.wrap ((i:Int)+1)=(i:Int)+1:=w64 (by omega) (by omega)
theorem y7u (es:List (List PV)) (left:Int) (h0:0<=left) (h1:left<=1048576) (hl:es.length<=9223372036854775807):RUN T zry [.agg [.sl 5 es],iv left]=some ([iv (if left-es.length<0 then -1 else left-es.length)],[]):=by
 refine zae rfl rfl ?_;have e:=y7t es left h0 h1 hl
 by_cases h:left-es.length<0
 ·simp only [h,if_true] at e ⊢;simp [zwf,zyz,e];intro _; omega
 ·simp only [h,if_false] at e ⊢;simp [zwf,zyz,e];refine zaw (fun b0 => ?_) (fun b0 => ?_) <;> (try simp at b0) <;> simp [-getElem?_pos,b0,];omega
def fil {α β:Type} (f:α->β) (z:β) (l:List α) (i:Nat):List β:=(l.take i).map f++List.replicate (l.length-i) z
theorem zyv {α β:Type} {f:α->β} {l:List α} {z:β} {i:Nat} {x:α} (hx:l[i]?=some x):(fil f z l i).set i (f x)=fil f z l (i+1):=by
 unfold fil;obtain ⟨h1,h2⟩:=bD hx;apply List.ext_getElem?;intro j;rw [List.getElem?_set];simp only [List.length_append,List.length_map,List.length_take,List.length_replicate]
 by_cases e:i=j
 ·subst e;rw [if_pos rfl,if_pos (by omega),List.getElem?_append_left (by simp; omega)];simp [List.getElem?_take,hx]
 ·rw [if_neg e]
  by_cases hj:j<i
  ·rw [List.getElem?_append_left (by simp; omega),List.getElem?_append_left (by simp; omega)];simp [List.getElem?_take,hj,show j<i+1 by omega]
  ·rw [List.getElem?_append_right (by simp; omega),List.getElem?_append_right (by simp; omega)];simp [List.getElem?_replicate]
   congr 1
   simp; omega
theorem zye {α β:Type} {f:α->β} {l:List α} {z:β} {i:Nat} (h:i<l.length):(fil f z l i)[i]?=some z:=by
 unfold fil;rw [List.getElem?_append_right (by simp; omega)];simp [List.getElem?_replicate]; omega
theorem zyl {α β:Type} {f:α->β} {l:List α} {z:β} {i:Nat} (h:i<=l.length):(fil f z l i).length=l.length:=by unfold fil; simp; omega
theorem zyn {α β:Type} {f:α->β} {l:List α} {z:β}:fil f z l 0=List.replicate l.length z:=by simp [fil]
theorem zxx {α β:Type} {f:α->β} {l:List α} {z:β} {i:Nat} (h:i=l.length):fil f z l i=l.map f:=by subst h; simp [fil]
theorem y7v (t:List Nd) (hl:t.length<=1048576):RUN T zsh [.sl 5 (t.map nd)]=some ([.own 5 (t.map nd)],[]):=by
 refine zae rfl rfl ?_;have hr:zah 40 t.length=true:=by simp [zah]; omega
 simp [z5g,z5h,hr];refine zao (fun n st => ∃ i:Nat,i+n=t.length/\st.V 0 = .sl 5 (t.map nd)/\st.V 3 = .ref 0 none 0 0 t.length/\st.V 4=iv i/\st.ep=0/\st.S 0=some (.row 5 (fil nd [iv 0,iv 0,iv 0,iv 0,iv 0] t i))) ?_ t.length _ ⟨0,by simp [zyn]⟩;rintro n st ⟨i,hi,h0,h3,h4,hep,hS⟩;simp [yfz,h0,h3,h4,hS];refine zaw (fun h => ?_) (fun h => ?_)
 ·simp at h;obtain ⟨x,hx2⟩ : ∃ x,t[i]=x:=⟨_,rfl⟩;have hx:t[i]?=some x:=by rw [<- hx2]; exact bG h
  have hw:=wS h (by omega:t.length<=9223372036854775807);have hg:=zye (f:=nd) (z:=[iv 0,iv 0,iv 0,iv 0,iv 0]) h;have hs:=zyv (f:=nd) (z:=[iv 0,iv 0,iv 0,iv 0,iv 0]) hx;simp only [nd] at hs;simp [-getElem?_pos,h0,h3,h4,hS,hep,h,hx,nd,hw,hg,hs,zyl (Nat.le_of_lt h)];exact zai (n-1) (by omega) ⟨i+1,by omega,by simp [h0,h3]⟩
 ·simp at h;have e:=zxx (f:=nd) (z:=[iv 0,iv 0,iv 0,iv 0,iv 0]) (by omega:i=t.length);simp [h3,hS,e]
theorem y7w (t:List Nd) (hl:t.length<=1048576):RUN T zrz [.agg [.sl 5 (t.map nd)]]=some ([.agg [.own 5 (t.map nd)]],[]):=by
 refine zae rfl rfl ?_;simp [z33,z2a,y7v t hl]
theorem y7x (t:List Nd) (hl:t.length<=9223372036854775807):RUN T zsf [.sl 5 (t.map nd),.sl 5 (t.map nd)]=some ([bv true],[]):=by
 refine zae rfl rfl ?_;simp [z5c,zyz];refine zao (fun n st => ∃ i:Nat,i+n=t.length/\st.V 0 = .sl 5 (t.map nd)/\st.V 1 = .sl 5 (t.map nd)/\st.V 5=iv i) ?_ t.length _ ⟨0,by simp⟩;rintro n st ⟨i,hi,h0,h1,h5⟩;simp [yfy,h0,h1,h5];refine zaw (fun h => ?_) (fun h => ?_)
 ·simp at h;obtain ⟨x,hx⟩ : ∃ x,t[i]?=some x:=⟨_,bG h⟩;have hw:=wS h hl;simp [-getElem?_pos,h0,h1,h5,h,hx,nd,hw];exact zai (n-1) (by omega) ⟨i+1,by omega,by simp [h0,h1]⟩
 ·simp
theorem y7y (t:List Nd) (hl:t.length<=9223372036854775807):RUN T zrv [.agg [.sl 5 (t.map nd)],.agg [.sl 5 (t.map nd)]]=some ([bv true],[]):=by
 refine zae rfl rfl ?_;simp [z3x,zyz,y7x t hl]
def zab (l:List Int):List (List PV):=l.map fun n=>[iv n]
@[simp] theorem z82 (l:List Int):(zab l).length=l.length:=by simp [zab]
theorem zay {l:List Int} {i:Nat} {x:Int} (h:l[i]?=some x):(zab l)[i]?=some [iv x]:=by simp [zab,h]
@[simp] theorem qsh:zab []=[]:=rfl
theorem zyd (x:Int) (l:List Int):zab (x::l)=[iv x]::zab l:=rfl
theorem qcx (l m:List Int):zab l++zab m=zab (l++m):=by simp [zab]
theorem zc6 (l:List Int) (x:Int):zab l++[[iv x]]=zab (l++[x]):=by simp [zab]
theorem ytl (l:List Int):zch (zab l)=true:=by simp [zch,zab]
def anc (t:List Nd):Nat->Int->Option (List Int)
 | 0,_=>none
 | n+1,k=>if par t k<0 then some [] else (anc t n (par t k)).map (par t k :: ·)
def way (t:List Nd) (k:Int):List Int:=if 0<=k/\k<=t.length-1 then match anc t 32 k with
  | some l=>(k::l).reverse
  | none=>[]
 else []
theorem zdc {n:Nat} (h:n<=17592186044416):zah 8 n=true:=by simp [zah]; omega
def mix {β:Type} (f:Nat->β) (l:List β) (i:Nat):List β:=(List.range i).map f++l.drop i
theorem z9c {β:Type} {f:Nat->β} {l:List β}:mix f l 0=l:=by simp [mix]
theorem z83 {β:Type} {f:Nat->β} {l:List β} {i:Nat} (h:i=l.length):mix f l i=(List.range i).map f:=by subst h; simp [mix]
theorem z9k {β:Type} {f:Nat->β} {l:List β} {i:Nat} (h:i<=l.length):(mix f l i).length=l.length:=by simp [mix]; omega
theorem z8o {β:Type} {f:Nat->β} {l:List β} {i:Nat}:(mix f l i)[i]?=l[i]?:=by
 unfold mix;rw [List.getElem?_append_right (by simp)];simp
theorem z8p {β:Type} {f:Nat->β} {l:List β} {i:Nat} (h:i<l.length):(mix f l i).set i (f i)=mix f l (i+1):=by
 unfold mix;apply List.ext_getElem?;intro j;rw [List.getElem?_set];simp only [List.length_append,List.length_map,List.length_range,List.length_drop]
 by_cases e:i=j
 ·subst e;rw [if_pos rfl,if_pos (by omega),List.getElem?_append_left (by simp)];simp
 ·rw [if_neg e]
  by_cases hj:j<i
  ·rw [List.getElem?_append_left (by simp; omega),List.getElem?_append_left (by simp; omega)];simp [hj,show j<i+1 by omega]
  ·rw [List.getElem?_append_right (by simp; omega),List.getElem?_append_right (by simp; omega)];simp
   congr 1
   omega
theorem z72 (es:List (List PV)) (left:Int) (h0:0<=left) (h1:left<=1048576) (hl:es.length<=9223372036854775807):RUN T zjo [.sl 1 es,iv left]=some ([iv (if left-es.length<0 then -1 else left-es.length)],[]):=by
 refine zae rfl rfl ?_;have e:=w64 (x:=left-es.length) (by omega) (by omega);simp [z01,zyz,e];refine zaw (fun h => ?_) (fun h => ?_) <;> simp at h <;> simp [h];omega
theorem z73 (l:List Int) (hl:l.length<=1048576):RUN T zjp [.sl 1 (zab l)]=some ([.own 1 (zab l)],[]):=by
 refine zae rfl rfl ?_;have hr:zah 8 l.length=true:=zdc (by omega);simp [z07,zzx,hr];refine zao (fun n st => ∃ i:Nat,i+n=l.length/\st.V 0 = .sl 1 (zab l)/\st.V 3 = .ref 0 none 0 0 l.length/\st.V 4=iv i/\st.ep=0/\st.S 0=some (.row 1 (fil (fun n=>[iv n]) [iv 0] l i))) ?_ l.length _ ⟨0,by simp [zyn]⟩;rintro n st ⟨i,hi,h0,h3,h4,hep,hS⟩;simp [ye8,h0,h3,h4,hS];refine zaw (fun h => ?_) (fun h => ?_)
 ·simp at h;obtain ⟨x,hx⟩ : ∃ x,l[i]?=some x:=⟨_,bG h⟩;have hw:=wS h (by omega:l.length<=9223372036854775807);have hg:=zye (f:=fun n=>[iv n]) (z:=[iv 0]) h;have hs:=zyv (f:=fun n=>[iv n]) (z:=[iv 0]) hx;have hx':=zay hx;simp [-getElem?_pos,h0,h3,h4,hS,hep,h,hx',hw,hg,hs,zyl (Nat.le_of_lt h)];exact zai (n-1) (by omega) ⟨i+1,by omega,by simp [h0,h3]⟩
 ·simp at h;have e:=zxx (f:=fun n=>[iv n]) (z:=[iv 0]) (by omega:i=l.length);simp [h3,hS,e,zab]
theorem z74 (l:List Int) (hl:l.length<=9223372036854775807):RUN T zjq [.sl 1 (zab l),.sl 1 (zab l)]=some ([bv true],[]):=by
 refine zae rfl rfl ?_;simp [z09,zyz];refine zao (fun n st => ∃ i:Nat,i+n=l.length/\st.V 0 = .sl 1 (zab l)/\st.V 1 = .sl 1 (zab l)/\st.V 5=iv i) ?_ l.length _ ⟨0,by simp⟩;rintro n st ⟨i,hi,h0,h1,h5⟩;simp [ye9,h0,h1,h5];refine zaw (fun h => ?_) (fun h => ?_)
 ·simp at h;obtain ⟨x,hx⟩ : ∃ x,l[i]?=some x:=⟨_,bG h⟩;have hw:=wS h hl;have hx':=zay hx;simp [-getElem?_pos,h0,h1,h5,h,hx',hw];exact zai (n-1) (by omega) ⟨i+1,by omega,by simp [h0,h1]⟩
 ·simp
def upto (k:Int) (n:Nat):List Int:=(List.range n).map fun (i:Nat)=>k+(i:Int)
@[simp] theorem q2z (k:Int) (n:Nat):(upto k n).length=n:=by simp [upto]
theorem zxd (l:List Int) (k:Int) (h0:0<=k) (hk:k+l.length<=9223372036854775806):RUN T zjr [.own 1 (zab l),iv k]=some ([iv (k+l.length)],[.own 1 (zab (upto k l.length))]):=by
 refine zae rfl rfl ?_;simp [z1l,zyz];refine zao (fun n st => ∃ i:Nat,i+n=l.length/\st.V 0 = .ref 0 none 0 0 l.length/\st.V 1=iv (k+i)/\st.V 5=iv i/\st.ep=0/\st.S 0=some (.row 1 (mix (fun j=>[iv (k+(j:Int))]) (zab l) i))) ?_ l.length _ ⟨0,by simp [z9c]⟩;rintro n st ⟨i,hi,h0,h1,h5,hep,hS⟩;simp [yfe,h0,h1,h5,hS];refine zaw (fun h => ?_) (fun h => ?_)
 ·simp at h;obtain ⟨x,hx⟩ : ∃ x,l[i]?=some x:=⟨_,bG h⟩;have hw:=wS h (by omega:l.length<=9223372036854775807);have hw2:IntKind.i64.wrap (k+(i:Int)+1)=k+(i:Int)+1:=w64 (by omega) (by omega);have hx':=zay hx;have hg:=(z8o (f:=fun (j:Nat)=>[iv (k+(j:Int))]) (l:=zab l) (i:=i)).trans hx';have hs:=z8p (f:=fun (j:Nat)=>[iv (k+(j:Int))]) (l:=zab l) (i:=i) (by simpa using h);have hl:=z9k (f:=fun (j:Nat)=>[iv (k+(j:Int))]) (l:=zab l) (i:=i) (by simp; omega);simp at hl;simp [-getElem?_pos,h0,h1,h5,hS,hep,h,hg,hs,hl,hw,hw2];exact zai (n-1) (by omega) ⟨i+1,by omega,by simp [h0],by simp; omega,by simp⟩
 ·simp at h;have e:=z83 (f:=fun (j:Nat)=>[iv (k+(j:Int))]) (l:=zab l) (i:=i) (by simp; omega);have e2:i=l.length:=by omega
  subst e2;simp [hS,e,h1];simp [zab,upto,Function.comp_def]
theorem y7z (k:Int) (n:Nat) (h0:0<=k) (hk:k+n<=9223372036854775806):RUN T zq1 [.sl 1 (zab (upto k n)),iv k]=some ([iv (k+n)],[]):=by
 refine zae rfl rfl ?_;simp [z1p,zyz];refine zao (fun q st => ∃ i:Nat,i+q=n/\st.V 0 = .sl 1 (zab (upto k n))/\st.V 1=iv (k+i)/\st.V 5=iv i) ?_ n _ ⟨0,by simp⟩;rintro q st ⟨i,hi,h0,h1,h5⟩;simp [yfg,h0,h1,h5];refine zaw (fun h => ?_) (fun h => ?_)
 ·simp at h;have hw:=wS h (by omega:n<=9223372036854775807);have hw2:IntKind.i64.wrap (k+(i:Int)+1)=k+(i:Int)+1:=w64 (by omega) (by omega);have hx':(zab (upto k n))[i]?=some [iv (k+i)]:=zay (by simp [upto,h]);simp [-getElem?_pos,h0,h1,h5,h,hx',hw,hw2];exact zai (q-1) (by omega) ⟨i+1,by omega,by simp [h0],by simp; omega,by simp⟩
 ·simp at h;simp [h1]; omega
def zff (k:Int) (n:Nat):List Nd:=(List.range n).map fun (i:Nat)=>⟨k+5*(i:Int),k+5*(i:Int)+1,k+5*(i:Int)+2,k+5*(i:Int)+3,k+5*(i:Int)+4⟩
theorem y70 (t:List Nd) (k:Int) (h0:0<=k) (hk:k+5*t.length<=9223372036854775806):RUN T zrw [.own 5 (t.map nd),iv k]=some ([iv (k+5*t.length)],[.own 5 ((zff k t.length).map nd)]):=by
 refine zae rfl rfl ?_;simp [z3z,zyz];obtain ⟨f,hf⟩ : ∃ f:Nat->List PV,f=fun (j:Nat)=>[iv (k+5*(j:Int)),iv (k+5*(j:Int)+1),iv (k+5*(j:Int)+2),iv (k+5*(j:Int)+3),iv (k+5*(j:Int)+4)]:=⟨_,rfl⟩;refine zao (fun n st => ∃ i:Nat,i+n=t.length/\st.V 0 = .ref 0 none 0 0 t.length/\st.V 1=iv (k+5*i)/\st.V 5=iv i/\st.ep=0/\st.S 0=some (.row 5 (mix f (t.map nd) i))) ?_ t.length _ ⟨0,by simp [z9c]⟩;rintro n st ⟨i,hi,h0,h1,h5,hep,hS⟩;simp [yfq,h0,h1,h5,hS];refine zaw (fun h => ?_) (fun h => ?_)
 ·simp at h;obtain ⟨x,hx⟩ : ∃ x,t[i]?=some x:=⟨_,bG h⟩;have hw:=wS h (by omega:t.length<=9223372036854775807);have w1:IntKind.i64.wrap (k+5*(i:Int)+1)=k+5*(i:Int)+1:=w64 (by omega) (by omega);have w2:IntKind.i64.wrap (k+5*(i:Int)+1+1)=k+5*(i:Int)+2:=by rw [w64 (by omega) (by omega)]; omega
  have w3:IntKind.i64.wrap (k+5*(i:Int)+2+1)=k+5*(i:Int)+3:=by rw [w64 (by omega) (by omega)]; omega
  have w4:IntKind.i64.wrap (k+5*(i:Int)+3+1)=k+5*(i:Int)+4:=by rw [w64 (by omega) (by omega)]; omega
  have w5:IntKind.i64.wrap (k+5*(i:Int)+4+1)=k+5*((i:Int)+1):=by rw [w64 (by omega) (by omega)]; omega
  have hx':(t.map nd)[i]?=some (nd x):=by simp [hx]
  have hg:=(z8o (f:=f) (l:=t.map nd) (i:=i)).trans hx';have hs:=z8p (f:=f) (l:=t.map nd) (i:=i) (by simpa using h);have hfi:f i=[iv (k+5*(i:Int)),iv (k+5*(i:Int)+1),iv (k+5*(i:Int)+2),iv (k+5*(i:Int)+3),iv (k+5*(i:Int)+4)]:=by rw [hf]
  rw [hfi] at hs;have hl:=z9k (f:=f) (l:=t.map nd) (i:=i) (by simp; omega);simp at hl;simp [-getElem?_pos,h0,h1,h5,hS,hep,h,hg,hs,hl,hw,w1,w2,w3,w4,w5,nd];exact zai (n-1) (by omega) ⟨i+1,by omega,by simp [h0]⟩
 ·simp at h;have e:=z83 (f:=f) (l:=t.map nd) (i:=i) (by simp; omega);have e2:i=t.length:=by omega
  subst e2;simp [hS,e,h1];simp [zff,hf,Function.comp_def,nd]
def lvs:List Nd->Int->List Int
 | [],_=>[]
 | x::xs,i=>if x.f = -1 then i::lvs xs (i+1) else lvs xs (i+1)
theorem ybs : ∀ (t:List Nd) (i:Int),(lvs t i).length<=t.length
 | [],_=>by simp [lvs]
 | x::xs,i=>by
  have:=ybs xs (i+1);simp only [lvs];split <;> simp <;> omega
theorem zc3 {α:Type} {l:List α} {i:Nat} {x:α} (h:l[i]?=some x):l.drop i=x::l.drop (i+1):=by
 obtain ⟨h1,h2⟩:=bD h;rw [List.drop_eq_getElem_cons h1,h2]
theorem y71 (t:List Nd) (hl:t.length<=1048576):RUN T zrl [.agg [.sl 5 (t.map nd)]]=some ([.own 1 (zab (lvs t 0))],[]):=by
 refine zae rfl rfl ?_;simp [z3b,zzx];refine zao (fun n st => ∃ i:Nat,i+n=t.length/\∃ (m:List Int) (o e:Nat),m++lvs (t.drop i) i=lvs t 0/\st.V 8 = .sl 5 (t.map nd)/\st.V 9=iv t.length/\st.V 3 = .ref o none e 0 m.length/\st.V 10=iv i/\o<st.nx/\st.S o=some (.row 1 (zab m))) ?_ t.length _ ⟨0,by simp,[],1,0,by simp⟩;rintro n st ⟨i,hi,m,o,e,hm,h8,h9,h3,h10,hox,hSo⟩;simp [yfl,h8,h9,h10];refine zaw (fun h => ?_) (fun h => ?_)
 ·simp at h;obtain ⟨x,hx⟩ : ∃ x,t[i]?=some x:=⟨_,bG h⟩;have hw:=wS h (by omega:t.length<=9223372036854775807);have hr:zah 8 (m.length+1)=true:=zdc (by
   have h5:=congrArg List.length hm;have h6:=ybs t 0;simp at h5; omega)
  have n1 : ¬ o=st.nx:=by omega
  have n2 : ¬ o=st.nx+1:=by omega
  simp [-getElem?_pos,h8,h9,h3,h10,hSo,n1,n2,hx,nd,hw,hr,zc6];refine zaw (fun b0 => ?_) (fun b0 => ?_) <;> (try simp at b0) <;> simp [-getElem?_pos,b0,h8,h9,h3,h10,hSo,n1,n2,hx,hw,hr,zc6]
  ·refine zai (n-1) (by omega) ⟨i+1,by omega,m++[(i:Int)],st.nx+2,st.ep,?_,by simp [h8,h9]⟩;rw [<- hm,zc3 hx,lvs,if_pos b0]; simp
  ·refine zai (n-1) (by omega) ⟨i+1,by omega,m,o,e,?_,by simp [h8],by simp [h9],by simp [h3],by simp,by simp; omega,by simp [hSo,n1]⟩;rw [<- hm,zc3 hx,lvs,if_neg b0]; simp
 ·simp at h;have e:m=lvs t 0:=by rw [<- hm,List.drop_eq_nil_of_le h]; simp [lvs]
  simp [h3,hSo,e]
def rt (t:List Nd) (row:List Int):Nat->Int->Option (List Int)
 | 0,_=>none
 | n+1,a=>match (if 0<=a then t[a.toNat]? else none) with
  | none=>none
  | some x=>if x.f = -1 then some [a] else match (if 0<=x.f then row[x.f.toNat]? else none) with
   | none=>none
   | some y=>(rt t row n (if y<=x.c then x.l else x.r)).map (a :: ·)
theorem yq2 {t:List Nd} {row:List Int} {n:Nat} {a:Int} (h:a<0\/(t.length:Int)-1<a):rt t row n a=none:=by
 cases n with
 | zero=>rfl
 | succ n =>
  rw [rt];have:(if 0<=a then t[a.toNat]? else none)=none:=by
   split
   ·exact List.getElem?_eq_none (by omega)
   ·rfl
  rw [this]
theorem ysh {t:List Nd} {row:List Int} {n a:Nat} {x:Nd} (hx:t[a]?=some x) (h:x.f = -1):rt t row (n+1) a=some [(a:Int)]:=by
 rw [rt]; simp [hx,h]
theorem ysu {t:List Nd} {row:List Int} {n a:Nat} {x:Nd} (hx:t[a]?=some x) (h:x.f ≠ -1) (h2:x.f<0\/(row.length:Int)-1<x.f):rt t row (n+1) a=none:=by
 rw [rt];have:(if 0<=x.f then row[x.f.toNat]? else none)=none:=by
  split
  ·exact List.getElem?_eq_none (by omega)
  ·rfl
 simp [hx,h,this]
theorem ynd {t:List Nd} {row:List Int} {n a f:Nat} {x:Nd} {y:Int} (hx:t[a]?=some x) (h:x.f=f) (hy:row[f]?=some y):rt t row (n+1) a=(rt t row n (if y<=x.c then x.l else x.r)).map ((a:Int) :: ·):=by
 rw [rt];have:x.f ≠ -1:=by omega
 simp [hx,this,h,hy]
def zid (t:List Nd) (row:List Int):List Int:=(rt t row (t.length+1) 0).getD []
theorem y72 (t:List Nd) (row:List Int) (hl:t.length<=1048576) (hr:row.length<=1048576):RUN T zru [.agg [.sl 5 (t.map nd)],.sl 1 (zab row)]=some ([.own 1 (zab (zid t row))],[]):=by
 refine zae rfl rfl ?_;simp [z3t,z2g];obtain ⟨r,hrr⟩ : ∃ r,r=rt t row (t.length+1) 0:=⟨_,rfl⟩;unfold zid;rw [<- hrr];refine zao (fun n st => ∃ i:Nat,i+n=t.length+1/\∃ (a:Int) (m:List Int) (o e:Nat),m.length=i/\(rt t row n a).map (m ++ ·)=r/\st.V 1 = .sl 1 (zab row)/\st.V 2 = .ptr 0 none 0 0 0/\st.V 5 = .ref o none e 0 m.length/\st.V 6=iv a/\st.V 7=iv i/\0<o/\o<st.nx/\st.S o=some (.row 1 (zab m))/\st.S 0=some (.box [.sl 5 (t.map nd)])) ?_ (t.length+1) _ ⟨0,by simp,0,[],1,0,by simp [hrr]⟩;rintro n st ⟨i,hi,a,m,o,e,hmi,hm,h1,h2,h5,h6,h7,ho,hox,hSo,hS⟩;simp [yfo,h1,h2,h5,h6,h7,hS];refine zaw (fun h => ?_) (fun h => ?_)
 ·simp at h;obtain ⟨q,rfl⟩ : ∃ q,n=q+1:=⟨n-1,by omega⟩;have hw:=w64 (x:=(t.length:Int)-1) (by omega) (by omega);have hwi:=w64 (x:=(i:Int)+1) (by omega) (by omega);have hwr:=w64 (x:=(row.length:Int)-1) (by omega) (by omega);simp [h1,h2,h5,h6,h7,hS,hw];refine zaw (fun h3 => ?_) (fun h3 => ?_)
  ·simp at h3;rw [yq2 h3] at hm;simp at hm;simp [<- hm]
  ·have h3':0<=a/\a<=(t.length:Int)-1:=by simpa using h3
   obtain ⟨a,rfl⟩ : ∃ a':Nat,a=a':=⟨a.toNat,by omega⟩;obtain ⟨x,hx⟩ : ∃ x,t[a]?=some x:=⟨_,bG (by omega)⟩;have z1:=fr hox;have z2:=fr ho;have z3:=fr (by omega:0<st.nx);have hr8:=zdc (n:=m.length+1) (by omega);simp [-getElem?_pos,h1,h2,h5,h6,h7,hS,hSo,z1,z2,z3,hx,nd,hr8,zc6,hwr];refine zaw (fun h4 => ?_) (fun h4 => ?_)
   ·simp at h4;rw [ysh hx h4] at hm;simp at hm;simp [<- hm]
   ·simp at h4;simp [-getElem?_pos,h1,h2,h5,h6,h7,hS,hSo,z1,z2,z3,hx,hr8,zc6,hwr];refine zaw (fun h8 => ?_) (fun h8 => ?_)
    ·simp at h8;rw [ysu hx h4 h8] at hm;simp at hm;simp [<- hm]
    ·have h8':0<=x.f/\x.f<=(row.length:Int)-1:=by simpa using h8
     obtain ⟨f,hf⟩ : ∃ f:Nat,x.f=f:=⟨x.f.toNat,by omega⟩;obtain ⟨y,hy⟩ : ∃ y,row[f]?=some y:=⟨_,bG (by omega)⟩;have hfl:f<row.length:=by omega
     rw [ynd hx hf hy] at hm;have hy':=zay hy;simp [-getElem?_pos,h1,h2,h5,h6,h7,hS,hSo,z1,z2,z3,hr8,zc6,hwr,hf,hy',hfl,hwi];refine zaw (fun b0 => ?_) (fun b0 => ?_) <;> (try simp at b0) <;> simp [-getElem?_pos,b0,h1,h2,h5,h6,h7,hS,hSo,z1,z2,z3,hf,hwi]
     all_goals
      refine zai q (by omega) ⟨i+1,by omega,_,m++[(a:Int)],st.nx+2,st.ep,by simp [hmi],?_,by simp [h1],by simp [h2],by simp,by simp; rfl,by simp,by omega,by simp [z2,z3,hS]⟩;rw [<- hm]
      first | rw [if_pos b0] | rw [if_neg (by omega)]
      simp [Function.comp_def]
 ·simp at h;obtain rfl:n=0:=by omega
  simp [rt] at hm;simp [<- hm]
theorem y73 (t:List Nd) (row:List Int) (hl:t.length<=1048576) (hr:row.length<=1048576):RUN T zrb [.agg [.sl 5 (t.map nd)],.sl 1 (zab row)]=some ([.own 1 (zab (zid t row))],[]):=by
 refine zae rfl rfl ?_;have hw1:=w64 (x:=(t.length:Int)+1) (by omega) (by omega);simp [z2q,z2g,hw1];obtain ⟨r,hrr⟩ : ∃ r,r=rt t row (t.length+1) 0:=⟨_,rfl⟩;unfold zid;rw [<- hrr];refine zao (fun n st => ∃ i:Nat,i+n=t.length+1/\∃ (a:Int) (m:List Int) (o e:Nat),m.length=i/\(rt t row n a).map (m ++ ·)=r/\st.V 1 = .sl 1 (zab row)/\st.V 2 = .ptr 0 none 0 0 0/\st.V 5 = .ref o none e 0 m.length/\st.V 6=iv a/\st.V 13=iv i/\st.V 12=iv ((t.length:Int)+1)/\0<o/\o<st.nx/\st.S o=some (.row 1 (zab m))/\st.S 0=some (.box [.sl 5 (t.map nd)])) ?_ (t.length+1) _ ⟨0,by simp,0,[],1,0,by simp [hrr]⟩;rintro n st ⟨i,hi,a,m,o,e,hmi,hm,h1,h2,h5,h6,h13,h12,ho,hox,hSo,hS⟩;simp [yfk,h13,h12];refine zaw (fun h => ?_) (fun h => ?_)
 ·simp at h;obtain ⟨q,rfl⟩ : ∃ q,n=q+1:=⟨n-1,by omega⟩;have hw:=w64 (x:=(t.length:Int)-1) (by omega) (by omega);have hwi:=w64 (x:=(i:Int)+1) (by omega) (by omega);have hwr:=w64 (x:=(row.length:Int)-1) (by omega) (by omega);simp [h1,h2,h5,h6,hS,hw];refine zaw (fun h3 => ?_) (fun h3 => ?_)
  ·simp at h3;rw [yq2 h3] at hm;simp at hm;simp [<- hm]
  ·have h3':0<=a/\a<=(t.length:Int)-1:=by simpa using h3
   obtain ⟨a,rfl⟩ : ∃ a':Nat,a=a':=⟨a.toNat,by omega⟩;obtain ⟨x,hx⟩ : ∃ x,t[a]?=some x:=⟨_,bG (by omega)⟩;have z1:=fr hox;have z2:=fr ho;have z3:=fr (by omega:0<st.nx);have hr8:=zdc (n:=m.length+1) (by omega);simp [-getElem?_pos,h1,h2,h5,h6,hS,hSo,z1,z2,z3,hx,nd,hr8,zc6,hwr];refine zaw (fun h4 => ?_) (fun h4 => ?_)
   ·simp at h4;rw [ysh hx h4] at hm;simp at hm;simp [<- hm]
   ·simp at h4;simp [-getElem?_pos,h1,h2,h5,h6,hS,hSo,z1,z2,z3,hx,hr8,zc6,hwr];refine zaw (fun h8 => ?_) (fun h8 => ?_)
    ·simp at h8;rw [ysu hx h4 h8] at hm;simp at hm;simp [<- hm]
    ·have h8':0<=x.f/\x.f<=(row.length:Int)-1:=by simpa using h8
     obtain ⟨f,hf⟩ : ∃ f:Nat,x.f=f:=⟨x.f.toNat,by omega⟩;obtain ⟨y,hy⟩ : ∃ y,row[f]?=some y:=⟨_,bG (by omega)⟩;have hfl:f<row.length:=by omega
     rw [ynd hx hf hy] at hm;have hy':=zay hy;simp [-getElem?_pos,h1,h2,h5,h6,h13,h12,hS,hSo,z1,z2,z3,hr8,zc6,hwr,hf,hy',hfl,hwi];refine zaw (fun b0 => ?_) (fun b0 => ?_) <;> (try simp at b0) <;> simp [-getElem?_pos,b0,h1,h2,h5,h6,h13,h12,hS,hSo,z1,z2,z3,hf,hwi]
     all_goals
      refine zai q (by omega) ⟨i+1,by omega,_,m++[(a:Int)],st.nx+2,st.ep,by simp [hmi],?_,by simp [h1],by simp [h2],by simp,by simp; rfl,by simp,by simp [h12],by omega,by simp [z2,z3,hS]⟩;rw [<- hm]
      first | rw [if_pos b0] | rw [if_neg (by omega)]
      simp [Function.comp_def]
 ·simp at h;obtain rfl:n=0:=by omega
  simp [rt] at hm;simp [<- hm]
theorem yp3 (t:List Nd) (row:List Int) : ∀ (n:Nat) (a:Int) (l:List Int),rt t row n a=some l->l.length<=n/\l≠[]/\∀ k∈l,0<=k/\k<t.length
 | 0,_,_,h=>by cases h
 | n+1,a,l,h=>by
  rw [rt] at h;have ha : ∀ x,(if 0<=a then t[a.toNat]? else none)=some x->0<=a/\a<t.length:=by
   intro x hx;split at hx
   ·have:=(bD hx).1; omega
   ·cases hx
  split at h
  ·cases h
  ·rename_i x hx;have hax:=ha x hx;split at h
   ·cases h; simpa using hax
   ·split at h
    ·cases h
    ·simp only [bB] at h;obtain ⟨m,hm,rfl⟩:=h;have:=yp3 t row n _ m hm;refine ⟨by simp; omega,by simp,fun k hk => ?_⟩;rcases List.mem_cons.mp hk with e | e
     ·subst e; exact hax
     ·exact this.2.2 k e
theorem ydn (t:List Nd) (row:List Int):(zid t row).length<=t.length+1/\∀ k∈zid t row,0<=k/\k<t.length:=by
 unfold zid;cases h:rt t row (t.length+1) 0 with
 | none=>simp
 | some l=>have:=yp3 t row _ _ l h; exact ⟨this.1,this.2.2⟩
def rto (t:List Nd) (row:List Int):Int:=((zid t row).getLast?).getD (-1)
theorem yrw {t:List Nd} {row:List Int}:rto t row = -1\/∃ i:Nat,rto t row=i/\i<t.length:=by
 unfold rto;cases h:(zid t row).getLast? with
 | none=>exact .inl rfl
 | some k =>
  have:=(ydn t row).2 k (List.mem_of_getLast? h);exact .inr ⟨k.toNat,by simp; omega,by omega⟩
theorem y74 (t:List Nd) (row:List Int) (hl:t.length<=1048576) (hr:row.length<=1048576):RUN T zqu [.agg [.sl 5 (t.map nd)],.sl 1 (zab row)]=some ([iv (rto t row)],[]):=by
 refine zae rfl rfl ?_;have hw:=(ydn t row).1;simp [z0v,zyz,y72 t row hl hr];refine zaw (fun h => ?_) (fun h => ?_)
 ·simp at h;simp [rto,h]
 ·simp at h;obtain ⟨l,x,hlx⟩ : ∃ l x,zid t row=l++[x]:=⟨_,_,(List.dropLast_concat_getLast h).symm⟩;have e1:rto t row=x:=by simp [rto,hlx]
  rw [e1];rw [hlx] at hw ⊢;simp at hw;have hwr:IntKind.i64.wrap (l.length:Int)=(l.length:Int):=w64 (by omega) (by omega);have hg:=zay (l:=l++[x]) (i:=l.length) (x:=x) (by simp);simp [-getElem?_pos,hwr,hg]
theorem y75 (t:List Nd) (row:List Int) (hl:t.length<=1048576) (hr:row.length<=1048576):RUN T zqk [.agg [.sl 5 (t.map nd)],.sl 1 (zab row)]=some ([iv (rto t row)],[]):=by
 refine zae rfl rfl ?_;have hw:=(ydn t row).1;simp [z0j,zyz,y73 t row hl hr];refine zaw (fun h => ?_) (fun h => ?_)
 ·simp at h;simp [rto,h]
 ·simp at h;obtain ⟨l,x,hlx⟩ : ∃ l x,zid t row=l++[x]:=⟨_,_,(List.dropLast_concat_getLast h).symm⟩;have e1:rto t row=x:=by simp [rto,hlx]
  rw [e1];rw [hlx] at hw ⊢;simp at hw;have hwr:IntKind.i64.wrap (l.length:Int)=(l.length:Int):=w64 (by omega) (by omega);have hg:=zay (l:=l++[x]) (i:=l.length) (x:=x) (by simp);simp [-getElem?_pos,hwr,hg]
def evt (t:List Nd) (row:List Int):Int:=if rto t row<0 then 0 else ((t[(rto t row).toNat]?).map (·.v)).getD 0
theorem y76 (t:List Nd) (row:List Int) (hl:t.length<=1048576) (hr:row.length<=1048576):RUN T zpw [.agg [.sl 5 (t.map nd)],.sl 1 (zab row)]=some ([iv (evt t row)],[]):=by
 refine zae rfl rfl ?_;simp [zy0,zyz,y74 t row hl hr];unfold evt;rcases yrw (t:=t) (row:=row) with h | ⟨i,h,hi⟩
 ·simp [h]
 ·obtain ⟨x,hx⟩ : ∃ x,t[i]?=some x:=⟨_,bG hi⟩;rw [h];have h0 : ¬ ((i:Int)<0):=by omega
  simp [-getElem?_pos,h0,hx,nd]
theorem y77 (t:List Nd) (row:List Int) (hl:t.length<=1048576) (hr:row.length<=1048576):RUN T zpu [.agg [.sl 5 (t.map nd)],.sl 1 (zab row)]=some ([iv (evt t row)],[]):=by
 refine zae rfl rfl ?_;simp [zyy,zyz,y75 t row hl hr];unfold evt;rcases yrw (t:=t) (row:=row) with h | ⟨i,h,hi⟩
 ·simp [h]
 ·obtain ⟨x,hx⟩ : ∃ x,t[i]?=some x:=⟨_,bG hi⟩;rw [h];have h0 : ¬ ((i:Int)<0):=by omega
  simp [-getElem?_pos,h0,hx,nd]
def inI (n:Int):Prop := -9223372036854775808<=n/\n<=9223372036854775807
def box (t:List Nd) (f:Int):List Int->Int->Int->Int×Int
 | a::b::r,lo,hi=>match t[a.toNat]? with
  | none=>(lo,hi)
  | some x=>if x.f=f then (if x.l=b then box t f (b::r) lo (min hi x.c) else if x.c=9223372036854775807 then box t f (b::r) lo hi else box t f (b::r) (max lo (x.c+1)) hi) else box t f (b::r) lo hi
 | _,lo,hi=>(lo,hi)
def wfN (n:Nd):Prop:=inI n.f/\inI n.c/\inI n.l/\inI n.r/\inI n.v
theorem y78 {f:Nat} {p:Int->Bool} (l:List Int) (hl:l.length<=9223372036854775807) (hm:zac T f=[]) (hp : ∀ n∈l,RUN T f [iv n]=some ([bv (p n)],[])) :
  RUN T zm8 [.sl 1 (zab l),.fn f []]=some ([iv (zik p l)],[]):=by
 refine zae rfl rfl ?_;simp [zvy,zyz];refine zao (fun n st => ∃ i:Nat,i+n=l.length/\st.V 0 = .sl 1 (zab l)/\st.V 1 = .fn f []/\st.V 8=iv i/\st.V 7=iv l.length/\∀ (j:Nat) (x:Int),j<i->l[j]?=some x->p x=false) ?_ l.length _ ⟨0,by simp⟩;rintro n st ⟨i,hi,h0,h1,h8,h7,hj⟩;simp [yaj,h0,h1,h8,h7];refine zaw (fun h => ?_) (fun h => ?_)
 ·simp at h;obtain ⟨x,hx⟩ : ∃ x,l[i]?=some x:=⟨_,bG h⟩;have hw:=wS h hl;have hx':=zay hx;have hpx:=hp x (bF hx);simp [-getElem?_pos,h0,h1,h8,h7,hx',hw,hm,hpx,h];refine zaw (fun b0 => ?_) (fun b0 => ?_) <;> (try simp at b0) <;> simp [-getElem?_pos,b0,h0,h1,h8,h7,hx',hw]
  all_goals first
   | exact (z80 hx b0 hj).symm
   | exact zai (n-1) (by omega) ⟨i+1,by omega,by simp [h0],by simp [h1],by simp,by simp [h7],ydq hj hx b0⟩
 ·simp at h;simp [h];exact (z8d fun j x hl hx=>hj j x (by omega) hx).symm
theorem z9o {α:Type} {p:α->Bool} {l:List α}:decide (0<=zik p l)=l.any p:=by
 unfold zik;cases h:l.findIdx? p with
 | none =>
  rw [List.findIdx?_eq_none_iff] at h;simp;exact fun x hx=>h x hx
 | some i =>
  obtain ⟨h1,h2,_⟩:=List.findIdx?_eq_some_iff_getElem.mp h;simp;exact ⟨_,List.getElem_mem h1,h2⟩
theorem yay {f:Nat} {p:Int->Bool} (l:List Int) (hl:l.length<=9223372036854775807) (hm:zac T f=[]) (hp : ∀ n∈l,RUN T f [iv n]=some ([bv (p n)],[])) :
  RUN T zip [.sl 1 (zab l),.fn f []]=some ([bv (l.any p)],[]):=by
 refine zae rfl rfl ?_;have e:=y78 l hl hm hp;simp [zvm,zyz,e,z9o]
structure Cfg where
 ro:Int
 de:Int
 bi:Int
 la:Int
 rw:Int
 nu:Int
 dn:Int
 sg:List Int
def zaj (n a b:Int):Bool:=decide (a<=n) && decide (n<=b)
def zb1 (c:Cfg):Bool:=zaj c.ro 1 8 && zaj c.de 0 4 && zaj c.bi 2 8 && zaj c.la 1 100 && zaj c.rw 1 20 && zaj c.dn 1 1000 && zaj c.nu 1 c.dn && decide ((c.sg.length:Int)<=4) && c.sg.all fun n=>zaj n (-1) 1
@[simp] theorem qp9 (n:Int):RUN T zqi [iv n]=some ([bv (zaj n (-1) 1)],[]):=by
 refine zae rfl rfl ?_;simp [z0d,zjz,zaj]
@[simp] theorem y79 (n:Int):RUN T zm4 [iv n]=some ([bv (!zaj n (-1) 1)],[]):=by
 refine zae rfl rfl ?_;simp [z17,zjz]
theorem zcq (a b c:Int):RUN T zbp [iv a,iv b,iv c]=some ([bv (zaj a b c)],[]):=zbi a b c
theorem zbj (a b c:Int):RUN T zbo [iv a,iv b,iv c]=some ([bv (zaj a b c)],[]):=za1 a b c
theorem yaz (c:Cfg) (hl:c.sg.length<=9223372036854775807):RUN T zk7 [.agg [iv c.ro,iv c.de,iv c.bi,iv c.la,iv c.rw,iv c.nu,iv c.dn,.sl 1 (zab c.sg)]]=some ([bv (zb1 c)],[]):=by
 refine zae rfl rfl ?_;have e:=yay (f:=zm4) (p:=fun n => !zaj n (-1) 1) c.sg hl (by simp) (fun n _=>y79 n);have e2 : ∀ l:List Int,(l.any fun n => !zaj n (-1) 1) = !(l.all fun n=>zaj n (-1) 1):=by intro l; induction l <;> simp_all
 rw [e2] at e;simp [zz2,zjz,zcq,-zbi];cases h0:zaj c.ro 1 8 <;> cases h1:zaj c.de 0 4 <;> simp [h0,h1,zcq,-zbi]
 all_goals try (simp [zb1,h0,h1]; done)
 cases h2:zaj c.bi 2 8 <;> cases h3:zaj c.la 1 100 <;> simp [h2,h3,zcq,-zbi]
 all_goals try (simp [zb1,h2,h3]; done)
 cases h4:zaj c.rw 1 20 <;> cases h5:zaj c.dn 1 1000 <;> simp [h4,h5,zcq,-zbi]
 all_goals try (simp [zb1,h4,h5]; done)
 cases h6:zaj c.nu 1 c.dn <;> simp [h6,zcq,-zbi]
 all_goals try (simp [zb1,h6]; done)
 by_cases h7:(c.sg.length:Int)<=4
 ·simp [h7,e,zb1,h0,h1,h2,h3,h4,h5,h6]
 ·simp [h7,zb1]
theorem zuz {m:Nat->List Bool} {R:zak} {c:IC} {st:St} {Q:Ex->St->Prop} (h:W m R c st (Nx (fun s=>W m R (.loop c) s Q) Q ⟨⟩ ⟨⟩)):W m R (.loop c) st Q:=qe1 ▸ h
theorem y8a (a b c d e f g:Int) (x:PV) (sg:List (List PV)):RUN T zp7 [.agg [iv a,iv b,iv c,iv d,iv e,iv f,iv g,.sl 1 sg]]=some ([.own 1 (zab [a,b,c,d,e])],[]):=by
 refine zae rfl rfl ?_;simp [zzw,zzx,zab]
theorem zxe:RUN T zp8 []=some ([.own 1 (zab [1,0,2,1,1])],[]):=by
 refine zae rfl rfl ?_;simp [zzy,zzz,zab]
theorem zxf:RUN T zp9 []=some ([.own 1 (zab [8,4,8,100,20])],[]):=by
 refine zae rfl rfl ?_;simp [zz0,zzz,zab]
theorem ya0 (c:Cfg) (hl:c.sg.length<=9223372036854775807):RUN T zk4 [.agg [iv c.ro,iv c.de,iv c.bi,iv c.la,iv c.rw,iv c.nu,iv c.dn,.sl 1 (zab c.sg)]]=some ([bv (zb1 c)],[]):=by
 refine zae rfl rfl ?_;have e1:=y8a c.ro c.de c.bi c.la c.rw c.nu c.dn .undef (zab c.sg);simp [zyw,zjz,e1];refine zuz ?_;simp [zn8,zxe,zxf,zbj,-za1,zyd];cases h0:zaj c.ro 1 8 <;> simp [h0]
 ·simp [zb1,h0]
 refine zuz ?_;simp [zn8,zxe,zxf,zbj,-za1,zyd];cases h1:zaj c.de 0 4 <;> simp [h1]
 ·simp [zb1,h1]
 refine zuz ?_;simp [zn8,zxe,zxf,zbj,-za1,zyd];cases h2:zaj c.bi 2 8 <;> simp [h2]
 ·simp [zb1,h2]
 refine zuz ?_;simp [zn8,zxe,zxf,zbj,-za1,zyd];cases h3:zaj c.la 1 100 <;> simp [h3]
 ·simp [zb1,h3]
 refine zuz ?_;simp [zn8,zxe,zxf,zbj,-za1,zyd];cases h4:zaj c.rw 1 20 <;> simp [h4]
 ·simp [zb1,h4]
 refine zuz ?_;simp [zn8];refine zao (fun n st => ∃ i:Nat,i+n=c.sg.length/\st.V 1 = .ptr 0 none 0 0 0/\st.V 5=iv i/\st.S 0=some (.box [iv c.ro,iv c.de,iv c.bi,iv c.la,iv c.rw,iv c.nu,iv c.dn,.sl 1 (zab c.sg)])/\∀ (j:Nat) (x:Int),j<i->c.sg[j]?=some x->zaj x (-1) 1=true) ?_ c.sg.length _ ⟨0,by simp⟩;rintro n st ⟨i,hi,h1',h5,hS,hj⟩;simp [yew,h1',h5,hS];refine zaw (fun h => ?_) (fun h => ?_)
 ·simp at h;obtain ⟨x,hx⟩ : ∃ x,c.sg[i]?=some x:=⟨_,bG h⟩;have hw:=wS h hl;have hx':=zay hx;simp [-getElem?_pos,h1',h5,hS,hx',hw,h,zbj,-za1];cases hb:zaj x (-1) 1 with
  | true =>
   simp [-getElem?_pos,h1',h5,hS,hw];refine zai (n-1) (by omega) ⟨i+1,by omega,by simp [h1'],by simp,by simp [hS],fun j y hj' hy => ?_⟩
   by_cases e:j=i
   ·subst e; rw [hx] at hy; cases hy; exact hb
   ·exact hj j y (by omega) hy
  | false =>
   simp [zb1]
   intros
   exact ⟨x,bF hx,hb⟩
 ·simp at h;have hall:(c.sg.all fun n=>zaj n (-1) 1)=true:=by
   rw [List.all_eq_true];intro x hx;obtain ⟨j,hj'⟩:=bH hx;exact hj j x (by have:=(bD hj').1; omega) hj'
  simp [h1',hS,zbj,-za1];cases h5:zaj c.dn 1 1000 <;> simp [h1',hS,h5,zbj,-za1]
  ·simp [zb1,h5]
  cases h6:zaj c.nu 1 c.dn <;> simp [h1',hS,h6,zbj,-za1]
  ·simp [zb1,h6]
  simp [zb1,h0,h1,h2,h3,h4,h5,h6,hall]
def fdv (a b:Int):Int×Bool:=if b=0\/(b = -1/\a = -9223372036854775808) then (0,false) else (a.fdiv b,true)
theorem ysy {a b:Int} (ha:inI a) (hb:b≠0) (h : ¬ (b = -1/\a = -9223372036854775808)) : -9223372036854775808<=a.tdiv b/\a.tdiv b<=9223372036854775807/\(b≠1 -> -9223372036854775808<=a.tdiv b-1):=by
 obtain ⟨h1,h2⟩:=ha;have h3:(a.tdiv b).natAbs=a.natAbs / b.natAbs:=Int.natAbs_tdiv a b;have h4:a.natAbs / b.natAbs<=a.natAbs:=Nat.div_le_self _ _
 by_cases c:b=1
 ·subst c; simp; omega
 by_cases c2:b = -1
 ·subst c2; simp; omega
 have h5:a.natAbs / b.natAbs<=a.natAbs / 2:=Nat.div_le_div_left (by omega) (by omega);omega
theorem yum (a b:Int) (hb:b≠0):a.fdiv b=if a.tmod b≠0/\¬ (a<0↔b<0) then a.tdiv b-1 else a.tdiv b:=by
 rw [Int.fdiv_eq_tdiv];have hd:b ∣ a↔a.tmod b=0:=Int.dvd_iff_tmod_eq_zero
 by_cases c:b ∣ a
 ·rw [if_pos c,if_neg (by rw [hd.mp c]; simp)]; simp
 ·have hc:a.tmod b≠0:=fun e=>c (hd.mpr e);have ha:a≠0:=fun e=>c (by subst e; exact ⟨0,by simp⟩);rw [if_neg c];rcases Int.lt_or_gt_of_ne hb with s2 | s2
  ·rw [if_neg (by omega : ¬ 0<=b),if_neg (by omega : ¬ 0<=b),Int.sign_eq_neg_one_of_neg s2]
   by_cases s1:0<=a
   ·rw [if_pos s1,if_pos ⟨hc,by omega⟩]
   ·rw [if_neg s1,if_neg (fun h=>h.2 (by omega))]; omega
  ·rw [if_pos (by omega:0<=b),if_pos (by omega:0<=b),Int.sign_eq_one_of_pos s2]
   by_cases s1:0<=a
   ·rw [if_pos s1,if_neg (fun h=>h.2 (by omega))]; omega
   ·rw [if_neg s1,if_pos ⟨hc,by omega⟩]
theorem yl2 (a b:Int) (ha:inI a):RUN T zm6 [iv a,iv b]=some ([iv (fdv a b).1,bv (fdv a b).2],[]):=by
 refine zae rfl rfl ?_;simp [z2b,zj7]
 by_cases h0:b=0
 ·subst h0; simp [fdv]
 by_cases hbad:b = -1/\a = -9223372036854775808
 ·obtain ⟨rfl,rfl⟩:=hbad; simp [fdv]
 have hr:=ysy ha h0 hbad;have hq:=w64 hr.1 hr.2.1;have hf:=yum a b h0;have e1:fdv a b=(a.fdiv b,true):=by unfold fdv; rw [if_neg (by simp [h0]; intro h; exact fun h2=>hbad ⟨h,h2⟩)]
 rw [e1];have hq2:a.tmod b≠0->IntKind.i64.wrap (a.tdiv b-1)=a.tdiv b-1:=fun h=>w64 (hr.2.2 (by rintro rfl; simp at h)) (by omega);have f0:=eq_false h0;obtain ⟨p1,hp1⟩ : ∃ p,(b = -1)=p:=⟨_,rfl⟩;obtain ⟨p2,hp2⟩ : ∃ p,(a = -9223372036854775808)=p:=⟨_,rfl⟩;rw [hp1,hp2] at hbad
 by_cases c1:p1 <;> by_cases c2:p2
 ·exact (hbad ⟨c1,c2⟩).elim
 all_goals
  simp only [c1,c2] at hp1 hp2;simp [f0,hp1,hp2,hq]
  by_cases d0:a.tmod b=0
  ·rw [if_neg (by simp [d0])] at hf;simp [d0,hf]
  ·have hq3:=hq2 d0;have d1:=eq_false d0
   by_cases d2:a<0 <;> by_cases d3:b<0
   all_goals
    simp only [d2,d3,ne_eq,d1,not_false_eq_true,iff_self,not_true_eq_false,and_false,if_false,iff_true,iff_false,and_true,if_true,true_iff,false_iff] at hf;simp [d1,d2,d3,hq3,hf]
theorem yl3 (a b:Int) (ha:inI a):RUN T zm2 [iv a,iv b]=some ([iv (fdv a b).1,bv (fdv a b).2],[]):=by
 refine zae rfl rfl ?_;simp [z0h,zj7]
 by_cases h0:b=0
 ·subst h0; simp [fdv]
 by_cases hbad:b = -1/\a = -9223372036854775808
 ·obtain ⟨rfl,rfl⟩:=hbad; simp [fdv]
 have hr:=ysy ha h0 hbad;have hq:=w64 hr.1 hr.2.1;have hf:=yum a b h0;have e1:fdv a b=(a.fdiv b,true):=by unfold fdv; rw [if_neg (by simp [h0]; intro h; exact fun h2=>hbad ⟨h,h2⟩)]
 rw [e1];have hq2:a.tmod b≠0->IntKind.i64.wrap (a.tdiv b-1)=a.tdiv b-1:=fun h=>w64 (hr.2.2 (by rintro rfl; simp at h)) (by omega);have f0:=eq_false h0;obtain ⟨p1,hp1⟩ : ∃ p,(b = -1)=p:=⟨_,rfl⟩;obtain ⟨p2,hp2⟩ : ∃ p,(a = -9223372036854775808)=p:=⟨_,rfl⟩;rw [hp1,hp2] at hbad
 by_cases c1:p1 <;> by_cases c2:p2
 ·exact (hbad ⟨c1,c2⟩).elim
 all_goals
  simp only [c1,c2] at hp1 hp2;simp [f0,hp1,hp2,hq]
  by_cases d0:a.tmod b=0
  ·rw [if_neg (by simp [d0])] at hf;simp [d0,hf]
  ·have hq3:=hq2 d0;have d1:=eq_false d0
   by_cases d2:a<0 <;> by_cases d3:b<0
   all_goals
    simp only [d2,d3,ne_eq,d1,not_false_eq_true,iff_self,not_true_eq_false,and_false,if_false,iff_true,iff_false,and_true,if_true,true_iff,false_iff] at hf;simp [d1,d2,d3,hq3,hf]
abbrev zb6 (c:Cfg):PV := .agg [iv c.ro,iv c.de,iv c.bi,iv c.la,iv c.rw,iv c.nu,iv c.dn,.sl 1 (zab c.sg)]
abbrev z9f (c:Cfg):PV := .agg [iv c.ro,iv c.de,iv c.bi,iv c.la,iv c.rw,iv c.nu,iv c.dn,.own 1 (zab c.sg)]
theorem za3 {n a b:Int}:zaj n a b=true↔a<=n/\n<=b:=by simp [zaj]
theorem ysi {c:Cfg} (h:zb1 c=true):(1<=c.ro/\c.ro<=8)/\(0<=c.de/\c.de<=4)/\(2<=c.bi/\c.bi<=8)/\(1<=c.la/\c.la<=100)/\(1<=c.rw/\c.rw<=20)/\(1<=c.dn/\c.dn<=1000)/\(1<=c.nu/\c.nu<=c.dn)/\c.sg.length<=4/\∀ n∈c.sg,-1<=n/\n<=1:=by
 simp only [zb1,Bool.and_eq_true,za3,decide_eq_true_eq,List.all_eq_true] at h;obtain ⟨⟨⟨⟨⟨⟨⟨⟨h1,h2⟩,h3⟩,h4⟩,h5⟩,h6⟩,h7⟩,h8⟩,h9⟩:=h;exact ⟨h1,h2,h3,h4,h5,h6,h7,by omega,h9⟩
def zfq (v:Int):Bool:=zaj v (-1099511627776) 1099511627776
@[simp] theorem yl4 (v:Int):RUN T zlj [iv v]=some ([bv (zfq v)],[]):=by
 refine zae rfl rfl ?_;simp [z3v,zjz,zfq,zaj]
@[simp] theorem yl5 (v:Int):RUN T zlk [iv v]=some ([bv (zfq v)],[]):=by
 refine zae rfl rfl ?_;simp [z4g,zjz,zfq,zaj]
def shr (v:Int) (c:Cfg):Int×Bool:=if zb1 c && zfq v then (( v*c.nu).fdiv c.dn,true) else (0,false)
theorem yqa {v:Int} {c:Cfg} (h:zb1 c=true) (hv:zfq v=true):inI (v*c.nu)/\IntKind.i64.wrap (v*c.nu)=v*c.nu/\fdv (v*c.nu) c.dn=((v*c.nu).fdiv c.dn,true):=by
 obtain ⟨_,_,_,_,_,hd,hn,_⟩:=ysi h;have h1:=za3.mp hv;have h2 : -1099511627776*1000<=v*c.nu:=by
  have a1 : -1099511627776*c.nu<=v*c.nu:=Int.mul_le_mul_of_nonneg_right h1.1 (by omega);omega
 have h3:v*c.nu<=1099511627776*1000:=by
  have a1:v*c.nu<=1099511627776*c.nu:=Int.mul_le_mul_of_nonneg_right h1.2 (by omega);omega
 refine ⟨⟨by omega,by omega⟩,w64 (by omega) (by omega),?_⟩;unfold fdv;rw [if_neg (by omega)]
theorem y8b (v:Int) (c:Cfg) (hl:c.sg.length<=9223372036854775807):RUN T zrt [iv v,zb6 c]=some ([iv (shr v c).1,bv (shr v c).2],[]):=by
 refine zae rfl rfl ?_;have e:=ya0 c hl;simp [z3r,zj7,e];cases h:zb1 c
 ·simp [shr,h]
 ·cases hv:zfq v
  ·simp [h,hv,shr]
  ·obtain ⟨h1,h2,h3⟩:=yqa h hv;have e2:=yl2 _ c.dn h1;rw [h3] at e2;simp [h,hv,shr,h2,e2]
theorem y8c (v:Int) (c:Cfg) (hl:c.sg.length<=9223372036854775807):RUN T zrm [iv v,zb6 c]=some ([iv (shr v c).1,bv (shr v c).2],[]):=by
 refine zae rfl rfl ?_;have e:=yaz c hl;simp [z3d,zj7,e];cases h:zb1 c
 ·simp [shr,h]
 ·cases hv:zfq v
  ·simp [h,hv,shr]
  ·obtain ⟨h1,h2,h3⟩:=yqa h hv;have e2:=yl3 _ c.dn h1;rw [h3] at e2;simp [h,hv,shr,h2,e2]
theorem y8d (c:Cfg) (left:Int) (h0:0<=left) (h1:left<=1048576) (hl:c.sg.length<=9223372036854775807):RUN T zpy [zb6 c,iv left]=some ([iv (if left-c.sg.length<0 then -1 else left-c.sg.length)],[]):=by
 refine zae rfl rfl ?_;have e:=z72 (zab c.sg) left h0 h1 (by simpa using hl);simp only [z82] at e
 by_cases h:left-c.sg.length<0
 ·simp only [h,if_true] at e ⊢;simp [zve,zyz,e];intro _; omega
 ·simp only [h,if_false] at e ⊢;simp [zve,zyz,e,h]
theorem y8e (c:Cfg) (hl:c.sg.length<=1048576):RUN T zjk [zb6 c]=some ([z9f c],[]):=by
 refine zae rfl rfl ?_;simp [zy4,zy5,z73 c.sg hl]
theorem y8f (c:Cfg) (hl:c.sg.length<=9223372036854775807):RUN T zp0 [zb6 c,zb6 c]=some ([bv true],[]):=by
 refine zae rfl rfl ?_;simp [zza,zyz,z74 c.sg hl]
def zcc (n:Int):Bool:=zaj n (-2147483647) 2147483647
@[simp] theorem zos (v:Int):RUN T zk6 [iv v]=some ([bv (zcc v)],[]):=by
 refine zae rfl rfl ?_;simp [zzu,zjz,zcc,zaj]
@[simp] theorem qqa (v:Int):RUN T zqj [iv v]=some ([bv (zcc v)],[]):=by
 refine zae rfl rfl ?_;simp [z0f,zjz,zcc,zaj]
structure qgy (F:Int) (x:Nd) (i n m:Int):Prop where
 lo:n<=x.l
 lt:i<x.l
 r:x.r=x.l+1
 hi:x.r<m
 f:0<=x.f/\x.f<=F-1
 c:zcc x.c=true
 v:x.v=0
structure Shaped (t:List Nd) (F:Int):Prop where
 leaf : ∀ (j:Nat) (x:Nd),t[j]?=some x->x.f = -1->x.c=0/\x.l=0/\x.r=0/\zfq x.v=true
 inner : ∀ (j:Nat) (x:Nd),t[j]?=some x->x.f ≠ -1->qgy F x j 1 t.length
 ord : ∀ (j j':Nat) (x y:Nd),j<j'->t[j]?=some x->t[j']?=some y->x.f ≠ -1->y.f ≠ -1->x.r<y.l
 cover : ∀ k:Int,1<=k->k<t.length->∃ (j:Nat) (x:Nd),t[j]?=some x/\x.f ≠ -1/\(x.l=k\/x.r=k)
 pos:1<=t.length
def adj (p:Int->Int->Bool):List Int->Bool
 | a::b::r=>p a b || adj p (b::r)
 | _=>false
theorem ydt {p:Int->Int->Bool} : ∀ {l:List Int},adj p l=true↔∃ (i:Nat) (a b:Int),l[i]?=some a/\l[i+1]?=some b/\p a b=true
 | []=>by simp [adj]
 | [x]=>by simp [adj]
 | x::y::r=>by
  simp only [adj,Bool.or_eq_true];rw [ydt (l:=y::r)];constructor
  ·rintro (h | ⟨i,a,b,h1,h2,h3⟩)
   ·exact ⟨0,x,y,rfl,rfl,h⟩
   ·exact ⟨i+1,a,b,by simpa using h1,by simpa using h2,h3⟩
  ·rintro ⟨i,a,b,h1,h2,h3⟩;cases i with
   | zero=>simp at h1 h2; subst h1; subst h2; exact .inl h3
   | succ i=>exact .inr ⟨i,a,b,by simpa using h1,by simpa using h2,h3⟩
theorem zkz {α:Type} {P:Nat->α->Prop} {l:List α} {i:Nat} {x:α} (h : ∀ (j:Nat) (x:α),j<i->l[j]?=some x->P j x) (hi:l[i]?=some x) (hp:P i x) : ∀ (j:Nat) (x:α),j<i+1->l[j]?=some x->P j x:=by
 intro j y hj hy
 by_cases e:j=i
 ·subst e; rw [hi] at hy; cases hy; exact hp
 ·exact h j y (by omega) hy
def cel (q:Bool) (l:List Int):PV:=if q then .own 1 (zab l) else .sl 1 (zab l)
@[simp] theorem qs1 (q:Bool) (l:List Int):fz (cel q l) = .sl 1 (zab l):=by cases q <;> simp [cel]
def rws (q:Bool) (L:List (List Int)):List (List PV):=L.map fun l=>[cel q l]
@[simp] theorem qyi (q:Bool) (L:List (List Int)):(rws q L).length=L.length:=by simp [rws]
theorem zct {q:Bool} {L:List (List Int)} {i:Nat} {l:List Int} (h:L[i]?=some l):(rws q L)[i]?=some [cel q l]:=by simp [rws,h]
@[simp] theorem qqb (n:Int):RUN T znj [iv n]=some ([bv (!zcc n)],[]):=by
 refine zae rfl rfl ?_;simp [z35,zjz]
theorem ya1 (l:List Int) (hl:l.length<=9223372036854775807):RUN T zle [.sl 1 (zab l)]=some ([bv (l.all zcc)],[]):=by
 refine zae rfl rfl ?_;have e:=yay (f:=znj) (p:=fun n => !zcc n) l hl (by simp) (fun n _=>by simp);simp [z1x,zjz,e];simp [List.any_eq_not_all_not]
def zgg (l:List Int):Bool := !adj (fun a b=>decide (b<=a)) l && l.all zcc && decide ((l.length:Int)<=7)
theorem yql {p:Int->Int->Bool} {l:List Int} (h : ∀ (j:Nat) (a b:Int),l[j]?=some a->l[j+1]?=some b->p a b=false):adj p l=false:=by
 cases e:adj p l with
 | false=>rfl
 | true =>
  obtain ⟨j,a,b,h1,h2,h3⟩:=ydt.mp e;rw [h j a b h1 h2] at h3; cases h3
theorem yuc {p:Int->Int->Bool} {l:List Int} {j:Nat} {a b:Int} (h1:l[j]?=some a) (h2:l[j+1]?=some b) (h3:p a b=true):adj p l=true:=ydt.mpr ⟨j,a,b,h1,h2,h3⟩
theorem zx0 {l:List Int} {p:Int->Bool} {j:Nat} {a:Int} (h1:l[j]?=some a) (h2:p a=false):l.all p=false:=by
 cases e:l.all p with
 | false=>rfl
 | true=>rw [List.all_eq_true.mp e a (bF h1)] at h2; cases h2
theorem zx7 {l:List Int} {p:Int->Bool} (h : ∀ (j:Nat) (a:Int),j<l.length->l[j]?=some a->p a=true):l.all p=true:=by
 rw [List.all_eq_true];intro x hx;obtain ⟨j,hj⟩:=bH hx;exact h j x (bD hj).1 hj
theorem y8g (l:List Int) (hl:l.length<=9223372036854775807):RUN T zsj [.sl 1 (zab l)]=some ([bv (zgg l)],[]):=by
 refine zae rfl rfl ?_;have hd:=ya1 l hl;simp [z5i,zjz];refine zao (fun n st => ∃ i:Nat,i+n=l.length+1/\1<=i/\st.V 0 = .sl 1 (zab l)/\st.V 3=iv i/\∀ (j:Nat) (a b:Int),j+1<i->l[j]?=some a->l[j+1]?=some b->decide (b<=a)=false) ?_ l.length _ ⟨1,by omega,by omega,by simp,by simp,fun j a b h=>by omega⟩;rintro n st ⟨i,hi,h1,v0,v3,hj⟩;simp [yf0,v0,v3];refine zaw (fun h => ?_) (fun h => ?_)
 ·simp at h;obtain ⟨k,rfl⟩ : ∃ k,i=k+1:=⟨i-1,by omega⟩;obtain ⟨a,ha⟩ : ∃ a,l[k]?=some a:=⟨_,bG (by omega)⟩;obtain ⟨b,hb⟩ : ∃ b,l[k+1]?=some b:=⟨_,bG h⟩;have ha':=zay ha;have hb':=zay hb;have hw:IntKind.i64.wrap ((k:Int)+1+1)=(k:Int)+1+1:=w64 (by omega) (by omega);have hw1:IntKind.i64.wrap (k:Int)=k:=w64 (by omega) (by omega);have hkl:k<l.length:=by omega
  simp [-getElem?_pos,v0,v3,ha',hb',hw1,h,hkl];refine zaw (fun h2 => ?_) (fun h2 => ?_)
  ·simp at h2;have:zgg l=false:=by unfold zgg; rw [yuc ha hb (by simpa using h2)]; rfl
   simp [this]
  ·simp at h2;simp [-getElem?_pos,v0,v3,hw];refine zai (n-1) (by omega) ⟨k+2,by omega,by omega,by simp [v0],by simp; omega,fun j x y hjk hx hy => ?_⟩
   by_cases e:j=k
   ·subst e; rw [ha] at hx; rw [hb] at hy; cases hx; cases hy; simp; omega
   ·exact hj j x y (by omega) hx hy
 ·simp at h;have e:adj (fun a b=>decide (b<=a)) l=false:=yql fun j a b h1 h2=>hj j a b (by have:=(bD h2).1; omega) h1 h2;unfold zgg;rw [e]
  by_cases c:(l.length:Int)<=7
  ·simp [v0,hd,c]
  ·simp [v0,c]
theorem y8h (l:List Int) (hl:l.length<=9223372036854775807):RUN T zsn [.sl 1 (zab l)]=some ([bv (zgg l)],[]):=by
 refine zae rfl rfl ?_;simp [z5v,zjz];refine zao (fun n st => ∃ i:Nat,i+n=l.length/\st.V 0 = .sl 1 (zab l)/\st.V 3=iv i/\(∀ (j:Nat) (a:Int),j<i->l[j]?=some a->zcc a=true)/\∀ (j:Nat) (a b:Int),j+1<i->l[j]?=some a->l[j+1]?=some b->decide (b<=a)=false) ?_ l.length _ ⟨0,by simp⟩;rintro n st ⟨i,hi,v0,v3,hd,hj⟩;simp [yf1,v0,v3];refine zaw (fun h => ?_) (fun h => ?_)
 ·simp at h;obtain ⟨b,hb⟩ : ∃ b,l[i]?=some b:=⟨_,bG h⟩;have hb':=zay hb;have hw:=wS h hl;rcases Bool.eq_false_or_eq_true (zcc b) with d | d
  ·have hd':=zkz (P:=fun _ a=>zcc a=true) hd hb d;rcases i with _ | k
   ·simp [-getElem?_pos,v0,v3,hb',d,h,hw];exact zai (n-1) (by omega) ⟨1,by omega,by simp [v0],by simp,by simpa using hd',fun j x y hjk hx hy=>by omega⟩
   ·obtain ⟨a,ha⟩ : ∃ a,l[k]?=some a:=⟨_,bG (by omega)⟩;have ha':=zay ha;have hw:IntKind.i64.wrap ((k:Int)+1+1)=(k:Int)+1+1:=w64 (by omega) (by omega);have hw1:IntKind.i64.wrap (k:Int)=k:=w64 (by omega) (by omega);have hkl:k<l.length:=by omega
    have hk0:(0:Int)<((k+1:Nat):Int):=by omega
    rcases Classical.propComplete (b<=a) with c | c
    ·have:zgg l=false:=by unfold zgg; rw [yuc ha hb (by simp [c])]; rfl
     simp [-getElem?_pos,v0,v3,ha',hb',d,h,hw,hw1,hkl,hk0,c,this]
    ·simp [-getElem?_pos,v0,v3,ha',hb',d,h,hw,hw1,hkl,hk0,c];refine zai (n-1) (by omega) ⟨k+2,by omega,by simp [v0],by simp; omega,hd',fun j x y hjk hx hy => ?_⟩
     by_cases e:j=k
     ·subst e; rw [ha] at hx; rw [hb] at hy; cases hx; cases hy; simp [c]
     ·exact hj j x y (by omega) hx hy
  ·have:zgg l=false:=by unfold zgg; rw [zx0 hb d]; simp
   simp [-getElem?_pos,v0,v3,hb',d,h,this]
 ·simp at h;have e:adj (fun a b=>decide (b<=a)) l=false:=yql fun j a b h1 h2=>hj j a b (by have:=(bD h2).1; omega) h1 h2;have e2:l.all zcc=true:=zx7 fun j a h1 h2=>hd j a (by omega) h2;unfold zgg;rw [e,e2];simp [v0]
def zdq:List (List Int)->Nat
 | []=>0
 | l::_=>l.length
theorem yl6 (q:Bool) (c v:List (List Int)):RUN T zlm [.agg [.sl 1 (rws q c),.sl 1 (rws q v)]]=some ([iv (zdq v)],[]):=by
 refine zae rfl rfl ?_;cases v with
 | nil=>simp [zwo,zjz,zdq]
 | cons l L =>
  have h:rws q (l::L)=[cel q l]::rws q L:=rfl;have h0:((L.length:Int)+1=0)=False:=eq_false (by omega);simp [h0,zwo,zjz,zdq,h]
theorem ya2 (q:Bool) (c v:List (List Int)):RUN T zjs [.agg [.sl 1 (rws q c),.sl 1 (rws q v)]]=some ([iv (zdq v)],[]):=by
 refine zae rfl rfl ?_;cases v with
 | nil=>simp [zv1,zjz,zdq]
 | cons l L =>
  have h:rws q (l::L)=[cel q l]::rws q L:=rfl;have h0:((L.length:Int)+1=0)=False:=eq_false (by omega);simp [h0,zv1,zjz,zdq,h]
theorem y8i {f:Nat} {c:PV} {p:Int->Bool} (l:List Int) (hl:l.length<=9223372036854775807) (hm:zac T f=[]) (hp : ∀ n∈l,RUN T f [iv n,.fptr [c] 0]=some ([bv (p n)],[])) :
  RUN T zm8 [.sl 1 (zab l),.fn f [.fptr [c] 0]]=some ([iv (zik p l)],[]):=by
 refine zae rfl rfl ?_;simp [zvy,zyz];refine zao (fun n st => ∃ i:Nat,i+n=l.length/\st.V 0 = .sl 1 (zab l)/\st.V 1 = .fn f [.fptr [c] 0]/\st.V 8=iv i/\st.V 7=iv l.length/\∀ (j:Nat) (x:Int),j<i->l[j]?=some x->p x=false) ?_ l.length _ ⟨0,by simp⟩;rintro n st ⟨i,hi,h0,h1,h8,h7,hj⟩;simp [yaj,h0,h1,h8,h7];refine zaw (fun h => ?_) (fun h => ?_)
 ·simp at h;obtain ⟨x,hx⟩ : ∃ x,l[i]?=some x:=⟨_,bG h⟩;have hw:=wS h hl;have hx':=zay hx;have hpx:=hp x (bF hx);simp [-getElem?_pos,h0,h1,h8,h7,hx',hw,hm,hpx,h];refine zaw (fun b0 => ?_) (fun b0 => ?_) <;> (try simp at b0) <;> simp [-getElem?_pos,b0,h0,h1,h8,h7,hx',hw]
  all_goals first
   | exact (z80 hx b0 hj).symm
   | exact zai (n-1) (by omega) ⟨i+1,by omega,by simp [h0],by simp [h1],by simp,by simp [h7],ydq hj hx b0⟩
 ·simp at h;simp [h];exact (z8d fun j x hl hx=>hj j x (by omega) hx).symm
theorem y8j {f:Nat} {c:PV} {p:Int->Bool} (l:List Int) (hl:l.length<=9223372036854775807) (hm:zac T f=[]) (hp : ∀ n∈l,RUN T f [iv n,.fptr [c] 0]=some ([bv (p n)],[])) :
  RUN T zip [.sl 1 (zab l),.fn f [.fptr [c] 0]]=some ([bv (l.any p)],[]):=by
 refine zae rfl rfl ?_;have e:=y8i l hl hm hp;simp [zvm,zyz,e,z9o]
@[simp] theorem qqc (n:Int) (a:List Int):RUN T znt [iv n,.fptr [.sl 1 (zab a)] 0]=some ([bv (!zaj n 0 a.length)],[]):=by
 refine zae rfl rfl ?_;simp [z5k,z16,zcq,-zbi]
theorem yqf {s:St} {d:Option Dst} {op:IOp} {g:Opd} {v:Bool} {x:PV}:(yv s ⟨d,op,some (g,v)⟩=some x)=(Ob' (zih v (g.get s)) fun t=>Br t (WI (fun _=>[]) (fun _ _=>none) op s (fun y _=>y=x)) (PV.v Go.undef=x)):=by
 simp only [yv,yqc,WI,Ob',Br,bB,Option.bind_eq_some_iff,eq_iff_iff];constructor
 ·rintro ⟨⟨y,s'⟩,⟨t,h1,h2⟩,h3⟩;refine ⟨t,h1,fun ht => ?_,fun ht => ?_⟩ <;> subst ht
  ·exact ⟨y,s',by simpa using h2,h3⟩
  ·simp at h2; obtain ⟨rfl,rfl⟩:=h2; exact h3
 ·rintro ⟨t,h1,h2,h3⟩;cases t with
  | true=>obtain ⟨y,s',h4,h5⟩:=h2 rfl; exact ⟨(y,s'),⟨true,h1,by simpa using h4⟩,h5⟩
  | false=>exact ⟨_,⟨false,h1,rfl⟩,h3 rfl⟩
@[simp] theorem q2e {s:St} {d:Option Dst} {op:IOp} {g:Opd} {v:Bool} {x:PV} {n:Nat} {r:List (zad×PV×Nat)}:zca s ((⟨d,op,some (g,v)⟩,x,n+1)::r)=((Ob' (zih v (g.get s)) fun t=>Br t (WI (fun _=>[]) (fun _ _=>none) op s (fun y _=>y=x)) (PV.v Go.undef=x))/\zca s r):=by
 simp only [zca,yqf]
@[simp] theorem q6r {V E:Nat->PV} {d:Option Dst} {op:IOp} {g:Opd} {v:Bool} {x:PV} {n:Nat} {s:St} {ms:List St}:za2 V E ⟨d,op,some (g,v)⟩ x (n+1) (s::ms)=((Ob' (zih v (g.get { s with V:=V,E:=E })) fun t=>Br t (WI (fun _=>[]) (fun _ _=>none) op { s with V:=V,E:=E } (fun y _=>y=x)) (PV.v Go.undef=x))/\za2 V E ⟨d,op,some (g,v)⟩ x n ms):=by
 simp only [za2,yqf]
def zf7 (c v:List (List Int)) (f:Nat):Bool:=match c[f]?,v[f]? with
 | some a,some b=>zgg a && decide ((b.length:Int)=zdq v) && b.all fun x=>zaj x 0 a.length
 | _,_=>true
def zds (c v:List (List Int)):Bool:=zaj c.length 1 4 && decide ((v.length:Int)=c.length) && zaj (zdq v) 1 40 && (List.range c.length).all (zf7 c v)
theorem yt7 {c v:List (List Int)} (h1:zaj c.length 1 4=true) (h2:(v.length:Int)=c.length) (h3:zaj (zdq v) 1 40=true):zds c v=(List.range c.length).all (zf7 c v):=by
 simp [zds,h1,h2,h3]
theorem zuh {p:Nat->Bool} {n:Nat} (h : ∀ i,i<n->p i=true):(List.range n).all p=true:=by
 rw [List.all_eq_true];intro x hx;exact h x (by simpa using hx)
theorem zgv {p:Nat->Bool} {n i:Nat} (hi:i<n) (h:p i=false):(List.range n).all p=false:=by
 cases e:(List.range n).all p with
 | false=>rfl
 | true=>rw [List.all_eq_true.mp e i (by simpa using hi)] at h; cases h
theorem yta {c v:List (List Int)} {f:Nat} {a b:List Int} (ha:c[f]?=some a) (hb:v[f]?=some b):zf7 c v f=(zgg a && decide ((b.length:Int)=zdq v) && b.all fun x=>zaj x 0 a.length):=by
 simp [zf7,ha,hb]
theorem zia {P:Nat->Prop} {i:Nat} (h : ∀ j,j<i->P j) (hi:P i) : ∀ j,j<i+1->P j:=by
 intro j hj
 by_cases e:j=i
 ·subst e; exact hi
 ·exact h j (by omega)
theorem yl7 (q:Bool) (c v:List (List Int)) (hc : ∀ l∈c,l.length<=9223372036854775807) (hv : ∀ l∈v,l.length<=9223372036854775807):RUN T znl [.agg [.sl 1 (rws q c),.sl 1 (rws q v)]]=some ([bv (zds c v)],[]):=by
 refine zae rfl rfl ?_;have hR:=ya2 q c v
 by_cases h1:zaj c.length 1 4=true
 case neg=>simp [zod,zjz,zcq,-zbi,h1,zds]
 by_cases h2:(v.length:Int)=c.length
 case neg=>simp [zod,zjz,zcq,-zbi,h1,h2,zds]
 by_cases h3:zaj (zdq v) 1 40=true
 case neg=>simp [zod,zjz,zcq,-zbi,h1,h2,h3,hR,zds]
 have h1':=za3.mp h1;rw [yt7 h1 h2 h3];simp [zod,zjz,zcq,-zbi,h1,h2,h3,hR];refine zao (fun n st => ∃ i:Nat,i+n=c.length/\(∀ j,j<i->zf7 c v j=true)/\st.V 1 = .ptr 0 none 0 0 0/\st.V 26 = .sl 1 (rws q c)/\st.V 27=iv c.length/\st.V 28=iv i/\0<st.nx/\st.S 0=some (.box [.sl 1 (rws q c),.sl 1 (rws q v)])) ?_ c.length _ ⟨0,by simp⟩;rintro n st ⟨i,hi,hk,v1,v26,v27,v28,hnx,hS⟩;simp [yfv,v26,v27,v28];have z:=fr hnx;refine zaw (fun h => ?_) (fun h => ?_)
 ·simp at h;obtain ⟨a,ha⟩ : ∃ a,c[i]?=some a:=⟨_,bG h⟩;obtain ⟨b,hb⟩ : ∃ b,v[i]?=some b:=⟨_,bG (by omega)⟩;have ha':=zct (q:=q) ha;have hb':=zct (q:=q) hb;have hal:=hc a (bF ha);have hbl:=hv b (bF hb);have hC:=y8g a hal;have hF:=y8j (f:=znt) (c := .sl 1 (zab a)) (p:=fun n => !zaj n 0 a.length) b hbl (by simp) (fun n _=>by simp);have hw:=wS h (by omega:c.length<=9223372036854775807);have hiv:i<v.length:=by omega
  have hfe:=yta ha hb
  by_cases d1:zgg a=true
  ·rcases Classical.propComplete ((b.length:Int)=zdq v) with d2 | d2
   ·by_cases d3:(b.all fun x=>zaj x 0 a.length)=true
    ·have d3':(b.any fun n => !zaj n 0 a.length)=false:=by simpa [List.any_eq_not_all_not] using d3
     simp [-getElem?_pos,v1,v26,v27,v28,hS,z,ha',hb',hC,hF,hR,hw,h,hiv,d1,d2,d3'];exact zai (n-1) (by omega) ⟨i+1,by omega,zia hk (by rw [hfe,d1,d3]; simp [d2]),by simp [v1,v26,v27,z,hS]⟩
    ·have d3':(b.any fun n => !zaj n 0 a.length)=true:=by simpa [List.any_eq_not_all_not] using d3
     have no:=zgv h (by rw [hfe,d1]; simp [d3]:zf7 c v i=false);simp [-getElem?_pos,v1,v26,v27,v28,hS,z,ha',hb',hC,hF,hR,hw,h,hiv,d1,d2,d3',no]
   ·have no:=zgv h (by rw [hfe,d1]; simp [d2]:zf7 c v i=false);simp [-getElem?_pos,v1,v26,v27,v28,hS,z,ha',hb',hC,hF,hR,hw,h,hiv,d1,d2,no]
  ·have no:=zgv h (by rw [hfe]; simp [d1]:zf7 c v i=false);simp [-getElem?_pos,v1,v26,v27,v28,hS,z,ha',hb',hC,hF,hR,hw,h,hiv,d1,no]
 ·simp at h;have:=zuh (p:=zf7 c v) (n:=c.length) fun j hj=>hk j (by omega);simp [this]
theorem yl8 (q:Bool) (c v:List (List Int)) (hc : ∀ l∈c,l.length<=9223372036854775807) (hv : ∀ l∈v,l.length<=9223372036854775807):RUN T znq [.agg [.sl 1 (rws q c),.sl 1 (rws q v)]]=some ([bv (zds c v)],[]):=by
 refine zae rfl rfl ?_;have hR:=yl6 q c v
 by_cases h1:zaj c.length 1 4=true
 case neg=>simp [zog,zjz,zbj,-za1,h1,zds]
 by_cases h2:(v.length:Int)=c.length
 case neg=>simp [zog,zjz,zbj,-za1,h1,h2,zds]
 by_cases h3:zaj (zdq v) 1 40=true
 case neg=>simp [zog,zjz,zbj,-za1,h1,h2,h3,hR,zds]
 have h1':=za3.mp h1;rw [yt7 h1 h2 h3];simp [zog,zjz,zbj,-za1,h1,h2,h3,hR];refine zao (fun n st => ∃ i:Nat,i+n=c.length/\(∀ j,j<i->zf7 c v j=true)/\st.V 1 = .ptr 0 none 0 0 0/\st.V 3=iv i/\0<st.nx/\st.S 0=some (.box [.sl 1 (rws q c),.sl 1 (rws q v)])) ?_ c.length _ ⟨0,by simp⟩;rintro n st ⟨i,hi,hk,v1,v3,hnx,hS⟩;simp [yfx,v1,v3,hS];have z:=fr hnx;refine zaw (fun h => ?_) (fun h => ?_)
 ·simp at h;obtain ⟨a,ha⟩ : ∃ a,c[i]?=some a:=⟨_,bG h⟩;obtain ⟨b,hb⟩ : ∃ b,v[i]?=some b:=⟨_,bG (by omega)⟩;have ha':=zct (q:=q) ha;have hb':=zct (q:=q) hb;have hal:=hc a (bF ha);have hbl:=hv b (bF hb);have hC:=y8h a hal;have hw:=wS h (by omega:c.length<=9223372036854775807);have hiv:i<v.length:=by omega
  have hfe:=yta ha hb
  by_cases d1:zgg a=true
  case neg =>
   have no:=zgv h (by rw [hfe]; simp [d1]:zf7 c v i=false);simp [-getElem?_pos,v1,v3,hS,z,ha',hb',hC,hR,hw,h,hiv,d1,no]
  rcases Classical.propComplete ((b.length:Int)=zdq v) with d2 | d2
  case inr =>
   have no:=zgv h (by rw [hfe,d1]; simp [d2]:zf7 c v i=false);simp [-getElem?_pos,v1,v3,hS,z,ha',hb',hC,hR,hw,h,hiv,d1,d2,no]
  simp [-getElem?_pos,v1,v3,hS,z,ha',hb',hC,hR,hw,h,hiv,d1,d2];refine zao (fun n st => ∃ j:Nat,j+n=b.length/\(∀ (k:Nat) (x:Int),k<j->b[k]?=some x->zaj x 0 a.length=true)/\st.V 1 = .ptr 0 none 0 0 0/\st.V 3=iv i/\st.V 4=iv j/\0<st.nx/\st.S 0=some (.box [.sl 1 (rws q c),.sl 1 (rws q v)])) ?_ b.length _ ⟨0,by omega,fun _ _ h=>by omega,by simp [v1,v3,hnx,hS]⟩;clear v1 v3 hnx hS z;rintro n' st ⟨j,hj,hjk,v1,v3,v4,hnx,hS⟩;simp [-getElem?_pos,yfw,v1,v3,v4,hS,hb',hiv];refine zaw (fun h4 => ?_) (fun h4 => ?_)
  ·simp at h4;obtain ⟨x,hx⟩ : ∃ x,b[j]?=some x:=⟨_,bG h4⟩;have hx':=zay hx;have hwj:=wS h4 hbl;rcases Bool.eq_false_or_eq_true (zaj x 0 a.length) with d3 | d3
   ·simp [-getElem?_pos,v1,v3,v4,hS,ha',hb',hx',hiv,h,h4,d3,hwj,zbj,-za1];exact zai (n'-1) (by omega) ⟨j+1,by omega,zkz (P:=fun _ x=>zaj x 0 a.length=true) hjk hx d3,by simp [v1,v3,hnx,hS]⟩
   ·have no:=zgv h (by rw [hfe,zx0 hx d3]; simp:zf7 c v i=false);simp [-getElem?_pos,v1,v3,v4,hS,ha',hb',hx',hiv,h,h4,d3,hwj,no,zbj,-za1]
  ·simp at h4;have ok:zf7 c v i=true:=by
    rw [hfe,d1,zx7 fun k x hk hx=>hjk k x (by omega) hx]; simp [d2]
   simp [-getElem?_pos,v1,v3,v4,hS,hw];exact zai (n-1) (by omega) ⟨i+1,by omega,zia hk ok,by simp [v1,hnx,hS]⟩
 ·simp at h;have:=zuh (p:=zf7 c v) (n:=c.length) fun j hj=>hk j (by omega);simp [this]
def za7 (L:List (List Int)):Nat:=(L.map List.length).sum
def tot (L:List (List Int)):Nat:=L.length+za7 L
theorem z78 (l:List Int) (L:List (List Int)):za7 (l::L)=l.length+za7 L:=by simp [za7]
theorem ydz {L:List (List Int)} : ∀ {l:List Int},l∈L->l.length<=za7 L:=by
 induction L with
 | nil=>simp
 | cons a L ih =>
  intro l h;rw [z78];rcases List.mem_cons.mp h with e | e
  ·subst e; omega
  ·have:=ih e; omega
theorem ya3 (q:Bool) (L:List (List Int)) (left:Int) (h0:0<=left) (h1:left<=1048576) (hl:L.length<=9223372036854775807) (hll : ∀ l∈L,l.length<=9223372036854775807):RUN T zla [.sl 1 (rws q L),iv left]=some ([iv (if left-tot L<0 then -1 else left-tot L)],[]):=by
 refine zae rfl rfl ?_;have e:=w64 (x:=left-L.length) (by omega) (by omega);have ht:tot L=L.length+za7 L:=rfl;simp [z0z,zyz,e];refine zaw (fun h => ?_) (fun h => ?_)
 ·simp at h;rw [if_pos (by omega)];simp
 ·simp at h;simp;refine zao (fun n st => ∃ i:Nat,i+n=L.length/\∃ r:Int,0<=r/\r<=1048576/\r-za7 (L.drop i)=left-tot L/\st.V 0 = .sl 1 (rws q L)/\st.V 1=iv r/\st.V 5=iv i) ?_ L.length _ ⟨0,by omega,left-L.length,by omega,by omega,by simp; omega,by simp⟩;rintro n st ⟨i,hi,r,hr0,hr1,hr,v0,v1,v5⟩;simp [ye5,v0,v5];refine zaw (fun h => ?_) (fun h => ?_)
  ·simp at h;obtain ⟨l,hx⟩ : ∃ l,L[i]?=some l:=⟨_,bG h⟩;have hx':=zct (q:=q) hx;have hw:=wS h hl;have hz:=z72 (zab l) r hr0 hr1 (by simpa using hll l (bF hx));rw [z82] at hz;rw [zc3 hx,z78] at hr
   by_cases d:r-l.length<0
   ·rw [if_pos d] at hz;rw [if_pos (by omega)];simp [-getElem?_pos,v0,v1,v5,hx',hz,h]
   ·rw [if_neg d] at hz;have d' : ¬ (r-l.length<0):=d;simp [-getElem?_pos,v0,v1,v5,hx',hz,h,hw,d'];exact zai (n-1) (by omega) ⟨i+1,by omega,r-l.length,by omega,by omega,by omega,by simp [v0]⟩
  ·simp at h;rw [List.drop_eq_nil_of_le (by omega)] at hr;have:za7 []=0:=rfl;rw [if_neg (by omega)];simp [v1];omega
theorem y8k (q:Bool) (c v:List (List Int)) (left:Int) (h0:0<=left) (h1:left<=1048576) (hcl:c.length<=9223372036854775807) (hvl:v.length<=9223372036854775807) (hc : ∀ l∈c,l.length<=9223372036854775807) (hv : ∀ l∈v,l.length<=9223372036854775807):RUN T zp3 [.agg [.sl 1 (rws q c),.sl 1 (rws q v)],iv left]=some ([iv (if left-tot c-tot v<0 then -1 else left-tot c-tot v)],[]):=by
 refine zae rfl rfl ?_;have e1:=ya3 q c left h0 h1 hcl hc
 by_cases d:left-tot c<0
 ·rw [if_pos d] at e1;rw [if_pos (by omega)];simp [zte,zyz,e1]
 ·rw [if_neg d] at e1;have e2:=ya3 q v (left-tot c) (by omega) (by omega) hvl hv
  by_cases d2:left-tot c-tot v<0
  ·rw [if_pos d2] at e2;rw [if_pos d2];simp [zte,zyz,e1,e2,d]
  ·rw [if_neg d2] at e2;rw [if_neg d2];simp [zte,zyz,e1,e2,d,d2]
theorem ya4 (q:Bool) (L:List (List Int)) (hl:L.length<=1048576) (hll : ∀ l∈L,l.length<=1048576):RUN T zlb [.sl 1 (rws q L)]=some ([.own 1 (rws true L)],[]):=by
 refine zae rfl rfl ?_;have hr:zah 24 L.length=true:=by simp [zah]; omega
 simp [z05,zzx,hr];refine zao (fun n st => ∃ i:Nat,i+n=L.length/\st.V 0 = .sl 1 (rws q L)/\st.V 3 = .ref 0 none 0 0 L.length/\st.V 4=iv i/\0<st.nx/\st.S 0=some (.row 1 (fil (fun l=>[cel true l]) [.own 1 []] L i))) ?_ L.length _ ⟨0,by simp [zyn]⟩;rintro n st ⟨i,hi,v0,v3,v4,hnx,hS⟩;simp [ye7,v0,v3,v4,hS];have z:=fr hnx;refine zaw (fun h => ?_) (fun h => ?_)
 ·simp at h;obtain ⟨l,hx⟩ : ∃ l,L[i]?=some l:=⟨_,bG h⟩;have hw:=wS h (by omega:L.length<=9223372036854775807);have hg:=zye (f:=fun l=>[cel true l]) (z:=[.own 1 []]) h;have hs:=zyv (f:=fun l=>[cel true l]) (z:=[.own 1 []]) hx;have hx':=zct (q:=q) hx;have hz:=z73 l (hll l (bF hx));have hc:cel true l = .own 1 (zab l):=rfl;rw [hc] at hs;simp [-getElem?_pos,v0,v3,v4,hS,z,h,hx',hw,hg,hs,hz,zyl (Nat.le_of_lt h)];exact zai (n-1) (by omega) ⟨i+1,by omega,by simp [v0,v3,z]⟩
 ·simp at h;have e:=zxx (f:=fun l=>[cel true l]) (z:=[.own 1 []]) (by omega:i=L.length);simp [v3,hS,e,rws]
theorem ya5 (p q:Bool) (L:List (List Int)) (hl:L.length<=9223372036854775807) (hll : ∀ l∈L,l.length<=9223372036854775807):RUN T zlc [.sl 1 (rws p L),.sl 1 (rws q L)]=some ([bv true],[]):=by
 refine zae rfl rfl ?_;simp [z1f,zyz];refine zao (fun n st => ∃ i:Nat,i+n=L.length/\st.V 0 = .sl 1 (rws p L)/\st.V 1 = .sl 1 (rws q L)/\st.V 5=iv i) ?_ L.length _ ⟨0,by simp⟩;rintro n st ⟨i,hi,v0,v1,v5⟩;simp [yfc,v0,v1,v5];refine zaw (fun h => ?_) (fun h => ?_)
 ·simp at h;obtain ⟨l,hx⟩ : ∃ l,L[i]?=some l:=⟨_,bG h⟩;have hw:=wS h hl;have hx1:=zct (q:=p) hx;have hx2:=zct (q:=q) hx;have hz:=z74 l (hll l (bF hx));simp [-getElem?_pos,v0,v1,v5,h,hx1,hx2,hw,hz];exact zai (n-1) (by omega) ⟨i+1,by omega,by simp [v0,v1]⟩
 ·simp at h;simp
theorem y8l (q:Bool) (c v:List (List Int)) (hcl:c.length<=1048576) (hvl:v.length<=1048576) (hc : ∀ l∈c,l.length<=1048576) (hv : ∀ l∈v,l.length<=1048576):RUN T zjm [.agg [.sl 1 (rws q c),.sl 1 (rws q v)]]=some ([.agg [.own 1 (rws true c),.own 1 (rws true v)]],[]):=by
 refine zae rfl rfl ?_;simp [zzi,zzj,ya4 q c hcl hc,ya4 q v hvl hv]
theorem y8m (p q:Bool) (c v:List (List Int)) (hcl:c.length<=9223372036854775807) (hvl:v.length<=9223372036854775807) (hc : ∀ l∈c,l.length<=9223372036854775807) (hv : ∀ l∈v,l.length<=9223372036854775807):RUN T zp5 [.agg [.sl 1 (rws p c),.sl 1 (rws p v)],.agg [.sl 1 (rws q c),.sl 1 (rws q v)]]=some ([bv true],[]):=by
 refine zae rfl rfl ?_;simp [zzm,zyz,ya5 p q c hcl hc,ya5 p q v hvl hv]
def zh9 (x:Int):Bool:=zaj x (-2199023255552) 2199023255552
def zge (c v:List (List Int)) (lab:List Int) (g:Cfg):Bool:=zds c v && zb1 g && decide ((lab.length:Int)=zdq v) && lab.all zh9
@[simp] theorem qqd (n:Int):RUN T znm [iv n]=some ([bv (!zh9 n)],[]):=by
 refine zae rfl rfl ?_;simp [z4m,zjz,zcq,-zbi,zh9]
theorem yl9 (q:Bool) (c v:List (List Int)) (lab:List Int) (g:Cfg) (hc : ∀ l∈c,l.length<=9223372036854775807) (hv : ∀ l∈v,l.length<=9223372036854775807) (hlab:lab.length<=9223372036854775807) (hg:g.sg.length<=9223372036854775807):RUN T znb [.agg [.sl 1 (rws q c),.sl 1 (rws q v)],.sl 1 (zab lab),zb6 g]=some ([bv (zge c v lab g)],[]):=by
 refine zae rfl rfl ?_;have e1:=yl7 q c v hc hv;have e2:=yaz g hg;have e3:=ya2 q c v;have e4:=yay (f:=znm) (p:=fun n => !zh9 n) lab hlab (by simp) (fun n _=>by simp);unfold zge;cases d1:zds c v with
 | false=>simp [zn9,zzr,zb6,e1,d1]
 | true =>
  cases d2:zb1 g with
  | false=>simp [zn9,zzr,zb6,e1,d1,e2,d2]
  | true =>
   rcases Classical.propComplete ((lab.length:Int)=zdq v) with d3 | d3
   ·have d4:(!(lab.any fun n => !zh9 n))=lab.all zh9:=by simp [List.any_eq_not_all_not]
    simp [zn9,zzr,zb6,e1,d1,e2,d2,e3,d3,e4,d4]
   ·simp [zn9,zzr,zb6,e1,d1,e2,d2,e3,d3]
theorem yma (q:Bool) (c v:List (List Int)) (lab:List Int) (g:Cfg) (hc : ∀ l∈c,l.length<=9223372036854775807) (hv : ∀ l∈v,l.length<=9223372036854775807) (hlab:lab.length<=9223372036854775807) (hg:g.sg.length<=9223372036854775807):RUN T znf [.agg [.sl 1 (rws q c),.sl 1 (rws q v)],.sl 1 (zab lab),zb6 g]=some ([bv (zge c v lab g)],[]):=by
 refine zae rfl rfl ?_;have e1:=yl8 q c v hc hv;have e2:=ya0 g hg;have e3:=yl6 q c v;unfold zge;cases d1:zds c v with
 | false=>simp [zob,zzr,zb6,e1,d1]
 | true =>
  cases d2:zb1 g with
  | false=>simp [zob,zzr,zb6,e1,d1,e2,d2]
  | true =>
   rcases Classical.propComplete ((lab.length:Int)=zdq v) with d3 | d3
   ·simp [zob,zzr,zb6,e1,d1,e2,d2,e3,d3];refine zao (fun n st => ∃ i:Nat,i+n=lab.length/\(∀ (j:Nat) (x:Int),j<i->lab[j]?=some x->zh9 x=true)/\st.V 1 = .sl 1 (zab lab)/\st.V 7=iv i) ?_ lab.length _ ⟨0,by omega,fun _ _ h=>by omega,by simp⟩;rintro n st ⟨i,hi,hj,v1,v7⟩;simp [yfn,v1,v7];refine zaw (fun h => ?_) (fun h => ?_)
    ·simp at h;obtain ⟨x,hx⟩ : ∃ x,lab[i]?=some x:=⟨_,bG h⟩;have hx':=zay hx;have hw:=wS h hlab;have hlb:zh9 x=zaj x (-2199023255552) 2199023255552:=rfl;cases d4:zh9 x with
     | true =>
      have d5:=hlb.symm.trans d4;simp [-getElem?_pos,v1,v7,hx',hw,h,d5,zbj,-za1];exact zai (n-1) (by omega) ⟨i+1,by omega,zkz (P:=fun _ x=>zh9 x=true) hj hx d4,by simp [v1]⟩
     | false =>
      have d5:=hlb.symm.trans d4;have no:=zx0 hx d4;simp [-getElem?_pos,v1,v7,hx',hw,h,d5,no,zbj,-za1]
    ·simp at h;have:=zx7 (p:=zh9) fun j a h1 h2=>hj j a (by omega) h2;simp [this,d3]
   ·simp [zob,zzr,zb6,e1,d1,e2,d2,e3,d3]
theorem zg1 {n:Int} (h:(Lit.int .i64 n).wf=true) : -9223372036854775808<=n/\n<=9223372036854775807:=bounds_i64 h
theorem zie {α:Type} {f:α->List PV} {p:α->Prop} {tys:List TY} (h : ∀ cs,za6 tys cs->∃ a,f a=cs/\p a) : ∀ {es:List (List PV)},(∀ cs∈es,za6 tys cs)->∃ l:List α,l.map f=es/\∀ a∈l,p a
 | [],_=>⟨[],rfl,by simp⟩
 | e::es,hs=>by
  obtain ⟨a,ha,hp⟩:=h e (hs e (by simp));obtain ⟨l,hl,hq⟩:=zie h (es:=es) (fun cs hc=>hs cs (by simp [hc]));refine ⟨a::l,by simp [ha,hl],fun b hb => ?_⟩;rcases List.mem_cons.mp hb with e | e
  ·subst e; exact hp
  ·exact hq b e
abbrev zyk:List TY:=[.int .i64,.int .i64,.int .i64,.int .i64,.int .i64]
theorem qe4 (cs:List PV) (h:za6 zyk cs) : ∃ n:Nd,nd n=cs/\wfN n:=by
 simp only [za6,Shp] at h;obtain ⟨_,_,rfl,⟨a,rfl,h1⟩,_,_,rfl,⟨b,rfl,h2⟩,_,_,rfl,⟨c,rfl,h3⟩,_,_,rfl,⟨d,rfl,h4⟩,_,_,rfl,⟨e,rfl,h5⟩,rfl⟩:=h;exact ⟨⟨a,b,c,d,e⟩,rfl,zg1 h1,zg1 h2,zg1 h3,zg1 h4,zg1 h5⟩
theorem z94 (cs:List PV) (h:za6 [.int .i64] cs) : ∃ n:Int,[iv n]=cs/\inI n:=by
 simp only [za6,Shp] at h;obtain ⟨_,_,rfl,⟨a,rfl,h1⟩,rfl⟩:=h;exact ⟨a,rfl,zg1 h1⟩
def wfC (c:Cfg):Prop:=c.sg.length<=9223372036854775807/\inI c.ro/\inI c.de/\inI c.bi/\inI c.la/\inI c.rw/\inI c.nu/\inI c.dn/\∀ n∈c.sg,inI n
theorem qd1 {c:PV} (h:zgy true [.int .i64,.int .i64,.int .i64,.int .i64,.int .i64,.int .i64,.int .i64,.sl [.int .i64]] c) : ∃ x:Cfg,c=zb6 x/\wfC x:=by
 obtain ⟨cs,rfl,h⟩:=h;simp only [za6,Shp] at h;obtain ⟨_,_,rfl,⟨a,rfl,h1⟩,_,_,rfl,⟨b,rfl,h2⟩,_,_,rfl,⟨c,rfl,h3⟩,_,_,rfl,⟨d,rfl,h4⟩,_,_,rfl,⟨e,rfl,h5⟩,_,_,rfl,⟨f,rfl,h6⟩,_,_,rfl,⟨g,rfl,h7⟩,_,_,rfl,⟨es,rfl,h8,h9⟩,rfl⟩:=h;have h9' : ∀ cs∈es,za6 [.int .i64] cs:=h9;obtain ⟨l,hl,hp⟩:=zie (f:=fun n:Int=>[iv n]) (tys:=[.int .i64]) z94 h9';subst hl;simp [maxLen] at h8;exact ⟨⟨a,b,c,d,e,f,g,l⟩,rfl,by simpa using h8,zg1 h1,zg1 h2,zg1 h3,zg1 h4,zg1 h5,zg1 h6,zg1 h7,hp⟩
theorem yeh (cs:List PV) (h:za6 [.sl [.int .i64]] cs) : ∃ l:List Int,[cel false l]=cs/\l.length<=9223372036854775807:=by
 simp only [za6,Shp] at h;obtain ⟨_,_,rfl,⟨es,rfl,h1,h2⟩,rfl⟩:=h;have h2' : ∀ cs∈es,za6 [.int .i64] cs:=h2;obtain ⟨l,hl,_⟩:=zie (f:=fun n:Int=>[iv n]) (tys:=[.int .i64]) z94 h2';subst hl;simp [maxLen] at h1;exact ⟨l,rfl,by omega⟩
theorem qg6 {c:PV} (h:zgy true [.sl [.sl [.int .i64]],.sl [.sl [.int .i64]]] c) : ∃ a b:List (List Int),c = .agg [.sl 1 (rws false a),.sl 1 (rws false b)]/\a.length<=9223372036854775807/\b.length<=9223372036854775807/\(∀ l∈a,l.length<=9223372036854775807)/\∀ l∈b,l.length<=9223372036854775807:=by
 obtain ⟨cs,rfl,h⟩:=h;simp only [za6,Shp] at h;obtain ⟨_,_,rfl,⟨es,rfl,h1,h2⟩,_,_,rfl,⟨es',rfl,h3,h4⟩,rfl⟩:=h;have h2' : ∀ cs∈es,za6 [.sl [.int .i64]] cs:=h2;have h4' : ∀ cs∈es',za6 [.sl [.int .i64]] cs:=h4;obtain ⟨a,ha,hpa⟩:=zie (f:=fun l=>[cel false l]) yeh h2';obtain ⟨b,hb,hpb⟩:=zie (f:=fun l=>[cel false l]) yeh h4';subst ha;subst hb;simp [maxLen] at h1 h3;exact ⟨a,b,rfl,by omega,by omega,hpa,hpb⟩
theorem qiz {P:Program} {l:List TypeId} (h:(l.all fun t=>P.readableRec t && decide (t<P.types.size))=true) : ∀ t∈l,P.readableRec t=true/\t<P.types.size:=by
 intro t ht;have:=List.all_eq_true.mp h t ht;simpa using this
def yoy (B:List Int):List (List PV):=B.map fun n=>[.v (.int .u8 n)]
@[simp] theorem q2j (B:List Int):(yoy B).length=B.length:=by simp [yoy]
def zu5 (rv:List RV) (io:Nat) (G:List PV×List PV->Prop) (_:Dm rv) (_:Dm G) (e:Ex) (s:St):Prop:=(e = .normal\/e = .ret)/\∃ r,zfr ⟨[],rv,.skip⟩ io s=some r/\G r
@[simp] theorem qse {rv:List RV} {io:Nat} {G:List PV×List PV->Prop} {s:St}:zu5 rv io G ⟨⟩ ⟨⟩ .normal s = ∃ r,zfr ⟨[],rv,.skip⟩ io s=some r/\G r:=by simp [zu5]
@[simp] theorem qyc {rv:List RV} {io:Nat} {G:List PV×List PV->Prop} {s:St}:zu5 rv io G ⟨⟩ ⟨⟩ .ret s = ∃ r,zfr ⟨[],rv,.skip⟩ io s=some r/\G r:=by simp [zu5]
theorem qc5 {T:zcd} {f:Nat} {ms:List Bool} {rv:List RV} {ic:IC} {G:List PV×List PV->Prop} (hT:T f=some (.code ⟨ms,rv,ic⟩)) {args:List PV} {st:St} (hi:zky args=some st) (h:W (zac T) (RUN T) ic st (zu5 rv st.nx G ⟨⟩ ⟨⟩)) : ∃ r,RUN T f args=some r/\G r:=by
 unfold W at h;obtain ⟨e,s,h1,h2,r,h3,hG⟩:=h;refine ⟨r,yow hT ?_,hG⟩;unfold zxy;rw [hi];simp only [Option.bind_some,h1];rcases h2 with rfl | rfl <;> exact h3
attribute [irreducible] zu5
def adi (a b:Int):Int×Bool:=if -9223372036854775808<=a+b/\a+b<=9223372036854775807 then (a+b,true) else (0,false)
theorem yr5 {a b:Int} (ha:inI a) (hb:inI b):IntKind.i64.wrap (a+b)=if 9223372036854775807<a+b then a+b-18446744073709551616 else if a+b < -9223372036854775808 then a+b+18446744073709551616 else a+b:=by
 unfold inI at ha hb;unfold IntKind.wrap;simp [IntKind.bits,IntKind.signed];omega
theorem ya6 (a b:Int) (ha:inI a) (hb:inI b):RUN T zk8 [iv a,iv b]=some ([iv (adi a b).1,bv (adi a b).2],[]):=by
 refine zae rfl rfl ?_;have hw:=yr5 ha hb;unfold inI at ha hb;unfold adi
 by_cases c1:9223372036854775807<a+b
 ·rw [if_pos c1] at hw;rw [if_neg (by omega)];have d1:=eq_false (by omega : ¬ a<0);have d2:=eq_false (by omega : ¬ b<0);have d3:=eq_true (by omega:a+b-18446744073709551616<0);simp [-getElem?_pos,zj6,zj7,hw,d1,d2,d3]
 ·rw [if_neg c1] at hw
  by_cases c2:a+b < -9223372036854775808
  ·rw [if_pos c2] at hw;rw [if_neg (by omega)];have d1:=eq_true (by omega:a<0);have d2:=eq_true (by omega:b<0);have d3:=eq_false (by omega : ¬ a+b+18446744073709551616<0);simp [-getElem?_pos,zj6,zj7,hw,d1,d2,d3]
  ·rw [if_neg c2] at hw;rw [if_pos (by omega)];rcases Classical.propComplete (a<0) with d1 | d1
   all_goals rcases Classical.propComplete (b<0) with d2 | d2
   all_goals simp at d1 d2
   ·have d3:=eq_true (by omega:a+b<0);simp [-getElem?_pos,zj6,zj7,hw,eq_true d1,eq_true d2,d3]
   ·have d2':=eq_false (by omega : ¬ b<0);simp [-getElem?_pos,zj6,zj7,hw,eq_true d1,d2']
   ·have d1':=eq_false (by omega : ¬ a<0);simp [-getElem?_pos,zj6,zj7,hw,eq_true d2,d1']
   ·have d1':=eq_false (by omega : ¬ a<0);have d2':=eq_false (by omega : ¬ b<0);have d3:=eq_false (by omega : ¬ a+b<0);simp [-getElem?_pos,zj6,zj7,hw,d1',d2',d3]
theorem ya7 (a b:Int) (ha:inI a) (hb:inI b):RUN T zk9 [iv a,iv b]=some ([iv (adi a b).1,bv (adi a b).2],[]):=by
 refine zae rfl rfl ?_;have hw:=yr5 ha hb;unfold inI at ha hb;unfold adi;rcases Int.lt_trichotomy b 0 with c | c | c
 ·have d1:=eq_false (by omega : ¬ 0<b);have d2:=eq_true c;have w:=w64 (x := -9223372036854775808-b) (by omega) (by omega)
  by_cases e:a < -9223372036854775808-b
  ·rw [if_neg (by omega)];simp [-getElem?_pos,zl7,zj7,d1,d2,w,e]
  ·rw [if_neg (by omega),if_neg (by omega)] at hw;rw [if_pos (by omega)];simp [-getElem?_pos,zl7,zj7,d1,d2,w,e,hw]
 ·subst c;rw [if_neg (by omega),if_neg (by omega)] at hw;rw [if_pos (by omega)];simp at hw;simp [zl7,zj7,hw]
 ·have d1:=eq_true c;have d2:=eq_false (by omega : ¬ b<0);have w:=w64 (x:=9223372036854775807-b) (by omega) (by omega)
  by_cases e:9223372036854775807-b<a
  ·rw [if_neg (by omega)];simp [-getElem?_pos,zl7,zj7,d1,d2,w,e]
  ·rw [if_neg (by omega),if_neg (by omega)] at hw;rw [if_pos (by omega)];simp [-getElem?_pos,zl7,zj7,d1,d2,w,e,hw]
theorem yrz {a b:Int} (ha:inI a):inI (adi a b).1:=by
 unfold adi;split
 ·rename_i h; exact h
 ·unfold inI; omega
def sbi (a b:Int):Int×Bool:=if -9223372036854775808<=a-b/\a-b<=9223372036854775807 then (a-b,true) else (0,false)
theorem yn1 {a b:Int} (ha:inI a) (hb:inI b):IntKind.i64.wrap (a-b)=if 9223372036854775807<a-b then a-b-18446744073709551616 else if a-b < -9223372036854775808 then a-b+18446744073709551616 else a-b:=by
 unfold inI at ha hb;unfold IntKind.wrap;simp [IntKind.bits,IntKind.signed];omega
theorem ya8 (a b:Int) (ha:inI a) (hb:inI b):RUN T zlf [iv a,iv b]=some ([iv (sbi a b).1,bv (sbi a b).2],[]):=by
 refine zae rfl rfl ?_;have hw:=yn1 ha hb;unfold inI at ha hb;unfold sbi
 by_cases c1:9223372036854775807<a-b
 ·rw [if_pos c1] at hw;rw [if_neg (by omega)];have d1:=eq_false (by omega : ¬ a<0);have d2:=eq_true (by omega:b<0);have d3:=eq_true (by omega:a-b-18446744073709551616<0);simp [-getElem?_pos,zka,zj7,hw,d1,d2,d3]
 ·rw [if_neg c1] at hw
  by_cases c2:a-b < -9223372036854775808
  ·rw [if_pos c2] at hw;rw [if_neg (by omega)];have d1:=eq_true (by omega:a<0);have d2:=eq_false (by omega : ¬ b<0);have d3:=eq_false (by omega : ¬ a-b+18446744073709551616<0);simp [-getElem?_pos,zka,zj7,hw,d1,d2,d3]
  ·rw [if_neg c2] at hw;rw [if_pos (by omega)];rcases Classical.propComplete (a<0) with d1 | d1
   all_goals rcases Classical.propComplete (b<0) with d2 | d2
   all_goals simp at d1 d2
   ·simp [-getElem?_pos,zka,zj7,hw,eq_true d1,eq_true d2]
   ·have d2':=eq_false (by omega : ¬ b<0);have d3:=eq_true (by omega:a-b<0);simp [-getElem?_pos,zka,zj7,hw,eq_true d1,d2',d3]
   ·have d1':=eq_false (by omega : ¬ a<0);have d3:=eq_false (by omega : ¬ a-b<0);simp [-getElem?_pos,zka,zj7,hw,eq_true d2,d1',d3]
   ·have d1':=eq_false (by omega : ¬ a<0);have d2':=eq_false (by omega : ¬ b<0);simp [-getElem?_pos,zka,zj7,hw,d1',d2']
theorem ya9 (a b:Int) (ha:inI a) (hb:inI b):RUN T zlh [iv a,iv b]=some ([iv (sbi a b).1,bv (sbi a b).2],[]):=by
 refine zae rfl rfl ?_;have hw:=yn1 ha hb;unfold inI at ha hb;unfold sbi;rcases Int.lt_trichotomy b 0 with c | c | c
 ·have d1:=eq_false (by omega : ¬ 0<b);have d2:=eq_true c;have w:=w64 (x:=9223372036854775807+b) (by omega) (by omega)
  by_cases e:9223372036854775807+b<a
  ·rw [if_neg (by omega)];simp [-getElem?_pos,zl9,zj7,d1,d2,w,e]
  ·rw [if_neg (by omega),if_neg (by omega)] at hw;rw [if_pos (by omega)];simp [-getElem?_pos,zl9,zj7,d1,d2,w,e,hw]
 ·subst c;rw [if_neg (by omega),if_neg (by omega)] at hw;rw [if_pos (by omega)];simp at hw;simp [zl9,zj7,hw]
 ·have d1:=eq_true c;have d2:=eq_false (by omega : ¬ b<0);have w:=w64 (x := -9223372036854775808+b) (by omega) (by omega)
  by_cases e:a < -9223372036854775808+b
  ·rw [if_neg (by omega)];simp [-getElem?_pos,zl9,zj7,d1,d2,w,e]
  ·rw [if_neg (by omega),if_neg (by omega)] at hw;rw [if_pos (by omega)];simp [-getElem?_pos,zl9,zj7,d1,d2,w,e,hw]
def res:List Int->List Int->Option (List Int)
 | x::xs,y::ys=>if (sbi x y).2 then (res xs ys).map ((sbi x y).1 :: ·) else none
 | _,_=>some []
theorem yrc {l m:List Int} {i:Nat} {x y:Int} (hx:l[i]?=some x) (hy:m[i]?=some y):res (l.drop i) (m.drop i)=if (sbi x y).2 then (res (l.drop (i+1)) (m.drop (i+1))).map ((sbi x y).1 :: ·) else none:=by
 rw [zc3 hx,zc3 hy,res]
theorem ytm (m:List Int):res [] m=some []:=by cases m <;> rfl
def zfv (l m:List Int):List Int×Bool:=if l.length=m.length then match res l m with
  | some r=>(r,true)
  | none=>([],false)
 else ([],false)
theorem ycb : ∀ {l m r:List Int},l.length=m.length->res l m=some r->r.length=l.length/\∀ (i:Nat) (x y z:Int),l[i]?=some x->m[i]?=some y->r[i]?=some z->z=x-y /\ -9223372036854775808<=x-y/\x-y<=9223372036854775807
 | [],[],r,_,h=>by simp [res] at h; subst h; simp
 | x::xs,y::ys,r,hl,h=>by
  rw [res] at h;split at h
  ·rename_i c;simp only [bB] at h;obtain ⟨r',hr,rfl⟩:=h;obtain ⟨h1,h2⟩:=ycb (by simpa using hl) hr;refine ⟨by simp [h1],fun i a b z ha hb hz => ?_⟩;cases i with
   | zero =>
    simp at ha hb hz;subst ha hb hz;unfold sbi at c ⊢;split at c
    ·rename_i hh; rw [if_pos hh]; exact ⟨rfl,hh⟩
    ·cases c
   | succ i=>exact h2 i a b z (by simpa using ha) (by simpa using hb) (by simpa using hz)
  ·cases h
 | [],_::_,_,hl,_=>by simp at hl
 | _::_,[],_,hl,_=>by simp at hl
theorem y8n (l m:List Int) (hl:l.length<=1048576) (hm:m.length<=1048576) (hli : ∀ n∈l,inI n) (hmi : ∀ n∈m,inI n):RUN T zqn [.sl 1 (zab l),.sl 1 (zab m)]=some ([.own 1 (zab (zfv l m).1),bv (zfv l m).2],[]):=by
 refine zae rfl rfl ?_;unfold zfv;rcases Classical.propComplete ((l.length:Int)=m.length) with e | e
 case inr =>
  rw [if_neg (by simp at e; omega)];simp [-getElem?_pos,zvo,zvp,e]
 have e':l.length=m.length:=by simp at e; omega
 rw [if_pos e'];simp [-getElem?_pos,zvo,zvp,e];refine zao (fun n st => ∃ (i o e:Nat) (a:List Int),i+n=l.length/\a.length=i/\(res (l.drop i) (m.drop i)).map (a ++ ·)=res l m/\st.V 0 = .sl 1 (zab l)/\st.V 1 = .sl 1 (zab m)/\st.V 6 = .ref o none e 0 a.length/\st.V 17=iv l.length/\st.V 18=iv i/\o<st.nx/\st.ep=0/\st.S o=some (.row 1 (zab a))) ?_ l.length _ ⟨0,0,0,[],by omega,rfl,by simp⟩;rintro n st ⟨i,o,ep,a,hi,ha,hr,v0,v1,v6,v17,v18,hox,hep,hSo⟩;simp [ye2,v17,v18];refine zaw (fun h => ?_) (fun h => ?_)
 ·simp at h;obtain ⟨x,hx⟩ : ∃ x,l[i]?=some x:=⟨_,bG h⟩;obtain ⟨y,hy⟩ : ∃ y,m[i]?=some y:=⟨_,bG (by omega)⟩;have hx':=zay hx;have hy':=zay hy;have him:i<m.length:=by omega
  have hw:=wS h (by omega:l.length<=9223372036854775807);have hsub:=ya8 x y (hli x (bF hx)) (hmi y (bF hy));rw [yrc hx hy] at hr;have z1:=fr hox;have hr8:=zdc (n:=a.length+1) (by omega);cases c:(sbi x y).2 with
  | true =>
   rw [if_pos c] at hr;rw [c] at hsub;simp [-getElem?_pos,v0,v1,v6,v17,v18,hep,hSo,z1,hx',hy',h,him,hsub,hr8,zc6,hw];refine zai (n-1) (by omega) ⟨i+1,st.nx+1,0,a++[(sbi x y).1],by omega,by simp [ha],?_,by simp [v0,v1,v17,hep]⟩;rw [<- hr];cases res (l.drop (i+1)) (m.drop (i+1)) <;> simp
  | false =>
   rw [if_neg (by simp [c])] at hr;rw [c] at hsub;simp at hr;simp [-getElem?_pos,v0,v1,v6,v17,v18,hep,hSo,z1,hx',hy',h,him,hsub,<- hr]
 ·simp at h;rw [List.drop_eq_nil_of_le h,ytm] at hr;simp at hr;rw [<- hr];simp [-getElem?_pos,v6,hSo]
theorem y8o (l m:List Int) (hl:l.length<=1048576) (hm:m.length<=1048576) (hli : ∀ n∈l,inI n) (hmi : ∀ n∈m,inI n):RUN T zqr [.sl 1 (zab l),.sl 1 (zab m)]=some ([.own 1 (zab (zfv l m).1),bv (zfv l m).2],[]):=by
 refine zae rfl rfl ?_;unfold zfv;rcases Classical.propComplete ((l.length:Int)=m.length) with e | e
 case inr =>
  rw [if_neg (by simp at e; omega)];simp [-getElem?_pos,zvs,zvp,e]
 have e':l.length=m.length:=by simp at e; omega
 rw [if_pos e'];simp [-getElem?_pos,zvs,zvp,e];refine zao (fun n st => ∃ (i o e:Nat) (a:List Int),i+n=l.length/\a.length=i/\(res (l.drop i) (m.drop i)).map (a ++ ·)=res l m/\st.V 0 = .sl 1 (zab l)/\st.V 1 = .sl 1 (zab m)/\st.V 6 = .ref o none e 0 a.length/\st.V 7=iv i/\o<st.nx/\st.ep=0/\st.S o=some (.row 1 (zab a))) ?_ l.length _ ⟨0,0,0,[],by omega,rfl,by simp⟩;rintro n st ⟨i,o,ep,a,hi,ha,hr,v0,v1,v6,v7,hox,hep,hSo⟩;simp [ye3,v0,v7];refine zaw (fun h => ?_) (fun h => ?_)
 ·simp at h;obtain ⟨x,hx⟩ : ∃ x,l[i]?=some x:=⟨_,bG h⟩;obtain ⟨y,hy⟩ : ∃ y,m[i]?=some y:=⟨_,bG (by omega)⟩;have hx':=zay hx;have hy':=zay hy;have him:i<m.length:=by omega
  have hw:=wS h (by omega:l.length<=9223372036854775807);have hsub:=ya9 x y (hli x (bF hx)) (hmi y (bF hy));rw [yrc hx hy] at hr;have z1:=fr hox;have hr8:=zdc (n:=a.length+1) (by omega);cases c:(sbi x y).2 with
  | true =>
   rw [if_pos c] at hr;rw [c] at hsub;simp [-getElem?_pos,v0,v1,v6,v7,hep,hSo,z1,hx',hy',h,him,hsub,hr8,zc6,hw];refine zai (n-1) (by omega) ⟨i+1,st.nx+1,0,a++[(sbi x y).1],by omega,by simp [ha],?_,by simp [v0,v1,hep]⟩;rw [<- hr];cases res (l.drop (i+1)) (m.drop (i+1)) <;> simp
  | false =>
   rw [if_neg (by simp [c])] at hr;rw [c] at hsub;simp at hr;simp [-getElem?_pos,v0,v1,v6,v7,hep,hSo,z1,hx',hy',h,him,hsub,<- hr]
 ·simp at h;rw [List.drop_eq_nil_of_le h,ytm] at hr;simp at hr;rw [<- hr];simp [-getElem?_pos,v6,hSo]
def LC (S:Nat->Option Ob) (nx:Nat) (lo:Nat) (m:List Int) (x:PV):Prop:=(x = .e0/\m=[])\/∃ o e,x = .ref o none e 0 m.length/\lo<o/\o<nx/\S o=some (.row 1 (zab m))
def sv (s:ByteArray):PV := .v (.string s)
def za4 (l:List ByteArray):List (List PV):=l.map fun s=>[.v (.string s)]
@[simp] theorem qz5 (l:List ByteArray):(za4 l).length=l.length:=by simp [za4]
theorem zmq {l:List ByteArray} {i:Nat} {x:ByteArray} (h:l[i]?=some x):(za4 l)[i]?=some [.v (.string x)]:=by simp [za4,h]
def szs (l:List ByteArray):Nat:=(l.map ByteArray.size).sum
theorem yp5 (x:ByteArray) (l:List ByteArray):szs (x::l)=x.size+szs l:=by simp [szs]
def zeb (l:List ByteArray):Nat:=l.length+szs l
theorem y8p (l:List ByteArray) (left:Int) (h0:0<=left) (h1:left<=1048576) (hl:l.length<=9223372036854775807) (hll : ∀ x∈l,x.size<=9223372036854775807):RUN T zqv [.sl 1 (za4 l),iv left]=some ([iv (if left-zeb l<0 then -1 else left-zeb l)],[]):=by
 refine zae rfl rfl ?_;have e:=w64 (x:=left-l.length) (by omega) (by omega);have ht:zeb l=l.length+szs l:=rfl;simp [z0x,zyz,e];refine zaw (fun h => ?_) (fun h => ?_)
 ·simp at h;rw [if_pos (by omega)];simp
 ·simp at h;simp;refine zao (fun n st => ∃ i:Nat,i+n=l.length/\∃ r:Int,0<=r/\r<=1048576/\r-szs (l.drop i)=left-zeb l/\st.V 0 = .sl 1 (za4 l)/\st.V 1=iv r/\st.V 5=iv i) ?_ l.length _ ⟨0,by omega,left-l.length,by omega,by omega,by simp; omega,by simp⟩;rintro n st ⟨i,hi,r,hr0,hr1,hr,v0,v1,v5⟩;simp [ye4,v0,v5];refine zaw (fun h => ?_) (fun h => ?_)
  ·simp at h;obtain ⟨x,hx⟩ : ∃ x,l[i]?=some x:=⟨_,bG h⟩;have hx':=zmq hx;have hw:=wS h hl;have hxs:=hll x (bF hx);rw [zc3 hx,yp5] at hr;have e2:=w64 (x:=r-x.size) (by omega) (by omega);rcases Classical.propComplete (r-x.size<0) with d | d
   ·rw [if_pos (by simp at d; omega)];simp [-getElem?_pos,v0,v1,v5,hx',h,e2,d]
   ·simp [-getElem?_pos,v0,v1,v5,hx',h,hw,e2,d];simp at d;exact zai (n-1) (by omega) ⟨i+1,by omega,r-x.size,by omega,by omega,by omega,by simp [v0]⟩
  ·simp at h;rw [List.drop_eq_nil_of_le (by omega)] at hr;have:szs []=0:=rfl;rw [if_neg (by omega)];simp [v1];omega
theorem y8q (l:List ByteArray) (hl:l.length<=1048576):RUN T zqw [.sl 1 (za4 l)]=some ([.own 1 (za4 l)],[]):=by
 refine zae rfl rfl ?_;have hr:zah 16 l.length=true:=by simp [zah]; omega
 simp [z03,zzx,hr];refine zao (fun n st => ∃ i:Nat,i+n=l.length/\st.V 0 = .sl 1 (za4 l)/\st.V 3 = .ref 0 none 0 0 l.length/\st.V 4=iv i/\st.ep=0/\st.S 0=some (.row 1 (fil (fun s=>[.v (.string s)]) [.v (.string (bs []))] l i))) ?_ l.length _ ⟨0,by simp [zyn]⟩;rintro n st ⟨i,hi,h0,h3,h4,hep,hS⟩;simp [ye6,h0,h3,h4,hS];refine zaw (fun h => ?_) (fun h => ?_)
 ·simp at h;obtain ⟨x,hx⟩ : ∃ x,l[i]?=some x:=⟨_,bG h⟩;have hw:=wS h (by omega:l.length<=9223372036854775807);have hg:=zye (f:=fun s=>[PV.v (.string s)]) (z:=[.v (.string (bs []))]) h;have hs:=zyv (f:=fun s=>[PV.v (.string s)]) (z:=[.v (.string (bs []))]) hx;have hx':=zmq hx;simp [-getElem?_pos,h0,h3,h4,hS,hep,h,hx',hw,hg,hs,zyl (Nat.le_of_lt h)];exact zai (n-1) (by omega) ⟨i+1,by omega,by simp [h0,h3]⟩
 ·simp at h;have e:=zxx (f:=fun s=>[PV.v (.string s)]) (z:=[.v (.string (bs []))]) (by omega:i=l.length);simp [h3,hS,e,za4]
theorem y8r (l:List ByteArray) (hl:l.length<=9223372036854775807):RUN T zqy [.sl 1 (za4 l),.sl 1 (za4 l)]=some ([bv true],[]):=by
 refine zae rfl rfl ?_;simp [z1d,zyz];refine zao (fun n st => ∃ i:Nat,i+n=l.length/\st.V 0 = .sl 1 (za4 l)/\st.V 1 = .sl 1 (za4 l)/\st.V 5=iv i) ?_ l.length _ ⟨0,by simp⟩;rintro n st ⟨i,hi,h0,h1,h5⟩;simp [yfb,h0,h1,h5];refine zaw (fun h => ?_) (fun h => ?_)
 ·simp at h;obtain ⟨x,hx⟩ : ∃ x,l[i]?=some x:=⟨_,bG h⟩;have hw:=wS h hl;have hx':=zmq hx;simp [-getElem?_pos,h0,h1,h5,hx',hw,h];exact zai (n-1) (by omega) ⟨i+1,by omega,by simp [h0,h1]⟩
 ·simp at h;simp
def zfa (q:Bool) (t:List Nd):PV:=if q then .own 5 (t.map nd) else .sl 5 (t.map nd)
@[simp] theorem q4n (q:Bool) (t:List Nd):fz (zfa q t) = .sl 5 (t.map nd):=by cases q <;> simp [zfa]
def trs (q:Bool) (M:List (List Nd)):List (List PV):=M.map fun t=>[zfa q t]
@[simp] theorem q5r (q:Bool) (M:List (List Nd)):(trs q M).length=M.length:=by simp [trs]
theorem zmm {q:Bool} {M:List (List Nd)} {i:Nat} {t:List Nd} (h:M[i]?=some t):(trs q M)[i]?=some [zfa q t]:=by simp [trs,h]
def zba (M:List (List Nd)):Nat:=(M.map List.length).sum
def zf1 (M:List (List Nd)):Nat:=M.length+zba M
theorem yaa (l:List Nd) (M:List (List Nd)):zba (l::M)=l.length+zba M:=by simp [zba]
theorem yte {M:List (List Nd)} : ∀ {l:List Nd},l∈M->l.length<=zba M:=by
 induction M with
 | nil=>simp
 | cons a M ih =>
  intro l h;rw [yaa];rcases List.mem_cons.mp h with e | e
  ·subst e; omega
  ·have:=ih e; omega
theorem y8s (q:Bool) (M:List (List Nd)) (left:Int) (h0:0<=left) (h1:left<=1048576) (hl:M.length<=9223372036854775807) (hll : ∀ l∈M,l.length<=9223372036854775807):RUN T zq3 [.sl 1 (trs q M),iv left]=some ([iv (if left-zf1 M<0 then -1 else left-zf1 M)],[]):=by
 refine zae rfl rfl ?_;have e:=w64 (x:=left-M.length) (by omega) (by omega);have ht:zf1 M=M.length+zba M:=rfl;simp [z1t,zyz,e];refine zaw (fun h => ?_) (fun h => ?_)
 ·simp at h;rw [if_pos (by omega)];simp
 ·simp at h;simp;refine zao (fun n st => ∃ i:Nat,i+n=M.length/\∃ r:Int,0<=r/\r<=1048576/\r-zba (M.drop i)=left-zf1 M/\st.V 0 = .sl 1 (trs q M)/\st.V 1=iv r/\st.V 5=iv i) ?_ M.length _ ⟨0,by omega,left-M.length,by omega,by omega,by simp; omega,by simp⟩;rintro n st ⟨i,hi,r,hr0,hr1,hr,v0,v1,v5⟩;simp [yfh,v0,v5];refine zaw (fun h => ?_) (fun h => ?_)
  ·simp at h;obtain ⟨l,hx⟩ : ∃ l,M[i]?=some l:=⟨_,bG h⟩;have hx':=zmm (q:=q) hx;have hw:=wS h hl;have hz:=y7u (l.map nd) r hr0 hr1 (by simpa using hll l (bF hx));rw [List.length_map] at hz;rw [zc3 hx,yaa] at hr
   by_cases d:r-l.length<0
   ·rw [if_pos d] at hz;rw [if_pos (by omega)];simp [-getElem?_pos,v0,v1,v5,hx',hz,h]
   ·rw [if_neg d] at hz;have d' : ¬ (r-l.length<0):=d;simp [-getElem?_pos,v0,v1,v5,hx',hz,h,hw,d'];exact zai (n-1) (by omega) ⟨i+1,by omega,r-l.length,by omega,by omega,by omega,by simp [v0]⟩
  ·simp at h;rw [List.drop_eq_nil_of_le (by omega)] at hr;have:zba []=0:=rfl;rw [if_neg (by omega)];simp [v1];omega
theorem y8t (q:Bool) (M:List (List Nd)) (hl:M.length<=1048576) (hll : ∀ l∈M,l.length<=1048576):RUN T zq4 [.sl 1 (trs q M)]=some ([.own 1 (trs true M)],[]):=by
 refine zae rfl rfl ?_;have hr:zah 24 M.length=true:=by simp [zah]; omega
 simp [z1v,zzx,hr];refine zao (fun n st => ∃ i:Nat,i+n=M.length/\st.V 0 = .sl 1 (trs q M)/\st.V 3 = .ref 0 none 0 0 M.length/\st.V 4=iv i/\0<st.nx/\st.S 0=some (.row 1 (fil (fun l=>[zfa true l]) [.own 5 []] M i))) ?_ M.length _ ⟨0,by simp [zyn]⟩;rintro n st ⟨i,hi,v0,v3,v4,hnx,hS⟩;simp [yfi,v0,v3,v4,hS];have z:=fr hnx;refine zaw (fun h => ?_) (fun h => ?_)
 ·simp at h;obtain ⟨l,hx⟩ : ∃ l,M[i]?=some l:=⟨_,bG h⟩;have hw:=wS h (by omega:M.length<=9223372036854775807);have hg:=zye (f:=fun l=>[zfa true l]) (z:=[.own 5 []]) h;have hs:=zyv (f:=fun l=>[zfa true l]) (z:=[.own 5 []]) hx;have hx':=zmm (q:=q) hx;have hz:=y7w l (hll l (bF hx));have hc:zfa true l = .own 5 (l.map nd):=rfl;rw [hc] at hs;simp [-getElem?_pos,v0,v3,v4,hS,z,h,hx',hw,hg,hs,hz,zyl (Nat.le_of_lt h)];exact zai (n-1) (by omega) ⟨i+1,by omega,by simp [v0,v3,z]⟩
 ·simp at h;have e:=zxx (f:=fun l=>[zfa true l]) (z:=[.own 5 []]) (by omega:i=M.length);simp [v3,hS,e,trs]
theorem y8u (p q:Bool) (M:List (List Nd)) (hl:M.length<=9223372036854775807) (hll : ∀ l∈M,l.length<=9223372036854775807):RUN T zqx [.sl 1 (trs p M),.sl 1 (trs q M)]=some ([bv true],[]):=by
 refine zae rfl rfl ?_;simp [z1b,zyz];refine zao (fun n st => ∃ i:Nat,i+n=M.length/\st.V 0 = .sl 1 (trs p M)/\st.V 1 = .sl 1 (trs q M)/\st.V 5=iv i) ?_ M.length _ ⟨0,by simp⟩;rintro n st ⟨i,hi,v0,v1,v5⟩;simp [yfa,v0,v1,v5];refine zaw (fun h => ?_) (fun h => ?_)
 ·simp at h;obtain ⟨l,hx⟩ : ∃ l,M[i]?=some l:=⟨_,bG h⟩;have hw:=wS h hl;have hx1:=zmm (q:=p) hx;have hx2:=zmm (q:=q) hx;have hz:=y7y l (hll l (bF hx));simp [-getElem?_pos,v0,v1,v5,h,hx1,hx2,hw,hz];exact zai (n-1) (by omega) ⟨i+1,by omega,by simp [v0,v1]⟩
 ·simp at h;simp
structure Mo where
 ns:List ByteArray
 ix:List Int
 b:Int
 ts:List (List Nd)
structure MoL (n:Nat) (m:Mo):Prop where
 ns:m.ns.length<=n
 ss : ∀ x∈m.ns,x.size<=n
 ix:m.ix.length<=n
 ts:m.ts.length<=n
 tl : ∀ l∈m.ts,l.length<=n
theorem MoL.mono {n k:Nat} {m:Mo} (h:MoL n m) (hk:n<=k):MoL k m:=⟨Nat.le_trans h.ns hk,fun x hx=>Nat.le_trans (h.ss x hx) hk,Nat.le_trans h.ix hk,Nat.le_trans h.ts hk,fun x hx=>Nat.le_trans (h.tl x hx) hk⟩
def ypt (m:Mo):Nat:=zeb m.ns+m.ix.length+zf1 m.ts
theorem yn2 {l:List ByteArray} : ∀ {x:ByteArray},x∈l->x.size<=szs l:=by
 induction l with
 | nil=>simp
 | cons a l ih =>
  intro x h;rw [yp5];rcases List.mem_cons.mp h with e | e
  ·subst e; omega
  ·have:=ih e; omega
theorem MoL.of {m:Mo} {n:Nat} (h:ypt m<=n):MoL n m:=by
 unfold ypt zeb zf1 at h;exact ⟨by omega,fun x hx=>by have:=yn2 hx; omega,by omega,by omega,fun x hx=>by have:=yte hx; omega⟩
theorem yab {α:Type} {l m:List α} {i:Nat} (hl:l.length=m.length) (hi:l.length<=i) (h : ∀ j,j<i->l[j]?=m[j]?):l=m:=by
 apply List.ext_getElem?;intro j
 by_cases c:j<i
 ·exact h j c
 ·rw [List.getElem?_eq_none (by omega),List.getElem?_eq_none (by omega)]
theorem z8z {α:Type} {l m:List α} {i:Nat} {x y:α} (hx:l[i]?=some x) (hy:m[i]?=some y) (h : ¬ x=y):(l=m)=False:=by
 apply eq_false;rintro rfl;rw [hx] at hy;cases hy;exact h rfl
theorem z85 {α:Type} {l m:List α} (h:((l.length:Int)=m.length)=False):(l=m)=False:=by
 apply eq_false;rintro rfl;simp at h
theorem qcr (s:ByteArray) : ∀ (n i:Nat) (r:List UInt8),s.size-i<=n->ByteArray.toList.loop s i r=r.reverse++s.data.toList.drop i:=by
 have hs:s.data.toList.length=s.size:=by cases s; rfl
 intro n
 induction n with
 | zero =>
  intro i r h;rw [ByteArray.toList.loop,if_neg (by omega),List.drop_eq_nil_of_le (by omega)];simp
 | succ n ih =>
  intro i r h;rw [ByteArray.toList.loop];split
  ·rename_i hi;rw [ih _ _ (by omega)];have hi':i<s.data.toList.length:=by omega
   rw [List.drop_eq_getElem_cons hi'];have:s.get! i=s.data.toList[i]:=by
    cases s with
    | mk d =>
     show d[i]! = _;rw [getElem!_pos d i (by simpa using hi')];simp
   simp [this]
  ·rename_i hi;rw [List.drop_eq_nil_of_le (by omega)];simp
theorem yrq (s:ByteArray):s.toList=s.data.toList:=by
 unfold ByteArray.toList;rw [qcr s s.size 0 [] (by omega)];simp
theorem qcv {x y:ByteArray} (h:x.toList=y.toList):x=y:=by
 rw [yrq,yrq] at h;cases x; cases y;simp at h;simp [h]
theorem ytb {x y:ByteArray} (h : ¬ x=y):(x.toList == y.toList)=false:=by
 simp only [beq_eq_false_iff_ne,ne_eq];exact fun e=>h (qcv e)
open Classical in
theorem y8v (l m:List Int) (hl:l.length<=9223372036854775807):RUN T zqe [.sl 1 (zab l),.sl 1 (zab m)]=some ([bv (decide (l=m))],[]):=by
 refine zae rfl rfl ?_;rcases Classical.propComplete ((l.length:Int)=m.length) with hlm | hlm
 case inr =>
  simp [-getElem?_pos,zvi,zyz,hlm,z85 hlm]
 simp [-getElem?_pos,zvi,zyz,hlm];have hlen:l.length=m.length:=by simp at hlm; omega
 refine zao (fun n st => ∃ i:Nat,i+n=l.length/\(∀ j,j<i->l[j]?=m[j]?)/\st.V 0 = .sl 1 (zab l)/\st.V 1 = .sl 1 (zab m)/\st.V 5=iv i) ?_ l.length _ ⟨0,by simp⟩;rintro n st ⟨i,hi,hj,v0,v1,v5⟩;simp [yez,v0,v1,v5];refine zaw (fun h => ?_) (fun h => ?_)
 ·simp at h;obtain ⟨x,hx⟩ : ∃ x,l[i]?=some x:=⟨_,bG h⟩;obtain ⟨y,hy⟩ : ∃ y,m[i]?=some y:=⟨_,bG (by omega)⟩;have hx':=zay hx;have hy':=zay hy;have hw:=wS h hl;have him:i<m.length:=by omega
  by_cases e:x=y
  ·simp [-getElem?_pos,v0,v1,v5,hx',hy',h,him,hw,eq_true e];exact zai (n-1) (by omega) ⟨i+1,by omega,zia hj (by rw [hx,hy,e]),by simp [v0,v1]⟩
  ·simp [-getElem?_pos,v0,v1,v5,hx',hy',h,him,hw,eq_false e,z8z hx hy e]
 ·simp at h;simp [yab hlen h hj]
open Classical in
theorem y8w (l m:List Int) (hl:l.length<=9223372036854775807):RUN T zqf [.sl 1 (zab l),.sl 1 (zab m)]=some ([bv (decide (l=m))],[]):=by
 refine zae rfl rfl ?_;rcases Classical.propComplete ((l.length:Int)=m.length) with hlm | hlm
 case inr =>
  simp [-getElem?_pos,zvk,zyz,hlm,z85 hlm]
 simp [-getElem?_pos,zvk,zyz,hlm];have hlen:l.length=m.length:=by simp at hlm; omega
 refine zao (fun n st => ∃ i:Nat,i+n=l.length/\(∀ j,j<i->l[j]?=m[j]?)/\st.V 0 = .sl 1 (zab l)/\st.V 1 = .sl 1 (zab m)/\st.V 12=iv l.length/\st.V 13=iv i) ?_ l.length _ ⟨0,by simp [hlen]⟩;rintro n st ⟨i,hi,hj,v0,v1,v12,v13⟩;simp [ye0,v12,v13];refine zaw (fun h => ?_) (fun h => ?_)
 ·simp at h;obtain ⟨x,hx⟩ : ∃ x,l[i]?=some x:=⟨_,bG h⟩;obtain ⟨y,hy⟩ : ∃ y,m[i]?=some y:=⟨_,bG (by omega)⟩;have hx':=zay hx;have hy':=zay hy;have hw:=wS h hl;have him:i<m.length:=by omega
  by_cases e:x=y
  ·simp [-getElem?_pos,v0,v1,v12,v13,hx',hy',h,him,hw,eq_true e];exact zai (n-1) (by omega) ⟨i+1,by omega,zia hj (by rw [hx,hy,e]),by simp [v0,v1,v12]⟩
  ·simp [-getElem?_pos,v0,v1,v12,v13,hx',hy',h,him,hw,eq_false e,z8z hx hy e]
 ·simp at h;simp [yab hlen h hj]
def rwS (q:Bool) (l:List ByteArray):PV:=if q then .own 1 (za4 l) else .sl 1 (za4 l)
@[simp] theorem qtl (q:Bool) (l:List ByteArray):fz (rwS q l) = .sl 1 (za4 l):=by cases q <;> simp [rwS]
def ysd (q:Bool) (L:List (List ByteArray)):List (List PV):=L.map fun l=>[rwS q l]
@[simp] theorem qty (q:Bool) (L:List (List ByteArray)):(ysd q L).length=L.length:=by simp [ysd]
theorem qiq (cs:List PV) (h:za6 [.str] cs) : ∃ s:ByteArray,[PV.v (.string s)]=cs/\s.size<=9223372036854775807:=by
 simp only [za6,Shp] at h;obtain ⟨_,_,rfl,⟨a,rfl,h1⟩,rfl⟩:=h;simp [maxLen] at h1;exact ⟨a,rfl,by omega⟩
theorem qhs (cs:List PV) (h:za6 [.sl zyk] cs) : ∃ t:List Nd,[zfa false t]=cs/\t.length<=9223372036854775807:=by
 simp only [za6,Shp] at h;obtain ⟨_,_,rfl,⟨es,rfl,h1,h2⟩,rfl⟩:=h;have h2' : ∀ cs∈es,za6 zyk cs:=h2;obtain ⟨t,ht,_⟩:=zie (f:=nd) qe4 h2';subst ht;simp [maxLen] at h1;exact ⟨t,rfl,by omega⟩
def ltr (n:Int):Bool:=decide (97<=n) && decide (n<=122)
def dgt (n:Int):Bool:=decide (48<=n) && decide (n<=57)
def chB (s:ByteArray) (i:Nat):Bool:=match s[i]? with
 | none=>true
 | some b=>ltr b.toNat || (decide (i≠0) && dgt b.toNat)
def zd1 (s:ByteArray):Bool:=zaj s.size 1 12 && (List.range s.size).all (chB s)
theorem yda {s:ByteArray} {i:Nat} {b:UInt8} (h:s[i]?=some b):chB s i=(ltr b.toNat || (decide (i≠0) && dgt b.toNat)):=by simp [chB,h]
theorem y8x (s:ByteArray) (hs:s.size<=9223372036854775807):RUN T zq9 [.v (.string s)]=some ([bv (zd1 s)],[]):=by
 refine zae rfl rfl ?_;simp [-getElem?_pos,z2k,zjz];refine zao (fun n st => ∃ i:Nat,i+n=s.size/\(∀ j,j<i->chB s j=true)/\st.V 0 = .v (.string s)/\st.V 6=iv s.size/\st.V 7=iv i) ?_ s.size _ ⟨0,by simp⟩;rintro n st ⟨i,hi,hj,v0,v6,v7⟩;simp [yfj,v6,v7];refine zaw (fun h => ?_) (fun h => ?_)
 ·simp at h;obtain ⟨b,hb⟩ : ∃ b,s[i]?=some b:=⟨_,getElem?_pos s i h⟩;have hw:=wS h hs;have hc:=yda hb;obtain ⟨c,hcc⟩ : ∃ c:Int,c=b.toNat:=⟨_,rfl⟩;rw [<- hcc] at hc;have hi0:((i:Int)=0)=(i=0):=by simp
  rcases Classical.propComplete (97<=c) with a1 | a1
  all_goals rcases Classical.propComplete (c<=122) with a2 | a2
  all_goals rcases Classical.propComplete (i=0) with a3 | a3
  all_goals rcases Classical.propComplete (48<=c) with a4 | a4
  all_goals rcases Classical.propComplete (c<=57) with a5 | a5
  all_goals have a6:(c<48) = ¬ (48<=c):=by simp
  all_goals have a7:(57<c) = ¬ (c<=57):=by simp
  all_goals simp [ltr,dgt,a1,a2,a3,a4,a5] at hc
  all_goals simp [-getElem?_pos,v0,v6,v7,hb,<- hcc,a1,a2,a3,a4,a5,a6,a7,hi0,hw]
  all_goals first
   | exact zai (n-1) (by omega) ⟨i+1,by omega,zia hj hc,by simp [v0,v6]⟩
   | (have no:zd1 s=false:=by
       unfold zd1;rw [zgv h hc]; simp
      simp [no]; done)
   | skip
 ·simp at h;have:=zuh (p:=chB s) (n:=s.size) fun j hj'=>hj j (by omega);unfold zd1;rw [this];simp [-getElem?_pos,v0,zcq,-zbi]
theorem ymb (s:ByteArray) (hs:s.size<=9223372036854775807):RUN T zmz [.v (.string s)]=some ([bv (zd1 s)],[]):=by
 refine zae rfl rfl ?_;rcases Bool.eq_false_or_eq_true (zaj s.size 1 12) with h0 | h0
 case inr =>
  have no:zd1 s=false:=by unfold zd1; rw [h0]; rfl
  simp [-getElem?_pos,zti,zjz,zbj,-za1,h0,no]
 have hr:=za3.mp h0;obtain ⟨b0,hb0⟩ : ∃ b,s[0]?=some b:=⟨_,getElem?_pos s 0 (by omega)⟩;have hn0:zbu (.v (.int .i64 0))=some 0:=rfl;rcases Classical.propComplete (((b0.toNat:Nat):Int)<97) with f | f
 case inl =>
  have hc:chB s 0=false:=by
   rw [yda hb0];have : ¬ (97<=(b0.toNat:Int)):=by have:=of_eq_true f; omega
   simp [ltr,this]
  have no:zd1 s=false:=by unfold zd1; rw [zgv (by omega) hc]; simp
  simp [-getElem?_pos,zti,zjz,zbj,-za1,h0,no,hb0,f]
 simp [-getElem?_pos,zti,zjz,zbj,-za1,h0,hb0,f];refine zao (fun n st => ∃ i:Nat,i+n=s.size/\(∀ j,j<i->chB s j=true)/\st.V 0 = .v (.string s)/\st.V 3=iv i) ?_ s.size _ ⟨0,by simp⟩;rintro n st ⟨i,hi,hj,v0,v3⟩;simp [yex,v0,v3];refine zaw (fun h => ?_) (fun h => ?_)
 ·simp at h;obtain ⟨b,hb⟩ : ∃ b,s[i]?=some b:=⟨_,getElem?_pos s i h⟩;have hw:=wS h hs;have hc:=yda hb;have hcv:IntKind.i64.wrap (b.toNat:Int)=b.toNat:=w64 (by omega) (by have:=b.toNat_lt; omega);have e1:zaj (b.toNat:Int) 97 122=ltr b.toNat:=rfl;have e2:zaj (b.toNat:Int) 48 57=dgt b.toNat:=rfl;cases a1:ltr b.toNat with
  | true =>
   have e3:=e1.trans a1;simp [-getElem?_pos,v0,v3,hb,hcv,e3,hw,zbj,-za1];exact zai (n-1) (by omega) ⟨i+1,by omega,zia hj (by rw [hc,a1]; rfl),by simp [v0]⟩
  | false =>
   have e3:=e1.trans a1;cases a2:dgt b.toNat with
   | true =>
    have e4:=e2.trans a2;have hi0:i≠0:=by
     rintro rfl;rw [hb0] at hb;cases hb;simp [dgt] at a2;have:=of_eq_false f;omega
    simp [-getElem?_pos,v0,v3,hb,hcv,e3,e4,hw,zbj,-za1];exact zai (n-1) (by omega) ⟨i+1,by omega,zia hj (by rw [hc,a1,a2]; simp [hi0]),by simp [v0]⟩
   | false =>
    have e4:=e2.trans a2;have no:zd1 s=false:=by unfold zd1; rw [zgv h (by rw [hc,a1,a2]; simp:chB s i=false)]; simp
    simp [-getElem?_pos,v0,v3,hb,hcv,e3,e4,hw,no,zbj,-za1]
 ·simp at h;have:=zuh (p:=chB s) (n:=s.size) fun j hj'=>hj j (by omega);have ok:zd1 s=true:=by unfold zd1; rw [this,h0]; rfl
  simp [ok]
theorem z98 (l:List ByteArray) (i:Nat):List.take i (za4 l)=za4 (l.take i):=by simp [za4]
def zgb (l:List ByteArray) (x:ByteArray):Bool:=l.any fun y=>decide (y=x)
theorem ymc (l:List ByteArray) (x:ByteArray) (hl:l.length<=9223372036854775807):RUN T zm0 [.sl 1 (za4 l),.v (.string x)]=some ([bv (zgb l x)],[]):=by
 refine zae rfl rfl ?_;simp [-getElem?_pos,zzs,zyz];refine zao (fun n st => ∃ i:Nat,i+n=l.length/\(∀ (j:Nat) (y:ByteArray),j<i->l[j]?=some y->¬ y=x)/\st.V 0 = .sl 1 (za4 l)/\st.V 1 = .v (.string x)/\st.V 5=iv i) ?_ l.length _ ⟨0,by simp⟩;rintro n st ⟨i,hi,hj,v0,v1,v5⟩;simp [yey,v0,v5];refine zaw (fun h => ?_) (fun h => ?_)
 ·simp at h;obtain ⟨y,hy⟩ : ∃ y,l[i]?=some y:=⟨_,bG h⟩;have hy':=zmq hy;have hw:=wS h hl
  by_cases e:y=x
  ·subst e;have:zgb l y=true:=by
    unfold zgb; rw [List.any_eq_true]; exact ⟨y,bF hy,by simp⟩
   simp [-getElem?_pos,v0,v1,v5,hy',h,this]
  ·simp [-getElem?_pos,v0,v1,v5,hy',h,hw,ytb e];exact zai (n-1) (by omega) ⟨i+1,by omega,zkz (P:=fun _ y => ¬ y=x) hj hy e,by simp [v0,v1]⟩
 ·simp at h;have:zgb l x=false:=by
   unfold zgb;rw [List.any_eq_false];intro y hy;obtain ⟨j,hjy⟩:=bH hy;simpa using hj j y (by have:=(bD hjy).1; omega) hjy
  simp [this]
theorem y8y (l:List ByteArray) (x:ByteArray) (hl:l.length<=9223372036854775807):RUN T zr3 [.sl 1 (za4 l),.v (.string x)]=some ([iv (zik (fun y=>decide (y=x)) l)],[]):=by
 refine zae rfl rfl ?_;simp [-getElem?_pos,z4e,zyz];refine zao (fun n st => ∃ i:Nat,i+n=l.length/\(∀ (j:Nat) (y:ByteArray),j<i->l[j]?=some y->decide (y=x)=false)/\st.V 0 = .sl 1 (za4 l)/\st.V 1 = .v (.string x)/\st.V 7=iv l.length/\st.V 8=iv i) ?_ l.length _ ⟨0,by simp⟩;rintro n st ⟨i,hi,hj,v0,v1,v7,v8⟩;simp [yft,v7,v8];refine zaw (fun h => ?_) (fun h => ?_)
 ·simp at h;obtain ⟨y,hy⟩ : ∃ y,l[i]?=some y:=⟨_,bG h⟩;have hy':=zmq hy;have hw:=wS h hl
  by_cases e:y=x
  ·subst e;have:=z80 (p:=fun z=>decide (z=y)) hy (by simp) hj;simp [-getElem?_pos,v0,v1,v7,v8,hy',h,this]
  ·simp [-getElem?_pos,v0,v1,v7,v8,hy',h,hw,ytb (fun e'=>e e'.symm)];exact zai (n-1) (by omega) ⟨i+1,by omega,zkz (P:=fun _ y=>decide (y=x)=false) hj hy (by simpa using e),by simp [v0,v1,v7]⟩
 ·simp at h;have:=z8d (p:=fun z=>decide (z=x)) (l:=l) fun j y h1 h2=>hj j y (by omega) h2;simp [-getElem?_pos,this]
theorem y8z (l:List ByteArray) (x:ByteArray) (hl:l.length<=9223372036854775807):RUN T zra [.sl 1 (za4 l),.v (.string x)]=some ([bv (zgb l x)],[]):=by
 refine zae rfl rfl ?_;have h:=y8y l x hl;have e:=z9o (p:=fun y=>decide (y=x)) (l:=l);have e2:zgb l x=l.any fun y=>decide (y=x):=rfl;rw [e2,<- e];simp [-getElem?_pos,z2m,zyz,h]
def nmB (L:List ByteArray) (i:Nat):Bool:=match L[i]? with
 | none=>true
 | some x=>zd1 x && !zgb (L.take i) x
def zg7 (L:List ByteArray):Bool:=(List.range L.length).all (nmB L)
theorem zxl {L:List ByteArray} {i:Nat} {x:ByteArray} (h:L[i]?=some x):nmB L i=(zd1 x && !zgb (L.take i) x):=by simp [nmB,h]
theorem y80 (L:List ByteArray) (hl:L.length<=9223372036854775807) (hs : ∀ x∈L,x.size<=9223372036854775807):RUN T zqh [.sl 1 (za4 L)]=some ([bv (zg7 L)],[]):=by
 refine zae rfl rfl ?_;simp [-getElem?_pos,z0b,zjz];refine zao (fun n st => ∃ i:Nat,i+n=L.length/\(∀ j,j<i->nmB L j=true)/\st.V 0 = .sl 1 (za4 L)/\st.V 5 = .sl 1 (za4 L)/\st.V 6=iv L.length/\st.V 7=iv i) ?_ L.length _ ⟨0,by simp⟩;rintro n st ⟨i,hi,hj,v0,v5,v6,v7⟩;simp [ye1,v6,v7];refine zaw (fun h => ?_) (fun h => ?_)
 ·simp at h;obtain ⟨x,hx⟩ : ∃ x,L[i]?=some x:=⟨_,bG h⟩;have hx':=zmq hx;have hw:=wS h hl;have hN:=y8x x (hs x (bF hx));have hC:=y8z (L.take i) x (by simp; omega);have hc:=zxl hx;have hil:i<=L.length:=by omega
  cases a1:zd1 x with
  | false =>
   rw [a1] at hN hc;have no:zg7 L=false:=zgv h (by rw [hc]; rfl);simp [-getElem?_pos,v0,v5,v6,v7,hx',h,hw,hN,no]
  | true =>
   rw [a1] at hN hc;cases a2:zgb (L.take i) x with
   | true =>
    rw [a2] at hC hc;have no:zg7 L=false:=zgv h (by rw [hc]; rfl);simp [-getElem?_pos,v0,v5,v6,v7,hx',h,hw,hN,hC,hil,z98,no]
   | false =>
    rw [a2] at hC hc;simp [-getElem?_pos,v0,v5,v6,v7,hx',h,hw,hN,hC,hil,z98];exact zai (n-1) (by omega) ⟨i+1,by omega,zia hj (by rw [hc]; rfl),by simp [v0,v5,v6]⟩
 ·simp at h;have:zg7 L=true:=zuh fun j hj'=>hj j (by omega);simp [this]
def qco (p:Nat->Bool) (i:Nat):List Int:=((List.range i).filter p).map fun (j:Nat)=>(j:Int)
@[simp] theorem q28 (p:Nat->Bool):qco p 0=[]:=rfl
def zox (k:Int) (L:List (List Int)) (j:Nat):List Int:=upto (k+za7 (L.take j)) (L.getD j []).length
theorem z97 {es:List (List PV)} {i:Nat} {c d:PV} (h:es[i]?=some [c]):zb2 es i 0 d=es.set i [d]:=by simp [zb2,h]
theorem qe9 {L:List (List Int)} {i:Nat} {l:List Int} (h:L[i]?=some l):za7 (L.take (i+1))=za7 (L.take i)+l.length:=by
 unfold za7;rw [List.take_succ,h]; simp
theorem qcw (L:List (List Int)) (i:Nat):za7 (L.take i)<=za7 L:=by
 induction L generalizing i with
 | nil=>simp
 | cons a L ih =>
  cases i with
  | zero=>simp [za7]
  | succ i=>rw [List.take_succ_cons,z78,z78]; have:=ih i; omega
theorem yba (L:List (List Int)) (k:Int) (h0:0<=k) (hk:k+za7 L<=9223372036854775806) (hL:L.length<=9223372036854775807):RUN T zld [.own 1 (rws true L),iv k]=some ([iv (k+za7 L)],[.own 1 (rws true ((List.range L.length).map (zox k L)))]):=by
 refine zae rfl rfl ?_;simp [-getElem?_pos,z1j,zyz];obtain ⟨f,hf⟩ : ∃ f:Nat->List PV,f=fun j=>[cel true (zox k L j)]:=⟨_,rfl⟩;refine zao (fun n st => ∃ i:Nat,i+n=L.length/\1<=st.nx/\st.V 0 = .ref 0 none 0 0 L.length/\st.V 1=iv (k+za7 (L.take i))/\st.V 5=iv i/\st.S 0=some (.row 1 (mix f (rws true L) i))) ?_ L.length _ ⟨0,by simp [z9c,za7]⟩;rintro n st ⟨i,hi,hnx,v0,v1,v5,hS⟩;simp [yfd,v0,v1,v5,hS];refine zaw (fun h => ?_) (fun h => ?_)
 ·simp at h;obtain ⟨l,hx⟩ : ∃ l,L[i]?=some l:=⟨_,bG h⟩;have hw:=wS h hL;have hx':=zct (q:=true) hx;have hg:=(z8o (f:=f) (l:=rws true L) (i:=i)).trans hx';have hs:=z8p (f:=f) (l:=rws true L) (i:=i) (by simpa using h);have hle:=qcw L (i+1);have htk:=qe9 hx;have hM:=zxd l (k+za7 (L.take i)) (by omega) (by omega);have hsc : ∀ d:PV,zb2 (mix f (rws true L) i) i 0 d=(mix f (rws true L) i).set i [d]:=fun d=>z97 hg;have hfi:f i=[.own 1 (zab (upto (k+za7 (L.take i)) l.length))]:=by rw [hf]; simp [zox,hx,cel]
  rw [hfi] at hs;have hml:=z9k (f:=f) (l:=rws true L) (i:=i) (by simp; omega);simp at hml;have hss : ∀ d:PV,zb2 ((mix f (rws true L) i).set i [.undef]) i 0 d=(mix f (rws true L) i).set i [d]:=fun d=>by
   rw [z97 (c := .undef) (by rw [List.getElem?_set_self (by omega)]),List.set_set]
  simp only [cel,if_true] at hg;obtain ⟨z1,z2,z3,z4⟩:=fr (show 0<st.nx by omega);simp [-getElem?_pos,v0,v1,v5,hS,h,hg,hml,hM,hsc,hss,hs,hw,z1,z2,z3,z4,zbv];refine zai (n-1) (by omega) ⟨i+1,by omega,by simp,by simp [v0],?_,by simp⟩;simp [htk]; omega
 ·simp at h;have e:=z83 (f:=f) (l:=rws true L) (i:=i) (by simp; omega);have e2:i=L.length:=by omega
  subst e2;rw [e] at hS;rw [List.take_length] at v1;have e3:rws true ((List.range L.length).map (zox k L))=(List.range L.length).map f:=by rw [hf]; simp [rws,Function.comp_def]
  rw [e3];simp [-getElem?_pos,hS,v1]
theorem zjh (x:Int):IntKind.u64.wrap x=x % 18446744073709551616:=IntKind.wrap_u64 x
theorem yqo (a b:Int):zbb .mul (.int .u64 a) (.int .u64 b)=some (.int .u64 (a*b % 18446744073709551616)):=by rw [yes,zjh]
theorem yny (a b:Int):zbb .add (.int .u64 a) (.int .u64 b)=some (.int .u64 ((a+b) % 18446744073709551616)):=by rw [yd9,zjh]
theorem ysl (x:Int):zbb .shr (.int .u64 x) (.int .u64 32)=some (.int .u64 (x / 4294967296)):=by
 rw [yb5,if_pos (by decide)];have:(2:Int) ^ min (32:Int).toNat IntKind.u64.bits=4294967296:=by decide
 rw [this,Int.fdiv_eq_ediv_of_nonneg _ (by decide)]
theorem qh9 (x:Int):zbb .shl (.int .u64 x) (.int .u64 32)=some (.int .u64 (x*4294967296 % 18446744073709551616)):=by
 rw [yqd,if_pos (by decide),zjh];have:(2:Int) ^ min (32:Int).toNat IntKind.u64.bits=4294967296:=by decide
 rw [this]
theorem zpc {x:Int} (h0:0<=x) (h1:x<18446744073709551616):zbb .and (.int .u64 x) (.int .u64 4294967295)=some (.int .u64 (x % 4294967296)):=by
 rw [yel,zjh];have e:((BitVec.ofInt IntKind.u64.bits x &&& BitVec.ofInt IntKind.u64.bits 4294967295).toNat:Int)=x % 4294967296:=by
  obtain ⟨n,rfl⟩:=Int.eq_ofNat_of_zero_le h0;have hn:n<2 ^ 64:=by omega
  have e2:(BitVec.ofInt 64 (n:Int) &&& BitVec.ofInt 64 4294967295).toNat=n % 4294967296:=by
   rw [BitVec.toNat_and];have e3:(BitVec.ofInt 64 (n:Int)).toNat=n:=by
    rw [BitVec.ofInt_natCast,BitVec.toNat_ofNat,Nat.mod_eq_of_lt hn]
   have e4:(BitVec.ofInt 64 4294967295).toNat=2 ^ 32-1:=by decide
   rw [e3,e4,Nat.and_two_pow_sub_one_eq_mod]
  show (((BitVec.ofInt 64 (n:Int) &&& BitVec.ofInt 64 4294967295).toNat:Nat):Int)=_;rw [e2]; omega
 rw [e]; congr 2; omega
theorem parts {x y:Int} (hx:0<=x) (hx1:x<18446744073709551616) (hy:0<=y) (hy1:y<18446744073709551616) :
  ∃ a b c d:Int,a=x % 4294967296*(y % 4294967296)/\b=x / 4294967296*(y % 4294967296)/\c=x % 4294967296*(y / 4294967296)/\d=x / 4294967296*(y / 4294967296)/\0<=a/\a<=18446744065119617025/\0<=b/\b<=18446744065119617025/\0<=c/\c<=18446744065119617025/\0<=d/\d<=18446744065119617025/\x*y=d*18446744073709551616+(b+c)*4294967296+a:=by
 have bd : ∀ u v:Int,0<=u->u<=4294967295->0<=v->v<=4294967295->0<=u*v/\u*v<=18446744065119617025:=fun u v h1 h2 h3 h4 =>
  ⟨Int.mul_nonneg h1 h3,Int.le_trans (Int.mul_le_mul h2 h4 h3 (by decide)) (by decide)⟩
 have x0:0<=x % 4294967296/\x % 4294967296<=4294967295:=by omega
 have x1:0<=x / 4294967296/\x / 4294967296<=4294967295:=by omega
 have y0:0<=y % 4294967296/\y % 4294967296<=4294967295:=by omega
 have y1:0<=y / 4294967296/\y / 4294967296<=4294967295:=by omega
 refine ⟨_,_,_,_,rfl,rfl,rfl,rfl,(bd _ _ x0.1 x0.2 y0.1 y0.2).1,(bd _ _ x0.1 x0.2 y0.1 y0.2).2,(bd _ _ x1.1 x1.2 y0.1 y0.2).1,(bd _ _ x1.1 x1.2 y0.1 y0.2).2,(bd _ _ x0.1 x0.2 y1.1 y1.2).1,(bd _ _ x0.1 x0.2 y1.1 y1.2).2,(bd _ _ x1.1 x1.2 y1.1 y1.2).1,(bd _ _ x1.1 x1.2 y1.1 y1.2).2,?_⟩;have ex:x=x / 4294967296*4294967296+x % 4294967296:=by omega
 have ey:y=y / 4294967296*4294967296+y % 4294967296:=by omega
 generalize x / 4294967296=p at *;generalize x % 4294967296=q at *;generalize y / 4294967296=r at *;generalize y % 4294967296=s at *;rw [ex,ey,Int.add_mul,Int.mul_add,Int.mul_add];have e1:p*4294967296*(r*4294967296)=p*r*18446744073709551616:=by
  rw [show (18446744073709551616:Int)=4294967296*4294967296 by decide,Int.mul_assoc,Int.mul_comm 4294967296 (r*4294967296),Int.mul_assoc r,<- Int.mul_assoc p r]
 have e2:p*4294967296*s=p*s*4294967296:=by rw [Int.mul_assoc,Int.mul_comm 4294967296 s,<- Int.mul_assoc]
 have e3:q*(r*4294967296)=q*r*4294967296:=by rw [<- Int.mul_assoc]
 rw [e1,e2,e3,Int.add_mul];omega
theorem ybb (x y:Int) (hx:0<=x) (hx1:x<18446744073709551616) (hy:0<=y) (hy1:y<18446744073709551616):RUN T zl0 [.v (.int .u64 x),.v (.int .u64 y)]=some ([.v (.int .u64 (x*y / 18446744073709551616)),.v (.int .u64 (x*y % 18446744073709551616))],[]):=by
 refine zae rfl rfl ?_;obtain ⟨a,b,c,d,ea,eb,ec,ed,a0,a1,b0,b1,c0,c1,d0,d1,hp⟩:=parts hx hx1 hy hy1;have f1:=zpc hx hx1;have f2:=zpc hy hy1;have g1:a % 18446744073709551616=a:=by omega
 have g2:b % 18446744073709551616=b:=by omega
 have g3:c % 18446744073709551616=c:=by omega
 have g4:d % 18446744073709551616=d:=by omega
 have g5:(b+a / 4294967296) % 18446744073709551616=b+a / 4294967296:=by omega
 have f3:=zpc (x:=b+a / 4294967296) (by omega) (by omega);simp [-yes,-yd9,-yel,-yb5,yqo,yny,ysl,f1,f2,f3,z7o,zj7,<- ea,<- eb,<- ec,<- ed,g1,g2,g3,g4,g5];omega
theorem ybc (x y:Int) (hx:0<=x) (hx1:x<18446744073709551616) (hy:0<=y) (hy1:y<18446744073709551616):RUN T zl2 [.v (.int .u64 x),.v (.int .u64 y)]=some ([.v (.int .u64 (x*y / 18446744073709551616)),.v (.int .u64 (x*y % 18446744073709551616))],[]):=by
 refine zae rfl rfl ?_;obtain ⟨a,b,c,d,ea,eb,ec,ed,a0,a1,b0,b1,c0,c1,d0,d1,hp⟩:=parts hx hx1 hy hy1;have f1:=zpc hx hx1;have f2:=zpc hy hy1;have g1:a % 18446744073709551616=a:=by omega
 have g2:b % 18446744073709551616=b:=by omega
 have g3:c % 18446744073709551616=c:=by omega
 have g4:d % 18446744073709551616=d:=by omega
 have g5:(b+a / 4294967296) % 18446744073709551616=b+a / 4294967296:=by omega
 have f3:=zpc (x:=b+a / 4294967296) (by omega) (by omega);have f4:=zpc (x:=a) (by omega) (by omega);simp [-yes,-yd9,-yel,-yb5,-yqd,yqo,yny,ysl,qh9,f1,f2,f3,f4,z7u,zj7,<- ea,<- eb,<- ec,<- ed,g1,g2,g3,g4,g5];omega
structure Wd where
 n:Bool
 h:Int
 l:Int
deriving DecidableEq
abbrev uv (x:Int):PV := .v (.int .u64 x)
def wd (w:Wd):List PV:=[bv w.n,uv w.h,uv w.l]
def wfU (w:Wd):Prop:=0<=w.h/\w.h<18446744073709551616/\0<=w.l/\w.l<18446744073709551616
def wok (w:Wd):Bool:=decide (w.h<9223372036854775808) && (!w.n || decide (0<w.h) || decide (0<w.l))
def mag (w:Wd):Int:=w.h*18446744073709551616+w.l
def mkW (n:Bool) (m:Int):Wd:=⟨n && decide (0<m),m / 18446744073709551616,m % 18446744073709551616⟩
def za9:Wd:=⟨false,0,0⟩
theorem yeb {n:Bool} {m:Int} (h0:0<=m) (h1:m<340282366920938463463374607431768211456):wfU (mkW n m):=by
 unfold wfU mkW; simp only; omega
theorem yb0 {n:Bool} {m:Int} (h0:0<=m):wok (mkW n m)=decide (m<170141183460469231731687303715884105728):=by
 unfold wok mkW;simp only
 by_cases h:m<170141183460469231731687303715884105728
 ·have e:m / 18446744073709551616<9223372036854775808:=by omega
  rw [decide_eq_true h,decide_eq_true e]
  by_cases hz:0<m
  ·by_cases h2:0<m / 18446744073709551616
   ·simp [h2]
   ·have:0<m % 18446744073709551616:=by omega
    simp [this]
  ·simp [hz]
 ·have e : ¬ m / 18446744073709551616<9223372036854775808:=by omega
  rw [decide_eq_false h,decide_eq_false e]; rfl
theorem ybd (n:Int) (h:inI n):RUN T zlz [iv n]=some ([uv n.natAbs],[]):=by
 refine zae rfl rfl ?_;obtain ⟨h0,h1⟩:=h;simp [z7m,zjz];refine zaw (fun h => ?_) (fun h => ?_) <;> simp at h <;> simp [zjh] <;> omega
theorem ybe (n:Int) (h:inI n):RUN T zl1 [iv n]=some ([uv n.natAbs],[]):=by
 refine zae rfl rfl ?_;obtain ⟨h0,h1⟩:=h;have e1:n<0->IntKind.i64.wrap (n+1)=n+1:=fun h=>w64 (by omega) (by omega);have e2:n<0->IntKind.i64.wrap (0-(n+1))=0-(n+1):=fun h=>w64 (by omega) (by omega);simp [z7s,zjz];refine zaw (fun h => ?_) (fun h => ?_) <;> simp at h
 ·have e1:=e1 h;have e2:=e2 h;simp at e2;simp [e1,e2,zjh]; omega
 ·simp [zjh]; omega
theorem zxg (n:Bool) (h l:Int):RUN T zhc [bv n,uv h,uv l]=some ([.agg (wd ⟨n && (decide (0<h) || decide (0<l)),h,l⟩)],[]):=by
 refine zae rfl rfl ?_;cases n with
 | false=>simp [zt7,zt8,wd]
 | true =>
  by_cases h1:0<h
  ·simp [zt7,zt8,wd,h1]
  ·simp [zt7,zt8,wd,h1]
theorem zub (w:Wd):RUN T zhq [.agg (wd w)]=some ([bv (wok w)],[]):=by
 refine zae rfl rfl ?_;obtain ⟨n,h,l⟩:=w;unfold wok
 by_cases h1:h<9223372036854775808
 ·cases n with
  | false=>simp [zol,zjz,wd,h1]
  | true =>
   by_cases h2:0<h
   ·simp [zol,zjz,wd,h1,h2]
   ·simp [zol,zjz,wd,h1,h2]
 ·simp [zol,zjz,wd,h1]
theorem zuc (w:Wd):RUN T zhr [.agg (wd w)]=some ([bv (wok w)],[]):=by
 refine zae rfl rfl ?_;obtain ⟨n,h,l⟩:=w;unfold wok
 by_cases h1:h<9223372036854775808
 ·cases n with
  | false=>simp [zon,zjz,wd,h1]
  | true =>
   by_cases h2:0<h
   ·simp [zon,zjz,wd,h1,h2]
   ·simp [zon,zjz,wd,h1,h2]
 ·simp [zon,zjz,wd,h1]
theorem zxh (w:Wd):RUN T zjw [.agg (wd w)]=some ([bv (decide (w.h=0) && decide (w.l=0))],[]):=by
 refine zae rfl rfl ?_
 by_cases h1:w.h=0
 ·simp [zxb,zjz,wd,h1]
 ·simp [zxb,zjz,wd,h1]
def zci (a b:Int):Int:=if a<b then -1 else if b<a then 1 else 0
theorem ymd (x:Int):RUN T zn7 [uv x]=some ([bv false],[]):=by
 refine zae rfl rfl ?_;simp [z7w,zjz]
theorem yme (x y:Int):RUN T zn6 [uv x,uv y]=some ([iv (zci x y)],[]):=by
 refine zae rfl rfl ?_;have e1:=ymd x;have e2:=ymd y;unfold zci
 by_cases h1:x<y
 ·simp [zt9,zyz,e1,e2,h1]
 ·by_cases h2:y<x
  ·simp [zt9,zyz,e1,e2,h1,h2]
  ·simp [zt9,zyz,e1,e2,h1,h2]
theorem ymf (x y:Int):RUN T znz [.sl 1 [[iv x],[iv y]]]=some ([iv (if x=0 then y else x)],[]):=by
 refine zae rfl rfl ?_;simp [z6y,zjz];refine zao (fun n st => ∃ i:Nat,i+n=2/\(1<=i->x=0)/\(2<=i->y=0)/\st.V 3=iv 0/\st.V 6 = .sl 1 [[iv x],[iv y]]/\st.V 7=iv 2/\st.V 8=iv i) ?_ 2 _ ⟨0,by simp⟩;rintro n st ⟨i,hi,hx,hy,v3,v6,v7,v8⟩;simp [yf2,v7,v8];have h3:i=0\/i=1\/i=2:=by omega
 rcases h3 with rfl | rfl | rfl
 ·have hw:IntKind.i64.wrap 1=1:=w64 (by omega) (by omega)
  by_cases h:x=0
  ·simp [v3,v6,v7,v8,h,hw];exact zai (n-1) (by omega) ⟨1,by omega,fun _=>h,by simp [v3,v6,h,v7]⟩
  ·simp [v3,v6,v7,v8,h]
 ·have hx:=hx (by omega);have hw:IntKind.i64.wrap 2=2:=w64 (by omega) (by omega)
  by_cases h:y=0
  ·simp [v3,v6,v7,v8,h,hx,hw];exact zai (n-1) (by omega) ⟨2,by omega,fun _=>hx,fun _=>h,by simp [v3,v6,h,hx,v7]⟩
  ·simp [v3,v6,v7,v8,h,hx]
 ·have hx:=hx (by omega);have hy:=hy (by omega);simp [v3,hx,hy]
def ze4 (a b:Wd):Int:=if zci a.h b.h=0 then zci a.l b.l else zci a.h b.h
theorem yt2 {a b:Wd} (ha:wfU a) (hb:wfU b):ze4 a b=zci (mag a) (mag b):=by
 obtain ⟨_,_,_,_⟩:=ha;obtain ⟨_,_,_,_⟩:=hb;unfold ze4 zci mag;split <;> split <;> split <;> (try split) <;> (try split) <;> omega
theorem ybf (a b:Wd):RUN T zlw [.agg (wd a),.agg (wd b)]=some ([iv (ze4 a b)],[]):=by
 refine zae rfl rfl ?_;have e1:=yme a.h b.h;have e2:=yme a.l b.l;have e3:=ymf (zci a.h b.h) (zci a.l b.l);simp [z7e,zyz,wd,e1,e2,e3,ze4]
theorem ybg (a b:Wd):RUN T zlx [.agg (wd a),.agg (wd b)]=some ([iv (ze4 a b)],[]):=by
 refine zae rfl rfl ?_;unfold ze4 zci
 by_cases h1:a.h<b.h
 ·simp [zmb,zyz,wd,h1]
 ·by_cases h2:b.h<a.h
  ·have h3 : ¬ a.h=b.h:=by omega
   simp [zmb,zyz,wd,h1,h2,h3]
  ·have h3:a.h=b.h:=by omega
   by_cases h4:a.l<b.l
   ·simp [zmb,zyz,wd,h3,h4]
   ·by_cases h5:b.l<a.l
    ·simp [zmb,zyz,wd,h3,h4,h5]
    ·simp [zmb,zyz,wd,h3,h4,h5]
def zen (a b:Int):Wd:=mkW (decide (a<0) != decide (b<0)) ((a.natAbs:Int)*b.natAbs)
theorem zkk {a:Int} (h:inI a):0<=(a.natAbs:Int)/\(a.natAbs:Int)<=9223372036854775808:=by
 obtain ⟨h0,h1⟩:=h; omega
theorem yr7 {a b:Int} (ha:inI a) (hb:inI b):0<=(a.natAbs:Int)*b.natAbs/\(a.natAbs:Int)*b.natAbs<=85070591730234615865843651857942052864:=by
 obtain ⟨a0,a1⟩:=zkk ha;obtain ⟨b0,b1⟩:=zkk hb;exact ⟨Int.mul_nonneg a0 b0,Int.le_trans (Int.mul_le_mul a1 b1 b0 (by decide)) (by decide)⟩
theorem y81 (a b:Int) (ha:inI a) (hb:inI b):RUN T zs8 [iv a,iv b]=some ([.agg (wd (zen a b))],[]):=by
 refine zae rfl rfl ?_;obtain ⟨a0,a1⟩:=zkk ha;obtain ⟨b0,b1⟩:=zkk hb;have e1:=ybd a ha;have e2:=ybd b hb;have e3:=ybb a.natAbs b.natAbs a0 (by omega) b0 (by omega);have e4:=zxg (decide (a<0) != decide (b<0)) ((a.natAbs:Int)*b.natAbs / 18446744073709551616) ((a.natAbs:Int)*b.natAbs % 18446744073709551616);obtain ⟨m0,m1⟩:=yr7 ha hb;have e5:(⟨(decide (a<0) != decide (b<0)) && (decide (0<(a.natAbs:Int)*b.natAbs / 18446744073709551616) || decide (0<(a.natAbs:Int)*b.natAbs % 18446744073709551616)),(a.natAbs:Int)*b.natAbs / 18446744073709551616,(a.natAbs:Int)*b.natAbs % 18446744073709551616⟩:Wd)=zen a b:=by
  unfold zen mkW
  congr 2
  generalize (a.natAbs:Int)*b.natAbs=m at *;rw [Bool.eq_iff_iff]; simp; omega
 rw [e5] at e4;generalize zen a b=w at *;obtain ⟨wn,wh,wl⟩:=w;simp only [wd] at e4 ⊢
 by_cases sa:a<0 <;> by_cases sb:b<0 <;> simp [sa,sb] at e4 <;> simp [z7k,z7l,e1,e2,e3,sa,sb,e4]
theorem y82 (a b:Int) (ha:inI a) (hb:inI b):RUN T zs9 [iv a,iv b]=some ([.agg (wd (zen a b))],[]):=by
 refine zae rfl rfl ?_;obtain ⟨a0,a1⟩:=zkk ha;obtain ⟨b0,b1⟩:=zkk hb;have e1:=ybe a ha;have e2:=ybe b hb;have e3:=ybc a.natAbs b.natAbs a0 (by omega) b0 (by omega);have hpos:(0<(a.natAbs:Int)*b.natAbs)↔(a≠0/\b≠0):=by
  constructor
  ·intro h;refine ⟨?_,?_⟩ <;> rintro rfl <;> simp at h
  ·rintro ⟨h1,h2⟩;exact Int.mul_pos (by omega) (by omega)
 have e5:zen a b=⟨((decide (a<0) != decide (b<0)) && !decide (a=0)) && !decide (b=0),(a.natAbs:Int)*b.natAbs / 18446744073709551616,(a.natAbs:Int)*b.natAbs % 18446744073709551616⟩:=by
  unfold zen mkW
  congr 1
  rw [Bool.eq_iff_iff]; simp [hpos,and_assoc]
 rw [e5]
 by_cases sa:a<0 <;> by_cases sb:b<0 <;> rcases Classical.propComplete (a=0) with h0 | h0 <;> simp [z7q,z7l,e1,e2,e3,sa,sb,wd,h0]
def zew (w:Wd):Int:=if w.n then -mag w else mag w
def zcg (a b:Wd):Wd×Bool :=
 if wok a && wok b then
  if ((zew a+zew b).natAbs:Int)<170141183460469231731687303715884105728 then (mkW (decide (zew a+zew b<0)) (zew a+zew b).natAbs,true) else (za9,false)
 else (za9,false)
theorem qfk (a b:Wd):wfU (zcg a b).1:=by
 unfold zcg;split
 ·split
  ·exact yeb (by omega) (by omega)
  ·exact ⟨by decide,by decide,by decide,by decide⟩
 ·exact ⟨by decide,by decide,by decide,by decide⟩
theorem zme {w:Wd} (h:wfU w) (hk:wok w=true):0<=mag w/\mag w<170141183460469231731687303715884105728/\(w.n=true->0<mag w):=by
 obtain ⟨h0,h1,h2,h3⟩:=h;unfold wok at hk;simp only [Bool.and_eq_true,Bool.or_eq_true,Bool.not_eq_true',decide_eq_true_eq] at hk;unfold mag;obtain ⟨k1,k2⟩:=hk;refine ⟨by omega,by omega,fun hn => ?_⟩;rw [hn] at k2;rcases k2 with (k2 | k2) | k2
 ·cases k2
 ·omega
 ·omega
theorem qjh (a b:Wd) (ha:wfU a) (hb:wfU b) (h:mag a+mag b<340282366920938463463374607431768211456) : ∃ c d:Int,
  RUN T zjx [uv a.l,uv b.l,uv 0]=some ([uv ((mag a+mag b) % 18446744073709551616),uv c],[])/\RUN T zjx [uv a.h,uv b.h,uv c]=some ([uv ((mag a+mag b) / 18446744073709551616),uv d],[]):=by
 obtain ⟨a0,a1,a2,a3⟩:=ha;obtain ⟨b0,b1,b2,b3⟩:=hb;have e1:=yd2 yax (x:=a.l) (y:=b.l) (c:=0) a2 b2 (by decide) (by decide);have e2:=yd2 yax (x:=a.h) (y:=b.h) (c:=(a.l+b.l+0) / 18446744073709551616) a0 b0 (by omega) (by omega);have f1:(a.l+b.l+0) % 18446744073709551616=(mag a+mag b) % 18446744073709551616:=by unfold mag; omega
 have f2:(a.h+b.h+(a.l+b.l+0) / 18446744073709551616) % 18446744073709551616=(mag a+mag b) / 18446744073709551616:=by unfold mag at *; omega
 rw [f1] at e1;rw [f2] at e2;exact ⟨_,_,e1,e2⟩
theorem yu6 (a b:Wd) (ha:wfU a) (hb:wfU b) (h:mag b<=mag a) : ∃ c d:Int,
  RUN T zly [uv a.l,uv b.l,uv 0]=some ([uv ((mag a-mag b) % 18446744073709551616),uv c],[])/\RUN T zly [uv a.h,uv b.h,uv c]=some ([uv ((mag a-mag b) / 18446744073709551616),uv d],[]):=by
 obtain ⟨a0,a1,a2,a3⟩:=ha;obtain ⟨b0,b1,b2,b3⟩:=hb;have e1:=yse ylt (x:=a.l) (y:=b.l) (c:=0) a2 b2 a3 b3 (by decide) (by decide);have e2:=yse ylt (x:=a.h) (y:=b.h) (c:=if a.l<b.l+0 then 1 else 0) a0 b0 a1 b1 (by split <;> omega) (by split <;> omega);have f1:(a.l-b.l-0) % 18446744073709551616=(mag a-mag b) % 18446744073709551616:=by unfold mag; omega
 have f2:(a.h-b.h-(if a.l<b.l+0 then 1 else 0)) % 18446744073709551616=(mag a-mag b) / 18446744073709551616:=by
  unfold mag at *;split <;> omega
 rw [f1] at e1;rw [f2] at e2;exact ⟨_,_,e1,e2⟩
theorem yc1 {n:Bool} {m:Int} (h:0<=m):RUN T zhc [bv n,uv (m / 18446744073709551616),uv (m % 18446744073709551616)]=some ([.agg (wd (mkW n m))],[]):=by
 rw [zxg];have:(⟨n && (decide (0<m / 18446744073709551616) || decide (0<m % 18446744073709551616)),m / 18446744073709551616,m % 18446744073709551616⟩:Wd)=mkW n m:=by
  unfold mkW
  congr 2
  rw [Bool.eq_iff_iff]; simp; omega
 rw [this]
theorem y83 (a b:Wd) (ha:wfU a) (hb:wfU b):RUN T zs5 [.agg (wd a),.agg (wd b)]=some ([.agg (wd (zcg a b).1),bv (zcg a b).2],[]):=by
 refine zae rfl rfl ?_;have ea:=zub a;have eb:=zub b;cases ka:wok a with
 | false =>
  have es:zcg a b=(za9,false):=by unfold zcg; simp [ka]
  rw [es]; rw [ka] at ea;simp only [wd] at ea;simp [zkc,zkd,wd,ea,za9]
 | true =>
  cases kb:wok b with
  | false =>
   have es:zcg a b=(za9,false):=by unfold zcg; simp [kb]
   rw [es]; rw [ka] at ea; rw [kb] at eb;simp only [wd] at ea eb;simp [zkc,zkd,wd,ea,eb,za9]
  | true =>
   obtain ⟨ma0,ma1,ma2⟩:=zme ha ka;obtain ⟨mb0,mb1,mb2⟩:=zme hb kb;rw [ka] at ea; rw [kb] at eb
   by_cases hn:a.n=b.n
   ·obtain ⟨c,d,f1,f2⟩:=qjh a b ha hb (by omega);have f3:=yc1 (n:=a.n) (m:=mag a+mag b) (by omega);have f4:=zub (mkW a.n (mag a+mag b));rw [yb0 (by omega)] at f4;have es:zcg a b=if mag a+mag b<170141183460469231731687303715884105728 then (mkW a.n (mag a+mag b),true) else (za9,false):=by
     unfold zcg zew;rw [ka,kb,<- hn];simp only [Bool.and_self,if_true];cases h:a.n with
     | true =>
      have e1:(-mag a + -mag b).natAbs=mag a+mag b:=by omega
      have e2 : -mag a + -mag b<0:=by have:=ma2 h; omega
      simp only [if_true,e1,decide_eq_true e2]
     | false =>
      have e1:((mag a+mag b).natAbs:Int)=mag a+mag b:=by omega
      have e2 : ¬ mag a+mag b<0:=by omega
      simp only [Bool.false_eq_true,if_false,e1,decide_eq_false e2]
    rw [es];generalize hm:mag a+mag b=m at *;generalize mkW a.n m=w at *;generalize m / 18446744073709551616=hi at *;generalize m % 18446744073709551616=lo at *;simp only [wd] at ea eb f3 f4 ⊢;rw [hn] at ea f3
    by_cases hk:m<170141183460469231731687303715884105728
    ·rw [decide_eq_true hk] at f4;rw [if_pos hk];simp [zkc,zkd,ea,eb,hn,f1,f2,f3,f4]
    ·rw [decide_eq_false hk] at f4;rw [if_neg hk];simp [zkc,zkd,ea,eb,hn,f1,f2,f3,f4,za9]
   ·have ho:=ybf a b;rw [yt2 ha hb] at ho;have es:zcg a b=(mkW (if mag a<mag b then b.n else a.n) (if mag a<mag b then mag b-mag a else mag a-mag b),true):=by
     have gen : ∀ (n:Bool) (m:Int),((zew a+zew b).natAbs:Int)=m->m<170141183460469231731687303715884105728->(decide (zew a+zew b<0) && decide (0<m))=(n && decide (0<m))->zcg a b=(mkW n m,true):=by
      intro n m h1 h2 h3;unfold zcg;rw [ka,kb,h1];simp only [Bool.and_self,if_true,if_pos h2];unfold mkW;rw [h3]
     unfold zew at gen;cases h:a.n <;> cases h':b.n <;> simp only [h,h'] at gen hn ⊢
     ·exact (hn trivial).elim
     ·by_cases hl:mag a<mag b
      ·rw [if_pos hl,if_pos hl];exact gen _ _ (by simp; omega) (by omega) (by rw [Bool.eq_iff_iff]; simp; omega)
      ·rw [if_neg hl,if_neg hl];exact gen _ _ (by simp; omega) (by omega) (by rw [Bool.eq_iff_iff]; simp; omega)
     ·by_cases hl:mag a<mag b
      ·rw [if_pos hl,if_pos hl];exact gen _ _ (by simp; omega) (by omega) (by rw [Bool.eq_iff_iff]; simp; omega)
      ·rw [if_neg hl,if_neg hl];exact gen _ _ (by simp; omega) (by omega) (by rw [Bool.eq_iff_iff]; simp; omega)
     ·exact (hn trivial).elim
    rw [es];have hnb:(a.n == b.n)=false:=by cases h:a.n <;> cases h':b.n <;> simp [h,h'] at hn ⊢
    by_cases hl:mag a<mag b
    ·obtain ⟨c,d,f1,f2⟩:=yu6 b a hb ha (by omega);have f3:=yc1 (n:=b.n) (m:=mag b-mag a) (by omega);have hs:zci (mag a) (mag b) = -1:=by unfold zci; rw [if_pos hl]
     rw [hs] at ho;rw [if_pos hl,if_pos hl];generalize mag b-mag a=m at *;generalize mkW b.n m=w at *;generalize m / 18446744073709551616=hi at *;generalize m % 18446744073709551616=lo at *;simp only [wd] at ea eb f3 ho ⊢;simp [zkc,zkd,ea,eb,hnb,ho,f1,f2,f3]
    ·obtain ⟨c,d,f1,f2⟩:=yu6 a b ha hb (by omega);have f3:=yc1 (n:=a.n) (m:=mag a-mag b) (by omega);have hs : ¬ zci (mag a) (mag b)<0:=by unfold zci; rw [if_neg hl]; split <;> omega
     rw [if_neg hl,if_neg hl];generalize mag a-mag b=m at *;generalize mkW a.n m=w at *;generalize m / 18446744073709551616=hi at *;generalize m % 18446744073709551616=lo at *;generalize zci (mag a) (mag b)=sg at *;simp only [wd] at ea eb f3 ho ⊢;simp [zkc,zkd,ea,eb,hnb,ho,hs,f1,f2,f3]
theorem qdq {a b:Wd} (ha:wfU a) (hb:wfU b) (ka:wok a=true) (kb:wok b=true) (hn:a.n=b.n):zcg a b=if mag a+mag b<170141183460469231731687303715884105728 then (mkW a.n (mag a+mag b),true) else (za9,false):=by
 obtain ⟨ma0,ma1,ma2⟩:=zme ha ka;obtain ⟨mb0,mb1,mb2⟩:=zme hb kb;unfold zcg zew;rw [ka,kb,<- hn];simp only [Bool.and_self,if_true];cases h:a.n with
 | true =>
  have e1:(-mag a + -mag b).natAbs=mag a+mag b:=by omega
  have e2 : -mag a + -mag b<0:=by have:=ma2 h; omega
  simp only [if_true,e1,decide_eq_true e2]
 | false =>
  have e1:((mag a+mag b).natAbs:Int)=mag a+mag b:=by omega
  have e2 : ¬ mag a+mag b<0:=by omega
  simp only [Bool.false_eq_true,if_false,e1,decide_eq_false e2]
theorem qcs {a b:Wd} (ha:wfU a) (hb:wfU b) (ka:wok a=true) (kb:wok b=true) (hn : ¬ a.n=b.n):zcg a b=(mkW (if mag a<mag b then b.n else a.n) (if mag a<mag b then mag b-mag a else mag a-mag b),true):=by
 obtain ⟨ma0,ma1,ma2⟩:=zme ha ka;obtain ⟨mb0,mb1,mb2⟩:=zme hb kb;have gen : ∀ (n:Bool) (m:Int),((zew a+zew b).natAbs:Int)=m->m<170141183460469231731687303715884105728->(decide (zew a+zew b<0) && decide (0<m))=(n && decide (0<m))->zcg a b=(mkW n m,true):=by
  intro n m h1 h2 h3;unfold zcg;rw [ka,kb,h1];simp only [Bool.and_self,if_true,if_pos h2];unfold mkW;rw [h3]
 unfold zew at gen;cases h:a.n <;> cases h':b.n <;> simp only [h,h'] at gen hn ⊢
 ·exact (hn trivial).elim
 ·by_cases hl:mag a<mag b
  ·rw [if_pos hl,if_pos hl];exact gen _ _ (by simp; omega) (by omega) (by rw [Bool.eq_iff_iff]; simp; omega)
  ·rw [if_neg hl,if_neg hl];exact gen _ _ (by simp; omega) (by omega) (by rw [Bool.eq_iff_iff]; simp; omega)
 ·by_cases hl:mag a<mag b
  ·rw [if_pos hl,if_pos hl];exact gen _ _ (by simp; omega) (by omega) (by rw [Bool.eq_iff_iff]; simp; omega)
  ·rw [if_neg hl,if_neg hl];exact gen _ _ (by simp; omega) (by omega) (by rw [Bool.eq_iff_iff]; simp; omega)
 ·exact (hn trivial).elim
theorem qb8 (a b:Wd) (ha:wfU a) (hb:wfU b) (h:mag a+mag b<340282366920938463463374607431768211456) :
  IntKind.u64.wrap (a.l+b.l)=(mag a+mag b) % 18446744073709551616/\((mag a+mag b) % 18446744073709551616<a.l->IntKind.u64.wrap (IntKind.u64.wrap (a.h+b.h)+1)=(mag a+mag b) / 18446744073709551616)/\(¬ (mag a+mag b) % 18446744073709551616<a.l->IntKind.u64.wrap (a.h+b.h)=(mag a+mag b) / 18446744073709551616):=by
 obtain ⟨a0,a1,a2,a3⟩:=ha;obtain ⟨b0,b1,b2,b3⟩:=hb;unfold mag at *;refine ⟨?_,fun h => ?_,fun h => ?_⟩ <;> simp only [zjh] at * <;> omega
theorem yna (a b:Wd) (ha:wfU a) (hb:wfU b) (h:mag b<=mag a) :
  IntKind.u64.wrap (a.l-b.l)=(mag a-mag b) % 18446744073709551616/\(a.l<b.l->IntKind.u64.wrap (IntKind.u64.wrap (a.h-b.h)-1)=(mag a-mag b) / 18446744073709551616)/\(¬ a.l<b.l->IntKind.u64.wrap (a.h-b.h)=(mag a-mag b) / 18446744073709551616):=by
 obtain ⟨a0,a1,a2,a3⟩:=ha;obtain ⟨b0,b1,b2,b3⟩:=hb;unfold mag at *;refine ⟨?_,fun h => ?_,fun h => ?_⟩ <;> simp only [zjh] at * <;> omega
theorem y84 (a b:Wd) (ha:wfU a) (hb:wfU b):RUN T zs7 [.agg (wd a),.agg (wd b)]=some ([.agg (wd (zcg a b).1),bv (zcg a b).2],[]):=by
 refine zae rfl rfl ?_;have ea:=zuc a;have eb:=zuc b;cases ka:wok a with
 | false =>
  have es:zcg a b=(za9,false):=by unfold zcg; simp [ka]
  rw [es]; rw [ka] at ea;simp only [wd] at ea;simp [zfw,zkd,wd,ea,za9]
 | true =>
  cases kb:wok b with
  | false =>
   have es:zcg a b=(za9,false):=by unfold zcg; simp [kb]
   rw [es]; rw [ka] at ea; rw [kb] at eb;simp only [wd] at ea eb;simp [zfw,zkd,wd,ea,eb,za9]
  | true =>
   obtain ⟨ma0,ma1,ma2⟩:=zme ha ka;obtain ⟨mb0,mb1,mb2⟩:=zme hb kb;rw [ka] at ea; rw [kb] at eb
   by_cases hn:a.n=b.n
   ·obtain ⟨f1,f2,f3⟩:=qb8 a b ha hb (by omega);have f4:=zuc (mkW a.n (mag a+mag b));rw [yb0 (by omega)] at f4;rw [qdq ha hb ka kb hn];have e6:mkW a.n (mag a+mag b)=⟨a.n,(mag a+mag b) / 18446744073709551616,(mag a+mag b) % 18446744073709551616⟩:=by
     unfold mkW
     congr 1
     cases h:a.n with
     | false=>rfl
     | true=>have:=ma2 h; simp; omega
    rw [e6] at f4 ⊢;generalize hm:mag a+mag b=m at *;generalize m / 18446744073709551616=hi at *;generalize m % 18446744073709551616=lo at *;simp only [wd] at ea eb f4 ⊢;rw [hn] at ea f4
    by_cases hc:lo<a.l
    ·have f2:=f2 hc
     by_cases hk:m<170141183460469231731687303715884105728
     ·rw [decide_eq_true hk] at f4;rw [if_pos hk];simp [zfw,zkd,ea,eb,hn,hc,f1,f2,f4]
     ·rw [decide_eq_false hk] at f4;rw [if_neg hk];simp [zfw,zkd,ea,eb,hn,hc,f1,f2,f4,za9]
    ·have f3:=f3 hc
     by_cases hk:m<170141183460469231731687303715884105728
     ·rw [decide_eq_true hk] at f4;rw [if_pos hk];simp [zfw,zkd,ea,eb,hn,hc,f1,f3,f4]
     ·rw [decide_eq_false hk] at f4;rw [if_neg hk];simp [zfw,zkd,ea,eb,hn,hc,f1,f3,f4,za9]
   ·have ho:=ybg a b;rw [yt2 ha hb] at ho;rw [qcs ha hb ka kb hn];have hnb:(a.n == b.n)=false:=by cases h:a.n <;> cases h':b.n <;> simp [h,h'] at hn ⊢
    by_cases hl:mag a<mag b
    ·obtain ⟨f1,f2,f3⟩:=yna b a hb ha (by omega);have hz:=zxh ⟨b.n,(mag b-mag a) / 18446744073709551616,(mag b-mag a) % 18446744073709551616⟩;have hs:zci (mag a) (mag b) = -1:=by unfold zci; rw [if_pos hl]
     rw [hs] at ho;rw [if_pos hl,if_pos hl];have e6:mkW b.n (mag b-mag a)=⟨b.n,(mag b-mag a) / 18446744073709551616,(mag b-mag a) % 18446744073709551616⟩:=by
      unfold mkW
      congr 1
      rw [decide_eq_true (show 0<mag b-mag a by omega),Bool.and_true]
     have e7:(decide ((mag b-mag a) / 18446744073709551616=0) && decide ((mag b-mag a) % 18446744073709551616=0))=false:=by
      rw [Bool.eq_false_iff]; simp; omega
     simp only at hz;rw [e7] at hz;rw [e6];clear e6 e7;generalize mag b-mag a=m at *;generalize m / 18446744073709551616=hi at *;generalize m % 18446744073709551616=lo at *;simp only [wd] at ea eb ho hz ⊢
     by_cases hc:b.l<a.l
     ·have f2:=f2 hc;simp [zfw,zkd,ea,eb,hnb,ho,hc,f1,f2,hz]
     ·have f3:=f3 hc;simp [zfw,zkd,ea,eb,hnb,ho,hc,f1,f3,hz]
    ·obtain ⟨f1,f2,f3⟩:=yna a b ha hb (by omega);have hz:=zxh ⟨a.n,(mag a-mag b) / 18446744073709551616,(mag a-mag b) % 18446744073709551616⟩;have hs : ¬ zci (mag a) (mag b)<0:=by unfold zci; rw [if_neg hl]; split <;> omega
     rw [if_neg hl,if_neg hl];generalize zci (mag a) (mag b)=sg at *
     by_cases h0:mag a-mag b=0
     ·have e6:mkW a.n (mag a-mag b)=⟨false,(mag a-mag b) / 18446744073709551616,(mag a-mag b) % 18446744073709551616⟩:=by
       unfold mkW
       congr 1
       simp [h0]
      have e7:(decide ((mag a-mag b) / 18446744073709551616=0) && decide ((mag a-mag b) % 18446744073709551616=0))=true:=by
       simp; omega
      simp only at hz;rw [e7] at hz;rw [e6];clear e6 e7 h0;generalize mag a-mag b=m at *;generalize m / 18446744073709551616=hi at *;generalize m % 18446744073709551616=lo at *;simp only [wd] at ea eb ho hz ⊢
      by_cases hc:a.l<b.l
      ·have f2:=f2 hc;simp [zfw,zkd,ea,eb,hnb,ho,hs,hc,f1,f2,hz]
      ·have f3:=f3 hc;simp [zfw,zkd,ea,eb,hnb,ho,hs,hc,f1,f3,hz]
     ·have e6:mkW a.n (mag a-mag b)=⟨a.n,(mag a-mag b) / 18446744073709551616,(mag a-mag b) % 18446744073709551616⟩:=by
       unfold mkW
       congr 1
       rw [decide_eq_true (show 0<mag a-mag b by omega),Bool.and_true]
      have e7:(decide ((mag a-mag b) / 18446744073709551616=0) && decide ((mag a-mag b) % 18446744073709551616=0))=false:=by
       rw [Bool.eq_false_iff]; simp; omega
      simp only at hz;rw [e7] at hz;rw [e6];clear e6 e7 h0;generalize mag a-mag b=m at *;generalize m / 18446744073709551616=hi at *;generalize m % 18446744073709551616=lo at *;simp only [wd] at ea eb ho hz ⊢
      by_cases hc:a.l<b.l
      ·have f2:=f2 hc;simp [zfw,zkd,ea,eb,hnb,ho,hs,hc,f1,f2,hz]
      ·have f3:=f3 hc;simp [zfw,zkd,ea,eb,hnb,ho,hs,hc,f1,f3,hz]
theorem qct {a b:Int} (ha:inI a) (hb:inI b):wfU (zen a b):=by
 obtain ⟨m0,m1⟩:=yr7 ha hb;exact yeb m0 (by omega)
def zdh (w:Wd) (k:Int):Wd×Bool:=if wok w=true/\mag w*k.natAbs<170141183460469231731687303715884105728 then (mkW (w.n != decide (k<0)) (mag w*k.natAbs),true) else (za9,false)
theorem ynn (w:Wd) (k:Int) (hw:wfU w) (hk:inI k) : ∃ p q:Int,w.h*k.natAbs=p/\w.l*k.natAbs=q/\0<=p/\0<=q/\q<=170141183460469231722463931679029329920/\mag w*k.natAbs=p*18446744073709551616+q:=by
 obtain ⟨a0,a1,a2,a3⟩:=hw;obtain ⟨k0,k1⟩:=zkk hk;refine ⟨_,_,rfl,rfl,Int.mul_nonneg a0 k0,Int.mul_nonneg a2 k0,Int.le_trans (Int.mul_le_mul (show w.l<=18446744073709551615 by omega) k1 k0 (by decide)) (by decide),?_⟩;unfold mag;rw [Int.add_mul,Int.mul_assoc,Int.mul_comm 18446744073709551616,<- Int.mul_assoc]
theorem yp4 (w:Wd) (k:Int) (ka:wok w=true) (p q:Int) (p0:0<=p) (q0:0<=q) (q1:q<=170141183460469231722463931679029329920) (hP:mag w*k.natAbs=p*18446744073709551616+q) :
  (zdh w k=(za9,false)/\(0<p / 18446744073709551616\/0<(p % 18446744073709551616+q / 18446744073709551616) / 18446744073709551616\/wok ⟨(w.n != decide (k<0)) && (decide (0<(p % 18446744073709551616+q / 18446744073709551616) % 18446744073709551616) || decide (0<q % 18446744073709551616)),(p % 18446744073709551616+q / 18446744073709551616) % 18446744073709551616,q % 18446744073709551616⟩=false)) \/
  (zdh w k=(⟨(w.n != decide (k<0)) && (decide (0<(p % 18446744073709551616+q / 18446744073709551616) % 18446744073709551616) || decide (0<q % 18446744073709551616)),(p % 18446744073709551616+q / 18446744073709551616) % 18446744073709551616,q % 18446744073709551616⟩,true)/\¬ 0<p / 18446744073709551616/\¬ 0<(p % 18446744073709551616+q / 18446744073709551616) / 18446744073709551616/\wok ⟨(w.n != decide (k<0)) && (decide (0<(p % 18446744073709551616+q / 18446744073709551616) % 18446744073709551616) || decide (0<q % 18446744073709551616)),(p % 18446744073709551616+q / 18446744073709551616) % 18446744073709551616,q % 18446744073709551616⟩=true):=by
 by_cases hk:p*18446744073709551616+q<170141183460469231731687303715884105728
 ·right;have e:(⟨(w.n != decide (k<0)) && (decide (0<(p % 18446744073709551616+q / 18446744073709551616) % 18446744073709551616) || decide (0<q % 18446744073709551616)),(p % 18446744073709551616+q / 18446744073709551616) % 18446744073709551616,q % 18446744073709551616⟩:Wd)=mkW (w.n != decide (k<0)) (p*18446744073709551616+q):=by
   unfold mkW
   congr 1
   ·congr 1
    rw [Bool.eq_iff_iff]; simp; omega
   ·omega
   ·omega
  rw [e,yb0 (by omega)];refine ⟨?_,by omega,by omega,decide_eq_true hk⟩;unfold zdh;rw [hP,if_pos ⟨ka,hk⟩]
 ·left;refine ⟨?_,?_⟩
  ·unfold zdh;rw [hP,if_neg (fun h=>hk h.2)]
  ·by_cases h1:0<p / 18446744073709551616
   ·exact .inl h1
   ·by_cases h2:0<(p % 18446744073709551616+q / 18446744073709551616) / 18446744073709551616
    ·exact .inr (.inl h2)
    ·refine .inr (.inr ?_);unfold wok;rw [decide_eq_false (show ¬ (p % 18446744073709551616+q / 18446744073709551616) % 18446744073709551616<9223372036854775808 by omega)];rfl
theorem ymg (w:Wd) (k:Int) (hw:wfU w) (hk:inI k):RUN T zn4 [.agg (wd w),iv k]=some ([.agg (wd (zdh w k).1),bv (zdh w k).2],[]):=by
 refine zae rfl rfl ?_;have ea:=zub w;cases ka:wok w with
 | false =>
  have es:zdh w k=(za9,false):=by unfold zdh; simp [ka]
  rw [es]; rw [ka] at ea;simp only [wd] at ea;simp [zhs,zkd,wd,ea,za9]
 | true =>
  rw [ka] at ea;obtain ⟨a0,a1,a2,a3⟩:=hw;obtain ⟨k0,k1⟩:=zkk hk;have e1:=ybd k hk;have e2:=ybb w.h k.natAbs a0 a1 k0 (by omega);have e3:=ybb w.l k.natAbs a2 a3 k0 (by omega);obtain ⟨p,q,hp,hq,p0,q0,q1,hP⟩:=ynn w k ⟨a0,a1,a2,a3⟩ hk;rw [hp] at e2;rw [hq] at e3;have e4:=yd2 yax (x:=p % 18446744073709551616) (y:=q / 18446744073709551616) (c:=0) (by omega) (by omega) (by decide) (by decide);rw [Int.add_zero] at e4;have e5:=zxg (w.n != decide (k<0)) ((p % 18446744073709551616+q / 18446744073709551616) % 18446744073709551616) (q % 18446744073709551616);have e6:=zub ⟨(w.n != decide (k<0)) && (decide (0<(p % 18446744073709551616+q / 18446744073709551616) % 18446744073709551616) || decide (0<q % 18446744073709551616)),(p % 18446744073709551616+q / 18446744073709551616) % 18446744073709551616,q % 18446744073709551616⟩;have key:=yp4 w k ka p q p0 q0 q1 hP;generalize ((w.n != decide (k<0)) && (decide (0<(p % 18446744073709551616+q / 18446744073709551616) % 18446744073709551616) || decide (0<q % 18446744073709551616)))=sn at *;generalize p / 18446744073709551616=P1 at *;generalize p % 18446744073709551616=P2 at *;generalize q / 18446744073709551616=Q1 at *;generalize q % 18446744073709551616=Q2 at *;generalize (P2+Q1) / 18446744073709551616=S1 at *;generalize (P2+Q1) % 18446744073709551616=S2 at *;generalize zdh w k=r at *;generalize wok ⟨sn,S2,Q2⟩=o at *;obtain ⟨wn,wh,wl⟩:=w;simp only [wd] at ea e5 e6 ⊢;simp only at e2 e3;rcases key with ⟨rfl,c | c | rfl⟩ | ⟨rfl,c1,c2,rfl⟩
  ·cases wn <;> by_cases sb:k<0 <;> simp [sb] at e5 <;> simp [zhs,zkd,ea,e1,e2,e3,e4,e5,sb,c,za9]
  ·by_cases c':0<P1
   ·cases wn <;> by_cases sb:k<0 <;> simp [sb] at e5 <;> simp [zhs,zkd,ea,e1,e2,e3,e4,e5,sb,c',za9]
   ·cases wn <;> by_cases sb:k<0 <;> simp [sb] at e5 <;> simp [zhs,zkd,ea,e1,e2,e3,e4,e5,sb,c',c,za9]
  ·by_cases c':0<P1
   ·cases wn <;> by_cases sb:k<0 <;> simp [sb] at e5 <;> simp [zhs,zkd,ea,e1,e2,e3,e4,e5,sb,c',za9]
   ·by_cases c:0<S1
    ·cases wn <;> by_cases sb:k<0 <;> simp [sb] at e5 <;> simp [zhs,zkd,ea,e1,e2,e3,e4,e5,sb,c',c,za9]
    ·cases wn <;> by_cases sb:k<0 <;> simp [sb] at e5 <;> simp [zhs,zkd,ea,e1,e2,e3,e4,e5,e6,sb,c',c,za9]
  ·cases wn <;> by_cases sb:k<0 <;> simp [sb] at e5 <;> simp [zhs,zkd,ea,e1,e2,e3,e4,e5,e6,sb,c1,c2]
theorem ymh (w:Wd) (k:Int) (hw:wfU w) (hk:inI k):RUN T zn5 [.agg (wd w),iv k]=some ([.agg (wd (zdh w k).1),bv (zdh w k).2],[]):=by
 refine zae rfl rfl ?_;have ea:=zuc w;cases ka:wok w with
 | false =>
  have es:zdh w k=(za9,false):=by unfold zdh; simp [ka]
  rw [es]; rw [ka] at ea;simp only [wd] at ea;simp [zhu,zkd,wd,ea,za9]
 | true =>
  rw [ka] at ea;obtain ⟨a0,a1,a2,a3⟩:=hw;obtain ⟨k0,k1⟩:=zkk hk;have e1:=ybe k hk;have e2:=ybc w.h k.natAbs a0 a1 k0 (by omega);have e3:=ybc w.l k.natAbs a2 a3 k0 (by omega);obtain ⟨p,q,hp,hq,p0,q0,q1,hP⟩:=ynn w k ⟨a0,a1,a2,a3⟩ hk;rw [hp] at e2;rw [hq] at e3;have e4:=zxh ⟨w.n != decide (k<0),(p % 18446744073709551616+q / 18446744073709551616) % 18446744073709551616,q % 18446744073709551616⟩;have e5:(decide (0<(p % 18446744073709551616+q / 18446744073709551616) % 18446744073709551616) || decide (0<q % 18446744073709551616)) = !(decide ((p % 18446744073709551616+q / 18446744073709551616) % 18446744073709551616=0) && decide (q % 18446744073709551616=0)):=by
   rw [Bool.eq_iff_iff]; simp; omega
  have e6:=zuc ⟨(w.n != decide (k<0)) && (decide (0<(p % 18446744073709551616+q / 18446744073709551616) % 18446744073709551616) || decide (0<q % 18446744073709551616)),(p % 18446744073709551616+q / 18446744073709551616) % 18446744073709551616,q % 18446744073709551616⟩;have e7:0<(p % 18446744073709551616+q / 18446744073709551616) / 18446744073709551616↔(p % 18446744073709551616+q / 18446744073709551616) % 18446744073709551616<p % 18446744073709551616:=by omega
  have e8:=zjh (p % 18446744073709551616+q / 18446744073709551616);have key:=yp4 w k ka p q p0 q0 q1 hP;rw [e7] at key;rw [e5] at key e6;clear e7 e5;simp only at e4;generalize (decide ((p % 18446744073709551616+q / 18446744073709551616) % 18446744073709551616=0) && decide (q % 18446744073709551616=0))=z at *;generalize p / 18446744073709551616=P1 at *;generalize p % 18446744073709551616=P2 at *;generalize q / 18446744073709551616=Q1 at *;generalize q % 18446744073709551616=Q2 at *;generalize (P2+Q1) % 18446744073709551616=S2 at *;generalize zdh w k=r at *;generalize hsn:((w.n != decide (k<0)) && !z)=sn at *;generalize wok ⟨sn,S2,Q2⟩=o at *;obtain ⟨wn,wh,wl⟩:=w;simp only [wd] at ea e4 e6 ⊢;simp only at e2 e3 hsn;rcases key with ⟨rfl,c | c | rfl⟩ | ⟨rfl,c1,c2,rfl⟩
  ·cases wn <;> by_cases sb:k<0 <;> cases z <;> simp [sb] at e4 <;> simp [zhu,zkd,ea,e1,e2,e3,e4,e8,sb,c,za9]
  ·by_cases c':0<P1
   ·cases wn <;> by_cases sb:k<0 <;> cases z <;> simp [sb] at e4 <;> simp [zhu,zkd,ea,e1,e2,e3,e4,e8,sb,c',za9]
   ·cases wn <;> by_cases sb:k<0 <;> cases z <;> simp [sb] at e4 <;> simp [zhu,zkd,ea,e1,e2,e3,e4,e8,sb,c',c,za9]
  ·by_cases c':0<P1
   ·cases wn <;> by_cases sb:k<0 <;> cases z <;> simp [sb] at e4 <;> simp [zhu,zkd,ea,e1,e2,e3,e4,e8,sb,c',za9]
   ·by_cases c:S2<P2
    ·cases wn <;> by_cases sb:k<0 <;> cases z <;> simp [sb] at e4 <;> simp [zhu,zkd,ea,e1,e2,e3,e4,e8,sb,c',c,za9]
    ·cases wn <;> by_cases sb:k<0 <;> cases z <;> simp [sb] at e4 hsn <;> subst hsn <;> simp [zhu,zkd,ea,e1,e2,e3,e4,e6,e8,sb,c',c,za9]
  ·cases wn <;> by_cases sb:k<0 <;> cases z <;> simp [sb] at e4 hsn <;> subst hsn <;> simp [zhu,zkd,ea,e1,e2,e3,e4,e6,e8,sb,c1,c2]
def ze1 (w:Wd):Bool:=w.n && !(decide (w.h=0) && decide (w.l=0))
def zkr (a b:Wd):Int:=if ze1 a=true then (if ze1 b=true then ze4 b a else -1) else (if ze1 b=true then 1 else ze4 a b)
theorem y85 (a b:Wd):RUN T zs3 [.agg (wd a),.agg (wd b)]=some ([iv (zkr a b)],[]):=by
 refine zae rfl rfl ?_;have e1:=zxh a;have e2:=zxh b;have e3:=ybg a b;have e4:=ybg b a;unfold zkr ze1;generalize ze4 a b=x at *;generalize ze4 b a=y at *;generalize (decide (a.h=0) && decide (a.l=0))=z at *;generalize (decide (b.h=0) && decide (b.l=0))=z' at *;obtain ⟨an,ah,al⟩:=a;obtain ⟨bn,bh,bl⟩:=b;simp only [wd] at e1 e2 e3 e4 ⊢;cases an <;> cases bn <;> cases z <;> cases z' <;> simp [z64,zyz,e1,e2,e3,e4]
theorem z8c (l:List Nd) (x:Nd):l.map nd++[[iv x.f,iv x.c,iv x.l,iv x.r,iv x.v]]=(l++[x]).map nd:=by simp [nd]
theorem z9d {l:List Nd} {i:Nat} {x:Nd} (h:l[i]?=some x):(l.map nd)[i]?=some [iv x.f,iv x.c,iv x.l,iv x.r,iv x.v]:=by simp [h,nd]
def ytk (t:List Nd) (k:Nat) (f c a b:Int):List Nd:=t.set k ⟨f,c,t.length,t.length+1,0⟩++[⟨-1,0,0,0,a⟩,⟨-1,0,0,0,b⟩]
theorem qdt (l:List Nd):zch (l.map nd)=true:=by simp [zch,nd]
theorem yoe (t:List Nd) (k:Nat) (f c l r v:Int):(t.map nd).set k [iv f,iv c,iv l,iv r,iv v]=(t.set k ⟨f,c,l,r,v⟩).map nd:=by
 rw [List.map_set]; rfl
def GS (r:List PV×List PV):Prop := ∃ s:ByteArray,r=([.v (.string s)],[])
theorem y86 (k:Int) (hk:k<=4611686018427387904) : ∃ r,RUN T zjt [iv k]=some r/\GS r:=by
 refine qc5 rfl rfl ?_
 by_cases c:k<=0
 ·simp [-getElem?_pos,zwd,zjz,c];exact ⟨_,rfl⟩
 obtain ⟨n,rfl⟩ : ∃ n:Nat,k=n:=⟨k.toNat,by omega⟩;have c0 : ¬ n=0:=by omega
 simp [-getElem?_pos,zwd,zjz,c0];have hsz : ∀ b:UInt8,(⟨#[b]⟩:ByteArray).size=1:=fun b=>rfl;have hs0:(bs []).size=0:=rfl;refine zao (fun m st => ∃ s:ByteArray,s.size+m<=n/\st.V 0=iv m/\st.V 3 = .v (.string s)) ?_ n _ ⟨bs [],by omega,by simp⟩;rintro m st ⟨s,hs,v0,v3⟩;simp [yfp,v0];refine zaw (fun h => ?_) (fun h => ?_)
 ·simp at h;have hq:((m:Int)).tdiv 10=((m / 10:Nat):Int):=by
   rw [Int.tdiv_eq_ediv_of_nonneg (by omega)]; omega
  have hwq:IntKind.i64.wrap ((m / 10:Nat):Int)=((m / 10:Nat):Int):=w64 (by omega) (by omega);generalize hx:IntKind.u8.wrap (IntKind.i64.wrap (48+(m:Int).tmod 10))=x;obtain ⟨b,hby⟩ : ∃ b:UInt8,zi4 [[.v (.int .u8 x)]]=some [b]:=⟨_,rfl⟩;have hc:((⟨#[b]⟩:ByteArray).size:Int)+(s.size:Int)<=9223372036854775807:=by rw [hsz]; omega
  have hsa:((⟨#[b]⟩:ByteArray)++s).size=1+s.size:=by rw [ByteArray.size_append,hsz]
  simp [-getElem?_pos,v0,v3,hx,hby,hc,hq,hwq];have hwq':IntKind.i64.wrap ((m:Int) / 10)=(m:Int) / 10:=w64 (by omega) (by omega);exact zai (m / 10) (by omega) ⟨_,by rw [hsa]; omega,by simp [hwq']⟩
 ·have hc:((bs [109]).size:Int)+(s.size:Int)<=9223372036854775807:=by
   have:(bs [109]).size=1:=rfl;rw [this]; omega
  simp [-getElem?_pos,v0,v3,hc];exact ⟨_,rfl⟩
theorem qjf (l:List ByteArray) (i:Nat) (s:ByteArray):(za4 l).set i [.v (.string s)]=za4 (l.set i s):=by simp [za4]
def zgh (k:Int) (M:List (List Nd)) (j:Nat):List Nd:=zff (k+5*zba (M.take j)) (M.getD j []).length
theorem yn9 {L:List (List Nd)} {i:Nat} {l:List Nd} (h:L[i]?=some l):zba (L.take (i+1))=zba (L.take i)+l.length:=by
 unfold zba;rw [List.take_succ,h]; simp
theorem yuo (L:List (List Nd)) (i:Nat):zba (L.take i)<=zba L:=by
 induction L generalizing i with
 | nil=>simp
 | cons a L ih =>
  cases i with
  | zero=>simp [zba]
  | succ i=>rw [List.take_succ_cons,yaa,yaa]; have:=ih i; omega
theorem ymi (L:List (List Nd)) (k:Int) (h0:0<=k) (hk:k+5*zba L<=9223372036854775806) (hL:L.length<=9223372036854775807):RUN T zq0 [.own 1 (trs true L),iv k]=some ([iv (k+5*zba L)],[.own 1 (trs true ((List.range L.length).map (zgh k L)))]):=by
 refine zae rfl rfl ?_;simp [-getElem?_pos,z1n,zyz];obtain ⟨f,hf⟩ : ∃ f:Nat->List PV,f=fun j=>[zfa true (zgh k L j)]:=⟨_,rfl⟩;refine zao (fun n st => ∃ i:Nat,i+n=L.length/\1<=st.nx/\st.V 0 = .ref 0 none 0 0 L.length/\st.V 1=iv (k+5*zba (L.take i))/\st.V 5=iv i/\st.S 0=some (.row 1 (mix f (trs true L) i))) ?_ L.length _ ⟨0,by simp [z9c,zba]⟩;rintro n st ⟨i,hi,hnx,v0,v1,v5,hS⟩;simp [yff,v0,v1,v5,hS];refine zaw (fun h => ?_) (fun h => ?_)
 ·simp at h;obtain ⟨l,hx⟩ : ∃ l,L[i]?=some l:=⟨_,bG h⟩;have hw:=wS h hL;have hx':=zmm (q:=true) hx;have hg:=(z8o (f:=f) (l:=trs true L) (i:=i)).trans hx';have hs:=z8p (f:=f) (l:=trs true L) (i:=i) (by simpa using h);have hle:=yuo L (i+1);have htk:=yn9 hx;have hM:=y70 l (k+5*zba (L.take i)) (by omega) (by omega);have hsc : ∀ d:PV,zb2 (mix f (trs true L) i) i 0 d=(mix f (trs true L) i).set i [d]:=fun d=>z97 hg;have hfi:f i=[.own 5 ((zff (k+5*zba (L.take i)) l.length).map nd)]:=by rw [hf]; simp [zgh,hx,zfa]
  rw [hfi] at hs;have hml:=z9k (f:=f) (l:=trs true L) (i:=i) (by simp; omega);simp at hml;have hss : ∀ d:PV,zb2 ((mix f (trs true L) i).set i [.undef]) i 0 d=(mix f (trs true L) i).set i [d]:=fun d=>by
   rw [z97 (c := .undef) (by rw [List.getElem?_set_self (by omega)]),List.set_set]
  simp only [zfa,if_true] at hg;generalize hnn:zff (k+5*zba (L.take i)) l.length=nn at *;have hnl:nn.length=l.length:=by rw [<- hnn]; simp [zff]
  obtain ⟨z1,z2,z3,z4⟩:=fr (show 0<st.nx by omega);simp [-getElem?_pos,v0,v1,v5,hS,h,hg,hml,hM,hsc,hss,hs,hw,hnl,z1,z2,z3,z4,zbv];refine zai (n-1) (by omega) ⟨i+1,by omega,by simp,by simp [v0],?_,by simp⟩;simp [htk]; omega
 ·simp at h;have e:=z83 (f:=f) (l:=trs true L) (i:=i) (by simp; omega);have e2:i=L.length:=by omega
  subst e2;rw [e] at hS;rw [List.take_length] at v1;have e3:trs true ((List.range L.length).map (zgh k L))=(List.range L.length).map f:=by rw [hf]; simp [trs,Function.comp_def]
  rw [e3];simp [-getElem?_pos,hS,v1]
theorem qfp (st:St):zje st 3=(((zgd (st.S 0)).map fun x=>[x]).bind fun l=>(zgd (st.S 1)).map fun x=>l++[x]).bind fun l=>(zgd (st.S 2)).map fun x=>l++[x]:=rfl
theorem yqq (M:List (List Nd)) (t:List Nd):trs true M++[[.own 5 (t.map nd)]]=trs true (M++[t]):=by simp [trs,zfa]
theorem z9n (L:List (List Int)) (r:List Int):rws true L++[[.own 1 (zab r)]]=rws true (L++[r]):=by simp [rws,cel]
def pos (x:Int) (l:List Int):Nat->Nat
 | 0=>0
 | k+1=>if x<l.getD k 0 then pos x l k else k+1
def ins (l:List Int) (x:Int):List Int:=l.take (pos x l l.length)++x::l.drop (pos x l l.length)
def zd3 (l:List Int):List Int:=l.foldl ins []
theorem yei (x:Int) (l:List Int) : ∀ k,pos x l k<=k
 | 0=>by simp [pos]
 | k+1=>by
  have:=yei x l k;simp only [pos]; split <;> omega
theorem qdv (l:List Int) (x:Int):(ins l x).length=l.length+1:=by
 have:=yei x l l.length;unfold ins;simp; omega
theorem qf0 {l:List Int} {i:Nat} {x:Int} (h:l[i]?=some x):(l.take (i+1)).foldl ins []=ins ((l.take i).foldl ins []) x:=by
 rw [List.take_succ,h];simp [List.foldl_append]
theorem qiw (l:List Int) : ∀ a:List Int,(l.foldl ins a).length=a.length+l.length:=by
 induction l with
 | nil=>intro a; rfl
 | cons x l ih=>intro a; simp only [List.foldl_cons,ih,qdv,List.length_cons]; omega
theorem qb5 (a:List Int) (p:Nat):List.take (a.length-p) (List.drop p (zab a))=zab (a.drop p):=by
 rw [List.take_of_length_le (by simp)];simp [zab,List.map_drop]
theorem qgu (a:List Int) (p:Nat) (h:p<=a.length):(if p=a.length then zab a else List.take p (zab a))=zab (a.take p):=by
 split
 ·rename_i e; subst e; rw [List.take_length]
 ·simp [zab,List.map_take]
theorem yd0 (x:Int) (l:List Int) (k:Nat):pos x l (k+1)=if x<l.getD k 0 then pos x l k else k+1:=rfl
def zec (x:Int) (l:List Int) (k P:Nat):Prop:=pos x l k=P
theorem zec.on {x y:Int} {l:List Int} {k P:Nat} (h:zec x l (k+1) P) (hy:l[k]?=some y) (hc:x<y):zec x l k P:=by
 unfold zec at *;rw [yd0] at h;simp only [List.getD,hy,Option.getD_some,if_pos hc] at h;exact h
theorem zec.off {x y:Int} {l:List Int} {k P:Nat} (h:zec x l (k+1) P) (hy:l[k]?=some y) (hc : ¬ x<y):k+1=P:=by
 unfold zec at *;rw [yd0] at h;simp only [List.getD,hy,Option.getD_some,if_neg hc] at h;exact h
theorem zec.ex (x:Int) (l:List Int) (k:Nat) : ∃ P,zec x l k P:=⟨_,rfl⟩
theorem zec.z {x:Int} {l:List Int} {P:Nat} (h:zec x l 0 P):0=P:=h
theorem z8l {x:Int} {l:List Int} {P:Nat} (h:zec x l l.length P):ins l x=l.take P++x::l.drop P:=by unfold zec at h; unfold ins; rw [h]
attribute [irreducible] pos ins zec
theorem ymj (l:List Int) (hl:l.length<=1048576):RUN T znk [.sl 1 (zab l)]=some ([.own 1 (zab (zd3 l))],[]):=by
 refine zae rfl rfl ?_;have hr0:zah 8 0=true:=by decide
 simp [-getElem?_pos,z4a,zzx,hr0];refine zao (fun n st => ∃ (i o e:Nat) (a:List Int),i+n=l.length/\a=(l.take i).foldl ins []/\a.length=i/\st.V 0 = .sl 1 (zab l)/\st.V 3 = .ref o none e 0 a.length/\st.V 4=iv i/\o<st.nx/\st.S o=some (.row 1 (zab a))) ?_ l.length _ ⟨0,0,0,[],by simp [zab]⟩;rintro n st ⟨i,o,e,a,hi,ha,hal,v0,v3,v4,hox,hSo⟩;simp [yfs,v0,v4];obtain ⟨f1,f2,f3,f4⟩:=fr hox;refine zaw (fun h => ?_) (fun h => ?_)
 ·simp at h;obtain ⟨x,hx⟩ : ∃ x,l[i]?=some x:=⟨_,bG h⟩;have hx':=zay hx;have hws:=wS h (by omega:l.length<=9223372036854775807);have hft:=qf0 hx;rw [<- ha] at hft;obtain ⟨P,hP⟩ : ∃ P,zec x a a.length P:=zec.ex x a a.length;simp [-getElem?_pos,v0,v3,v4,hSo];refine zao (fun n' s => ∃ j:Nat,n'=j/\j<=a.length/\zec x a j P/\s.V 0 = .sl 1 (zab l)/\s.V 3 = .ref o none e 0 a.length/\s.V 4=iv i/\s.V 5=iv j/\s.nx=st.nx/\s.S o=some (.row 1 (zab a))) ?_ a.length _ ⟨a.length,by omega,by omega,hP,by simp [v0,v3,v4,hSo]⟩;rintro n' s ⟨j,hjn,hj,hp,u0,u3,u4,u5,unx,hSo'⟩;clear v0 v3 v4 hSo;obtain ⟨g1,g2,g3,g4⟩:=fr (show o<s.nx by omega);obtain ⟨_,_,g5,g6⟩:=fr (show o<s.nx+1 by omega);obtain ⟨_,_,g7,g8⟩:=fr (show o<s.nx+2 by omega);have hcr : ∀ c:Nat,c<=a.length+1->zah 8 c=true:=fun c hc=>zdc (by omega);have hr1:zah 8 1=true:=by decide
  by_cases h0:0<j
  ·obtain ⟨q,rfl⟩ : ∃ q:Nat,j=q+1:=⟨j-1,by omega⟩;have hw:=w64 (x:=(q:Int)) (by omega) (by omega);obtain ⟨y,hy⟩ : ∃ y,a[q]?=some y:=⟨_,bG (by omega)⟩;have hy':=zay hy;have hqa:q<a.length:=by omega
   by_cases hc:x<y
   ·have hp':=hp.on hy hc;simp [-getElem?_pos,z39,u0,u3,u4,u5,hSo',hx',h,h0,hw,hy',hqa,hc];exact zai q (by omega) ⟨q,rfl,by omega,hp',by simp [u0,u3,u4,unx,hSo']⟩
   ·have hp':=hp.off hy hc;have hk1:=hcr (q+1) (by omega);have hk2:=zdc (n:=q+1+1) (by omega);have hk3:=hcr (a.length+1) (by omega);have hcut:=qgu a (q+1) (by omega);have hal2 : ∀ b:List Int,zch (zab b)=true:=ytl;have hmin:(a.take (q+1)).length=q+1:=by simp; omega
    have hdr:=qb5 a (q+1);have hmd:(a.drop (q+1)).length=a.length-(q+1):=by simp
    have hsn:=zc6 (a.take (q+1)) x;have hap:=qcx (a.take (q+1)++[x]) (a.drop (q+1));have hk4:=zdc (n:=q+2+(a.length-(q+1))) (by omega);have hin:=z8l hP;rw [<- hp'] at hin;have hlen2:q+2+(a.length-(q+1))=a.length+1:=by omega
    simp [-getElem?_pos,z39,u0,u3,u4,u5,hSo',hx',h,h0,hw,hy',hqa,hc,hj,g1,g2,g3,g4,g5,g6,g7,g8,hr1,hk1,hk2,hk3,hcut,hal2,hmin,hdr,hmd,hsn,hap,hk4,hlen2];refine zai (n-1) (by omega) ⟨i+1,s.nx+2+2,s.ep,a.take (q+1)++x::a.drop (q+1),by omega,by rw [hft,hin],by simp; omega,by simp [u0],by simp; omega,by simp [hws]⟩
  ·have h0':j=0:=by omega
   subst h0';have hp':=hp.z;have hk0:=hcr 0 (by omega);have hk3:=hcr (a.length+1) (by omega);have hcut:(if 0=a.length then zab a else [])=([]:List (List PV)):=by
    split
    ·rename_i e;have:a=[]:=List.length_eq_zero_iff.mp e.symm;subst this; rfl
    ·rfl
   have hal2 : ∀ b:List Int,zch (zab b)=true:=ytl;have hin:=z8l hP;rw [<- hp'] at hin;have hcons:[iv x]::zab a=zab (x::a):=rfl;have hk4:=hcr (1+a.length) (by omega);have hk5:=hcr (a.length+1) (by omega);simp [-getElem?_pos,z39,u0,u3,u4,u5,hSo',hx',h,g1,g2,g3,g4,g5,g6,g7,g8,hr1,hk0,hk3,hcut,hal2,hcons,hk4,hk5];refine zai (n-1) (by omega) ⟨i+1,s.nx+2+2,s.ep,x::a,by omega,by rw [hft,hin]; simp,by (try simp); try omega,by simp [u0],by (try simp); try omega,by simp [hws]⟩
 ·simp at h;have e1:i=l.length:=by omega
  rw [e1,List.take_length] at ha;simp [-getElem?_pos,v3,hSo,zd3,<- ha]
theorem Shaped.wf {t:List Nd} {F:Int} (h:Shaped t F) (hF:F<=100) (hl:t.length<=31) : ∀ n∈t,wfN n:=by
 intro n hn;obtain ⟨j,hj⟩:=bH hn;unfold wfN inI
 by_cases hf:n.f = -1
 ·obtain ⟨h1,h2,h3,h4⟩:=h.leaf j n hj hf;have:=za3.mp h4;omega
 ·have hi:=h.inner j n hj hf;have h1:=za3.mp hi.c;have h2:=hi.f;have h3:=hi.lo;have h4:=hi.r;have h5:=hi.hi;have h6:=hi.v;omega
structure Ta where
 ns:List ByteArray
 nm:ByteArray
 rw:List (List Int)
 lb:List Int
abbrev taS (q:Bool) (t:Ta):PV := .agg [.sl 1 (za4 t.ns),.v (.string t.nm),.sl 1 (rws q t.rw),.sl 1 (zab t.lb)]
abbrev taO (t:Ta):PV := .agg [.own 1 (za4 t.ns),.v (.string t.nm),.own 1 (rws true t.rw),.own 1 (zab t.lb)]
structure TaL (n:Nat) (t:Ta):Prop where
 ns:t.ns.length<=n
 ss : ∀ x∈t.ns,x.size<=n
 nm:t.nm.size<=n
 rw:t.rw.length<=n
 rr : ∀ l∈t.rw,l.length<=n
 lb:t.lb.length<=n
def zf8 (t:Ta):Nat:=zeb t.ns+t.nm.size+tot t.rw+t.lb.length
theorem TaL.of {t:Ta} (h:zf8 t<=1048576):TaL 1048576 t:=by
 have h1:zf8 t=zeb t.ns+t.nm.size+tot t.rw+t.lb.length:=rfl;have h2:zeb t.ns=t.ns.length+szs t.ns:=rfl;have h3:tot t.rw=t.rw.length+za7 t.rw:=rfl;exact ⟨by omega,fun x hx=>by have:=yn2 hx; omega,by omega,by omega,fun l hl=>by have:=ydz hl; omega,by omega⟩
theorem y87 (q:Bool) (t:Ta) (left:Int) (h0:0<=left) (h1:left<=1048576) (ht:TaL 9223372036854775807 t):RUN T zpx [taS q t,iv left]=some ([iv (if left-zf8 t<0 then -1 else left-zf8 t)],[]):=by
 refine zae rfl rfl ?_;have htt:zf8 t=zeb t.ns+t.nm.size+tot t.rw+t.lb.length:=rfl;have hnm:=ht.nm;have e1:=y8p t.ns left h0 h1 ht.ns ht.ss
 by_cases d:left-zeb t.ns<0
 ·rw [if_pos d] at e1;rw [if_pos (by omega)];simp [zl5,zyz,e1]
 ·rw [if_neg d] at e1;have w1:=w64 (x:=left-zeb t.ns-t.nm.size) (by omega) (by omega)
  by_cases d1:left-zeb t.ns-t.nm.size<0
  ·rw [if_pos (by omega)];simp [zl5,zyz,e1,d,w1,d1]
  ·have e2:=ya3 q t.rw (left-zeb t.ns-t.nm.size) (by omega) (by omega) ht.rw ht.rr
   by_cases d2:left-zeb t.ns-t.nm.size-tot t.rw<0
   ·rw [if_pos d2] at e2;rw [if_pos (by omega)];simp [zl5,zyz,e1,e2,d,w1,d1]
   ·rw [if_neg d2] at e2;have e3:=z72 (zab t.lb) (left-zeb t.ns-t.nm.size-tot t.rw) (by omega) (by omega) (by simpa using ht.lb);rw [z82] at e3
    by_cases d3:left-zeb t.ns-t.nm.size-tot t.rw-t.lb.length<0
    ·rw [if_pos d3] at e3;rw [if_pos (by omega)];simp [zl5,zyz,e1,e2,e3,d,w1,d1,d2]
    ·rw [if_neg d3] at e3;rw [if_neg (by omega)];simp [zl5,zyz,e1,e2,e3,d,w1,d1,d2,d3];omega
theorem y88 (q:Bool) (t:Ta) (ht:TaL 1048576 t):RUN T zjj [taS q t]=some ([taO t],[]):=by
 refine zae rfl rfl ?_;simp [zy2,zy3,y8q t.ns ht.ns,ya4 q t.rw ht.rw ht.rr,z73 t.lb ht.lb]
theorem y89 (p q:Bool) (t:Ta) (ht:TaL 9223372036854775807 t):RUN T zpz [taS p t,taS q t]=some ([bv true],[]):=by
 refine zae rfl rfl ?_;simp [zy8,zyz,y8r t.ns ht.ns,ya5 p q t.rw ht.rw ht.rr,z74 t.lb ht.lb]
structure Sta where
 sm:List Int
 ts:List (List Nd)
abbrev stS (q:Bool) (s:Sta):PV := .agg [.sl 1 (zab s.sm),.sl 1 (trs q s.ts)]
abbrev stO (s:Sta):PV := .agg [.own 1 (zab s.sm),.own 1 (trs true s.ts)]
structure zfg (n:Nat) (s:Sta):Prop where
 sm:s.sm.length<=n
 ts:s.ts.length<=n
 tl : ∀ l∈s.ts,l.length<=n
def zkx (s:Sta):Nat:=s.sm.length+zf1 s.ts
theorem zfg.of {s:Sta} (h:zkx s<=1048576):zfg 1048576 s:=by
 have h1:zkx s=s.sm.length+zf1 s.ts:=rfl;have h2:zf1 s.ts=s.ts.length+zba s.ts:=rfl;exact ⟨by omega,by omega,fun l hl=>by have:=yte hl; omega⟩
theorem y9a (q:Bool) (s:Sta) (left:Int) (h0:0<=left) (h1:left<=1048576) (hs:zfg 9223372036854775807 s):RUN T zp4 [stS q s,iv left]=some ([iv (if left-zkx s<0 then -1 else left-zkx s)],[]):=by
 refine zae rfl rfl ?_;have hst:zkx s=s.sm.length+zf1 s.ts:=rfl;have e2:=z72 (zab s.sm) left (by omega) (by omega) (by simpa using hs.sm);rw [z82] at e2
 by_cases d2:left-s.sm.length<0
 ·rw [if_pos d2] at e2;rw [if_pos (by omega)];simp [ztg,zyz,e2]
 ·rw [if_neg d2] at e2;have e3:=y8s q s.ts (left-s.sm.length) (by omega) (by omega) hs.ts hs.tl
  by_cases d3:left-s.sm.length-zf1 s.ts<0
  ·rw [if_pos d3] at e3;rw [if_pos (by omega)];simp [ztg,zyz,e2,e3,d2]
  ·rw [if_neg d3] at e3;rw [if_neg (by omega)];simp [ztg,zyz,e2,e3,d2,d3];omega
theorem y9b (q:Bool) (s:Sta) (hs:zfg 1048576 s):RUN T zjn [stS q s]=some ([stO s],[]):=by
 refine zae rfl rfl ?_;simp [zzk,zzj,z73 s.sm hs.sm,y8t q s.ts hs.ts hs.tl]
theorem ymk (p q:Bool) (s:Sta) (hs:zfg 9223372036854775807 s):RUN T zjl [stS p s,stS q s]=some ([bv true],[]):=by
 refine zae rfl rfl ?_;simp [zy6,zyz,z74 s.sm hs.sm,y8u p q s.ts hs.ts hs.tl]
theorem qhl {c:PV} (h:zgy true [.sl [.str],.str,.sl [.sl [.int .i64]],.sl [.int .i64]] c) : ∃ t:Ta,c=taS false t/\TaL 9223372036854775807 t/\∀ x∈t.lb,inI x:=by
 obtain ⟨cs,rfl,h⟩:=h;simp only [za6,Shp] at h;obtain ⟨_,_,rfl,⟨es,rfl,h1,h2⟩,_,_,rfl,⟨nm,rfl,h5⟩,_,_,rfl,⟨es2,rfl,h6,h7⟩,_,_,rfl,⟨es',rfl,h3,h4⟩,rfl⟩:=h;have h2' : ∀ cs∈es,za6 [.str] cs:=h2;have h4' : ∀ cs∈es',za6 [.int .i64] cs:=h4;have h7' : ∀ cs∈es2,za6 [.sl [.int .i64]] cs:=h7;obtain ⟨ns,hn,hpn⟩:=zie (f:=fun s=>[PV.v (.string s)]) qiq h2';obtain ⟨lb,hx,hpx⟩:=zie (f:=fun n:Int=>[iv n]) z94 h4';obtain ⟨rw',hr,hpr⟩:=zie (f:=fun l=>[cel false l]) yeh h7';subst hn;subst hx;subst hr;simp [maxLen] at h1 h3 h6;exact ⟨⟨ns,nm,rw',lb⟩,rfl,⟨by simpa using h1,hpn,by simpa [maxLen] using h5,by simpa using h6,hpr,by simpa using h3⟩,hpx⟩
theorem qgi {c:PV} (h:zgy true [.sl [.int .i64],.sl [.sl zyk]] c) : ∃ s:Sta,c=stS false s/\zfg 9223372036854775807 s/\∀ x∈s.sm,inI x:=by
 obtain ⟨cs,rfl,h⟩:=h;simp only [za6,Shp] at h;obtain ⟨_,_,rfl,⟨es',rfl,h3,h4⟩,_,_,rfl,⟨es2,rfl,h6,h7⟩,rfl⟩:=h;have h4' : ∀ cs∈es',za6 [.int .i64] cs:=h4;have h7' : ∀ cs∈es2,za6 [.sl zyk] cs:=h7;obtain ⟨sm,hx,hpx⟩:=zie (f:=fun n:Int=>[iv n]) z94 h4';obtain ⟨ts,ht,hpt⟩:=zie (f:=fun t=>[zfa false t]) qhs h7';subst hx;subst ht;simp [maxLen] at h3 h6;exact ⟨⟨sm,ts⟩,rfl,⟨by simpa using h3,by simpa using h6,hpt⟩,hpx⟩
structure Sl where
 n:Int
 g:Int
deriving DecidableEq
def slc (x:Sl):List PV:=[iv x.n,iv x.g]
def zbf (l:List Sl):List (List PV):=l.map slc
@[simp] theorem qtr (l:List Sl):(zbf l).length=l.length:=by simp [zbf]
theorem zml {l:List Sl} {i:Nat} {x:Sl} (h:l[i]?=some x):(zbf l)[i]?=some [iv x.n,iv x.g]:=by simp [zbf,h,slc]
theorem yqh (l:List Sl) (i:Nat) (a b:Int):(zbf l).set i [iv a,iv b]=zbf (l.set i ⟨a,b⟩):=by simp [zbf,List.map_set,slc]
def slI (x:Sl):Prop:=inI x.n/\inI x.g
def zbh (a b:Sl):Sl×Bool:=if ((adi a.n b.n).2 && (adi a.g b.g).2)=true then (⟨(adi a.n b.n).1,(adi a.g b.g).1⟩,true) else (⟨0,0⟩,false)
theorem zmo {a b:Sl} (h:slI a):slI (zbh a b).1:=by
 unfold zbh;split
 ·exact ⟨yrz h.1,yrz h.2⟩
 ·unfold slI inI; simp
theorem ybh (a b:Sl) (ha:slI a) (hb:slI b):RUN T zlo [.agg (slc a),.agg (slc b)]=some ([.agg (slc (zbh a b).1),bv (zbh a b).2],[]):=by
 refine zae rfl rfl ?_;have e1:=ya6 a.n b.n ha.1 hb.1;have e2:=ya6 a.g b.g ha.2 hb.2;unfold zbh;generalize adi a.n b.n=x at *;generalize adi a.g b.g=y at *;obtain ⟨x,xb⟩:=x;obtain ⟨y,yb⟩:=y;simp only at e1 e2 ⊢;cases xb <;> cases yb <;> simp [z6a,z5u,e1,e2,slc]
theorem ybi (a b:Sl) (ha:slI a) (hb:slI b):RUN T zlq [.agg (slc a),.agg (slc b)]=some ([.agg (slc (zbh a b).1),bv (zbh a b).2],[]):=by
 refine zae rfl rfl ?_;have e1:=ya7 a.n b.n ha.1 hb.1;have e2:=ya7 a.g b.g ha.2 hb.2;unfold zbh;generalize adi a.n b.n=x at *;generalize adi a.g b.g=y at *;obtain ⟨x,xb⟩:=x;obtain ⟨y,yb⟩:=y;simp only at e1 e2 ⊢;cases xb <;> cases yb <;> simp [z6k,z5u,e1,e2,slc]
def atI {α:Type} (l:List α) (i:Int):Option α:=if 0<=i then l[i.toNat]? else none
theorem zgf {α:Type} {l:List α} {i:Int} {x:α} (h:atI l i=some x) : ∃ j:Nat,i=j/\l[j]?=some x/\j<l.length:=by
 unfold atI at h;split at h
 ·refine ⟨i.toNat,by omega,h,?_⟩;rcases Nat.lt_or_ge i.toNat l.length with h' | h'
  ·exact h'
  ·rw [List.getElem?_eq_none (by omega)] at h; cases h
 ·cases h
theorem ziu {α:Type} {l:List α} {i:Int} (h:atI l i=none):i<0\/(l.length:Int)<=i:=by
 unfold atI at h;split at h
 ·right;rcases Nat.lt_or_ge i.toNat l.length with h' | h'
  ·rw [bG h'] at h; cases h
  ·omega
 ·omega
def zcf (b g:List Int):List Int->List Sl->Option (List Sl)
 | [],h=>some h
 | r::rs,h=>match atI b r,atI g r with
  | some x,some y=>match atI h x with
   | some s=>if (zbh s ⟨1,y⟩).2=true then zcf b g rs (h.set x.toNat (zbh s ⟨1,y⟩).1) else none
   | none=>none
  | _,_=>none
def zce (b g rows:List Int) (k:Int):List Sl×Bool:=if zaj k 1 8=true then match zcf b g rows (List.replicate k.toNat ⟨0,0⟩) with
  | some h=>(h,true)
  | none=>([],false)
 else ([],false)
theorem yod (n:Nat):zbf (List.replicate n ⟨0,0⟩)=List.replicate n [iv 0,iv 0]:=by simp [zbf,slc]
theorem y9c (b g rows:List Int) (k:Int) (hb:b.length<=1048576) (hg:g.length<=1048576) (hr:rows.length<=1048576) (hgi : ∀ x∈g,inI x):RUN T zsk [.sl 1 (zab b),.sl 1 (zab g),.sl 1 (zab rows),iv k]=some ([.own 2 (zbf (zce b g rows k).1),bv (zce b g rows k).2],[]):=by
 refine zae rfl rfl ?_;cases hk:zaj k 1 8 with
 | false =>
  have e:=zcq k 1 8;rw [hk] at e;have e2:zce b g rows k=([],false):=by unfold zce; rw [hk]; rfl
  rw [e2];simp [-getElem?_pos,zwv,zww,-zbi,e,zbf]
 | true =>
  have e:=zcq k 1 8;rw [hk] at e;have hk':=za3.mp hk;obtain ⟨kn,rfl⟩ : ∃ n:Nat,k=n:=⟨k.toNat,by omega⟩;have hro:zah 16 kn=true:=by simp [zah]; omega
  obtain ⟨R,hR⟩ : ∃ R,R=zce b g rows kn:=⟨_,rfl⟩;have hR':R=match zcf b g rows (List.replicate kn ⟨0,0⟩) with
   | some h=>(h,true)
   | none=>([],false):=by rw [hR]; unfold zce; rw [if_pos hk]; first | (simp; done) | (simp; rfl)
  rw [<- hR];clear hR;simp [-getElem?_pos,zwv,zww,-zbi,e,hro];refine zao (fun n st => ∃ (i:Nat) (h:List Sl),i+n=rows.length/\h.length=kn/\(∀ s∈h,slI s)/\zcf b g (rows.drop i) h=zcf b g rows (List.replicate kn ⟨0,0⟩)/\st.V 0 = .sl 1 (zab b)/\st.V 1 = .sl 1 (zab g)/\st.V 3=iv kn/\st.V 10 = .ref 0 none 0 0 kn/\st.V 20 = .sl 1 (zab rows)/\st.V 21=iv rows.length/\st.V 22=iv i/\0<st.nx/\st.S 0=some (.row 2 (zbf h))) ?_ rows.length _ ⟨0,List.replicate kn ⟨0,0⟩,by omega,by simp,?_,by simp [yod]⟩
  ·rintro n st ⟨i,h,hi,hhl,hhi,hh,v0,v1,v3,v10,v20,v21,v22,hnx,hS⟩;have Z0:=bI v0 <| bI v1 <| bI v3 <| bI v10 <| bI v20 v21
   obtain ⟨z1,z2,z3,z4⟩:=fr hnx
   by_cases hlt:i<rows.length
   ·obtain ⟨r,hrr⟩ : ∃ r,rows[i]?=some r:=⟨_,bG hlt⟩;have hr':=zay hrr;have hws:=wS hlt (by omega:rows.length<=9223372036854775807);have w1:=w64 (x:=min (b.length:Int) g.length-1) (by omega) (by omega);have w2:=w64 (x:=(kn:Int)-1) (by omega) (by omega);have e1:=zcq r 0 (min (b.length:Int) g.length-1);rw [zc3 hrr,zcf] at hh;cases hbx:atI b r with
    | none =>
     rw [hbx] at hh;have hn:=ziu hbx;have:zaj r 0 (min (b.length:Int) g.length-1)=false:=by
      cases hw:zaj r 0 (min (b.length:Int) g.length-1) with
      | false=>rfl
      | true=>have:=za3.mp hw; omega
     rw [this] at e1;rw [<- hh] at hR';subst hR';simp [-getElem?_pos,zoj,-zbi,Z0,v22,hS,hlt,hr',w1,e1,zbf]
    | some x =>
     obtain ⟨rn,rfl,hbr,hbl⟩:=zgf hbx;cases hgy:atI g rn with
     | none =>
      rw [hbx,hgy] at hh;have hn:=ziu hgy;have:zaj rn 0 (min (b.length:Int) g.length-1)=false:=by
       cases hw:zaj rn 0 (min (b.length:Int) g.length-1) with
       | false=>rfl
       | true=>have:=za3.mp hw; omega
      rw [this] at e1;rw [<- hh] at hR';subst hR';simp [-getElem?_pos,zoj,-zbi,Z0,v22,hS,hlt,hr',w1,e1,zbf]
     | some y =>
      obtain ⟨rn',hrn,hgr,hgl⟩:=zgf hgy;have:rn'=rn:=by omega
      subst this;have:zaj rn' 0 (min (b.length:Int) g.length-1)=true:=za3.mpr (by omega);rw [this] at e1;rw [hbx,hgy] at hh;simp only at hh;have hb':=zay hbr;have hg':=zay hgr;have e2:=zcq x 0 ((kn:Int)-1);cases hhx:atI h x with
      | none =>
       rw [hhx] at hh;have hn:=ziu hhx;have:zaj x 0 ((kn:Int)-1)=false:=by
        cases hw:zaj x 0 ((kn:Int)-1) with
        | false=>rfl
        | true=>have:=za3.mp hw; omega
       rw [this] at e2;simp only at hh;rw [<- hh] at hR';subst hR';simp [-getElem?_pos,zoj,-zbi,Z0,v22,hS,hlt,hr',hb',hbl,w1,w2,e1,e2,zbf]
      | some s =>
       obtain ⟨xn,rfl,hhs,hhl2⟩:=zgf hhx;have:zaj xn 0 ((kn:Int)-1)=true:=za3.mpr (by omega);rw [this] at e2;rw [hhx] at hh;have hs':=zml hhs;have hsi:=hhi s (bF hhs);have hyi:=hgi y (bF hgr);have hpi:=zmo (b:=⟨1,y⟩) hsi;have e3:=ybh s ⟨1,y⟩ hsi ⟨by unfold inI; simp,hyi⟩;simp only [Int.toNat_natCast] at hh;have hxk:xn<kn:=by omega
       generalize zbh s ⟨1,y⟩=p at *;obtain ⟨⟨pn,pg⟩,pb⟩:=p;simp only [slc] at e3 hh;cases pb with
       | false =>
        rw [if_neg (by simp)] at hh;rw [<- hh] at hR';subst hR';simp [-getElem?_pos,zoj,-zbi,Z0,v22,hS,hlt,hr',hb',hbl,hg',hgl,hs',hxk,hhl,w1,w2,e1,e2,e3,z1,z2,z3,z4];simp [zbf]
       | true =>
        rw [if_pos rfl] at hh;have hset:=yqh h xn pn pg;simp [-getElem?_pos,zoj,-zbi,Z0,v22,hS,hlt,hr',hb',hbl,hg',hgl,hs',hxk,hhl,w1,w2,e1,e2,e3,hws,hset,z1,z2,z3,z4];refine zai (n-1) (by omega) ⟨i+1,h.set xn ⟨pn,pg⟩,by omega,by simp [hhl],fun q hq => ?_,hh,by simp [Z0]⟩;rcases List.mem_or_eq_of_mem_set hq with h' | h'
        ·exact hhi q h'
        ·subst h'; exact hpi
   ·rw [List.drop_eq_nil_of_le (by omega),zcf] at hh;rw [<- hh] at hR';subst hR';simp [-getElem?_pos,zoj,v10,v21,v22,hS,hlt,hhl]
  ·intro s hs;have:=List.eq_of_mem_replicate hs;subst this;exact ⟨by unfold inI; simp,by unfold inI; simp⟩
theorem y9d (b g rows:List Int) (k:Int) (hb:b.length<=1048576) (hg:g.length<=1048576) (hr:rows.length<=1048576) (hgi : ∀ x∈g,inI x):RUN T zso [.sl 1 (zab b),.sl 1 (zab g),.sl 1 (zab rows),iv k]=some ([.own 2 (zbf (zce b g rows k).1),bv (zce b g rows k).2],[]):=by
 refine zae rfl rfl ?_;cases hk:zaj k 1 8 with
 | false =>
  have e:=zbj k 1 8;rw [hk] at e;have e2:zce b g rows k=([],false):=by unfold zce; rw [hk]; rfl
  rw [e2];simp [-getElem?_pos,zwx,zww,-za1,e,zbf]
 | true =>
  have e:=zbj k 1 8;rw [hk] at e;have hk':=za3.mp hk;obtain ⟨kn,rfl⟩ : ∃ n:Nat,k=n:=⟨k.toNat,by omega⟩;have hro:zah 16 kn=true:=by simp [zah]; omega
  have hr0:zah 16 0=true:=by decide
  obtain ⟨R,hR⟩ : ∃ R,R=zce b g rows kn:=⟨_,rfl⟩;have hR':R=match zcf b g rows (List.replicate kn ⟨0,0⟩) with
   | some h=>(h,true)
   | none=>([],false):=by rw [hR]; unfold zce; rw [if_pos hk]; first | (simp; done) | (simp; rfl)
  rw [<- hR];clear hR;simp [-getElem?_pos,zwx,zww,-za1,e,hro,hr0];refine zao (fun n st => ∃ (i:Nat) (h:List Sl),i+n=rows.length/\h.length=kn/\(∀ s∈h,slI s)/\zcf b g (rows.drop i) h=zcf b g rows (List.replicate kn ⟨0,0⟩)/\st.V 0 = .sl 1 (zab b)/\st.V 1 = .sl 1 (zab g)/\st.V 2 = .sl 1 (zab rows)/\st.V 3=iv kn/\st.V 10 = .ref 0 none 0 0 0/\st.V 11 = .ref 1 none 0 0 kn/\st.V 12=iv i/\1<st.nx/\st.S 0=some (.row 2 [])/\st.S 1=some (.row 2 (zbf h))) ?_ rows.length _ ⟨0,List.replicate kn ⟨0,0⟩,by omega,by simp,?_,by simp [yod]⟩
  ·rintro n st ⟨i,h,hi,hhl,hhi,hh,v0,v1,v2,v3,v10,v11,v12,hnx,hS0,hS⟩;obtain ⟨z1,z2,z3,z4⟩:=fr hnx;obtain ⟨y1,y2,y3,y4⟩:=fr (show 0<st.nx by omega)
   by_cases hlt:i<rows.length
   ·obtain ⟨r,hrr⟩ : ∃ r,rows[i]?=some r:=⟨_,bG hlt⟩;have hr':=zay hrr;have hws:=wS hlt (by omega:rows.length<=9223372036854775807);have w1:=w64 (x:=(b.length:Int)-1) (by omega) (by omega);have w1':=w64 (x:=(g.length:Int)-1) (by omega) (by omega);have w2:=w64 (x:=(kn:Int)-1) (by omega) (by omega);have e1:=zbj r 0 ((b.length:Int)-1);have e1':=zbj r 0 ((g.length:Int)-1);rw [zc3 hrr,zcf] at hh;cases hbx:atI b r with
    | none =>
     rw [hbx] at hh;have hn:=ziu hbx;have:zaj r 0 ((b.length:Int)-1)=false:=by
      cases hw:zaj r 0 ((b.length:Int)-1) with
      | false=>rfl
      | true=>have:=za3.mp hw; omega
     rw [this] at e1;rw [<- hh] at hR';subst hR';simp [-getElem?_pos,zok,-za1,v0,v1,v2,v3,v10,v11,v12,hS0,hS,hlt,hr',w1,e1,zbf]
    | some x =>
     obtain ⟨rn,rfl,hbr,hbl⟩:=zgf hbx;cases hgy:atI g rn with
     | none =>
      rw [hbx,hgy] at hh;have hn:=ziu hgy;have:zaj rn 0 ((g.length:Int)-1)=false:=by
       cases hw:zaj rn 0 ((g.length:Int)-1) with
       | false=>rfl
       | true=>have:=za3.mp hw; omega
      rw [this] at e1';rw [show zaj rn 0 ((b.length:Int)-1)=true from za3.mpr (by omega)] at e1;rw [<- hh] at hR';subst hR';simp [-getElem?_pos,zok,-za1,v0,v1,v2,v3,v10,v11,v12,hS0,hS,hlt,hr',w1,w1',e1,e1',zbf]
     | some y =>
      obtain ⟨rn',hrn,hgr,hgl⟩:=zgf hgy;have:rn'=rn:=by omega
      subst this;rw [show zaj rn' 0 ((b.length:Int)-1)=true from za3.mpr (by omega)] at e1;rw [show zaj rn' 0 ((g.length:Int)-1)=true from za3.mpr (by omega)] at e1';rw [hbx,hgy] at hh;simp only at hh;have hb':=zay hbr;have hg':=zay hgr;have e2:=zbj x 0 ((kn:Int)-1);cases hhx:atI h x with
      | none =>
       rw [hhx] at hh;have hn:=ziu hhx;have:zaj x 0 ((kn:Int)-1)=false:=by
        cases hw:zaj x 0 ((kn:Int)-1) with
        | false=>rfl
        | true=>have:=za3.mp hw; omega
       rw [this] at e2;simp only at hh;rw [<- hh] at hR';subst hR';simp [-getElem?_pos,zok,-za1,v0,v1,v2,v3,v10,v11,v12,hS0,hS,hlt,hr',hb',hbl,w1,w1',w2,e1,e1',e2,zbf]
      | some s =>
       obtain ⟨xn,rfl,hhs,hhl2⟩:=zgf hhx;have:zaj xn 0 ((kn:Int)-1)=true:=za3.mpr (by omega);rw [this] at e2;rw [hhx] at hh;have hs':=zml hhs;have hsi:=hhi s (bF hhs);have hyi:=hgi y (bF hgr);have hpi:=zmo (b:=⟨1,y⟩) hsi;have e3:=ybi s ⟨1,y⟩ hsi ⟨by unfold inI; simp,hyi⟩;simp only [Int.toNat_natCast] at hh;have hxk:xn<kn:=by omega
       generalize zbh s ⟨1,y⟩=p at *;obtain ⟨⟨pn,pg⟩,pb⟩:=p;simp only [slc] at e3 hh;cases pb with
       | false =>
        rw [if_neg (by simp)] at hh;rw [<- hh] at hR';subst hR';simp [-getElem?_pos,zok,-za1,v0,v1,v2,v3,v10,v11,v12,hS0,hS,hlt,hr',hb',hbl,hg',hgl,hs',hxk,hhl,w1,w1',w2,e1,e1',e2,e3,z1,z2,z3,z4,y1,y2,y3,y4];simp [zbf]
       | true =>
        rw [if_pos rfl] at hh;have hset:=yqh h xn pn pg;simp [-getElem?_pos,zok,-za1,v0,v1,v2,v3,v10,v11,v12,hS0,hS,hlt,hr',hb',hbl,hg',hgl,hs',hxk,hhl,w1,w1',w2,e1,e1',e2,e3,hws,hset,z1,z2,z3,z4,y1,y2,y3,y4];refine zai (n-1) (by omega) ⟨i+1,h.set xn ⟨pn,pg⟩,by omega,by simp [hhl],fun q hq => ?_,hh,by simp [v0],by simp [v1],by simp [v2],by simp [v3],by simp [v10],by simp [v11],by simp,by simp; omega,by simp [y1,y2,y3,y4,z1,z2,z3,z4,hS0]⟩;rcases List.mem_or_eq_of_mem_set hq with h' | h'
        ·exact hhi q h'
        ·subst h'; exact hpi
   ·rw [List.drop_eq_nil_of_le (by omega),zcf] at hh;rw [<- hh] at hR';subst hR';simp [-getElem?_pos,zok,v2,v11,v12,hS,hlt,hhl]
  ·intro s hs;have:=List.eq_of_mem_replicate hs;subst this;exact ⟨by unfold inI; simp,by unfold inI; simp⟩
def zyb (q:Bool) (l:List Sl):PV:=if q then .own 2 (zbf l) else .sl 2 (zbf l)
@[simp] theorem q5k (q:Bool) (l:List Sl):fz (zyb q l) = .sl 2 (zbf l):=by cases q <;> simp [zyb]
def rss (q:Bool) (H:List (List Sl)):List (List PV):=H.map fun l=>[zyb q l]
@[simp] theorem q15 (q:Bool) (H:List (List Sl)):(rss q H).length=H.length:=by simp [rss]
theorem yr0 {q:Bool} {H:List (List Sl)} {i:Nat} {l:List Sl} (h:H[i]?=some l):(rss q H)[i]?=some [zyb q l]:=by simp [rss,h]
theorem yt8 (H:List (List Sl)) (l:List Sl):rss true H++[[.own 2 (zbf l)]]=rss true (H++[l]):=by simp [rss,zyb]
def zbw (g rows:List Int):List (List Int)->List (List Int)->Option (List (List Sl))
 | x::c,y::v=>if (zce y g rows (x.length+1)).2=true then (zbw g rows c v).map ((zce y g rows (x.length+1)).1 :: ·) else none
 | _,_=>some []
def zbt (c v:List (List Int)) (g rows:List Int):List (List Sl)×Bool:=if zds c v=true then match zbw g rows c v with
  | some h=>(h,true)
  | none=>([],false)
 else ([],false)
theorem yui {g rows:List Int} {c v:List (List Int)} {i:Nat} {x y:List Int} (hx:c[i]?=some x) (hy:v[i]?=some y):zbw g rows (c.drop i) (v.drop i)=if (zce y g rows (x.length+1)).2=true then (zbw g rows (c.drop (i+1)) (v.drop (i+1))).map ((zce y g rows (x.length+1)).1 :: ·) else none:=by
 rw [zc3 hx,zc3 hy,zbw]
theorem yoo {g rows:List Int} {v:List (List Int)}:zbw g rows [] v=some []:=by simp [zbw]
theorem ydc {b g:List Int} : ∀ (rows:List Int) (h h':List Sl),zcf b g rows h=some h'->h'.length=h.length
 | [],h,h',e=>by simp [zcf] at e; subst e; rfl
 | r::rs,h,h',e=>by
  simp only [zcf] at e;split at e
  ·split at e
   ·split at e
    ·have:=ydc rs _ _ e;simpa using this
    ·cases e
   ·cases e
  ·cases e
theorem qhi (b g rows:List Int) (k:Int):(zce b g rows k).1.length<=8:=by
 unfold zce;split
 ·rename_i hk;have:=za3.mp hk;cases h:zcf b g rows (List.replicate k.toNat ⟨0,0⟩) with
  | none=>simp
  | some h'=>have:=ydc _ _ _ h; simp at this; simp; omega
 ·simp
theorem yr3 {g rows:List Int} : ∀ (c v:List (List Int)) (H:List (List Sl)),zbw g rows c v=some H->H.length<=c.length/\∀ l∈H,l.length<=8
 | [],v,H,h=>by simp [zbw] at h; subst h; simp
 | x::c,[],H,h=>by simp [zbw] at h; subst h; simp
 | x::c,y::v,H,h=>by
  simp only [zbw] at h;split at h
  ·simp only [bB] at h;obtain ⟨H',h1,rfl⟩:=h;obtain ⟨h2,h3⟩:=yr3 c v H' h1;refine ⟨by simp; omega,fun l hl => ?_⟩;rcases List.mem_cons.mp hl with e | e
   ·subst e; exact qhi _ _ _ _
   ·exact h3 l e
  ·cases h
theorem zuj (c v:List (List Int)) (g rows:List Int):(zbt c v g rows).1.length<=c.length/\∀ l∈(zbt c v g rows).1,l.length<=8:=by
 unfold zbt;split
 ·cases h:zbw g rows c v with
  | none=>simp
  | some H=>exact yr3 c v H h
 ·simp
theorem ycd {c v:List (List Int)} (h:zds c v=true):v.length=c.length/\c.length<=4:=by
 unfold zds at h;simp only [Bool.and_eq_true,decide_eq_true_eq] at h;have:=za3.mp h.1.1.1;omega
theorem y9e (q:Bool) (c v:List (List Int)) (g rows:List Int) (hc : ∀ l∈c,l.length<=1048576) (hv : ∀ l∈v,l.length<=1048576) (hg:g.length<=1048576) (hr:rows.length<=1048576) (hgi : ∀ x∈g,inI x):RUN T zr7 [.agg [.sl 1 (rws q c),.sl 1 (rws q v)],.sl 1 (zab g),.sl 1 (zab rows)]=some ([.own 1 (rss true (zbt c v g rows).1),bv (zbt c v g rows).2],[]):=by
 refine zae rfl rfl ?_;have e:=yl7 q c v (fun l hl=>Nat.le_trans (hc l hl) (by omega)) (fun l hl=>Nat.le_trans (hv l hl) (by omega));cases hk:zds c v with
 | false =>
  rw [hk] at e;have e2:zbt c v g rows=([],false):=by unfold zbt; rw [hk]; rfl
  rw [e2];simp [-getElem?_pos,zwk,zwl,e,rss]
 | true =>
  rw [hk] at e;obtain ⟨hvc,hc4⟩:=ycd hk;obtain ⟨R,hR⟩ : ∃ R,R=zbt c v g rows:=⟨_,rfl⟩;have hR':R=match zbw g rows c v with
   | some h=>(h,true)
   | none=>([],false):=by rw [hR]; unfold zbt; exact if_pos hk
  rw [<- hR];clear hR;have hr0:zah 24 0=true:=by decide
  have hr1:zah 24 1=true:=by decide
  simp [-getElem?_pos,zwk,zwl,e,hr0];refine zao (fun n st => ∃ (i o e:Nat) (H:List (List Sl)),i+n=c.length/\H.length=i/\zbw g rows c v=(zbw g rows (c.drop i) (v.drop i)).map (H ++ ·)/\st.V 1 = .sl 1 (zab g)/\st.V 2 = .sl 1 (zab rows)/\st.V 3 = .ptr 0 none 0 0 0/\st.V 8 = .ref o none e 0 H.length/\st.V 18 = .sl 1 (rws q c)/\st.V 19=iv c.length/\st.V 20=iv i/\0<o/\o<st.nx/\st.S 0=some (.box [.sl 1 (rws q c),.sl 1 (rws q v)])/\st.S o=some (.row 1 (rss true H))) ?_ c.length _ ⟨0,1,0,[],by simp [rss]⟩;rintro n st ⟨i,o,ep,H,hi,hH,hL,v1,v2,v3,v8,v18,v19,v20,ho,hox,hS,hSo⟩;obtain ⟨x1,x2,x3,x4⟩:=fr hox;obtain ⟨g1,g2,g3,g4⟩:=fr ho;obtain ⟨z1,z2,z3,z4⟩:=fr (show 0<st.nx by omega)
  by_cases hlt:i<c.length
  ·obtain ⟨x,hx⟩ : ∃ x,c[i]?=some x:=⟨_,bG hlt⟩;obtain ⟨y,hy⟩ : ∃ y,v[i]?=some y:=⟨_,bG (by omega)⟩;have hx':=zct (q:=q) hx;have hy':=zct (q:=q) hy;have hiv:i<v.length:=by omega
   have hxl:=hc x (bF hx);have hws:=wS hlt (by omega:c.length<=9223372036854775807);have hwl:=w64 (x:=(x.length:Int)+1) (by omega) (by omega);have hh:=y9c y g rows (x.length+1) (hv y (bF hy)) hg hr hgi;have hr24:zah 24 (H.length+1)=true:=by simp [zah]; omega
   rw [yui hx hy] at hL;generalize zce y g rows (x.length+1)=p at *;obtain ⟨ph,pb⟩:=p;simp only at hh hL;cases pb with
   | false =>
    rw [if_neg (by simp)] at hL;rw [hL] at hR';subst hR';simp [-getElem?_pos,z4o,v1,v2,v3,v8,v18,v19,v20,hS,hSo,hlt,hiv,hx',hy',hwl,hh,rss,x1,x2,x3,x4,g1,g2,g3,g4,z1,z2,z3,z4]
   | true =>
    rw [if_pos rfl] at hL;have hsn:=yt8 H ph;simp [-getElem?_pos,z4o,v1,v2,v3,v8,v18,v19,v20,hS,hSo,hlt,hiv,hx',hy',hwl,hws,hh,hr1,hr24,hsn,x1,x2,x3,x4,g1,g2,g3,g4,z1,z2,z3,z4];exact zai (n-1) (by omega) ⟨i+1,st.nx+2,st.ep,H++[ph],by omega,by simp [hH],by rw [hL]; cases zbw g rows (c.drop (i+1)) (v.drop (i+1)) <;> simp,by simp [v1],by simp [v2],by simp [v3],by simp,by simp [v18],by simp [v19],by simp,by omega,by simp [x1,x2,x3,x4,g1,g2,g3,g4,z1,z2,z3,z4,hS]⟩
  ·have h0:c.drop i=[]:=List.drop_eq_nil_of_le (by omega);rw [h0,yoo] at hL;rw [hL] at hR';simp only [Option.map_some,List.append_nil] at hR';subst hR';simp [-getElem?_pos,z4o,v8,v19,v20,hSo,hlt]
theorem y9f (q:Bool) (c v:List (List Int)) (g rows:List Int) (hc : ∀ l∈c,l.length<=1048576) (hv : ∀ l∈v,l.length<=1048576) (hg:g.length<=1048576) (hr:rows.length<=1048576) (hgi : ∀ x∈g,inI x):RUN T zsb [.agg [.sl 1 (rws q c),.sl 1 (rws q v)],.sl 1 (zab g),.sl 1 (zab rows)]=some ([.own 1 (rss true (zbt c v g rows).1),bv (zbt c v g rows).2],[]):=by
 refine zae rfl rfl ?_;have e:=yl8 q c v (fun l hl=>Nat.le_trans (hc l hl) (by omega)) (fun l hl=>Nat.le_trans (hv l hl) (by omega));cases hk:zds c v with
 | false =>
  rw [hk] at e;have e2:zbt c v g rows=([],false):=by unfold zbt; rw [hk]; rfl
  rw [e2];have hr0:zah 24 0=true:=by decide
  simp [-getElem?_pos,zwq,zwl,e,hr0,rss]
 | true =>
  rw [hk] at e;obtain ⟨hvc,hc4⟩:=ycd hk;obtain ⟨R,hR⟩ : ∃ R,R=zbt c v g rows:=⟨_,rfl⟩;have hR':R=match zbw g rows c v with
   | some h=>(h,true)
   | none=>([],false):=by rw [hR]; unfold zbt; exact if_pos hk
  rw [<- hR];clear hR;have hr0:zah 24 0=true:=by decide
  have hr1:zah 24 1=true:=by decide
  simp [-getElem?_pos,zwq,zwl,e,hr0];refine zao (fun n st => ∃ (i o e:Nat) (H:List (List Sl)),i+n=c.length/\H.length=i/\zbw g rows c v=(zbw g rows (c.drop i) (v.drop i)).map (H ++ ·)/\st.V 1 = .sl 1 (zab g)/\st.V 2 = .sl 1 (zab rows)/\st.V 3 = .ptr 0 none 0 0 0/\st.V 8 = .ref o none e 0 H.length/\st.V 9=iv i/\0<o/\o<st.nx/\st.S 0=some (.box [.sl 1 (rws q c),.sl 1 (rws q v)])/\st.S o=some (.row 1 (rss true H))) ?_ c.length _ ⟨0,1,0,[],by simp [rss]⟩;rintro n st ⟨i,o,ep,H,hi,hH,hL,v1,v2,v3,v8,v9,ho,hox,hS,hSo⟩;obtain ⟨x1,x2,x3,x4⟩:=fr hox;obtain ⟨g1,g2,g3,g4⟩:=fr ho;obtain ⟨z1,z2,z3,z4⟩:=fr (show 0<st.nx by omega)
  by_cases hlt:i<c.length
  ·obtain ⟨x,hx⟩ : ∃ x,c[i]?=some x:=⟨_,bG hlt⟩;obtain ⟨y,hy⟩ : ∃ y,v[i]?=some y:=⟨_,bG (by omega)⟩;have hx':=zct (q:=q) hx;have hy':=zct (q:=q) hy;have hiv:i<v.length:=by omega
   have hxl:=hc x (bF hx);have hws:=wS hlt (by omega:c.length<=9223372036854775807);have hwl:=w64 (x:=(x.length:Int)+1) (by omega) (by omega);have hh:=y9d y g rows (x.length+1) (hv y (bF hy)) hg hr hgi;have hr24:zah 24 (H.length+1)=true:=by simp [zah]; omega
   rw [yui hx hy] at hL;generalize zce y g rows (x.length+1)=p at *;obtain ⟨ph,pb⟩:=p;simp only at hh hL;cases pb with
   | false =>
    rw [if_neg (by simp)] at hL;rw [hL] at hR';subst hR';simp [-getElem?_pos,z41,v1,v2,v3,v8,v9,hr0,hS,hSo,hlt,hiv,hx',hy',hwl,hh,rss,x1,x2,x3,x4,g1,g2,g3,g4,z1,z2,z3,z4]
   | true =>
    rw [if_pos rfl] at hL;have hsn:=yt8 H ph;simp [-getElem?_pos,z41,v1,v2,v3,v8,v9,hr0,hS,hSo,hlt,hiv,hx',hy',hwl,hws,hh,hr1,hr24,hsn,x1,x2,x3,x4,g1,g2,g3,g4,z1,z2,z3,z4];exact zai (n-1) (by omega) ⟨i+1,st.nx+2,st.ep,H++[ph],by omega,by simp [hH],by rw [hL]; cases zbw g rows (c.drop (i+1)) (v.drop (i+1)) <;> simp,by simp [v1],by simp [v2],by simp [v3],by simp,by simp,by omega,by simp [x1,x2,x3,x4,g1,g2,g3,g4,z1,z2,z3,z4,hS]⟩
  ·have h0:c.drop i=[]:=List.drop_eq_nil_of_le (by omega);rw [h0,yoo] at hL;rw [hL] at hR';simp only [Option.map_some,List.append_nil] at hR';subst hR';simp [-getElem?_pos,z41,v3,v8,v9,hS,hSo,hlt]
def yru (k:Int) (n:Nat):List Sl:=(List.range n).map fun (i:Nat)=>⟨k+2*(i:Int),k+2*(i:Int)+1⟩
@[simp] theorem q0a (k:Int) (n:Nat):(yru k n).length=n:=by simp [yru]
theorem y9g (c v:List (List Int)) (k:Int) (h0:0<=k) (hk:k+za7 c+za7 v<=9223372036854775806) (hc:c.length<=9223372036854775807) (hv:v.length<=9223372036854775807) : ∃ c' v':List (List Int),c'.length=c.length/\v'.length=v.length/\RUN T zp6 [.agg [.own 1 (rws true c),.own 1 (rws true v)],iv k]=some ([iv (k+za7 c+za7 v)],[.own 1 (rws true c'),.own 1 (rws true v')]):=by
 have e1:=yba c k h0 (by omega) hc;have e2:=yba v (k+za7 c) (by omega) (by omega) hv;generalize hc':(List.range c.length).map (zox k c)=c' at *;generalize hv':(List.range v.length).map (zox (k+za7 c) v)=v' at *;have l1:c'.length=c.length:=by rw [<- hc']; simp
 have l2:v'.length=v.length:=by rw [<- hv']; simp
 refine ⟨c',v',l1,l2,zae rfl rfl ?_⟩;simp [-getElem?_pos,zzo,zyz,e1,e2,l1,l2]
theorem yml (x:Int):RUN T zn2 [iv x]=some ([bv false],[]):=by
 refine zae rfl rfl ?_;simp [z66,zjz]
theorem ymm (x y:Int):RUN T zn0 [iv x,iv y]=some ([iv (zci x y)],[]):=by
 refine zae rfl rfl ?_;have e1:=yml x;have e2:=yml y;unfold zci
 by_cases h1:x<y
 ·simp [zt3,zyz,e1,e2,h1]
 ·by_cases h2:y<x
  ·simp [zt3,zyz,e1,e2,h1,h2]
  ·simp [zt3,zyz,e1,e2,h1,h2]
theorem y9h (a b:Wd) (ha:wfU a) (hb:wfU b):RUN T zs0 [.agg (wd a),.agg (wd b)]=some ([iv (zkr a b)],[]):=by
 refine zae rfl rfl ?_;have n1:(a.n && (decide (0<a.h) || decide (0<a.l)))=ze1 a:=by
  obtain ⟨h0,_,h1,_⟩:=ha;unfold ze1
  congr 1
  rw [Bool.eq_iff_iff]; simp; omega
 have n2:(b.n && (decide (0<b.h) || decide (0<b.l)))=ze1 b:=by
  obtain ⟨h0,_,h1,_⟩:=hb;unfold ze1
  congr 1
  rw [Bool.eq_iff_iff]; simp; omega
 have e1:=zxg a.n a.h a.l;have e2:=zxg b.n b.h b.l;rw [n1] at e1;rw [n2] at e2;have e3:=ybf ⟨ze1 a,a.h,a.l⟩ ⟨ze1 b,b.h,b.l⟩;have e4:=ybf ⟨ze1 b,b.h,b.l⟩ ⟨ze1 a,a.h,a.l⟩;have o1:ze4 ⟨ze1 a,a.h,a.l⟩ ⟨ze1 b,b.h,b.l⟩=ze4 a b:=rfl;have o2:ze4 ⟨ze1 b,b.h,b.l⟩ ⟨ze1 a,a.h,a.l⟩=ze4 b a:=rfl;rw [o1] at e3;rw [o2] at e4;clear o1 o2 n1 n2 ha hb;unfold zkr;generalize ze4 a b=x at *;generalize ze4 b a=y at *;generalize ze1 a=p at *;generalize ze1 b=q at *;obtain ⟨an,ah,al⟩:=a;obtain ⟨bn,bh,bl⟩:=b;simp only [wd] at e1 e2 e3 e4 ⊢;cases p <;> cases q <;> simp [z6w,zyz,e1,e2,e3,e4]
structure Fr where
 w:Wd
 d:Int
def frc (f:Fr):List PV:=[bv f.w.n,uv f.w.h,uv f.w.l,iv f.d]
def frB (f:Fr):Bool:=wok f.w && zaj f.d 1 1000000
def zem:Fr:=⟨za9,0⟩
def zfl (w:Wd) (d:Int):Fr×Bool:=if frB ⟨w,d⟩=true then (⟨w,d⟩,true) else (zem,false)
theorem ybj (f:Fr):RUN T zlv [.agg (frc f)]=some ([bv (frB f)],[]):=by
 refine zae rfl rfl ?_;have e1:=zub f.w;have e2:=zcq f.d 1 1000000;unfold frB;generalize wok f.w=x at *;generalize zaj f.d 1 1000000=y at *;simp only [wd] at e1;cases x <;> simp [z7c,zjz,-zbi,frc,e1,e2]
theorem z75 (f:Fr):RUN T zjv [.agg (frc f)]=some ([bv (frB f)],[]):=by
 refine zae rfl rfl ?_;have e1:=zuc f.w;have e2:=zbj f.d 1 1000000;unfold frB;generalize wok f.w=x at *;generalize zaj f.d 1 1000000=y at *;simp only [wd] at e1;cases x <;> simp [z7i,zjz,-za1,frc,e1,e2]
theorem ymn (w:Wd) (d:Int):RUN T zn3 [.agg (wd w),iv d]=some ([.agg (frc (zfl w d).1),bv (zfl w d).2],[]):=by
 refine zae rfl rfl ?_;have e1:=ybj ⟨w,d⟩;unfold zfl;generalize frB ⟨w,d⟩=x at *;simp only [frc] at e1;cases x <;> simp [z7a,z6f,wd,frc,zem,za9,e1]
theorem y9i (a d:Int) (ha:inI a):RUN T zs4 [iv a,iv d]=some ([.agg (frc (zfl (zen a a) d).1),bv (zfl (zen a a) d).2],[]):=by
 refine zae rfl rfl ?_;have e1:=y81 a a ha ha;have e2:=ymn (zen a a) d;generalize zen a a=m at *;generalize zfl m d=f at *;obtain ⟨⟨fw,fd⟩,fb⟩:=f;simp only [wd,frc] at e1 e2 ⊢;simp [z68,z6f,e1,e2]
theorem y9j (a d:Int) (ha:inI a):RUN T zs6 [iv a,iv d]=some ([.agg (frc (zfl (zen a a) d).1),bv (zfl (zen a a) d).2],[]):=by
 refine zae rfl rfl ?_;have e1:=y82 a a ha ha;have e2:=z75 ⟨zen a a,d⟩;unfold zfl;generalize zen a a=m at *;generalize frB ⟨m,d⟩=x at *;simp only [wd,frc] at e1 e2;cases x <;> simp [z7g,z6f,frc,zem,za9,e1,e2]
def frI (f:Fr):Prop:=wfU f.w/\inI f.d
theorem zxj:wfU za9:=⟨by decide,by decide,by decide,by decide⟩
theorem ync (w:Wd) (k:Int) (h:wfU w):wfU (zdh w k).1:=by
 unfold zdh;split
 ·rename_i hc;refine yeb ?_ (by omega);obtain ⟨h0,h1,h2,h3⟩:=h;exact Int.mul_nonneg (by unfold mag; omega) (by omega)
 ·exact zxj
def zbm (a b:Fr):Wd×Wd×Bool:=if (frB a && frB b)=true then ((zdh a.w b.d).1,(zdh b.w a.d).1,(zdh a.w b.d).2 && (zdh b.w a.d).2) else (za9,za9,false)
theorem yer (a b:Fr) (ha:wfU a.w) (hb:wfU b.w):wfU (zbm a b).1/\wfU (zbm a b).2.1:=by
 unfold zbm;split
 ·exact ⟨ync _ _ ha,ync _ _ hb⟩
 ·exact ⟨zxj,zxj⟩
theorem ysq {a b:Fr} (h:(zbm a b).2.2=true):(1<=a.d/\a.d<=1000000)/\1<=b.d/\b.d<=1000000:=by
 unfold zbm at h;split at h
 ·rename_i hc;simp only [frB,Bool.and_eq_true] at hc;exact ⟨za3.mp hc.1.2,za3.mp hc.2.2⟩
 ·cases h
theorem ymo (a b:Fr) (ha:frI a) (hb:frI b):RUN T zny [.agg (frc a),.agg (frc b)]=some ([.agg (wd (zbm a b).1),.agg (wd (zbm a b).2.1),bv (zbm a b).2.2],[]):=by
 refine zae rfl rfl ?_;have e1:=ybj a;have e2:=ybj b;have e3:=ymg a.w b.d ha.1 hb.2;have e4:=ymg b.w a.d hb.1 ha.2;unfold zbm;generalize zdh a.w b.d=x at *;generalize zdh b.w a.d=y at *;generalize frB a=p at *;generalize frB b=q at *;obtain ⟨⟨an,ah,al⟩,ad⟩:=a;obtain ⟨⟨bn,bh,bl⟩,bd⟩:=b;obtain ⟨x,xb⟩:=x;obtain ⟨y,yb⟩:=y;simp only [frc,wd] at e1 e2 e3 e4 ⊢;cases p <;> cases q <;> cases xb <;> simp [z6u,z6v,e1,e2,e3,e4,za9]
theorem ymp (a b:Fr) (ha:frI a) (hb:frI b):RUN T zn1 [.agg (frc a),.agg (frc b)]=some ([.agg (wd (zbm a b).1),.agg (wd (zbm a b).2.1),bv (zbm a b).2.2],[]):=by
 refine zae rfl rfl ?_;have e1:=z75 a;have e2:=z75 b;have e3:=ymh a.w b.d ha.1 hb.2;have e4:=ymh b.w a.d hb.1 ha.2;unfold zbm;generalize zdh a.w b.d=x at *;generalize zdh b.w a.d=y at *;generalize frB a=p at *;generalize frB b=q at *;obtain ⟨⟨an,ah,al⟩,ad⟩:=a;obtain ⟨⟨bn,bh,bl⟩,bd⟩:=b;obtain ⟨x,xb⟩:=x;obtain ⟨y,yb⟩:=y;simp only [frc,wd] at e1 e2 e3 e4 ⊢;cases p <;> cases q <;> cases xb <;> simp [z62,z6v,e1,e2,e3,e4,za9]
def zfm (a b:Fr):Int×Bool:=if (zbm a b).2.2=true then (zkr (zbm a b).1 (zbm a b).2.1,true) else (0,false)
theorem ymq (a b:Fr) (ha:frI a) (hb:frI b):RUN T znw [.agg (frc a),.agg (frc b)]=some ([iv (zfm a b).1,bv (zfm a b).2],[]):=by
 refine zae rfl rfl ?_;have e1:=ymo a b ha hb;obtain ⟨w1,w2⟩:=yer a b ha.1 hb.1;have e2:=y9h (zbm a b).1 (zbm a b).2.1 w1 w2;unfold zfm;generalize zbm a b=r at *;obtain ⟨x,y,o⟩:=r;simp only at e2 ⊢;generalize zkr x y=z at *;simp only [frc,wd] at e1 e2 ⊢;cases o <;> simp [z6g,zj7,e1,e2]
theorem ymr (a b:Fr) (ha:frI a) (hb:frI b):RUN T znx [.agg (frc a),.agg (frc b)]=some ([iv (zfm a b).1,bv (zfm a b).2],[]):=by
 refine zae rfl rfl ?_;have e1:=ymp a b ha hb;have e2:=y85 (zbm a b).1 (zbm a b).2.1;unfold zfm;generalize zbm a b=r at *;obtain ⟨x,y,o⟩:=r;simp only at e2 ⊢;generalize zkr x y=z at *;simp only [frc,wd] at e1 e2 ⊢;cases o <;> simp [z6q,zj7,e1,e2]
def zh7 (a b:Fr):Fr×Bool:=if (zbm a b).2.2=true then (if (zcg (zbm a b).1 (zbm a b).2.1).2=true then zfl (zcg (zbm a b).1 (zbm a b).2.1).1 (a.d*b.d) else (zem,false)) else (zem,false)
theorem yp1 {a b:Int} (h:(1<=a/\a<=1000000)/\1<=b/\b<=1000000):IntKind.i64.wrap (a*b)=a*b:=by
 have h1:a*b<=1000000*1000000:=Int.mul_le_mul h.1.2 h.2.2 (by omega) (by decide);have h2:0<=a*b:=Int.mul_nonneg (by omega) (by omega);exact w64 (by omega) (by omega)
theorem y9k (a b:Fr) (ha:frI a) (hb:frI b):RUN T zsz [.agg (frc a),.agg (frc b)]=some ([.agg (frc (zh7 a b).1),bv (zh7 a b).2],[]):=by
 refine zae rfl rfl ?_;have e1:=ymo a b ha hb;obtain ⟨w1,w2⟩:=yer a b ha.1 hb.1;have e2:=y83 (zbm a b).1 (zbm a b).2.1 w1 w2;have hok := @ysq a b;have e3:=ymn (zcg (zbm a b).1 (zbm a b).2.1).1 (a.d*b.d);unfold zh7;generalize zbm a b=r at *;obtain ⟨x,y,o⟩:=r;simp only at e2 e3 hok ⊢;generalize zcg x y=s at *;obtain ⟨s,so⟩:=s;simp only at e2 e3 ⊢;cases o with
 | false =>
  simp only [frc,wd] at e1 ⊢;simp [zw7,z6f,e1,zem,za9]
 | true =>
  have hm:=yp1 (hok rfl);generalize zfl s (a.d*b.d)=f at *;obtain ⟨f,fo⟩:=f;simp only [frc,wd] at e1 e2 e3 ⊢;cases so <;> simp [zw7,z6f,e1,e2,e3,hm,zem,za9]
theorem y9l (a b:Fr) (ha:frI a) (hb:frI b):RUN T zs2 [.agg (frc a),.agg (frc b)]=some ([.agg (frc (zh7 a b).1),bv (zh7 a b).2],[]):=by
 refine zae rfl rfl ?_;have e1:=ymp a b ha hb;obtain ⟨w1,w2⟩:=yer a b ha.1 hb.1;have e2:=y84 (zbm a b).1 (zbm a b).2.1 w1 w2;have hok := @ysq a b;have e3:=z75 ⟨(zcg (zbm a b).1 (zbm a b).2.1).1,a.d*b.d⟩;unfold zh7 zfl;generalize zbm a b=r at *;obtain ⟨x,y,o⟩:=r;simp only at e2 e3 hok ⊢;generalize zcg x y=s at *;obtain ⟨s,so⟩:=s;simp only at e2 e3 ⊢;cases o with
 | false =>
  simp only [frc,wd] at e1 ⊢;simp [zw9,z6f,e1,zem,za9]
 | true =>
  have hm:=yp1 (hok rfl);generalize frB ⟨s,a.d*b.d⟩=fo at *;simp only [frc,wd] at e1 e2 e3 ⊢;cases so <;> cases fo <;> simp [zw9,z6f,e1,e2,e3,hm,frc,zem,za9]
structure Cnd where
 f:Int
 b:Int
 a:Sl
 z:Sl
deriving DecidableEq
def cnd (c:Cnd):List PV:=[iv c.f,iv c.b,iv c.a.n,iv c.a.g,iv c.z.n,iv c.z.g]
def zeu (c:Cnd):Prop:=inI c.f/\inI c.b/\slI c.a/\slI c.z
structure Bd where
 lo:Int
 hi:Int
def bnd (b:Bd):List PV:=[iv b.lo,iv b.hi]
def zha (b:Bd):Bool:=decide (b.lo<=b.hi) && zfq b.lo && zfq b.hi
def zfi (x lo hi:Int):Int:=if x<lo then lo else if hi<x then hi else x
def zhz (n l:Int):Bool:=zaj n 0 40 && zaj l 1 100
def zd4 (s:Sl) (l:Int) (b:Bd):Int×Bool:=if (zhz s.n l && zha b)=true then (zfi (fdv s.g (s.n+l)).1 b.lo b.hi,true) else (0,false)
def zc0 (s:Sl) (l:Int):Fr×Bool:=if zhz s.n l=true then zfl (zen s.g s.g) (s.n+l) else (zem,false)
def zb4 (c:Cnd) (l:Int):Fr×Bool:=if ((zc0 c.a l).2 && (zc0 c.z l).2)=true then zh7 (zc0 c.a l).1 (zc0 c.z l).1 else (zem,false)
theorem yms (n l:Int):RUN T znn [iv n,iv l]=some ([bv (zhz n l)],[]):=by
 refine zae rfl rfl ?_;have e1:=zcq n 0 40;have e2:=zcq l 1 100;unfold zhz;generalize zaj n 0 40=x at *;cases x <;> simp [z4v,zyz,-zbi,e1,e2]
theorem ymt (b:Bd):RUN T zno [.agg (bnd b)]=some ([bv (zha b)],[]):=by
 refine zae rfl rfl ?_;have e1:=yl5 b.lo;have e2:=yl5 b.hi;unfold zha;generalize zfq b.lo=x at *;generalize zfq b.hi=y at *
 by_cases h:b.lo<=b.hi <;> cases x <;> simp [z4x,zjz,bnd,e1,e2,h]
theorem ymu (b:Bd):RUN T znr [.agg (bnd b)]=some ([bv (zha b)],[]):=by
 refine zae rfl rfl ?_;have e1:=yl4 b.lo;have e2:=yl4 b.hi;unfold zha;generalize zfq b.lo=x at *;generalize zfq b.hi=y at *
 by_cases h:b.lo<=b.hi <;> cases x <;> simp [z48,zjz,bnd,e1,e2,h]
theorem ymv (x lo hi:Int):RUN T znp [iv x,iv lo,iv hi]=some ([iv (zfi x lo hi)],[]):=by
 refine zae rfl rfl ?_;unfold zfi
 by_cases h1:x<lo
 ·simp [zwm,zzr,h1]
 ·by_cases h2:hi<x <;> simp [zwm,zzr,h1,h2]
theorem ymw (x lo hi:Int):RUN T zns [iv x,iv lo,iv hi]=some ([iv (zfi x lo hi)],[]):=by
 refine zae rfl rfl ?_;unfold zfi
 by_cases h1:x<lo
 ·simp [zwt,zzr,h1]
 ·by_cases h2:hi<x <;> simp [zwt,zzr,h1,h2]
theorem z8g {n l:Int} (h:zhz n l=true):IntKind.i64.wrap (n+l)=n+l:=by
 unfold zhz at h;simp only [Bool.and_eq_true] at h;have h1:=za3.mp h.1;have h2:=za3.mp h.2;exact w64 (by omega) (by omega)
theorem ybk (s:Sl) (l:Int) (b:Bd) (hs:slI s):RUN T zlg [.agg (slc s),iv l,.agg (bnd b)]=some ([iv (zd4 s l b).1,bv (zd4 s l b).2],[]):=by
 refine zae rfl rfl ?_;have e1:=yms s.n l;have e2:=ymt b;have e3:=yl3 s.g (s.n+l) hs.2;have e4:=ymv (fdv s.g (s.n+l)).1 b.lo b.hi;have hw := @z8g s.n l;unfold zd4;generalize zhz s.n l=x at *;generalize zha b=y at *;generalize fdv s.g (s.n+l)=q at *;obtain ⟨q,qo⟩:=q;simp only [bnd] at e2;cases x with
 | false=>simp [zv3,zv4,slc,bnd,e1]
 | true =>
  have hw:=hw rfl;cases y <;> simp [zv3,zv4,slc,bnd,e1,e2,e3,e4,hw]
theorem ybl (s:Sl) (l:Int) (b:Bd) (hs:slI s):RUN T zli [.agg (slc s),iv l,.agg (bnd b)]=some ([iv (zd4 s l b).1,bv (zd4 s l b).2],[]):=by
 refine zae rfl rfl ?_;have e1:=zbj s.n 0 40;have e1':=zbj l 1 100;have e2:=ymu b;have e3:=yl2 s.g (s.n+l) hs.2;have e4:=ymw (fdv s.g (s.n+l)).1 b.lo b.hi;have hw := @z8g s.n l;unfold zd4;unfold zhz at *;generalize zaj s.n 0 40=x at *;generalize zaj l 1 100=x' at *;generalize zha b=y at *;generalize fdv s.g (s.n+l)=q at *;obtain ⟨q,qo⟩:=q;simp only [bnd] at e2;cases x with
 | false=>simp [zty,zv4,-za1,slc,bnd,e1]
 | true =>
  cases x' with
  | false=>simp [zty,zv4,-za1,slc,bnd,e1,e1']
  | true =>
   have hw:=hw rfl;cases y <;> simp [zty,zv4,-za1,slc,bnd,e1,e1',e2,e3,e4,hw]
theorem y9m (c:Cnd) (h:zeu c):RUN T zsy [.agg (cnd c)]=some ([.agg (slc (zbh c.a c.z).1),bv (zbh c.a c.z).2],[]):=by
 refine zae rfl rfl ?_;have e1:=ybh c.a c.z h.2.2.1 h.2.2.2;generalize zbh c.a c.z=p at *;obtain ⟨⟨pn,pg⟩,pb⟩:=p;simp only [slc] at e1 ⊢;simp [z6s,z6t,cnd,e1]
theorem y9n (c:Cnd) (h:zeu c):RUN T zs1 [.agg (cnd c)]=some ([.agg (slc (zbh c.a c.z).1),bv (zbh c.a c.z).2],[]):=by
 refine zae rfl rfl ?_;have e1:=ybi c.a c.z h.2.2.1 h.2.2.2;generalize zbh c.a c.z=p at *;obtain ⟨⟨pn,pg⟩,pb⟩:=p;simp only [slc] at e1 ⊢;simp [z60,z6t,cnd,e1]
theorem ybm (s:Sl) (l:Int) (hs:slI s):RUN T zls [.agg (slc s),iv l]=some ([.agg (frc (zc0 s l).1),bv (zc0 s l).2],[]):=by
 refine zae rfl rfl ?_;have e1:=yms s.n l;have e2:=y9i s.g (s.n+l) hs.2;have hw := @z8g s.n l;unfold zc0;generalize zhz s.n l=x at *;generalize zfl (zen s.g s.g) (s.n+l)=f at *;obtain ⟨⟨fw,fd⟩,fb⟩:=f;simp only [frc] at e2 ⊢;cases x with
 | false=>simp [zw5,z6f,slc,e1,zem,za9]
 | true =>
  have hw:=hw rfl;simp [zw5,z6f,slc,e1,e2,hw]
theorem ybn (s:Sl) (l:Int) (hs:slI s):RUN T zlu [.agg (slc s),iv l]=some ([.agg (frc (zc0 s l).1),bv (zc0 s l).2],[]):=by
 refine zae rfl rfl ?_;have e1:=zbj s.n 0 40;have e1':=zbj l 1 100;have e2:=y9j s.g (s.n+l) hs.2;have hw := @z8g s.n l;unfold zc0;unfold zhz at *;generalize zaj s.n 0 40=x at *;generalize zaj l 1 100=x' at *;generalize zfl (zen s.g s.g) (s.n+l)=f at *;obtain ⟨⟨fw,fd⟩,fb⟩:=f;simp only [frc] at e2 ⊢;cases x with
 | false=>simp [zt5,z6f,-za1,slc,e1,zem,za9]
 | true =>
  cases x' with
  | false=>simp [zt5,z6f,-za1,slc,e1,e1',zem,za9]
  | true =>
   have hw:=hw rfl;simp [zt5,z6f,-za1,slc,e1,e1',e2,hw]
theorem yqn (w:Wd) (d:Int) (hw:wfU w):frI (zfl w d).1:=by
 unfold zfl;split
 ·rename_i h;simp only [frB,Bool.and_eq_true] at h;have:=za3.mp h.2;exact ⟨hw,by unfold inI; simp only; omega⟩
 ·exact ⟨zxj,by unfold inI zem; simp⟩
theorem z8k:frI zem:=⟨zxj,by unfold inI zem; simp⟩
theorem zu1 (s:Sl) (l:Int) (hs:slI s):frI (zc0 s l).1:=by
 unfold zc0;split
 ·exact yqn _ _ (qct hs.2 hs.2)
 ·exact z8k
theorem qd0 (a b:Fr):frI (zh7 a b).1:=by
 unfold zh7;split
 ·split
  ·exact yqn _ _ (qfk _ _)
  ·exact z8k
 ·exact z8k
theorem zup (c:Cnd) (l:Int):frI (zb4 c l).1:=by
 unfold zb4;split
 ·exact qd0 _ _
 ·exact z8k
theorem ybo (c:Cnd) (l:Int) (h:zeu c):RUN T zlp [.agg (cnd c),iv l]=some ([.agg (frc (zb4 c l).1),bv (zb4 c l).2],[]):=by
 refine zae rfl rfl ?_;have e1:=ybm c.a l h.2.2.1;have e2:=ybm c.z l h.2.2.2;have e3:=y9k (zc0 c.a l).1 (zc0 c.z l).1 (zu1 _ _ h.2.2.1) (zu1 _ _ h.2.2.2);unfold zb4;generalize zc0 c.a l=p at *;generalize zc0 c.z l=q at *;obtain ⟨p,pb⟩:=p;obtain ⟨q,qb⟩:=q;simp only at e1 e2 e3 ⊢;generalize zh7 p q=r at *;obtain ⟨r,rb⟩:=r;simp only [frc,slc] at e1 e2 e3 ⊢;cases pb <;> cases qb <;> simp [z6e,z6f,cnd,e1,e2,e3,zem,za9]
theorem ybp (c:Cnd) (l:Int) (h:zeu c):RUN T zlr [.agg (cnd c),iv l]=some ([.agg (frc (zb4 c l).1),bv (zb4 c l).2],[]):=by
 refine zae rfl rfl ?_;have e1:=ybn c.a l h.2.2.1;have e2:=ybn c.z l h.2.2.2;have e3:=y9l (zc0 c.a l).1 (zc0 c.z l).1 (zu1 _ _ h.2.2.1) (zu1 _ _ h.2.2.2);unfold zb4;generalize zc0 c.a l=p at *;generalize zc0 c.z l=q at *;obtain ⟨p,pb⟩:=p;obtain ⟨q,qb⟩:=q;simp only at e1 e2 e3 ⊢;generalize zh7 p q=r at *;obtain ⟨r,rb⟩:=r;simp only [frc,slc] at e1 e2 e3 ⊢;cases pb <;> cases qb <;> simp [z6o,z6f,cnd,e1,e2,e3,zem,za9]
abbrev cfS (c:Cfg):PV := .agg [iv c.ro,iv c.de,iv c.bi,iv c.la,iv c.rw,iv c.nu,iv c.dn,.sl 1 (zab c.sg)]
def zbr (c:Cfg) (b:Bd) (x:Cnd):Int×Int×Bool:=if ((zd4 x.a c.la b).2 && (zd4 x.z c.la b).2)=true then ((zd4 x.a c.la b).1,(zd4 x.z c.la b).1,true) else (0,0,false)
def zd6 (c:Cfg) (f:Int):Int:=(atI c.sg f).getD 0
def zpi (s l r:Int):Bool:=if s=1 then decide (l<=r) else if s = -1 then decide (r<=l) else true
def zpf (x:Cnd) (l:Int):Bool:=(zb4 x l).2 && ((zbh x.a x.z).2 && ((zc0 (zbh x.a x.z).1 l).2 && ((zfm (zb4 x l).1 (zc0 (zbh x.a x.z).1 l).1).2 && decide (0<(zfm (zb4 x l).1 (zc0 (zbh x.a x.z).1 l).1).1))))
def zi3 (a b:Cnd):Bool:=decide (a.f<b.f) || (decide (a.f=b.f) && decide (a.b<b.b))
def zdr (a b:Cnd) (l:Int):Bool:=(zb4 a l).2 && ((zb4 b l).2 && ((zfm (zb4 a l).1 (zb4 b l).1).2 && (decide (0<(zfm (zb4 a l).1 (zb4 b l).1).1) || (decide ((zfm (zb4 a l).1 (zb4 b l).1).1=0) && zi3 a b))))
theorem ymx (c:Cfg) (b:Bd) (x:Cnd) (h:zeu x):RUN T znc [cfS c,.agg (bnd b),.agg (cnd x)]=some ([iv (zbr c b x).1,iv (zbr c b x).2.1,bv (zbr c b x).2.2],[]):=by
 have e1:=ybk x.a c.la b h.2.2.1;have e2:=ybk x.z c.la b h.2.2.2;unfold zbr;generalize zd4 x.a c.la b=p at *;generalize zd4 x.z c.la b=q at *;obtain ⟨p,pb⟩:=p;obtain ⟨q,qb⟩:=q;simp only [slc,bnd] at e1 e2 ⊢;refine zae rfl rfl ?_;cases pb <;> cases qb <;> simp [z26,z27,cnd,e1,e2]
theorem ymy (c:Cfg) (b:Bd) (x:Cnd) (h:zeu x):RUN T zng [cfS c,.agg (bnd b),.agg (cnd x)]=some ([iv (zbr c b x).1,iv (zbr c b x).2.1,bv (zbr c b x).2.2],[]):=by
 have e1:=ybl x.a c.la b h.2.2.1;have e2:=ybl x.z c.la b h.2.2.2;unfold zbr;generalize zd4 x.a c.la b=p at *;generalize zd4 x.z c.la b=q at *;obtain ⟨p,pb⟩:=p;obtain ⟨q,qb⟩:=q;simp only [slc,bnd] at e1 e2 ⊢;refine zae rfl rfl ?_;cases pb <;> cases qb <;> simp [z3n,z27,cnd,e1,e2]
theorem ymz (c:Cfg) (f:Int) (hl:c.sg.length<=9223372036854775807):RUN T znd [cfS c,iv f]=some ([iv (zd6 c f)],[]):=by
 refine zae rfl rfl ?_;have hw:=w64 (x:=(c.sg.length:Int)-1) (by omega) (by omega);have e1:=zcq f 0 ((c.sg.length:Int)-1);unfold zd6;cases hs:atI c.sg f with
 | none =>
  have hn:=ziu hs;have:zaj f 0 ((c.sg.length:Int)-1)=false:=by
   cases hw:zaj f 0 ((c.sg.length:Int)-1) with
   | false=>rfl
   | true=>have:=za3.mp hw; omega
  rw [this] at e1;simp [zv5,zyz,-zbi,e1,hw]
 | some x =>
  obtain ⟨j,rfl,hj,hjl⟩:=zgf hs;rw [show zaj j 0 ((c.sg.length:Int)-1)=true from za3.mpr (by omega)] at e1;have hj':=zay hj;simp [-getElem?_pos,zv5,zyz,-zbi,e1,hw,hj',hjl]
theorem ym0 (c:Cfg) (f:Int) (hl:c.sg.length<=9223372036854775807):RUN T znh [cfS c,iv f]=some ([iv (zd6 c f)],[]):=by
 refine zae rfl rfl ?_;have hw:=w64 (x:=(c.sg.length:Int)-1) (by omega) (by omega);have e1:=zbj f 0 ((c.sg.length:Int)-1);unfold zd6;cases hs:atI c.sg f with
 | none =>
  have hn:=ziu hs;have:zaj f 0 ((c.sg.length:Int)-1)=false:=by
   cases hw:zaj f 0 ((c.sg.length:Int)-1) with
   | false=>rfl
   | true=>have:=za3.mp hw; omega
  rw [this] at e1;simp [zwb,zyz,-za1,e1,hw]
 | some x =>
  obtain ⟨j,rfl,hj,hjl⟩:=zgf hs;rw [show zaj j 0 ((c.sg.length:Int)-1)=true from za3.mpr (by omega)] at e1;have hj':=zay hj;simp [-getElem?_pos,zwb,zyz,-za1,e1,hw,hj',hjl]
theorem y9o (s l r:Int):RUN T zss [iv s,iv l,iv r]=some ([bv (zpi s l r)],[]):=by
 refine zae rfl rfl ?_;unfold zpi
 by_cases h1:s=1
 ·simp [zwz,zzr,h1]
 ·by_cases h2:s = -1 <;> simp [zwz,zzr,h1,h2]
theorem y9p (s l r:Int):RUN T zsv [iv s,iv l,iv r]=some ([bv (zpi s l r)],[]):=by
 refine zae rfl rfl ?_;unfold zpi
 by_cases h1:s=1
 ·by_cases h3:l<=r <;> simp [zw1,zzr,h1,h3]
 ·by_cases h2:s = -1 <;> simp [zw1,zzr,h1,h2]
theorem y9q (x:Cnd) (l:Int) (h:zeu x):RUN T zst [.agg (cnd x),iv l]=some ([bv (zpf x l)],[]):=by
 refine zae rfl rfl ?_;have hp:=zmo (b:=x.z) h.2.2.1;have e1:=ybo x l h;have e2:=y9m x h;have e3:=ybm (zbh x.a x.z).1 l hp;have e4:=ymq (zb4 x l).1 (zc0 (zbh x.a x.z).1 l).1 (zup _ _) (zu1 _ _ hp);unfold zpf;generalize zb4 x l=g at *;generalize zbh x.a x.z=p at *;obtain ⟨p,pb⟩:=p;simp only at e2 e3 e4 ⊢;generalize zc0 p l=q at *;obtain ⟨g,gb⟩:=g;obtain ⟨q,qb⟩:=q;simp only at e1 e3 e4 ⊢;generalize zfm g q=m at *;obtain ⟨m,mb⟩:=m;simp only [frc,slc,cnd] at e1 e2 e3 e4 ⊢;cases gb <;> cases pb <;> cases qb <;> cases mb <;> simp [z6c,zyz,e1,e2,e3,e4]
theorem y9r (x:Cnd) (l:Int) (h:zeu x):RUN T zsw [.agg (cnd x),iv l]=some ([bv (zpf x l)],[]):=by
 refine zae rfl rfl ?_;have hp:=zmo (b:=x.z) h.2.2.1;have e1:=ybp x l h;have e2:=y9n x h;have e3:=ybn (zbh x.a x.z).1 l hp;have e4:=ymr (zb4 x l).1 (zc0 (zbh x.a x.z).1 l).1 (zup _ _) (zu1 _ _ hp);unfold zpf;generalize zb4 x l=g at *;generalize zbh x.a x.z=p at *;obtain ⟨p,pb⟩:=p;simp only at e2 e3 e4 ⊢;generalize zc0 p l=q at *;obtain ⟨g,gb⟩:=g;obtain ⟨q,qb⟩:=q;simp only at e1 e3 e4 ⊢;generalize zfm g q=m at *;obtain ⟨m,mb⟩:=m;simp only [frc,slc,cnd] at e1 e2 e3 e4 ⊢;cases gb <;> cases pb <;> cases qb <;> cases mb <;> simp [z6m,zyz,e1,e2,e3,e4]
theorem y9s (a b:Cnd):RUN T zsu [.agg (cnd a),.agg (cnd b)]=some ([bv (zi3 a b)],[]):=by
 refine zae rfl rfl ?_;have e1:=ymm a.f b.f;have e2:=ymm a.b b.b;have e3:=ymf (zci a.f b.f) (zci a.b b.b);have hr:zah 8 2=true:=by decide
 have e4:zi3 a b=decide ((if zci a.f b.f=0 then zci a.b b.b else zci a.f b.f)<0):=by
  unfold zi3 zci;rw [Bool.eq_iff_iff];simp only [Bool.or_eq_true,Bool.and_eq_true,decide_eq_true_eq];split <;> split <;> (try split) <;> (try split) <;> (try split) <;> (try split) <;> omega
 rw [e4];simp [z6i,zyz,cnd,e1,e2,e3,hr]
theorem y9t (a b:Cnd):RUN T zsx [.agg (cnd a),.agg (cnd b)]=some ([bv (zi3 a b)],[]):=by
 refine zae rfl rfl ?_;unfold zi3
 by_cases h1:a.f<b.f
 ·simp [zw3,zyz,cnd,h1]
 ·by_cases h2:a.f=b.f <;> simp [zw3,zyz,cnd,h1,h2]
theorem y9u (a b:Cnd) (l:Int) (ha:zeu a) (hb:zeu b):RUN T znv [.agg (cnd a),.agg (cnd b),iv l]=some ([bv (zdr a b l)],[]):=by
 have e1:=ybo a l ha;have e2:=ybo b l hb;have e3:=ymq (zb4 a l).1 (zb4 b l).1 (zup _ _) (zup _ _);have e4:=y9s a b;unfold zdr;generalize zb4 a l=g at *;generalize zb4 b l=q at *;generalize zi3 a b=le at *;obtain ⟨g,gb⟩:=g;obtain ⟨q,qb⟩:=q;simp only at e1 e2 e3 ⊢;generalize zfm g q=m at *;obtain ⟨m,mb⟩:=m;simp only [frc,cnd] at e1 e2 e3 e4 ⊢;refine zae rfl rfl ?_;cases gb <;> cases qb <;> cases mb <;> by_cases h1:0<m <;> by_cases h2:m=0 <;> simp [z5o,zzr,e1,e2,e3,e4,h1,h2]
theorem y9v (a b:Cnd) (l:Int) (ha:zeu a) (hb:zeu b):RUN T zln [.agg (cnd a),.agg (cnd b),iv l]=some ([bv (zdr a b l)],[]):=by
 have e1:=ybp a l ha;have e2:=ybp b l hb;have e3:=ymr (zb4 a l).1 (zb4 b l).1 (zup _ _) (zup _ _);have e4:=y9t a b;unfold zdr;generalize zb4 a l=g at *;generalize zb4 b l=q at *;generalize zi3 a b=le at *;obtain ⟨g,gb⟩:=g;obtain ⟨q,qb⟩:=q;simp only at e1 e2 e3 ⊢;generalize zfm g q=m at *;obtain ⟨m,mb⟩:=m;simp only [frc,cnd] at e1 e2 e3 e4 ⊢;refine zae rfl rfl ?_;cases gb <;> cases qb <;> cases mb <;> by_cases h1:0<m <;> by_cases h2:m=0 <;> simp [z5z,zzr,e1,e2,e3,e4,h1,h2]
def zdy (c:Cfg) (b:Bd) (x:Cnd):Bool:=zb1 c && ((zbr c b x).2.2 && (decide (c.rw<=x.a.n) && (decide (c.rw<=x.z.n) && (zpi (zd6 c x.f) (zbr c b x).1 (zbr c b x).2.1 && zpf x c.la))))
theorem y9w (c:Cfg) (b:Bd) (x:Cnd) (h:zeu x) (hl:c.sg.length<=9223372036854775807):RUN T znu [cfS c,.agg (bnd b),.agg (cnd x)]=some ([bv (zdy c b x)],[]):=by
 have e1:=ymx c b x h;have e2:=yaz c hl;have e3:=ymz c x.f hl;have e5:=y9q x c.la h;unfold zdy;generalize zbr c b x=p at *;obtain ⟨p1,p2,pb⟩:=p;have e4:=y9o (zd6 c x.f) p1 p2;simp only at e1 ⊢;generalize zd6 c x.f=s at *;generalize zpi s p1 p2=ab at *;generalize zpf x c.la=ib at *;generalize zb1 c=cb at *;simp only [cnd,bnd] at e1 e5 ⊢;refine zae rfl rfl ?_;cases cb <;> cases pb <;> by_cases h1:c.rw<=x.a.n <;> by_cases h2:c.rw<=x.z.n <;> cases ab <;> simp [z5m,zzr,e1,e2,e3,e4,e5,h1,h2]
theorem y9x (c:Cfg) (b:Bd) (x:Cnd) (h:zeu x) (hl:c.sg.length<=9223372036854775807):RUN T zju [cfS c,.agg (bnd b),.agg (cnd x)]=some ([bv (zdy c b x)],[]):=by
 have e1:=ymy c b x h;have e2:=ya0 c hl;have e3:=ym0 c x.f hl;have e5:=y9r x c.la h;unfold zdy;generalize zbr c b x=p at *;obtain ⟨p1,p2,pb⟩:=p;have e4:=y9p (zd6 c x.f) p1 p2;simp only at e1 ⊢;generalize zd6 c x.f=s at *;generalize zpi s p1 p2=ab at *;generalize zpf x c.la=ib at *;generalize zb1 c=cb at *;simp only [cnd,bnd] at e1 e5 ⊢;refine zae rfl rfl ?_;cases cb <;> cases pb <;> by_cases h1:c.rw<=x.a.n <;> by_cases h2:c.rw<=x.z.n <;> cases ab <;> simp [z5x,zzr,e1,e2,e3,e4,e5,h1,h2]
def zcb (l:List Cnd):List (List PV):=l.map cnd
@[simp] theorem qr3 (l:List Cnd):(zcb l).length=l.length:=by simp [zcb]
theorem zx3 {l:List Cnd} {i:Nat} {x:Cnd} (h:l[i]?=some x):(zcb l)[i]?=some (cnd x):=by simp [zcb,h]
def noB (c:Cfg) (b:Bd) (x y:Cnd):Bool := !zdy c b y || !zdr y x c.la
def zmr (c:Cfg) (b:Bd) (l:List Cnd) (x:Cnd):Bool:=zdy c b x && l.all (noB c b x)
def zko:Cnd:=⟨0,0,⟨0,0⟩,⟨0,0⟩⟩
def ze0 (c:Cfg) (b:Bd) (l:List Cnd):Cnd×Bool:=match l.find? (zmr c b l) with
 | some x=>(x,true)
 | none=>(zko,false)
end Go.Pe
