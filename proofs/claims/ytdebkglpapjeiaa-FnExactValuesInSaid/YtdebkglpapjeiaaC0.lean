/- What each function answers by the evaluator,and the law; for each answer its own conditions stand ahead of it. -/
import Derived.Test.YtdebkglpapjeiaaK0
import Derived.Test.YtdebkglpapjeiaaEvB2
import Derived.IntWalk
set_option linter.all false
namespace Go.Pe
open Go
theorem w64 {x:Int} (h1 : -9223372036854775808≤x) (h2:x≤9223372036854775807):IntKind.i64.wrap x=x:=IntWalk.i64_in x ⟨h1,h2⟩
@[simp] theorem ygs {x:Int} (h1 : -9223372036854775808≤x) (h2:x≤9223372036854775807):IntKind.i64.wrap x=x:=w64 h1 h2
structure Nd where
 f:Int
 c:Int
 l:Int
 r:Int
 v:Int
deriving DecidableEq
def nd (n:Nd):List PV:=[iv n.f,iv n.c,iv n.l,iv n.r,iv n.v]
@[simp] theorem z5a (a b c d e:Int):RUN T zh2 [.agg [iv a,iv b,iv c,iv d,iv e]]=some ([bv (decide (a = -1))],[]):=by
 refine zbz zpy rfl ?_
 simp [zk7,zk8]
@[simp] theorem z5b (a b c d e:Int):RUN T zh1 [.agg [iv a,iv b,iv c,iv d,iv e]]=some ([bv (!decide (a = -1))],[]):=by
 refine zbz zpx rfl ?_
 simp [zk5,zk6]
@[simp] theorem z5c (a b c d e:Int):RUN T zh5 [.agg [iv a,iv b,iv c,iv d,iv e]]=some ([.agg [iv a,iv b,iv c,iv d,iv e]],[]):=by
 refine zbz zp1 rfl ?_
 simp [zle,zlf]
@[simp] theorem z5d (a b c d e:Int):RUN T zh3 [.agg [iv a,iv b,iv c,iv d,iv e],.agg [iv a,iv b,iv c,iv d,iv e]]=some ([bv true],[]):=by
 refine zbz zpz rfl ?_
 simp [zk9,zla]
theorem zwv (es:List (List PV)) (left:Int) (h0:0≤left) (h1:left≤1048576) (hl:es.length≤9223372036854775807):RUN T zhv [.sl 5 es,iv left]=some ([iv (if left-es.length<0 then -1 else left-es.length)],[]):=by
 refine zbz zpr rfl ?_
 have e:=w64 (x:=left-es.length) (by omega) (by omega)
 simp [zkt,zku,e]
 refine zd6 (fun h => ?_) (fun h => ?_) <;> simp at h <;> simp [h]
 omega
def z1p {α:Type} (p:α→Bool) (l:List α):Int:=match l.findIdx? p with
 | some i=>(i:Int)
 | none => -1
def zt7 (k:Int) (n:Nd):Bool := !decide (n.f = -1) && (decide (n.l=k) || decide (n.r=k))
def par (t:List Nd) (k:Int):Int:=z1p (zt7 k) t
theorem wS {i n:Nat} (h:i<n) (hn:n≤9223372036854775807):IntKind.i64.wrap ((i:Int)+1)=(i:Int)+1:=w64 (by omega) (by omega)
theorem zww (es:List (List PV)) (left:Int) (h0:0≤left) (h1:left≤1048576) (hl:es.length≤9223372036854775807):RUN T zhr [.agg [.sl 5 es],iv left]=some ([iv (if left-es.length<0 then -1 else left-es.length)],[]):=by
 refine zbz zpi rfl ?_
 have e:=zwv es left h0 h1 hl
 by_cases h:left-es.length<0
 ·simp only [h,if_true] at e ⊢
  simp [zi7,zi8,e]
  intro _; omega
 ·simp only [h,if_false] at e ⊢
  simp [zi7,zi8,e]
  refine zd6 (fun b0 => ?_) (fun b0 => ?_) <;> (try simp at b0) <;> simp [-getElem?_pos,b0,]
  omega
def fil {α β:Type} (f:α→β) (z:β) (l:List α) (i:Nat):List β:=(l.take i).map f++List.replicate (l.length-i) z
theorem zz0 {α β:Type} {f:α→β} {l:List α} {z:β} {i:Nat} {x:α} (hx:l[i]?=some x):(fil f z l i).set i (f x)=fil f z l (i+1):=by
 unfold fil
 obtain ⟨h1,h2⟩:=List.getElem?_eq_some_iff.mp hx
 apply List.ext_getElem?
 intro j
 rw [List.getElem?_set]
 simp only [List.length_append,List.length_map,List.length_take,List.length_replicate]
 by_cases e:i=j
 ·subst e
  rw [if_pos rfl,if_pos (by omega),List.getElem?_append_left (by simp; omega)]
  simp [List.getElem?_take,hx]
 ·rw [if_neg e]
  by_cases hj:j<i
  ·rw [List.getElem?_append_left (by simp; omega),List.getElem?_append_left (by simp; omega)]
   simp [List.getElem?_take,hj,show j<i+1 by omega]
  ·rw [List.getElem?_append_right (by simp; omega),List.getElem?_append_right (by simp; omega)]
   simp [List.getElem?_replicate]
   congr 1
   simp; omega
theorem z3u {α β:Type} {f:α→β} {l:List α} {z:β} {i:Nat} (h:i<l.length):(fil f z l i)[i]?=some z:=by
 unfold fil
 rw [List.getElem?_append_right (by simp; omega)]
 simp [List.getElem?_replicate]; omega
theorem zzy {α β:Type} {f:α→β} {l:List α} {z:β} {i:Nat} (h:i≤l.length):(fil f z l i).length=l.length:=by unfold fil; simp; omega
theorem z1x {α β:Type} {f:α→β} {l:List α} {z:β}:fil f z l 0=List.replicate l.length z:=by simp [fil]
theorem z1k {α β:Type} {f:α→β} {l:List α} {z:β} {i:Nat} (h:i=l.length):fil f z l i=l.map f:=by subst h; simp [fil]
theorem zwx (t:List Nd) (hl:t.length≤1048576):RUN T zhy [.sl 5 (t.map nd)]=some ([.own 5 (t.map nd)],[]):=by
 refine zbz zpu rfl ?_
 have hr:zbh 40 t.length=true:=by simp [zbh]; omega
 simp [zkz,zk0,hr]
 refine zdw (fun n st => ∃ i:Nat,i+n=t.length∧st.V 0 = .sl 5 (t.map nd)∧st.V 3 = .ref 0 none 0 0 t.length∧st.V 4=iv i∧st.ep=0∧st.S 0=some (.row 5 (fil nd [iv 0,iv 0,iv 0,iv 0,iv 0] t i))) ?_ t.length _ ⟨0,by simp [z1x]⟩
 rintro n st ⟨i,hi,h0,h3,h4,hep,hS⟩
 simp [zpd,h0,h3,h4,hS]
 refine zd6 (fun h => ?_) (fun h => ?_)
 ·simp at h
  obtain ⟨x,hx2⟩ : ∃ x,t[i]=x:=⟨_,rfl⟩
  have hx:t[i]?=some x:=by rw [← hx2]; exact List.getElem?_eq_getElem h
  have hw:=wS h (by omega:t.length≤9223372036854775807)
  have hg:=z3u (f:=nd) (z:=[iv 0,iv 0,iv 0,iv 0,iv 0]) h
  have hs:=zz0 (f:=nd) (z:=[iv 0,iv 0,iv 0,iv 0,iv 0]) hx
  simp only [nd] at hs
  simp [-getElem?_pos,h0,h3,h4,hS,hep,h,hx,nd,hw,hg,hs,zzy (Nat.le_of_lt h)]
  exact zc3 (n-1) (by omega) ⟨i+1,by omega,by simp [h0],by simp [h3],by simp,by simp,by simp⟩
 ·simp at h
  have e:=z1k (f:=nd) (z:=[iv 0,iv 0,iv 0,iv 0,iv 0]) (by omega:i=t.length)
  simp [h3,hS,e]
theorem zwy (t:List Nd) (hl:t.length≤1048576):RUN T zfm [.agg [.sl 5 (t.map nd)]]=some ([.agg [.own 5 (t.map nd)]],[]):=by
 refine zbz zpk rfl ?_
 simp [zkf,zkg,zwx t hl]
theorem zwz (t:List Nd) (hl:t.length≤9223372036854775807):RUN T zht [.sl 5 (t.map nd),.sl 5 (t.map nd)]=some ([bv true],[]):=by
 refine zbz zpp rfl ?_
 simp [zkp,zkq]
 refine zdw (fun n st => ∃ i:Nat,i+n=t.length∧st.V 0 = .sl 5 (t.map nd)∧st.V 1 = .sl 5 (t.map nd)∧st.V 5=iv i) ?_ t.length _ ⟨0,by simp⟩
 rintro n st ⟨i,hi,h0,h1,h5⟩
 simp [zpa,h0,h1,h5]
 refine zd6 (fun h => ?_) (fun h => ?_)
 ·simp at h
  obtain ⟨x,hx⟩ : ∃ x,t[i]?=some x:=⟨_,List.getElem?_eq_getElem h⟩
  have hw:=wS h hl
  simp [-getElem?_pos,h0,h1,h5,h,hx,nd,hw]
  exact zc3 (n-1) (by omega) ⟨i+1,by omega,by simp [h0],by simp [h1],by simp⟩
 ·simp
theorem zw0 (t:List Nd) (hl:t.length≤9223372036854775807):RUN T zhp [.agg [.sl 5 (t.map nd)],.agg [.sl 5 (t.map nd)]]=some ([bv true],[]):=by
 refine zbz zpg rfl ?_
 simp [zj9,zka,zwz t hl]
def zag (l:List Int):List (List PV):=l.map fun n=>[iv n]
@[simp] theorem z6s (l:List Int):(zag l).length=l.length:=by simp [zag]
theorem zfu {l:List Int} {i:Nat} {x:Int} (h:l[i]?=some x):(zag l)[i]?=some [iv x]:=by simp [zag,h]
@[simp] theorem ydc:zag []=[]:=rfl
theorem z0e (l m:List Int):zag l++zag m=zag (l++m):=by simp [zag]
theorem zgk (l:List Int) (x:Int):zag l++[[iv x]]=zag (l++[x]):=by simp [zag]
theorem zp9 (l:List Int):zb2 (zag l)=true:=by simp [zb2,zag]
def anc (t:List Nd):Nat→Int→Option (List Int)
 | 0,_=>none
 | n+1,k=>if par t k<0 then some [] else (anc t n (par t k)).map (par t k :: ·)
def way (t:List Nd) (k:Int):List Int:=if 0≤k∧k≤t.length-1 then match anc t 32 k with
  | some l=>(k::l).reverse
  | none=>[]
 else []
theorem zgc {n:Nat} (h:n≤17592186044416):zbh 8 n=true:=by simp [zbh]; omega
def mix {β:Type} (f:Nat→β) (l:List β) (i:Nat):List β:=(List.range i).map f++l.drop i
theorem zp8 {β:Type} {f:Nat→β} {l:List β}:mix f l 0=l:=by simp [mix]
theorem zuc {β:Type} {f:Nat→β} {l:List β} {i:Nat} (h:i=l.length):mix f l i=(List.range i).map f:=by subst h; simp [mix]
theorem zqh {β:Type} {f:Nat→β} {l:List β} {i:Nat} (h:i≤l.length):(mix f l i).length=l.length:=by simp [mix]; omega
theorem zuf {β:Type} {f:Nat→β} {l:List β} {i:Nat}:(mix f l i)[i]?=l[i]?:=by
 unfold mix
 rw [List.getElem?_append_right (by simp)]
 simp
theorem ztt {β:Type} {f:Nat→β} {l:List β} {i:Nat} (h:i<l.length):(mix f l i).set i (f i)=mix f l (i+1):=by
 unfold mix
 apply List.ext_getElem?
 intro j
 rw [List.getElem?_set]
 simp only [List.length_append,List.length_map,List.length_range,List.length_drop]
 by_cases e:i=j
 ·subst e
  rw [if_pos rfl,if_pos (by omega),List.getElem?_append_left (by simp)]
  simp
 ·rw [if_neg e]
  by_cases hj:j<i
  ·rw [List.getElem?_append_left (by simp; omega),List.getElem?_append_left (by simp; omega)]
   simp [hj,show j<i+1 by omega]
  ·rw [List.getElem?_append_right (by simp; omega),List.getElem?_append_right (by simp; omega)]
   simp
   congr 1
   omega
theorem zw1 (l:List Int) (hl:l.length≤9223372036854775807):RUN T zgb [.sl 1 (zag l),.sl 1 (zag l)]=some ([bv true],[]):=by
 refine zbz zpm rfl ?_
 simp [zkj,zkk]
 refine zdw (fun n st => ∃ i:Nat,i+n=l.length∧st.V 0 = .sl 1 (zag l)∧st.V 1 = .sl 1 (zag l)∧st.V 5=iv i) ?_ l.length _ ⟨0,by simp⟩
 rintro n st ⟨i,hi,h0,h1,h5⟩
 simp [zo7,h0,h1,h5]
 refine zd6 (fun h => ?_) (fun h => ?_)
 ·simp at h
  obtain ⟨x,hx⟩ : ∃ x,l[i]?=some x:=⟨_,List.getElem?_eq_getElem h⟩
  have hw:=wS h hl
  have hx':=zfu hx
  simp [-getElem?_pos,h0,h1,h5,h,hx',hw]
  exact zc3 (n-1) (by omega) ⟨i+1,by omega,by simp [h0],by simp [h1],by simp⟩
 ·simp
def upto (k:Int) (n:Nat):List Int:=(List.range n).map fun (i:Nat)=>k+(i:Int)
@[simp] theorem z8c (k:Int) (n:Nat):(upto k n).length=n:=by simp [upto]
theorem zw2 (l:List Int) (k:Int) (h0:0≤k) (hk:k+l.length≤9223372036854775806):RUN T zhs [.own 1 (zag l),iv k]=some ([iv (k+l.length)],[.own 1 (zag (upto k l.length))]):=by
 refine zbz zpn rfl ?_
 simp [zkl,zkm]
 refine zdw (fun n st => ∃ i:Nat,i+n=l.length∧st.V 0 = .ref 0 none 0 0 l.length∧st.V 1=iv (k+i)∧st.V 5=iv i∧st.ep=0∧st.S 0=some (.row 1 (mix (fun j=>[iv (k+(j:Int))]) (zag l) i))) ?_ l.length _ ⟨0,by simp [zp8]⟩
 rintro n st ⟨i,hi,h0,h1,h5,hep,hS⟩
 simp [zo8,h0,h1,h5,hS]
 refine zd6 (fun h => ?_) (fun h => ?_)
 ·simp at h
  obtain ⟨x,hx⟩ : ∃ x,l[i]?=some x:=⟨_,List.getElem?_eq_getElem h⟩
  have hw:=wS h (by omega:l.length≤9223372036854775807)
  have hw2:IntKind.i64.wrap (k+(i:Int)+1)=k+(i:Int)+1:=w64 (by omega) (by omega)
  have hx':=zfu hx
  have hg:=(zuf (f:=fun (j:Nat)=>[iv (k+(j:Int))]) (l:=zag l) (i:=i)).trans hx'
  have hs:=ztt (f:=fun (j:Nat)=>[iv (k+(j:Int))]) (l:=zag l) (i:=i) (by simpa using h)
  have hl:=zqh (f:=fun (j:Nat)=>[iv (k+(j:Int))]) (l:=zag l) (i:=i) (by simp; omega)
  simp at hl
  simp [-getElem?_pos,h0,h1,h5,hS,hep,h,hg,hs,hl,hw,hw2]
  exact zc3 (n-1) (by omega) ⟨i+1,by omega,by simp [h0],by simp; omega,by simp,by simp,by simp⟩
 ·simp at h
  have e:=zuc (f:=fun (j:Nat)=>[iv (k+(j:Int))]) (l:=zag l) (i:=i) (by simp; omega)
  have e2:i=l.length:=by omega
  subst e2
  simp [hS,e,h1]
  simp [zag,upto,Function.comp_def]
theorem zw3 (k:Int) (n:Nat) (h0:0≤k) (hk:k+n≤9223372036854775806):RUN T zgr [.sl 1 (zag (upto k n)),iv k]=some ([iv (k+n)],[]):=by
 refine zbz zpo rfl ?_
 simp [zkn,zko]
 refine zdw (fun q st => ∃ i:Nat,i+q=n∧st.V 0 = .sl 1 (zag (upto k n))∧st.V 1=iv (k+i)∧st.V 5=iv i) ?_ n _ ⟨0,by simp⟩
 rintro q st ⟨i,hi,h0,h1,h5⟩
 simp [zo9,h0,h1,h5]
 refine zd6 (fun h => ?_) (fun h => ?_)
 ·simp at h
  have hw:=wS h (by omega:n≤9223372036854775807)
  have hw2:IntKind.i64.wrap (k+(i:Int)+1)=k+(i:Int)+1:=w64 (by omega) (by omega)
  have hx':(zag (upto k n))[i]?=some [iv (k+i)]:=zfu (by simp [upto,h])
  simp [-getElem?_pos,h0,h1,h5,h,hx',hw,hw2]
  exact zc3 (q-1) (by omega) ⟨i+1,by omega,by simp [h0],by simp; omega,by simp⟩
 ·simp at h
  simp [h1]; omega
def ziq (k:Int) (n:Nat):List Nd:=(List.range n).map fun (i:Nat)=>⟨k+5*(i:Int),k+5*(i:Int)+1,k+5*(i:Int)+2,k+5*(i:Int)+3,k+5*(i:Int)+4⟩
theorem zw4 (t:List Nd) (k:Int) (h0:0≤k) (hk:k+5*t.length≤9223372036854775806):RUN T zhu [.own 5 (t.map nd),iv k]=some ([iv (k+5*t.length)],[.own 5 ((ziq k t.length).map nd)]):=by
 refine zbz zpq rfl ?_
 simp [zkr,zks]
 obtain ⟨f,hf⟩ : ∃ f:Nat→List PV,f=fun (j:Nat)=>[iv (k+5*(j:Int)),iv (k+5*(j:Int)+1),iv (k+5*(j:Int)+2),iv (k+5*(j:Int)+3),iv (k+5*(j:Int)+4)]:=⟨_,rfl⟩
 refine zdw (fun n st => ∃ i:Nat,i+n=t.length∧st.V 0 = .ref 0 none 0 0 t.length∧st.V 1=iv (k+5*i)∧st.V 5=iv i∧st.ep=0∧st.S 0=some (.row 5 (mix f (t.map nd) i))) ?_ t.length _ ⟨0,by simp [zp8]⟩
 rintro n st ⟨i,hi,h0,h1,h5,hep,hS⟩
 simp [zpb,h0,h1,h5,hS]
 refine zd6 (fun h => ?_) (fun h => ?_)
 ·simp at h
  obtain ⟨x,hx⟩ : ∃ x,t[i]?=some x:=⟨_,List.getElem?_eq_getElem h⟩
  have hw:=wS h (by omega:t.length≤9223372036854775807)
  have w1:IntKind.i64.wrap (k+5*(i:Int)+1)=k+5*(i:Int)+1:=w64 (by omega) (by omega)
  have w2:IntKind.i64.wrap (k+5*(i:Int)+1+1)=k+5*(i:Int)+2:=by rw [w64 (by omega) (by omega)]; omega
  have w3:IntKind.i64.wrap (k+5*(i:Int)+2+1)=k+5*(i:Int)+3:=by rw [w64 (by omega) (by omega)]; omega
  have w4:IntKind.i64.wrap (k+5*(i:Int)+3+1)=k+5*(i:Int)+4:=by rw [w64 (by omega) (by omega)]; omega
  have w5:IntKind.i64.wrap (k+5*(i:Int)+4+1)=k+5*((i:Int)+1):=by rw [w64 (by omega) (by omega)]; omega
  have hx':(t.map nd)[i]?=some (nd x):=by simp [hx]
  have hg:=(zuf (f:=f) (l:=t.map nd) (i:=i)).trans hx'
  have hs:=ztt (f:=f) (l:=t.map nd) (i:=i) (by simpa using h)
  have hfi:f i=[iv (k+5*(i:Int)),iv (k+5*(i:Int)+1),iv (k+5*(i:Int)+2),iv (k+5*(i:Int)+3),iv (k+5*(i:Int)+4)]:=by rw [hf]
  rw [hfi] at hs
  have hl:=zqh (f:=f) (l:=t.map nd) (i:=i) (by simp; omega)
  simp at hl
  simp [-getElem?_pos,h0,h1,h5,hS,hep,h,hg,hs,hl,hw,w1,w2,w3,w4,w5,nd]
  exact zc3 (n-1) (by omega) ⟨i+1,by omega,by simp [h0],by simp,by simp,by simp,by simp⟩
 ·simp at h
  have e:=zuc (f:=f) (l:=t.map nd) (i:=i) (by simp; omega)
  have e2:i=t.length:=by omega
  subst e2
  simp [hS,e,h1]
  simp [ziq,hf,Function.comp_def,nd]
theorem zw5 (t:List Nd) (k:Int) (h0:0≤k) (hk:k+5*t.length≤9223372036854775806):RUN T zhq [.agg [.own 5 (t.map nd)],iv k]=some ([iv (k+5*t.length)],[.own 5 ((ziq k t.length).map nd)]):=by
 refine zbz zph rfl ?_
 have e:=zw4 t k h0 hk
 simp [zkb,zkc,e,ziq]
def lvs:List Nd→Int→List Int
 | [],_=>[]
 | x::xs,i=>if x.f = -1 then i::lvs xs (i+1) else lvs xs (i+1)
theorem zi2 : ∀ (t:List Nd) (i:Int),(lvs t i).length≤t.length
 | [],_=>by simp [lvs]
 | x::xs,i=>by
  have:=zi2 xs (i+1)
  simp only [lvs]
  split <;> simp <;> omega
theorem zjs {α:Type} {l:List α} {i:Nat} {x:α} (h:l[i]?=some x):l.drop i=x::l.drop (i+1):=by
 obtain ⟨h1,h2⟩:=List.getElem?_eq_some_iff.mp h
 rw [List.drop_eq_getElem_cons h1,h2]
theorem zw6 (t:List Nd) (hl:t.length≤1048576):RUN T zhw [.agg [.sl 5 (t.map nd)]]=some ([.own 1 (zag (lvs t 0))],[]):=by
 refine zbz zps rfl ?_
 simp [zkv,zkw]
 refine zdw (fun n st => ∃ i:Nat,i+n=t.length∧∃ (m:List Int) (o e:Nat),m++lvs (t.drop i) i=lvs t 0∧st.V 1 = .ptr 0 none 0 0 0∧st.V 3 = .ref o none e 0 m.length∧st.V 4=iv i∧0<o∧o<st.nx∧st.S o=some (.row 1 (zag m))∧st.S 0=some (.box [.sl 5 (t.map nd)])) ?_ t.length _ ⟨0,by simp,[],1,0,by simp⟩
 rintro n st ⟨i,hi,m,o,e,hm,h1,h3,h4,ho,hox,hSo,hS⟩
 simp [zpc,h1,h3,h4,hS]
 refine zd6 (fun h => ?_) (fun h => ?_)
 ·simp at h
  obtain ⟨x,hx⟩ : ∃ x,t[i]?=some x:=⟨_,List.getElem?_eq_getElem h⟩
  have hw:=wS h (by omega:t.length≤9223372036854775807)
  have hr:zbh 8 (m.length+1)=true:=zgc (by
   have h5:=congrArg List.length hm
   have h6:=zi2 t 0
   simp at h5; omega)
  have n1 : ¬ o=st.nx:=by omega
  have n2 : ¬ 0=o:=by omega
  have n3 : ¬ 0=st.nx:=by omega
  simp [-getElem?_pos,h1,h3,h4,hS,hSo,n1,n2,n3,hx,nd,hw,hr,zgk]
  refine zd6 (fun b0 => ?_) (fun b0 => ?_) <;> (try simp at b0) <;> simp [-getElem?_pos,b0,h1,h3,h4,hS,hSo,n1,n2,n3,hx,hw,hr,zgk]
  ·refine zc3 (n-1) (by omega) ⟨i+1,by omega,m++[(i:Int)],st.nx+1,st.ep,?_,by simp [h1],by simp,by simp,by omega,by simp,by simp,by simp [n2,n3,hS]⟩
   rw [← hm,zjs hx,lvs,if_pos b0]; simp
  ·refine zc3 (n-1) (by omega) ⟨i+1,by omega,m,o,e,?_,by simp [h1],by simp [h3],by simp,by omega,by simp [hox],by simp [hSo],by simp [hS]⟩
   rw [← hm,zjs hx,lvs,if_neg b0]; simp
 ·simp at h
  have e:m=lvs t 0:=by rw [← hm,List.drop_eq_nil_of_le h]; simp [lvs]
  simp [h3,hSo,e]
theorem zw7 (t:List Nd) (hl:t.length≤1048576):RUN T zhz [.agg [.sl 5 (t.map nd)]]=some ([.own 1 (zag (lvs t 0))],[]):=by
 refine zbz zpv rfl ?_
 simp [zk1,zk2]
 refine zdw (fun n st => ∃ i:Nat,i+n=t.length∧∃ (m:List Int) (o e:Nat),m++lvs (t.drop i) i=lvs t 0∧st.V 8 = .sl 5 (t.map nd)∧st.V 9=iv t.length∧st.V 3 = .ref o none e 0 m.length∧st.V 10=iv i∧o<st.nx∧st.S o=some (.row 1 (zag m))) ?_ t.length _ ⟨0,by simp,[],1,0,by simp⟩
 rintro n st ⟨i,hi,m,o,e,hm,h8,h9,h3,h10,hox,hSo⟩
 simp [zpe,h8,h9,h10]
 refine zd6 (fun h => ?_) (fun h => ?_)
 ·simp at h
  obtain ⟨x,hx⟩ : ∃ x,t[i]?=some x:=⟨_,List.getElem?_eq_getElem h⟩
  have hw:=wS h (by omega:t.length≤9223372036854775807)
  have hr:zbh 8 (m.length+1)=true:=zgc (by
   have h5:=congrArg List.length hm
   have h6:=zi2 t 0
   simp at h5; omega)
  have n1 : ¬ o=st.nx:=by omega
  have n2 : ¬ o=st.nx+1:=by omega
  simp [-getElem?_pos,h8,h9,h3,h10,hSo,n1,n2,hx,nd,hw,hr,zgk]
  refine zd6 (fun b0 => ?_) (fun b0 => ?_) <;> (try simp at b0) <;> simp [-getElem?_pos,b0,h8,h9,h3,h10,hSo,n1,n2,hx,hw,hr,zgk]
  ·refine zc3 (n-1) (by omega) ⟨i+1,by omega,m++[(i:Int)],st.nx+2,st.ep,?_,by simp [h8],by simp [h9],by simp,by simp,by simp,by simp⟩
   rw [← hm,zjs hx,lvs,if_pos b0]; simp
  ·refine zc3 (n-1) (by omega) ⟨i+1,by omega,m,o,e,?_,by simp [h8],by simp [h9],by simp [h3],by simp,by simp; omega,by simp [hSo,n1]⟩
   rw [← hm,zjs hx,lvs,if_neg b0]; simp
 ·simp at h
  have e:m=lvs t 0:=by rw [← hm,List.drop_eq_nil_of_le h]; simp [lvs]
  simp [h3,hSo,e]
def inI (n:Int):Prop := -9223372036854775808≤n∧n≤9223372036854775807
def box (t:List Nd) (f:Int):List Int→Int→Int→Int×Int
 | a::b::r,lo,hi=>match t[a.toNat]? with
  | none=>(lo,hi)
  | some x=>if x.f=f then (if x.l=b then box t f (b::r) lo (min hi x.c) else if x.c=9223372036854775807 then box t f (b::r) lo hi else box t f (b::r) (max lo (x.c+1)) hi) else box t f (b::r) lo hi
 | _,lo,hi=>(lo,hi)
def wfN (n:Nd):Prop:=inI n.f∧inI n.c∧inI n.l∧inI n.r∧inI n.v
structure Cfg where
 ro:Int
 de:Int
 bi:Int
 la:Int
 rw:Int
 nu:Int
 dn:Int
 sg:List Int
def zbs (n a b:Int):Bool:=decide (a≤n) && decide (n≤b)
def zjx (c:Cfg):Bool:=zbs c.ro 1 8 && zbs c.de 0 4 && zbs c.bi 2 8 && zbs c.la 1 100 && zbs c.rw 1 20 && zbs c.dn 1 1000 && zbs c.nu 1 c.dn && decide ((c.sg.length:Int)≤4) && c.sg.all fun n=>zbs n (-1) 1
def fdv (a b:Int):Int×Bool:=if b=0∨(b = -1∧a = -9223372036854775808) then (0,false) else (a.fdiv b,true)
theorem zlw {n a b:Int}:zbs n a b=true↔a≤n∧n≤b:=by simp [zbs]
def zm2 (v:Int):Bool:=zbs v (-1099511627776) 1099511627776
def zrg (n:Int):Bool:=zbs n (-2147483647) 2147483647
structure z4d (F:Int) (x:Nd) (i n m:Int):Prop where
 lo:n≤x.l
 lt:i<x.l
 r:x.r=x.l+1
 hi:x.r<m
 f:0≤x.f∧x.f≤F-1
 c:zrg x.c=true
 v:x.v=0
structure Shaped (t:List Nd) (F:Int):Prop where
 leaf : ∀ (j:Nat) (x:Nd),t[j]?=some x→x.f = -1→x.c=0∧x.l=0∧x.r=0∧zm2 x.v=true
 inner : ∀ (j:Nat) (x:Nd),t[j]?=some x→x.f ≠ -1→z4d F x j 1 t.length
 ord : ∀ (j j':Nat) (x y:Nd),j<j'→t[j]?=some x→t[j']?=some y→x.f ≠ -1→y.f ≠ -1→x.r<y.l
 cover : ∀ k:Int,1≤k→k<t.length→∃ (j:Nat) (x:Nd),t[j]?=some x∧x.f ≠ -1∧(x.l=k∨x.r=k)
 pos:1≤t.length
def adj (p:Int→Int→Bool):List Int→Bool
 | a::b::r=>p a b || adj p (b::r)
 | _=>false
def cel (q:Bool) (l:List Int):PV:=if q then .own 1 (zag l) else .sl 1 (zag l)
@[simp] theorem z5e (q:Bool) (l:List Int):fz (cel q l) = .sl 1 (zag l):=by cases q <;> simp [cel]
def rws (q:Bool) (L:List (List Int)):List (List PV):=L.map fun l=>[cel q l]
@[simp] theorem z98 (q:Bool) (L:List (List Int)):(rws q L).length=L.length:=by simp [rws]
def z4e (l:List Int):Bool := !adj (fun a b=>decide (b≤a)) l && l.all zrg && decide ((l.length:Int)≤7)
def zl6:List (List Int)→Nat
 | []=>0
 | l::_=>l.length
theorem zrw {s:St} {d:Option Dst} {op:IOp} {g:Opd} {v:Bool} {x:PV}:(yv s ⟨d,op,some (g,v)⟩=some x)=(Ob' (ze1 v (g.get s)) fun t=>Br t (WI (fun _=>[]) (fun _ _=>none) op s (fun y _=>y=x)) (PV.v Go.undef=x)):=by
 simp only [yv,zvd,WI,Ob',Br,Option.map_eq_some_iff,Option.bind_eq_some_iff,eq_iff_iff]
 constructor
 ·rintro ⟨⟨y,s'⟩,⟨t,h1,h2⟩,h3⟩
  refine ⟨t,h1,fun ht => ?_,fun ht => ?_⟩ <;> subst ht
  ·exact ⟨y,s',by simpa using h2,h3⟩
  ·simp at h2; obtain ⟨rfl,rfl⟩:=h2; exact h3
 ·rintro ⟨t,h1,h2,h3⟩
  cases t with
  | true=>obtain ⟨y,s',h4,h5⟩:=h2 rfl; exact ⟨(y,s'),⟨true,h1,by simpa using h4⟩,h5⟩
  | false=>exact ⟨_,⟨false,h1,rfl⟩,h3 rfl⟩
@[simp] theorem ykv {s:St} {d:Option Dst} {op:IOp} {g:Opd} {v:Bool} {x:PV} {n:Nat} {r:List (zaa×PV×Nat)}:zbd s ((⟨d,op,some (g,v)⟩,x,n+1)::r)=((Ob' (ze1 v (g.get s)) fun t=>Br t (WI (fun _=>[]) (fun _ _=>none) op s (fun y _=>y=x)) (PV.v Go.undef=x))∧zbd s r):=by
 simp only [zbd,zrw]
@[simp] theorem z6q {V E:Nat→PV} {d:Option Dst} {op:IOp} {g:Opd} {v:Bool} {x:PV} {n:Nat} {s:St} {ms:List St}:zar V E ⟨d,op,some (g,v)⟩ x (n+1) (s::ms)=((Ob' (ze1 v (g.get { s with V:=V,E:=E })) fun t=>Br t (WI (fun _=>[]) (fun _ _=>none) op { s with V:=V,E:=E } (fun y _=>y=x)) (PV.v Go.undef=x))∧zar V E ⟨d,op,some (g,v)⟩ x n ms):=by
 simp only [zar,zrw]
def z0w (c v:List (List Int)) (f:Nat):Bool:=match c[f]?,v[f]? with
 | some a,some b=>z4e a && decide ((b.length:Int)=zl6 v) && b.all fun x=>zbs x 0 a.length
 | _,_=>true
def zmu (c v:List (List Int)):Bool:=zbs c.length 1 4 && decide ((v.length:Int)=c.length) && zbs (zl6 v) 1 40 && (List.range c.length).all (z0w c v)
def z4c (x:Int):Bool:=zbs x (-2199023255552) 2199023255552
def zl0 (c v:List (List Int)) (lab:List Int) (g:Cfg):Bool:=zmu c v && zjx g && decide ((lab.length:Int)=zl6 v) && lab.all z4c
theorem zjp {n:Int} (h:(Lit.int .i64 n).wf=true) : -9223372036854775808≤n∧n≤9223372036854775807:=bounds_i64 h
theorem zqc {α:Type} {f:α→List PV} {p:α→Prop} {tys:List TY} (h : ∀ cs,za8 tys cs→∃ a,f a=cs∧p a) : ∀ {es:List (List PV)},(∀ cs∈es,za8 tys cs)→∃ l:List α,l.map f=es∧∀ a∈l,p a
 | [],_=>⟨[],rfl,by simp⟩
 | e::es,hs=>by
  obtain ⟨a,ha,hp⟩:=h e (hs e (by simp))
  obtain ⟨l,hl,hq⟩:=zqc h (es:=es) (fun cs hc=>hs cs (by simp [hc]))
  refine ⟨a::l,by simp [ha,hl],fun b hb => ?_⟩
  rcases List.mem_cons.mp hb with e | e
  ·subst e; exact hp
  ·exact hq b e
abbrev zuw:List TY:=[.int .i64,.int .i64,.int .i64,.int .i64,.int .i64]
theorem z1m (cs:List PV) (h:za8 zuw cs) : ∃ n:Nd,nd n=cs∧wfN n:=by
 simp only [za8,Shp] at h
 obtain ⟨_,_,rfl,⟨a,rfl,h1⟩,_,_,rfl,⟨b,rfl,h2⟩,_,_,rfl,⟨c,rfl,h3⟩,_,_,rfl,⟨d,rfl,h4⟩,_,_,rfl,⟨e,rfl,h5⟩,rfl⟩:=h
 exact ⟨⟨a,b,c,d,e⟩,rfl,zjp h1,zjp h2,zjp h3,zjp h4,zjp h5⟩
theorem zyh {c:PV} (h:zhj true [.sl zuw] c) : ∃ t:List Nd,c = .agg [.sl 5 (t.map nd)]∧t.length≤9223372036854775807∧∀ n∈t,wfN n:=by
 obtain ⟨cs,rfl,h⟩:=h
 simp only [za8,Shp] at h
 obtain ⟨_,_,rfl,⟨es,rfl,h1,h2⟩,rfl⟩:=h
 obtain ⟨t,rfl,hp⟩:=zqc z1m h2
 simp [maxLen] at h1
 exact ⟨t,rfl,by omega,hp⟩
theorem zyb {P:Program} {l:List TypeId} (h:(l.all fun t=>P.readableRec t && decide (t<P.types.size))=true) : ∀ t∈l,P.readableRec t=true∧t<P.types.size:=by
 intro t ht
 have:=List.all_eq_true.mp h t ht
 simpa using this
theorem zzi {p:Bool×List TY} {pvs:List PV} (h:zb4 (fun p c=>zhj p.1 p.2 c) [p] pvs) : ∃ a,pvs=[a]∧zhj p.1 p.2 a:=by
 cases h with
 | cons h1 t=>cases t with
  | nil=>exact ⟨_,rfl,h1⟩
def zqb (B:List Int):List (List PV):=B.map fun n=>[.v (.int .u8 n)]
@[simp] theorem ygn (B:List Int):(zqb B).length=B.length:=by simp [zqb]
def zmi (rv:List RV) (io:Nat) (G:List PV×List PV→Prop) (_:Dm rv) (_:Dm G) (e:Ex) (s:St):Prop:=(e = .normal∨e = .ret)∧∃ r,zdh ⟨[],rv,.skip⟩ io s=some r∧G r
@[simp] theorem yjy {rv:List RV} {io:Nat} {G:List PV×List PV→Prop} {s:St}:zmi rv io G ⟨⟩ ⟨⟩ .normal s = ∃ r,zdh ⟨[],rv,.skip⟩ io s=some r∧G r:=by simp [zmi]
@[simp] theorem z8x {rv:List RV} {io:Nat} {G:List PV×List PV→Prop} {s:St}:zmi rv io G ⟨⟩ ⟨⟩ .ret s = ∃ r,zdh ⟨[],rv,.skip⟩ io s=some r∧G r:=by simp [zmi]
def adi (a b:Int):Int×Bool:=if -9223372036854775808≤a+b∧a+b≤9223372036854775807 then (a+b,true) else (0,false)
def sbi (a b:Int):Int×Bool:=if -9223372036854775808≤a-b∧a-b≤9223372036854775807 then (a-b,true) else (0,false)
def zjv (l:List ByteArray):List (List PV):=l.map fun s=>[.v (.string s)]
@[simp] theorem yc6 (l:List ByteArray):(zjv l).length=l.length:=by simp [zjv]
def zo0 (q:Bool) (t:List Nd):PV:=if q then .own 5 (t.map nd) else .sl 5 (t.map nd)
@[simp] theorem yig (q:Bool) (t:List Nd):fz (zo0 q t) = .sl 5 (t.map nd):=by cases q <;> simp [zo0]
def trs (q:Bool) (M:List (List Nd)):List (List PV):=M.map fun t=>[zo0 q t]
@[simp] theorem yik (q:Bool) (M:List (List Nd)):(trs q M).length=M.length:=by simp [trs]
def rwS (q:Bool) (l:List ByteArray):PV:=if q then .own 1 (zjv l) else .sl 1 (zjv l)
@[simp] theorem z95 (q:Bool) (l:List ByteArray):fz (rwS q l) = .sl 1 (zjv l):=by cases q <;> simp [rwS]
def zt0 (q:Bool) (L:List (List ByteArray)):List (List PV):=L.map fun l=>[rwS q l]
@[simp] theorem yd9 (q:Bool) (L:List (List ByteArray)):(zt0 q L).length=L.length:=by simp [zt0]
def z0u (p:Nat→Bool) (i:Nat):List Int:=((List.range i).filter p).map fun (j:Nat)=>(j:Int)
@[simp] theorem yhr (p:Nat→Bool):z0u p 0=[]:=rfl
structure Wd where
 n:Bool
 h:Int
 l:Int
deriving DecidableEq
def wok (w:Wd):Bool:=decide (w.h<9223372036854775808) && (!w.n || decide (0<w.h) || decide (0<w.l))
def mag (w:Wd):Int:=w.h*18446744073709551616+w.l
def mkW (n:Bool) (m:Int):Wd:=⟨n && decide (0<m),m / 18446744073709551616,m % 18446744073709551616⟩
def zis:Wd:=⟨false,0,0⟩
def zm1 (a b:Int):Int:=if a<b then -1 else if b<a then 1 else 0
def zuz (a b:Wd):Int:=if zm1 a.h b.h=0 then zm1 a.l b.l else zm1 a.h b.h
def zzl (a b:Int):Wd:=mkW (decide (a<0) != decide (b<0)) ((a.natAbs:Int)*b.natAbs)
def zie (w:Wd):Int:=if w.n then -mag w else mag w
def zur (a b:Wd):Wd×Bool :=
 if wok a && wok b then
  if ((zie a+zie b).natAbs:Int)<170141183460469231731687303715884105728 then (mkW (decide (zie a+zie b<0)) (zie a+zie b).natAbs,true) else (zis,false)
 else (zis,false)
def zmf (w:Wd) (k:Int):Wd×Bool:=if wok w=true∧mag w*k.natAbs<170141183460469231731687303715884105728 then (mkW (w.n != decide (k<0)) (mag w*k.natAbs),true) else (zis,false)
def znr (w:Wd):Bool:=w.n && !(decide (w.h=0) && decide (w.l=0))
def z1a (a b:Wd):Int:=if znr a=true then (if znr b=true then zuz b a else -1) else (if znr b=true then 1 else zuz a b)
def zui (t:List Nd) (k:Nat) (f c a b:Int):List Nd:=t.set k ⟨f,c,t.length,t.length+1,0⟩++[⟨-1,0,0,0,a⟩,⟨-1,0,0,0,b⟩]
def pos (x:Int) (l:List Int):Nat→Nat
 | 0=>0
 | k+1=>if x<l.getD k 0 then pos x l k else k+1
def ins (l:List Int) (x:Int):List Int:=l.take (pos x l l.length)++x::l.drop (pos x l l.length)
def zcw (l:List Int):List Int:=l.foldl ins []
theorem zo1 (x:Int) (l:List Int) : ∀ k,pos x l k≤k
 | 0=>by simp [pos]
 | k+1=>by
  have:=zo1 x l k
  simp only [pos]; split <;> omega
theorem z0f (l:List Int) (x:Int):(ins l x).length=l.length+1:=by
 have:=zo1 x l l.length
 unfold ins
 simp; omega
theorem z3s {l:List Int} {i:Nat} {x:Int} (h:l[i]?=some x):(l.take (i+1)).foldl ins []=ins ((l.take i).foldl ins []) x:=by
 rw [List.take_succ,h]
 simp [List.foldl_append]
theorem z12 (l:List Int) : ∀ a:List Int,(l.foldl ins a).length=a.length+l.length:=by
 induction l with
 | nil=>intro a; rfl
 | cons x l ih=>intro a; simp only [List.foldl_cons,ih,z0f,List.length_cons]; omega
theorem zzz (a:List Int) (p:Nat):List.take (a.length-p) (List.drop p (zag a))=zag (a.drop p):=by
 rw [List.take_of_length_le (by simp)]
 simp [zag,List.map_drop]
theorem z1b (a:List Int) (p:Nat) (h:p≤a.length):(if p=a.length then zag a else List.take p (zag a))=zag (a.take p):=by
 split
 ·rename_i e; subst e; rw [List.take_length]
 ·simp [zag,List.map_take]
theorem zna (x:Int) (l:List Int) (k:Nat):pos x l (k+1)=if x<l.getD k 0 then pos x l k else k+1:=rfl
def zco (x:Int) (l:List Int) (k P:Nat):Prop:=pos x l k=P
theorem zco.on {x y:Int} {l:List Int} {k P:Nat} (h:zco x l (k+1) P) (hy:l[k]?=some y) (hc:x<y):zco x l k P:=by
 unfold zco at *
 rw [zna] at h
 simp only [List.getD,hy,Option.getD_some,if_pos hc] at h
 exact h
theorem zco.off {x y:Int} {l:List Int} {k P:Nat} (h:zco x l (k+1) P) (hy:l[k]?=some y) (hc : ¬ x<y):k+1=P:=by
 unfold zco at *
 rw [zna] at h
 simp only [List.getD,hy,Option.getD_some,if_neg hc] at h
 exact h
theorem zco.ex (x:Int) (l:List Int) (k:Nat) : ∃ P,zco x l k P:=⟨_,rfl⟩
theorem zco.z {x:Int} {l:List Int} {P:Nat} (h:zco x l 0 P):0=P:=h
theorem zma {x:Int} {l:List Int} {P:Nat} (h:zco x l l.length P):ins l x=l.take P++x::l.drop P:=by unfold zco at h; unfold ins; rw [h]
attribute [irreducible] pos ins zco
set_option maxHeartbeats 800000 in
theorem zw8 (l:List Int) (hl:l.length≤1048576):RUN T zh4 [.sl 1 (zag l)]=some ([.own 1 (zag (zcw l))],[]):=by
 refine zbz zp0 rfl ?_
 have hr0:zbh 8 0=true:=by decide
 simp [-getElem?_pos,zlc,zld,hr0]
 refine zdw (fun n st => ∃ (i o e:Nat) (a:List Int),i+n=l.length∧a=(l.take i).foldl ins []∧a.length=i∧st.V 0 = .sl 1 (zag l)∧st.V 3 = .ref o none e 0 a.length∧st.V 4=iv i∧o<st.nx∧st.S o=some (.row 1 (zag a))) ?_ l.length _ ⟨0,0,0,[],by simp [zag]⟩
 rintro n st ⟨i,o,e,a,hi,ha,hal,v0,v3,v4,hox,hSo⟩
 simp [zpf,v0,v4]
 obtain ⟨f1,f2,f3,f4⟩:=fr hox
 refine zd6 (fun h => ?_) (fun h => ?_)
 ·simp at h
  obtain ⟨x,hx⟩ : ∃ x,l[i]?=some x:=⟨_,List.getElem?_eq_getElem h⟩
  have hx':=zfu hx
  have hws:=wS h (by omega:l.length≤9223372036854775807)
  have hft:=z3s hx
  rw [← ha] at hft
  obtain ⟨P,hP⟩ : ∃ P,zco x a a.length P:=zco.ex x a a.length
  simp [-getElem?_pos,v0,v3,v4,hSo]
  refine zdw (fun n' s => ∃ j:Nat,n'=j∧j≤a.length∧zco x a j P∧s.V 0 = .sl 1 (zag l)∧s.V 3 = .ref o none e 0 a.length∧s.V 4=iv i∧s.V 5=iv j∧s.nx=st.nx∧s.S o=some (.row 1 (zag a))) ?_ a.length _ ⟨a.length,by omega,by omega,hP,by simp [v0],by simp [v3],by simp [v4],by simp,by simp,by simp [hSo]⟩
  rintro n' s ⟨j,hjn,hj,hp,u0,u3,u4,u5,unx,hSo'⟩
  clear v0 v3 v4 hSo
  obtain ⟨g1,g2,g3,g4⟩:=fr (show o<s.nx by omega)
  obtain ⟨_,_,g5,g6⟩:=fr (show o<s.nx+1 by omega)
  obtain ⟨_,_,g7,g8⟩:=fr (show o<s.nx+2 by omega)
  have hcr : ∀ c:Nat,c≤a.length+1→zbh 8 c=true:=fun c hc=>zgc (by omega)
  have hr1:zbh 8 1=true:=by decide
  by_cases h0:0<j
  ·obtain ⟨q,rfl⟩ : ∃ q:Nat,j=q+1:=⟨j-1,by omega⟩
   have hw:=w64 (x:=(q:Int)) (by omega) (by omega)
   obtain ⟨y,hy⟩ : ∃ y,a[q]?=some y:=⟨_,List.getElem?_eq_getElem (by omega)⟩
   have hy':=zfu hy
   have hqa:q<a.length:=by omega
   by_cases hc:x<y
   ·have hp':=hp.on hy hc
    simp [-getElem?_pos,zlb,u0,u3,u4,u5,hSo',hx',h,h0,hw,hy',hqa,hc]
    exact zc3 q (by omega) ⟨q,rfl,by omega,hp',by simp [u0],by simp [u3],by simp [u4],by simp,by simp [unx],by simp [hSo']⟩
   ·have hp':=hp.off hy hc
    have hk1:=hcr (q+1) (by omega)
    have hk2:=zgc (n:=q+1+1) (by omega)
    have hk3:=hcr (a.length+1) (by omega)
    have hcut:=z1b a (q+1) (by omega)
    have hal2 : ∀ b:List Int,zb2 (zag b)=true:=zp9
    have hmin:(a.take (q+1)).length=q+1:=by simp; omega
    have hdr:=zzz a (q+1)
    have hmd:(a.drop (q+1)).length=a.length-(q+1):=by simp
    have hsn:=zgk (a.take (q+1)) x
    have hap:=z0e (a.take (q+1)++[x]) (a.drop (q+1))
    have hk4:=zgc (n:=q+2+(a.length-(q+1))) (by omega)
    have hin:=zma hP
    rw [← hp'] at hin
    have hlen2:q+2+(a.length-(q+1))=a.length+1:=by omega
    simp [-getElem?_pos,zlb,u0,u3,u4,u5,hSo',hx',h,h0,hw,hy',hqa,hc,hj,g1,g2,g3,g4,g5,g6,g7,g8,hr1,hk1,hk2,hk3,hcut,hal2,hmin,hdr,hmd,hsn,hap,hk4,hlen2]
    refine zc3 (n-1) (by omega) ⟨i+1,s.nx+2+2,s.ep,a.take (q+1)++x::a.drop (q+1),by omega,by rw [hft,hin],by simp; omega,by simp [u0],by simp; omega,by simp [hws],by simp,by simp⟩
  ·have h0':j=0:=by omega
   subst h0'
   have hp':=hp.z
   have hk0:=hcr 0 (by omega)
   have hk3:=hcr (a.length+1) (by omega)
   have hcut:(if 0=a.length then zag a else [])=([]:List (List PV)):=by
    split
    ·rename_i e
     have:a=[]:=List.length_eq_zero_iff.mp e.symm
     subst this; rfl
    ·rfl
   have hal2 : ∀ b:List Int,zb2 (zag b)=true:=zp9
   have hin:=zma hP
   rw [← hp'] at hin
   have hcons:[iv x]::zag a=zag (x::a):=rfl
   have hk4:=hcr (1+a.length) (by omega)
   have hk5:=hcr (a.length+1) (by omega)
   simp [-getElem?_pos,zlb,u0,u3,u4,u5,hSo',hx',h,g1,g2,g3,g4,g5,g6,g7,g8,hr1,hk0,hk3,hcut,hal2,hcons,hk4,hk5]
   refine zc3 (n-1) (by omega) ⟨i+1,s.nx+2+2,s.ep,x::a,by omega,by rw [hft,hin]; simp,by (try simp); try omega,by simp [u0],by (try simp); try omega,by simp [hws],by simp,by simp⟩
 ·simp at h
  have e1:i=l.length:=by omega
  rw [e1,List.take_length] at ha
  simp [-getElem?_pos,v3,hSo,zcw,← ha]
theorem Shaped.wf {t:List Nd} {F:Int} (h:Shaped t F) (hF:F≤100) (hl:t.length≤31) : ∀ n∈t,wfN n:=by
 intro n hn
 obtain ⟨j,hj⟩:=List.getElem?_of_mem hn
 unfold wfN inI
 by_cases hf:n.f = -1
 ·obtain ⟨h1,h2,h3,h4⟩:=h.leaf j n hj hf
  have:=zlw.mp h4
  omega
 ·have hi:=h.inner j n hj hf
  have h1:=zlw.mp hi.c
  have h2:=hi.f
  have h3:=hi.lo
  have h4:=hi.r
  have h5:=hi.hi
  have h6:=hi.v
  omega
theorem zof : ∀ (t:List Nd) (i y:Int),y∈lvs t i↔∃ (j:Nat) (z:Nd),t[j]?=some z∧z.f = -1∧y=i+j
 | [],i,y=>by simp [lvs]
 | x::xs,i,y=>by
  have ih:=zof xs (i+1) y
  have step:(∃ (j:Nat) (z:Nd),(x::xs)[j]?=some z∧z.f = -1∧y=i+j)↔(x.f = -1∧y=i)∨∃ (j:Nat) (z:Nd),xs[j]?=some z∧z.f = -1∧y=i+1+j:=by
   constructor
   ·rintro ⟨j,z,h1,h2,h3⟩
    cases j with
    | zero=>simp at h1; subst h1; exact .inl ⟨h2,by omega⟩
    | succ j=>exact .inr ⟨j,z,by simpa using h1,h2,by omega⟩
   ·rintro (⟨h1,h2⟩ | ⟨j,z,h1,h2,h3⟩)
    ·exact ⟨0,x,rfl,h1,by omega⟩
    ·exact ⟨j+1,z,by simpa using h1,h2,by omega⟩
  rw [step,← ih]
  simp only [lvs]
  split
  ·rename_i hf; simp [hf]
  ·rename_i hf; simp [hf]
structure Sl where
 n:Int
 g:Int
deriving DecidableEq
def slc (x:Sl):List PV:=[iv x.n,iv x.g]
def zjq (l:List Sl):List (List PV):=l.map slc
@[simp] theorem ylr (l:List Sl):(zjq l).length=l.length:=by simp [zjq]
def zfp (a b:Sl):Sl×Bool:=if ((adi a.n b.n).2 && (adi a.g b.g).2)=true then (⟨(adi a.n b.n).1,(adi a.g b.g).1⟩,true) else (⟨0,0⟩,false)
def atI {α:Type} (l:List α) (i:Int):Option α:=if 0≤i then l[i.toNat]? else none
def zrc (b g:List Int):List Int→List Sl→Option (List Sl)
 | [],h=>some h
 | r::rs,h=>match atI b r,atI g r with
  | some x,some y=>match atI h x with
   | some s=>if (zfp s ⟨1,y⟩).2=true then zrc b g rs (h.set x.toNat (zfp s ⟨1,y⟩).1) else none
   | none=>none
  | _,_=>none
def zu9 (b g rows:List Int) (k:Int):List Sl×Bool:=if zbs k 1 8=true then match zrc b g rows (List.replicate k.toNat ⟨0,0⟩) with
  | some h=>(h,true)
  | none=>([],false)
 else ([],false)
def zne (q:Bool) (l:List Sl):PV:=if q then .own 2 (zjq l) else .sl 2 (zjq l)
@[simp] theorem z5r (q:Bool) (l:List Sl):fz (zne q l) = .sl 2 (zjq l):=by cases q <;> simp [zne]
def rss (q:Bool) (H:List (List Sl)):List (List PV):=H.map fun l=>[zne q l]
@[simp] theorem yak (q:Bool) (H:List (List Sl)):(rss q H).length=H.length:=by simp [rss]
def zq8 (g rows:List Int):List (List Int)→List (List Int)→Option (List (List Sl))
 | x::c,y::v=>if (zu9 y g rows (x.length+1)).2=true then (zq8 g rows c v).map ((zu9 y g rows (x.length+1)).1 :: ·) else none
 | _,_=>some []
def zsk (c v:List (List Int)) (g rows:List Int):List (List Sl)×Bool:=if zmu c v=true then match zq8 g rows c v with
  | some h=>(h,true)
  | none=>([],false)
 else ([],false)
def zty (k:Int) (n:Nat):List Sl:=(List.range n).map fun (i:Nat)=>⟨k+2*(i:Int),k+2*(i:Int)+1⟩
@[simp] theorem yd5 (k:Int) (n:Nat):(zty k n).length=n:=by simp [zty]
structure Fr where
 w:Wd
 d:Int
def frB (f:Fr):Bool:=wok f.w && zbs f.d 1 1000000
def zji:Fr:=⟨zis,0⟩
def zth (w:Wd) (d:Int):Fr×Bool:=if frB ⟨w,d⟩=true then (⟨w,d⟩,true) else (zji,false)
def zge (a b:Fr):Wd×Wd×Bool:=if (frB a && frB b)=true then ((zmf a.w b.d).1,(zmf b.w a.d).1,(zmf a.w b.d).2 && (zmf b.w a.d).2) else (zis,zis,false)
def zjy (a b:Fr):Int×Bool:=if (zge a b).2.2=true then (z1a (zge a b).1 (zge a b).2.1,true) else (0,false)
def zzb (a b:Fr):Fr×Bool:=if (zge a b).2.2=true then (if (zur (zge a b).1 (zge a b).2.1).2=true then zth (zur (zge a b).1 (zge a b).2.1).1 (a.d*b.d) else (zji,false)) else (zji,false)
structure Cnd where
 f:Int
 b:Int
 a:Sl
 z:Sl
deriving DecidableEq
def cnd (c:Cnd):List PV:=[iv c.f,iv c.b,iv c.a.n,iv c.a.g,iv c.z.n,iv c.z.g]
structure Bd where
 lo:Int
 hi:Int
def ztq (b:Bd):Bool:=decide (b.lo≤b.hi) && zm2 b.lo && zm2 b.hi
def zj2 (x lo hi:Int):Int:=if x<lo then lo else if hi<x then hi else x
def zs8 (n l:Int):Bool:=zbs n 0 40 && zbs l 1 100
def zjh (s:Sl) (l:Int) (b:Bd):Int×Bool:=if (zs8 s.n l && ztq b)=true then (zj2 (fdv s.g (s.n+l)).1 b.lo b.hi,true) else (0,false)
def zg3 (s:Sl) (l:Int):Fr×Bool:=if zs8 s.n l=true then zth (zzl s.g s.g) (s.n+l) else (zji,false)
def zep (c:Cnd) (l:Int):Fr×Bool:=if ((zg3 c.a l).2 && (zg3 c.z l).2)=true then zzb (zg3 c.a l).1 (zg3 c.z l).1 else (zji,false)
def zhl (c:Cfg) (b:Bd) (x:Cnd):Int×Int×Bool:=if ((zjh x.a c.la b).2 && (zjh x.z c.la b).2)=true then ((zjh x.a c.la b).1,(zjh x.z c.la b).1,true) else (0,0,false)
def zog (c:Cfg) (f:Int):Int:=(atI c.sg f).getD 0
def zxr (s l r:Int):Bool:=if s=1 then decide (l≤r) else if s = -1 then decide (r≤l) else true
def zz9 (x:Cnd) (l:Int):Bool:=(zep x l).2 && ((zfp x.a x.z).2 && ((zg3 (zfp x.a x.z).1 l).2 && ((zjy (zep x l).1 (zg3 (zfp x.a x.z).1 l).1).2 && decide (0<(zjy (zep x l).1 (zg3 (zfp x.a x.z).1 l).1).1))))
def zyw (a b:Cnd):Bool:=decide (a.f<b.f) || (decide (a.f=b.f) && decide (a.b<b.b))
def zz5 (a b:Cnd) (l:Int):Bool:=(zep a l).2 && ((zep b l).2 && ((zjy (zep a l).1 (zep b l).1).2 && (decide (0<(zjy (zep a l).1 (zep b l).1).1) || (decide ((zjy (zep a l).1 (zep b l).1).1=0) && zyw a b))))
def ztn (c:Cfg) (b:Bd) (x:Cnd):Bool:=zjx c && ((zhl c b x).2.2 && (decide (c.rw≤x.a.n) && (decide (c.rw≤x.z.n) && (zxr (zog c x.f) (zhl c b x).1 (zhl c b x).2.1 && zz9 x c.la))))
def zte (l:List Cnd):List (List PV):=l.map cnd
@[simp] theorem yj1 (l:List Cnd):(zte l).length=l.length:=by simp [zte]
def noB (c:Cfg) (b:Bd) (x y:Cnd):Bool := !ztn c b y || !zz5 y x c.la
def zxn (c:Cfg) (b:Bd) (l:List Cnd) (x:Cnd):Bool:=ztn c b x && l.all (noB c b x)
def zn5:Cnd:=⟨0,0,⟨0,0⟩,⟨0,0⟩⟩
def zyk (c:Cfg) (b:Bd) (l:List Cnd):Cnd×Bool:=match l.find? (zxn c b l) with
 | some x=>(x,true)
 | none=>(zn5,false)
def zon (a b:Sl):Sl×Bool:=if ((sbi a.n b.n).2 && (sbi a.g b.g).2)=true then (⟨(sbi a.n b.n).1,(sbi a.g b.g).1⟩,true) else (⟨0,0⟩,false)
def zrl (s:Sl):List Sl→Option (List Sl)
 | []=>some []
 | x::xs=>if (zfp s x).2=true then (zrl (zfp s x).1 xs).map ((zfp s x).1 :: ·) else none
def zot (h:List Sl):List Sl×Bool:=match zrl ⟨0,0⟩ h with
 | some l=>(l,true)
 | none=>([],false)
def zu3 (f:Int) (all:Sl) (least:Int):Int→List Sl→List Cnd→Option (List Cnd)
 | b,x::y::xs,acc=>if (zon all x).2=true then zu3 f all least (b+1) (y::xs) (if least≤x.n∧least≤(zon all x).1.n then acc++[⟨f,b,x,(zon all x).1⟩] else acc) else none
 | _,_,acc=>some acc
def zyt (l:List Sl):Sl:=l.getLast?.getD ⟨0,0⟩
def zsq (least:Int):Int→List (List Sl)→List Cnd→Option (List Cnd)
 | _,[],acc=>some acc
 | f,h::hs,acc=>if (zot h).2=true then match zu3 f (zyt (zot h).1) least 0 (zot h).1 acc with
  | some a=>zsq least (f+1) hs a
  | none=>none
  else none
def z2l (H:List (List Sl)) (least:Int):List Cnd:=(zsq least 0 H []).getD []
def zmc (a b:Int):Int:=(a+b) / 2
def zsh (s:Int) (b:Bd) (l r:Int):Bd×Bd:=if ztq b=true then (if s=1 then (⟨b.lo,zj2 (zmc l r) b.lo b.hi⟩,⟨zj2 (zmc l r) b.lo b.hi,b.hi⟩) else if s = -1 then (⟨zj2 (zmc l r) b.lo b.hi,b.hi⟩,⟨b.lo,zj2 (zmc l r) b.lo b.hi⟩) else (b,b)) else (b,b)
def zmd (c v:List (List Int)) (g:List Int) (cfg:Cfg) (rows:List Int) (b:Bd):Cnd×Bool:=if zl0 c v g cfg=true then (if (zsk c v g rows).2=true then zyk cfg b (z2l (zsk c v g rows).1 cfg.rw) else (zn5,false)) else (zn5,false)
def zx7 (g:List Int) (rows:List Int):Sl:=⟨rows.length,(rows.map fun r=>(atI g r).getD 0).sum⟩
def z1t (bins:List Int) (b r:Int):Bool:=match atI bins r with
 | some x=>decide (x≤b)
 | none=>false
def z4g (bins:List Int) (b r:Int):Bool:=match atI bins r with
 | some x => !decide (x≤b)
 | none=>false
def zyg (bins rows:List Int) (b:Int):List Int:=rows.filter (z1t bins b)
def zyf (bins rows:List Int) (b:Int):List Int:=rows.filter (z4g bins b)
structure Pnd where
 r:List Int
 b:Bd
 l:Int
def zyn (c v:List (List Int)) (cfg:Cfg) (x:Pnd) (k:Cnd):Pnd:=⟨zyg ((atI v k.f).getD []) x.r k.b,(zsh (zog cfg k.f) x.b (zhl cfg x.b k).1 (zhl cfg x.b k).2.1).1,x.l+1⟩
def z3h (c v:List (List Int)) (cfg:Cfg) (x:Pnd) (k:Cnd):Pnd:=⟨zyf ((atI v k.f).getD []) x.r k.b,(zsh (zog cfg k.f) x.b (zhl cfg x.b k).1 (zhl cfg x.b k).2.1).2,x.l+1⟩
def znf (g:List Int) (cfg:Cfg) (x:Pnd):Nd:=⟨-1,0,0,0,(zjh (zx7 g x.r) cfg.la x.b).1⟩
def zzx (c:List (List Int)) (k:Cnd) (n:Nat):Nd:=⟨k.f,(atI ((atI c k.f).getD []) k.b).getD 0,n,n+1,0⟩
def goes (c v:List (List Int)) (g:List Int) (cfg:Cfg) (x:Pnd):Bool:=decide (x.l<cfg.de) && (zmd c v g cfg x.r x.b).2
def zgw (c v:List (List Int)) (g:List Int) (cfg:Cfg):Nat→List Pnd→Nat→List Nd→List Nd
 | 0,_,_,out=>out
 | n+1,q,i,out=>match q[i]? with
  | none=>out
  | some x=>if goes c v g cfg x=true then zgw c v g cfg n (q++[zyn c v cfg x (zmd c v g cfg x.r x.b).1,z3h c v cfg x (zmd c v g cfg x.r x.b).1]) (i+1) (out++[zzx c (zmd c v g cfg x.r x.b).1 q.length]) else zgw c v g cfg n q (i+1) (out++[znf g cfg x])
def z0l:Bd:=⟨-1099511627776,1099511627776⟩
def z08 (g:List Int):Pnd:=⟨(List.range g.length).map fun (i:Nat)=>(i:Int),z0l,0⟩
def pot (d:Int) (x:Pnd):Nat:=2 ^ (d+1-x.l).toNat-1
def zlx (d:Int) (l:List Pnd):Nat:=(l.map (pot d)).sum
theorem z0q (d:Int) (x:Pnd) (l:List Pnd):zlx d (x::l)=pot d x+zlx d l:=by simp [zlx]
theorem zyv {d:Int} {x:Pnd} (h:x.l≤d):1≤pot d x:=by
 unfold pot
 obtain ⟨k,hk⟩ : ∃ k,(d+1-x.l).toNat=k+1:=⟨(d-x.l).toNat,by omega⟩
 rw [hk,Nat.pow_succ]
 have:=Nat.one_le_two_pow (n:=k)
 omega
def z0y (n:Nat) (d:Int) (x:Pnd):Prop:=(∀ r∈x.r,0≤r∧r<n)∧x.r.length≤n∧0≤x.l∧x.l≤d
theorem z2p {c v:List (List Int)} {g:List Int} {cfg:Cfg} (h:zl0 c v g cfg=true):zmu c v=true∧zjx cfg=true∧g.length=zl6 v∧(∀ x∈g,-2199023255552≤x∧x≤2199023255552):=by
 unfold zl0 at h
 simp only [Bool.and_eq_true,decide_eq_true_eq] at h
 exact ⟨h.1.1.1,h.1.1.2,by omega,fun x hx=>zlw.mp (List.all_eq_true.mp h.2 x hx)⟩
def upl (n:Nat):List Int:=(List.range n).map fun (i:Nat)=>(i:Int)
@[simp] theorem yiv (n:Nat):(upl n).length=n:=by simp [upl]
@[simp] theorem z68:upl 0=[]:=rfl
def pnd (x:Pnd):List PV:=[.own 1 (zag x.r),iv x.b.lo,iv x.b.hi,iv x.l]
def zs5 (l:List Pnd):List (List PV):=l.map pnd
@[simp] theorem ygc (l:List Pnd):(zs5 l).length=l.length:=by simp [zs5]
theorem zup {α:Type} {l:List α} {i:Nat} {x:α} (h:l[i]?=some x):atI l (i:Int)=some x:=by
 unfold atI
 rw [if_pos (by omega)]
 simpa using h
theorem zy2 {c v:List (List Int)} {g:List Int} {cfg:Cfg} {n:Nat} {q:List Pnd} {i:Nat} {out:List Nd} {x:Pnd} (h:q[i]?=some x) (hg:goes c v g cfg x=false):zgw c v g cfg (n+1) q i out=zgw c v g cfg n q (i+1) (out++[znf g cfg x]):=by
 rw [zgw,h]; simp [hg]
structure GI (c v:List (List Int)) (g:List Int) (cfg:Cfg) (n:Nat) (q:List Pnd) (i:Nat) (out:List Nd):Prop where
 n1:i+n=32
 le:i≤q.length
 ql:q.length≤2*i+1
 ol:out.length=i
 po:zlx cfg.de (q.drop i)≤n
 ok : ∀ x∈q,z0y g.length cfg.de x
 go:zgw c v g cfg n q i out=zgw c v g cfg 32 [z08 g] 0 []
theorem GI.leaf {c v:List (List Int)} {g:List Int} {cfg:Cfg} {n:Nat} {q:List Pnd} {i:Nat} {out:List Nd} {x:Pnd} (h:GI c v g cfg n q i out) (hx:q[i]?=some x) (hg:goes c v g cfg x=false):1≤n∧GI c v g cfg (n-1) q (i+1) (out++[znf g cfg x]):=by
 have hp:=h.po
 rw [zjs hx,z0q] at hp
 have:=zyv (h.ok x (List.mem_of_getElem? hx)).2.2.2
 have hlt:=(List.getElem?_eq_some_iff.mp hx).1
 obtain ⟨m,rfl⟩ : ∃ m,n=m+1:=⟨n-1,by omega⟩
 have:=h.n1
 have:=h.ql
 exact ⟨by omega,by simp; omega,by omega,by omega,by simp [h.ol],by simp; omega,h.ok,by rw [← h.go,zy2 hx hg]; rfl⟩
theorem zxu (l:List Int):zb2 (zag l)=true:=by
 induction l with
 | nil=>rfl
 | cons x l ih=>simpa [zag,zb2] using ih
theorem zw9 (l:List Int) (hl:l.length≤1048576):RUN T zh8 [.sl 1 (zag l)]=some ([.own 1 (zag l)],[]) :=
 z33 zp4 (zxu l) (by simp [zbh]; omega)
theorem zl8 (l:List Int):(zcw l).length=l.length:=by
 unfold zcw
 rw [z12]; simp
inductive SN where
 | mk (f c v:Int) (ks:List SN)
def znu (q:Bool) (es:List (List PV)):PV:=if q then .own 4 es else .sl 4 es
mutual
def snC (q:Bool):SN→List PV
 | .mk f c v ks=>[iv f,iv c,iv v,znu q (snL q ks)]
def snL (q:Bool):List SN→List (List PV)
 | []=>[]
 | s::ss=>snC q s::snL q ss
end
theorem zun (q:Bool) : ∀ ks:List SN,snL q ks=ks.map (snC q)
 | []=>by simp [snL]
 | k::ks=>by simp [snL,zun q ks]
@[simp] theorem yj5 (q:Bool) (ks:List SN):(snL q ks).length=ks.length:=by rw [zun]; simp
@[simp] theorem ybq (q:Bool) (es:List (List PV)):fz (znu q es) = .sl 4 es:=by cases q <;> simp [znu]
theorem zzo {c:Cfg} (h:zjx c=true):1≤c.la∧c.la≤100∧0≤c.de∧c.de≤4:=by
 unfold zjx at h
 simp only [Bool.and_eq_true,zlw] at h
 omega
structure GH (c v:List (List Int)) (g:List Int) (cfg:Cfg):Prop where
 tk:zl0 c v g cfg=true
 sg:cfg.sg.length≤1048576
theorem GH.la {c v:List (List Int)} {g:List Int} {cfg:Cfg} (h:GH c v g cfg):1≤cfg.la∧cfg.la≤100∧0≤cfg.de∧cfg.de≤4:=zzo (z2p h.tk).2.1
theorem zuk (x:Int) (l:List Int) : ∀ k:Nat,(∀ j,pos x l k≤j→j<k→x<l.getD j 0)∧(pos x l k=0∨l.getD (pos x l k-1) 0≤x)
 | 0=>by
  refine ⟨fun j _ h=>by omega,.inl ?_⟩
  simp only [pos]
 | k+1=>by
  obtain ⟨h1,h2⟩:=zuk x l k
  rw [zna]
  by_cases hc:x<l.getD k 0
  ·rw [if_pos hc]
   refine ⟨fun j hj hk => ?_,h2⟩
   by_cases hjk:j=k
   ·subst hjk; exact hc
   ·exact h1 j hj (by omega)
  ·rw [if_neg hc]
   refine ⟨fun j hj hk=>by omega,.inr ?_⟩
   simp only [Nat.add_sub_cancel]
   omega
def srt (l:List Int):Prop:=l.Pairwise fun a b=>a≤b
theorem zto {l:List Int} (h:srt l) {i j:Nat} {a b:Int} (hij:i≤j) (ha:l[i]?=some a) (hb:l[j]?=some b):a≤b:=by
 by_cases e:i=j
 ·subst e; rw [ha] at hb; cases hb; exact Int.le_refl _
 ·obtain ⟨hi,rfl⟩:=List.getElem?_eq_some_iff.mp ha
  obtain ⟨hj,rfl⟩:=List.getElem?_eq_some_iff.mp hb
  exact List.pairwise_iff_getElem.mp h i j hi hj (by omega)
theorem zyq {l:List Int} (h:srt l) (x:Int):srt (ins l x):=by
 obtain ⟨P,hP⟩:=zco.ex x l l.length
 rw [zma hP]
 have hp:pos x l l.length=P:=by unfold zco at hP; exact hP
 obtain ⟨h1,h2⟩:=zuk x l l.length
 rw [hp] at h1 h2
 have hle:=zo1 x l l.length
 rw [hp] at hle
 unfold srt
 rw [List.pairwise_append]
 refine ⟨h.sublist (List.take_sublist _ _),?_,?_⟩
 ·rw [List.pairwise_cons]
  refine ⟨fun b hb => ?_,h.sublist (List.drop_sublist _ _)⟩
  obtain ⟨j,hj⟩:=List.getElem?_of_mem hb
  rw [List.getElem?_drop] at hj
  have hlt:=(List.getElem?_eq_some_iff.mp hj).1
  have:=h1 (P+j) (by omega) hlt
  rw [List.getD,hj,Option.getD_some] at this
  omega
 ·intro a ha b hb
  obtain ⟨i,hi⟩:=List.getElem?_of_mem ha
  have hi2:i<P:=by
   have:=(List.getElem?_eq_some_iff.mp hi).1
   simp at this; omega
  rw [List.getElem?_take_of_lt hi2] at hi
  have hax:a≤x:=by
   rcases h2 with h2 | h2
   ·omega
   ·obtain ⟨y,hy⟩ : ∃ y,l[P-1]?=some y:=⟨_,List.getElem?_eq_getElem (by omega)⟩
    rw [List.getD,hy,Option.getD_some] at h2
    have:=zto h (by omega:i≤P-1) hi hy
    omega
  rcases List.mem_cons.mp hb with rfl | hb
  ·exact hax
  ·obtain ⟨j,hj⟩:=List.getElem?_of_mem hb
   rw [List.getElem?_drop] at hj
   exact zto h (by omega:i≤P+j) hi hj
theorem z1e (l:List Int) (x:Int):(ins l x).Perm (x::l):=by
 obtain ⟨P,hP⟩:=zco.ex x l l.length
 rw [zma hP]
 have:=List.perm_middle (a:=x) (l₁:=l.take P) (l₂:=l.drop P)
 rwa [List.take_append_drop] at this
theorem zt4 : ∀ (l a:List Int),srt a→srt (l.foldl ins a)∧(l.foldl ins a).Perm (a++l)
 | [],a,h=>⟨h,by simp⟩
 | x::l,a,h=>by
  obtain ⟨h1,h2⟩:=zt4 l (ins a x) (zyq h x)
  refine ⟨h1,h2.trans ?_⟩
  refine ((z1e a x).append_right l).trans ?_
  exact List.perm_middle.symm
theorem z2f (l:List Int):zev l=zcw l:=by
 obtain ⟨h1,h2⟩:=zt4 l [] List.Pairwise.nil
 have h3:srt (zev l):=by
  have:=List.pairwise_mergeSort (le:=fun x y:Int=>decide (x≤y)) (fun a b c h1 h2=>by simp at *; omega) (fun a b=>by simp; omega) l
  unfold srt zev
  exact this.imp fun h=>by simpa using h
 refine List.Perm.eq_of_pairwise (le:=fun a b=>a≤b) (fun a b _ _ h1 h2=>by omega) h3 h1 ?_
 exact (List.mergeSort_perm _ _).trans (by have h4:=h2.symm; rw [List.nil_append] at h4; exact h4)
theorem zxa (l:List Int) (hl:l.length≤1048576):RUN T zh9 [.own 1 (zag l)]=some ([],[.own 1 (zag (zcw l))]):=by
 rw [← z2f]
 exact z3l zp5 (by omega)
theorem zxb (l:List Int) (hl:l.length≤1048576):RUN T zh6 [.own 1 (zag l)]=some ([.own 1 (zag (Lib.compact l))],[.undef]):=zzn zp2 (by omega)
theorem zxc (l:List Int) (hl:l.length≤1048576):RUN T zh7 [.sl 1 (zag l)]=some ([.own 1 (zag (zcw l))],[]):=by
 have e1:=zw9 l hl
 have e2:=zxa l hl
 have hl2:=zl8 l
 generalize zcw l=a at *
 refine zbz zp3 rfl ?_
 simp [-getElem?_pos,zlg,zlh,e1,e2,hl2]
theorem zxd (l:List Int) (hl:l.length≤1048576):RUN T zh0 [.sl 1 (zag l)]=some ([.own 1 (zag (Lib.compact (zcw l)))],[]):=by
 have e1:=zxc l hl
 have e2:=zxb (zcw l) (by rw [zl8]; exact hl)
 generalize zcw l=a at *
 generalize Lib.compact a=b at *
 refine zbz zpw rfl ?_
 simp [-getElem?_pos,zk3,zk4,e1,e2]
theorem z0r {a:List Int} {i:Nat} {x:Int} (h:a[i]?=some x):Lib.compactUpTo a.toArray (i+1)=if (i=0∨¬ a[i-1]?=some x) then Lib.compactUpTo a.toArray i++[x] else Lib.compactUpTo a.toArray i:=by
 have hx:a.toArray[i]! = x:=by simp [h]
 have hlt:=(List.getElem?_eq_some_iff.mp h).1
 unfold Lib.compactUpTo
 rw [List.range_succ,List.filter_append,List.map_append]
 have hk:Lib.keeps a.toArray i=decide (i=0∨¬ a[i-1]?=some x):=by
  unfold Lib.keeps
  by_cases h0:i=0
  ·simp [h0]
  ·obtain ⟨y,hy⟩ : ∃ y,a[i-1]?=some y:=⟨_,List.getElem?_eq_getElem (by omega)⟩
   have hy':a.toArray[i-1]! = y:=by simp [hy]
   rw [hx,hy',hy]
   simp only [h0,false_or,Option.some.injEq]
   congr 1
   simp only [ne_eq,eq_comm]
 simp only [List.filter_cons,List.filter_nil,hk]
 by_cases hc:i=0∨¬ a[i-1]?=some x
 ·simp only [hc,decide_true,if_true,List.map_cons,List.map_nil,hx]
 ·simp only [hc,decide_false,if_false,Bool.false_eq_true,List.map_nil,List.append_nil]
set_option maxHeartbeats 1000000 in
theorem zxe (l:List Int) (hl:l.length≤1048576):RUN T zhx [.sl 1 (zag l)]=some ([.own 1 (zag (Lib.compact (zcw l)))],[]):=by
 have e1:=zw8 l hl
 have hsl:=zl8 l
 generalize zcw l=a at *
 have hr0:zbh 8 0=true:=by decide
 have hr1:zbh 8 1=true:=by decide
 refine zbz zpt rfl ?_
 simp [-getElem?_pos,zkx,zky,hr0,e1]
 refine zdw (fun n st => ∃ (i o e q e2:Nat) (m:List Int),i+n=l.length∧m=Lib.compactUpTo a.toArray i∧m.length≤i∧st.V 3 = .ref o none e 0 m.length∧st.V 4 = .ref q none e2 0 a.length∧st.V 5=iv i∧¬ o=q∧o<st.nx∧q<st.nx∧st.S o=some (.row 1 (zag m))∧st.S q=some (.row 1 (zag a))) ?_ l.length _ ⟨0,0,0,1,0,[],by omega,rfl,by simp,by simp,by simp,by simp,by omega,by simp,by simp,by simp [zag],by simp⟩
 rintro n st ⟨i,o,e,q,e2,m,hi,hmm,hm,v3,v4,v5,hoq,hox,hqx,hSo,hSq⟩
 obtain ⟨x1,x2,x3,x4⟩:=fr hox
 obtain ⟨z1,z2,z3,z4⟩:=fr hqx
 have hqo : ¬ q=o:=fun e=>hoq e.symm
 by_cases h:i<a.length
 ·obtain ⟨x,hx⟩ : ∃ x,a[i]?=some x:=⟨_,List.getElem?_eq_getElem h⟩
  have hx':=zfu hx
  have hw:=wS h (by omega:a.length≤9223372036854775807)
  have hr8:=zgc (n:=m.length+1) (by omega)
  have hsn:=zgk m x
  have hcs:=z0r hx
  rw [← hmm] at hcs
  by_cases h0:i=0
  ·subst h0
   rw [if_pos (.inl rfl)] at hcs
   simp [-getElem?_pos,zi9,v3,v4,v5,hSo,hSq,h,hx',hw,hr1,hr8,hsn,hoq,hqo,x1,x2,x3,x4,z1,z2,z3,z4]
   exact zc3 (n-1) (by omega) ⟨1,st.nx+1,st.ep,q,e2,m++[x],by omega,hcs.symm,by rw [List.length_append]; simp only [List.length_cons,List.length_nil]; omega,by simp,by simp [v4],by simp,by omega,by simp,by simp; omega,by simp,by simp [hoq,hqo,x1,x2,x3,x4,z1,z2,z3,z4,hSq]⟩
  ·obtain ⟨y,hy⟩ : ∃ x,a[i-1]?=some x:=⟨_,List.getElem?_eq_getElem (by omega)⟩
   have hy':=zfu hy
   have w1:IntKind.i64.wrap ((i:Int)-1)=((i-1:Nat):Int):=by rw [w64 (by omega) (by omega)]; omega
   have hil:i-1<a.length:=by omega
   rw [hy] at hcs
   by_cases hxy:x=y
   ·subst hxy
    rw [if_neg (by simp [h0])] at hcs
    simp [-getElem?_pos,zi9,v3,v4,v5,hSo,hSq,h,h0,hil,hx',hy',hw,w1,hoq,hqo,x1,x2,x3,x4,z1,z2,z3,z4]
    exact zc3 (n-1) (by omega) ⟨i+1,o,e,q,e2,m,by omega,hcs.symm,by omega,by simp [v3],by simp [v4],by simp,hoq,by simp [hox],by simp [hqx],by simp [hSo],by simp [hSq]⟩
   ·rw [if_pos (.inr (fun e=>hxy (by cases e; rfl)))] at hcs
    simp [-getElem?_pos,zi9,v3,v4,v5,hSo,hSq,h,h0,hil,hx',hy',hw,w1,hxy,hr1,hr8,hsn,hoq,hqo,x1,x2,x3,x4,z1,z2,z3,z4]
    exact zc3 (n-1) (by omega) ⟨i+1,st.nx+1,st.ep,q,e2,m++[x],by omega,hcs.symm,by simp; omega,by simp,by simp [v4],by simp,by omega,by simp,by simp; omega,by simp,by simp [hoq,hqo,x1,x2,x3,x4,z1,z2,z3,z4,hSq]⟩
 ·have hia:i=a.length:=by omega
  have hR:Lib.compact a=m:=by rw [hmm,hia]; rfl
  rw [hR]
  simp [-getElem?_pos,zi9,v3,v4,v5,hSo,hSq,h]
def zct (t:List Nd):List Int:=(lvs t 0).map fun k=>(atI t k).elim 0 Nd.v
theorem z2q (l:List Int):(Lib.compact l).length≤l.length:=by
 unfold Lib.compact Lib.compactUpTo
 rw [List.length_map]
 exact Nat.le_trans (List.length_filter_le _ _) (by simp)
def zbf (t:List Nd):List Int:=Lib.compact (zcw (zct t))
theorem zy8 (t:List Nd):(zbf t).length≤t.length:=by
 have h1:=z2q (zcw (zct t))
 rw [zl8] at h1
 have h2:(zct t).length=(lvs t 0).length:=by simp [zct]
 have h3:=zi2 t 0
 unfold zbf
 omega
theorem zqk {t:List Nd} {i:Nat} {k:Int} {x:Nd} (h:(lvs t 0)[i]?=some k) (hx:atI t k=some x):(zct t).take (i+1)=(zct t).take i++[x.v]:=by
 have:(zct t)[i]?=some x.v:=by unfold zct; simp [h,hx]
 rw [List.take_succ,this]; rfl
set_option maxHeartbeats 1000000 in
theorem zxf (t:List Nd) (hl:t.length≤1048576):RUN T zga [.agg [.sl 5 (t.map nd)]]=some ([.own 1 (zag (zbf t))],[]):=by
 have hr0:zbh 8 0=true:=by decide
 have hr1:zbh 8 1=true:=by decide
 have hLl:=zi2 t 0
 have e1:=zw7 t hl
 have hvl:(zct t).length=(lvs t 0).length:=by simp [zct]
 have e2:=zxd (zct t) (by omega)
 have hin : ∀ y∈lvs t 0,∃ (j:Nat) (x:Nd),y=j∧t[j]?=some x:=fun y hy=>by
  obtain ⟨j,x,h1,_,h2⟩:=(zof t 0 y).mp hy
  exact ⟨j,x,by omega,h1⟩
 have hsn:=fun {i:Nat} {k:Int} {x:Nd}=>zqk (t:=t) (i:=i) (k:=k) (x:=x)
 change RUN T zga [.agg [.sl 5 (t.map nd)]]=some ([.own 1 (zag (Lib.compact (zcw (zct t))))],[])
 generalize Lib.compact (zcw (zct t))=R at *
 generalize zct t=W at *
 generalize lvs t 0=L at *
 refine zbz zpl rfl ?_
 simp [-getElem?_pos,zkh,zki,hr0,e1]
 refine zdw (fun n st => ∃ (i o e q e2:Nat) (m:List Int),i+n=L.length∧m=W.take i∧m.length=i∧st.V 1 = .ptr 0 none 0 0 0∧st.V 3 = .ref o none e 0 m.length∧st.V 8 = .ref q none e2 0 L.length∧st.V 9=iv L.length∧st.V 10=iv i∧¬ o=q∧¬ o=0∧¬ q=0∧o<st.nx∧q<st.nx∧st.S 0=some (.box [.sl 5 (t.map nd)])∧st.S o=some (.row 1 (zag m))∧st.S q=some (.row 1 (zag L))) ?_ L.length _ ⟨0,1,0,2,0,[],by omega,by simp,by simp,by simp,by simp,by simp,by simp,by simp,by omega,by omega,by omega,by simp,by simp,by simp,by simp [zag],by simp⟩
 rintro n st ⟨i,o,e,q,ep,m,hi,hm,hml,v1,v3,v8,v9,v10,hoq,ho0,hq0,hox,hqx,S0,So,Sq⟩
 have x0:=fr (by omega:0<st.nx)
 have x1:=fr hox
 have x2:=fr hqx
 have hqo : ¬ q=o:=fun e=>hoq e.symm
 have ho0' : ¬ 0=o:=fun e=>ho0 e.symm
 have hq0' : ¬ 0=q:=fun e=>hq0 e.symm
 have n0 : ¬ st.nx=0:=by omega
 by_cases h:i<L.length
 ·obtain ⟨k,hk⟩ : ∃ k,L[i]?=some k:=⟨_,List.getElem?_eq_getElem h⟩
  have hk':=zfu hk
  obtain ⟨j,x,rfl,hx⟩:=hin k (List.mem_of_getElem? hk)
  have hjl:=(List.getElem?_eq_some_iff.mp hx).1
  have hs:=hsn hk (zup hx)
  rw [← hm] at hs
  have hx':(t.map nd)[j]?=some (nd x):=by simp [hx]
  obtain ⟨xf,xc,xl,xr,xv⟩:=x
  simp only [nd] at hx'
  simp only at hs
  have hw:=wS h (by omega:L.length≤9223372036854775807)
  have hr8:=zgc (n:=m.length+1) (by omega)
  have hsm:=zgk m xv
  simp [-getElem?_pos,zmq,v1,v3,v8,v9,v10,S0,So,Sq,h,hk',hx',hjl,hw,hr1,hr8,hsm,hoq,hqo,ho0,hq0,ho0',hq0',x0,x1,x2]
  exact zc3 (n-1) (by omega) ⟨i+1,st.nx+1,st.ep,q,ep,m++[xv],by omega,hs.symm,by simp [hml],by simp [v1],by simp,by simp [v8],by simp [v9],by simp,by omega,by omega,hq0,by simp,by simp; omega,by simp [S0,x0,n0,ho0'],by simp,by simp [Sq,hqo,x2]⟩
 ·have hie:i=L.length:=by omega
  have hmW:m=W:=by rw [hm,hie,← hvl,List.take_length]
  subst hmW
  simp [-getElem?_pos,zmq,v1,v3,v8,v9,v10,So,Sq,h,e2]
set_option maxHeartbeats 1000000 in
theorem zxg (t:List Nd) (hl:t.length≤1048576):RUN T zgq [.agg [.sl 5 (t.map nd)]]=some ([.own 1 (zag (zbf t))],[]):=by
 have hr0:zbh 8 0=true:=by decide
 have hr1:zbh 8 1=true:=by decide
 have hLl:=zi2 t 0
 have e1:=zw6 t hl
 have hvl:(zct t).length=(lvs t 0).length:=by simp [zct]
 have e2:=zxe (zct t) (by omega)
 have hin : ∀ y∈lvs t 0,∃ (j:Nat) (x:Nd),y=j∧t[j]?=some x:=fun y hy=>by
  obtain ⟨j,x,h1,_,h2⟩:=(zof t 0 y).mp hy
  exact ⟨j,x,by omega,h1⟩
 have hsn:=fun {i:Nat} {k:Int} {x:Nd}=>zqk (t:=t) (i:=i) (k:=k) (x:=x)
 change RUN T zgq [.agg [.sl 5 (t.map nd)]]=some ([.own 1 (zag (Lib.compact (zcw (zct t))))],[])
 generalize Lib.compact (zcw (zct t))=R at *
 generalize zct t=W at *
 generalize lvs t 0=L at *
 refine zbz zpj rfl ?_
 simp [-getElem?_pos,zkd,zke,hr0,e1]
 refine zdw (fun n st => ∃ (i o e q e2:Nat) (m:List Int),i+n=L.length∧m=W.take i∧m.length=i∧st.V 1 = .ptr 0 none 0 0 0∧st.V 3 = .ref o none e 0 m.length∧st.V 4 = .ref q none e2 0 L.length∧st.V 5=iv i∧¬ o=q∧¬ o=0∧¬ q=0∧o<st.nx∧q<st.nx∧st.S 0=some (.box [.sl 5 (t.map nd)])∧st.S o=some (.row 1 (zag m))∧st.S q=some (.row 1 (zag L))) ?_ L.length _ ⟨0,1,0,2,0,[],by omega,by simp,by simp,by simp,by simp,by simp,by simp,by omega,by omega,by omega,by simp,by simp,by simp,by simp [zag],by simp⟩
 rintro n st ⟨i,o,e,q,ep,m,hi,hm,hml,v1,v3,v4,v5,hoq,ho0,hq0,hox,hqx,S0,So,Sq⟩
 have x0:=fr (by omega:0<st.nx)
 have x1:=fr hox
 have x2:=fr hqx
 have hqo : ¬ q=o:=fun e=>hoq e.symm
 have ho0' : ¬ 0=o:=fun e=>ho0 e.symm
 have hq0' : ¬ 0=q:=fun e=>hq0 e.symm
 have n0 : ¬ st.nx=0:=by omega
 by_cases h:i<L.length
 ·obtain ⟨k,hk⟩ : ∃ k,L[i]?=some k:=⟨_,List.getElem?_eq_getElem h⟩
  have hk':=zfu hk
  obtain ⟨j,x,rfl,hx⟩:=hin k (List.mem_of_getElem? hk)
  have hjl:=(List.getElem?_eq_some_iff.mp hx).1
  have hs:=hsn hk (zup hx)
  rw [← hm] at hs
  have hx':(t.map nd)[j]?=some (nd x):=by simp [hx]
  obtain ⟨xf,xc,xl,xr,xv⟩:=x
  simp only [nd] at hx'
  simp only at hs
  have hw:=wS h (by omega:L.length≤9223372036854775807)
  have hr8:=zgc (n:=m.length+1) (by omega)
  have hsm:=zgk m xv
  simp [-getElem?_pos,zmp,v1,v3,v4,v5,S0,So,Sq,h,hk',hx',hjl,hw,hr1,hr8,hsm,hoq,hqo,ho0,hq0,ho0',hq0',x0,x1,x2]
  exact zc3 (n-1) (by omega) ⟨i+1,st.nx+1,st.ep,q,ep,m++[xv],by omega,hs.symm,by simp [hml],by simp [v1],by simp,by simp [v4],by simp,by omega,by omega,hq0,by simp,by simp; omega,by simp [S0,x0,n0,ho0'],by simp,by simp [Sq,hqo,x2]⟩
 ·have hie:i=L.length:=by omega
  have hmW:m=W:=by rw [hm,hie,← hvl,List.take_length]
  subst hmW
  simp [-getElem?_pos,zmp,v1,v3,v4,v5,So,Sq,h,e2]
theorem z07 (t:List Nd) (hl:t.length≤9223372036854775807):RUN T zi4 [.agg [.sl 5 (t.map nd)]]=some ([bv true],[]):=by
 have hs:=zww (t.map nd) 1048576 (by omega) (by omega) (by simpa using hl)
 simp at hs
 by_cases h:(1048576:Int)-t.length<0
 ·rw [if_pos (by omega)] at hs
  refine zbz zli rfl ?_
  simp [zi5,zi6,hs]
 ·rw [if_neg (by omega)] at hs
  have ht:=zwy t (by omega)
  have hn:=zy8 t
  have b1:=zxg t (by omega)
  have b2:=zxf t (by omega)
  generalize zbf t=V at *
  have a1:=zw1 V (by omega)
  have a2:=zw0 t (by omega)
  have m1:(ziq 1 t.length).length=t.length:=by simp [ziq]
  have a3:=zw5 t 1 (by omega) (by omega)
  have a4:=zw2 V 1 (by omega) (by omega)
  have a5:=zw3 1 V.length (by omega) (by omega)
  have c1 : ¬ ((1048576:Int)-t.length<0):=by omega
  have c2 : ¬ ((1:Int)+5*t.length<0):=by omega
  have c3 : ¬ ((1:Int)+V.length<0):=by omega
  refine zbz zli rfl ?_
  simp [zi5,zi6,hs,ht,b1,b2,a1,a2,a3,a4,a5,m1,c1,c2,c3]
end Go.Pe
