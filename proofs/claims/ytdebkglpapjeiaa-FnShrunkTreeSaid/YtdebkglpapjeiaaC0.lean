/- What each function answers by the evaluator,and the law; for each answer its own conditions stand ahead of it. -/
import Derived.Test.YtdebkglpapjeiaaK0
import Derived.Test.YtdebkglpapjeiaaEvB2
import Derived.IntWalk
set_option linter.all false
namespace Go.Pe
open Go
theorem w64 {x:Int} (h1 : -9223372036854775808≤x) (h2:x≤9223372036854775807):IntKind.i64.wrap x=x:=IntWalk.i64_in x ⟨h1,h2⟩
@[simp] theorem ymo {x:Int} (h1 : -9223372036854775808≤x) (h2:x≤9223372036854775807):IntKind.i64.wrap x=x:=w64 h1 h2
structure Nd where
 f:Int
 c:Int
 l:Int
 r:Int
 v:Int
deriving DecidableEq
def nd (n:Nd):List PV:=[iv n.f,iv n.c,iv n.l,iv n.r,iv n.v]
@[simp] theorem yjr (a b c d e:Int):RUN T zgc [.agg [iv a,iv b,iv c,iv d,iv e]]=some ([bv (decide (a = -1))],[]):=by
 refine zav zw0 rfl ?_
 simp [zo5,zo6]
@[simp] theorem zfm (a b c:Int):RUN T zcr [iv a,iv b,iv c]=some ([bv (decide (b≤a) && decide (a≤c))],[]):=by
 refine zav zwy rfl ?_
 simp [zo1,zo2]
 refine zar (fun h => ?_) (fun h => ?_) <;> simp [h]
@[simp] theorem yjs (a b c d e:Int):RUN T ze0 [.agg [iv a,iv b,iv c,iv d,iv e]]=some ([bv (!decide (a = -1))],[]):=by
 refine zav zwn rfl ?_
 simp [zoh,zoi]
@[simp] theorem zdq (a b c:Int):RUN T zdf [iv a,iv b,iv c]=some ([bv (decide (b≤a) && decide (a≤c))],[]):=by
 refine zav zwu rfl ?_
 simp [zot,zou]
 refine zar (fun h => ?_) (fun h => ?_) <;> simp [h]
def zfg {α:Type} (p:α→Bool) (l:List α):Int:=match l.findIdx? p with
 | some i=>(i:Int)
 | none => -1
theorem ztk {α:Type} {p:α→Bool} {l:List α} (h : ∀ (j:Nat) (x:α),j<l.length→l[j]?=some x→p x=false):zfg p l = -1:=by
 unfold zfg
 have:l.findIdx? p=none:=by
  rw [List.findIdx?_eq_none_iff]
  intro x hx
  obtain ⟨j,hj⟩:=List.getElem?_of_mem hx
  exact h j x (List.getElem?_eq_some_iff.mp hj).1 hj
 rw [this]
theorem zr2 {α:Type} {p:α→Bool} {l:List α} {i:Nat} {x:α} (hi:l[i]?=some x) (hp:p x=true) (h : ∀ (j:Nat) (x:α),j<i→l[j]?=some x→p x=false):zfg p l=i:=by
 unfold zfg
 have:l.findIdx? p=some i:=by
  rw [List.findIdx?_eq_some_iff_getElem]
  obtain ⟨h1,h2⟩:=List.getElem?_eq_some_iff.mp hi
  refine ⟨h1,by rw [h2]; exact hp,fun j hj => ?_⟩
  have:=h j l[j] hj (List.getElem?_eq_getElem (by omega))
  simp [this]
 rw [this]
theorem zun {α:Type} {p:α→Bool} {l:List α} {i:Nat} {x:α} (h : ∀ (j:Nat) (x:α),j<i→l[j]?=some x→p x=false) (hi:l[i]?=some x) (hp:p x=false) : ∀ (j:Nat) (x:α),j<i+1→l[j]?=some x→p x=false:=by
 intro j y hj hy
 by_cases e:j=i
 ·subst e; rw [hi] at hy; cases hy; exact hp
 ·exact h j y (by omega) hy
def zc8 (k:Int) (n:Nd):Bool := !decide (n.f = -1) && (decide (n.l=k) || decide (n.r=k))
def par (t:List Nd) (k:Int):Int:=zfg (zc8 k) t
theorem wS {i n:Nat} (h:i<n) (hn:n≤9223372036854775807):IntKind.i64.wrap ((i:Int)+1)=(i:Int)+1:=w64 (by omega) (by omega)
theorem zx3 (t:List Nd) (k:Int) (hl:t.length≤9223372036854775807):RUN T zhp [.agg [.sl 5 (t.map nd)],iv k]=some ([iv (par t k)],[]):=by
 refine zav zxl rfl ?_
 simp [zp2,zp3]
 refine zbl (fun n st => ∃ i:Nat,i+n=t.length∧st.V 1=iv k∧st.V 2 = .ptr 0 none 0 0 0∧st.V 5=iv i∧st.S 0=some (.box [.sl 5 (t.map nd)])∧∀ (j:Nat) (x:Nd),j<i→t[j]?=some x→zc8 k x=false) ?_ t.length _ ⟨0,by simp⟩
 rintro n st ⟨i,hi,h1,h2,h5,hS,hj⟩
 simp [zvw,h1,h2,h5,hS]
 refine zar (fun h => ?_) (fun h => ?_)
 ·simp at h
  obtain ⟨x,hx⟩ : ∃ x,t[i]?=some x:=⟨_,List.getElem?_eq_getElem h⟩
  have hw:=wS h hl
  simp [h1,h2,h5,hS,hx,nd,hw]
  refine zar (fun b0 => ?_) (fun b0 => ?_) <;> (try simp at b0) <;> simp [-getElem?_pos,b0,h1,h2,h5,hS,hx,nd,hw]
  all_goals try (refine zar (fun b1 => ?_) (fun b1 => ?_) <;> (try simp at b1) <;> simp [-getElem?_pos,b0,b1,h1,h2,h5,hS,hx,nd,hw])
  all_goals try (refine zar (fun b2 => ?_) (fun b2 => ?_) <;> (try simp at b2) <;> simp [-getElem?_pos,b0,b1,b2,h1,h2,h5,hS,hx,nd,hw])
  all_goals first
   | exact (zr2 hx (by simp [zc8, *]) hj).symm
   | exact za2 (n-1) (by omega) ⟨i+1,by omega,by simp [h1],by simp [h2],by simp,by simp [hS],zun hj hx (by simp [zc8, *])⟩
 ·simp at h
  simp [h]
  exact (ztk fun j x hl hx=>hj j x (by omega) hx).symm
theorem z8u (a b c d e x:Int):RUN T zih [.agg [iv a,iv b,iv c,iv d,iv e],.fptr [iv x] 0]=some ([bv (zc8 x ⟨a,b,c,d,e⟩)],[]):=by
 refine zav zx0 rfl ?_
 simp [zqs,zqt]
 refine zar (fun b0 => ?_) (fun b0 => ?_) <;> (try simp at b0) <;> simp [-getElem?_pos,b0,]
 all_goals try (refine zar (fun b1 => ?_) (fun b1 => ?_) <;> (try simp at b1) <;> simp [-getElem?_pos,b0,b1,])
 all_goals try (refine zar (fun b2 => ?_) (fun b2 => ?_) <;> (try simp at b2) <;> simp [-getElem?_pos,b0,b1,b2,])
 all_goals simp [zc8, *]
theorem z8v {f:Nat} {c:PV} {p:Nd→Bool} (t:List Nd) (hl:t.length≤9223372036854775807) (hm:zai T f=[]) (hp : ∀ n:Nd,RUN T f [.agg (nd n),.fptr [c] 0]=some ([bv (p n)],[])) :
  RUN T zk0 [.sl 5 (t.map nd),.fn f [.fptr [c] 0]]=some ([iv (zfg p t)],[]):=by
 refine zav zxz rfl ?_
 simp [zqq,zqr]
 refine zbl (fun n st => ∃ i:Nat,i+n=t.length∧st.V 0 = .sl 5 (t.map nd)∧st.V 1 = .fn f [.fptr [c] 0]∧st.V 8=iv i∧st.V 7=iv t.length∧∀ (j:Nat) (x:Nd),j<i→t[j]?=some x→p x=false) ?_ t.length _ ⟨0,by simp⟩
 rintro n st ⟨i,hi,h0,h1,h8,h7,hj⟩
 simp [zvy,h0,h1,h8,h7]
 refine zar (fun h => ?_) (fun h => ?_)
 ·simp at h
  obtain ⟨x,hx⟩ : ∃ x,t[i]?=some x:=⟨_,List.getElem?_eq_getElem h⟩
  have hw:=wS h hl
  have hpx:=hp x
  simp only [nd] at hpx
  simp [h0,h1,h8,h7,hx,nd,hw,hm,hpx]
  refine zar (fun b0 => ?_) (fun b0 => ?_) <;> (try simp at b0) <;> simp [-getElem?_pos,b0,h0,h1,h8,h7,hx,hw]
  all_goals first
   | exact (zr2 hx b0 hj).symm
   | exact za2 (n-1) (by omega) ⟨i+1,by omega,by simp [h0],by simp [h1],by simp,by simp [h7],zun hj hx b0⟩
 ·simp at h
  simp [h]
  exact (ztk fun j x hl hx=>hj j x (by omega) hx).symm
theorem z8w (t:List Nd) (k:Int) (hl:t.length≤9223372036854775807):RUN T zif [.agg [.sl 5 (t.map nd)],iv k]=some ([iv (par t k)],[]):=by
 refine zav zxn rfl ?_
 have h:=z8v (f:=zih) (c:=iv k) (p:=zc8 k) t hl (by simp) (fun n=>z8u n.f n.c n.l n.r n.v k)
 simp [zp6,zp7,h,par]
def lev (t:List Nd):Nat→Int→Int
 | 0,_ => -1
 | n+1,k=>if par t k<0 then 31-n else lev t n (par t k)
theorem z8x (t:List Nd) (k:Int) (hl:t.length≤9223372036854775807):RUN T zie [.agg [.sl 5 (t.map nd)],iv k]=some ([iv (if 0≤k∧k≤t.length-1 then lev t 32 k else -1)],[]):=by
 refine zav zxk rfl ?_
 have hw:IntKind.i64.wrap ((t.length:Int)-1)=(t.length:Int)-1:=w64 (by omega) (by omega)
 simp [zp0,zp1,hw]
 refine zar (fun h => ?_) (fun h => ?_)
 ·simp at h
  simp [h]
  intro h1 h2
  omega
 ·have h':(0≤k∧k≤t.length-1):=by simpa using h
  rw [if_pos h']
  clear h
  obtain ⟨r,hr⟩ : ∃ r,r=lev t 32 k:=⟨_,rfl⟩
  rw [← hr]
  simp
  refine zbl (fun n st => ∃ i:Nat,i+n=32∧∃ k':Int,lev t n k'=r∧st.V 1=iv k'∧st.V 2 = .ptr 0 none 0 0 0∧st.V 5=iv i∧st.S 0=some (.box [.sl 5 (t.map nd)])) ?_ 32 _ ⟨0,by simp [hr]⟩
  rintro n st ⟨i,hi,k',hk,h1,h2,h5,hS⟩
  simp [zvv,h1,h2,h5,hS]
  refine zar (fun h => ?_) (fun h => ?_)
  ·simp at h
   have hw:IntKind.i64.wrap ((i:Int)+1)=(i:Int)+1:=w64 (by omega) (by omega)
   obtain ⟨m,rfl⟩ : ∃ m,n=m+1:=⟨n-1,by omega⟩
   simp only [lev] at hk
   simp [-getElem?_pos,h1,h2,h5,hS,hw,zx3 t k' hl]
   refine zar (fun b0 => ?_) (fun b0 => ?_) <;> (try simp at b0) <;> simp [-getElem?_pos,b0,h1,h2,h5,hS,hw]
   ·rw [if_pos b0] at hk; omega
   ·rw [if_neg (by omega)] at hk
    exact za2 m (by omega) ⟨i+1,by omega,_,hk,by simp,by simp [h2],by simp,by simp [hS]⟩
  ·simp at h
   obtain rfl:n=0:=by omega
   simp only [lev] at hk
   simp [← hk]
def zad (l:List Int):List (List PV):=l.map fun n=>[iv n]
@[simp] theorem yod (l:List Int):(zad l).length=l.length:=by simp [zad]
theorem zcw {l:List Int} {i:Nat} {x:Int} (h:l[i]?=some x):(zad l)[i]?=some [iv x]:=by simp [zad,h]
@[simp] theorem yr3:zad []=[]:=rfl
theorem zmi (x:Int) (l:List Int):zad (x::l)=[iv x]::zad l:=rfl
theorem yhl (l:List Int) (i:Nat) (x:Int):(zad l).set i [iv x]=zad (l.set i x):=by simp [zad,List.map_set]
theorem ybj (l m:List Int):zad l++zad m=zad (l++m):=by simp [zad]
theorem zda (l:List Int) (x:Int):zad l++[[iv x]]=zad (l++[x]):=by simp [zad]
theorem z2g (l:List Int):zbx (zad l)=true:=by simp [zbx,zad]
theorem z8y (l:List Int) (hl:l.length≤9223372036854775807):RUN T zkq [.own 1 (zad l)]=some ([],[.own 1 (zad l.reverse)]):=by
 refine zav zxo rfl ?_
 have hw:IntKind.i64.wrap ((l.length:Int)-1)=(l.length:Int)-1:=w64 (by omega) (by omega)
 simp [zp8,zp9,hw]
 refine zbl (fun n st => ∃ i:Nat,i+n=l.length∧∃ m:List Int,m.length=l.length∧(∀ p,m[p]?=if p<i∨l.length-i≤p then l.reverse[p]? else l[p]?)∧2*i≤l.length+1∧st.V 0 = .ref 0 none 0 0 l.length∧st.V 2=iv i∧st.V 3=iv ((l.length:Int)-1-i)∧st.ep=0∧st.S 0=some (.row 1 (zad m))) ?_ l.length _ ⟨0,by simp,l,rfl,fun p => ?_,by omega,by simp⟩
 ·rintro n st ⟨i,hi,m,hm,hp,hb,h0,h2,h3,hep,hS⟩
  simp [zvx,h0,h2,h3,hS]
  refine zar (fun h => ?_) (fun h => ?_)
  ·simp at h
   obtain ⟨j,hj⟩ : ∃ j:Nat,j=l.length-1-i:=⟨_,rfl⟩
   have e3:(l.length:Int)-1-i=j:=by omega
   rw [e3] at h3
   obtain ⟨x,hx⟩ : ∃ x,m[i]?=some x:=⟨_,List.getElem?_eq_getElem (by omega)⟩
   obtain ⟨y,hy⟩ : ∃ y,m[j]?=some y:=⟨_,List.getElem?_eq_getElem (by omega)⟩
   have hw1:=wS (i:=i) (n:=l.length) (by omega) hl
   have hw2:IntKind.i64.wrap ((j:Int)-1)=(j:Int)-1:=w64 (by omega) (by omega)
   have hij:i<l.length:=by omega
   have hjl:j<l.length:=by omega
   have g1:=zcw hx
   have g2:=zcw hy
   have g3:(zad (m.set i y))[j]?=some [iv y]:=zcw (by rw [List.getElem?_set_ne (by omega)]; exact hy)
   simp [-getElem?_pos,h0,h2,h3,hS,hep,hw1,hw2,hm,g1,g2,g3,hij,hjl,yhl]
   refine za2 (n-1) (by omega) ⟨i+1,by omega,(m.set i y).set j x,by simp [hm],fun p => ?_,by omega,by simp [h0],by simp,by simp; omega,by simp,by simp⟩
   have hxl:l[i]?=some x:=by have:=hp i; rw [if_neg (by omega),hx] at this; exact this.symm
   have hyl:l[j]?=some y:=by have:=hp j; rw [if_neg (by omega),hy] at this; exact this.symm
   rw [List.getElem?_set,List.getElem?_set]
   by_cases e1:j=p
   ·subst e1
    rw [if_pos rfl,if_pos (by simp [hm]; omega),if_pos (by omega),List.getElem?_reverse (by omega),show l.length-1-j=i by omega,hxl]
   ·rw [if_neg e1]
    by_cases e2:i=p
    ·subst e2
     rw [if_pos rfl,if_pos (by omega),if_pos (by omega),List.getElem?_reverse (by omega),← hj,hyl]
    ·rw [if_neg e2,hp p]
     by_cases c:p<i∨l.length-i≤p
     ·rw [if_pos c,if_pos (by omega)]
     ·rw [if_neg c,if_neg (by omega)]
  ·simp at h
   have hmr:m=l.reverse:=by
    apply List.ext_getElem?
    intro p
    rw [hp p]
    split
    ·rfl
    ·rename_i c
     obtain rfl:p=i:=by omega
     rw [List.getElem?_reverse (by omega),show l.length-1-p=p by omega]
   subst hmr
   simp [hS]
 ·simp
  intro h
  rw [List.getElem?_eq_none h,List.getElem?_eq_none (by simpa using h)]
def anc (t:List Nd):Nat→Int→Option (List Int)
 | 0,_=>none
 | n+1,k=>if par t k<0 then some [] else (anc t n (par t k)).map (par t k :: ·)
theorem zgb (t:List Nd) (n:Nat) (k:Int):anc t (n+1) k=if par t k<0 then some [] else (anc t n (par t k)).map (par t k :: ·):=rfl
def way (t:List Nd) (k:Int):List Int:=if 0≤k∧k≤t.length-1 then match anc t 32 k with
  | some l=>(k::l).reverse
  | none=>[]
 else []
theorem zd5 {n:Nat} (h:n≤17592186044416):zaz 8 n=true:=by simp [zaz]; omega
theorem zx4 (t:List Nd) (k:Int) (hl:t.length≤9223372036854775807):RUN T zib [.agg [.sl 5 (t.map nd)],iv k]=some ([.own 1 (zad (way t k))],[]):=by
 refine zav zw2 rfl ?_
 have hw:IntKind.i64.wrap ((t.length:Int)-1)=(t.length:Int)-1:=w64 (by omega) (by omega)
 have hp:=fun k=>z8w t k hl
 simp [zo9,zpa,hw]
 refine zar (fun h => ?_) (fun h => ?_)
 ·simp at h
  simp [h]
  unfold way
  rw [if_neg (by omega)]; simp
 ·have h':(0≤k∧k≤t.length-1):=by simpa using h
  clear h
  unfold way
  rw [if_pos h']
  obtain ⟨r,hr⟩ : ∃ r,r=anc t 32 k:=⟨_,rfl⟩
  rw [← hr]
  simp [hp]
  refine zbl (fun n st => ∃ i:Nat,i+n=32∧1≤n∧∃ (m:List Int) (o e:Nat) (c:Int),m.length=i+1∧(anc t n c).map (m ++ ·)=r.map (k :: ·)∧st.V 2 = .ptr 0 none 0 0 0∧st.V 5 = .ref o none e 0 m.length∧st.V 6=iv (par t c)∧0<o∧o<st.nx∧st.S o=some (.row 1 (zad m))∧st.S 0=some (.box [.sl 5 (t.map nd)])) ?_ 32 _ ⟨0,by simp,by omega,[k],1,0,k,by simp [hr,zad]⟩
  rintro n st ⟨i,hi,h1n,m,o,e,c,hm,hc,h2,h5,h6,ho,hox,hSo,hS⟩
  simp [zvq,h2,h5,h6,hS]
  refine zar (fun h => ?_) (fun h => ?_)
  ·simp at h
   obtain ⟨q,rfl⟩ : ∃ q,n=q+1:=⟨n-1,by omega⟩
   rw [zgb,if_neg (by omega)] at hc
   simp [h2,h5,h6,hS,hSo]
   refine zar (fun h3 => ?_) (fun h3 => ?_)
   ·simp at h3
    obtain rfl:q=0:=by omega
    simp [anc] at hc
    cases r with
    | none=>simp
    | some l=>simp at hc
   ·simp at h3
    have n1 : ¬ o=st.nx:=by omega
    have n2 : ¬ 0=o:=by omega
    have n3 : ¬ 0=st.nx:=by omega
    have hr8:=zd5 (n:=m.length+1) (by omega)
    simp [h2,h5,h6,hS,hSo,n1,n2,n3,hr8,hp,zda]
    refine za2 q (by omega) ⟨i+1,by omega,by omega,m++[par t c],st.nx+1,st.ep,par t c,by simp [hm],?_,by simp [h2],by simp,by simp,by omega,by simp,by simp,?_⟩
    ·rw [← hc]; cases anc t q (par t c) <;> simp
    ·simp [n2,n3,hS]
  ·simp at h
   obtain ⟨q,rfl⟩ : ∃ q,n=q+1:=⟨n-1,by omega⟩
   rw [zgb,if_pos h] at hc
   simp at hc
   obtain ⟨l,rfl,hl2⟩ : ∃ l,r=some l∧m=k::l:=by
    cases r with
    | none=>simp at hc
    | some l=>simp at hc; exact ⟨l,rfl,hc⟩
   subst hl2
   have hR:=z8y (k::l) (by omega)
   simp [h5,hSo,hR]
theorem zsp (t:List Nd) : ∀ (n:Nat) (k:Int),n≤32→(match anc t n k with | some l=>(32-n:Int)+l.length | none => -1)=lev t n k
 | 0,k,_=>by simp [anc,lev]
 | n+1,k,h=>by
  have ih:=zsp t n (par t k) (by omega)
  rw [zgb]
  simp only [lev]
  by_cases c:par t k<0
  ·rw [if_pos c,if_pos c]; simp; omega
  ·rw [if_neg c,if_neg c,← ih]
   cases anc t n (par t k) with
   | none=>simp
   | some l =>
    show (32-((n+1:Nat):Int))+((par t k::l).length:Nat)=(32-(n:Int))+(l.length:Nat)
    simp only [List.length_cons]; omega
theorem ybd (t:List Nd) (k:Int):((way t k).length:Int)-1=if 0≤k∧k≤t.length-1 then lev t 32 k else -1:=by
 unfold way
 split
 ·rw [← zsp t 32 k (Nat.le_refl _)]
  cases anc t 32 k <;> simp
 ·simp
theorem zss (t:List Nd) : ∀ (n:Nat) (k:Int) (l:List Int),anc t n k=some l→l.length<n
 | 0,k,l,h=>by simp [anc] at h
 | n+1,k,l,h=>by
  rw [zgb] at h
  split at h
  ·cases h; simp
  ·simp at h
   obtain ⟨m,hm,rfl⟩:=h
   have:=zss t n _ m hm
   simp; omega
theorem ybq (t:List Nd) (k:Int):(way t k).length≤32:=by
 unfold way
 split
 ·cases h:anc t 32 k with
  | none=>simp
  | some l=>have:=zss t 32 k l h; simp; omega
 ·simp
theorem z8z (t:List Nd) (k:Int) (hl:t.length≤9223372036854775807):RUN T zia [.agg [.sl 5 (t.map nd)],iv k]=some ([iv (if 0≤k∧k≤t.length-1 then lev t 32 k else -1)],[]):=by
 refine zav zw1 rfl ?_
 have hw:IntKind.i64.wrap (((way t k).length:Int)-1)=((way t k).length:Int)-1:=by have:=ybq t k; exact w64 (by omega) (by omega)
 rw [← ybd]
 simp [zo7,zo8,zx4 t k hl,hw]
def upto (k:Int) (n:Nat):List Int:=(List.range n).map fun (i:Nat)=>k+(i:Int)
@[simp] theorem yt8 (k:Int) (n:Nat):(upto k n).length=n:=by simp [upto]
def lvs:List Nd→Int→List Int
 | [],_=>[]
 | x::xs,i=>if x.f = -1 then i::lvs xs (i+1) else lvs xs (i+1)
theorem zhz : ∀ (t:List Nd) (i:Int),(lvs t i).length≤t.length
 | [],_=>by simp [lvs]
 | x::xs,i=>by
  have:=zhz xs (i+1)
  simp only [lvs]
  split <;> simp <;> omega
theorem zhr {α:Type} {l:List α} {i:Nat} {x:α} (h:l[i]?=some x):l.drop i=x::l.drop (i+1):=by
 obtain ⟨h1,h2⟩:=List.getElem?_eq_some_iff.mp h
 rw [List.drop_eq_getElem_cons h1,h2]
theorem zx5 (t:List Nd) (hl:t.length≤1048576):RUN T zh6 [.agg [.sl 5 (t.map nd)]]=some ([.own 1 (zad (lvs t 0))],[]):=by
 refine zav zwd rfl ?_
 simp [zn0,zn1]
 refine zbl (fun n st => ∃ i:Nat,i+n=t.length∧∃ (m:List Int) (o e:Nat),m++lvs (t.drop i) i=lvs t 0∧st.V 1 = .ptr 0 none 0 0 0∧st.V 3 = .ref o none e 0 m.length∧st.V 4=iv i∧0<o∧o<st.nx∧st.S o=some (.row 1 (zad m))∧st.S 0=some (.box [.sl 5 (t.map nd)])) ?_ t.length _ ⟨0,by simp,[],1,0,by simp⟩
 rintro n st ⟨i,hi,m,o,e,hm,h1,h3,h4,ho,hox,hSo,hS⟩
 simp [zvg,h1,h3,h4,hS]
 refine zar (fun h => ?_) (fun h => ?_)
 ·simp at h
  obtain ⟨x,hx⟩ : ∃ x,t[i]?=some x:=⟨_,List.getElem?_eq_getElem h⟩
  have hw:=wS h (by omega:t.length≤9223372036854775807)
  have hr:zaz 8 (m.length+1)=true:=zd5 (by
   have h5:=congrArg List.length hm
   have h6:=zhz t 0
   simp at h5; omega)
  have n1 : ¬ o=st.nx:=by omega
  have n2 : ¬ 0=o:=by omega
  have n3 : ¬ 0=st.nx:=by omega
  simp [-getElem?_pos,h1,h3,h4,hS,hSo,n1,n2,n3,hx,nd,hw,hr,zda]
  refine zar (fun b0 => ?_) (fun b0 => ?_) <;> (try simp at b0) <;> simp [-getElem?_pos,b0,h1,h3,h4,hS,hSo,n1,n2,n3,hx,hw,hr,zda]
  ·refine za2 (n-1) (by omega) ⟨i+1,by omega,m++[(i:Int)],st.nx+1,st.ep,?_,by simp [h1],by simp,by simp,by omega,by simp,by simp,by simp [n2,n3,hS]⟩
   rw [← hm,zhr hx,lvs,if_pos b0]; simp
  ·refine za2 (n-1) (by omega) ⟨i+1,by omega,m,o,e,?_,by simp [h1],by simp [h3],by simp,by omega,by simp [hox],by simp [hSo],by simp [hS]⟩
   rw [← hm,zhr hx,lvs,if_neg b0]; simp
 ·simp at h
  have e:m=lvs t 0:=by rw [← hm,List.drop_eq_nil_of_le h]; simp [lvs]
  simp [h3,hSo,e]
theorem zx6 (t:List Nd) (hl:t.length≤1048576):RUN T zh7 [.agg [.sl 5 (t.map nd)]]=some ([.own 1 (zad (lvs t 0))],[]):=by
 refine zav zwf rfl ?_
 simp [zn4,zn5]
 refine zbl (fun n st => ∃ i:Nat,i+n=t.length∧∃ (m:List Int) (o e:Nat),m++lvs (t.drop i) i=lvs t 0∧st.V 8 = .sl 5 (t.map nd)∧st.V 9=iv t.length∧st.V 3 = .ref o none e 0 m.length∧st.V 10=iv i∧o<st.nx∧st.S o=some (.row 1 (zad m))) ?_ t.length _ ⟨0,by simp,[],1,0,by simp⟩
 rintro n st ⟨i,hi,m,o,e,hm,h8,h9,h3,h10,hox,hSo⟩
 simp [zvh,h8,h9,h10]
 refine zar (fun h => ?_) (fun h => ?_)
 ·simp at h
  obtain ⟨x,hx⟩ : ∃ x,t[i]?=some x:=⟨_,List.getElem?_eq_getElem h⟩
  have hw:=wS h (by omega:t.length≤9223372036854775807)
  have hr:zaz 8 (m.length+1)=true:=zd5 (by
   have h5:=congrArg List.length hm
   have h6:=zhz t 0
   simp at h5; omega)
  have n1 : ¬ o=st.nx:=by omega
  have n2 : ¬ o=st.nx+1:=by omega
  simp [-getElem?_pos,h8,h9,h3,h10,hSo,n1,n2,hx,nd,hw,hr,zda]
  refine zar (fun b0 => ?_) (fun b0 => ?_) <;> (try simp at b0) <;> simp [-getElem?_pos,b0,h8,h9,h3,h10,hSo,n1,n2,hx,hw,hr,zda]
  ·refine za2 (n-1) (by omega) ⟨i+1,by omega,m++[(i:Int)],st.nx+2,st.ep,?_,by simp [h8],by simp [h9],by simp,by simp,by simp,by simp⟩
   rw [← hm,zhr hx,lvs,if_pos b0]; simp
  ·refine za2 (n-1) (by omega) ⟨i+1,by omega,m,o,e,?_,by simp [h8],by simp [h9],by simp [h3],by simp,by simp; omega,by simp [hSo,n1]⟩
   rw [← hm,zhr hx,lvs,if_neg b0]; simp
 ·simp at h
  have e:m=lvs t 0:=by rw [← hm,List.drop_eq_nil_of_le h]; simp [lvs]
  simp [h3,hSo,e]
@[simp] theorem yjt (a b:Int):RUN T zko [iv a,iv b]=some ([iv (max a b)],[]):=by
 refine zav zxj rfl ?_
 simp [zpy,zpz]
 refine zar (fun b0 => ?_) (fun b0 => ?_) <;> (try simp at b0) <;> simp [-getElem?_pos,b0,]
 all_goals omega
def zct (t:List Nd) (k:Int):Int:=if 0≤k∧k≤t.length-1 then lev t 32 k else -1
theorem z80 (t:List Nd) (k:Int) (hl:t.length≤9223372036854775807):RUN T zie [.agg [.sl 5 (t.map nd)],iv k]=some ([iv (zct t k)],[]):=z8x t k hl
theorem z81 (t:List Nd) (k:Int) (hl:t.length≤9223372036854775807):RUN T zia [.agg [.sl 5 (t.map nd)],iv k]=some ([iv (zct t k)],[]):=z8z t k hl
def dpt (t:List Nd):Nat→Int
 | 0 => -1
 | i+1=>max (dpt t i) (zct t i)
theorem z82 (t:List Nd) (hl:t.length≤9223372036854775807):RUN T zj9 [.agg [.sl 5 (t.map nd)]]=some ([iv (dpt t t.length)],[]):=by
 refine zav zww rfl ?_
 simp [zox,zoy]
 refine zbl (fun n st => ∃ i:Nat,i+n=t.length∧st.V 1 = .ptr 0 none 0 0 0∧st.V 3=iv (dpt t i)∧st.V 4=iv i∧st.S 0=some (.box [.sl 5 (t.map nd)])) ?_ t.length _ ⟨0,by simp [dpt]⟩
 rintro n st ⟨i,hi,h1,h3,h4,hS⟩
 simp [zvm,h1,h3,h4,hS]
 refine zar (fun h => ?_) (fun h => ?_)
 ·simp at h
  have hw:=wS h hl
  simp [h1,h3,h4,hS,hw,z80 t i hl]
  exact za2 (n-1) (by omega) ⟨i+1,by omega,by simp [h1],by simp [dpt],by simp,by simp [hS]⟩
 ·simp at h
  obtain rfl:i=t.length:=by omega
  simp [h3]
def rt (t:List Nd) (row:List Int):Nat→Int→Option (List Int)
 | 0,_=>none
 | n+1,a=>match (if 0≤a then t[a.toNat]? else none) with
  | none=>none
  | some x=>if x.f = -1 then some [a] else match (if 0≤x.f then row[x.f.toNat]? else none) with
   | none=>none
   | some y=>(rt t row n (if y≤x.c then x.l else x.r)).map (a :: ·)
theorem z3v {t:List Nd} {row:List Int} {n:Nat} {a:Int} (h:a<0∨(t.length:Int)-1<a):rt t row n a=none:=by
 cases n with
 | zero=>rfl
 | succ n =>
  rw [rt]
  have:(if 0≤a then t[a.toNat]? else none)=none:=by
   split
   ·exact List.getElem?_eq_none (by omega)
   ·rfl
  rw [this]
theorem z1o {t:List Nd} {row:List Int} {n a:Nat} {x:Nd} (hx:t[a]?=some x) (h:x.f = -1):rt t row (n+1) a=some [(a:Int)]:=by
 rw [rt]; simp [hx,h]
theorem z2b {t:List Nd} {row:List Int} {n a:Nat} {x:Nd} (hx:t[a]?=some x) (h:x.f ≠ -1) (h2:x.f<0∨(row.length:Int)-1<x.f):rt t row (n+1) a=none:=by
 rw [rt]
 have:(if 0≤x.f then row[x.f.toNat]? else none)=none:=by
  split
  ·exact List.getElem?_eq_none (by omega)
  ·rfl
 simp [hx,h,this]
theorem zyf {t:List Nd} {row:List Int} {n a f:Nat} {x:Nd} {y:Int} (hx:t[a]?=some x) (h:x.f=f) (hy:row[f]?=some y):rt t row (n+1) a=(rt t row n (if y≤x.c then x.l else x.r)).map ((a:Int) :: ·):=by
 rw [rt]
 have:x.f ≠ -1:=by omega
 simp [hx,this,h,hy]
def zf3 (t:List Nd) (row:List Int):List Int:=(rt t row (t.length+1) 0).getD []
theorem z83 (t:List Nd) (row:List Int) (hl:t.length≤1048576) (hr:row.length≤1048576):RUN T zj7 [.agg [.sl 5 (t.map nd)],.sl 1 (zad row)]=some ([.own 1 (zad (zf3 t row))],[]):=by
 refine zav zwt rfl ?_
 simp [zor,zos]
 obtain ⟨r,hrr⟩ : ∃ r,r=rt t row (t.length+1) 0:=⟨_,rfl⟩
 unfold zf3
 rw [← hrr]
 refine zbl (fun n st => ∃ i:Nat,i+n=t.length+1∧∃ (a:Int) (m:List Int) (o e:Nat),m.length=i∧(rt t row n a).map (m ++ ·)=r∧st.V 1 = .sl 1 (zad row)∧st.V 2 = .ptr 0 none 0 0 0∧st.V 5 = .ref o none e 0 m.length∧st.V 6=iv a∧st.V 7=iv i∧0<o∧o<st.nx∧st.S o=some (.row 1 (zad m))∧st.S 0=some (.box [.sl 5 (t.map nd)])) ?_ (t.length+1) _ ⟨0,by simp,0,[],1,0,by simp [hrr]⟩
 rintro n st ⟨i,hi,a,m,o,e,hmi,hm,h1,h2,h5,h6,h7,ho,hox,hSo,hS⟩
 simp [zvk,h1,h2,h5,h6,h7,hS]
 refine zar (fun h => ?_) (fun h => ?_)
 ·simp at h
  obtain ⟨q,rfl⟩ : ∃ q,n=q+1:=⟨n-1,by omega⟩
  have hw:=w64 (x:=(t.length:Int)-1) (by omega) (by omega)
  have hwi:=w64 (x:=(i:Int)+1) (by omega) (by omega)
  have hwr:=w64 (x:=(row.length:Int)-1) (by omega) (by omega)
  simp [h1,h2,h5,h6,h7,hS,hw]
  refine zar (fun h3 => ?_) (fun h3 => ?_)
  ·simp at h3
   rw [z3v h3] at hm
   simp at hm
   simp [← hm]
  ·have h3':0≤a∧a≤(t.length:Int)-1:=by simpa using h3
   obtain ⟨a,rfl⟩ : ∃ a':Nat,a=a':=⟨a.toNat,by omega⟩
   obtain ⟨x,hx⟩ : ∃ x,t[a]?=some x:=⟨_,List.getElem?_eq_getElem (by omega)⟩
   have z1:=fr hox
   have z2:=fr ho
   have z3:=fr (by omega:0<st.nx)
   have hr8:=zd5 (n:=m.length+1) (by omega)
   simp [-getElem?_pos,h1,h2,h5,h6,h7,hS,hSo,z1,z2,z3,hx,nd,hr8,zda,hwr]
   refine zar (fun h4 => ?_) (fun h4 => ?_)
   ·simp at h4
    rw [z1o hx h4] at hm
    simp at hm
    simp [← hm]
   ·simp at h4
    simp [-getElem?_pos,h1,h2,h5,h6,h7,hS,hSo,z1,z2,z3,hx,hr8,zda,hwr]
    refine zar (fun h8 => ?_) (fun h8 => ?_)
    ·simp at h8
     rw [z2b hx h4 h8] at hm
     simp at hm
     simp [← hm]
    ·have h8':0≤x.f∧x.f≤(row.length:Int)-1:=by simpa using h8
     obtain ⟨f,hf⟩ : ∃ f:Nat,x.f=f:=⟨x.f.toNat,by omega⟩
     obtain ⟨y,hy⟩ : ∃ y,row[f]?=some y:=⟨_,List.getElem?_eq_getElem (by omega)⟩
     have hfl:f<row.length:=by omega
     rw [zyf hx hf hy] at hm
     have hy':=zcw hy
     simp [-getElem?_pos,h1,h2,h5,h6,h7,hS,hSo,z1,z2,z3,hr8,zda,hwr,hf,hy',hfl,hwi]
     refine zar (fun b0 => ?_) (fun b0 => ?_) <;> (try simp at b0) <;> simp [-getElem?_pos,b0,h1,h2,h5,h6,h7,hS,hSo,z1,z2,z3,hf,hwi]
     all_goals
      refine za2 q (by omega) ⟨i+1,by omega,_,m++[(a:Int)],st.nx+2,st.ep,by simp [hmi],?_,by simp [h1],by simp [h2],by simp,by simp; rfl,by simp,by omega,by simp,by simp,by simp [z2,z3,hS]⟩
      rw [← hm]
      first | rw [if_pos b0] | rw [if_neg (by omega)]
      simp [Function.comp_def]
 ·simp at h
  obtain rfl:n=0:=by omega
  simp [rt] at hm
  simp [← hm]
theorem z84 (t:List Nd) (row:List Int) (hl:t.length≤1048576) (hr:row.length≤1048576):RUN T zj6 [.agg [.sl 5 (t.map nd)],.sl 1 (zad row)]=some ([.own 1 (zad (zf3 t row))],[]):=by
 refine zav zws rfl ?_
 have hw1:=w64 (x:=(t.length:Int)+1) (by omega) (by omega)
 simp [zop,zoq,hw1]
 obtain ⟨r,hrr⟩ : ∃ r,r=rt t row (t.length+1) 0:=⟨_,rfl⟩
 unfold zf3
 rw [← hrr]
 refine zbl (fun n st => ∃ i:Nat,i+n=t.length+1∧∃ (a:Int) (m:List Int) (o e:Nat),m.length=i∧(rt t row n a).map (m ++ ·)=r∧st.V 1 = .sl 1 (zad row)∧st.V 2 = .ptr 0 none 0 0 0∧st.V 5 = .ref o none e 0 m.length∧st.V 6=iv a∧st.V 13=iv i∧st.V 12=iv ((t.length:Int)+1)∧0<o∧o<st.nx∧st.S o=some (.row 1 (zad m))∧st.S 0=some (.box [.sl 5 (t.map nd)])) ?_ (t.length+1) _ ⟨0,by simp,0,[],1,0,by simp [hrr]⟩
 rintro n st ⟨i,hi,a,m,o,e,hmi,hm,h1,h2,h5,h6,h13,h12,ho,hox,hSo,hS⟩
 simp [zvj,h13,h12]
 refine zar (fun h => ?_) (fun h => ?_)
 ·simp at h
  obtain ⟨q,rfl⟩ : ∃ q,n=q+1:=⟨n-1,by omega⟩
  have hw:=w64 (x:=(t.length:Int)-1) (by omega) (by omega)
  have hwi:=w64 (x:=(i:Int)+1) (by omega) (by omega)
  have hwr:=w64 (x:=(row.length:Int)-1) (by omega) (by omega)
  simp [h1,h2,h5,h6,hS,hw]
  refine zar (fun h3 => ?_) (fun h3 => ?_)
  ·simp at h3
   rw [z3v h3] at hm
   simp at hm
   simp [← hm]
  ·have h3':0≤a∧a≤(t.length:Int)-1:=by simpa using h3
   obtain ⟨a,rfl⟩ : ∃ a':Nat,a=a':=⟨a.toNat,by omega⟩
   obtain ⟨x,hx⟩ : ∃ x,t[a]?=some x:=⟨_,List.getElem?_eq_getElem (by omega)⟩
   have z1:=fr hox
   have z2:=fr ho
   have z3:=fr (by omega:0<st.nx)
   have hr8:=zd5 (n:=m.length+1) (by omega)
   simp [-getElem?_pos,h1,h2,h5,h6,hS,hSo,z1,z2,z3,hx,nd,hr8,zda,hwr]
   refine zar (fun h4 => ?_) (fun h4 => ?_)
   ·simp at h4
    rw [z1o hx h4] at hm
    simp at hm
    simp [← hm]
   ·simp at h4
    simp [-getElem?_pos,h1,h2,h5,h6,hS,hSo,z1,z2,z3,hx,hr8,zda,hwr]
    refine zar (fun h8 => ?_) (fun h8 => ?_)
    ·simp at h8
     rw [z2b hx h4 h8] at hm
     simp at hm
     simp [← hm]
    ·have h8':0≤x.f∧x.f≤(row.length:Int)-1:=by simpa using h8
     obtain ⟨f,hf⟩ : ∃ f:Nat,x.f=f:=⟨x.f.toNat,by omega⟩
     obtain ⟨y,hy⟩ : ∃ y,row[f]?=some y:=⟨_,List.getElem?_eq_getElem (by omega)⟩
     have hfl:f<row.length:=by omega
     rw [zyf hx hf hy] at hm
     have hy':=zcw hy
     simp [-getElem?_pos,h1,h2,h5,h6,h13,h12,hS,hSo,z1,z2,z3,hr8,zda,hwr,hf,hy',hfl,hwi]
     refine zar (fun b0 => ?_) (fun b0 => ?_) <;> (try simp at b0) <;> simp [-getElem?_pos,b0,h1,h2,h5,h6,h13,h12,hS,hSo,z1,z2,z3,hf,hwi]
     all_goals
      refine za2 q (by omega) ⟨i+1,by omega,_,m++[(a:Int)],st.nx+2,st.ep,by simp [hmi],?_,by simp [h1],by simp [h2],by simp,by simp; rfl,by simp,by simp [h12],by omega,by simp,by simp,by simp [z2,z3,hS]⟩
      rw [← hm]
      first | rw [if_pos b0] | rw [if_neg (by omega)]
      simp [Function.comp_def]
 ·simp at h
  obtain rfl:n=0:=by omega
  simp [rt] at hm
  simp [← hm]
theorem z36 (t:List Nd) (row:List Int) : ∀ (n:Nat) (a:Int) (l:List Int),rt t row n a=some l→l.length≤n∧l≠[]∧∀ k∈l,0≤k∧k<t.length
 | 0,_,_,h=>by cases h
 | n+1,a,l,h=>by
  rw [rt] at h
  have ha : ∀ x,(if 0≤a then t[a.toNat]? else none)=some x→0≤a∧a<t.length:=by
   intro x hx
   split at hx
   ·have:=(List.getElem?_eq_some_iff.mp hx).1; omega
   ·cases hx
  split at h
  ·cases h
  ·rename_i x hx
   have hax:=ha x hx
   split at h
   ·cases h; simpa using hax
   ·split at h
    ·cases h
    ·simp only [Option.map_eq_some_iff] at h
     obtain ⟨m,hm,rfl⟩:=h
     have:=z36 t row n _ m hm
     refine ⟨by simp; omega,by simp,fun k hk => ?_⟩
     rcases List.mem_cons.mp hk with e | e
     ·subst e; exact hax
     ·exact this.2.2 k e
theorem z1p (t:List Nd) (row:List Int):(zf3 t row).length≤t.length+1∧∀ k∈zf3 t row,0≤k∧k<t.length:=by
 unfold zf3
 cases h:rt t row (t.length+1) 0 with
 | none=>simp
 | some l=>have:=z36 t row _ _ l h; exact ⟨this.1,this.2.2⟩
def rto (t:List Nd) (row:List Int):Int:=((zf3 t row).getLast?).getD (-1)
theorem z85 (t:List Nd) (row:List Int) (hl:t.length≤1048576) (hr:row.length≤1048576):RUN T zjw [.agg [.sl 5 (t.map nd)],.sl 1 (zad row)]=some ([iv (rto t row)],[]):=by
 refine zav zwa rfl ?_
 have hw:=(z1p t row).1
 simp [zny,znz,z83 t row hl hr]
 refine zar (fun h => ?_) (fun h => ?_)
 ·simp at h
  simp [rto,h]
 ·simp at h
  obtain ⟨l,x,hlx⟩ : ∃ l x,zf3 t row=l++[x]:=⟨_,_,(List.dropLast_concat_getLast h).symm⟩
  have e1:rto t row=x:=by simp [rto,hlx]
  rw [e1]
  rw [hlx] at hw ⊢
  simp at hw
  have hwr:IntKind.i64.wrap (l.length:Int)=(l.length:Int):=w64 (by omega) (by omega)
  have hg:=zcw (l:=l++[x]) (i:=l.length) (x:=x) (by simp)
  simp [-getElem?_pos,hwr,hg]
theorem z86 (t:List Nd) (row:List Int) (hl:t.length≤1048576) (hr:row.length≤1048576):RUN T zjv [.agg [.sl 5 (t.map nd)],.sl 1 (zad row)]=some ([iv (rto t row)],[]):=by
 refine zav zv9 rfl ?_
 have hw:=(z1p t row).1
 simp [znw,znx,z84 t row hl hr]
 refine zar (fun h => ?_) (fun h => ?_)
 ·simp at h
  simp [rto,h]
 ·simp at h
  obtain ⟨l,x,hlx⟩ : ∃ l x,zf3 t row=l++[x]:=⟨_,_,(List.dropLast_concat_getLast h).symm⟩
  have e1:rto t row=x:=by simp [rto,hlx]
  rw [e1]
  rw [hlx] at hw ⊢
  simp at hw
  have hwr:IntKind.i64.wrap (l.length:Int)=(l.length:Int):=w64 (by omega) (by omega)
  have hg:=zcw (l:=l++[x]) (i:=l.length) (x:=x) (by simp)
  simp [-getElem?_pos,hwr,hg]
def inI (n:Int):Prop := -9223372036854775808≤n∧n≤9223372036854775807
def Chn (t:List Nd):List Int→Int→Prop
 | [],c=>c<0
 | x::xs,c=>x=c∧0≤c∧Chn t xs (par t c)
theorem zup (t:List Nd) : ∀ (n:Nat) (k:Int) (l:List Int),0≤k→anc t n k=some l→Chn t (k::l) k
 | 0,k,l,_,h=>by cases h
 | n+1,k,l,h0,h=>by
  rw [zgb] at h
  split at h
  ·rename_i hc
   cases h
   exact ⟨rfl,h0,hc⟩
  ·simp at h
   obtain ⟨m,hm,rfl⟩:=h
   exact ⟨rfl,h0,zup t n _ m (by omega) hm⟩
theorem ztf (t:List Nd) (k:Int):par t k = -1∨0≤par t k∧par t k<t.length:=by
 unfold par zfg
 split
 ·rename_i i hi
  have:=(List.findIdx?_eq_some_iff_getElem.mp hi).1
  right; omega
 ·exact .inl rfl
theorem zyw (t:List Nd) : ∀ (l:List Int) (c:Int),Chn t l c→(0≤c→c<t.length)→∀ x∈l,0≤x∧x<t.length
 | [],_,_,_=>by simp
 | y::ys,c,h,hc=>by
  obtain ⟨rfl,h0,h2⟩:=h
  intro x hx
  rcases List.mem_cons.mp hx with e | e
  ·subst e; exact ⟨h0,hc h0⟩
  ·exact zyw t ys _ h2 (fun h=>by rcases ztf t y with h3 | h3 <;> omega) x e
theorem ydf (t:List Nd) (k:Int) : ∀ x∈way t k,0≤x∧x<t.length:=by
 unfold way
 split
 ·rename_i hk
  cases h:anc t 32 k with
  | none=>simp
  | some l =>
   intro x hx
   exact zyw t _ _ (zup t 32 k l hk.1 h) (by omega) x (by simpa using List.mem_reverse.mp hx)
 ·simp
theorem z30 (t:List Nd) (k:Int):lev t 32 k=match anc t 32 k with | some l=>(l.length:Int) | none => -1:=by
 have:=zsp t 32 k (Nat.le_refl _)
 rw [← this]
 cases anc t 32 k <;> simp
def box (t:List Nd) (f:Int):List Int→Int→Int→Int×Int
 | a::b::r,lo,hi=>match t[a.toNat]? with
  | none=>(lo,hi)
  | some x=>if x.f=f then (if x.l=b then box t f (b::r) lo (min hi x.c) else if x.c=9223372036854775807 then box t f (b::r) lo hi else box t f (b::r) (max lo (x.c+1)) hi) else box t f (b::r) lo hi
 | _,lo,hi=>(lo,hi)
theorem z87 {f:Nat} {p:Int→Bool} (l:List Int) (hl:l.length≤9223372036854775807) (hm:zai T f=[]) (hp : ∀ n∈l,RUN T f [iv n]=some ([bv (p n)],[])) :
  RUN T zk2 [.sl 1 (zad l),.fn f []]=some ([iv (zfg p l)],[]):=by
 refine zav zx2 rfl ?_
 simp [zqw,zqx]
 refine zbl (fun n st => ∃ i:Nat,i+n=l.length∧st.V 0 = .sl 1 (zad l)∧st.V 1 = .fn f []∧st.V 8=iv i∧st.V 7=iv l.length∧∀ (j:Nat) (x:Int),j<i→l[j]?=some x→p x=false) ?_ l.length _ ⟨0,by simp⟩
 rintro n st ⟨i,hi,h0,h1,h8,h7,hj⟩
 simp [zv0,h0,h1,h8,h7]
 refine zar (fun h => ?_) (fun h => ?_)
 ·simp at h
  obtain ⟨x,hx⟩ : ∃ x,l[i]?=some x:=⟨_,List.getElem?_eq_getElem h⟩
  have hw:=wS h hl
  have hx':=zcw hx
  have hpx:=hp x (List.mem_of_getElem? hx)
  simp [-getElem?_pos,h0,h1,h8,h7,hx',hw,hm,hpx,h]
  refine zar (fun b0 => ?_) (fun b0 => ?_) <;> (try simp at b0) <;> simp [-getElem?_pos,b0,h0,h1,h8,h7,hx',hw]
  all_goals first
   | exact (zr2 hx b0 hj).symm
   | exact za2 (n-1) (by omega) ⟨i+1,by omega,by simp [h0],by simp [h1],by simp,by simp [h7],zun hj hx b0⟩
 ·simp at h
  simp [h]
  exact (ztk fun j x hl hx=>hj j x (by omega) hx).symm
theorem ydx {α:Type} {p:α→Bool} {l:List α}:decide (0≤zfg p l)=l.any p:=by
 unfold zfg
 cases h:l.findIdx? p with
 | none =>
  rw [List.findIdx?_eq_none_iff] at h
  simp
  exact fun x hx=>h x hx
 | some i =>
  obtain ⟨h1,h2,_⟩:=List.findIdx?_eq_some_iff_getElem.mp h
  simp
  exact ⟨_,List.getElem_mem h1,h2⟩
theorem z88 {f:Nat} {p:Int→Bool} (l:List Int) (hl:l.length≤9223372036854775807) (hm:zai T f=[]) (hp : ∀ n∈l,RUN T f [iv n]=some ([bv (p n)],[])) :
  RUN T zkv [.sl 1 (zad l),.fn f []]=some ([bv (l.any p)],[]):=by
 refine zav zxt rfl ?_
 have e:=z87 l hl hm hp
 simp [zqe,zqf,e,ydx]
structure Cfg where
 ro:Int
 de:Int
 bi:Int
 la:Int
 rw:Int
 nu:Int
 dn:Int
 sg:List Int
def zas (n a b:Int):Bool:=decide (a≤n) && decide (n≤b)
def zb2 (c:Cfg):Bool:=zas c.ro 1 8 && zas c.de 0 4 && zas c.bi 2 8 && zas c.la 1 100 && zas c.rw 1 20 && zas c.dn 1 1000 && zas c.nu 1 c.dn && decide ((c.sg.length:Int)≤4) && c.sg.all fun n=>zas n (-1) 1
@[simp] theorem yju (n:Int):RUN T zkw [iv n]=some ([bv (zas n (-1) 1)],[]):=by
 refine zav zxv rfl ?_
 simp [zqi,zqj,zas]
@[simp] theorem z89 (n:Int):RUN T zig [iv n]=some ([bv (!zas n (-1) 1)],[]):=by
 refine zav zxu rfl ?_
 simp [zqg,zqh]
theorem zgd (a b c:Int):RUN T zcr [iv a,iv b,iv c]=some ([bv (zas a b c)],[]):=zfm a b c
theorem zdz (a b c:Int):RUN T zdf [iv a,iv b,iv c]=some ([bv (zas a b c)],[]):=zdq a b c
theorem z9a (c:Cfg) (hl:c.sg.length≤9223372036854775807):RUN T zki [.agg [iv c.ro,iv c.de,iv c.bi,iv c.la,iv c.rw,iv c.nu,iv c.dn,.sl 1 (zad c.sg)]]=some ([bv (zb2 c)],[]):=by
 refine zav zxa rfl ?_
 have e:=z88 (f:=zig) (p:=fun n => !zas n (-1) 1) c.sg hl (by simp) (fun n _=>z89 n)
 have e2 : ∀ l:List Int,(l.any fun n => !zas n (-1) 1) = !(l.all fun n=>zas n (-1) 1):=by intro l; induction l <;> simp_all
 rw [e2] at e
 simp [zpk,zpl,zgd,-zfm]
 cases h0:zas c.ro 1 8 <;> cases h1:zas c.de 0 4 <;> simp [h0,h1,zgd,-zfm]
 all_goals try (simp [zb2,h0,h1]; done)
 cases h2:zas c.bi 2 8 <;> cases h3:zas c.la 1 100 <;> simp [h2,h3,zgd,-zfm]
 all_goals try (simp [zb2,h2,h3]; done)
 cases h4:zas c.rw 1 20 <;> cases h5:zas c.dn 1 1000 <;> simp [h4,h5,zgd,-zfm]
 all_goals try (simp [zb2,h4,h5]; done)
 cases h6:zas c.nu 1 c.dn <;> simp [h6,zgd,-zfm]
 all_goals try (simp [zb2,h6]; done)
 by_cases h7:(c.sg.length:Int)≤4
 ·simp [h7,e,zb2,h0,h1,h2,h3,h4,h5,h6]
 ·simp [h7,zb2]
theorem zlw {m:Nat→List Bool} {R:zae} {c:IC} {st:St} {Q:Ex→St→Prop} (h:W m R c st (Nx (fun s=>W m R (.loop c) s Q) Q ⟨⟩ ⟨⟩)):W m R (.loop c) st Q:=ya2 ▸ h
theorem z9b (a b c d e f g:Int) (x:PV) (sg:List (List PV)):RUN T zkx [.agg [iv a,iv b,iv c,iv d,iv e,iv f,iv g,.sl 1 sg]]=some ([.own 1 (zad [a,b,c,d,e])],[]):=by
 refine zav zxw rfl ?_
 simp [zqk,zql,zad]
theorem zl9:RUN T zky []=some ([.own 1 (zad [1,0,2,1,1])],[]):=by
 refine zav zxx rfl ?_
 simp [zqm,zqn,zad]
theorem zma:RUN T zkz []=some ([.own 1 (zad [8,4,8,100,20])],[]):=by
 refine zav zxy rfl ?_
 simp [zqo,zqp,zad]
theorem z9c (c:Cfg) (hl:c.sg.length≤9223372036854775807):RUN T zkk [.agg [iv c.ro,iv c.de,iv c.bi,iv c.la,iv c.rw,iv c.nu,iv c.dn,.sl 1 (zad c.sg)]]=some ([bv (zb2 c)],[]):=by
 refine zav zxd rfl ?_
 have e1:=z9b c.ro c.de c.bi c.la c.rw c.nu c.dn .undef (zad c.sg)
 simp [zpq,zpr,e1]
 refine zlw ?_
 simp [zip,zl9,zma,zdz,-zdq,zmi]
 cases h0:zas c.ro 1 8 <;> simp [h0]
 ·simp [zb2,h0]
 refine zlw ?_
 simp [zip,zl9,zma,zdz,-zdq,zmi]
 cases h1:zas c.de 0 4 <;> simp [h1]
 ·simp [zb2,h1]
 refine zlw ?_
 simp [zip,zl9,zma,zdz,-zdq,zmi]
 cases h2:zas c.bi 2 8 <;> simp [h2]
 ·simp [zb2,h2]
 refine zlw ?_
 simp [zip,zl9,zma,zdz,-zdq,zmi]
 cases h3:zas c.la 1 100 <;> simp [h3]
 ·simp [zb2,h3]
 refine zlw ?_
 simp [zip,zl9,zma,zdz,-zdq,zmi]
 cases h4:zas c.rw 1 20 <;> simp [h4]
 ·simp [zb2,h4]
 refine zlw ?_
 simp [zip]
 refine zbl (fun n st => ∃ i:Nat,i+n=c.sg.length∧st.V 1 = .ptr 0 none 0 0 0∧st.V 5=iv i∧st.S 0=some (.box [iv c.ro,iv c.de,iv c.bi,iv c.la,iv c.rw,iv c.nu,iv c.dn,.sl 1 (zad c.sg)])∧∀ (j:Nat) (x:Int),j<i→c.sg[j]?=some x→zas x (-1) 1=true) ?_ c.sg.length _ ⟨0,by simp⟩
 rintro n st ⟨i,hi,h1',h5,hS,hj⟩
 simp [zvt,h1',h5,hS]
 refine zar (fun h => ?_) (fun h => ?_)
 ·simp at h
  obtain ⟨x,hx⟩ : ∃ x,c.sg[i]?=some x:=⟨_,List.getElem?_eq_getElem h⟩
  have hw:=wS h hl
  have hx':=zcw hx
  simp [-getElem?_pos,h1',h5,hS,hx',hw,h,zdz,-zdq]
  cases hb:zas x (-1) 1 with
  | true =>
   simp [-getElem?_pos,h1',h5,hS,hw]
   refine za2 (n-1) (by omega) ⟨i+1,by omega,by simp [h1'],by simp,by simp [hS],fun j y hj' hy => ?_⟩
   by_cases e:j=i
   ·subst e; rw [hx] at hy; cases hy; exact hb
   ·exact hj j y (by omega) hy
  | false =>
   simp [zb2]
   intros
   exact ⟨x,List.mem_of_getElem? hx,hb⟩
 ·simp at h
  have hall:(c.sg.all fun n=>zas n (-1) 1)=true:=by
   rw [List.all_eq_true]
   intro x hx
   obtain ⟨j,hj'⟩:=List.getElem?_of_mem hx
   exact hj j x (by have:=(List.getElem?_eq_some_iff.mp hj').1; omega) hj'
  simp [h1',hS,zdz,-zdq]
  cases h5:zas c.dn 1 1000 <;> simp [h1',hS,h5,zdz,-zdq]
  ·simp [zb2,h5]
  cases h6:zas c.nu 1 c.dn <;> simp [h1',hS,h6,zdz,-zdq]
  ·simp [zb2,h6]
  simp [zb2,h0,h1,h2,h3,h4,h5,h6,hall]
def fdv (a b:Int):Int×Bool:=if b=0∨(b = -1∧a = -9223372036854775808) then (0,false) else (a.fdiv b,true)
theorem zzk {a b:Int} (ha:inI a) (hb:b≠0) (h : ¬ (b = -1∧a = -9223372036854775808)) : -9223372036854775808≤a.tdiv b∧a.tdiv b≤9223372036854775807∧(b≠1 → -9223372036854775808≤a.tdiv b-1):=by
 obtain ⟨h1,h2⟩:=ha
 have h3:(a.tdiv b).natAbs=a.natAbs / b.natAbs:=Int.natAbs_tdiv a b
 have h4:a.natAbs / b.natAbs≤a.natAbs:=Nat.div_le_self _ _
 by_cases c:b=1
 ·subst c; simp; omega
 by_cases c2:b = -1
 ·subst c2; simp; omega
 have h5:a.natAbs / b.natAbs≤a.natAbs / 2:=Nat.div_le_div_left (by omega) (by omega)
 omega
theorem z3a (a b:Int) (hb:b≠0):a.fdiv b=if a.tmod b≠0∧¬ (a<0↔b<0) then a.tdiv b-1 else a.tdiv b:=by
 rw [Int.fdiv_eq_tdiv]
 have hd:b ∣ a↔a.tmod b=0:=Int.dvd_iff_tmod_eq_zero
 by_cases c:b ∣ a
 ·rw [if_pos c,if_neg (by rw [hd.mp c]; simp)]; simp
 ·have hc:a.tmod b≠0:=fun e=>c (hd.mpr e)
  have ha:a≠0:=fun e=>c (by subst e; exact ⟨0,by simp⟩)
  rw [if_neg c]
  rcases Int.lt_or_gt_of_ne hb with s2 | s2
  ·rw [if_neg (by omega : ¬ 0≤b),if_neg (by omega : ¬ 0≤b),Int.sign_eq_neg_one_of_neg s2]
   by_cases s1:0≤a
   ·rw [if_pos s1,if_pos ⟨hc,by omega⟩]
   ·rw [if_neg s1,if_neg (fun h=>h.2 (by omega))]; omega
  ·rw [if_pos (by omega:0≤b),if_pos (by omega:0≤b),Int.sign_eq_one_of_pos s2]
   by_cases s1:0≤a
   ·rw [if_pos s1,if_neg (fun h=>h.2 (by omega))]; omega
   ·rw [if_neg s1,if_pos ⟨hc,by omega⟩]
theorem z9d (a b:Int) (ha:inI a):RUN T zkl [iv a,iv b]=some ([iv (fdv a b).1,bv (fdv a b).2],[]):=by
 refine zav zxf rfl ?_
 simp [zpu,zpv]
 by_cases h0:b=0
 ·subst h0; simp [fdv]
 by_cases hbad:b = -1∧a = -9223372036854775808
 ·obtain ⟨rfl,rfl⟩:=hbad; simp [fdv]
 have hr:=zzk ha h0 hbad
 have hq:=w64 hr.1 hr.2.1
 have hf:=z3a a b h0
 have e1:fdv a b=(a.fdiv b,true):=by unfold fdv; rw [if_neg (by simp [h0]; intro h; exact fun h2=>hbad ⟨h,h2⟩)]
 rw [e1]
 have hq2:a.tmod b≠0→IntKind.i64.wrap (a.tdiv b-1)=a.tdiv b-1:=fun h=>w64 (hr.2.2 (by rintro rfl; simp at h)) (by omega)
 have f0:=eq_false h0
 obtain ⟨p1,hp1⟩ : ∃ p,(b = -1)=p:=⟨_,rfl⟩
 obtain ⟨p2,hp2⟩ : ∃ p,(a = -9223372036854775808)=p:=⟨_,rfl⟩
 rw [hp1,hp2] at hbad
 by_cases c1:p1 <;> by_cases c2:p2
 ·exact (hbad ⟨c1,c2⟩).elim
 all_goals
  simp only [c1,c2] at hp1 hp2
  simp [f0,hp1,hp2,hq]
  by_cases d0:a.tmod b=0
  ·rw [if_neg (by simp [d0])] at hf
   simp [d0,hf]
  ·have hq3:=hq2 d0
   have d1:=eq_false d0
   by_cases d2:a<0 <;> by_cases d3:b<0
   all_goals
    simp only [d2,d3,ne_eq,d1,not_false_eq_true,iff_self,not_true_eq_false,and_false,if_false,iff_true,iff_false,and_true,if_true,true_iff,false_iff] at hf
    simp [d1,d2,d3,hq3,hf]
theorem z9e (a b:Int) (ha:inI a):RUN T zkj [iv a,iv b]=some ([iv (fdv a b).1,bv (fdv a b).2],[]):=by
 refine zav zxc rfl ?_
 simp [zpo,zpp]
 by_cases h0:b=0
 ·subst h0; simp [fdv]
 by_cases hbad:b = -1∧a = -9223372036854775808
 ·obtain ⟨rfl,rfl⟩:=hbad; simp [fdv]
 have hr:=zzk ha h0 hbad
 have hq:=w64 hr.1 hr.2.1
 have hf:=z3a a b h0
 have e1:fdv a b=(a.fdiv b,true):=by unfold fdv; rw [if_neg (by simp [h0]; intro h; exact fun h2=>hbad ⟨h,h2⟩)]
 rw [e1]
 have hq2:a.tmod b≠0→IntKind.i64.wrap (a.tdiv b-1)=a.tdiv b-1:=fun h=>w64 (hr.2.2 (by rintro rfl; simp at h)) (by omega)
 have f0:=eq_false h0
 obtain ⟨p1,hp1⟩ : ∃ p,(b = -1)=p:=⟨_,rfl⟩
 obtain ⟨p2,hp2⟩ : ∃ p,(a = -9223372036854775808)=p:=⟨_,rfl⟩
 rw [hp1,hp2] at hbad
 by_cases c1:p1 <;> by_cases c2:p2
 ·exact (hbad ⟨c1,c2⟩).elim
 all_goals
  simp only [c1,c2] at hp1 hp2
  simp [f0,hp1,hp2,hq]
  by_cases d0:a.tmod b=0
  ·rw [if_neg (by simp [d0])] at hf
   simp [d0,hf]
  ·have hq3:=hq2 d0
   have d1:=eq_false d0
   by_cases d2:a<0 <;> by_cases d3:b<0
   all_goals
    simp only [d2,d3,ne_eq,d1,not_false_eq_true,iff_self,not_true_eq_false,and_false,if_false,iff_true,iff_false,and_true,if_true,true_iff,false_iff] at hf
    simp [d1,d2,d3,hq3,hf]
abbrev zgn (c:Cfg):PV := .agg [iv c.ro,iv c.de,iv c.bi,iv c.la,iv c.rw,iv c.nu,iv c.dn,.sl 1 (zad c.sg)]
abbrev zmh (c:Cfg):PV := .agg [iv c.ro,iv c.de,iv c.bi,iv c.la,iv c.rw,iv c.nu,iv c.dn,.own 1 (zad c.sg)]
theorem zei {n a b:Int}:zas n a b=true↔a≤n∧n≤b:=by simp [zas]
theorem z1y {c:Cfg} (h:zb2 c=true):(1≤c.ro∧c.ro≤8)∧(0≤c.de∧c.de≤4)∧(2≤c.bi∧c.bi≤8)∧(1≤c.la∧c.la≤100)∧(1≤c.rw∧c.rw≤20)∧(1≤c.dn∧c.dn≤1000)∧(1≤c.nu∧c.nu≤c.dn)∧c.sg.length≤4∧∀ n∈c.sg,-1≤n∧n≤1:=by
 simp only [zb2,Bool.and_eq_true,zei,decide_eq_true_eq,List.all_eq_true] at h
 obtain ⟨⟨⟨⟨⟨⟨⟨⟨h1,h2⟩,h3⟩,h4⟩,h5⟩,h6⟩,h7⟩,h8⟩,h9⟩:=h
 exact ⟨h1,h2,h3,h4,h5,h6,h7,by omega,h9⟩
def zc9 (v:Int):Bool:=zas v (-1099511627776) 1099511627776
@[simp] theorem yjv (v:Int):RUN T zid [iv v]=some ([bv (zc9 v)],[]):=by
 refine zav zxe rfl ?_
 simp [zps,zpt,zc9,zas]
@[simp] theorem yjw (v:Int):RUN T zic [iv v]=some ([bv (zc9 v)],[]):=by
 refine zav zxb rfl ?_
 simp [zpm,zpn,zc9,zas]
def shr (v:Int) (c:Cfg):Int×Bool:=if zb2 c && zc9 v then (( v*c.nu).fdiv c.dn,true) else (0,false)
theorem z3z {v:Int} {c:Cfg} (h:zb2 c=true) (hv:zc9 v=true):inI (v*c.nu)∧IntKind.i64.wrap (v*c.nu)=v*c.nu∧fdv (v*c.nu) c.dn=((v*c.nu).fdiv c.dn,true):=by
 obtain ⟨_,_,_,_,_,hd,hn,_⟩:=z1y h
 have h1:=zei.mp hv
 have h2 : -1099511627776*1000≤v*c.nu:=by
  have a1 : -1099511627776*c.nu≤v*c.nu:=Int.mul_le_mul_of_nonneg_right h1.1 (by omega)
  omega
 have h3:v*c.nu≤1099511627776*1000:=by
  have a1:v*c.nu≤1099511627776*c.nu:=Int.mul_le_mul_of_nonneg_right h1.2 (by omega)
  omega
 refine ⟨⟨by omega,by omega⟩,w64 (by omega) (by omega),?_⟩
 unfold fdv
 rw [if_neg (by omega)]
theorem z9f (v:Int) (c:Cfg) (hl:c.sg.length≤9223372036854775807):RUN T zj4 [iv v,zgn c]=some ([iv (shr v c).1,bv (shr v c).2],[]):=by
 refine zav zwo rfl ?_
 have e:=z9c c hl
 simp [zoj,zok,e]
 cases h:zb2 c
 ·simp [shr,h]
 ·cases hv:zc9 v
  ·simp [h,hv,shr]
  ·obtain ⟨h1,h2,h3⟩:=z3z h hv
   have e2:=z9d _ c.dn h1
   rw [h3] at e2
   simp [h,hv,shr,h2,e2]
theorem z9g (v:Int) (c:Cfg) (hl:c.sg.length≤9223372036854775807):RUN T zj2 [iv v,zgn c]=some ([iv (shr v c).1,bv (shr v c).2],[]):=by
 refine zav zwl rfl ?_
 have e:=z9a c hl
 simp [zod,zoe,e]
 cases h:zb2 c
 ·simp [shr,h]
 ·cases hv:zc9 v
  ·simp [h,hv,shr]
  ·obtain ⟨h1,h2,h3⟩:=z3z h hv
   have e2:=z9e _ c.dn h1
   rw [h3] at e2
   simp [h,hv,shr,h2,e2]
theorem zlm (a b c d e a' b' c' d' e':Int):eqP [.i .i64,.i .i64,.i .i64,.i .i64,.i .i64] (.agg [iv a,iv b,iv c,iv d,iv e]) (.agg [iv a',iv b',iv c',iv d',iv e'])=some (decide (a=a'∧b=b'∧c=c'∧d=d'∧e=e')):=by
 simp only [eqP,zbh,ycd,Option.bind_some]
 by_cases h1:a=a' <;> by_cases h2:b=b' <;> by_cases h3:c=c' <;> by_cases h4:d=d' <;> by_cases h5:e=e' <;> simp [h1,h2,h3,h4,h5]
def zhj (n:Int):Bool:=zas n (-2147483647) 2147483647
@[simp] theorem yjx (v:Int):RUN T zkn [iv v]=some ([bv (zhj v)],[]):=by
 refine zav zxi rfl ?_
 simp [zpw,zpx,zhj,zas]
@[simp] theorem yjy (v:Int):RUN T zkp [iv v]=some ([bv (zhj v)],[]):=by
 refine zav zxm rfl ?_
 simp [zp4,zp5,zhj,zas]
def shp (F:Int):List Nd→Int→Int→Option Int
 | [],_,n=>some n
 | x::xs,i,n =>
  if x.f = -1 then (if (x.c=0∧x.l=0∧x.r=0)∧zc9 x.v=true then shp F xs (i+1) n else none)
  else if zas x.f 0 (F-1)=true∧zhj x.c=true∧x.v=0∧x.l=n∧x.r=n+1∧i<n then shp F xs (i+1) (n+2) else none
def zdd (t:List Nd) (F:Int):Bool:=match shp F t 0 1 with
 | some n=>decide (n=t.length)
 | none=>false
set_option maxHeartbeats 1000000 in
theorem z9h (t:List Nd) (F:Int) (hl:t.length≤1048576) (hF:0≤F∧F≤4):RUN T zj8 [.agg [.sl 5 (t.map nd)],iv F]=some ([bv (zdd t F)],[]):=by
 refine zav zwv rfl ?_
 simp [zov,zow]
 have hwF:=w64 (x:=F-1) (by omega) (by omega)
 refine zbl (fun n st => ∃ i:Nat,i+n=t.length∧∃ k:Nat,k≤i∧shp F (t.drop i) i (1+2*k)=shp F t 0 1∧st.V 1=iv F∧st.V 2 = .ptr 0 none 0 0 0∧st.V 5=iv (1+2*k)∧st.V 6=iv i∧0<st.nx∧st.S 0=some (.box [.sl 5 (t.map nd)])) ?_ t.length _ ⟨0,by simp,0,by simp⟩
 rintro n st ⟨i,hi,k,hk,hr,h1,h2,h5,h6,hnx,hS⟩
 simp [zvl,h2,h6,hS]
 have z:=fr hnx
 refine zar (fun h => ?_) (fun h => ?_)
 ·simp at h
  obtain ⟨x,hx⟩ : ∃ x,t[i]?=some x:=⟨_,List.getElem?_eq_getElem h⟩
  have hw:=wS h (by omega:t.length≤9223372036854775807)
  have hw1:=w64 (x:=1+2*(k:Int)+1) (by omega) (by omega)
  have hw2:=w64 (x:=1+2*(k:Int)+2) (by omega) (by omega)
  rw [zhr hx,shp] at hr
  simp [-getElem?_pos,h1,h2,h5,h6,hS,hx,nd,z]
  refine zar (fun h3 => ?_) (fun h3 => ?_)
  ·simp at h3
   rw [if_pos h3] at hr
   by_cases hc:x.c=0∧x.l=0∧x.r=0
   ·have hc':=eq_true hc
    simp [-getElem?_pos,h1,h2,h5,h6,hS,z,h3,zlm,hc']
    cases hv:zc9 x.v with
    | false =>
     rw [if_neg (by simp [hv])] at hr
     simp [zdd,← hr]
    | true =>
     rw [if_pos ⟨hc,hv⟩] at hr
     simp [-getElem?_pos,h1,h2,h5,h6,hS,z,hw]
     exact za2 (n-1) (by omega) ⟨i+1,by omega,k,by omega,by simpa using hr,by simp [h1],by simp [h2],by simp [h5],by simp,by simp,by simp [z,hS]⟩
   ·have hc':=eq_false hc
    rw [if_neg (fun h=>hc h.1)] at hr
    simp [-getElem?_pos,h1,h2,h5,h6,hS,z,h3,zlm,hc']
    simp [zdd,← hr]
  ·simp at h3
   rw [if_neg h3] at hr
   simp [-getElem?_pos,h1,h2,h5,h6,hS,z,h3,hwF,zdz,-zdq]
   by_cases hc:zas x.f 0 (F-1)=true∧zhj x.c=true∧x.v=0∧x.l=1+2*(k:Int)∧x.r=1+2*(k:Int)+1∧(i:Int)<1+2*(k:Int)
   ·rw [if_pos hc] at hr
    obtain ⟨c1,c2,c3,c4,c5,c6⟩:=hc
    have c7 : ¬ (1+2*(k:Int)≤i):=by omega
    simp [-getElem?_pos,h1,h2,h5,h6,hS,z,h3,hwF,c1,c2,c3,c4,c5,c7,hw,hw1,hw2]
    exact za2 (n-1) (by omega) ⟨i+1,by omega,k+1,by omega,by rw [← hr]; congr 1,by simp [h1],by simp [h2],by simp; omega,by simp,by simp,by simp [z,hS]⟩
   ·rw [if_neg hc] at hr
    have e0:zdd t F=false:=by simp [zdd,← hr]
    rw [e0]
    refine zar (fun b0 => ?_) (fun b0 => ?_) <;> (try simp at b0) <;> simp [-getElem?_pos,b0,h1,h2,h5,h6,hS,z,h3,hwF,hw1]
    all_goals try (refine zar (fun b1 => ?_) (fun b1 => ?_) <;> (try simp at b1) <;> simp [-getElem?_pos,b0,b1,h1,h2,h5,h6,hS,z,h3,hwF,hw1])
    all_goals try (refine zar (fun b2 => ?_) (fun b2 => ?_) <;> (try simp at b2) <;> simp [-getElem?_pos,b0,b1,b2,h1,h2,h5,h6,hS,z,h3,hwF,hw1])
    all_goals try (refine zar (fun b3 => ?_) (fun b3 => ?_) <;> (try simp at b3) <;> simp [-getElem?_pos,b0,b1,b2,b3,h1,h2,h5,h6,hS,z,h3,hwF,hw1])
    all_goals try (refine zar (fun b4 => ?_) (fun b4 => ?_) <;> (try simp at b4) <;> simp [-getElem?_pos,b0,b1,b2,b3,b4,h1,h2,h5,h6,hS,z,h3,hwF,hw1])
    all_goals try (refine zar (fun b5 => ?_) (fun b5 => ?_) <;> (try simp at b5) <;> simp [-getElem?_pos,b0,b1,b2,b3,b4,b5,h1,h2,h5,h6,hS,z,h3,hwF,hw1])
    exact (hc ⟨b0,b1,b2,b3,b4,by omega⟩).elim
 ·simp at h
  rw [List.drop_eq_nil_of_le h,shp] at hr
  unfold zdd
  rw [← hr]
  simp [h5,hS,h2]
set_option maxHeartbeats 1000000 in
theorem z9i (t:List Nd) (F:Int) (hl:t.length≤1048576) (hF:0≤F∧F≤4):RUN T zkb [.agg [.sl 5 (t.map nd)],iv F]=some ([bv (zdd t F)],[]):=by
 refine zav zwz rfl ?_
 simp [zo3,zo4]
 have hwF:=w64 (x:=F-1) (by omega) (by omega)
 refine zbl (fun n st => ∃ i:Nat,i+n=t.length∧∃ k:Nat,k≤i∧shp F (t.drop i) i (1+2*k)=shp F t 0 1∧st.V 1=iv F∧st.V 2 = .ptr 0 none 0 0 0∧st.V 5=iv (1+2*k)∧st.V 11=iv i∧st.V 10=iv t.length∧st.V 9 = .sl 5 (t.map nd)∧0<st.nx∧st.S 0=some (.box [.sl 5 (t.map nd)])) ?_ t.length _ ⟨0,by simp,0,by simp⟩
 rintro n st ⟨i,hi,k,hk,hr,h1,h2,h5,h6,h10,h9,hnx,hS⟩
 simp [zvp,h6,h10]
 have z:=fr hnx
 refine zar (fun h => ?_) (fun h => ?_)
 ·simp at h
  obtain ⟨x,hx⟩ : ∃ x,t[i]?=some x:=⟨_,List.getElem?_eq_getElem h⟩
  have hw:=wS h (by omega:t.length≤9223372036854775807)
  have hw1:=w64 (x:=1+2*(k:Int)+1) (by omega) (by omega)
  have hw2:=w64 (x:=1+2*(k:Int)+2) (by omega) (by omega)
  rw [zhr hx,shp] at hr
  simp [-getElem?_pos,h1,h2,h5,h6,h9,h10,hS,hx,nd,z]
  refine zar (fun h3 => ?_) (fun h3 => ?_)
  ·simp at h3
   rw [if_pos h3] at hr
   by_cases hc:x.c=0∧x.l=0∧x.r=0
   ·have hc':=eq_true hc
    simp [-getElem?_pos,h1,h2,h5,h6,h9,h10,hS,z,h3,zlm,hc']
    cases hv:zc9 x.v with
    | false =>
     rw [if_neg (by simp [hv])] at hr
     simp [zdd,← hr]
    | true =>
     rw [if_pos ⟨hc,hv⟩] at hr
     simp [-getElem?_pos,h1,h2,h5,h6,h9,h10,hS,z,hw]
     exact za2 (n-1) (by omega) ⟨i+1,by omega,k,by omega,by simpa using hr,by simp [h1],by simp [h2],by simp [h5],by simp,by simp [h10],by simp [h9],by simp,by simp [z,hS]⟩
   ·have hc':=eq_false hc
    rw [if_neg (fun h=>hc h.1)] at hr
    simp [-getElem?_pos,h1,h2,h5,h6,h9,h10,hS,z,h3,zlm,hc']
    simp [zdd,← hr]
  ·simp at h3
   rw [if_neg h3] at hr
   simp [-getElem?_pos,h1,h2,h5,h6,h9,h10,hS,z,h3,hwF,zgd,-zfm]
   by_cases hc:zas x.f 0 (F-1)=true∧zhj x.c=true∧x.v=0∧x.l=1+2*(k:Int)∧x.r=1+2*(k:Int)+1∧(i:Int)<1+2*(k:Int)
   ·rw [if_pos hc] at hr
    obtain ⟨c1,c2,c3,c4,c5,c6⟩:=hc
    have c7 : ¬ (1+2*(k:Int)≤i):=by omega
    simp [-getElem?_pos,h1,h2,h5,h6,h9,h10,hS,z,h3,hwF,c1,c2,c3,c4,c5,c7,hw,hw1,hw2]
    exact za2 (n-1) (by omega) ⟨i+1,by omega,k+1,by omega,by rw [← hr]; congr 1,by simp [h1],by simp [h2],by simp; omega,by simp,by simp [h10],by simp [h9],by simp,by simp [z,hS]⟩
   ·rw [if_neg hc] at hr
    have e0:zdd t F=false:=by simp [zdd,← hr]
    rw [e0]
    refine zar (fun b0 => ?_) (fun b0 => ?_) <;> (try simp at b0) <;> simp [-getElem?_pos,b0,h1,h2,h5,h6,h9,h10,hS,z,h3,hwF,hw1]
    all_goals try (refine zar (fun b1 => ?_) (fun b1 => ?_) <;> (try simp at b1) <;> simp [-getElem?_pos,b0,b1,h1,h2,h5,h6,h9,h10,hS,z,h3,hwF,hw1])
    all_goals try (refine zar (fun b2 => ?_) (fun b2 => ?_) <;> (try simp at b2) <;> simp [-getElem?_pos,b0,b1,b2,h1,h2,h5,h6,h9,h10,hS,z,h3,hwF,hw1])
    all_goals try (refine zar (fun b3 => ?_) (fun b3 => ?_) <;> (try simp at b3) <;> simp [-getElem?_pos,b0,b1,b2,b3,h1,h2,h5,h6,h9,h10,hS,z,h3,hwF,hw1])
    all_goals try (refine zar (fun b4 => ?_) (fun b4 => ?_) <;> (try simp at b4) <;> simp [-getElem?_pos,b0,b1,b2,b3,b4,h1,h2,h5,h6,h9,h10,hS,z,h3,hwF,hw1])
    all_goals try (refine zar (fun b5 => ?_) (fun b5 => ?_) <;> (try simp at b5) <;> simp [-getElem?_pos,b0,b1,b2,b3,b4,b5,h1,h2,h5,h6,h9,h10,hS,z,h3,hwF,hw1])
    exact (hc ⟨b0,b1,b2,b3,b4,by omega⟩).elim
 ·simp at h
  rw [List.drop_eq_nil_of_le h,shp] at hr
  unfold zdd
  rw [← hr]
  simp [h5,hS,h2]
structure ztm (F:Int) (x:Nd) (i n m:Int):Prop where
 lo:n≤x.l
 lt:i<x.l
 r:x.r=x.l+1
 hi:x.r<m
 f:0≤x.f∧x.f≤F-1
 c:zhj x.c=true
 v:x.v=0
theorem zso (F:Int) : ∀ (l:List Nd) (i n m:Int),shp F l i n=some m→n≤m ∧
  (∀ (j:Nat) (x:Nd),l[j]?=some x→x.f = -1→x.c=0∧x.l=0∧x.r=0∧zc9 x.v=true) ∧
  (∀ (j:Nat) (x:Nd),l[j]?=some x→x.f ≠ -1→ztm F x (i+j) n m) ∧
  (∀ (j j':Nat) (x y:Nd),j<j'→l[j]?=some x→l[j']?=some y→x.f ≠ -1→y.f ≠ -1→x.r<y.l) ∧
  (∀ k:Int,n≤k→k<m→∃ (j:Nat) (x:Nd),l[j]?=some x∧x.f ≠ -1∧(x.l=k∨x.r=k))
 | [],i,n,m,h=>by
  simp only [shp,Option.some.injEq] at h
  subst h
  exact ⟨Int.le_refl _,by simp,by simp,by simp,fun k h1 h2=>by omega⟩
 | x::xs,i,n,m,h=>by
  rw [shp] at h
  split at h
  ·rename_i hf
   split at h
   ·rename_i hc
    obtain ⟨h1,h2,h3,h4,h5⟩:=zso F xs (i+1) n m h
    refine ⟨h1,fun j y hj hy => ?_,fun j y hj hy => ?_,fun j j' y z hjj hj hj' hy hz => ?_,fun k hk1 hk2 => ?_⟩
    ·cases j with
     | zero=>simp at hj; subst hj; exact ⟨hc.1.1,hc.1.2.1,hc.1.2.2,hc.2⟩
     | succ j=>exact h2 j y (by simpa using hj) hy
    ·cases j with
     | zero=>simp at hj; subst hj; exact (hy hf).elim
     | succ j =>
      have:=h3 j y (by simpa using hj) hy
      exact ⟨this.lo,by have:=this.lt; push_cast; omega,this.r,this.hi,this.f,this.c,this.v⟩
    ·cases j' with
     | zero=>omega
     | succ j' =>
      cases j with
      | zero=>simp at hj; subst hj; exact (hy hf).elim
      | succ j=>exact h4 j j' y z (by omega) (by simpa using hj) (by simpa using hj') hy hz
    ·obtain ⟨j,y,hj,hy⟩:=h5 k hk1 hk2
     exact ⟨j+1,y,by simpa using hj,hy⟩
   ·cases h
  ·rename_i hf
   split at h
   ·rename_i hc
    obtain ⟨c1,c2,c3,c4,c5,c6⟩:=hc
    have c1':=zei.mp c1
    obtain ⟨h1,h2,h3,h4,h5⟩:=zso F xs (i+1) (n+2) m h
    refine ⟨by omega,fun j y hj hy => ?_,fun j y hj hy => ?_,fun j j' y z hjj hj hj' hy hz => ?_,fun k hk1 hk2 => ?_⟩
    ·cases j with
     | zero=>simp at hj; subst hj; exact (hf hy).elim
     | succ j=>exact h2 j y (by simpa using hj) hy
    ·cases j with
     | zero=>simp at hj; subst hj; exact ⟨by omega,by simp; omega,by omega,by omega,c1',c2,c3⟩
     | succ j =>
      have:=h3 j y (by simpa using hj) hy
      exact ⟨by have:=this.lo; omega,by have:=this.lt; push_cast; omega,this.r,this.hi,this.f,this.c,this.v⟩
    ·cases j' with
     | zero=>omega
     | succ j' =>
      cases j with
      | zero =>
       simp at hj; subst hj
       have:=(h3 j' z (by simpa using hj') hz).lo
       omega
      | succ j=>exact h4 j j' y z (by omega) (by simpa using hj) (by simpa using hj') hy hz
    ·by_cases hkn:k<n+2
     ·exact ⟨0,x,rfl,hf,by omega⟩
     ·obtain ⟨j,y,hj,hy⟩:=h5 k (by omega) hk2
      exact ⟨j+1,y,by simpa using hj,hy⟩
   ·cases h
structure Shaped (t:List Nd) (F:Int):Prop where
 leaf : ∀ (j:Nat) (x:Nd),t[j]?=some x→x.f = -1→x.c=0∧x.l=0∧x.r=0∧zc9 x.v=true
 inner : ∀ (j:Nat) (x:Nd),t[j]?=some x→x.f ≠ -1→ztm F x j 1 t.length
 ord : ∀ (j j':Nat) (x y:Nd),j<j'→t[j]?=some x→t[j']?=some y→x.f ≠ -1→y.f ≠ -1→x.r<y.l
 cover : ∀ k:Int,1≤k→k<t.length→∃ (j:Nat) (x:Nd),t[j]?=some x∧x.f ≠ -1∧(x.l=k∨x.r=k)
 pos:1≤t.length
theorem zq5 {t:List Nd} {F:Int} (h:zdd t F=true):Shaped t F:=by
 unfold zdd at h
 split at h
 ·rename_i n hn
  simp at h
  subst h
  obtain ⟨h1,h2,h3,h4,h5⟩:=zso F t 0 1 _ hn
  exact ⟨h2,fun j x hj hx=>by simpa using h3 j x hj hx,h4,h5,by omega⟩
 ·cases h
theorem zuu {k:Int} {x:Nd}:zc8 k x=true↔x.f ≠ -1∧(x.l=k∨x.r=k):=by simp [zc8]
theorem Shaped.par_of {t:List Nd} {F:Int} (h:Shaped t F) {i:Nat} {x:Nd} (hx:t[i]?=some x) (hf:x.f ≠ -1) {k:Int} (hk:x.l=k∨x.r=k):par t k=i:=by
 unfold par
 refine zr2 hx (zuu.mpr ⟨hf,hk⟩) fun j y hj hy => ?_
 cases ha:zc8 k y with
 | false=>rfl
 | true =>
  obtain ⟨hyf,hyk⟩:=zuu.mp ha
  have h1:=h.ord j i y x hj hy hx hyf hf
  have h2:=(h.inner j y hy hyf).r
  have h3:=(h.inner i x hx hf).r
  omega
theorem Shaped.par_lt {t:List Nd} {F:Int} (h:Shaped t F) (k:Int):par t k<0∨∃ (i:Nat) (x:Nd),par t k=i∧t[i]?=some x∧x.f ≠ -1∧(x.l=k∨x.r=k)∧(i:Int)<k∧k<t.length:=by
 rcases ztf t k with h1 | h1
 ·left; omega
 ·obtain ⟨i,hi⟩ : ∃ i:Nat,par t k=i:=⟨(par t k).toNat,by omega⟩
  right
  have hil:i<t.length:=by omega
  have hx:=List.getElem?_eq_getElem hil
  refine ⟨i,t[i],hi,hx,?_⟩
  have ha:zc8 k t[i]=true:=by
   unfold par zfg at hi
   split at hi
   ·rename_i j hj
    obtain ⟨h2,h3,_⟩:=List.findIdx?_eq_some_iff_getElem.mp hj
    have:j=i:=by omega
    subst this; exact h3
   ·omega
  obtain ⟨hf,hk⟩:=zuu.mp ha
  have:=h.inner i _ hx hf
  have h2:=this.lt
  have h3:=this.r
  have h4:=this.hi
  exact ⟨hf,hk,by omega,by omega⟩
theorem Shaped.anc {t:List Nd} {F:Int} (h:Shaped t F) : ∀ (n:Nat) (k:Int),k<n→0<n→∃ l,anc t n k=some l
 | 0,_,_,h0=>by omega
 | n+1,k,hk,_=>by
  rw [zgb]
  split
  ·exact ⟨[],rfl⟩
  ·rename_i hp
   rcases h.par_lt k with h1 | ⟨i,x,h1,_,_,_,h2,_⟩
   ·omega
   ·obtain ⟨l,hl⟩:=h.anc n (par t k) (by omega) (by omega)
    exact ⟨_,by rw [hl]; rfl⟩
def adj (p:Int→Int→Bool):List Int→Bool
 | a::b::r=>p a b || adj p (b::r)
 | _=>false
theorem z04 (p:Int→Int→Bool) : ∀ (l:List Int) (a b:Int),adj p (l++[a,b])=(adj p (l++[a]) || p a b)
 | [],a,b=>by simp [adj]
 | [x],a,b=>by simp [adj]
 | x::y::r,a,b=>by
  have:=z04 p (y::r) a b
  simp only [List.cons_append,adj] at this ⊢
  rw [this,Bool.or_assoc]
theorem z0k (p:Int→Int→Bool) : ∀ l:List Int,adj p l.reverse=adj (fun a b=>p b a) l
 | []=>rfl
 | [x]=>rfl
 | x::y::r=>by
  have:=z0k p (y::r)
  rw [adj,← this]
  simp only [List.reverse_cons,List.append_assoc,List.cons_append,List.nil_append]
  rw [z04,Bool.or_comm]
def zcx (t:List Nd) (n:Nd) (a b:Int):Bool:=match t[a.toNat]? with
 | none=>false
 | some x=>decide (x.f=n.f) && ((decide (x.r=b) && decide (n.c≤x.c)) || (decide (x.l=b) && decide (x.c≤n.c)))
def zel (t:List Nd) (i:Nat):Bool:=match t[i]? with
 | none=>true
 | some x=>decide (x.f = -1) || !adj (zcx t x) (way t i)
def ze9 (t:List Nd):Bool:=(List.range t.length).all (zel t)
def zdl (t:List Nd) (F:Int):Bool:=zas F 0 4 && zas t.length 1 31 && zdd t F && decide (dpt t t.length≤4) && ze9 t
theorem zy5 (t:List Nd) (b:Int) (hb : -1≤b) : ∀ n:Nat,dpt t n≤b↔∀ i:Nat,i<n→zct t i≤b
 | 0=>by simp [dpt]; omega
 | n+1=>by
  have ih:=zy5 t b hb n
  simp only [dpt]
  constructor
  ·intro h i hi
   by_cases e:i=n
   ·subst e; omega
   ·exact ih.mp (by omega) i (by omega)
  ·intro h
   have h1:=ih.mpr fun i hi=>h i (by omega)
   have h2:=h n (by omega)
   omega
theorem Shaped.lev_par {t:List Nd} {F:Int} (h:Shaped t F) (hl:t.length≤31) {k:Nat} (hk:k<t.length):0≤zct t k∧(par t k<0→zct t k=0)∧(0≤par t k→zct t k=zct t (par t k)+1):=by
 have e : ∀ j:Nat,j<t.length→zct t j=lev t 32 j:=fun j hj=>by unfold zct; rw [if_pos (by omega)]
 obtain ⟨l,ha⟩:=h.anc 32 k (by omega) (by omega)
 have hlev:zct t k=l.length:=by rw [e k hk,z30,ha]
 refine ⟨by omega,fun hp => ?_,fun hp => ?_⟩
 ·rw [zgb,if_pos hp] at ha; cases ha; simpa using hlev
 ·rcases h.par_lt k with h1 | ⟨i,x,h1,_,_,_,h2,_⟩
  ·omega
  ·obtain ⟨m,hm⟩:=h.anc 31 i (by omega) (by omega)
   rw [zgb,if_neg (by omega),h1,hm] at ha
   simp at ha
   subst ha
   obtain ⟨m',hm'⟩:=h.anc 32 i (by omega) (by omega)
   have hmm : ∀ (n:Nat) (k:Int) (a b:List Int),Pe.anc t n k=some a→Pe.anc t (n+1) k=some b→a=b:=by
    intro n
    induction n with
    | zero=>intro k a b h1; cases h1
    | succ n ih =>
     intro k a b h1 h2
     rw [zgb] at h1 h2
     split at h1
     ·rename_i c; rw [if_pos c] at h2; cases h1; cases h2; rfl
     ·rename_i c; rw [if_neg c] at h2
      simp only [Option.map_eq_some_iff] at h1 h2
      obtain ⟨a',ha',rfl⟩:=h1
      obtain ⟨b',hb',rfl⟩:=h2
      rw [ih _ _ _ ha' hb']
   have:=hmm 31 i m m' hm hm'
   subst this
   rw [h1,e i (by omega),z30,hm',hlev]
   simp
theorem Shaped.leaf_deep {t:List Nd} {F:Int} (h:Shaped t F) (hl:t.length≤31) : ∀ (n k:Nat),k<t.length→t.length-k≤n→∃ (j:Nat) (x:Nd),t[j]?=some x∧x.f = -1∧zct t k≤zct t j
 | 0,k,hk,hn=>by omega
 | n+1,k,hk,hn=>by
  have hx:=List.getElem?_eq_getElem hk
  by_cases hf:(t[k]).f = -1
  ·exact ⟨k,_,hx,hf,Int.le_refl _⟩
  ·have hi:=h.inner k _ hx hf
   have h1:=hi.lt
   have h2:=hi.r
   have h3:=hi.hi
   obtain ⟨c,hc⟩ : ∃ c:Nat,(t[k]).l=c:=⟨(t[k]).l.toNat,by omega⟩
   have hp:=h.par_of hx hf (.inl hc)
   obtain ⟨_,_,h4⟩:=h.lev_par hl (k:=c) (by omega)
   rw [hp] at h4
   obtain ⟨j,y,h5,h6,h7⟩:=h.leaf_deep hl n c (by omega) (by omega)
   exact ⟨j,y,h5,h6,by have:=h4 (by omega); omega⟩
theorem yf8 {p:Int→Int→Bool} {w:List Int} {i:Nat} {a b:Int} (h1:w[i]?=some a) (h2:w[i+1]?=some b):adj p (w.drop i)=(p a b || adj p (w.drop (i+1))):=by
 rw [zhr h1,zhr h2,adj]
theorem yfz {p:Int→Int→Bool} {w:List Int} {i:Nat} (h:w.length≤i+1):adj p (w.drop i)=false:=by
 by_cases c:i<w.length
 ·rw [List.drop_eq_getElem_cons c,List.drop_eq_nil_of_le h,adj]
  simp
 ·rw [List.drop_eq_nil_of_le (by omega),adj]
  simp
theorem Shaped.way {t:List Nd} {F:Int} (h:Shaped t F) (hl:t.length≤31) {i:Nat} (hi:i<t.length) : ∃ l,Pe.way t i=((i:Int)::l).reverse∧Chn t l (par t i)∧l.length≤31:=by
 obtain ⟨l,ha⟩:=h.anc 32 i (by omega) (by omega)
 have hc:=zup t 32 i l (by omega) ha
 have hle:=zss t 32 i l ha
 refine ⟨l,?_,hc.2.2,by omega⟩
 unfold Pe.way
 rw [if_pos (by omega),ha]
theorem ybs {t:List Nd} {a:Nat} {z:Nd} (h:t[a]?=some z) (n:Nd) (b:Int):zcx t n a b=(decide (z.f=n.f) && ((decide (z.r=b) && decide (n.c≤z.c)) || (decide (z.l=b) && decide (z.c≤n.c)))):=by
 simp [zcx,h]
theorem ygl {t:List Nd} {a:Nat} {z:Nd} (h:t[a]?=some z) (n:Nd) (b:Int):zcx t n a b=(decide (z.f=n.f) && ((decide (b=z.r) && decide (n.c≤z.c)) || (decide (b=z.l) && decide (z.c≤n.c)))):=by
 simp [zcx,h,eq_comm (a:=b)]
theorem zrp {t:List Nd} {i:Nat} {x:Nd} (h:t[i]?=some x):zel t i=(decide (x.f = -1) || !adj (zcx t x) (way t i)):=by simp [zel,h]
theorem zuo {t:List Nd}:ze9 t=true↔∀ j:Nat,j<t.length→zel t j=true:=by
 simp [ze9]
theorem ycu {t:List Nd} {i:Nat} (hi:i<t.length) (h:zel t i=false):ze9 t=false:=by
 cases e:ze9 t with
 | false=>rfl
 | true=>rw [zuo.mp e i hi] at h; cases h
set_option maxHeartbeats 1000000 in
theorem z9j (t:List Nd) (F:Int) (hl:t.length≤31) (hs:Shaped t F):RUN T zka [.agg [.sl 5 (t.map nd)]]=some ([bv (ze9 t)],[]):=by
 refine zav zwx rfl ?_
 simp [zoz,zo0]
 refine zbl (fun n st => ∃ i:Nat,i+n=t.length∧(∀ j:Nat,j<i→zel t j=true)∧st.V 1 = .ptr 0 none 0 0 0∧st.V 3=iv i∧0<st.nx∧st.S 0=some (.box [.sl 5 (t.map nd)])) ?_ t.length _ ⟨0,by simp⟩
 rintro n st ⟨i,hi,hk,h1,h3,hnx,hS⟩
 simp [zvo,h1,h3,hS]
 have z:=fr hnx
 refine zar (fun h => ?_) (fun h => ?_)
 ·simp at h
  obtain ⟨x,hx⟩ : ∃ x,t[i]?=some x:=⟨_,List.getElem?_eq_getElem h⟩
  have hw:=wS h (by omega:t.length≤9223372036854775807)
  have hup:=fun k=>zx3 t k (by omega)
  obtain ⟨l,hway,hchn,hll⟩:=hs.way hl h
  simp [-getElem?_pos,h1,h3,hS,hx,z,nd]
  refine zar (fun h4 => ?_) (fun h4 => ?_)
  ·simp at h4
   have ok:zel t i=true:=by rw [zrp hx]; simp [h4]
   simp [-getElem?_pos,h1,h3,hS,hx,z,hw]
   exact za2 (n-1) (by omega) ⟨i+1,by omega,fun j hj=>by by_cases e:j=i; (subst e; exact ok); exact hk j (by omega),by simp [h1],by simp,by simp [hnx],by simp [hS]⟩
  ·simp at h4
   obtain ⟨A,hA⟩ : ∃ A,A=adj (zcx t x) (way t i):=⟨_,rfl⟩
   have hA':zel t i = !A:=by rw [zrp hx,hA]; simp [h4]
   rw [hway,z0k] at hA
   simp [-getElem?_pos,h1,h3,hS,hx,z,hw,hup]
   refine zbl (fun n st => ∃ (c:Int) (r:List Int),r.length=n∧Chn t r (par t c)∧adj (fun a b=>zcx t x b a) (c::r)=A∧st.V 1 = .ptr 0 none 0 0 0∧st.V 3=iv i∧st.V 4=iv c∧st.V 5=iv (par t c)∧0<st.nx∧st.S 0=some (.box [.sl 5 (t.map nd)])) ?_ l.length _ ⟨i,l,rfl,hchn,hA.symm,by simp [h1],by simp [h3],by simp,by simp,by simp [hnx],by simp [hS]⟩
   clear hnx hS h1 h3 z
   rintro n' st ⟨c,r,hr,hc,hcA,h1,h3,h4',h5,hnx,hS⟩
   have z:=fr hnx
   simp [zvn,h1,h3,h5]
   refine zar (fun h => ?_) (fun h => ?_)
   ·simp at h
    cases r with
    | nil=>have:par t c<0:=hc; omega
    | cons y ys =>
     obtain ⟨rfl,h0,hc'⟩:=hc
     have hpr:=ztf t c
     obtain ⟨a,ha⟩ : ∃ a:Nat,par t c=a:=⟨(par t c).toNat,by omega⟩
     rw [ha] at h5 hc' hcA hpr
     obtain ⟨y,hy⟩ : ∃ y,t[a]?=some y:=⟨_,List.getElem?_eq_getElem (by omega)⟩
     rw [adj,ybs hy] at hcA
     have z2:=fr (by omega:st.nx<st.nx+1)
     by_cases b0:y.f=x.f
     all_goals by_cases b1:y.r=c
     all_goals by_cases b2:x.c≤y.c
     all_goals by_cases b3:y.l=c
     all_goals by_cases b4:y.c≤x.c
     all_goals simp [b0,b1,b2,b3,b4] at hcA
     all_goals simp [-getElem?_pos,h1,h3,h4',h5,hS,hx,hy,z,nd,hup,b0,b1,b2,b3,b4]
     all_goals first
      | (have no:ze9 t=false:=ycu (i:=i) (by omega) (by rw [hA']; simp [hcA])
         simp [no]; done)
      | (simp at hr
         exact za2 ys.length (by omega) ⟨a,ys,rfl,hc',hcA,by simp [h1],by simp [h3],by simp,by simp,by simp,by simp [z,hS]⟩)
      | skip
   ·simp at h
    cases r with
    | nil =>
     have ok:zel t i=true:=by rw [hA',← hcA]; rfl
     simp [-getElem?_pos,h1,h3,hS,hx,z,hw]
     exact za2 (n-1) (by omega) ⟨i+1,by omega,fun j hj=>by by_cases e:j=i; (subst e; exact ok); exact hk j (by omega),by simp [h1],by simp,by simp [hnx],by simp [hS]⟩
    | cons x xs=>obtain ⟨_,h0,_⟩:=hc; omega
 ·simp at h
  have:ze9 t=true:=zuo.mpr fun j hj=>hk j (by omega)
  simp [this]
theorem zx7 (t:List Nd) (F:Int) (hl:t.length≤9223372036854775807):RUN T zh5 [.agg [.sl 5 (t.map nd)],iv F]=some ([bv (zdl t F)],[]):=by
 refine zav zwb rfl ?_
 unfold zdl
 by_cases h1:zas F 0 4=true
 ·by_cases h2:zas t.length 1 31=true
  ·have h1':=zei.mp h1
   have h2':=zei.mp h2
   have hS:=z9h t F (by omega) h1'
   have hD:=z82 t hl
   by_cases h3:zdd t F=true
   ·have hW:=z9j t F (by omega) (zq5 h3)
    by_cases h4:dpt t t.length≤4
    ·simp [zgy,zgz,zdz,-zdq,h1,h2,hS,hD,hW,h3,h4]
    ·simp [zgy,zgz,zdz,-zdq,h1,h2,hS,hD,h3,h4]
   ·simp [zgy,zgz,zdz,-zdq,h1,h2,hS,h3]
  ·simp [zgy,zgz,zdz,-zdq,h1,h2]
 ·by_cases h2:zas t.length 1 31=true
  ·simp [zgy,zgz,zdz,-zdq,h1,h2]
  ·simp [zgy,zgz,zdz,-zdq,h1,h2]
theorem zzx {t:List Nd} {F:Int} (hl:t.length≤31) (h:Shaped t F):(decide (dpt t t.length≤4) && ze9 t)=true↔∀ (i:Nat) (x:Nd),t[i]?=some x→(x.f = -1→zct t i≤4)∧(x.f ≠ -1→adj (zcx t x) (way t i)=false):=by
 simp only [Bool.and_eq_true,decide_eq_true_eq,zuo,zy5 t 4 (by omega)]
 constructor
 ·rintro ⟨h1,h2⟩ i x hx
  have hi:=(List.getElem?_eq_some_iff.mp hx).1
  refine ⟨fun _=>h1 i hi,fun hf => ?_⟩
  have:=h2 i hi
  rw [zrp hx] at this
  simpa [hf] using this
 ·intro h3
  refine ⟨fun i hi => ?_,fun i hi => ?_⟩
  ·obtain ⟨j,x,hx,hf,hle⟩:=h.leaf_deep hl t.length i hi (by omega)
   have:=(h3 j x hx).1 hf
   omega
  ·have hx:=List.getElem?_eq_getElem hi
   rw [zrp hx]
   by_cases hf:(t[i]).f = -1
   ·simp [hf]
   ·simp [hf,(h3 i _ hx).2 hf]
theorem zzg {t:List Nd} {F:Int} (hl:t.length≤31) (h:Shaped t F) {i:Nat} {x:Nd} (hx:t[i]?=some x) (hn:(x.f = -1∧4<zct t i)∨(x.f ≠ -1∧adj (zcx t x) (way t i)=true)):zdl t F=false:=by
 have:=mt ((zzx hl h).mp) fun h3=>by
  have:=h3 i x hx
  rcases hn with ⟨h1,h2⟩ | ⟨h1,h2⟩
  ·have:=this.1 h1; omega
  ·rw [this.2 h1] at h2; cases h2
 unfold zdl
 rw [Bool.and_assoc]
 simp [Bool.not_eq_true] at this ⊢
 intro _ _ _ h4
 exact this h4
theorem ybg {t:List Nd} {F:Int} (h1:zas F 0 4=true) (h2:zas t.length 1 31=true) (h3:zdd t F=true) (hn : ∀ (i:Nat) (x:Nd),t[i]?=some x→(x.f = -1→zct t i≤4)∧(x.f ≠ -1→adj (zcx t x) (way t i)=false)):zdl t F=true:=by
 unfold zdl
 rw [Bool.and_assoc,(zzx (zei.mp h2 |>.2 |> fun h=>by omega) (zq5 h3)).mpr hn,h1,h2,h3]
 rfl
theorem zrc {α:Type} {P:Nat→α→Prop} {l:List α} {i:Nat} {x:α} (h : ∀ (j:Nat) (x:α),j<i→l[j]?=some x→P j x) (hi:l[i]?=some x) (hp:P i x) : ∀ (j:Nat) (x:α),j<i+1→l[j]?=some x→P j x:=by
 intro j y hj hy
 by_cases e:j=i
 ·subst e; rw [hi] at hy; cases hy; exact hp
 ·exact h j y (by omega) hy
set_option maxHeartbeats 1000000 in
theorem z9k (t:List Nd) (F:Int) (hl:t.length≤9223372036854775807):RUN T zjx [.agg [.sl 5 (t.map nd)],iv F]=some ([bv (zdl t F)],[]):=by
 refine zav zwc rfl ?_
 by_cases h1:zas F 0 4=true
 case neg=>simp [zik,zil,zgd,-zfm,h1,zdl]
 by_cases h2:zas t.length 1 31=true
 case neg=>simp [zik,zil,zgd,-zfm,h1,h2,zdl]
 have h1':=zei.mp h1
 have h2':=zei.mp h2
 have hS:=z9i t F (by omega) h1'
 by_cases h3:zdd t F=true
 case neg=>simp [zik,zil,zgd,-zfm,h1,h2,hS,h3,zdl]
 have hs:=zq5 h3
 have hL:=fun k=>z81 t k hl
 have hW:=fun k=>zx4 t k hl
 simp [zik,zil,zgd,-zfm,h1,h2,hS,h3]
 refine zbl (fun n st => ∃ i:Nat,i+n=t.length∧(∀ (j:Nat) (x:Nd),j<i→t[j]?=some x→(x.f = -1→zct t j≤4)∧(x.f ≠ -1→adj (zcx t x) (way t j)=false))∧st.V 2 = .ptr 0 none 0 0 0∧st.V 30=iv i∧st.V 29=iv t.length∧st.V 28 = .sl 5 (t.map nd)∧0<st.nx∧st.S 0=some (.box [.sl 5 (t.map nd)])) ?_ t.length _ ⟨0,by simp⟩
 rintro n st ⟨i,hi,hk,v2,v30,v29,v28,hnx,hS⟩
 simp [zvf,v30,v29,v28]
 have z:=fr hnx
 have z2:=fr (by omega:st.nx<st.nx+1)
 refine zar (fun h => ?_) (fun h => ?_)
 ·simp at h
  obtain ⟨x,hx⟩ : ∃ x,t[i]?=some x:=⟨_,List.getElem?_eq_getElem h⟩
  have hw:=wS h hl
  simp [-getElem?_pos,v2,v30,v29,v28,hS,hx,z,z2,nd]
  refine zar (fun h4 => ?_) (fun h4 => ?_)
  ·simp at h4
   simp [-getElem?_pos,v2,v30,v29,v28,hS,hx,z,z2,hL]
   refine zar (fun h5 => ?_) (fun h5 => ?_)
   ·simp at h5
    simp [zzg (by omega) hs hx (.inl ⟨h4,by omega⟩)]
   ·simp at h5
    simp [-getElem?_pos,v2,v30,v29,v28,hS,hx,z,z2,hw]
    exact za2 (n-1) (by omega) ⟨i+1,by omega,zrc (P:=fun j x=>(x.f = -1→zct t j≤4)∧(x.f ≠ -1→adj (zcx t x) (way t j)=false)) hk hx ⟨fun _=>by omega,fun h=>(h h4).elim⟩,by simp [v2],by simp,by simp [v29],by simp [v28],by simp,by simp [z,hS]⟩
  ·simp at h4
   obtain ⟨l,hway,hchn,hll⟩:=hs.way (by omega) h
   obtain ⟨w,hww⟩ : ∃ w,w=way t i:=⟨_,rfl⟩
   have hwl:1≤w.length∧w.length≤32:=by rw [hww,hway]; simp; omega
   have hwr:=ydf t i
   obtain ⟨A,hA⟩ : ∃ A,A=adj (zcx t x) w:=⟨_,rfl⟩
   rw [← hww] at hwr
   have hww':=hW i
   rw [← hww] at hww'
   obtain ⟨q,hq⟩ : ∃ q,w.length=q+1:=⟨w.length-1,by omega⟩
   have hw1:IntKind.i64.wrap ((w.length:Int)-1)=q:=by rw [hq]; exact (w64 (by omega) (by omega)).trans (by omega)
   have hql:q≤w.length:=by omega
   simp [-getElem?_pos,v2,v30,v29,v28,hS,hx,z,z2,hww',hw1,hql]
   refine zbl (fun n st => ∃ (j:Nat) (p o e ep:Nat),j+n=q∧adj (zcx t x) (w.drop j)=A∧st.V 2 = .ptr 0 none 0 0 0∧st.V 30=iv i∧st.V 29=iv t.length∧st.V 28 = .sl 5 (t.map nd)∧st.V 6 = .ptr p none ep 0 0∧st.V 7 = .ref o none e 0 w.length∧st.V 48 = .ref o none e 0 q∧st.V 49=iv q∧st.V 50=iv j∧0<p∧p<o∧o<st.nx∧st.S p=some (.box [iv x.f,iv x.c,iv x.l,iv x.r,iv x.v])∧st.S o=some (.row 1 (zad w))∧st.S 0=some (.box [.sl 5 (t.map nd)])) ?_ q _ ⟨0,st.nx,st.nx+1,st.ep,st.ep,by omega,by simp [hA],by simp [v2],by simp [v30],by simp [v29],by simp [v28],by simp,by simp,by simp,by simp,by simp,hnx,by omega,by simp,by simp [z,z2],by simp [z,z2],by simp [z,z2,hS]⟩
   clear hnx hS z z2 v2 v30 v29 v28
   rintro n' st ⟨j,p,o,e,ep,hj,hjA,v2,v30,v29,v28,v6,v7,v48,v49,v50,hp,hpo,hox,hSp,hSo,hS⟩
   have z1:=fr hox
   have z2:=fr hpo
   have z3:=fr hp
   have z4:=fr (by omega:p<st.nx)
   have z5:=fr (by omega:0<o)
   have z6:=fr (by omega:0<st.nx)
   simp [zve,v49,v50]
   refine zar (fun h => ?_) (fun h => ?_)
   ·simp at h
    have hjl:j+1<w.length:=by omega
    obtain ⟨a,ha⟩ : ∃ a,w[j]?=some a:=⟨_,List.getElem?_eq_getElem (by omega)⟩
    obtain ⟨b,hb⟩ : ∃ b,w[j+1]?=some b:=⟨_,List.getElem?_eq_getElem hjl⟩
    have har:=hwr a (List.mem_of_getElem? ha)
    obtain ⟨a,rfl⟩ : ∃ a':Nat,a=a':=⟨a.toNat,by omega⟩
    obtain ⟨y,hy⟩ : ∃ y,t[a]?=some y:=⟨_,List.getElem?_eq_getElem (by omega)⟩
    rw [yf8 ha hb,ygl hy] at hjA
    have ha':=zcw ha
    have hb':=zcw hb
    have hwj:=w64 (x:=(j:Int)+1) (by omega) (by omega)
    rcases Classical.propComplete (y.f=x.f) with b0 | b0
    all_goals rcases Classical.propComplete (b=y.r) with b1 | b1
    all_goals rcases Classical.propComplete (x.c≤y.c) with b2 | b2
    all_goals rcases Classical.propComplete (b=y.l) with b3 | b3
    all_goals rcases Classical.propComplete (y.c≤x.c) with b4 | b4
    all_goals simp [b0,b1,b2,b3,b4] at hjA
    all_goals simp [-getElem?_pos,v2,v30,v29,v28,v6,v7,v48,v49,v50,hSp,hSo,hS,z1,z2,z3,z4,z5,z6,ha',hb',hwj,hy,nd,b0,b1,b2,b3,b4,h,hjl]
    all_goals first
     | (have no:zdl t F=false:=zzg (by omega) hs hx (.inr ⟨h4,by rw [← hww,← hA]; simp [hjA]⟩)
        simp [no]; done)
     | exact za2 (n'-1) (by omega) ⟨j+1,p,o,e,ep,by omega,hjA,by simp [v2],by simp [v30],by simp [v29],by simp [v28],by simp [v6],by simp [v7],by simp [v48],by simp [v49],by simp,hp,hpo,by simp; omega,by simp [z4,hSp],by simp [z1,hSo],by simp [z6,hS]⟩
     | skip
   ·simp at h
    rw [yfz (by omega)] at hjA
    simp [-getElem?_pos,v2,v30,v29,v28,hw]
    exact za2 (n-1) (by omega) ⟨i+1,by omega,zrc (P:=fun j x=>(x.f = -1→zct t j≤4)∧(x.f ≠ -1→adj (zcx t x) (way t j)=false)) hk hx ⟨fun h=>(h4 h).elim,fun _=>by rw [← hww,← hA,hjA]⟩,by simp [v2],by simp,by simp [v29],by simp [v28],by simp; omega,by simp [hS]⟩
 ·simp at h
  have:zdl t F=true:=ybg h1 h2 h3 fun j x hj=>hk j x (by have:=(List.getElem?_eq_some_iff.mp hj).1; omega) hj
  simp [this]
def cel (q:Bool) (l:List Int):PV:=if q then .own 1 (zad l) else .sl 1 (zad l)
@[simp] theorem ywd (q:Bool) (l:List Int):fz (cel q l) = .sl 1 (zad l):=by cases q <;> simp [cel]
def rws (q:Bool) (L:List (List Int)):List (List PV):=L.map fun l=>[cel q l]
@[simp] theorem yte (q:Bool) (L:List (List Int)):(rws q L).length=L.length:=by simp [rws]
def ycq (l:List Int):Bool := !adj (fun a b=>decide (b≤a)) l && l.all zhj && decide ((l.length:Int)≤7)
def zr8:List (List Int)→Nat
 | []=>0
 | l::_=>l.length
theorem z3r {s:St} {d:Option Dst} {op:IOp} {g:Opd} {v:Bool} {x:PV}:(yv s ⟨d,op,some (g,v)⟩=some x)=(Ob' (zfu v (g.get s)) fun t=>Br t (WI (fun _=>[]) (fun _ _=>none) op s (fun y _=>y=x)) (PV.v Go.undef=x)):=by
 simp only [yv,zzu,WI,Ob',Br,Option.map_eq_some_iff,Option.bind_eq_some_iff,eq_iff_iff]
 constructor
 ·rintro ⟨⟨y,s'⟩,⟨t,h1,h2⟩,h3⟩
  refine ⟨t,h1,fun ht => ?_,fun ht => ?_⟩ <;> subst ht
  ·exact ⟨y,s',by simpa using h2,h3⟩
  ·simp at h2; obtain ⟨rfl,rfl⟩:=h2; exact h3
 ·rintro ⟨t,h1,h2,h3⟩
  cases t with
  | true=>obtain ⟨y,s',h4,h5⟩:=h2 rfl; exact ⟨(y,s'),⟨true,h1,by simpa using h4⟩,h5⟩
  | false=>exact ⟨_,⟨false,h1,rfl⟩,h3 rfl⟩
@[simp] theorem ywi {s:St} {d:Option Dst} {op:IOp} {g:Opd} {v:Bool} {x:PV} {n:Nat} {r:List (zaa×PV×Nat)}:zbq s ((⟨d,op,some (g,v)⟩,x,n+1)::r)=((Ob' (zfu v (g.get s)) fun t=>Br t (WI (fun _=>[]) (fun _ _=>none) op s (fun y _=>y=x)) (PV.v Go.undef=x))∧zbq s r):=by
 simp only [zbq,z3r]
@[simp] theorem ys2 {V E:Nat→PV} {d:Option Dst} {op:IOp} {g:Opd} {v:Bool} {x:PV} {n:Nat} {s:St} {ms:List St}:zax V E ⟨d,op,some (g,v)⟩ x (n+1) (s::ms)=((Ob' (zfu v (g.get { s with V:=V,E:=E })) fun t=>Br t (WI (fun _=>[]) (fun _ _=>none) op { s with V:=V,E:=E } (fun y _=>y=x)) (PV.v Go.undef=x))∧zax V E ⟨d,op,some (g,v)⟩ x n ms):=by
 simp only [zax,z3r]
def ycw (c v:List (List Int)) (f:Nat):Bool:=match c[f]?,v[f]? with
 | some a,some b=>ycq a && decide ((b.length:Int)=zr8 v) && b.all fun x=>zas x 0 a.length
 | _,_=>true
def zsn (c v:List (List Int)):Bool:=zas c.length 1 4 && decide ((v.length:Int)=c.length) && zas (zr8 v) 1 40 && (List.range c.length).all (ycw c v)
theorem ybm {P:Nat→Prop} {i:Nat} (h : ∀ j,j<i→P j) (hi:P i) : ∀ j,j<i+1→P j:=by
 intro j hj
 by_cases e:j=i
 ·subst e; exact hi
 ·exact h j (by omega)
def ya4 (x:Int):Bool:=zas x (-2199023255552) 2199023255552
def zq1 (c v:List (List Int)) (lab:List Int) (g:Cfg):Bool:=zsn c v && zb2 g && decide ((lab.length:Int)=zr8 v) && lab.all ya4
theorem zze {α:Type} {f:α→List PV} {p:α→Prop} {tys:List TY} (h : ∀ cs,zbm tys cs→∃ a,f a=cs∧p a) : ∀ {es:List (List PV)},(∀ cs∈es,zbm tys cs)→∃ l:List α,l.map f=es∧∀ a∈l,p a
 | [],_=>⟨[],rfl,by simp⟩
 | e::es,hs=>by
  obtain ⟨a,ha,hp⟩:=h e (hs e (by simp))
  obtain ⟨l,hl,hq⟩:=zze h (es:=es) (fun cs hc=>hs cs (by simp [hc]))
  refine ⟨a::l,by simp [ha,hl],fun b hb => ?_⟩
  rcases List.mem_cons.mp hb with e | e
  ·subst e; exact hp
  ·exact hq b e
theorem yf1 {P:Program} {l:List TypeId} (h:(l.all fun t=>P.readableRec t && decide (t<P.types.size))=true) : ∀ t∈l,P.readableRec t=true∧t<P.types.size:=by
 intro t ht
 have:=List.all_eq_true.mp h t ht
 simpa using this
theorem ydl {p:Bool×List TY} {pvs:List PV} (h:zck (fun p c=>zhq p.1 p.2 c) [p] pvs) : ∃ a,pvs=[a]∧zhq p.1 p.2 a:=by
 cases h with
 | cons h1 t=>cases t with
  | nil=>exact ⟨_,rfl,h1⟩
def zbw (B:List Int):List (List PV):=B.map fun n=>[.v (.int .u8 n)]
@[simp] theorem yfl (B:List Int):(zbw B).length=B.length:=by simp [zbw]
theorem zzq {B:List Int} {i:Nat} {x:Int} (h:B[i]?=some x):(zbw B)[i]?=some [.v (.int .u8 x)]:=by simp [zbw,h]
def zhv (rv:List RV) (io:Nat) (G:List PV×List PV→Prop) (_:Dm rv) (_:Dm G) (e:Ex) (s:St):Prop:=(e = .normal∨e = .ret)∧∃ r,zd3 ⟨[],rv,.skip⟩ io s=some r∧G r
@[simp] theorem yl8 {rv:List RV} {io:Nat} {G:List PV×List PV→Prop} {s:St}:zhv rv io G ⟨⟩ ⟨⟩ .normal s = ∃ r,zd3 ⟨[],rv,.skip⟩ io s=some r∧G r:=by simp [zhv]
@[simp] theorem yt5 {rv:List RV} {io:Nat} {G:List PV×List PV→Prop} {s:St}:zhv rv io G ⟨⟩ ⟨⟩ .ret s = ∃ r,zd3 ⟨[],rv,.skip⟩ io s=some r∧G r:=by simp [zhv]
theorem zew {T:zbs} {f:Nat} {ms:List Bool} {rv:List RV} {ic:IC} {G:List PV×List PV→Prop} (hT:T f=some (.code ⟨ms,rv,ic⟩)) {args:List PV} {st:St} (hi:zhg args=some st) (h:W (zai T) (RUN T) ic st (zhv rv st.nx G ⟨⟩ ⟨⟩)) : ∃ r,RUN T f args=some r∧G r:=by
 unfold W at h
 obtain ⟨e,s,h1,h2,r,h3,hG⟩:=h
 refine ⟨r,z3p hT ?_,hG⟩
 unfold zmg
 rw [hi]
 simp only [Option.bind_some,h1]
 rcases h2 with rfl | rfl <;> exact h3
attribute [irreducible] zhv
theorem zrg (X:Nat):0≤IntKind.i64.wrap ((X &&& 255 % 2 ^ IntKind.i64.bits:Nat):Int)∧IntKind.i64.wrap ((X &&& 255 % 2 ^ IntKind.i64.bits:Nat):Int)≤255:=by
 have h:X &&& 255 % 2 ^ IntKind.i64.bits≤255:=Nat.le_trans Nat.and_le_right (by decide)
 rw [w64 (by omega) (by omega)]
 omega
def zfn (B:List Int) (P:PV→Prop) (r:List PV×List PV):Prop := ∃ (v:PV) (p:Nat) (s:Int),P v∧p≤B.length∧r=([v],[.bx [.sl 1 (zbw B),iv p,iv s]])
def PB (v:PV):Prop := ∃ b,v=bv b
def PM (l:List Int) (v:PV):Prop := ∃ n,v=iv n∧n∈l
def PI (v:PV):Prop := ∃ n,v=iv n∧inI n
def PN (n:Int) (v:PV):Prop := ∃ m,v=iv m∧0≤m∧(0<n→m<n)
theorem zmb (B:List Int) (p:Nat) (s:Int) (hp:p≤B.length) (hB:B.length≤9223372036854775807) : ∃ r,RUN T zfj [.bx [.sl 1 (zbw B),iv p,iv s]]=some r∧zfn B (fun v => ∃ n,v=iv n∧0≤n∧n≤255) r:=by
 refine zew zxg rfl ?_
 by_cases h:p<B.length
 ·obtain ⟨x,hx⟩ : ∃ x,B[p]?=some x:=⟨_,List.getElem?_eq_getElem h⟩
  have hx':=zzq hx
  have hw:=wS h hB
  simp [-getElem?_pos,zl7,zl8,h,hx',hw]
  exact ⟨_,p+1,_,⟨_,rfl,(zrg _).1,(zrg _).2⟩,h,rfl⟩
 ·have h' : ¬ ((p:Int)<B.length):=by omega
  simp [-getElem?_pos,zl7,zl8,h,h']
  exact ⟨_,p,_,⟨_,rfl,(zrg _).1,(zrg _).2⟩,hp,rfl⟩
theorem zbg (B:List Int) (p:Nat) (s:Int) (hp:p≤B.length) (hB:B.length≤9223372036854775807) (n:Int) (hn:n≤9223372036854775807) : ∃ r,RUN T zbd [.bx [.sl 1 (zbw B),iv p,iv s],iv n]=some r∧zfn B (PN n) r:=by
 refine zew zwq rfl ?_
 obtain ⟨r1,h1,v1,p1,s1,⟨a1,rfl,a10,a11⟩,hp1,rfl⟩:=zmb B p s hp hB
 by_cases c1:n≤0
 ·simp [-getElem?_pos,zk3,zk4,c1]
  exact ⟨_,p,s,⟨0,rfl,by omega,by omega⟩,hp,rfl⟩
 have c0 : ¬ (n=0):=by omega
 by_cases c2:n≤256
 ·simp [-getElem?_pos,zk3,zk4,c0,c1,c2,h1]
  refine ⟨_,p1,s1,⟨_,rfl,?_,fun _ => ?_⟩,hp1,rfl⟩
  ·exact Int.tmod_nonneg _ a10
  ·exact Int.tmod_lt_of_pos _ (by omega)
 obtain ⟨r2,h2,v2,p2,s2,⟨a2,rfl,a20,a21⟩,hp2,rfl⟩:=zmb B p1 s1 hp1 hB
 obtain ⟨r3,h3,v3,p3,s3,⟨a3,rfl,a30,a31⟩,hp3,rfl⟩:=zmb B p2 s2 hp2 hB
 obtain ⟨r4,h4,v4,p4,s4,⟨a4,rfl,a40,a41⟩,hp4,rfl⟩:=zmb B p3 s3 hp3 hB
 have w1:=w64 (x:=a1*16777216) (by omega) (by omega)
 have w2:=w64 (x:=a2*65536) (by omega) (by omega)
 have w3:=w64 (x:=a1*16777216+a2*65536) (by omega) (by omega)
 have w4:=w64 (x:=a3*256) (by omega) (by omega)
 have w5:=w64 (x:=a1*16777216+a2*65536+a3*256) (by omega) (by omega)
 have w6:=w64 (x:=a1*16777216+a2*65536+a3*256+a4) (by omega) (by omega)
 simp [-getElem?_pos,zk3,zk4,c0,c1,c2,h1,h2,h3,h4,w1,w2,w3,w4,w5,w6]
 refine ⟨_,p4,s4,⟨_,rfl,?_,fun _ => ?_⟩,hp4,rfl⟩
 ·exact Int.tmod_nonneg _ (by omega)
 ·exact Int.tmod_lt_of_pos _ (by omega)
theorem zmc (B:List Int) (p:Nat) (s:Int) (hp:p≤B.length) (hB:B.length≤9223372036854775807) (n:Int) (hn:n≤9223372036854775807) : ∃ r,RUN T zgx [.bx [.sl 1 (zbw B),iv p,iv s],iv n]=some r∧zfn B PB r:=by
 refine zew zwp rfl ?_
 obtain ⟨r1,h1,v1,p1,s1,⟨a1,rfl,a10,a11⟩,hp1,rfl⟩:=zbg B p s hp hB n hn
 simp [-getElem?_pos,zol,zom,h1]
 exact ⟨_,p1,s1,⟨_,rfl⟩,hp1,rfl⟩
def ybp (B:List Int) (l:List Int) (P:PV→Prop) (r:List PV×List PV):Prop := ∃ (v:PV) (p:Nat) (s:Int),P v∧p≤B.length∧r=([v],[.bx [.sl 1 (zbw B),iv p,iv s],.own 1 (zad l)])
theorem zem (B:List Int) (p:Nat) (s:Int) (hp:p≤B.length) (hB:B.length≤9223372036854775807) (l:List Int) (hl:0<l.length∧l.length≤9223372036854775807) : ∃ r,RUN T zdg [.bx [.sl 1 (zbw B),iv p,iv s],.own 1 (zad l)]=some r∧ybp B l (PM l) r:=by
 refine zew zw7 rfl ?_
 obtain ⟨r1,h1,v1,p1,s1,⟨a1,rfl,a10,a11⟩,hp1,rfl⟩:=zbg B p s hp hB l.length (by omega)
 obtain ⟨i,rfl⟩ : ∃ i:Nat,a1=i:=⟨a1.toNat,by omega⟩
 have hi:i<l.length:=by have:=a11 (by omega); omega
 obtain ⟨x,hx⟩ : ∃ x,l[i]?=some x:=⟨_,List.getElem?_eq_getElem hi⟩
 have hx':=zcw hx
 simp [-getElem?_pos,zpi,zpj,h1,hx',hi]
 exact ⟨_,p1,s1,⟨x,rfl,List.mem_of_getElem? hx⟩,hp1,rfl⟩
theorem yf6 (x:Int):inI (IntKind.i64.wrap x):=by
 unfold inI IntKind.wrap
 simp [IntKind.bits,IntKind.signed]
 omega
theorem z9l (B:List Int) (p:Nat) (s:Int) (hp:p≤B.length) (hB:B.length≤9223372036854775807) : ∃ r,RUN T zkm [.bx [.sl 1 (zbw B),iv p,iv s]]=some r∧zfn B PI r:=by
 refine zew zxh rfl ?_
 obtain ⟨r1,h1,v1,p1,s1,⟨a1,rfl,a10,a11⟩,hp1,rfl⟩:=zbg B p s hp hB 4 (by omega)
 by_cases c0:a1=0
 ·obtain ⟨r2,h2,v2,p2,s2,⟨a2,rfl,hm⟩,hp2,rfl⟩:=zem B p1 s1 hp1 hB [0,1,-1,9,10,999,1000,2147483647,-2147483648,3037000499,3037000500,9223372036854775807,-9223372036854775807,-9223372036854775808] (by simp)
  simp only [zad,List.map] at h2
  simp [-getElem?_pos,ziq,zir,h1,c0,h2]
  refine ⟨_,p2,s2,⟨a2,rfl,?_⟩,hp2,rfl⟩
  simp at hm
  unfold inI
  omega
 by_cases c1:a1=1
 ·simp [-getElem?_pos,ziq,zir,h1,c0,c1]
  refine zbl (fun n st => ∃ (i p:Nat) (x s:Int),i+n=8∧p≤B.length∧inI x∧st.V 0 = .ptr 0 none 0 0 0∧st.V 3=iv x∧st.V 4=iv i∧0<st.nx∧st.ep=0∧st.S 0=some (.box [.sl 1 (zbw B),iv p,iv s])) ?_ 8 _ ⟨0,p1,0,s1,by omega,hp1,by unfold inI; omega,by simp⟩
  clear h1
  rintro n st ⟨i,p,x,s,hi,hp,hx,v0,v3,v4,hnx,hep,hS⟩
  simp [zvu,v4]
  refine zar (fun h => ?_) (fun h => ?_)
  ·simp at h
   obtain ⟨r2,h2,v2,p2,s2,⟨a2,rfl,a20,a21⟩,hp2,rfl⟩:=zmb B p s hp hB
   have w:=w64 (x:=(i:Int)+1) (by omega) (by omega)
   simp [-getElem?_pos,v0,v3,v4,hep,hS,h2,w]
   exact za2 (n-1) (by omega) ⟨i+1,p2,_,s2,by omega,hp2,yf6 _,by simp [v0],by simp; rfl,by simp,by simp [hnx],by simp [hep],by simp⟩
  ·simp [-getElem?_pos,v3,v0,hS]
   exact ⟨_,p,s,⟨x,rfl,hx⟩,hp,rfl⟩
 by_cases c2:a1=2
 ·obtain ⟨r2,h2,v2,p2,s2,⟨a2,rfl,a20,a21⟩,hp2,rfl⟩:=zbg B p1 s1 hp1 hB 1000000 (by omega)
  have a22:=a21 (by omega)
  have w:=w64 (x:=a2-500000) (by omega) (by omega)
  simp [-getElem?_pos,ziq,zir,h1,c0,c1,c2,h2,w]
  exact ⟨_,p2,s2,⟨_,rfl,by unfold inI; omega⟩,hp2,rfl⟩
 ·obtain ⟨r2,h2,v2,p2,s2,⟨a2,rfl,a20,a21⟩,hp2,rfl⟩:=zbg B p1 s1 hp1 hB 41 (by omega)
  have a22:=a21 (by omega)
  have w:=w64 (x:=a2-20) (by omega) (by omega)
  simp [-getElem?_pos,ziq,zir,h1,c0,c1,c2,h2,w]
  exact ⟨_,p2,s2,⟨_,rfl,by unfold inI; omega⟩,hp2,rfl⟩
theorem zx8 (B:List Int) (hB:B.length≤9223372036854775807) : ∃ r,RUN T zh8 [.sl 1 (zbw B)]=some r∧∃ s:Int,r=([.bx [.sl 1 (zbw B),iv (0:Nat),iv s]],[]):=by
 refine zew zwh rfl ?_
 simp [-getElem?_pos,zn9,zoa]
 refine zbl (fun n st => ∃ (i:Nat) (x:Int),i+n=B.length∧st.V 0 = .sl 1 (zbw B)∧st.V 3=iv x∧st.V 4=iv i) ?_ B.length _ ⟨0,_,by omega,by simp,by simp; rfl,by simp⟩
 rintro n st ⟨i,x,hi,v0,v3,v4⟩
 by_cases h:i<B.length
 ·obtain ⟨b,hx⟩ : ∃ b,B[i]?=some b:=⟨_,List.getElem?_eq_getElem h⟩
  have hx':=zzq hx
  have hw:=wS h hB
  by_cases h2:(i:Int)<4000
  ·have h2':=eq_true h2
   simp [-getElem?_pos,zn8,v0,v3,v4,h,h2',hx',hw]
   exact za2 (n-1) (by omega) ⟨i+1,_,by omega,by simp [v0],by simp; rfl,by simp⟩
  ·have h2':=eq_false h2
   simp [-getElem?_pos,zn8,v0,v3,v4,h,h2']
 ·simp [-getElem?_pos,zn8,v0,v3,v4,h]
def adi (a b:Int):Int×Bool:=if -9223372036854775808≤a+b∧a+b≤9223372036854775807 then (a+b,true) else (0,false)
theorem z9m (es:List (List PV)):RUN T zjo [.sl 1 es]=some ([bv (decide ((1048576:Int)<es.length))],[]):=by
 refine zav zv3 rfl ?_
 simp [-getElem?_pos,znl,znm]
def zm7 (v:Int):Nd:=⟨-1,0,0,0,v⟩
theorem z9n (v:Int):RUN T zkt [iv v]=some ([.agg [.own 5 ([zm7 v].map nd)]],[]):=by
 refine zav zxr rfl ?_
 have hr:zaz 40 1=true:=by decide
 simp [-getElem?_pos,zqa,zqb,hr,zm7,nd]
theorem ydy {x y:Nd}:x=y↔x.f=y.f∧x.c=y.c∧x.l=y.l∧x.r=y.r∧x.v=y.v:=by
 cases x; cases y; simp
open Classical in
theorem z9o (t u:List Nd) (ht:t.length≤9223372036854775807) (hu:u.length≤9223372036854775807):RUN T zjs [.agg [.sl 5 (t.map nd)],.agg [.sl 5 (u.map nd)]]=some ([bv (decide (t=u))],[]):=by
 refine zav zv7 rfl ?_
 rcases Classical.propComplete ((t.length:Int)=u.length) with hl | hl
 case inr =>
  have:decide (t=u)=false:=by simp; rintro rfl; simp at hl
  simp [-getElem?_pos,zl2,zl3,hl,this]
 simp [-getElem?_pos,zl2,zl3,hl]
 have hlen:t.length=u.length:=by simp at hl; omega
 refine zbl (fun n st => ∃ i:Nat,i+n=t.length∧(∀ j,j<i→t[j]?=u[j]?)∧st.V 2 = .ptr 0 none 0 0 0∧st.V 3 = .ptr 1 none 0 0 0∧st.V 5=iv i∧st.S 0=some (.box [.sl 5 (t.map nd)])∧st.S 1=some (.box [.sl 5 (u.map nd)])) ?_ t.length _ ⟨0,by simp⟩
 rintro n st ⟨i,hi,hj,v2,v3,v5,hS,hS1⟩
 simp [zvc,v2,v3,v5,hS]
 refine zar (fun h => ?_) (fun h => ?_)
 ·simp at h
  obtain ⟨x,hx⟩ : ∃ x,t[i]?=some x:=⟨_,List.getElem?_eq_getElem h⟩
  obtain ⟨y,hy⟩ : ∃ y,u[i]?=some y:=⟨_,List.getElem?_eq_getElem (by omega)⟩
  have hw:=wS h ht
  have hiu:i<u.length:=by omega
  rcases Classical.propComplete (x.f=y.f∧x.c=y.c∧x.l=y.l∧x.r=y.r∧x.v=y.v) with e | e
  ·simp [-getElem?_pos,v2,v3,v5,hS,hS1,hx,hy,nd,h,hiu,hw,zlm,e]
   refine za2 (n-1) (by omega) ⟨i+1,by omega,ybm hj ?_,by simp [v2],by simp [v3],by simp,by simp [hS],by simp [hS1]⟩
   rw [hx,hy,ydy.mpr (of_eq_true e)]
  ·have:decide (t=u)=false:=by
    simp
    rintro rfl
    rw [hx] at hy
    cases hy
    simp at e
   simp [-getElem?_pos,v2,v3,v5,hS,hS1,hx,hy,nd,h,hiu,hw,zlm,e,this]
 ·simp at h
  have:t=u:=by
   apply List.ext_getElem?
   intro j
   by_cases c:j<i
   ·exact hj j c
   ·rw [List.getElem?_eq_none (by omega),List.getElem?_eq_none (by omega)]
  simp [this]
def sbi (a b:Int):Int×Bool:=if -9223372036854775808≤a-b∧a-b≤9223372036854775807 then (a-b,true) else (0,false)
def PC (n:Nat) (v:PV):Prop := ∃ c:Cfg,v=zmh c∧c.sg.length≤n
def LC (S:Nat→Option Ob) (nx:Nat) (lo:Nat) (m:List Int) (x:PV):Prop:=(x = .e0∧m=[])∨∃ o e,x = .ref o none e 0 m.length∧lo<o∧o<nx∧S o=some (.row 1 (zad m))
theorem z9p (B:List Int) (p:Nat) (s:Int) (hp:p≤B.length) (hB:B.length≤9223372036854775807) : ∃ r,RUN T zkg [.bx [.sl 1 (zbw B),iv p,iv s]]=some r∧zfn B (PC 60) r:=by
 refine zew zw8 rfl ?_
 obtain ⟨r1,h1,v1,p1,s1,⟨a1,rfl,a10,a11⟩,hp1,rfl⟩:=zbg B p s hp hB 4 (by omega)
 obtain ⟨r2,h2,v2,p2,s2,⟨a2,rfl,a20,a21⟩,hp2,rfl⟩:=zbg B p1 s1 hp1 hB 4 (by omega)
 obtain ⟨r3,h3,v3,p3,s3,⟨a3,rfl,a30,a31⟩,hp3,rfl⟩:=zbg B p2 s2 hp2 hB 5 (by omega)
 obtain ⟨r4,h4,v4,p4,s4,⟨a4,rfl,a40,a41⟩,hp4,rfl⟩:=zbg B p3 s3 hp3 hB 3 (by omega)
 obtain ⟨r5,h5,v5,p5,s5,⟨a5,rfl,a50,a51⟩,hp5,rfl⟩:=zbg B p4 s4 hp4 hB 3 (by omega)
 obtain ⟨r6,h6,v6,p6,s6,⟨a6,rfl,a60,a61⟩,hp6,rfl⟩:=zbg B p5 s5 hp5 hB 3 (by omega)
 obtain ⟨r7,h7,v7,p7,s7,⟨b1,rfl⟩,hp7,rfl⟩:=zmc B p6 s6 hp6 hB 8 (by omega)
 have w6:IntKind.i64.wrap (1+a6)=1+a6:=by have:=a61 (by omega); exact w64 (by omega) (by omega)
 have key : ∀ (k:Int) (x0 x1 x2 x3 x4 x5 x6:Int) (st:St) (p:Nat) (s:Int),0≤k→k≤60→p≤B.length→st.V 0 = .ptr 0 none 0 0 0→st.V 2 = .ptr 1 none 0 0 0→st.V 3 = .ptr 2 none 0 0 0→st.V 4=iv k→st.V 5=iv (0:Nat)→st.nx=3→st.S 0=some (.box [.sl 1 (zbw B),iv p,iv s])→st.S 1=some (.box [iv 0,iv 0,iv 0,iv 0,iv 0,iv 0,iv 0,.e0])→st.S 2=some (.box [iv x0,iv x1,iv x2,iv x3,iv x4,iv x5,iv x6,.e0])→W (zai T) (RUN T) (.loop zsj) st (Bl 0 (Nx (fun s=>W (zai T) (RUN T) (.seq (.reg [⟨some (.E 53),.load true 8 (.V 3),none⟩,⟨none,.store [0,0,0,0,0,0,0,1] (.V 2) (.E 53),none⟩]) .ret) s (zhv [.cell [0,0,0,0,0,0,0,1] 2 true] 1 (zfn B (PC 60)) ⟨⟩ ⟨⟩)) (zhv [.cell [0,0,0,0,0,0,0,1] 2 true] 1 (zfn B (PC 60)) ⟨⟩ ⟨⟩) ⟨⟩ ⟨⟩) ⟨⟩):=by
  intro k x0 x1 x2 x3 x4 x5 x6 st p s hk0 hk hp v0 v2 v3 v4 v5 hnx hS hS1 hS2
  obtain ⟨kn,rfl⟩ : ∃ n:Nat,k=n:=⟨k.toNat,by omega⟩
  refine zbl (fun n st => ∃ (i p:Nat) (s:Int) (m:List Int) (x:PV),i+n=kn∧m.length=i∧p≤B.length∧st.V 0 = .ptr 0 none 0 0 0∧st.V 2 = .ptr 1 none 0 0 0∧st.V 3 = .ptr 2 none 0 0 0∧st.V 4=iv kn∧st.V 5=iv i∧2<st.nx∧LC st.S st.nx 2 m x∧st.S 0=some (.box [.sl 1 (zbw B),iv p,iv s])∧st.S 1=some (.box [iv 0,iv 0,iv 0,iv 0,iv 0,iv 0,iv 0,.e0])∧st.S 2=some (.box [iv x0,iv x1,iv x2,iv x3,iv x4,iv x5,iv x6,x])) ?_ kn _ ⟨0,p,s,[],.e0,by omega,rfl,hp,v0,v2,v3,v4,v5,by omega,.inl ⟨rfl,rfl⟩,hS,hS1,hS2⟩
  clear v0 v2 v3 v4 v5 hnx hS hS1 hS2 hp
  rintro n st ⟨i,p,s,m,x,hi,hm,hp,v0,v2,v3,v4,v5,hnx,hx,hS,hS1,hS2⟩
  have z1:=fr hnx
  have z2:=fr (by omega:0<st.nx)
  have z3:=fr (by omega:1<st.nx)
  simp [zsj,v4,v5]
  refine zar (fun h => ?_) (fun h => ?_)
  ·simp at h
   have hw:=w64 (x:=(i:Int)+1) (by omega) (by omega)
   obtain ⟨r1,h1,v1,p1,s1,⟨a,rfl,a0,a1⟩,hp1,rfl⟩:=zbg B p s hp hB 3 (by omega)
   have a2:=a1 (by omega)
   have w:=w64 (x:=a-1) (by omega) (by omega)
   rcases hx with ⟨rfl,rfl⟩ | ⟨o,e,rfl,ho,hox,hSo⟩
   ·have hr8:zaz 8 1=true:=by decide
    have hone:[[iv (a-1)]]=zad [a-1]:=rfl
    simp [-getElem?_pos,v0,v2,v3,v4,v5,hS,hS1,hS2,z1,z2,z3,h1,w,hw,hr8]
    exact za2 (n-1) (by omega) ⟨i+1,p1,s1,[a-1],.ref (st.nx+1) none st.ep 0 1,by omega,by simp at hm; simp; omega,hp1,by simp [v0],by simp [v2],by simp [v3],by simp [v4],by simp,by simp; omega,.inr ⟨st.nx+1,st.ep,rfl,by omega,by simp,by
     have n2 : ¬ st.nx+1=2:=by omega
     simp [n2,zad]⟩,by simp [z1,z2,z3],by simp [z1,z2,z3,hS1],by simp⟩
   ·have hr8:=zd5 (n:=m.length+1) (by omega)
    have y1:=fr hox
    have y2:=fr ho
    have y3:=fr (by omega:0<o)
    have y4:=fr (by omega:1<o)
    simp [-getElem?_pos,v0,v2,v3,v4,v5,hS,hS1,hS2,hSo,z1,z2,z3,y1,y2,y3,y4,h1,w,hw,hr8,zda]
    exact za2 (n-1) (by omega) ⟨i+1,p1,s1,m++[a-1],.ref (st.nx+1) none st.ep 0 (m.length+1),by omega,by simp [hm],hp1,by simp [v0],by simp [v2],by simp [v3],by simp [v4],by simp,by simp; omega,.inr ⟨st.nx+1,st.ep,by simp,by omega,by simp,by
     have n2 : ¬ st.nx+1=2:=by omega
     simp [n2]⟩,by simp [z1,z2,z3,y1,y2,y3,y4],by simp [z1,z2,z3,y1,y2,y3,y4,hS1],by simp⟩
  ·simp at h
   rcases hx with ⟨rfl,rfl⟩ | ⟨o,e,rfl,ho,hox,hSo⟩
   ·simp [-getElem?_pos,v0,v2,v3,hS,hS1,hS2]
    exact ⟨_,p,s,⟨⟨x0,x1,x2,x3,x4,x5,x6,[]⟩,rfl,by simp⟩,hp,rfl⟩
   ·have y2:=fr ho
    have y3:=fr (by omega:0<o)
    have y4:=fr (by omega:1<o)
    have y5:1≤o:=by omega
    simp [-getElem?_pos,v0,v2,v3,hS,hS1,hS2,hSo,y2,y3,y4,y5]
    exact ⟨_,p,s,⟨⟨x0,x1,x2,x3,x4,x5,x6,m⟩,rfl,by simp only; omega⟩,hp,rfl⟩
 cases b1 with
 | true =>
  obtain ⟨r8,h8,v8,p8,s8,⟨a8,rfl,a80,a81⟩,hp8,rfl⟩:=zbg B p7 s7 hp7 hB 100 (by omega)
  obtain ⟨r9,h9,v9,p9,s9,⟨b2,rfl⟩,hp9,rfl⟩:=zmc B p8 s8 hp8 hB 4 (by omega)
  cases b2 with
  | true =>
   obtain ⟨r10,h10,v10,p10,s10,⟨a10',rfl,_,_⟩,hp10,rfl⟩:=zbg B p9 s9 hp9 hB (1+a6) (by have:=a61 (by omega); omega)
   obtain ⟨r11,h11,v11,p11,s11,⟨k,rfl,k0,k1⟩,hp11,rfl⟩:=zbg B p10 s10 hp10 hB 5 (by omega)
   have k2:=k1 (by omega)
   simp [-getElem?_pos,zim,zio,h1,h2,h3,h4,h5,h6,h7,h8,h9,h10,h11,w6]
   exact key k _ _ _ _ _ _ _ _ p11 s11 k0 (by omega) hp11 (by simp) (by simp) (by simp) (by simp) (by simp) (by simp) (by simp) (by simp) (by simp; exact ⟨rfl,rfl,rfl,rfl,rfl,rfl,rfl⟩)
  | false =>
   obtain ⟨r11,h11,v11,p11,s11,⟨k,rfl,k0,k1⟩,hp11,rfl⟩:=zbg B p9 s9 hp9 hB 5 (by omega)
   have k2:=k1 (by omega)
   simp [-getElem?_pos,zim,zio,h1,h2,h3,h4,h5,h6,h7,h8,h9,h11,w6]
   exact key k _ _ _ _ _ _ _ _ p11 s11 k0 (by omega) hp11 (by simp) (by simp) (by simp) (by simp) (by simp) (by simp) (by simp) (by simp) (by simp; exact ⟨rfl,rfl,rfl,rfl,rfl,rfl,rfl⟩)
 | false =>
  obtain ⟨r9,h9,v9,p9,s9,⟨b2,rfl⟩,hp9,rfl⟩:=zmc B p7 s7 hp7 hB 4 (by omega)
  cases b2 with
  | true =>
   obtain ⟨r10,h10,v10,p10,s10,⟨a10',rfl,_,_⟩,hp10,rfl⟩:=zbg B p9 s9 hp9 hB (1+a6) (by have:=a61 (by omega); omega)
   obtain ⟨r11,h11,v11,p11,s11,⟨k,rfl,k0,k1⟩,hp11,rfl⟩:=zbg B p10 s10 hp10 hB 5 (by omega)
   have k2:=k1 (by omega)
   simp [-getElem?_pos,zim,zio,h1,h2,h3,h4,h5,h6,h7,h9,h10,h11,w6]
   exact key k _ _ _ _ _ _ _ _ p11 s11 k0 (by omega) hp11 (by simp) (by simp) (by simp) (by simp) (by simp) (by simp) (by simp) (by simp) (by simp; exact ⟨rfl,rfl,rfl,rfl,rfl,rfl,rfl⟩)
  | false =>
   obtain ⟨r11,h11,v11,p11,s11,⟨k,rfl,k0,k1⟩,hp11,rfl⟩:=zbg B p9 s9 hp9 hB 5 (by omega)
   have k2:=k1 (by omega)
   simp [-getElem?_pos,zim,zio,h1,h2,h3,h4,h5,h6,h7,h9,h11,w6]
   exact key k _ _ _ _ _ _ _ _ p11 s11 k0 (by omega) hp11 (by simp) (by simp) (by simp) (by simp) (by simp) (by simp) (by simp) (by simp) (by simp; exact ⟨rfl,rfl,rfl,rfl,rfl,rfl,rfl⟩)
theorem z9q (B:List Int) (p:Nat) (s:Int) (hp:p≤B.length) (hB:B.length≤9223372036854775807) : ∃ r,RUN T zj0 [.bx [.sl 1 (zbw B),iv p,iv s]]=some r∧zfn B (PC 64) r:=by
 refine zew zwj rfl ?_
 obtain ⟨r1,h1,v1,p1,s1,⟨c,rfl,hc⟩,hp1,rfl⟩:=z9p B p s hp hB
 obtain ⟨r2,h2,v2,p2,s2,⟨a,rfl,a0,a1⟩,hp2,rfl⟩:=zbg B p1 s1 hp1 hB 12 (by omega)
 have hr8:zaz 8 1=true:=by decide
 by_cases c0:a=0
 ·obtain ⟨r3,h3,v,p3,s3,⟨x,rfl,hx⟩,hp3,rfl⟩:=zem B p2 s2 hp2 hB [0,1,8,9,-1] (by simp)
  simp only [zad,List.map] at h3
  simp [-getElem?_pos,ze1,ze2,hr8,h1,h2,c0,h3]
  exact ⟨_,p3,s3,⟨⟨x,c.de,c.bi,c.la,c.rw,c.nu,c.dn,c.sg⟩,rfl,by simp only; omega⟩,hp3,rfl⟩
 by_cases c1:a=1
 ·obtain ⟨r3,h3,v,p3,s3,⟨x,rfl,hx⟩,hp3,rfl⟩:=zem B p2 s2 hp2 hB [-1,0,4,5] (by simp)
  simp only [zad,List.map] at h3
  simp [-getElem?_pos,ze1,ze2,hr8,h1,h2,c0,c1,h3]
  exact ⟨_,p3,s3,⟨⟨c.ro,x,c.bi,c.la,c.rw,c.nu,c.dn,c.sg⟩,rfl,by simp only; omega⟩,hp3,rfl⟩
 by_cases c2:a=2
 ·obtain ⟨r3,h3,v,p3,s3,⟨x,rfl,hx⟩,hp3,rfl⟩:=zem B p2 s2 hp2 hB [1,2,8,9] (by simp)
  simp only [zad,List.map] at h3
  simp [-getElem?_pos,ze1,ze2,hr8,h1,h2,c0,c1,c2,h3]
  exact ⟨_,p3,s3,⟨⟨c.ro,c.de,x,c.la,c.rw,c.nu,c.dn,c.sg⟩,rfl,by simp only; omega⟩,hp3,rfl⟩
 by_cases c3:a=3
 ·obtain ⟨r3,h3,v,p3,s3,⟨x,rfl,hx⟩,hp3,rfl⟩:=zem B p2 s2 hp2 hB [0,1,100,101,9223372036854775807] (by simp)
  simp only [zad,List.map] at h3
  simp [-getElem?_pos,ze1,ze2,hr8,h1,h2,c0,c1,c2,c3,h3]
  exact ⟨_,p3,s3,⟨⟨c.ro,c.de,c.bi,x,c.rw,c.nu,c.dn,c.sg⟩,rfl,by simp only; omega⟩,hp3,rfl⟩
 by_cases c4:a=4
 ·obtain ⟨r3,h3,v,p3,s3,⟨x,rfl,hx⟩,hp3,rfl⟩:=zem B p2 s2 hp2 hB [0,1,20,21] (by simp)
  simp only [zad,List.map] at h3
  simp [-getElem?_pos,ze1,ze2,hr8,h1,h2,c0,c1,c2,c3,c4,h3]
  exact ⟨_,p3,s3,⟨⟨c.ro,c.de,c.bi,c.la,x,c.nu,c.dn,c.sg⟩,rfl,by simp only; omega⟩,hp3,rfl⟩
 by_cases c5:a=5
 ·obtain ⟨r3,h3,v,p3,s3,⟨x,rfl,hx⟩,hp3,rfl⟩:=zem B p2 s2 hp2 hB [0,1,c.dn,IntKind.i64.wrap (c.dn+1),-1] (by simp)
  simp only [zad,List.map] at h3
  simp [-getElem?_pos,ze1,ze2,hr8,h1,h2,c0,c1,c2,c3,c4,c5,h3]
  exact ⟨_,p3,s3,⟨⟨c.ro,c.de,c.bi,c.la,c.rw,x,c.dn,c.sg⟩,rfl,by simp only; omega⟩,hp3,rfl⟩
 by_cases c6:a=6
 ·obtain ⟨r3,h3,v,p3,s3,⟨x,rfl,hx⟩,hp3,rfl⟩:=zem B p2 s2 hp2 hB [0,1,1000,1001,9223372036854775807] (by simp)
  simp only [zad,List.map] at h3
  simp [-getElem?_pos,ze1,ze2,hr8,h1,h2,c0,c1,c2,c3,c4,c5,c6,h3]
  exact ⟨_,p3,s3,⟨⟨c.ro,c.de,c.bi,c.la,c.rw,c.nu,x,c.sg⟩,rfl,by simp only; omega⟩,hp3,rfl⟩
 by_cases c7:a=7
 ·obtain ⟨r3,h3,v,p3,s3,⟨x,rfl,x0,x1⟩,hp3,rfl⟩:=zbg B p2 s2 hp2 hB 5 (by omega)
  have x2:=x1 (by omega)
  have w:=w64 (x:=x-2) (by omega) (by omega)
  have hr9:=zd5 (n:=c.sg.length+1) (by omega)
  simp [-getElem?_pos,ze1,ze2,hr8,hr9,h1,h2,c0,c1,c2,c3,c4,c5,c6,c7,h3,w,zda]
  exact ⟨_,p3,s3,⟨⟨c.ro,c.de,c.bi,c.la,c.rw,c.nu,c.dn,c.sg++[x-2]⟩,rfl,by simp; omega⟩,hp3,rfl⟩
 ·simp [-getElem?_pos,ze1,ze2,hr8,h1,h2,c0,c1,c2,c3,c4,c5,c6,c7]
  exact ⟨_,p2,s2,⟨c,rfl,by omega⟩,hp2,rfl⟩
def zmd (l:List ByteArray):List (List PV):=l.map fun s=>[.v (.string s)]
@[simp] theorem yoa (l:List ByteArray):(zmd l).length=l.length:=by simp [zmd]
def ztw (q:Bool) (t:List Nd):PV:=if q then .own 5 (t.map nd) else .sl 5 (t.map nd)
@[simp] theorem yoj (q:Bool) (t:List Nd):fz (ztw q t) = .sl 5 (t.map nd):=by cases q <;> simp [ztw]
def trs (q:Bool) (M:List (List Nd)):List (List PV):=M.map fun t=>[ztw q t]
@[simp] theorem ykm (q:Bool) (M:List (List Nd)):(trs q M).length=M.length:=by simp [trs]
def rwS (q:Bool) (l:List ByteArray):PV:=if q then .own 1 (zmd l) else .sl 1 (zmd l)
@[simp] theorem yy2 (q:Bool) (l:List ByteArray):fz (rwS q l) = .sl 1 (zmd l):=by cases q <;> simp [rwS]
def zyv (q:Bool) (L:List (List ByteArray)):List (List PV):=L.map fun l=>[rwS q l]
@[simp] theorem yz6 (q:Bool) (L:List (List ByteArray)):(zyv q L).length=L.length:=by simp [zyv]
def yb0 (p:Nat→Bool) (i:Nat):List Int:=((List.range i).filter p).map fun (j:Nat)=>(j:Int)
@[simp] theorem yvm (p:Nat→Bool):yb0 p 0=[]:=rfl
structure Wd where
 n:Bool
 h:Int
 l:Int
deriving DecidableEq
abbrev uv (x:Int):PV := .v (.int .u64 x)
def wok (w:Wd):Bool:=decide (w.h<9223372036854775808) && (!w.n || decide (0<w.h) || decide (0<w.l))
def mag (w:Wd):Int:=w.h*18446744073709551616+w.l
def mkW (n:Bool) (m:Int):Wd:=⟨n && decide (0<m),m / 18446744073709551616,m % 18446744073709551616⟩
def zle:Wd:=⟨false,0,0⟩
def zuz (a b:Int):Int:=if a<b then -1 else if b<a then 1 else 0
def zyo (a b:Wd):Int:=if zuz a.h b.h=0 then zuz a.l b.l else zuz a.h b.h
def yg7 (a b:Int):Wd:=mkW (decide (a<0) != decide (b<0)) ((a.natAbs:Int)*b.natAbs)
def zlr (w:Wd):Int:=if w.n then -mag w else mag w
def z38 (a b:Wd):Wd×Bool :=
 if wok a && wok b then
  if ((zlr a+zlr b).natAbs:Int)<170141183460469231731687303715884105728 then (mkW (decide (zlr a+zlr b<0)) (zlr a+zlr b).natAbs,true) else (zle,false)
 else (zle,false)
theorem yhi {l:List Int} {i:Nat} {x:Int} (h:l[i]?=some x):l.drop i=x::l.drop (i+1):=by
 have hlt:i<l.length:=by
  rcases Nat.lt_or_ge i l.length with h' | h'
  ·exact h'
  ·rw [List.getElem?_eq_none (by omega)] at h; cases h
 rw [List.drop_eq_getElem_cons hlt]
 congr 1
 rw [List.getElem?_eq_getElem hlt] at h
 exact Option.some.inj h
def zrn (w:Wd) (k:Int):Wd×Bool:=if wok w=true∧mag w*k.natAbs<170141183460469231731687303715884105728 then (mkW (w.n != decide (k<0)) (mag w*k.natAbs),true) else (zle,false)
def zus (w:Wd):Bool:=w.n && !(decide (w.h=0) && decide (w.l=0))
def yeg (a b:Wd):Int:=if zus a=true then (if zus b=true then zyo b a else -1) else (if zus b=true then 1 else zyo a b)
theorem zt9 : ∀ (M:Nat) (q:List Int),q.Nodup→(∀ y∈q,0≤y∧y<M)→q.length≤M
 | 0,q,_,h=>by
  cases q with
  | nil=>simp
  | cons x q=>have:=h x (by simp); omega
 | M+1,q,hn,h=>by
  by_cases hm:(M:Int)∈q
  ·have h1:=zt9 M (q.erase M) (hn.erase _) (fun y hy=>by
    obtain ⟨h1,h2⟩:=(List.Nodup.mem_erase_iff hn).mp hy
    have:=h y h2
    omega)
   rw [List.length_erase_of_mem hm] at h1
   omega
  ·exact Nat.le_trans (zt9 M q hn (fun y hy=>by
    have:=h y hy
    have:y≠M:=fun e=>hm (e ▸ hy)
    omega)) (by omega)
def zvb (u:List Nd):Prop := ∀ (j:Nat) (n:Nd),u[j]?=some n→n.f ≠ -1→1≤n.l∧n.l<u.length∧1≤n.r∧n.r<u.length∧n.l≠n.r∧∀ (j':Nat) (n':Nd),u[j']?=some n'→n'.f ≠ -1→(n.l=n'.l∨n.l=n'.r∨n.r=n'.l∨n.r=n'.r)→j=j'
structure QI (u:List Nd) (q:List Int) (i:Nat):Prop where
 nd:q.Nodup
 rg : ∀ y∈q,0≤y∧y<u.length
 up : ∀ y∈q,y=0∨∃ z∈q.take i,∃ n,u[z.toNat]?=some n∧n.f ≠ -1∧(y=n.l∨y=n.r)
theorem QI.skip {u:List Nd} {q:List Int} {i:Nat} (h:QI u q i):QI u q (i+1) :=
 ⟨h.nd,h.rg,fun y hy=>by
  rcases h.up y hy with h1 | ⟨z,hz,n,h2⟩
  ·exact .inl h1
  ·exact .inr ⟨z,(List.take_subset_take_left q (Nat.le_succ i)) hz,n,h2⟩⟩
theorem QI.step {u:List Nd} (hg:zvb u) {q:List Int} {i:Nat} (h:QI u q i) {z:Int} (hz:q[i]?=some z) {n:Nd} (hn:u[z.toNat]?=some n) (hf:n.f ≠ -1):QI u (q++[n.l,n.r]) (i+1):=by
 obtain ⟨g1,g2,g3,g4,g5,g6⟩:=hg _ _ hn hf
 have hlt:i<q.length:=by
  rcases Nat.lt_or_ge i q.length with h' | h'
  ·exact h'
  ·rw [List.getElem?_eq_none (by omega)] at hz; cases hz
 have hzr:=h.rg z (List.mem_of_getElem? hz)
 have hno:z ∉ q.take i:=by
  intro hm
  have hd:=h.nd
  rw [← List.take_append_drop i q,yhi hz,List.nodup_append] at hd
  exact hd.2.2 z hm z (by simp) rfl
 have key : ∀ y∈q,(y=n.l∨y=n.r)→False:=by
  intro y hy hc
  rcases h.up y hy with h1 | ⟨z',hz',n',h2,h3,h4⟩
  ·omega
  ·have:=g6 _ _ h2 h3 (by rcases hc with c | c <;> rcases h4 with d | d <;> omega)
   have hz'r:=h.rg z' (List.mem_of_mem_take hz')
   have:z=z':=by omega
   exact hno (this ▸ hz')
 refine ⟨?_,?_,?_⟩
 ·rw [List.nodup_append]
  refine ⟨h.nd,by simp [g5],fun a ha b hb => ?_⟩
  rintro rfl
  simp at hb
  exact key a ha hb
 ·intro y hy
  rcases List.mem_append.mp hy with hy | hy
  ·exact h.rg y hy
  ·simp at hy; omega
 ·intro y hy
  rcases List.mem_append.mp hy with hy | hy
  ·rcases h.up y hy with h1 | ⟨z',hz',n',h2⟩
   ·exact .inl h1
   ·refine .inr ⟨z',?_,n',h2⟩
    rw [List.take_append_of_le_length (by omega)]
    exact (List.take_subset_take_left q (Nat.le_succ i)) hz'
  ·refine .inr ⟨z,?_,n,hn,hf,by simpa using hy⟩
   rw [List.take_append_of_le_length (by omega)]
   rw [List.take_succ,hz]; simp
theorem QI.len {u:List Nd} {q:List Int} {i:Nat} (h:QI u q i):q.length≤u.length:=zt9 _ q h.nd h.rg
theorem ztq (l:List Nd) (x:Nd):l.map nd++[[iv x.f,iv x.c,iv x.l,iv x.r,iv x.v]]=(l++[x]).map nd:=by simp [nd]
theorem zmx {l:List Nd} {i:Nat} {x:Nd} (h:l[i]?=some x):(l.map nd)[i]?=some [iv x.f,iv x.c,iv x.l,iv x.r,iv x.v]:=by simp [h,nd]
def GL (N:Nat) (r:List PV×List PV):Prop := ∃ w:List Nd,w.length≤N∧r=([.agg [.own 5 (w.map nd)]],[])
set_option maxHeartbeats 1000000 in
theorem z9r (u:List Nd) (hg:zvb u) (h0:1≤u.length) (hl:u.length≤1000) : ∃ r,RUN T zk1 [.sl 5 (u.map nd)]=some r∧GL u.length r:=by
 refine zew zx1 rfl ?_
 have hr8:zaz 8 1=true:=by decide
 simp [zqu,zqv,hr8]
 refine zbl (fun n st => ∃ (i oq eq:Nat) (q:List Int) (w:List Nd) (x:PV) (nxt:Int),i+n=u.length∧w.length=i∧QI u q i∧i≤q.length∧1≤q.length∧st.V 0 = .sl 5 (u.map nd)∧st.V 2 = .ptr 0 none 0 0 0∧st.V 3 = .ptr 1 none 0 0 0∧st.V 4 = .ref oq none eq 0 q.length∧st.V 5=iv nxt∧st.V 6=iv i∧1<oq∧oq<st.nx∧st.S oq=some (.row 1 (zad q))∧((w=[]∧x = .e0)∨∃ ow ew,ow≠oq∧1<ow∧ow<st.nx∧x = .ref ow none ew 0 w.length∧st.S ow=some (.row 5 (w.map nd)))∧st.S 0=some (.box [.e0])∧st.S 1=some (.box [x])) ?_ u.length _ ⟨0,2,0,[0],[],.e0,1,by simp,rfl,⟨by simp,by simp; omega,by simp⟩,by simp,by simp,by simp,by simp,by simp,by simp,by simp,by simp,by simp,by simp,by simp [zad],.inl ⟨rfl,rfl⟩,by simp,by simp⟩
 rintro n st ⟨i,oq,eq,q,w,x,nxt,hi,hw,hq,hiq,hq1,v0,v2,v3,v4,v5,v6,ho,hox,hSo,hx,hS,hS1⟩
 have hlen:=hq.len
 simp [zvz,v4,v6,hSo]
 obtain ⟨f1,f2,f3,f4⟩:=fr hox
 obtain ⟨g1,g2,g3,g4⟩:=fr (show 0<oq by omega)
 obtain ⟨z1,z2,z3,z4⟩:=fr (show 0<st.nx by omega)
 obtain ⟨y1,y2,y3,y4⟩:=fr (show 1<oq by omega)
 obtain ⟨x1,x2,x3,x4⟩:=fr (show 1<st.nx by omega)
 refine zar (fun h => ?_) (fun h => ?_)
 ·simp at h
  obtain ⟨z,hz⟩ : ∃ z,q[i]?=some z:=⟨_,List.getElem?_eq_getElem h⟩
  obtain ⟨hz0,hz1⟩:=hq.rg z (List.mem_of_getElem? hz)
  obtain ⟨zn,rfl⟩ : ∃ k:Nat,z=k:=⟨z.toNat,by omega⟩
  obtain ⟨m,hm⟩ : ∃ m,u[zn]?=some m:=⟨_,List.getElem?_eq_getElem (by omega)⟩
  have hz':=zcw hz
  have hm':=zmx hm
  have hws:=wS h (by omega:q.length≤9223372036854775807)
  have hr1:=zd5 (n:=q.length+2) (by omega)
  have hr2:zaz 40 (w.length+1)=true:=by simp [zaz]; omega
  have hr3:zaz 40 1=true:=by decide
  have hQ:m.f ≠ -1→QI u (q++[m.l,m.r]) (i+1):=fun hf=>hq.step hg hz (by simpa using hm) hf
  have hints:zad q++[[iv m.l],[iv m.r]]=zad (q++[m.l,m.r]):=by simp [zad]
  have hn1:=ztq w m
  have hn2:=ztq w ⟨m.f,m.c,nxt,IntKind.i64.wrap (nxt+1),m.v⟩
  simp only at hn2
  rcases Classical.propComplete (m.f = -1) with hf | hf
  ·rcases hx with ⟨rfl,rfl⟩ | ⟨ow,ew,how,ho1,ho2,rfl,hSw⟩
   ·simp [-getElem?_pos,v0,v2,v3,v4,v5,v6,hS,hS1,hSo,hz',hm',hf,hws,h,hr3,f1,f2,f3,f4,g1,g2,g3,g4,z1,z2,z3,z4,y1,y2,y3,y4,x1,x2,x3,x4]
    refine za2 (n-1) (by omega) ⟨i+1,oq,eq,q,[m],_,nxt,by omega,by simp at hw; simp; omega,hq.skip,by omega,by omega,by simp [v0],by simp [v2],by simp [v3],by simp [v4],by simp [v5],by simp,ho,by simp; omega,by simp [f1,f2,f3,f4,g1,g2,g3,g4,z1,z2,z3,z4,y1,y2,y3,y4,x1,x2,x3,x4,hSo],.inr ⟨st.nx+2,st.ep,by omega,by omega,by simp,rfl,by simp [nd]⟩,by simp [f1,f2,f3,f4,g1,g2,g3,g4,z1,z2,z3,z4,y1,y2,y3,y4,x1,x2,x3,x4,hS],by simp⟩
   ·obtain ⟨b1,b2,b3,b4⟩:=fr ho2
    obtain ⟨c1,c2,c3,c4⟩:=fr ho1
    obtain ⟨d1,d2,d3,d4⟩:=fr (show 0<ow by omega)
    have k1:(ow=oq)=False:=eq_false how
    have k2:(oq=ow)=False:=eq_false (fun e=>how e.symm)
    obtain ⟨_,_,k3,k4⟩:=fr (show ow<st.nx+1 by omega)
    obtain ⟨_,_,k5,k6⟩:=fr (show ow<st.nx+2 by omega)
    simp [-getElem?_pos,v0,v2,v3,v4,v5,v6,hS,hS1,hSo,hSw,hz',hm',hf,hws,h,hr2,hn1,f1,f2,f3,f4,g1,g2,g3,g4,z1,z2,z3,z4,y1,y2,y3,y4,x1,x2,x3,x4,b1,b2,b3,b4,c1,c2,c3,c4,d1,d2,d3,d4,k1,k2,k3,k4,k5,k6]
    refine za2 (n-1) (by omega) ⟨i+1,oq,eq,q,w++[m],_,nxt,by omega,by simp; omega,hq.skip,by omega,by omega,by simp [v0],by simp [v2],by simp [v3],by simp [v4],by simp [v5],by simp,ho,by simp; omega,by simp [f1,f2,f3,f4,g1,g2,g3,g4,z1,z2,z3,z4,y1,y2,y3,y4,x1,x2,x3,x4,b1,b2,b3,b4,c1,c2,c3,c4,d1,d2,d3,d4,k1,k2,k3,k4,k5,k6,hSo],.inr ⟨st.nx+2,st.ep,by omega,by omega,by simp,by simp; rfl,by simp⟩,by simp [f1,f2,f3,f4,g1,g2,g3,g4,z1,z2,z3,z4,y1,y2,y3,y4,x1,x2,x3,x4,b1,b2,b3,b4,c1,c2,c3,c4,d1,d2,d3,d4,k1,k2,k3,k4,k5,k6,hS],by simp⟩
  ·have hQ:=hQ (by rw [ne_eq,hf]; exact id)
   rcases hx with ⟨rfl,rfl⟩ | ⟨ow,ew,how,ho1,ho2,rfl,hSw⟩
   ·simp [-getElem?_pos,v0,v2,v3,v4,v5,v6,hS,hS1,hSo,hz',hm',hf,hws,h,hr1,hr3,hints,f1,f2,f3,f4,g1,g2,g3,g4,z1,z2,z3,z4,y1,y2,y3,y4,x1,x2,x3,x4]
    refine za2 (n-1) (by omega) ⟨i+1,st.nx+2,st.ep,q++[m.l,m.r],[⟨m.f,m.c,nxt,IntKind.i64.wrap (nxt+1),m.v⟩],_,_,by omega,by simp at hw; simp; omega,hQ,by simp; omega,by simp,by simp [v0],by simp [v2],by simp [v3],by simp,by simp; rfl,by simp,by omega,by simp,by simp [f1,f2,f3,f4,g1,g2,g3,g4,z1,z2,z3,z4,y1,y2,y3,y4,x1,x2,x3,x4],.inr ⟨st.nx+2+2,st.ep,by omega,by omega,by simp,rfl,by simp [nd]⟩,by simp [f1,f2,f3,f4,g1,g2,g3,g4,z1,z2,z3,z4,y1,y2,y3,y4,x1,x2,x3,x4,hS],by simp⟩
   ·obtain ⟨b1,b2,b3,b4⟩:=fr ho2
    obtain ⟨c1,c2,c3,c4⟩:=fr ho1
    obtain ⟨d1,d2,d3,d4⟩:=fr (show 0<ow by omega)
    have k1:(ow=oq)=False:=eq_false how
    have k2:(oq=ow)=False:=eq_false (fun e=>how e.symm)
    obtain ⟨_,_,k3,k4⟩:=fr (show ow<st.nx+1 by omega)
    obtain ⟨_,_,k5,k6⟩:=fr (show ow<st.nx+2 by omega)
    simp [-getElem?_pos,v0,v2,v3,v4,v5,v6,hS,hS1,hSo,hSw,hz',hm',hf,hws,h,hr1,hr2,hints,hn2,f1,f2,f3,f4,g1,g2,g3,g4,z1,z2,z3,z4,y1,y2,y3,y4,x1,x2,x3,x4,b1,b2,b3,b4,c1,c2,c3,c4,d1,d2,d3,d4,k1,k2,k3,k4,k5,k6]
    refine za2 (n-1) (by omega) ⟨i+1,st.nx+2,st.ep,q++[m.l,m.r],w++[⟨m.f,m.c,nxt,IntKind.i64.wrap (nxt+1),m.v⟩],_,_,by omega,by simp; omega,hQ,by simp; omega,by simp,by simp [v0],by simp [v2],by simp [v3],by simp,by simp; rfl,by simp,by omega,by simp,by simp [f1,f2,f3,f4,g1,g2,g3,g4,z1,z2,z3,z4,y1,y2,y3,y4,x1,x2,x3,x4,b1,b2,b3,b4,c1,c2,c3,c4,d1,d2,d3,d4,k1,k2,k3,k4,k5,k6],.inr ⟨st.nx+2+2,st.ep,by omega,by omega,by simp,by simp; rfl,by simp⟩,by simp [f1,f2,f3,f4,g1,g2,g3,g4,z1,z2,z3,z4,y1,y2,y3,y4,x1,x2,x3,x4,b1,b2,b3,b4,c1,c2,c3,c4,d1,d2,d3,d4,k1,k2,k3,k4,k5,k6,hS],by simp⟩
 ·simp at h
  have e1:i=q.length:=by omega
  rcases hx with ⟨rfl,rfl⟩ | ⟨ow,ew,how,ho1,ho2,rfl,hSw⟩
  ·simp at hw; omega
  ·obtain ⟨b1,b2,b3,b4⟩:=fr ho2
   obtain ⟨c1,c2,c3,c4⟩:=fr ho1
   obtain ⟨d1,d2,d3,d4⟩:=fr (show 0<ow by omega)
   simp [-getElem?_pos,v2,v3,hS,hS1,hSw,b1,b2,b3,b4,c1,c2,c3,c4,d1,d2,d3,d4]
   exact ⟨w,by omega,rfl⟩
def zgr (t:List Nd) (k:Nat) (f c a b:Int):List Nd:=t.set k ⟨f,c,t.length,t.length+1,0⟩++[⟨-1,0,0,0,a⟩,⟨-1,0,0,0,b⟩]
theorem zr4 {t:List Nd} {k:Nat} {f c a b:Int}:(zgr t k f c a b).length=t.length+2:=by simp [zgr]
theorem ztv {t:List Nd} {F:Int} (hs:Shaped t F) {k:Nat} (hk:k<t.length) {f c a b:Int} {j:Nat} {n:Nd} (h:(zgr t k f c a b)[j]?=some n) (hf:n.f ≠ -1):(j≠k∧j<t.length∧t[j]?=some n∧ztm F n j 1 t.length)∨(j=k∧n.l=t.length∧n.r=t.length+1):=by
 unfold zgr at h
 rcases Nat.lt_or_ge j t.length with hj | hj
 ·rw [List.getElem?_append_left (by simpa using hj),List.getElem?_set] at h
  by_cases e:k=j
  ·subst e
   rw [if_pos rfl,if_pos hk] at h
   cases h
   exact .inr ⟨rfl,rfl,rfl⟩
  ·rw [if_neg e] at h
   exact .inl ⟨fun e'=>e e'.symm,hj,h,hs.inner j n h hf⟩
 ·rw [List.getElem?_append_right (by simpa using hj)] at h
  simp only [List.length_set] at h
  have:j-t.length=0∨j-t.length=1∨2≤j-t.length:=by omega
  rcases this with e | e | e
  ·rw [e] at h; simp at h; subst h; exact (hf rfl).elim
  ·rw [e] at h; simp at h; subst h; exact (hf rfl).elim
  ·rw [List.getElem?_eq_none (by simpa using e)] at h; cases h
theorem ygk {t:List Nd} {F:Int} (hs:Shaped t F) {k:Nat} (hk:k<t.length) {f c a b:Int}:zvb (zgr t k f c a b):=by
 intro j n h hf
 rw [zr4]
 rcases ztv hs hk h hf with ⟨e,hj,ht,hi⟩ | ⟨rfl,hl,hr⟩
 ·have i1:=hi.lo
  have i2:=hi.r
  have i3:=hi.hi
  refine ⟨by omega,by push_cast; omega,by omega,by push_cast; omega,by omega,fun j' n' h' hf' hc => ?_⟩
  rcases ztv hs hk h' hf' with ⟨e',hj',ht',hi'⟩ | ⟨rfl,hl',hr'⟩
  ·have i1':=hi'.r
   rcases Nat.lt_trichotomy j j' with c | c | c
   ·have:=hs.ord j j' n n' c ht ht' hf hf'; omega
   ·exact c
   ·have:=hs.ord j' j n' n c ht' ht hf' hf; omega
  ·omega
 ·refine ⟨by omega,by push_cast; omega,by omega,by push_cast; omega,by omega,fun j' n' h' hf' hc => ?_⟩
  rcases ztv hs hk h' hf' with ⟨e',hj',ht',hi'⟩ | ⟨rfl,hl',hr'⟩
  ·have i2:=hi'.r
   have i3:=hi'.hi
   omega
  ·rfl
theorem zyj (l:List Nd):zbx (l.map nd)=true:=by simp [zbx,nd]
set_option maxHeartbeats 1000000 in
theorem z9s (t:List Nd) (F:Int) (hs:Shaped t F) (hl:t.length≤31) (k:Nat) (hk:k<t.length) (f c l r v a b:Int) : ∃ r',RUN T zku [.agg [.sl 5 (t.map nd)],iv k,.agg [iv f,iv c,iv l,iv r,iv v],iv a,iv b]=some r'∧GL (t.length+2) r':=by
 refine zew zxs rfl ?_
 have h1:=hs.pos
 obtain ⟨rr,hr,w,hw,rfl⟩:=z9r (zgr t k f c a b) (ygk hs hk) (by rw [zr4]; omega) (by rw [zr4]; omega)
 rw [zr4] at hw
 have hw1:=w64 (x:=(t.length:Int)+1) (by omega) (by omega)
 have hr1:zaz 40 t.length=true:=by simp [zaz]; omega
 have hr2:zaz 40 (t.length+2)=true:=by simp [zaz]; omega
 have hr3:zaz 40 2=true:=by decide
 have hr0:zaz 40 0=true:=by decide
 have hg:(t.map nd).set k [iv f,iv c,iv t.length,iv (t.length+1),iv 0]++[[iv (-1),iv 0,iv 0,iv 0,iv a],[iv (-1),iv 0,iv 0,iv 0,iv b]]=(zgr t k f c a b).map nd:=by
  unfold zgr
  rw [List.map_append,List.map_set]
  rfl
 obtain ⟨x,hx⟩ : ∃ x,t[k]?=some x:=⟨_,List.getElem?_eq_getElem hk⟩
 have hnd : ∀ y:Nd,(nd y).length=5:=fun y=>rfl
 have hnx : ∀ y:Nd,nd y=[iv y.f,iv y.c,iv y.l,iv y.r,iv y.v]:=fun y=>rfl
 have hset : ∀ y:List PV,((t.map nd).set k y).length=t.length:=by simp
 simp [-getElem?_pos,zqc,zqd,hk,hw1,hr0,hr1,hr2,hr3,hg,hr,hset,zyj,hx,hnd,hnx]
 exact ⟨w,hw,rfl⟩
def PT (N:Nat) (v:PV):Prop := ∃ t:List Nd,v = .agg [.own 5 (t.map nd)]∧t.length≤N
def PT1 (N:Nat) (v:PV):Prop := ∃ t:List Nd,v = .agg [.own 5 (t.map nd)]∧1≤t.length∧t.length≤N
theorem z4b : ∀ (t:List Nd) (i y:Int),y∈lvs t i→i≤y∧y<i+t.length
 | [],i,y,h=>by simp [lvs] at h
 | x::xs,i,y,h=>by
  simp only [lvs] at h
  have ih:=fun h=>z4b xs (i+1) y h
  simp only [List.length_cons]
  split at h
  ·rcases List.mem_cons.mp h with h | h
   ·omega
   ·have:=ih h; omega
  ·have:=ih h; omega
theorem z1n : ∀ (t:List Nd) (i:Int) (j:Nat) (x:Nd),t[j]?=some x→x.f = -1→0<(lvs t i).length
 | [],_,_,_,h,_=>by simp at h
 | y::ys,i,j,x,h,hf=>by
  simp only [lvs]
  split
  ·simp
  ·rename_i hy
   cases j with
   | zero=>simp at h; subst h; exact (hy hf).elim
   | succ j=>exact z1n ys (i+1) j x (by simpa using h) hf
theorem Shaped.leaves {t:List Nd} {F:Int} (h:Shaped t F):0<(lvs t 0).length:=by
 have hp:=h.pos
 have hx:=List.getElem?_eq_getElem (l:=t) (show t.length-1<t.length by omega)
 generalize t[t.length-1]'(by omega)=x at hx
 by_cases hf:x.f = -1
 ·exact z1n t 0 _ x hx hf
 ·have h1:=h.inner _ x hx hf
  have:=h1.lt
  have:=h1.r
  have:=h1.hi
  omega
theorem ye0 {v:Int} (F:Int) (h:zc9 v=true):Shaped [zm7 v] F:=by
 refine ⟨fun j x hx hf => ?_,fun j x hx hf => ?_,fun j j' x y hj hx hy hf => ?_,fun k h1 h2 => ?_,by simp⟩
 ·cases j with
  | zero=>simp at hx; subst hx; exact ⟨rfl,rfl,rfl,h⟩
  | succ j=>simp at hx
 ·cases j with
  | zero=>simp at hx; subst hx; exact (hf rfl).elim
  | succ j=>simp at hx
 ·cases j with
  | zero=>simp at hx; subst hx; exact (hf rfl).elim
  | succ j=>simp at hx
 ·simp at h2; omega
set_option maxHeartbeats 2000000 in
theorem z9t (B:List Int) (p:Nat) (s:Int) (hp:p≤B.length) (hB:B.length≤9223372036854775807) (F:Int) (hF:F≤9223372036854775807) : ∃ r,RUN T zkf [.bx [.sl 1 (zbw B),iv p,iv s],iv F]=some r∧zfn B (PT1 31) r:=by
 refine zew zw6 rfl ?_
 obtain ⟨r1,h1,v1,p1,s1,⟨a1,rfl,a10,a11⟩,hp1,rfl⟩:=zbg B p s hp hB 21 (by omega)
 have a12:=a11 (by omega)
 have w1:=w64 (x:=a1-10) (by omega) (by omega)
 have w2:=w64 (x:=50*(a1-10)) (by omega) (by omega)
 have h2:=z9n (50*(a1-10))
 obtain ⟨r3,h3,v3,p3,s3,⟨a3,rfl,a30,a31⟩,hp3,rfl⟩:=zbg B p1 s1 hp1 hB 6 (by omega)
 have a32:=a31 (by omega)
 obtain ⟨kn,rfl⟩ : ∃ n:Nat,a3=n:=⟨a3.toNat,by omega⟩
 have hsh:Shaped [zm7 (50*(a1-10))] F:=ye0 F (zei.mpr (by omega))
 generalize hlv:50*(a1-10)=lv at *
 simp [-getElem?_pos,zpg,zph,h1,w1,w2,hlv,h2,h3]
 refine zbl (fun n st => ∃ (i p ot et:Nat) (s:Int) (t:List Nd),i+n=kn∧p≤B.length∧Shaped t F∧t.length≤31∧st.V 0 = .ptr 0 none 0 0 0∧st.V 1=iv F∧st.V 4 = .ptr 1 none 0 0 0∧st.V 5 = .ptr 3 none 0 0 0∧st.V 6=iv kn∧st.V 7=iv i∧1<ot∧ot≠3∧ot<st.nx∧3<st.nx∧st.S 0=some (.box [.sl 1 (zbw B),iv p,iv s])∧st.S 1=some (.box [.e0])∧st.S 3=some (.box [.ref ot none et 0 t.length])∧st.S ot=some (.row 5 (t.map nd))) ?_ kn _ ⟨0,p3,2,0,s3,[zm7 lv],by simp,hp3,hsh,by simp,by simp,by simp,by simp,by simp,by simp,by simp,by simp,by simp,by simp,by simp,by simp,by simp,by simp,by simp⟩
 clear h1 h2 h3 hsh
 rintro n st ⟨i,p,ot,et,s,t,hi,hp,hsh,hl,v0,v1,v4,v5,v6,v7,ho,ho3,hox,hnx,hS,hS1,hS3,hSo⟩
 obtain ⟨f1,f2,f3,f4⟩:=fr hox
 obtain ⟨g1,g2,g3,g4⟩:=fr (show 0<ot by omega)
 obtain ⟨z1,z2,z3,z4⟩:=fr (show 0<st.nx by omega)
 obtain ⟨y1,y2,y3,y4⟩:=fr (show 1<ot by omega)
 obtain ⟨x1,x2,x3,x4⟩:=fr (show 1<st.nx by omega)
 obtain ⟨u1,u2,u3,u4⟩:=fr (show 3<st.nx by omega)
 have k1:(ot=3)=False:=eq_false ho3
 have k2:(3=ot)=False:=eq_false (fun e=>ho3 e.symm)
 simp [zvs,v6,v7]
 refine zar (fun h => ?_) (fun h => ?_)
 ·simp at h
  have hw:=w64 (x:=(i:Int)+1) (by omega) (by omega)
  have e1:=zx5 t (by omega)
  have hlv:=hsh.leaves
  have hll:=zhz t 0
  obtain ⟨r2,e2,v2,p2,s2,⟨a2,rfl,a20,a21⟩,hp2,rfl⟩:=zbg B p s hp hB (lvs t 0).length (by omega)
  obtain ⟨j,rfl⟩ : ∃ n:Nat,a2=n:=⟨a2.toNat,by omega⟩
  have hj:j<(lvs t 0).length:=by have:=a21 (by omega); omega
  obtain ⟨y,hy⟩ : ∃ y,(lvs t 0)[j]?=some y:=⟨_,List.getElem?_eq_getElem hj⟩
  have hy':=zcw hy
  obtain ⟨b0,b1⟩:=z4b t 0 y (List.mem_of_getElem? hy)
  obtain ⟨k,rfl⟩ : ∃ n:Nat,y=n:=⟨y.toNat,by omega⟩
  obtain ⟨r3,e3,v3,p3,s3,⟨a3,rfl,a30,a31⟩,hp3,rfl⟩:=zbg B p2 s2 hp2 hB F hF
  obtain ⟨r4,e4,v4',p4,s4,⟨a4,rfl,a40,a41⟩,hp4,rfl⟩:=zbg B p3 s3 hp3 hB 9 (by omega)
  obtain ⟨r5,e5,v5',p5,s5,⟨a5,rfl,a50,a51⟩,hp5,rfl⟩:=zbg B p4 s4 hp4 hB 2001 (by omega)
  obtain ⟨r6,e6,v6',p6,s6,⟨a6,rfl,a60,a61⟩,hp6,rfl⟩:=zbg B p5 s5 hp5 hB 2001 (by omega)
  have a42:=a41 (by omega)
  have a52:=a51 (by omega)
  have a62:=a61 (by omega)
  have w4:=w64 (x:=a4-4) (by omega) (by omega)
  have w4':=w64 (x:=500*(a4-4)) (by omega) (by omega)
  have w5:=w64 (x:=a5-1000) (by omega) (by omega)
  have w6:=w64 (x:=a6-1000) (by omega) (by omega)
  obtain ⟨r7,e7,w,hw7,rfl⟩:=z9s t F hsh hl k (by omega) a3 (500*(a4-4)) 0 0 0 (a5-1000) (a6-1000)
  have e8:=zx7 w F (by omega)
  cases hb:zdl w F with
  | true =>
   rw [hb] at e8
   simp [-getElem?_pos,v0,v1,v4,v5,v6,v7,hS,hS1,hS3,hSo,e1,e2,hy',hj,e3,e4,e5,e6,w4,w4',w5,w6,e7,e8,hw,f1,f2,f3,f4,g1,g2,g3,g4,z1,z2,z3,z4,y1,y2,y3,y4,x1,x2,x3,x4,u1,u2,u3,u4,k1,k2]
   unfold zdl at hb
   simp only [Bool.and_eq_true] at hb
   have hwl:=zei.mp hb.1.1.1.2
   exact za2 (n-1) (by omega) ⟨i+1,p6,st.nx+1,st.ep,s6,w,by omega,hp6,zq5 hb.1.1.2,by omega,by simp [v0],by simp [v1],by simp [v4],by simp [v5],by simp [v6],by simp,by omega,by omega,by simp,by simp; omega,by simp [f1,f2,f3,f4,g1,g2,g3,g4,z1,z2,z3,z4,y1,y2,y3,y4,x1,x2,x3,x4,u1,u2,u3,u4,k1,k2],by simp [f1,f2,f3,f4,g1,g2,g3,g4,z1,z2,z3,z4,y1,y2,y3,y4,x1,x2,x3,x4,u1,u2,u3,u4,k1,k2,hS1],by simp,by simp [f1,f2,f3,f4,g1,g2,g3,g4,z1,z2,z3,z4,y1,y2,y3,y4,x1,x2,x3,x4,u1,u2,u3,u4,k1,k2]⟩
  | false =>
   rw [hb] at e8
   simp [-getElem?_pos,v0,v1,v4,v5,v6,v7,hS,hS1,hS3,hSo,e1,e2,hy',hj,e3,e4,e5,e6,w4,w4',w5,w6,e7,e8,hw,f1,f2,f3,f4,g1,g2,g3,g4,z1,z2,z3,z4,y1,y2,y3,y4,x1,x2,x3,x4,u1,u2,u3,u4,k1,k2]
   exact za2 (n-1) (by omega) ⟨i+1,p6,ot,et,s6,t,by omega,hp6,hsh,hl,by simp [v0],by simp [v1],by simp [v4],by simp [v5],by simp [v6],by simp,ho,ho3,by simp; omega,by simp; omega,by simp [f1,f2,f3,f4,g1,g2,g3,g4,z1,z2,z3,z4,y1,y2,y3,y4,x1,x2,x3,x4,u1,u2,u3,u4,k1,k2],by simp [f1,f2,f3,f4,g1,g2,g3,g4,z1,z2,z3,z4,y1,y2,y3,y4,x1,x2,x3,x4,u1,u2,u3,u4,k1,k2,hS1],by simp [f1,f2,f3,f4,g1,g2,g3,g4,z1,z2,z3,z4,y1,y2,y3,y4,x1,x2,x3,x4,u1,u2,u3,u4,k1,k2,hS3],by simp [f1,f2,f3,f4,g1,g2,g3,g4,z1,z2,z3,z4,y1,y2,y3,y4,x1,x2,x3,x4,u1,u2,u3,u4,k1,k2,hSo]⟩
 ·simp at h
  have ho1:1≤ot:=by omega
  simp [-getElem?_pos,v0,v4,v5,ho1,hS,hS1,hS3,hSo,f1,f2,f3,f4,g1,g2,g3,g4,z1,z2,z3,z4,y1,y2,y3,y4,x1,x2,x3,x4,u1,u2,u3,u4,k1,k2]
  exact ⟨_,p,s,⟨t,rfl,hsh.pos,hl⟩,hp,rfl⟩
theorem ziz (t:List Nd) (k:Nat) (f c l r v:Int):(t.map nd).set k [iv f,iv c,iv l,iv r,iv v]=(t.set k ⟨f,c,l,r,v⟩).map nd:=by
 rw [List.map_set]; rfl
set_option maxHeartbeats 2000000 in
theorem zx9 (B:List Int) (p:Nat) (s:Int) (hp:p≤B.length) (hB:B.length≤9223372036854775807) : ∃ r,RUN T zh9 [.bx [.sl 1 (zbw B),iv p,iv s]]=some r∧zfn B (PT 32) r:=by
 refine zew zwi rfl ?_
 obtain ⟨r1,h1,v1,p1,s1,⟨a1,rfl,a10,a11⟩,hp1,rfl⟩:=zbg B p s hp hB 3 (by omega)
 have a12:=a11 (by omega)
 have w1:=w64 (x:=1+a1) (by omega) (by omega)
 obtain ⟨r2,h2,v2,p2,s2,⟨t,rfl,ht1,ht⟩,hp2,rfl⟩:=z9t B p1 s1 hp1 hB (1+a1) (by omega)
 obtain ⟨r3,h3,v3,p3,s3,⟨a3,rfl,a30,a31⟩,hp3,rfl⟩:=zbg B p2 s2 hp2 hB t.length (by omega)
 have a32:=a31 (by omega)
 obtain ⟨k,rfl⟩ : ∃ n:Nat,a3=n:=⟨a3.toNat,by omega⟩
 have hk:k<t.length:=by omega
 obtain ⟨r4,h4,v4,p4,s4,⟨a4,rfl,a40,a41⟩,hp4,rfl⟩:=zbg B p3 s3 hp3 hB 14 (by omega)
 obtain ⟨x,hx⟩ : ∃ x,t[k]?=some x:=⟨_,List.getElem?_eq_getElem hk⟩
 have hnd : ∀ y:Nd,nd y=[iv y.f,iv y.c,iv y.l,iv y.r,iv y.v]:=fun y=>rfl
 have hr5:zaz 8 5=true:=by decide
 have hr6:zaz 8 6=true:=by decide
 have hr1:zaz 40 1=true:=by decide
 have hrt:zaz 40 (t.length+1)=true:=by simp [zaz]; omega
 by_cases c0:a4=0
 ·obtain ⟨r5,h5,v5,p5,s5,⟨y,rfl,hy⟩,hp5,rfl⟩:=zem B p4 s4 hp4 hB [-1,0,1,4,-2,9223372036854775807] (by simp)
  simp only [zad,List.map] at h5
  simp [-getElem?_pos,zfk,zfl,h1,w1,h2,h3,h4,c0,h5,hr5,hr6,hk,hx,hnd]
  exact ⟨_,p5,s5,⟨t.set k ⟨y,x.c,x.l,x.r,x.v⟩,by rw [← ziz],by simp; omega⟩,hp5,rfl⟩
 by_cases c1:a4=1
 ·obtain ⟨r5,h5,v5,p5,s5,⟨y,rfl,hy⟩,hp5,rfl⟩:=zem B p4 s4 hp4 hB [0,1,2147483648,-2147483648,500] (by simp)
  simp only [zad,List.map] at h5
  simp [-getElem?_pos,zfk,zfl,h1,w1,h2,h3,h4,c0,c1,h5,hr5,hr6,hk,hx,hnd]
  exact ⟨_,p5,s5,⟨t.set k ⟨x.f,y,x.l,x.r,x.v⟩,by rw [← ziz],by simp; omega⟩,hp5,rfl⟩
 by_cases c2:a4=2
 ·obtain ⟨r5,h5,v5,p5,s5,⟨y,rfl,hy⟩,hp5,rfl⟩:=zem B p4 s4 hp4 hB [0,1,2,-1,40,(k:Int)] (by simp)
  simp only [zad,List.map] at h5
  simp [-getElem?_pos,zfk,zfl,h1,w1,h2,h3,h4,c0,c1,c2,h5,hr5,hr6,hk,hx,hnd]
  exact ⟨_,p5,s5,⟨t.set k ⟨x.f,x.c,y,x.r,x.v⟩,by rw [← ziz],by simp; omega⟩,hp5,rfl⟩
 by_cases c3:a4=3
 ·obtain ⟨r5,h5,v5,p5,s5,⟨y,rfl,hy⟩,hp5,rfl⟩:=zem B p4 s4 hp4 hB [0,1,2,-1,40,(k:Int)] (by simp)
  simp only [zad,List.map] at h5
  simp [-getElem?_pos,zfk,zfl,h1,w1,h2,h3,h4,c0,c1,c2,c3,h5,hr5,hr6,hk,hx,hnd]
  exact ⟨_,p5,s5,⟨t.set k ⟨x.f,x.c,x.l,y,x.v⟩,by rw [← ziz],by simp; omega⟩,hp5,rfl⟩
 by_cases c4:a4=4
 ·obtain ⟨r5,h5,v5,p5,s5,⟨y,rfl,hy⟩,hp5,rfl⟩:=zem B p4 s4 hp4 hB [0,1,1099511627776,1099511627777,-1099511627777] (by simp)
  simp only [zad,List.map] at h5
  simp [-getElem?_pos,zfk,zfl,h1,w1,h2,h3,h4,c0,c1,c2,c3,c4,h5,hr5,hr6,hk,hx,hnd]
  exact ⟨_,p5,s5,⟨t.set k ⟨x.f,x.c,x.l,x.r,y⟩,by rw [← ziz],by simp; omega⟩,hp5,rfl⟩
 by_cases c5:a4=5
 ·have e:=ztq t ⟨-1,0,0,0,0⟩
  simp only at e
  simp [-getElem?_pos,zfk,zfl,h1,w1,h2,h3,h4,c0,c1,c2,c3,c4,c5,hr1,hrt]
  exact ⟨_,p4,s4,⟨t++[⟨-1,0,0,0,0⟩],by rw [← e],by simp; omega⟩,hp4,rfl⟩
 by_cases c6:a4=6
 ·have hk':k≤t.length:=by omega
  have hkn : ¬ k=t.length:=by omega
  simp [-getElem?_pos,hk',hkn,zfk,zfl,h1,w1,h2,h3,h4,c0,c1,c2,c3,c4,c5,c6]
  exact ⟨_,p4,s4,⟨t.take k,by rw [List.map_take],by simp; omega⟩,hp4,rfl⟩
 ·simp [-getElem?_pos,zfk,zfl,h1,w1,h2,h3,h4,c0,c1,c2,c3,c4,c5,c6]
  exact ⟨_,p4,s4,⟨t,rfl,by omega⟩,hp4,rfl⟩
theorem z9u (l:List Int) (hl:l.length≤9223372036854775807):RUN T zjt [.sl 1 (zad l),.sl 1 (zad l)]=some ([bv true],[]):=by
 refine zav zv8 rfl ?_
 simp [znu,znv]
 refine zbl (fun n st => ∃ i:Nat,i+n=l.length∧st.V 0 = .sl 1 (zad l)∧st.V 1 = .sl 1 (zad l)∧st.V 5=iv i) ?_ l.length _ ⟨0,by simp⟩
 rintro n st ⟨i,hi,v0,v1,v5⟩
 simp [zvd,v0,v5]
 refine zar (fun h => ?_) (fun h => ?_)
 ·simp at h
  obtain ⟨x,hx⟩ : ∃ x,l[i]?=some x:=⟨_,List.getElem?_eq_getElem h⟩
  have hx':=zcw hx
  have hw:=wS h hl
  simp [-getElem?_pos,v0,v1,v5,h,hx',hw]
  exact za2 (n-1) (by omega) ⟨i+1,by omega,by simp [v0],by simp [v1],by simp⟩
 ·simp
def PRw (n:Nat) (v:PV):Prop := ∃ l:List Int,v = .own 1 (zad l)∧l.length=n∧∀ x∈l,inI x
set_option maxHeartbeats 1000000 in
theorem zya (B:List Int) (p:Nat) (s:Int) (hp:p≤B.length) (hB:B.length≤9223372036854775807) (k:Nat) (hk:k≤64) : ∃ r,RUN T zj5 [.bx [.sl 1 (zbw B),iv p,iv s],iv k]=some r∧zfn B (PRw k) r:=by
 refine zew zwr rfl ?_
 have hr0:zaz 8 0=true:=by decide
 have hr1:zaz 8 1=true:=by decide
 simp [-getElem?_pos,zon,zoo,hr0]
 refine zbl (fun n st => ∃ (i p o e:Nat) (s:Int) (m:List Int),i+n=k∧m.length=i∧(∀ n∈m,inI n)∧p≤B.length∧st.V 0 = .ptr 0 none 0 0 0∧st.V 1=iv k∧st.V 5 = .ref o none e 0 m.length∧st.V 6=iv i∧0<o∧o<st.nx∧st.S 0=some (.box [.sl 1 (zbw B),iv p,iv s])∧st.S o=some (.row 1 (zad m))) ?_ k _ ⟨0,p,1,0,s,[],by omega,rfl,by simp,hp,by simp,by simp,by simp,by simp,by omega,by simp,by simp,by simp [zad]⟩
 clear hp
 rintro n st ⟨i,p,o,e,s,m,hi,hm,hmi,hp,v0,v1,v5,v6,ho,hox,hS,hSo⟩
 simp [zvi,v1,v6]
 obtain ⟨f1,f2,f3,f4⟩:=fr hox
 obtain ⟨g1,g2,g3,g4⟩:=fr ho
 obtain ⟨z1,z2,z3,z4⟩:=fr (show 0<st.nx by omega)
 refine zar (fun h => ?_) (fun h => ?_)
 ·simp at h
  have hw:=wS h (by omega:k≤9223372036854775807)
  have hr8:=zd5 (n:=m.length+1) (by omega)
  obtain ⟨r1,h1,v1',p1,s1,⟨a1,rfl⟩,hp1,rfl⟩:=zmc B p s hp hB 12 (by omega)
  cases a1 with
  | true =>
   obtain ⟨r2,h2,v2,p2,s2,⟨x,rfl,hx⟩,hp2,rfl⟩:=z9l B p1 s1 hp1 hB
   simp [-getElem?_pos,v0,v1,v5,v6,hS,hSo,h,h1,h2,hr1,hr8,hw,zda,f1,f2,f3,f4,g1,g2,g3,g4,z1,z2,z3,z4]
   refine za2 (n-1) (by omega) ⟨i+1,p2,st.nx+1,st.ep,s2,m++[x],by omega,by simp [hm],?_,hp2,by simp [v0],by simp [v1],by simp,by simp,by omega,by simp,by simp [f1,f2,f3,f4,g1,g2,g3,g4,z1,z2,z3,z4],by simp⟩
   intro y hy
   rcases List.mem_append.mp hy with hy | hy
   ·exact hmi y hy
   ·simp at hy; subst hy; exact hx
  | false =>
   obtain ⟨r2,h2,v2,p2,s2,⟨x,rfl,x0,x1⟩,hp2,rfl⟩:=zbg B p1 s1 hp1 hB 11 (by omega)
   obtain ⟨r3,h3,v3,p3,s3,⟨y,rfl,y0,y1⟩,hp3,rfl⟩:=zbg B p2 s2 hp2 hB 2 (by omega)
   have x2:=x1 (by omega)
   have y2:=y1 (by omega)
   have w1:=w64 (x:=x-5) (by omega) (by omega)
   have w2:=w64 (x:=500*(x-5)) (by omega) (by omega)
   have w3:=w64 (x:=500*(x-5)+y) (by omega) (by omega)
   simp [-getElem?_pos,v0,v1,v5,v6,hS,hSo,h,h1,h2,h3,w1,w2,w3,hr1,hr8,hw,zda,f1,f2,f3,f4,g1,g2,g3,g4,z1,z2,z3,z4]
   refine za2 (n-1) (by omega) ⟨i+1,p3,st.nx+1,st.ep,s3,m++[500*(x-5)+y],by omega,by simp [hm],?_,hp3,by simp [v0],by simp [v1],by simp,by simp,by omega,by simp,by simp [f1,f2,f3,f4,g1,g2,g3,g4,z1,z2,z3,z4],by simp⟩
   intro z hz
   rcases List.mem_append.mp hz with hz | hz
   ·exact hmi z hz
   ·simp at hz; subst hz; unfold inI; omega
 ·simp at h
  have ho1:1≤o:=by omega
  simp [-getElem?_pos,v0,v5,hS,hSo,ho1,f1,f2,f3,f4,g1,g2,g3,g4]
  exact ⟨_,p,s,⟨m,rfl,by omega,hmi⟩,hp,rfl⟩
def pos (x:Int) (l:List Int):Nat→Nat
 | 0=>0
 | k+1=>if x<l.getD k 0 then pos x l k else k+1
def ins (l:List Int) (x:Int):List Int:=l.take (pos x l l.length)++x::l.drop (pos x l l.length)
def zbt (l:List Int):List Int:=l.foldl ins []
theorem zs7 (x:Int) (l:List Int) : ∀ k,pos x l k≤k
 | 0=>by simp [pos]
 | k+1=>by
  have:=zs7 x l k
  simp only [pos]; split <;> omega
theorem ycx (l:List Int) (x:Int):(ins l x).length=l.length+1:=by
 have:=zs7 x l l.length
 unfold ins
 simp; omega
theorem yhg {l:List Int} {i:Nat} {x:Int} (h:l[i]?=some x):(l.take (i+1)).foldl ins []=ins ((l.take i).foldl ins []) x:=by
 rw [List.take_succ,h]
 simp [List.foldl_append]
theorem ye2 (l:List Int) : ∀ a:List Int,(l.foldl ins a).length=a.length+l.length:=by
 induction l with
 | nil=>intro a; rfl
 | cons x l ih=>intro a; simp only [List.foldl_cons,ih,ycx,List.length_cons]; omega
theorem ye1 (a:List Int) (p:Nat):List.take (a.length-p) (List.drop p (zad a))=zad (a.drop p):=by
 rw [List.take_of_length_le (by simp)]
 simp [zad,List.map_drop]
theorem yfx (a:List Int) (p:Nat) (h:p≤a.length):(if p=a.length then zad a else List.take p (zad a))=zad (a.take p):=by
 split
 ·rename_i e; subst e; rw [List.take_length]
 ·simp [zad,List.map_take]
theorem zst (x:Int) (l:List Int) (k:Nat):pos x l (k+1)=if x<l.getD k 0 then pos x l k else k+1:=rfl
def zc3 (x:Int) (l:List Int) (k P:Nat):Prop:=pos x l k=P
theorem zc3.on {x y:Int} {l:List Int} {k P:Nat} (h:zc3 x l (k+1) P) (hy:l[k]?=some y) (hc:x<y):zc3 x l k P:=by
 unfold zc3 at *
 rw [zst] at h
 simp only [List.getD,hy,Option.getD_some,if_pos hc] at h
 exact h
theorem zc3.off {x y:Int} {l:List Int} {k P:Nat} (h:zc3 x l (k+1) P) (hy:l[k]?=some y) (hc : ¬ x<y):k+1=P:=by
 unfold zc3 at *
 rw [zst] at h
 simp only [List.getD,hy,Option.getD_some,if_neg hc] at h
 exact h
theorem zc3.ex (x:Int) (l:List Int) (k:Nat) : ∃ P,zc3 x l k P:=⟨_,rfl⟩
theorem zc3.z {x:Int} {l:List Int} {P:Nat} (h:zc3 x l 0 P):0=P:=h
theorem zq2 {x:Int} {l:List Int} {P:Nat} (h:zc3 x l l.length P):ins l x=l.take P++x::l.drop P:=by unfold zc3 at h; unfold ins; rw [h]
attribute [irreducible] pos ins zc3
set_option maxHeartbeats 800000 in
theorem z9v (l:List Int) (hl:l.length≤1048576):RUN T zkc [.sl 1 (zad l)]=some ([.own 1 (zad (zbt l))],[]):=by
 refine zav zw3 rfl ?_
 have hr0:zaz 8 0=true:=by decide
 simp [-getElem?_pos,zpc,zpd,hr0]
 refine zbl (fun n st => ∃ (i o e:Nat) (a:List Int),i+n=l.length∧a=(l.take i).foldl ins []∧a.length=i∧st.V 0 = .sl 1 (zad l)∧st.V 3 = .ref o none e 0 a.length∧st.V 4=iv i∧o<st.nx∧st.S o=some (.row 1 (zad a))) ?_ l.length _ ⟨0,0,0,[],by simp [zad]⟩
 rintro n st ⟨i,o,e,a,hi,ha,hal,v0,v3,v4,hox,hSo⟩
 simp [zvr,v0,v4]
 obtain ⟨f1,f2,f3,f4⟩:=fr hox
 refine zar (fun h => ?_) (fun h => ?_)
 ·simp at h
  obtain ⟨x,hx⟩ : ∃ x,l[i]?=some x:=⟨_,List.getElem?_eq_getElem h⟩
  have hx':=zcw hx
  have hws:=wS h (by omega:l.length≤9223372036854775807)
  have hft:=yhg hx
  rw [← ha] at hft
  obtain ⟨P,hP⟩ : ∃ P,zc3 x a a.length P:=zc3.ex x a a.length
  simp [-getElem?_pos,v0,v3,v4,hSo]
  refine zbl (fun n' s => ∃ j:Nat,n'=j∧j≤a.length∧zc3 x a j P∧s.V 0 = .sl 1 (zad l)∧s.V 3 = .ref o none e 0 a.length∧s.V 4=iv i∧s.V 5=iv j∧s.nx=st.nx∧s.S o=some (.row 1 (zad a))) ?_ a.length _ ⟨a.length,by omega,by omega,hP,by simp [v0],by simp [v3],by simp [v4],by simp,by simp,by simp [hSo]⟩
  rintro n' s ⟨j,hjn,hj,hp,u0,u3,u4,u5,unx,hSo'⟩
  clear v0 v3 v4 hSo
  obtain ⟨g1,g2,g3,g4⟩:=fr (show o<s.nx by omega)
  obtain ⟨_,_,g5,g6⟩:=fr (show o<s.nx+1 by omega)
  obtain ⟨_,_,g7,g8⟩:=fr (show o<s.nx+2 by omega)
  have hcr : ∀ c:Nat,c≤a.length+1→zaz 8 c=true:=fun c hc=>zd5 (by omega)
  have hr1:zaz 8 1=true:=by decide
  by_cases h0:0<j
  ·obtain ⟨q,rfl⟩ : ∃ q:Nat,j=q+1:=⟨j-1,by omega⟩
   have hw:=w64 (x:=(q:Int)) (by omega) (by omega)
   obtain ⟨y,hy⟩ : ∃ y,a[q]?=some y:=⟨_,List.getElem?_eq_getElem (by omega)⟩
   have hy':=zcw hy
   have hqa:q<a.length:=by omega
   by_cases hc:x<y
   ·have hp':=hp.on hy hc
    simp [-getElem?_pos,zpb,u0,u3,u4,u5,hSo',hx',h,h0,hw,hy',hqa,hc]
    exact za2 q (by omega) ⟨q,rfl,by omega,hp',by simp [u0],by simp [u3],by simp [u4],by simp,by simp [unx],by simp [hSo']⟩
   ·have hp':=hp.off hy hc
    have hk1:=hcr (q+1) (by omega)
    have hk2:=zd5 (n:=q+1+1) (by omega)
    have hk3:=hcr (a.length+1) (by omega)
    have hcut:=yfx a (q+1) (by omega)
    have hal2 : ∀ b:List Int,zbx (zad b)=true:=z2g
    have hmin:(a.take (q+1)).length=q+1:=by simp; omega
    have hdr:=ye1 a (q+1)
    have hmd:(a.drop (q+1)).length=a.length-(q+1):=by simp
    have hsn:=zda (a.take (q+1)) x
    have hap:=ybj (a.take (q+1)++[x]) (a.drop (q+1))
    have hk4:=zd5 (n:=q+2+(a.length-(q+1))) (by omega)
    have hin:=zq2 hP
    rw [← hp'] at hin
    have hlen2:q+2+(a.length-(q+1))=a.length+1:=by omega
    simp [-getElem?_pos,zpb,u0,u3,u4,u5,hSo',hx',h,h0,hw,hy',hqa,hc,hj,g1,g2,g3,g4,g5,g6,g7,g8,hr1,hk1,hk2,hk3,hcut,hal2,hmin,hdr,hmd,hsn,hap,hk4,hlen2]
    refine za2 (n-1) (by omega) ⟨i+1,s.nx+2+2,s.ep,a.take (q+1)++x::a.drop (q+1),by omega,by rw [hft,hin],by simp; omega,by simp [u0],by simp; omega,by simp [hws],by simp,by simp⟩
  ·have h0':j=0:=by omega
   subst h0'
   have hp':=hp.z
   have hk0:=hcr 0 (by omega)
   have hk3:=hcr (a.length+1) (by omega)
   have hcut:(if 0=a.length then zad a else [])=([]:List (List PV)):=by
    split
    ·rename_i e
     have:a=[]:=List.length_eq_zero_iff.mp e.symm
     subst this; rfl
    ·rfl
   have hal2 : ∀ b:List Int,zbx (zad b)=true:=z2g
   have hin:=zq2 hP
   rw [← hp'] at hin
   have hcons:[iv x]::zad a=zad (x::a):=rfl
   have hk4:=hcr (1+a.length) (by omega)
   have hk5:=hcr (a.length+1) (by omega)
   simp [-getElem?_pos,zpb,u0,u3,u4,u5,hSo',hx',h,g1,g2,g3,g4,g5,g6,g7,g8,hr1,hk0,hk3,hcut,hal2,hcons,hk4,hk5]
   refine za2 (n-1) (by omega) ⟨i+1,s.nx+2+2,s.ep,x::a,by omega,by rw [hft,hin]; simp,by (try simp); try omega,by simp [u0],by (try simp); try omega,by simp [hws],by simp,by simp⟩
 ·simp at h
  have e1:i=l.length:=by omega
  rw [e1,List.take_length] at ha
  simp [-getElem?_pos,v3,hSo,zbt,← ha]
theorem z9w (B:List Int) (hB:B.length≤9223372036854775807) : ∃ (t:List Nd) (row:List Int),t.length≤32∧row.length≤4∧(∀ x∈row,inI x)∧RUN T zju [.sl 1 (zbw B)]=some ([.agg [.own 5 (t.map nd)],.own 1 (zad row)],[]):=by
 obtain ⟨r,h,s,rfl⟩:=zx8 B hB
 simp only [Int.natCast_zero] at h
 obtain ⟨r2,h2,v2,p2,s2,⟨t,rfl,ht⟩,hp2,rfl⟩:=zx9 B 0 s (by omega) hB
 simp only [Int.natCast_zero] at h2
 obtain ⟨r3,h3,v3,p3,s3,⟨b3,rfl⟩,hp3,rfl⟩:=zmc B p2 s2 hp2 hB 8 (by omega)
 cases b3 with
 | true =>
  obtain ⟨r4,h4,v4,p4,s4,⟨a4,rfl,a40,a41⟩,hp4,rfl⟩:=zbg B p3 s3 hp3 hB 4 (by omega)
  have a42:=a41 (by omega)
  obtain ⟨k,rfl⟩ : ∃ n:Nat,a4=n:=⟨a4.toNat,by omega⟩
  obtain ⟨r5,h5,v5,p5,s5,⟨row,rfl,hr,hri⟩,hp5,rfl⟩:=zya B p4 s4 hp4 hB k (by omega)
  refine ⟨t,row,ht,by omega,hri,zav zsk rfl ?_⟩
  simp [-getElem?_pos,zl4,zl5,h,h2,h3,h4,h5]
 | false =>
  obtain ⟨r5,h5,v5,p5,s5,⟨row,rfl,hr,hri⟩,hp5,rfl⟩:=zya B p3 s3 hp3 hB 3 (by omega)
  simp only [Int.cast_ofNat_Int] at h5
  refine ⟨t,row,ht,by omega,hri,zav zsk rfl ?_⟩
  simp [-getElem?_pos,zl4,zl5,h,h2,h3,h5]
theorem zry : ∀ (t:List Nd) (i y:Int),y∈lvs t i↔∃ (j:Nat) (z:Nd),t[j]?=some z∧z.f = -1∧y=i+j
 | [],i,y=>by simp [lvs]
 | x::xs,i,y=>by
  have ih:=zry xs (i+1) y
  have step:(∃ (j:Nat) (z:Nd),(x::xs)[j]?=some z∧z.f = -1∧y=i+j)↔(x.f = -1∧y=i)∨∃ (j:Nat) (z:Nd),xs[j]?=some z∧z.f = -1∧y=i+1+j:=by
   constructor
   ·rintro ⟨j,z,h1,h2,h3⟩
    cases j with
    | zero=>simp at h1; subst h1; exact .inl ⟨h2,by omega⟩
    | succ j=>exact .inr ⟨j,z,by simpa using h1,h2,by omega⟩
   ·rintro (⟨h1,h2⟩ | ⟨j,z,h1,h2,h3⟩)
    ·exact ⟨0,x,rfl,h1,by omega⟩
    ·exact ⟨j+1,z,by simpa using h1,h2,by omega⟩
  rw [step,← ih]
  simp only [lvs]
  split
  ·rename_i hf; simp [hf]
  ·rename_i hf; simp [hf]
structure Sl where
 n:Int
 g:Int
deriving DecidableEq
def slc (x:Sl):List PV:=[iv x.n,iv x.g]
def zmu (l:List Sl):List (List PV):=l.map slc
@[simp] theorem ynf (l:List Sl):(zmu l).length=l.length:=by simp [zmu]
def zg0 (a b:Sl):Sl×Bool:=if ((adi a.n b.n).2 && (adi a.g b.g).2)=true then (⟨(adi a.n b.n).1,(adi a.g b.g).1⟩,true) else (⟨0,0⟩,false)
def atI {α:Type} (l:List α) (i:Int):Option α:=if 0≤i then l[i.toNat]? else none
def zyy (b g:List Int):List Int→List Sl→Option (List Sl)
 | [],h=>some h
 | r::rs,h=>match atI b r,atI g r with
  | some x,some y=>match atI h x with
   | some s=>if (zg0 s ⟨1,y⟩).2=true then zyy b g rs (h.set x.toNat (zg0 s ⟨1,y⟩).1) else none
   | none=>none
  | _,_=>none
def z21 (b g rows:List Int) (k:Int):List Sl×Bool:=if zas k 1 8=true then match zyy b g rows (List.replicate k.toNat ⟨0,0⟩) with
  | some h=>(h,true)
  | none=>([],false)
 else ([],false)
def zuc (q:Bool) (l:List Sl):PV:=if q then .own 2 (zmu l) else .sl 2 (zmu l)
@[simp] theorem yuc (q:Bool) (l:List Sl):fz (zuc q l) = .sl 2 (zmu l):=by cases q <;> simp [zuc]
def rss (q:Bool) (H:List (List Sl)):List (List PV):=H.map fun l=>[zuc q l]
@[simp] theorem ywp (q:Bool) (H:List (List Sl)):(rss q H).length=H.length:=by simp [rss]
def z1l (g rows:List Int):List (List Int)→List (List Int)→Option (List (List Sl))
 | x::c,y::v=>if (z21 y g rows (x.length+1)).2=true then (z1l g rows c v).map ((z21 y g rows (x.length+1)).1 :: ·) else none
 | _,_=>some []
def z39 (c v:List (List Int)) (g rows:List Int):List (List Sl)×Bool:=if zsn c v=true then match z1l g rows c v with
  | some h=>(h,true)
  | none=>([],false)
 else ([],false)
def z1a (k:Int) (n:Nat):List Sl:=(List.range n).map fun (i:Nat)=>⟨k+2*(i:Int),k+2*(i:Int)+1⟩
@[simp] theorem yp8 (k:Int) (n:Nat):(z1a k n).length=n:=by simp [z1a]
structure Fr where
 w:Wd
 d:Int
def frc (f:Fr):List PV:=[bv f.w.n,uv f.w.h,uv f.w.l,iv f.d]
def frB (f:Fr):Bool:=wok f.w && zas f.d 1 1000000
def znf:Fr:=⟨zle,0⟩
def z0h (w:Wd) (d:Int):Fr×Bool:=if frB ⟨w,d⟩=true then (⟨w,d⟩,true) else (znf,false)
def zhs (a b:Fr):Wd×Wd×Bool:=if (frB a && frB b)=true then ((zrn a.w b.d).1,(zrn b.w a.d).1,(zrn a.w b.d).2 && (zrn b.w a.d).2) else (zle,zle,false)
def zmj (a b:Fr):Int×Bool:=if (zhs a b).2.2=true then (yeg (zhs a b).1 (zhs a b).2.1,true) else (0,false)
def yfy (a b:Fr):Fr×Bool:=if (zhs a b).2.2=true then (if (z38 (zhs a b).1 (zhs a b).2.1).2=true then z0h (z38 (zhs a b).1 (zhs a b).2.1).1 (a.d*b.d) else (znf,false)) else (znf,false)
structure Cnd where
 f:Int
 b:Int
 a:Sl
 z:Sl
deriving DecidableEq
def cnd (c:Cnd):List PV:=[iv c.f,iv c.b,iv c.a.n,iv c.a.g,iv c.z.n,iv c.z.g]
structure Bd where
 lo:Int
 hi:Int
def ztt (b:Bd):Bool:=decide (b.lo≤b.hi) && zc9 b.lo && zc9 b.hi
def znb (x lo hi:Int):Int:=if x<lo then lo else if hi<x then hi else x
def zyn (n l:Int):Bool:=zas n 0 40 && zas l 1 100
def zm8 (s:Sl) (l:Int) (b:Bd):Int×Bool:=if (zyn s.n l && ztt b)=true then (znb (fdv s.g (s.n+l)).1 b.lo b.hi,true) else (0,false)
def zjh (s:Sl) (l:Int):Fr×Bool:=if zyn s.n l=true then z0h (yg7 s.g s.g) (s.n+l) else (znf,false)
def ze6 (c:Cnd) (l:Int):Fr×Bool:=if ((zjh c.a l).2 && (zjh c.z l).2)=true then yfy (zjh c.a l).1 (zjh c.z l).1 else (znf,false)
def zi6 (c:Cfg) (b:Bd) (x:Cnd):Int×Int×Bool:=if ((zm8 x.a c.la b).2 && (zm8 x.z c.la b).2)=true then ((zm8 x.a c.la b).1,(zm8 x.z c.la b).1,true) else (0,0,false)
def zs8 (c:Cfg) (f:Int):Int:=(atI c.sg f).getD 0
def ye4 (s l r:Int):Bool:=if s=1 then decide (l≤r) else if s = -1 then decide (r≤l) else true
def yg5 (x:Cnd) (l:Int):Bool:=(ze6 x l).2 && ((zg0 x.a x.z).2 && ((zjh (zg0 x.a x.z).1 l).2 && ((zmj (ze6 x l).1 (zjh (zg0 x.a x.z).1 l).1).2 && decide (0<(zmj (ze6 x l).1 (zjh (zg0 x.a x.z).1 l).1).1))))
def yf3 (a b:Cnd):Bool:=decide (a.f<b.f) || (decide (a.f=b.f) && decide (a.b<b.b))
def yes (a b:Cnd) (l:Int):Bool:=(ze6 a l).2 && ((ze6 b l).2 && ((zmj (ze6 a l).1 (ze6 b l).1).2 && (decide (0<(zmj (ze6 a l).1 (ze6 b l).1).1) || (decide ((zmj (ze6 a l).1 (ze6 b l).1).1=0) && yf3 a b))))
def z1r (c:Cfg) (b:Bd) (x:Cnd):Bool:=zb2 c && ((zi6 c b x).2.2 && (decide (c.rw≤x.a.n) && (decide (c.rw≤x.z.n) && (ye4 (zs8 c x.f) (zi6 c b x).1 (zi6 c b x).2.1 && yg5 x c.la))))
def z35 (l:List Cnd):List (List PV):=l.map cnd
@[simp] theorem yni (l:List Cnd):(z35 l).length=l.length:=by simp [z35]
def noB (c:Cfg) (b:Bd) (x y:Cnd):Bool := !z1r c b y || !yes y x c.la
def ydh (c:Cfg) (b:Bd) (l:List Cnd) (x:Cnd):Bool:=z1r c b x && l.all (noB c b x)
def zuf:Cnd:=⟨0,0,⟨0,0⟩,⟨0,0⟩⟩
def ya9 (c:Cfg) (b:Bd) (l:List Cnd):Cnd×Bool:=match l.find? (ydh c b l) with
 | some x=>(x,true)
 | none=>(zuf,false)
def zu5 (a b:Sl):Sl×Bool:=if ((sbi a.n b.n).2 && (sbi a.g b.g).2)=true then (⟨(sbi a.n b.n).1,(sbi a.g b.g).1⟩,true) else (⟨0,0⟩,false)
def z16 (s:Sl):List Sl→Option (List Sl)
 | []=>some []
 | x::xs=>if (zg0 s x).2=true then (z16 (zg0 s x).1 xs).map ((zg0 s x).1 :: ·) else none
def zt1 (h:List Sl):List Sl×Bool:=match z16 ⟨0,0⟩ h with
 | some l=>(l,true)
 | none=>([],false)
def z31 (f:Int) (all:Sl) (least:Int):Int→List Sl→List Cnd→Option (List Cnd)
 | b,x::y::xs,acc=>if (zu5 all x).2=true then z31 f all least (b+1) (y::xs) (if least≤x.n∧least≤(zu5 all x).1.n then acc++[⟨f,b,x,(zu5 all x).1⟩] else acc) else none
 | _,_,acc=>some acc
def yce (l:List Sl):Sl:=l.getLast?.getD ⟨0,0⟩
def z08 (least:Int):Int→List (List Sl)→List Cnd→Option (List Cnd)
 | _,[],acc=>some acc
 | f,h::hs,acc=>if (zt1 h).2=true then match z31 f (yce (zt1 h).1) least 0 (zt1 h).1 acc with
  | some a=>z08 least (f+1) hs a
  | none=>none
  else none
def yas (H:List (List Sl)) (least:Int):List Cnd:=(z08 least 0 H []).getD []
def zre (a b:Int):Int:=(a+b) / 2
def z0n (s:Int) (b:Bd) (l r:Int):Bd×Bd:=if ztt b=true then (if s=1 then (⟨b.lo,znb (zre l r) b.lo b.hi⟩,⟨znb (zre l r) b.lo b.hi,b.hi⟩) else if s = -1 then (⟨znb (zre l r) b.lo b.hi,b.hi⟩,⟨b.lo,znb (zre l r) b.lo b.hi⟩) else (b,b)) else (b,b)
def zrx (c v:List (List Int)) (g:List Int) (cfg:Cfg) (rows:List Int) (b:Bd):Cnd×Bool:=if zq1 c v g cfg=true then (if (z39 c v g rows).2=true then ya9 cfg b (yas (z39 c v g rows).1 cfg.rw) else (zuf,false)) else (zuf,false)
def zuh (g:List Int) (rows:List Int):Sl:=⟨rows.length,(rows.map fun r=>(atI g r).getD 0).sum⟩
def yer (bins:List Int) (b r:Int):Bool:=match atI bins r with
 | some x=>decide (x≤b)
 | none=>false
def yef (bins:List Int) (b r:Int):Bool:=match atI bins r with
 | some x => !decide (x≤b)
 | none=>false
def zsa (bins rows:List Int) (b:Int):List Int:=rows.filter (yer bins b)
def zsb (bins rows:List Int) (b:Int):List Int:=rows.filter (yef bins b)
structure Pnd where
 r:List Int
 b:Bd
 l:Int
def ybe (c v:List (List Int)) (cfg:Cfg) (x:Pnd) (k:Cnd):Pnd:=⟨zsa ((atI v k.f).getD []) x.r k.b,(z0n (zs8 cfg k.f) x.b (zi6 cfg x.b k).1 (zi6 cfg x.b k).2.1).1,x.l+1⟩
def yd6 (c v:List (List Int)) (cfg:Cfg) (x:Pnd) (k:Cnd):Pnd:=⟨zsb ((atI v k.f).getD []) x.r k.b,(z0n (zs8 cfg k.f) x.b (zi6 cfg x.b k).1 (zi6 cfg x.b k).2.1).2,x.l+1⟩
def yey (g:List Int) (cfg:Cfg) (x:Pnd):Nd:=⟨-1,0,0,0,(zm8 (zuh g x.r) cfg.la x.b).1⟩
def ydm (c:List (List Int)) (k:Cnd) (n:Nat):Nd:=⟨k.f,(atI ((atI c k.f).getD []) k.b).getD 0,n,n+1,0⟩
def goes (c v:List (List Int)) (g:List Int) (cfg:Cfg) (x:Pnd):Bool:=decide (x.l<cfg.de) && (zrx c v g cfg x.r x.b).2
def yca (n:Nat) (d:Int) (x:Pnd):Prop:=(∀ r∈x.r,0≤r∧r<n)∧x.r.length≤n∧0≤x.l∧x.l≤d
theorem yd1 {c v:List (List Int)} {g:List Int} {cfg:Cfg} (h:zq1 c v g cfg=true):zsn c v=true∧zb2 cfg=true∧g.length=zr8 v∧(∀ x∈g,-2199023255552≤x∧x≤2199023255552):=by
 unfold zq1 at h
 simp only [Bool.and_eq_true,decide_eq_true_eq] at h
 exact ⟨h.1.1.1,h.1.1.2,by omega,fun x hx=>zei.mp (List.all_eq_true.mp h.2 x hx)⟩
def upl (n:Nat):List Int:=(List.range n).map fun (i:Nat)=>(i:Int)
@[simp] theorem ym5 (n:Nat):(upl n).length=n:=by simp [upl]
@[simp] theorem ytf:upl 0=[]:=rfl
def pnd (x:Pnd):List PV:=[.own 1 (zad x.r),iv x.b.lo,iv x.b.hi,iv x.l]
def z3k (l:List Pnd):List (List PV):=l.map pnd
@[simp] theorem yxw (l:List Pnd):(z3k l).length=l.length:=by simp [z3k]
theorem zrl {α:Type} {l:List α} {i:Nat} {x:α} (h:l[i]?=some x):atI l (i:Int)=some x:=by
 unfold atI
 rw [if_pos (by omega)]
 simpa using h
def NC (S:Nat→Option Ob) (nx oq:Nat) (m:List Nd) (x:PV):Prop:=(x = .e0∧m=[])∨∃ o e,x = .ref o none e 0 m.length∧5<o∧o<nx∧¬ o=oq∧S o=some (.row 5 (m.map nd))
theorem ybh (l:List Int):zbx (zad l)=true:=by
 induction l with
 | nil=>rfl
 | cons x l ih=>simpa [zad,zbx] using ih
theorem ydk (l:List Nd):zbx (l.map nd)=true:=by
 induction l with
 | nil=>rfl
 | cons x l ih=>simpa [nd,zbx] using ih
theorem z9x (l:List Int) (hl:l.length≤1048576):RUN T zkr [.sl 1 (zad l)]=some ([.own 1 (zad l)],[]) :=
 z1h zxp (ybh l) (by simp [zaz]; omega)
theorem z9y (l:List Nd) (hl:l.length≤1048576):RUN T zkh [.sl 5 (l.map nd)]=some ([.own 5 (l.map nd)],[]) :=
 z1h zw9 (ydk l) (by simp [zaz]; omega)
theorem z9z (t:List Nd) (hl:t.length≤1048576):RUN T zj1 [.agg [.sl 5 (t.map nd)]]=some ([.agg [.own 5 (t.map nd)]],[]):=by
 have e:=z9y t hl
 refine zav zwk rfl ?_
 simp [-getElem?_pos,zob,zoc,e]
theorem z90 (t:List Nd) (hl:t.length≤1048576):RUN T zj3 [.agg [.sl 5 (t.map nd)]]=some ([.agg [.own 5 (t.map nd)]],[]):=by
 have h0:zaz 40 0=true:=by decide
 have h1:zaz 40 t.length=true:=by simp [zaz]; omega
 have h2:=zyj t
 refine zav zwm rfl ?_
 simp [-getElem?_pos,zof,zog,h0,h1,h2]
def zb8 (c:Cfg) (x:Nd):Nd:=if x.f = -1 then ⟨x.f,x.c,x.l,x.r,(shr x.v c).1⟩ else x
def zf4 (c:Cfg) (x:Nd):Bool := !decide (x.f = -1) || (shr x.v c).2
def zeh (c:Cfg) (t:List Nd):List Nd×Bool:=if t.all (zf4 c)=true then (t.map (zb8 c),true) else ([],false)
theorem zzw : ∀ (t:List Nd) (i:Int) (j:Int),j∈lvs t i↔∃ (k:Nat) (x:Nd),j=i+k∧t[k]?=some x∧x.f = -1
 | [],i,j=>by simp [lvs]
 | x::xs,i,j=>by
  have ih:=zzw xs (i+1) j
  have key:(∃ (k:Nat) (y:Nd),j=i+k∧(x::xs)[k]?=some y∧y.f = -1)↔(j=i∧x.f = -1)∨∃ (k:Nat) (y:Nd),j=i+1+k∧xs[k]?=some y∧y.f = -1:=by
   constructor
   ·rintro ⟨k,y,h1,h2,h3⟩
    cases k with
    | zero=>simp at h2; subst h2; exact .inl ⟨by omega,h3⟩
    | succ k=>exact .inr ⟨k,y,by omega,by simpa using h2,h3⟩
   ·rintro (⟨h1,h2⟩ | ⟨k,y,h1,h2,h3⟩)
    ·exact ⟨0,x,by omega,rfl,h2⟩
    ·exact ⟨k+1,y,by omega,by simpa using h2,h3⟩
  rw [key,← ih]
  simp only [lvs]
  split
  ·rename_i hf
   rw [List.mem_cons]
   constructor
   ·rintro (h | h)
    ·exact .inl ⟨h,hf⟩
    ·exact .inr h
   ·rintro (h | h)
    ·exact .inl h.1
    ·exact .inr h
  ·rename_i hf
   constructor
   ·exact .inr
   ·rintro (h | h)
    ·exact absurd h.2 hf
    ·exact h
def zlc (c:Cfg) (t C:List Nd) (p:Nat→Prop):Prop:=C.length=t.length∧∀ (j:Nat) (x:Nd),t[j]?=some x→(p j→C[j]?=some (zb8 c x))∧(¬ p j→C[j]?=some x)
theorem zyd {c:Cfg} {t C:List Nd} {p:Nat→Prop} (h:zlc c t C p) (hp : ∀ (j:Nat) (x:Nd),t[j]?=some x→x.f = -1→p j):C=t.map (zb8 c):=by
 refine List.ext_getElem? fun j => ?_
 rcases Nat.lt_or_ge j t.length with hj | hj
 ·obtain ⟨x,hx⟩ : ∃ x,t[j]?=some x:=⟨_,List.getElem?_eq_getElem hj⟩
  obtain ⟨h1,h2⟩:=h.2 j x hx
  rw [List.getElem?_map,hx,Option.map_some]
  rcases Classical.em (p j) with hpj | hpj
  ·exact h1 hpj
  ·rw [h2 hpj]
   by_cases hf:x.f = -1
   ·exact absurd (hp j x hx hf) hpj
   ·unfold zb8; rw [if_neg hf]
 ·rw [List.getElem?_eq_none (by rw [h.1]; omega),List.getElem?_eq_none (by simpa using hj)]
theorem z27 {c:Cfg} {t C:List Nd} {p:Nat→Prop} {i:Nat} {x:Nd} (h:zlc c t C p) (hx:t[i]?=some x) (hf:x.f = -1):zlc c t (C.set i ⟨x.f,x.c,x.l,x.r,(shr x.v c).1⟩) (fun j=>p j∨j=i):=by
 refine ⟨by rw [List.length_set,h.1],fun j y hy => ?_⟩
 obtain ⟨h1,h2⟩:=h.2 j y hy
 have hi:=(List.getElem?_eq_some_iff.mp hx).1
 by_cases e:j=i
 ·subst e
  rw [hx] at hy; cases hy
  refine ⟨fun _ => ?_,fun hn=>absurd (.inr rfl) hn⟩
  rw [List.getElem?_set_self (by rw [h.1]; exact hi)]
  unfold zb8; rw [if_pos hf]
 ·rw [List.getElem?_set_ne (fun h=>e h.symm)]
  exact ⟨fun hp=>h1 (hp.resolve_right e),fun hn=>h2 fun hp=>hn (.inl hp)⟩
theorem z3f {c:Cfg} {t C:List Nd} {p:Nat→Prop} {i:Nat} {x:Nd} (h:zlc c t C p) (hx:t[i]?=some x) : ∃ v,C[i]?=some ⟨x.f,x.c,x.l,x.r,v⟩:=by
 obtain ⟨h1,h2⟩:=h.2 i x hx
 rcases Classical.em (p i) with hp | hp
 ·rw [h1 hp]
  unfold zb8
  split
  ·exact ⟨_,rfl⟩
  ·exact ⟨x.v,rfl⟩
 ·exact ⟨x.v,h2 hp⟩
theorem zyg {c:Cfg} {t:List Nd} {i:Nat} {x:Nd} (hx:t[i]?=some x) (hf:x.f = -1) (hs:(shr x.v c).2=false):t.all (zf4 c)=false:=by
 cases e:t.all (zf4 c) with
 | false=>rfl
 | true =>
  have:=List.all_eq_true.mp e x (List.mem_of_getElem? hx)
  unfold zf4 at this
  rw [hs,decide_eq_true hf] at this
  cases this
theorem zzt {c:Cfg} {t:List Nd} (h : ∀ (j:Nat) (x:Nd),t[j]?=some x→x.f = -1→(shr x.v c).2=true):t.all (zf4 c)=true:=by
 rw [List.all_eq_true]
 intro x hx
 obtain ⟨j,hj⟩:=List.getElem?_of_mem hx
 unfold zf4
 by_cases hf:x.f = -1
 ·rw [h j x hj hf]; simp
 ·rw [decide_eq_false hf]; rfl
set_option maxHeartbeats 2000000 in
theorem z91 (t:List Nd) (c:Cfg) (hl:t.length≤1048576) (hc:c.sg.length≤1048576):RUN T zjr [.agg [.sl 5 (t.map nd)],zgn c]=some ([.agg [.own 5 ((zeh c t).1.map nd)],bv (zeh c t).2],[]):=by
 have e1:=z90 t hl
 obtain ⟨R,hR⟩ : ∃ R,R=zeh c t:=⟨_,rfl⟩
 have hR':R=if t.all (zf4 c)=true then (t.map (zb8 c),true) else ([],false):=hR
 rw [← hR]
 clear hR
 simp only [zgn]
 refine zav zv6 rfl ?_
 simp [-getElem?_pos,zns,znt,e1]
 refine zbl (fun n st => ∃ (i:Nat) (C:List Nd),i+n=t.length∧zlc c t C (fun j=>j<i)∧(∀ (j:Nat) (x:Nd),j<i→t[j]?=some x→(x.f = -1→(shr x.v c).2=true))∧st.V 2 = .ptr 0 none 0 0 0∧st.V 3 = .ptr 1 none 0 0 0∧st.V 4 = .ptr 2 none 0 0 0∧st.V 6 = .ptr 4 none 0 0 0∧st.V 7=iv i∧4<st.nx∧st.S 0=some (.box [.sl 5 (t.map nd)])∧st.S 1=some (.box [iv c.ro,iv c.de,iv c.bi,iv c.la,iv c.rw,iv c.nu,iv c.dn,.sl 1 (zad c.sg)])∧st.S 2=some (.box [.e0])∧st.S 4=some (.box [.ref 3 none 0 0 t.length])∧st.S 3=some (.row 5 (C.map nd))) ?_ t.length _ ⟨0,t,by omega,⟨rfl,fun j x hx=>⟨fun h=>by omega,fun _=>hx⟩⟩,fun j x h=>by omega,by simp,by simp,by simp,by simp,by simp,by simp,by simp,by simp,by simp,by simp,by simp⟩
 rintro n st ⟨i,C,hi,hC,hok,v2,v3,v4,v6,v7,h4x,hS0,hS1,hS2,hS4,hS3⟩
 obtain ⟨z1,z2,z3,z4⟩:=fr h4x
 by_cases h:i<t.length
 ·obtain ⟨x,hx⟩ : ∃ x,t[i]?=some x:=⟨_,List.getElem?_eq_getElem h⟩
  have hx':=zmx hx
  have hw:=wS h (by omega:t.length≤9223372036854775807)
  have f1:=z9f x.v c (by omega)
  obtain ⟨v,hv⟩:=z3f hC hx
  have hv':=zmx hv
  have hCl:i<C.length:=by rw [hC.1]; exact h
  simp only [zgn] at f1
  rcases Classical.propComplete (x.f = -1) with hf | hf
  ·have hf':x.f = -1:=by rw [hf]; trivial
   have hset:=ziz C i x.f x.c x.l x.r (shr x.v c).1
   have hI:=z27 hC hx hf'
   cases hb:(shr x.v c).2 with
   | false =>
    rw [zyg hx hf' hb,if_neg (by simp)] at hR'
    subst hR'
    rw [hb] at f1
    simp [-getElem?_pos,zl1,v2,v3,v4,v6,v7,hS0,hS1,hS2,hS4,hS3,h,hx',hf,f1]
   | true =>
    have hok2:=zrc (P:=fun _ x=>x.f = -1→(shr x.v c).2=true) hok hx (fun _=>hb)
    rw [hb] at f1
    simp [-getElem?_pos,zl1,v2,v3,v4,v6,v7,hS0,hS1,hS2,hS4,hS3,h,hx',hw,hf,f1,hv',hCl,hC.1,hset]
    exact za2 (n-1) (by omega) ⟨i+1,_,by omega,⟨hI.1,fun j y hy=>⟨fun hj=>(hI.2 j y hy).1 (by omega),fun hj=>(hI.2 j y hy).2 (by omega)⟩⟩,hok2,by simp [v2],by simp [v3],by simp [v4],by simp [v6],by simp,by simp [h4x],by simp [hS0],by simp [hS1],by simp [hS2],by simp [hS4],by simp⟩
  ·have hf' : ¬ x.f = -1:=by rw [hf]; exact id
   have hok2:=zrc (P:=fun _ x=>x.f = -1→(shr x.v c).2=true) hok hx (fun h=>absurd h hf')
   simp [-getElem?_pos,zl1,v2,v3,v4,v6,v7,hS0,hS1,hS2,hS4,hS3,h,hx',hw,hf]
   refine za2 (n-1) (by omega) ⟨i+1,C,by omega,⟨hC.1,fun j y hy=>⟨fun hj => ?_,fun hj=>(hC.2 j y hy).2 (by omega)⟩⟩,hok2,by simp [v2],by simp [v3],by simp [v4],by simp [v6],by simp,by simp [h4x],by simp [hS0],by simp [hS1],by simp [hS2],by simp [hS4],by simp [hS3]⟩
   by_cases e:j=i
   ·subst e
    rw [hx] at hy; cases hy
    rw [(hC.2 j x hx).2 (by omega)]
    unfold zb8; rw [if_neg hf']
   ·exact (hC.2 j y hy).1 (by omega)
 ·have hall:=zyd hC (fun j x hx _=>by have:=(List.getElem?_eq_some_iff.mp hx).1; omega)
  rw [zzt (fun j x hx hf=>hok j x (by have:=(List.getElem?_eq_some_iff.mp hx).1; omega) hx hf),if_pos rfl,← hall] at hR'
  have hCl:=hC.1
  subst hR'
  simp [-getElem?_pos,zl1,v2,v4,v6,v7,hS0,hS2,hS4,hS3,h,hCl]
set_option maxHeartbeats 2000000 in
theorem z92 (t:List Nd) (c:Cfg) (hl:t.length≤1048576) (hc:c.sg.length≤1048576):RUN T zjq [.agg [.sl 5 (t.map nd)],zgn c]=some ([.agg [.own 5 ((zeh c t).1.map nd)],bv (zeh c t).2],[]):=by
 have e1:=z9z t hl
 have e2:=zx6 t hl
 have hll:=zhz t 0
 have hmem:=zzw t 0
 generalize lvs t 0=L at *
 obtain ⟨R,hR⟩ : ∃ R,R=zeh c t:=⟨_,rfl⟩
 have hR':R=if t.all (zf4 c)=true then (t.map (zb8 c),true) else ([],false):=hR
 rw [← hR]
 clear hR
 simp only [zgn]
 refine zav zv5 rfl ?_
 simp [-getElem?_pos,znq,znr,e1,e2]
 refine zbl (fun n st => ∃ (i:Nat) (C:List Nd),i+n=L.length∧zlc c t C (fun j=>(j:Int)∈L.take i)∧(∀ (k:Nat) (y:Int),k<i→L[k]?=some y→∀ (j:Nat) (x:Nd),y=j→t[j]?=some x→(shr x.v c).2=true)∧st.V 2 = .ptr 0 none 0 0 0∧st.V 3 = .ptr 1 none 0 0 0∧st.V 4 = .ptr 2 none 0 0 0∧st.V 6 = .ptr 4 none 0 0 0∧st.V 14 = .ref 5 none 0 0 L.length∧st.V 15=iv L.length∧st.V 16=iv i∧5<st.nx∧st.S 0=some (.box [.sl 5 (t.map nd)])∧st.S 1=some (.box [iv c.ro,iv c.de,iv c.bi,iv c.la,iv c.rw,iv c.nu,iv c.dn,.sl 1 (zad c.sg)])∧st.S 2=some (.box [.e0])∧st.S 4=some (.box [.ref 3 none 0 0 t.length])∧st.S 5=some (.row 1 (zad L))∧st.S 3=some (.row 5 (C.map nd))) ?_ L.length _ ⟨0,t,by omega,⟨rfl,fun j x hx=>⟨fun h=>by simp at h,fun _=>hx⟩⟩,fun k y h=>by omega,by simp,by simp,by simp,by simp,by simp,by simp,by simp,by simp,by simp,by simp,by simp,by simp,by simp,by simp⟩
 rintro n st ⟨i,C,hi,hC,hok,v2,v3,v4,v6,v14,v15,v16,h5x,hS0,hS1,hS2,hS4,hS5,hS3⟩
 obtain ⟨z1,z2,z3,z4⟩:=fr h5x
 by_cases h:i<L.length
 ·obtain ⟨y,hy⟩ : ∃ y,L[i]?=some y:=⟨_,List.getElem?_eq_getElem h⟩
  obtain ⟨k,x,hyk,hx,hf'⟩:=(hmem y).mp (List.mem_of_getElem? hy)
  have hyk:y=(k:Int):=by omega
  subst hyk
  have hy':=zcw hy
  have hkt:=(List.getElem?_eq_some_iff.mp hx).1
  have hx':=zmx hx
  have hw:=wS h (by omega:L.length≤9223372036854775807)
  have f1:=z9g x.v c (by omega)
  obtain ⟨v,hv⟩:=z3f hC hx
  have hv':=zmx hv
  have hCl:k<C.length:=by rw [hC.1]; exact hkt
  simp only [zgn] at f1
  have hset:=ziz C k x.f x.c x.l x.r (shr x.v c).1
  have hI:=z27 hC hx hf'
  have htk:L.take (i+1)=L.take i++[(k:Int)]:=by rw [List.take_succ,hy]; rfl
  cases hb:(shr x.v c).2 with
  | false =>
   rw [zyg hx hf' hb,if_neg (by simp)] at hR'
   subst hR'
   rw [hb] at f1
   simp [-getElem?_pos,znp,v2,v3,v4,v6,v14,v15,v16,hS0,hS1,hS2,hS4,hS5,hS3,h,hy',hkt,hx',f1]
  | true =>
   rw [hb] at f1
   have hok2 : ∀ (k':Nat) (y:Int),k'<i+1→L[k']?=some y→∀ (j:Nat) (x:Nd),y=j→t[j]?=some x→(shr x.v c).2=true:=by
    intro k' y hk' hy2 j x2 e1 e2
    rcases Nat.lt_or_ge k' i with h3 | h3
    ·exact hok k' y h3 hy2 j x2 e1 e2
    ·have e3:k'=i:=by omega
     subst e3
     rw [hy] at hy2; cases hy2
     have e4:j=k:=by omega
     subst e4
     rw [hx] at e2; cases e2
     exact hb
   simp [-getElem?_pos,znp,v2,v3,v4,v6,v14,v15,v16,hS0,hS1,hS2,hS4,hS5,hS3,h,hy',hkt,hx',hw,f1,hv',hCl,hC.1,hset]
   refine za2 (n-1) (by omega) ⟨i+1,_,by omega,⟨hI.1,fun j y hy2=>⟨fun hj=>(hI.2 j y hy2).1 ?_,fun hj=>(hI.2 j y hy2).2 ?_⟩⟩,hok2,by simp [v2],by simp [v3],by simp [v4],by simp [v6],by simp [v14],by simp [v15],by simp,by simp [h5x],by simp [hS0],by simp [hS1],by simp [hS2],by simp [hS4],by simp [hS5],by simp⟩
   ·rw [htk,List.mem_append,List.mem_singleton] at hj
    exact hj.imp id (fun e=>by omega)
   ·intro hp
    apply hj
    rw [htk,List.mem_append,List.mem_singleton]
    exact hp.imp id (fun e=>by omega)
 ·have hiL:i=L.length:=by omega
  subst hiL
  rw [List.take_length] at hC
  have hin : ∀ (j:Nat) (x:Nd),t[j]?=some x→x.f = -1→(j:Int)∈L:=fun j x hx hf=>(hmem j).mpr ⟨j,x,by omega,hx,hf⟩
  have hall:=zyd hC hin
  rw [zzt (fun j x hx hf=>by
   obtain ⟨k,hk⟩:=List.getElem?_of_mem (hin j x hx hf)
   exact hok k j (List.getElem?_eq_some_iff.mp hk).1 hk j x rfl hx),if_pos rfl,← hall] at hR'
  have hCl:=hC.1
  subst hR'
  simp [-getElem?_pos,znp,v2,v4,v6,v14,v15,v16,hS0,hS2,hS4,hS3,h,hCl]
theorem zr0 (l:List Int):(zbt l).length=l.length:=by
 unfold zbt
 rw [ye2]; simp
theorem z3y (x:Int) (l:List Int) : ∀ k:Nat,(∀ j,pos x l k≤j→j<k→x<l.getD j 0)∧(pos x l k=0∨l.getD (pos x l k-1) 0≤x)
 | 0=>by
  refine ⟨fun j _ h=>by omega,.inl ?_⟩
  simp only [pos]
 | k+1=>by
  obtain ⟨h1,h2⟩:=z3y x l k
  rw [zst]
  by_cases hc:x<l.getD k 0
  ·rw [if_pos hc]
   refine ⟨fun j hj hk => ?_,h2⟩
   by_cases hjk:j=k
   ·subst hjk; exact hc
   ·exact h1 j hj (by omega)
  ·rw [if_neg hc]
   refine ⟨fun j hj hk=>by omega,.inr ?_⟩
   simp only [Nat.add_sub_cancel]
   omega
def srt (l:List Int):Prop:=l.Pairwise fun a b=>a≤b
theorem zsg {l:List Int} (h:srt l) {i j:Nat} {a b:Int} (hij:i≤j) (ha:l[i]?=some a) (hb:l[j]?=some b):a≤b:=by
 by_cases e:i=j
 ·subst e; rw [ha] at hb; cases hb; exact Int.le_refl _
 ·obtain ⟨hi,rfl⟩:=List.getElem?_eq_some_iff.mp ha
  obtain ⟨hj,rfl⟩:=List.getElem?_eq_some_iff.mp hb
  exact List.pairwise_iff_getElem.mp h i j hi hj (by omega)
theorem ybv {l:List Int} (h:srt l) (x:Int):srt (ins l x):=by
 obtain ⟨P,hP⟩:=zc3.ex x l l.length
 rw [zq2 hP]
 have hp:pos x l l.length=P:=by unfold zc3 at hP; exact hP
 obtain ⟨h1,h2⟩:=z3y x l l.length
 rw [hp] at h1 h2
 have hle:=zs7 x l l.length
 rw [hp] at hle
 unfold srt
 rw [List.pairwise_append]
 refine ⟨h.sublist (List.take_sublist _ _),?_,?_⟩
 ·rw [List.pairwise_cons]
  refine ⟨fun b hb => ?_,h.sublist (List.drop_sublist _ _)⟩
  obtain ⟨j,hj⟩:=List.getElem?_of_mem hb
  rw [List.getElem?_drop] at hj
  have hlt:=(List.getElem?_eq_some_iff.mp hj).1
  have:=h1 (P+j) (by omega) hlt
  rw [List.getD,hj,Option.getD_some] at this
  omega
 ·intro a ha b hb
  obtain ⟨i,hi⟩:=List.getElem?_of_mem ha
  have hi2:i<P:=by
   have:=(List.getElem?_eq_some_iff.mp hi).1
   simp at this; omega
  rw [List.getElem?_take_of_lt hi2] at hi
  have hax:a≤x:=by
   rcases h2 with h2 | h2
   ·omega
   ·obtain ⟨y,hy⟩ : ∃ y,l[P-1]?=some y:=⟨_,List.getElem?_eq_getElem (by omega)⟩
    rw [List.getD,hy,Option.getD_some] at h2
    have:=zsg h (by omega:i≤P-1) hi hy
    omega
  rcases List.mem_cons.mp hb with rfl | hb
  ·exact hax
  ·obtain ⟨j,hj⟩:=List.getElem?_of_mem hb
   rw [List.getElem?_drop] at hj
   exact zsg h (by omega:i≤P+j) hi hj
theorem yaj (l:List Int) (x:Int):(ins l x).Perm (x::l):=by
 obtain ⟨P,hP⟩:=zc3.ex x l l.length
 rw [zq2 hP]
 have:=List.perm_middle (a:=x) (l₁:=l.take P) (l₂:=l.drop P)
 rwa [List.take_append_drop] at this
theorem zuy : ∀ (l a:List Int),srt a→srt (l.foldl ins a)∧(l.foldl ins a).Perm (a++l)
 | [],a,h=>⟨h,by simp⟩
 | x::l,a,h=>by
  obtain ⟨h1,h2⟩:=zuy l (ins a x) (ybv h x)
  refine ⟨h1,h2.trans ?_⟩
  refine ((yaj a x).append_right l).trans ?_
  exact List.perm_middle.symm
theorem ydu (l:List Int):zf5 l=zbt l:=by
 obtain ⟨h1,h2⟩:=zuy l [] List.Pairwise.nil
 have h3:srt (zf5 l):=by
  have:=List.pairwise_mergeSort (le:=fun x y:Int=>decide (x≤y)) (fun a b c h1 h2=>by simp at *; omega) (fun a b=>by simp; omega) l
  unfold srt zf5
  exact this.imp fun h=>by simpa using h
 refine List.Perm.eq_of_pairwise (le:=fun a b=>a≤b) (fun a b _ _ h1 h2=>by omega) h3 h1 ?_
 exact (List.mergeSort_perm _ _).trans (by have h4:=h2.symm; rw [List.nil_append] at h4; exact h4)
theorem z93 (l:List Int) (hl:l.length≤1048576):RUN T zks [.own 1 (zad l)]=some ([],[.own 1 (zad (zbt l))]):=by
 rw [← ydu]
 exact yc7 zxq (by omega)
theorem z94 (l:List Int) (hl:l.length≤1048576):RUN T zkd [.own 1 (zad l)]=some ([.own 1 (zad (Lib.compact l))],[.undef]):=yft zw4 (by omega)
theorem z95 (l:List Int) (hl:l.length≤1048576):RUN T zke [.sl 1 (zad l)]=some ([.own 1 (zad (zbt l))],[]):=by
 have e1:=z9x l hl
 have e2:=z93 l hl
 have hl2:=zr0 l
 generalize zbt l=a at *
 refine zav zw5 rfl ?_
 simp [-getElem?_pos,zpe,zpf,e1,e2,hl2]
theorem z96 (l:List Int) (hl:l.length≤1048576):RUN T zjz [.sl 1 (zad l)]=some ([.own 1 (zad (Lib.compact (zbt l)))],[]):=by
 have e1:=z95 l hl
 have e2:=z94 (zbt l) (by rw [zr0]; exact hl)
 generalize zbt l=a at *
 generalize Lib.compact a=b at *
 refine zav zwg rfl ?_
 simp [-getElem?_pos,zn6,zn7,e1,e2]
theorem z1x {a:List Int} {i:Nat} {x:Int} (h:a[i]?=some x):Lib.compactUpTo a.toArray (i+1)=if (i=0∨¬ a[i-1]?=some x) then Lib.compactUpTo a.toArray i++[x] else Lib.compactUpTo a.toArray i:=by
 have hx:a.toArray[i]! = x:=by simp [h]
 have hlt:=(List.getElem?_eq_some_iff.mp h).1
 unfold Lib.compactUpTo
 rw [List.range_succ,List.filter_append,List.map_append]
 have hk:Lib.keeps a.toArray i=decide (i=0∨¬ a[i-1]?=some x):=by
  unfold Lib.keeps
  by_cases h0:i=0
  ·simp [h0]
  ·obtain ⟨y,hy⟩ : ∃ y,a[i-1]?=some y:=⟨_,List.getElem?_eq_getElem (by omega)⟩
   have hy':a.toArray[i-1]! = y:=by simp [hy]
   rw [hx,hy',hy]
   simp only [h0,false_or,Option.some.injEq]
   congr 1
   simp only [ne_eq,eq_comm]
 simp only [List.filter_cons,List.filter_nil,hk]
 by_cases hc:i=0∨¬ a[i-1]?=some x
 ·simp only [hc,decide_true,if_true,List.map_cons,List.map_nil,hx]
 ·simp only [hc,decide_false,if_false,Bool.false_eq_true,List.map_nil,List.append_nil]
set_option maxHeartbeats 1000000 in
theorem z97 (l:List Int) (hl:l.length≤1048576):RUN T zjy [.sl 1 (zad l)]=some ([.own 1 (zad (Lib.compact (zbt l)))],[]):=by
 have e1:=z9v l hl
 have hsl:=zr0 l
 generalize zbt l=a at *
 have hr0:zaz 8 0=true:=by decide
 have hr1:zaz 8 1=true:=by decide
 refine zav zwe rfl ?_
 simp [-getElem?_pos,zn2,zn3,hr0,e1]
 refine zbl (fun n st => ∃ (i o e q e2:Nat) (m:List Int),i+n=l.length∧m=Lib.compactUpTo a.toArray i∧m.length≤i∧st.V 3 = .ref o none e 0 m.length∧st.V 4 = .ref q none e2 0 a.length∧st.V 5=iv i∧¬ o=q∧o<st.nx∧q<st.nx∧st.S o=some (.row 1 (zad m))∧st.S q=some (.row 1 (zad a))) ?_ l.length _ ⟨0,0,0,1,0,[],by omega,rfl,by simp,by simp,by simp,by simp,by omega,by simp,by simp,by simp [zad],by simp⟩
 rintro n st ⟨i,o,e,q,e2,m,hi,hmm,hm,v3,v4,v5,hoq,hox,hqx,hSo,hSq⟩
 obtain ⟨x1,x2,x3,x4⟩:=fr hox
 obtain ⟨z1,z2,z3,z4⟩:=fr hqx
 have hqo : ¬ q=o:=fun e=>hoq e.symm
 by_cases h:i<a.length
 ·obtain ⟨x,hx⟩ : ∃ x,a[i]?=some x:=⟨_,List.getElem?_eq_getElem h⟩
  have hx':=zcw hx
  have hw:=wS h (by omega:a.length≤9223372036854775807)
  have hr8:=zd5 (n:=m.length+1) (by omega)
  have hsn:=zda m x
  have hcs:=z1x hx
  rw [← hmm] at hcs
  by_cases h0:i=0
  ·subst h0
   rw [if_pos (.inl rfl)] at hcs
   simp [-getElem?_pos,zl6,v3,v4,v5,hSo,hSq,h,hx',hw,hr1,hr8,hsn,hoq,hqo,x1,x2,x3,x4,z1,z2,z3,z4]
   exact za2 (n-1) (by omega) ⟨1,st.nx+1,st.ep,q,e2,m++[x],by omega,hcs.symm,by rw [List.length_append]; simp only [List.length_cons,List.length_nil]; omega,by simp,by simp [v4],by simp,by omega,by simp,by simp; omega,by simp,by simp [hoq,hqo,x1,x2,x3,x4,z1,z2,z3,z4,hSq]⟩
  ·obtain ⟨y,hy⟩ : ∃ x,a[i-1]?=some x:=⟨_,List.getElem?_eq_getElem (by omega)⟩
   have hy':=zcw hy
   have w1:IntKind.i64.wrap ((i:Int)-1)=((i-1:Nat):Int):=by rw [w64 (by omega) (by omega)]; omega
   have hil:i-1<a.length:=by omega
   rw [hy] at hcs
   by_cases hxy:x=y
   ·subst hxy
    rw [if_neg (by simp [h0])] at hcs
    simp [-getElem?_pos,zl6,v3,v4,v5,hSo,hSq,h,h0,hil,hx',hy',hw,w1,hoq,hqo,x1,x2,x3,x4,z1,z2,z3,z4]
    exact za2 (n-1) (by omega) ⟨i+1,o,e,q,e2,m,by omega,hcs.symm,by omega,by simp [v3],by simp [v4],by simp,hoq,by simp [hox],by simp [hqx],by simp [hSo],by simp [hSq]⟩
   ·rw [if_pos (.inr (fun e=>hxy (by cases e; rfl)))] at hcs
    simp [-getElem?_pos,zl6,v3,v4,v5,hSo,hSq,h,h0,hil,hx',hy',hw,w1,hxy,hr1,hr8,hsn,hoq,hqo,x1,x2,x3,x4,z1,z2,z3,z4]
    exact za2 (n-1) (by omega) ⟨i+1,st.nx+1,st.ep,q,e2,m++[x],by omega,hcs.symm,by simp; omega,by simp,by simp [v4],by simp,by omega,by simp,by simp; omega,by simp,by simp [hoq,hqo,x1,x2,x3,x4,z1,z2,z3,z4,hSq]⟩
 ·have hia:i=a.length:=by omega
  have hR:Lib.compact a=m:=by rw [hmm,hia]; rfl
  rw [hR]
  simp [-getElem?_pos,zl6,v3,v4,v5,hSo,hSq,h]
theorem ygg (l:List Int):(Lib.compact l).length≤l.length:=by
 unfold Lib.compact Lib.compactUpTo
 rw [List.length_map]
 exact Nat.le_trans (List.length_filter_le _ _) (by simp)
theorem z17 {a:List Int} (ha:srt a) : ∀ i:Nat,i≤a.length→(Lib.compactUpTo a.toArray i).Pairwise (fun x y=>x<y)∧∀ y,y∈Lib.compactUpTo a.toArray i↔∃ j,j<i∧a[j]?=some y
 | 0,_=>by
  refine ⟨List.Pairwise.nil,fun y => ?_⟩
  constructor
  ·intro h; exact absurd h (by simp [Lib.compactUpTo])
  ·rintro ⟨j,h,_⟩; omega
 | i+1,hi=>by
  obtain ⟨h1,h2⟩:=z17 ha i (by omega)
  obtain ⟨x,hx⟩ : ∃ x,a[i]?=some x:=⟨_,List.getElem?_eq_getElem (by omega)⟩
  rw [z1x hx]
  by_cases hc:i=0∨¬ a[i-1]?=some x
  ·rw [if_pos hc]
   refine ⟨?_,fun y => ?_⟩
   ·rw [List.pairwise_append]
    refine ⟨h1,by simp,fun y hy z hz => ?_⟩
    simp only [List.mem_singleton] at hz
    subst hz
    obtain ⟨j,hj,hjy⟩:=(h2 y).mp hy
    rcases hc with hc | hc
    ·omega
    ·obtain ⟨w,hw⟩ : ∃ w,a[i-1]?=some w:=⟨_,List.getElem?_eq_getElem (by omega)⟩
     have e1:=zsg ha (by omega:j≤i-1) hjy hw
     have e2:=zsg ha (by omega:i-1≤i) hw hx
     have e3:w≠z:=fun e=>hc (by rw [hw,e])
     omega
   ·rw [List.mem_append,List.mem_singleton,h2 y]
    constructor
    ·rintro (⟨j,hj,e⟩ | rfl)
     ·exact ⟨j,by omega,e⟩
     ·exact ⟨i,by omega,hx⟩
    ·rintro ⟨j,hj,e⟩
     by_cases hji:j<i
     ·exact .inl ⟨j,hji,e⟩
     ·obtain rfl:j=i:=by omega
      rw [hx] at e; cases e
      exact .inr rfl
  ·rw [if_neg hc]
   refine ⟨h1,fun y => ?_⟩
   rw [h2 y]
   constructor
   ·rintro ⟨j,hj,e⟩; exact ⟨j,by omega,e⟩
   ·rintro ⟨j,hj,e⟩
    by_cases hji:j<i
    ·exact ⟨j,hji,e⟩
    ·obtain rfl:j=i:=by omega
     rw [hx] at e; cases e
     have hc1 : ¬ j=0:=fun h=>hc (.inl h)
     have hc2:a[j-1]?=some x:=Classical.byContradiction fun h=>hc (.inr h)
     exact ⟨j-1,by omega,hc2⟩
theorem ybr (cs:List PV) (h:zbm [.int .u8] cs) : ∃ n:Int,[PV.v (.int .u8 n)]=cs∧True:=by
 simp only [zbm,Shp] at h
 obtain ⟨_,_,rfl,⟨a,rfl,h1⟩,rfl⟩:=h
 exact ⟨a,rfl,trivial⟩
theorem ydd {c:PV} (h:zhq false [.sl [.int .u8]] c) : ∃ B:List Int,c = .sl 1 (zbw B)∧B.length≤9223372036854775807:=by
 simp only [zhq,Bool.false_eq_true,if_false,zbm,Shp] at h
 obtain ⟨c',r,e,⟨es,he,h1,h2⟩,hr⟩:=h
 simp only [List.cons.injEq] at e
 obtain ⟨l,hl,hp⟩:=zze (f:=fun n:Int=>[PV.v (.int .u8 n)]) (tys:=[.int .u8]) ybr h2
 subst hl
 simp [maxLen] at h1
 exact ⟨l,e.1.trans he,by omega⟩
inductive SN where
 | mk (f c v:Int) (ks:List SN)
def ztl (q:Bool) (es:List (List PV)):PV:=if q then .own 4 es else .sl 4 es
mutual
def snC (q:Bool):SN→List PV
 | .mk f c v ks=>[iv f,iv c,iv v,ztl q (snL q ks)]
def snL (q:Bool):List SN→List (List PV)
 | []=>[]
 | s::ss=>snC q s::snL q ss
end
theorem zz6 (q:Bool) : ∀ ks:List SN,snL q ks=ks.map (snC q)
 | []=>by simp [snL]
 | k::ks=>by simp [snL,zz6 q ks]
@[simp] theorem yuu (q:Bool) (ks:List SN):(snL q ks).length=ks.length:=by rw [zz6]; simp
@[simp] theorem yo2 (q:Bool) (es:List (List PV)):fz (ztl q es) = .sl 4 es:=by cases q <;> simp [ztl]
theorem ydi {c:Cfg} (h:zb2 c=true):1≤c.la∧c.la≤100∧0≤c.de∧c.de≤4:=by
 unfold zb2 at h
 simp only [Bool.and_eq_true,zei] at h
 omega
def z3g (v:List (List Int)) (g rows:List Int) (f k:Nat):Cnd:=⟨f,k,zuh g (zsa (v.getD f []) rows k),zuh g (zsb (v.getD f []) rows k)⟩
def NI (S:Nat→Option Ob) (nx k:Nat) (m:List Int) (x:PV):Prop:=(x = .e0∧m=[])∨∃ o e,x = .ref o none e 0 m.length∧k<o∧o<nx∧S o=some (.row 1 (zad m))
theorem NI.up {S S':Nat→Option Ob} {nx nx' k:Nat} {l:List Int} {Y:PV} (h:NI S nx k l Y) (hn:nx≤nx') (hS : ∀ o e n,Y = .ref o none e 0 n→k<o→o<nx→S' o=S o):NI S' nx' k l Y:=by
 rcases h with h | ⟨o,e,h1,h2,h3,h4⟩
 ·exact .inl h
 ·exact .inr ⟨o,e,h1,h2,by omega,by rw [hS o e _ h1 h2 h3]; exact h4⟩
structure GH (c v:List (List Int)) (g:List Int) (cfg:Cfg):Prop where
 tk:zq1 c v g cfg=true
 sg:cfg.sg.length≤1048576
theorem GH.la {c v:List (List Int)} {g:List Int} {cfg:Cfg} (h:GH c v g cfg):1≤cfg.la∧cfg.la≤100∧0≤cfg.de∧cfg.de≤4:=ydi (yd1 h.tk).2.1
def WB (v:List (List Int)) (g rows:List Int) (la:Int) (S:Nat→Option Ob) (nx:Nat) (acc:Option Cnd) (B:List PV) (fd:PV):Prop:=(acc=none∧B=[iv 0,iv 0,.e0,.e0,bv false,uv 0,uv 0,iv 0]∧fd=bv false)∨∃ (f k o e p e':Nat),acc=some (z3g v g rows f k)∧B=[iv f,iv k,.ref o none e 0 (zsa (v.getD f []) rows k).length,.ref p none e' 0 (zsb (v.getD f []) rows k).length]++frc (ze6 (z3g v g rows f k) la).1∧fd=bv true∧4<o∧o<nx∧4<p∧p<nx∧¬ o=p∧S o=some (.row 1 (zad (zsa (v.getD f []) rows k)))∧S p=some (.row 1 (zad (zsb (v.getD f []) rows k)))
theorem WB.up {v:List (List Int)} {g rows:List Int} {la:Int} {S S':Nat→Option Ob} {nx nx':Nat} {acc:Option Cnd} {B:List PV} {fd:PV} (h:WB v g rows la S nx acc B fd) (hn:nx≤nx') (hS : ∀ o,4<o→o<nx→S' o=S o):WB v g rows la S' nx' acc B fd:=by
 rcases h with h | ⟨f,k,o,e,p,e',h1,h2,h3,h4,h5,h6,h7,h8,h9,h10⟩
 ·exact .inl h
 ·exact .inr ⟨f,k,o,e,p,e',h1,h2,h3,h4,by omega,h6,by omega,h8,by rw [hS o h4 h5]; exact h9,by rw [hS p h6 h7]; exact h10⟩
theorem NC.up {S S':Nat→Option Ob} {nx nx' oq oq':Nat} {m:List Nd} {x:PV} (h:NC S nx oq m x) (hn:nx≤nx') (ho:oq'=oq∨nx≤oq') (hS : ∀ p,5<p→p<nx→¬ p=oq→S' p=S p):NC S' nx' oq' m x:=by
 rcases h with h | ⟨p,e,h1,h2,h3,h4,h5⟩
 ·exact .inl h
 ·exact .inr ⟨p,e,h1,h2,by omega,by omega,by rw [hS p h2 h3 h4]; exact h5⟩
def okP (g:List Int) (cfg:Cfg) (x:Pnd):Prop:=yca g.length cfg.de x∧ztt x.b=true
def Str (c v:List (List Int)) (g:List Int) (cfg:Cfg) (Q:List Pnd) (F:List Nd) (j:Nat):Prop := ∃ (x:Pnd) (L:Nat),Q[j]?=some x∧okP g cfg x∧F[j]?=some (if goes c v g cfg x=true then ydm c (zrx c v g cfg x.r x.b).1 L else yey g cfg x)∧(goes c v g cfg x=true→j<L∧Q[L]?=some (ybe c v cfg x (zrx c v g cfg x.r x.b).1)∧Q[L+1]?=some (yd6 c v cfg x (zrx c v g cfg x.r x.b).1))
theorem zq4 {α:Type} {l m:List α} {i:Nat} {x:α} (h:l[i]?=some x):(l++m)[i]?=some x:=by
 rw [List.getElem?_append_left (List.getElem?_eq_some_iff.mp h).1]; exact h
theorem Str.up {c v:List (List Int)} {g:List Int} {cfg:Cfg} {Q R:List Pnd} {F E:List Nd} {j:Nat} (h:Str c v g cfg Q F j):Str c v g cfg (Q++R) (F++E) j:=by
 obtain ⟨x,L,h1,h2,h3,h4⟩:=h
 exact ⟨x,L,zq4 h1,h2,zq4 h3,fun hg=>⟨(h4 hg).1,zq4 (h4 hg).2.1,zq4 (h4 hg).2.2⟩⟩
def zb9 (t:List Nd):List Int:=(lvs t 0).map fun k=>(atI t k).elim 0 Nd.v
def zba (t:List Nd):List Int:=Lib.compact (zbt (zb9 t))
theorem yf5 (t:List Nd):(zba t).length≤t.length:=by
 have h1:=ygg (zbt (zb9 t))
 rw [zr0] at h1
 have h2:(zb9 t).length=(lvs t 0).length:=by simp [zb9]
 have h3:=zhz t 0
 unfold zba
 omega
theorem z0y {t:List Nd} {i:Nat} {k:Int} {x:Nd} (h:(lvs t 0)[i]?=some k) (hx:atI t k=some x):(zb9 t).take (i+1)=(zb9 t).take i++[x.v]:=by
 have:(zb9 t)[i]?=some x.v:=by unfold zb9; simp [h,hx]
 rw [List.take_succ,this]; rfl
set_option maxHeartbeats 1000000 in
theorem zyb (t:List Nd) (hl:t.length≤1048576):RUN T zgw [.agg [.sl 5 (t.map nd)]]=some ([.own 1 (zad (zba t))],[]):=by
 have hr0:zaz 8 0=true:=by decide
 have hr1:zaz 8 1=true:=by decide
 have hLl:=zhz t 0
 have e1:=zx6 t hl
 have hvl:(zb9 t).length=(lvs t 0).length:=by simp [zb9]
 have e2:=z96 (zb9 t) (by omega)
 have hin : ∀ y∈lvs t 0,∃ (j:Nat) (x:Nd),y=j∧t[j]?=some x:=fun y hy=>by
  obtain ⟨j,x,h1,_,h2⟩:=(zry t 0 y).mp hy
  exact ⟨j,x,by omega,h1⟩
 have hsn:=fun {i:Nat} {k:Int} {x:Nd}=>z0y (t:=t) (i:=i) (k:=k) (x:=x)
 change RUN T zgw [.agg [.sl 5 (t.map nd)]]=some ([.own 1 (zad (Lib.compact (zbt (zb9 t))))],[])
 generalize Lib.compact (zbt (zb9 t))=R at *
 generalize zb9 t=W at *
 generalize lvs t 0=L at *
 refine zav zv2 rfl ?_
 simp [-getElem?_pos,znj,znk,hr0,e1]
 refine zbl (fun n st => ∃ (i o e q e2:Nat) (m:List Int),i+n=L.length∧m=W.take i∧m.length=i∧st.V 1 = .ptr 0 none 0 0 0∧st.V 3 = .ref o none e 0 m.length∧st.V 8 = .ref q none e2 0 L.length∧st.V 9=iv L.length∧st.V 10=iv i∧¬ o=q∧¬ o=0∧¬ q=0∧o<st.nx∧q<st.nx∧st.S 0=some (.box [.sl 5 (t.map nd)])∧st.S o=some (.row 1 (zad m))∧st.S q=some (.row 1 (zad L))) ?_ L.length _ ⟨0,1,0,2,0,[],by omega,by simp,by simp,by simp,by simp,by simp,by simp,by simp,by omega,by omega,by omega,by simp,by simp,by simp,by simp [zad],by simp⟩
 rintro n st ⟨i,o,e,q,ep,m,hi,hm,hml,v1,v3,v8,v9,v10,hoq,ho0,hq0,hox,hqx,S0,So,Sq⟩
 have x0:=fr (by omega:0<st.nx)
 have x1:=fr hox
 have x2:=fr hqx
 have hqo : ¬ q=o:=fun e=>hoq e.symm
 have ho0' : ¬ 0=o:=fun e=>ho0 e.symm
 have hq0' : ¬ 0=q:=fun e=>hq0 e.symm
 have n0 : ¬ st.nx=0:=by omega
 by_cases h:i<L.length
 ·obtain ⟨k,hk⟩ : ∃ k,L[i]?=some k:=⟨_,List.getElem?_eq_getElem h⟩
  have hk':=zcw hk
  obtain ⟨j,x,rfl,hx⟩:=hin k (List.mem_of_getElem? hk)
  have hjl:=(List.getElem?_eq_some_iff.mp hx).1
  have hs:=hsn hk (zrl hx)
  rw [← hm] at hs
  have hx':(t.map nd)[j]?=some (nd x):=by simp [hx]
  obtain ⟨xf,xc,xl,xr,xv⟩:=x
  simp only [nd] at hx'
  simp only at hs
  have hw:=wS h (by omega:L.length≤9223372036854775807)
  have hr8:=zd5 (n:=m.length+1) (by omega)
  have hsm:=zda m xv
  simp [-getElem?_pos,zsi,v1,v3,v8,v9,v10,S0,So,Sq,h,hk',hx',hjl,hw,hr1,hr8,hsm,hoq,hqo,ho0,hq0,ho0',hq0',x0,x1,x2]
  exact za2 (n-1) (by omega) ⟨i+1,st.nx+1,st.ep,q,ep,m++[xv],by omega,hs.symm,by simp [hml],by simp [v1],by simp,by simp [v8],by simp [v9],by simp,by omega,by omega,hq0,by simp,by simp; omega,by simp [S0,x0,n0,ho0'],by simp,by simp [Sq,hqo,x2]⟩
 ·have hie:i=L.length:=by omega
  have hmW:m=W:=by rw [hm,hie,← hvl,List.take_length]
  subst hmW
  simp [-getElem?_pos,zsi,v1,v3,v8,v9,v10,So,Sq,h,e2]
set_option maxHeartbeats 1000000 in
theorem z98 (t:List Nd) (hl:t.length≤1048576):RUN T zh4 [.agg [.sl 5 (t.map nd)]]=some ([.own 1 (zad (zba t))],[]):=by
 have hr0:zaz 8 0=true:=by decide
 have hr1:zaz 8 1=true:=by decide
 have hLl:=zhz t 0
 have e1:=zx5 t hl
 have hvl:(zb9 t).length=(lvs t 0).length:=by simp [zb9]
 have e2:=z97 (zb9 t) (by omega)
 have hin : ∀ y∈lvs t 0,∃ (j:Nat) (x:Nd),y=j∧t[j]?=some x:=fun y hy=>by
  obtain ⟨j,x,h1,_,h2⟩:=(zry t 0 y).mp hy
  exact ⟨j,x,by omega,h1⟩
 have hsn:=fun {i:Nat} {k:Int} {x:Nd}=>z0y (t:=t) (i:=i) (k:=k) (x:=x)
 change RUN T zh4 [.agg [.sl 5 (t.map nd)]]=some ([.own 1 (zad (Lib.compact (zbt (zb9 t))))],[])
 generalize Lib.compact (zbt (zb9 t))=R at *
 generalize zb9 t=W at *
 generalize lvs t 0=L at *
 refine zav zv1 rfl ?_
 simp [-getElem?_pos,znh,zni,hr0,e1]
 refine zbl (fun n st => ∃ (i o e q e2:Nat) (m:List Int),i+n=L.length∧m=W.take i∧m.length=i∧st.V 1 = .ptr 0 none 0 0 0∧st.V 3 = .ref o none e 0 m.length∧st.V 4 = .ref q none e2 0 L.length∧st.V 5=iv i∧¬ o=q∧¬ o=0∧¬ q=0∧o<st.nx∧q<st.nx∧st.S 0=some (.box [.sl 5 (t.map nd)])∧st.S o=some (.row 1 (zad m))∧st.S q=some (.row 1 (zad L))) ?_ L.length _ ⟨0,1,0,2,0,[],by omega,by simp,by simp,by simp,by simp,by simp,by simp,by omega,by omega,by omega,by simp,by simp,by simp,by simp [zad],by simp⟩
 rintro n st ⟨i,o,e,q,ep,m,hi,hm,hml,v1,v3,v4,v5,hoq,ho0,hq0,hox,hqx,S0,So,Sq⟩
 have x0:=fr (by omega:0<st.nx)
 have x1:=fr hox
 have x2:=fr hqx
 have hqo : ¬ q=o:=fun e=>hoq e.symm
 have ho0' : ¬ 0=o:=fun e=>ho0 e.symm
 have hq0' : ¬ 0=q:=fun e=>hq0 e.symm
 have n0 : ¬ st.nx=0:=by omega
 by_cases h:i<L.length
 ·obtain ⟨k,hk⟩ : ∃ k,L[i]?=some k:=⟨_,List.getElem?_eq_getElem h⟩
  have hk':=zcw hk
  obtain ⟨j,x,rfl,hx⟩:=hin k (List.mem_of_getElem? hk)
  have hjl:=(List.getElem?_eq_some_iff.mp hx).1
  have hs:=hsn hk (zrl hx)
  rw [← hm] at hs
  have hx':(t.map nd)[j]?=some (nd x):=by simp [hx]
  obtain ⟨xf,xc,xl,xr,xv⟩:=x
  simp only [nd] at hx'
  simp only at hs
  have hw:=wS h (by omega:L.length≤9223372036854775807)
  have hr8:=zd5 (n:=m.length+1) (by omega)
  have hsm:=zda m xv
  simp [-getElem?_pos,zsh,v1,v3,v4,v5,S0,So,Sq,h,hk',hx',hjl,hw,hr1,hr8,hsm,hoq,hqo,ho0,hq0,ho0',hq0',x0,x1,x2]
  exact za2 (n-1) (by omega) ⟨i+1,st.nx+1,st.ep,q,ep,m++[xv],by omega,hs.symm,by simp [hml],by simp [v1],by simp,by simp [v4],by simp,by omega,by omega,hq0,by simp,by simp; omega,by simp [S0,x0,n0,ho0'],by simp,by simp [Sq,hqo,x2]⟩
 ·have hie:i=L.length:=by omega
  have hmW:m=W:=by rw [hm,hie,← hvl,List.take_length]
  subst hmW
  simp [-getElem?_pos,zsh,v1,v3,v4,v5,So,Sq,h,e2]
structure zep (h:Nd→Nd):Prop where
 f : ∀ x,(h x).f=x.f
 c : ∀ x,(h x).c=x.c
 l : ∀ x,(h x).l=x.l
 r : ∀ x,(h x).r=x.r
theorem zuj (c:Cfg):zep (zb8 c):=by
 refine ⟨?_,?_,?_,?_⟩ <;> intro x <;> unfold zb8 <;> split <;> rfl
variable {h:Nd→Nd}
theorem ygb (H:zep h) (k:Int) (x:Nd):zc8 k (h x)=zc8 k x:=by
 unfold zc8; rw [H.f,H.l,H.r]
theorem zz4 (H:zep h) (t:List Nd) (k:Int):par (t.map h) k=par t k:=by
 unfold par zfg
 rw [List.findIdx?_map]
 have:zc8 k ∘ h=zc8 k:=funext fun x=>ygb H k x
 rw [this]
theorem zy6 (H:zep h) : ∀ (t:List Nd) (i:Int),lvs (t.map h) i=lvs t i
 | [],i=>rfl
 | x::xs,i=>by
  simp only [List.map_cons,lvs,H.f,zy6 H xs]
theorem zz9 (H:zep h) (t:List Nd) : ∀ (n:Nat) (k:Int),anc (t.map h) n k=anc t n k
 | 0,k=>rfl
 | n+1,k=>by rw [zgb,zgb,zz4 H,zz9 H t n]
theorem z3q (H:zep h) (t:List Nd) : ∀ (n:Nat) (k:Int),lev (t.map h) n k=lev t n k
 | 0,k=>rfl
 | n+1,k=>by simp only [lev,zz4 H,z3q H t n]
theorem yaq (H:zep h) (t:List Nd) (k:Int):way (t.map h) k=way t k:=by
 unfold way; rw [zz9 H,List.length_map]
theorem ycc (H:zep h) (t:List Nd) (k:Int):zct (t.map h) k=zct t k:=by
 unfold zct; rw [z3q H,List.length_map]
theorem zys (H:zep h) (t:List Nd) : ∀ n:Nat,dpt (t.map h) n=dpt t n
 | 0=>rfl
 | n+1=>by simp only [dpt,zys H t n,ycc H]
theorem z1s (H:zep h) (t:List Nd) (row:List Int) : ∀ (n:Nat) (a:Int),rt (t.map h) row n a=rt t row n a
 | 0,a=>rfl
 | n+1,a=>by
  rw [rt,rt,List.getElem?_map]
  by_cases h0:0≤a
  ·rw [if_pos h0,if_pos h0]
   cases t[a.toNat]? with
   | none=>rfl
   | some x=>simp only [Option.map_some,H.f,H.c,H.l,H.r,z1s H t row n]
  ·rw [if_neg h0,if_neg h0]
theorem yg6 (H:zep h) (t:List Nd) (row:List Int):rto (t.map h) row=rto t row:=by
 unfold rto zf3; rw [z1s H,List.length_map]
theorem yda (H:zep h) (t:List Nd):ze9 (t.map h)=ze9 t:=by
 have hb : ∀ (x:Nd) (a b:Int),zcx (t.map h) (h x) a b=zcx t x a b:=fun x a b=>by
  unfold zcx
  rw [List.getElem?_map]
  cases t[a.toNat]? with
  | none=>rfl
  | some y=>simp only [Option.map_some,H.f,H.c,H.l,H.r]
 have hw : ∀ i,zel (t.map h) i=zel t i:=fun i=>by
  unfold zel
  rw [List.getElem?_map,yaq H]
  cases t[i]? with
  | none=>rfl
  | some x =>
   have:zcx (t.map h) (h x)=zcx t x:=funext fun a=>funext fun b=>hb x a b
   simp only [Option.map_some,H.f,this]
 unfold ze9
 have:zel (t.map h)=zel t:=funext hw
 rw [this,List.length_map]
theorem z10 (H:zep h) (hi : ∀ x:Nd,x.f ≠ -1→h x=x) (F:Int) : ∀ (t:List Nd) (i n:Int),(∀ x∈t,x.f = -1→zc9 x.v=true→zc9 (h x).v=true)→∀ m,shp F t i n=some m→shp F (t.map h) i n=some m
 | [],i,n,_,m,e=>e
 | x::xs,i,n,hv,m,e=>by
  have ih:=z10 H hi F xs
  rw [shp] at e
  rw [List.map_cons,shp]
  by_cases hf:x.f = -1
  ·rw [if_pos hf] at e
   rw [H.f,if_pos hf]
   split at e
   ·rename_i hc
    rw [if_pos ⟨by rw [H.c,H.l,H.r]; exact hc.1,hv x (by simp) hf hc.2⟩]
    exact ih _ _ (fun y hy=>hv y (by simp [hy])) m e
   ·cases e
  ·rw [if_neg hf] at e
   rw [hi x hf,if_neg hf]
   split at e
   ·rename_i hc
    rw [if_pos hc]
    exact ih _ _ (fun y hy=>hv y (by simp [hy])) m e
   ·cases e
theorem yg9 {v:Int} {c:Cfg} (hk:(shr v c).2=true):zc9 (shr v c).1=true:=by
 unfold shr at hk ⊢
 split
 ·rename_i hc
  simp only [Bool.and_eq_true] at hc
  obtain ⟨_,_,_,_,_,hd,hn,_⟩:=z1y hc.1
  have hv:=zei.mp hc.2
  refine zei.mpr ?_
  simp only
  constructor
  ·rw [Int.fdiv_eq_ediv_of_nonneg _ (by omega),Int.le_ediv_iff_mul_le (by omega)]
   by_cases h0:0≤v
   ·have:=Int.mul_nonneg h0 (by omega:0≤c.nu)
    omega
   ·have a1:v*c.dn≤v*c.nu:=Int.mul_le_mul_of_nonpos_left (by omega) (by omega)
    have a2 : -1099511627776*c.dn≤v*c.dn:=Int.mul_le_mul_of_nonneg_right hv.1 (by omega)
    omega
  ·have a0:v*c.nu≤1099511627776*c.dn:=by
    by_cases h0:0≤v
    ·have a1:v*c.nu≤v*c.dn:=Int.mul_le_mul_of_nonneg_left (by omega) h0
     have a2:v*c.dn≤1099511627776*c.dn:=Int.mul_le_mul_of_nonneg_right hv.2 (by omega)
     omega
    ·have a1:v*c.nu≤0:=Int.mul_nonpos_of_nonpos_of_nonneg (by omega) (by omega)
     omega
   have a3:(v*c.nu).fdiv c.dn*c.dn≤v*c.nu:=by
    rw [Int.fdiv_eq_ediv_of_nonneg _ (by omega),← Int.le_ediv_iff_mul_le (by omega)]
    exact Int.le_refl _
   have a4:(v*c.nu).fdiv c.dn*c.dn≤1099511627776*c.dn:=by omega
   exact Int.le_of_mul_le_mul_right a4 (by omega)
 ·rename_i hc; rw [if_neg hc] at hk; cases hk
theorem yfj {t:List Nd} {c:Cfg} {F:Int} (hk:t.all (zf4 c)=true) (ht:zdl t F=true):zdl (t.map (zb8 c)) F=true:=by
 have H:=zuj c
 unfold zdl at ht ⊢
 rw [List.length_map,zys H,yda H]
 simp only [Bool.and_eq_true] at ht ⊢
 obtain ⟨⟨⟨⟨a1,a2⟩,a3⟩,a4⟩,a5⟩:=ht
 refine ⟨⟨⟨⟨a1,a2⟩,?_⟩,a4⟩,a5⟩
 unfold zdd at a3 ⊢
 cases e:shp F t 0 1 with
 | none=>rw [e] at a3; cases a3
 | some m =>
  rw [e] at a3
  rw [z10 H (fun x hx=>by unfold zb8; rw [if_neg hx]) F t 0 1 (fun x hx hf _=>by
   have:=List.all_eq_true.mp hk x hx
   unfold zf4 at this
   simp only [hf,decide_true,Bool.not_true,Bool.false_or] at this
   unfold zb8
   rw [if_pos hf]
   exact yg9 this) m e]
  rw [List.length_map]
  exact a3
theorem z2f : ∀ (a b:List Int),a.Pairwise (fun x y=>x<y)→(∀ x∈a,x∈b)→a.length≤b.length
 | [],b,_,_=>by simp
 | x::xs,b,h,k=>by
  obtain ⟨s,t,rfl⟩:=List.append_of_mem (k x (by simp))
  obtain ⟨h1,h2⟩:=List.pairwise_cons.mp h
  have:=z2f xs (s++t) h2 (fun y hy=>by
   have hy2:=k y (by simp [hy])
   have hlt:=h1 y hy
   simp only [List.mem_append,List.mem_cons] at hy2 ⊢
   rcases hy2 with e | e | e
   ·exact .inl e
   ·omega
   ·exact .inr e)
  simp only [List.length_append,List.length_cons] at this ⊢
  omega
theorem zzi (l:List Int):(Lib.compact (zbt l)).Pairwise (fun x y=>x<y)∧∀ y,y∈Lib.compact (zbt l)↔y∈l:=by
 obtain ⟨s1,s2⟩:=zuy l [] List.Pairwise.nil
 have s2':(zbt l).Perm l:=by simpa [zbt] using s2
 obtain ⟨h1,h2⟩:=z17 (a:=zbt l) s1 (zbt l).length (Nat.le_refl _)
 refine ⟨h1,fun y => ?_⟩
 rw [show Lib.compact (zbt l)=Lib.compactUpTo (zbt l).toArray (zbt l).length from rfl,h2 y,← s2'.mem_iff]
 constructor
 ·rintro ⟨j,_,e⟩; exact List.mem_of_getElem? e
 ·intro h
  obtain ⟨j,hj⟩:=List.getElem?_of_mem h
  exact ⟨j,(List.getElem?_eq_some_iff.mp hj).1,hj⟩
theorem ydo (t:List Nd) (c:Cfg):zb9 (t.map (zb8 c))=(zb9 t).map fun v=>(shr v c).1:=by
 unfold zb9
 rw [zy6 (zuj c),List.map_map]
 refine List.map_congr_left fun k hk => ?_
 obtain ⟨j,x,h1,h2,h3⟩:=(zry t 0 k).mp hk
 have hk':k=j:=by omega
 have e1:atI t k=some x:=by rw [hk']; exact zrl h1
 have e2:atI (t.map (zb8 c)) k=some (zb8 c x):=by rw [hk']; exact zrl (by simp [h1])
 simp only [Function.comp_apply,e1,e2,Option.elim]
 unfold zb8
 rw [if_pos h2]
theorem yac (t:List Nd) (c:Cfg):(zba (t.map (zb8 c))).length≤(zba t).length:=by
 unfold zba
 rw [ydo]
 obtain ⟨h1,h2⟩:=zzi ((zb9 t).map fun v=>(shr v c).1)
 obtain ⟨_,h4⟩:=zzi (zb9 t)
 have:=z2f _ ((Lib.compact (zbt (zb9 t))).map fun v=>(shr v c).1) h1 (fun x hx=>by
  obtain ⟨v,hv,rfl⟩:=List.mem_map.mp ((h2 x).mp hx)
  exact List.mem_map.mpr ⟨v,(h4 v).mpr hv,rfl⟩)
 simpa using this
theorem z99 (B:List Int) (hB:B.length≤9223372036854775807) : ∃ (t:List Nd) (c:Cfg),t.length≤32∧c.sg.length≤64∧RUN T zjp [.sl 1 (zbw B)]=some ([.agg [.own 5 (t.map nd)],zmh c],[]):=by
 obtain ⟨r,h,s,rfl⟩:=zx8 B hB
 simp only [Int.natCast_zero] at h
 obtain ⟨r2,h2,v2,p2,s2,⟨t,rfl,ht⟩,hp2,rfl⟩:=zx9 B 0 s (by omega) hB
 simp only [Int.natCast_zero] at h2
 obtain ⟨r3,h3,v3,p3,s3,⟨c,rfl,hc⟩,hp3,rfl⟩:=z9q B p2 s2 hp2 hB
 simp only [zmh] at h3
 refine ⟨t,c,ht,hc,zav zv4 rfl ?_⟩
 simp [-getElem?_pos,znn,zno,h,h2,h3]
set_option maxHeartbeats 4000000 in
set_option maxRecDepth 4000 in
theorem yd4 (B:List Int) (hB:B.length≤9223372036854775807):RUN T zl0 [.sl 1 (zbw B)]=some ([bv true],[]):=by
 have hb:=z9m (zbw B)
 rw [yfl] at hb
 by_cases c0:(1048576:Int)<B.length
 ·refine zav zk5 rfl ?_
  simp [-getElem?_pos,zii,zij,hb,c0]
 obtain ⟨t,c,ht,hc,hd⟩:=z99 B hB
 obtain ⟨t2,row,ht2,hrow,_,hd2⟩:=z9w B hB
 have a1:=z92 t c (by omega) (by omega)
 have a2:=z91 t c (by omega) (by omega)
 have v1:=zyb t (by omega)
 have v2:=z98 t (by omega)
 have hvl:=yf5 t
 have s1:=z9u (zba t) (by omega)
 have b1:=z9o (zeh c t).1 (zeh c t).1 (by unfold zeh; split <;> simp <;> omega) (by unfold zeh; split <;> simp <;> omega)
 rw [decide_eq_true rfl] at b1
 cases hk:t.all (zf4 c) with
 | false =>
  have hT:zeh c t=([],false):=by unfold zeh; rw [hk]; rfl
  rw [hT] at a1 a2 b1
  simp only [List.map_nil] at a1 a2 b1
  generalize zba t=V at *
  simp only [zgn,zmh] at hd a1 a2
  refine zav zk5 rfl ?_
  simp [-getElem?_pos,zii,zij,hb,c0,hd,hd2,a1,a2,v1,v2,s1,b1]
 | true =>
  have hT:zeh c t=(t.map (zb8 c),true):=by unfold zeh; rw [if_pos hk]
  rw [hT] at a1 a2 b1
  have r1:=z86 (t.map (zb8 c)) row (by simp; omega) (by omega)
  have r2:=z85 t row (by omega) (by omega)
  rw [yg6 (zuj c)] at r1
  have v3:=zyb (t.map (zb8 c)) (by simp; omega)
  have hle:=yac t c
  have o1:=zx7 t 3 (by omega)
  have o2:=z9k (t.map (zb8 c)) 3 (by simp; omega)
  have ho:=yfj (F:=3) hk
  have hle':((zba (t.map (zb8 c))).length:Int)≤(zba t).length:=by omega
  generalize zba t=V at *
  generalize zba (t.map (zb8 c))=V2 at *
  generalize rto t row=rr at *
  generalize hu:t.map (zb8 c)=u at *
  have hul:u.length=t.length:=by rw [← hu]; simp
  simp only [zgn,zmh] at hd a1 a2
  cases hto:zdl t 3 with
  | false =>
   rw [hto] at o1
   refine zav zk5 rfl ?_
   simp [-getElem?_pos,zii,zij,hb,c0,hd,hd2,a1,a2,v1,v2,v3,s1,b1,r1,r2,hle,hle',o1]
  | true =>
   rw [hto] at o1
   rw [ho hto] at o2
   refine zav zk5 rfl ?_
   simp [-getElem?_pos,zii,zij,hb,c0,hd,hd2,a1,a2,v1,v2,v3,s1,b1,r1,r2,hle,hle',o1,o2]
end Go.Pe
