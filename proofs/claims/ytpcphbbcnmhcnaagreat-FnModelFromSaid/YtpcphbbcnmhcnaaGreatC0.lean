/- What each function answers by the evaluator,and the law; for each answer its own conditions stand ahead of it. -/
import Derived.Test.YtpcphbbcnmhcnaaGreatK1
import Derived.Test.YtpcphbbcnmhcnaaGreatEvB2
import Derived.IntWalk
set_option linter.all false
namespace Go.Pe
open Go
theorem w64 {x:Int} (h1 : -9223372036854775808≤x) (h2:x≤9223372036854775807):IntKind.i64.wrap x=x:=IntWalk.i64_in x ⟨h1,h2⟩
@[simp] theorem qov {x:Int} (h1 : -9223372036854775808≤x) (h2:x≤9223372036854775807):IntKind.i64.wrap x=x:=w64 h1 h2
structure Nd where
 f:Int
 c:Int
 l:Int
 r:Int
 v:Int
deriving DecidableEq
def nd (n:Nd):List PV:=[iv n.f,iv n.c,iv n.l,iv n.r,iv n.v]
@[simp] theorem qdh (a b c d e:Int):RUN T zjl [.agg [iv a,iv b,iv c,iv d,iv e]]=some ([bv (decide (a = -1))],[]):=by
 refine zaf ycu rfl ?_
 simp [zzv,zzw]
@[simp] theorem zdn (a b c:Int):RUN T zco [iv a,iv b,iv c]=some ([bv (decide (b≤a) && decide (a≤c))],[]):=by
 refine zaf ybl rfl ?_
 simp [zxy,zxz]
 refine zao (fun h => ?_) (fun h => ?_) <;> simp [h]
@[simp] theorem qdi (a b c d e:Int):RUN T zgy [.agg [iv a,iv b,iv c,iv d,iv e]]=some ([bv (!decide (a = -1))],[]):=by
 refine zaf ydc rfl ?_
 simp [z0d,z0e]
@[simp] theorem zav (a b c:Int):RUN T zbd [iv a,iv b,iv c]=some ([bv (decide (b≤a) && decide (a≤c))],[]):=by
 refine zaf yav rfl ?_
 simp [zw5,zw6]
 refine zao (fun h => ?_) (fun h => ?_) <;> simp [h]
def zgf {α:Type} (p:α→Bool) (l:List α):Int:=match l.findIdx? p with
 | some i=>(i:Int)
 | none => -1
theorem ztk {α:Type} {p:α→Bool} {l:List α} (h : ∀ (j:Nat) (x:α),j<l.length→l[j]?=some x→p x=false):zgf p l = -1:=by
 unfold zgf
 have:l.findIdx? p=none:=by
  rw [List.findIdx?_eq_none_iff]
  intro x hx
  obtain ⟨j,hj⟩:=List.getElem?_of_mem hx
  exact h j x (List.getElem?_eq_some_iff.mp hj).1 hj
 rw [this]
theorem zou {α:Type} {p:α→Bool} {l:List α} {i:Nat} {x:α} (hi:l[i]?=some x) (hp:p x=true) (h : ∀ (j:Nat) (x:α),j<i→l[j]?=some x→p x=false):zgf p l=i:=by
 unfold zgf
 have:l.findIdx? p=some i:=by
  rw [List.findIdx?_eq_some_iff_getElem]
  obtain ⟨h1,h2⟩:=List.getElem?_eq_some_iff.mp hi
  refine ⟨h1,by rw [h2]; exact hp,fun j hj => ?_⟩
  have:=h j l[j] hj (List.getElem?_eq_getElem (by omega))
  simp [this]
 rw [this]
theorem zwm {α:Type} {p:α→Bool} {l:List α} {i:Nat} {x:α} (h : ∀ (j:Nat) (x:α),j<i→l[j]?=some x→p x=false) (hi:l[i]?=some x) (hp:p x=false) : ∀ (j:Nat) (x:α),j<i+1→l[j]?=some x→p x=false:=by
 intro j y hj hy
 by_cases e:j=i
 ·subst e; rw [hi] at hy; cases hy; exact hp
 ·exact h j y (by omega) hy
def zf3 (k:Int) (n:Nd):Bool := !decide (n.f = -1) && (decide (n.l=k) || decide (n.r=k))
def par (t:List Nd) (k:Int):Int:=zgf (zf3 k) t
theorem wS {i n:Nat} (h:i<n) (hn:n≤9223372036854775807):IntKind.i64.wrap ((i:Int)+1)=(i:Int)+1:=w64 (by omega) (by omega)
theorem yey (t:List Nd) (k:Int) (hl:t.length≤9223372036854775807):RUN T zlb [.agg [.sl 5 (t.map nd)],iv k]=some ([iv (par t k)],[]):=by
 refine zaf ydi rfl ?_
 simp [z0p,z0q]
 refine zas (fun n st => ∃ i:Nat,i+n=t.length∧st.V 1=iv k∧st.V 2 = .ptr 0 none 0 0 0∧st.V 5=iv i∧st.S 0=some (.box [.sl 5 (t.map nd)])∧∀ (j:Nat) (x:Nd),j<i→t[j]?=some x→zf3 k x=false) ?_ t.length _ ⟨0,by simp⟩
 rintro n st ⟨i,hi,h1,h2,h5,hS,hj⟩
 simp [z95,h1,h2,h5,hS]
 refine zao (fun h => ?_) (fun h => ?_)
 ·simp at h
  obtain ⟨x,hx⟩ : ∃ x,t[i]?=some x:=⟨_,List.getElem?_eq_getElem h⟩
  have hw:=wS h hl
  simp [h1,h2,h5,hS,hx,nd,hw]
  refine zao (fun b0 => ?_) (fun b0 => ?_) <;> (try simp at b0) <;> simp [-getElem?_pos,b0,h1,h2,h5,hS,hx,nd,hw]
  all_goals try (refine zao (fun b1 => ?_) (fun b1 => ?_) <;> (try simp at b1) <;> simp [-getElem?_pos,b0,b1,h1,h2,h5,hS,hx,nd,hw])
  all_goals try (refine zao (fun b2 => ?_) (fun b2 => ?_) <;> (try simp at b2) <;> simp [-getElem?_pos,b0,b1,b2,h1,h2,h5,hS,hx,nd,hw])
  all_goals first
   | exact (zou hx (by simp [zf3, *]) hj).symm
   | exact zal (n-1) (by omega) ⟨i+1,by omega,by simp [h1],by simp [h2],by simp,by simp [hS],zwm hj hx (by simp [zf3, *])⟩
 ·simp at h
  simp [h]
  exact (ztk fun j x hl hx=>hj j x (by omega) hx).symm
theorem ywg (a b c d e x:Int):RUN T zne [.agg [iv a,iv b,iv c,iv d,iv e],.fptr [iv x] 0]=some ([bv (zf3 x ⟨a,b,c,d,e⟩)],[]):=by
 refine zaf yd6 rfl ?_
 simp [z1u,z1v]
 refine zao (fun b0 => ?_) (fun b0 => ?_) <;> (try simp at b0) <;> simp [-getElem?_pos,b0,]
 all_goals try (refine zao (fun b1 => ?_) (fun b1 => ?_) <;> (try simp at b1) <;> simp [-getElem?_pos,b0,b1,])
 all_goals try (refine zao (fun b2 => ?_) (fun b2 => ?_) <;> (try simp at b2) <;> simp [-getElem?_pos,b0,b1,b2,])
 all_goals simp [zf3, *]
theorem ywh {f:Nat} {c:PV} {p:Nd→Bool} (t:List Nd) (hl:t.length≤9223372036854775807) (hm:zad T f=[]) (hp : ∀ n:Nd,RUN T f [.agg (nd n),.fptr [c] 0]=some ([bv (p n)],[])) :
  RUN T zrf [.sl 5 (t.map nd),.fn f [.fptr [c] 0]]=some ([iv (zgf p t)],[]):=by
 refine zaf yd5 rfl ?_
 simp [z1s,z1t]
 refine zas (fun n st => ∃ i:Nat,i+n=t.length∧st.V 0 = .sl 5 (t.map nd)∧st.V 1 = .fn f [.fptr [c] 0]∧st.V 8=iv i∧st.V 7=iv t.length∧∀ (j:Nat) (x:Nd),j<i→t[j]?=some x→p x=false) ?_ t.length _ ⟨0,by simp⟩
 rintro n st ⟨i,hi,h0,h1,h8,h7,hj⟩
 simp [yae,h0,h1,h8,h7]
 refine zao (fun h => ?_) (fun h => ?_)
 ·simp at h
  obtain ⟨x,hx⟩ : ∃ x,t[i]?=some x:=⟨_,List.getElem?_eq_getElem h⟩
  have hw:=wS h hl
  have hpx:=hp x
  simp only [nd] at hpx
  simp [h0,h1,h8,h7,hx,nd,hw,hm,hpx]
  refine zao (fun b0 => ?_) (fun b0 => ?_) <;> (try simp at b0) <;> simp [-getElem?_pos,b0,h0,h1,h8,h7,hx,hw]
  all_goals first
   | exact (zou hx b0 hj).symm
   | exact zal (n-1) (by omega) ⟨i+1,by omega,by simp [h0],by simp [h1],by simp,by simp [h7],zwm hj hx b0⟩
 ·simp at h
  simp [h]
  exact (ztk fun j x hl hx=>hj j x (by omega) hx).symm
theorem ywi (t:List Nd) (k:Int) (hl:t.length≤9223372036854775807):RUN T zna [.agg [.sl 5 (t.map nd)],iv k]=some ([iv (par t k)],[]):=by
 refine zaf ydu rfl ?_
 have h:=ywh (f:=zne) (c:=iv k) (p:=zf3 k) t hl (by simp) (fun n=>ywg n.f n.c n.l n.r n.v k)
 simp [z1c,z1d,h,par]
def lev (t:List Nd):Nat→Int→Int
 | 0,_ => -1
 | n+1,k=>if par t k<0 then 31-n else lev t n (par t k)
theorem ywj (t:List Nd) (k:Int) (hl:t.length≤9223372036854775807):RUN T zm6 [.agg [.sl 5 (t.map nd)],iv k]=some ([iv (if 0≤k∧k≤t.length-1 then lev t 32 k else -1)],[]):=by
 refine zaf ydh rfl ?_
 have hw:IntKind.i64.wrap ((t.length:Int)-1)=(t.length:Int)-1:=w64 (by omega) (by omega)
 simp [z0n,z0o,hw]
 refine zao (fun h => ?_) (fun h => ?_)
 ·simp at h
  simp [h]
  intro h1 h2
  omega
 ·have h':(0≤k∧k≤t.length-1):=by simpa using h
  rw [if_pos h']
  clear h
  obtain ⟨r,hr⟩ : ∃ r,r=lev t 32 k:=⟨_,rfl⟩
  rw [← hr]
  simp
  refine zas (fun n st => ∃ i:Nat,i+n=32∧∃ k':Int,lev t n k'=r∧st.V 1=iv k'∧st.V 2 = .ptr 0 none 0 0 0∧st.V 5=iv i∧st.S 0=some (.box [.sl 5 (t.map nd)])) ?_ 32 _ ⟨0,by simp [hr]⟩
  rintro n st ⟨i,hi,k',hk,h1,h2,h5,hS⟩
  simp [z94,h1,h2,h5,hS]
  refine zao (fun h => ?_) (fun h => ?_)
  ·simp at h
   have hw:IntKind.i64.wrap ((i:Int)+1)=(i:Int)+1:=w64 (by omega) (by omega)
   obtain ⟨m,rfl⟩ : ∃ m,n=m+1:=⟨n-1,by omega⟩
   simp only [lev] at hk
   simp [-getElem?_pos,h1,h2,h5,hS,hw,yey t k' hl]
   refine zao (fun b0 => ?_) (fun b0 => ?_) <;> (try simp at b0) <;> simp [-getElem?_pos,b0,h1,h2,h5,hS,hw]
   ·rw [if_pos b0] at hk; omega
   ·rw [if_neg (by omega)] at hk
    exact zal m (by omega) ⟨i+1,by omega,_,hk,by simp,by simp [h2],by simp,by simp [hS]⟩
  ·simp at h
   obtain rfl:n=0:=by omega
   simp only [lev] at hk
   simp [← hk]
def zab (l:List Int):List (List PV):=l.map fun n=>[iv n]
@[simp] theorem qpz (l:List Int):(zab l).length=l.length:=by simp [zab]
theorem za7 {l:List Int} {i:Nat} {x:Int} (h:l[i]?=some x):(zab l)[i]?=some [iv x]:=by simp [zab,h]
@[simp] theorem qss:zab []=[]:=rfl
theorem zv8 (x:Int) (l:List Int):zab (x::l)=[iv x]::zab l:=rfl
theorem z8n (l:List Int) (i:Nat) (x:Int):(zab l).set i [iv x]=zab (l.set i x):=by simp [zab,List.map_set]
theorem y2l (l m:List Int):zab l++zab m=zab (l++m):=by simp [zab]
theorem zb8 (l:List Int) (x:Int):zab l++[[iv x]]=zab (l++[x]):=by simp [zab]
theorem yj0 (l:List Int):zb5 (zab l)=true:=by simp [zb5,zab]
theorem ywk (l:List Int) (hl:l.length≤9223372036854775807):RUN T zq9 [.own 1 (zab l)]=some ([],[.own 1 (zab l.reverse)]):=by
 refine zaf ydv rfl ?_
 have hw:IntKind.i64.wrap ((l.length:Int)-1)=(l.length:Int)-1:=w64 (by omega) (by omega)
 simp [z1e,z1f,hw]
 refine zas (fun n st => ∃ i:Nat,i+n=l.length∧∃ m:List Int,m.length=l.length∧(∀ p,m[p]?=if p<i∨l.length-i≤p then l.reverse[p]? else l[p]?)∧2*i≤l.length+1∧st.V 0 = .ref 0 none 0 0 l.length∧st.V 2=iv i∧st.V 3=iv ((l.length:Int)-1-i)∧st.ep=0∧st.S 0=some (.row 1 (zab m))) ?_ l.length _ ⟨0,by simp,l,rfl,fun p => ?_,by omega,by simp⟩
 ·rintro n st ⟨i,hi,m,hm,hp,hb,h0,h2,h3,hep,hS⟩
  simp [yaa,h0,h2,h3,hS]
  refine zao (fun h => ?_) (fun h => ?_)
  ·simp at h
   obtain ⟨j,hj⟩ : ∃ j:Nat,j=l.length-1-i:=⟨_,rfl⟩
   have e3:(l.length:Int)-1-i=j:=by omega
   rw [e3] at h3
   obtain ⟨x,hx⟩ : ∃ x,m[i]?=some x:=⟨_,List.getElem?_eq_getElem (by omega)⟩
   obtain ⟨y,hy⟩ : ∃ y,m[j]?=some y:=⟨_,List.getElem?_eq_getElem (by omega)⟩
   have hw1:=wS (i:=i) (n:=l.length) (by omega) hl
   have hw2:IntKind.i64.wrap ((j:Int)-1)=(j:Int)-1:=w64 (by omega) (by omega)
   have hij:i<l.length:=by omega
   have hjl:j<l.length:=by omega
   have g1:=za7 hx
   have g2:=za7 hy
   have g3:(zab (m.set i y))[j]?=some [iv y]:=za7 (by rw [List.getElem?_set_ne (by omega)]; exact hy)
   simp [-getElem?_pos,h0,h2,h3,hS,hep,hw1,hw2,hm,g1,g2,g3,hij,hjl,z8n]
   refine zal (n-1) (by omega) ⟨i+1,by omega,(m.set i y).set j x,by simp [hm],fun p => ?_,by omega,by simp [h0],by simp,by simp; omega,by simp,by simp⟩
   have hxl:l[i]?=some x:=by have:=hp i; rw [if_neg (by omega),hx] at this; exact this.symm
   have hyl:l[j]?=some y:=by have:=hp j; rw [if_neg (by omega),hy] at this; exact this.symm
   rw [List.getElem?_set,List.getElem?_set]
   by_cases e1:j=p
   ·subst e1
    rw [if_pos rfl,if_pos (by simp [hm]; omega),if_pos (by omega),List.getElem?_reverse (by omega),show l.length-1-j=i by omega,hxl]
   ·rw [if_neg e1]
    by_cases e2:i=p
    ·subst e2
     rw [if_pos rfl,if_pos (by omega),if_pos (by omega),List.getElem?_reverse (by omega),← hj,hyl]
    ·rw [if_neg e2,hp p]
     by_cases c:p<i∨l.length-i≤p
     ·rw [if_pos c,if_pos (by omega)]
     ·rw [if_neg c,if_neg (by omega)]
  ·simp at h
   have hmr:m=l.reverse:=by
    apply List.ext_getElem?
    intro p
    rw [hp p]
    split
    ·rfl
    ·rename_i c
     obtain rfl:p=i:=by omega
     rw [List.getElem?_reverse (by omega),show l.length-1-p=p by omega]
   subst hmr
   simp [hS]
 ·simp
  intro h
  rw [List.getElem?_eq_none h,List.getElem?_eq_none (by simpa using h)]
def anc (t:List Nd):Nat→Int→Option (List Int)
 | 0,_=>none
 | n+1,k=>if par t k<0 then some [] else (anc t n (par t k)).map (par t k :: ·)
theorem zkd (t:List Nd) (n:Nat) (k:Int):anc t (n+1) k=if par t k<0 then some [] else (anc t n (par t k)).map (par t k :: ·):=rfl
def way (t:List Nd) (k:Int):List Int:=if 0≤k∧k≤t.length-1 then match anc t 32 k with
  | some l=>(k::l).reverse
  | none=>[]
 else []
theorem zcb {n:Nat} (h:n≤17592186044416):zaj 8 n=true:=by simp [zaj]; omega
theorem yez (t:List Nd) (k:Int) (hl:t.length≤9223372036854775807):RUN T zm0 [.agg [.sl 5 (t.map nd)],iv k]=some ([.own 1 (zab (way t k))],[]):=by
 refine zaf ycw rfl ?_
 have hw:IntKind.i64.wrap ((t.length:Int)-1)=(t.length:Int)-1:=w64 (by omega) (by omega)
 have hp:=fun k=>ywi t k hl
 simp [zzz,zz0,hw]
 refine zao (fun h => ?_) (fun h => ?_)
 ·simp at h
  simp [h]
  unfold way
  rw [if_neg (by omega)]; simp
 ·have h':(0≤k∧k≤t.length-1):=by simpa using h
  clear h
  unfold way
  rw [if_pos h']
  obtain ⟨r,hr⟩ : ∃ r,r=anc t 32 k:=⟨_,rfl⟩
  rw [← hr]
  simp [hp]
  refine zas (fun n st => ∃ i:Nat,i+n=32∧1≤n∧∃ (m:List Int) (o e:Nat) (c:Int),m.length=i+1∧(anc t n c).map (m ++ ·)=r.map (k :: ·)∧st.V 2 = .ptr 0 none 0 0 0∧st.V 5 = .ref o none e 0 m.length∧st.V 6=iv (par t c)∧0<o∧o<st.nx∧st.S o=some (.row 1 (zab m))∧st.S 0=some (.box [.sl 5 (t.map nd)])) ?_ 32 _ ⟨0,by simp,by omega,[k],1,0,k,by simp [hr,zab]⟩
  rintro n st ⟨i,hi,h1n,m,o,e,c,hm,hc,h2,h5,h6,ho,hox,hSo,hS⟩
  simp [z9z,h2,h5,h6,hS]
  refine zao (fun h => ?_) (fun h => ?_)
  ·simp at h
   obtain ⟨q,rfl⟩ : ∃ q,n=q+1:=⟨n-1,by omega⟩
   rw [zkd,if_neg (by omega)] at hc
   simp [h2,h5,h6,hS,hSo]
   refine zao (fun h3 => ?_) (fun h3 => ?_)
   ·simp at h3
    obtain rfl:q=0:=by omega
    simp [anc] at hc
    cases r with
    | none=>simp
    | some l=>simp at hc
   ·simp at h3
    have n1 : ¬ o=st.nx:=by omega
    have n2 : ¬ 0=o:=by omega
    have n3 : ¬ 0=st.nx:=by omega
    have hr8:=zcb (n:=m.length+1) (by omega)
    simp [h2,h5,h6,hS,hSo,n1,n2,n3,hr8,hp,zb8]
    refine zal q (by omega) ⟨i+1,by omega,by omega,m++[par t c],st.nx+1,st.ep,par t c,by simp [hm],?_,by simp [h2],by simp,by simp,by omega,by simp,by simp,?_⟩
    ·rw [← hc]; cases anc t q (par t c) <;> simp
    ·simp [n2,n3,hS]
  ·simp at h
   obtain ⟨q,rfl⟩ : ∃ q,n=q+1:=⟨n-1,by omega⟩
   rw [zkd,if_pos h] at hc
   simp at hc
   obtain ⟨l,rfl,hl2⟩ : ∃ l,r=some l∧m=k::l:=by
    cases r with
    | none=>simp at hc
    | some l=>simp at hc; exact ⟨l,rfl,hc⟩
   subst hl2
   have hR:=ywk (k::l) (by omega)
   simp [h5,hSo,hR]
theorem z79 (t:List Nd) : ∀ (n:Nat) (k:Int),n≤32→(match anc t n k with | some l=>(32-n:Int)+l.length | none => -1)=lev t n k
 | 0,k,_=>by simp [anc,lev]
 | n+1,k,h=>by
  have ih:=z79 t n (par t k) (by omega)
  rw [zkd]
  simp only [lev]
  by_cases c:par t k<0
  ·rw [if_pos c,if_pos c]; simp; omega
  ·rw [if_neg c,if_neg c,← ih]
   cases anc t n (par t k) with
   | none=>simp
   | some l =>
    show (32-((n+1:Nat):Int))+((par t k::l).length:Nat)=(32-(n:Int))+(l.length:Nat)
    simp only [List.length_cons]; omega
theorem y6c (t:List Nd) (k:Int):((way t k).length:Int)-1=if 0≤k∧k≤t.length-1 then lev t 32 k else -1:=by
 unfold way
 split
 ·rw [← z79 t 32 k (Nat.le_refl _)]
  cases anc t 32 k <;> simp
 ·simp
theorem z8z (t:List Nd) : ∀ (n:Nat) (k:Int) (l:List Int),anc t n k=some l→l.length<n
 | 0,k,l,h=>by simp [anc] at h
 | n+1,k,l,h=>by
  rw [zkd] at h
  split at h
  ·cases h; simp
  ·simp at h
   obtain ⟨m,hm,rfl⟩:=h
   have:=z8z t n _ m hm
   simp; omega
theorem y39 (t:List Nd) (k:Int):(way t k).length≤32:=by
 unfold way
 split
 ·cases h:anc t 32 k with
  | none=>simp
  | some l=>have:=z8z t 32 k l h; simp; omega
 ·simp
theorem ywl (t:List Nd) (k:Int) (hl:t.length≤9223372036854775807):RUN T zmz [.agg [.sl 5 (t.map nd)],iv k]=some ([iv (if 0≤k∧k≤t.length-1 then lev t 32 k else -1)],[]):=by
 refine zaf ycv rfl ?_
 have hw:IntKind.i64.wrap (((way t k).length:Int)-1)=((way t k).length:Int)-1:=by have:=y39 t k; exact w64 (by omega) (by omega)
 rw [← y6c]
 simp [zzx,zzy,yez t k hl,hw]
def upto (k:Int) (n:Nat):List Int:=(List.range n).map fun (i:Nat)=>k+(i:Int)
@[simp] theorem qh7 (k:Int) (n:Nat):(upto k n).length=n:=by simp [upto]
def lvs:List Nd→Int→List Int
 | [],_=>[]
 | x::xs,i=>if x.f = -1 then i::lvs xs (i+1) else lvs xs (i+1)
theorem z70 : ∀ (t:List Nd) (i:Int),(lvs t i).length≤t.length
 | [],_=>by simp [lvs]
 | x::xs,i=>by
  have:=z70 xs (i+1)
  simp only [lvs]
  split <;> simp <;> omega
theorem zct {α:Type} {l:List α} {i:Nat} {x:α} (h:l[i]?=some x):l.drop i=x::l.drop (i+1):=by
 obtain ⟨h1,h2⟩:=List.getElem?_eq_some_iff.mp h
 rw [List.drop_eq_getElem_cons h1,h2]
theorem ywm (t:List Nd) (hl:t.length≤1048576):RUN T zq2 [.agg [.sl 5 (t.map nd)]]=some ([.own 1 (zab (lvs t 0))],[]):=by
 refine zaf ydl rfl ?_
 simp [z0v,z0w]
 refine zas (fun n st => ∃ i:Nat,i+n=t.length∧∃ (m:List Int) (o e:Nat),m++lvs (t.drop i) i=lvs t 0∧st.V 1 = .ptr 0 none 0 0 0∧st.V 3 = .ref o none e 0 m.length∧st.V 4=iv i∧0<o∧o<st.nx∧st.S o=some (.row 1 (zab m))∧st.S 0=some (.box [.sl 5 (t.map nd)])) ?_ t.length _ ⟨0,by simp,[],1,0,by simp⟩
 rintro n st ⟨i,hi,m,o,e,hm,h1,h3,h4,ho,hox,hSo,hS⟩
 simp [z96,h1,h3,h4,hS]
 refine zao (fun h => ?_) (fun h => ?_)
 ·simp at h
  obtain ⟨x,hx⟩ : ∃ x,t[i]?=some x:=⟨_,List.getElem?_eq_getElem h⟩
  have hw:=wS h (by omega:t.length≤9223372036854775807)
  have hr:zaj 8 (m.length+1)=true:=zcb (by
   have h5:=congrArg List.length hm
   have h6:=z70 t 0
   simp at h5; omega)
  have n1 : ¬ o=st.nx:=by omega
  have n2 : ¬ 0=o:=by omega
  have n3 : ¬ 0=st.nx:=by omega
  simp [-getElem?_pos,h1,h3,h4,hS,hSo,n1,n2,n3,hx,nd,hw,hr,zb8]
  refine zao (fun b0 => ?_) (fun b0 => ?_) <;> (try simp at b0) <;> simp [-getElem?_pos,b0,h1,h3,h4,hS,hSo,n1,n2,n3,hx,hw,hr,zb8]
  ·refine zal (n-1) (by omega) ⟨i+1,by omega,m++[(i:Int)],st.nx+1,st.ep,?_,by simp [h1],by simp,by simp,by omega,by simp,by simp,by simp [n2,n3,hS]⟩
   rw [← hm,zct hx,lvs,if_pos b0]; simp
  ·refine zal (n-1) (by omega) ⟨i+1,by omega,m,o,e,?_,by simp [h1],by simp [h3],by simp,by omega,by simp [hox],by simp [hSo],by simp [hS]⟩
   rw [← hm,zct hx,lvs,if_neg b0]; simp
 ·simp at h
  have e:m=lvs t 0:=by rw [← hm,List.drop_eq_nil_of_le h]; simp [lvs]
  simp [h3,hSo,e]
@[simp] theorem qdj (a b:Int):RUN T zq0 [iv a,iv b]=some ([iv (max a b)],[]):=by
 refine zaf ydg rfl ?_
 simp [z0l,z0m]
 refine zao (fun b0 => ?_) (fun b0 => ?_) <;> (try simp at b0) <;> simp [-getElem?_pos,b0,]
 all_goals omega
@[simp] theorem qdk (a b:Int):RUN T zpk [iv a,iv b]=some ([iv (min a b)],[]):=by
 refine zaf ya3 rfl ?_
 simp [zxj,zxk]
 refine zao (fun b0 => ?_) (fun b0 => ?_) <;> (try simp at b0) <;> simp [-getElem?_pos,b0,]
 all_goals omega
def zea (t:List Nd) (k:Int):Int:=if 0≤k∧k≤t.length-1 then lev t 32 k else -1
theorem ywn (t:List Nd) (k:Int) (hl:t.length≤9223372036854775807):RUN T zm6 [.agg [.sl 5 (t.map nd)],iv k]=some ([iv (zea t k)],[]):=ywj t k hl
theorem ywo (t:List Nd) (k:Int) (hl:t.length≤9223372036854775807):RUN T zmz [.agg [.sl 5 (t.map nd)],iv k]=some ([iv (zea t k)],[]):=ywl t k hl
def dpt (t:List Nd):Nat→Int
 | 0 => -1
 | i+1=>max (dpt t i) (zea t i)
theorem ywp (t:List Nd) (hl:t.length≤9223372036854775807):RUN T zp9 [.agg [.sl 5 (t.map nd)]]=some ([iv (dpt t t.length)],[]):=by
 refine zaf yb5 rfl ?_
 simp [zyq,zyr]
 refine zas (fun n st => ∃ i:Nat,i+n=t.length∧st.V 1 = .ptr 0 none 0 0 0∧st.V 3=iv (dpt t i)∧st.V 4=iv i∧st.S 0=some (.box [.sl 5 (t.map nd)])) ?_ t.length _ ⟨0,by simp [dpt]⟩
 rintro n st ⟨i,hi,h1,h3,h4,hS⟩
 simp [z9o,h1,h3,h4,hS]
 refine zao (fun h => ?_) (fun h => ?_)
 ·simp at h
  have hw:=wS h hl
  simp [h1,h3,h4,hS,hw,ywn t i hl]
  exact zal (n-1) (by omega) ⟨i+1,by omega,by simp [h1],by simp [dpt],by simp,by simp [hS]⟩
 ·simp at h
  obtain rfl:i=t.length:=by omega
  simp [h3]
def rt (t:List Nd) (row:List Int):Nat→Int→Option (List Int)
 | 0,_=>none
 | n+1,a=>match (if 0≤a then t[a.toNat]? else none) with
  | none=>none
  | some x=>if x.f = -1 then some [a] else match (if 0≤x.f then row[x.f.toNat]? else none) with
   | none=>none
   | some y=>(rt t row n (if y≤x.c then x.l else x.r)).map (a :: ·)
theorem yia {t:List Nd} {row:List Int} {n:Nat} {a:Int} (h:a<0∨(t.length:Int)-1<a):rt t row n a=none:=by
 cases n with
 | zero=>rfl
 | succ n =>
  rw [rt]
  have:(if 0≤a then t[a.toNat]? else none)=none:=by
   split
   ·exact List.getElem?_eq_none (by omega)
   ·rfl
  rw [this]
theorem ykk {t:List Nd} {row:List Int} {n a:Nat} {x:Nd} (hx:t[a]?=some x) (h:x.f = -1):rt t row (n+1) a=some [(a:Int)]:=by
 rw [rt]; simp [hx,h]
theorem yj4 {t:List Nd} {row:List Int} {n a:Nat} {x:Nd} (hx:t[a]?=some x) (h:x.f ≠ -1) (h2:x.f<0∨(row.length:Int)-1<x.f):rt t row (n+1) a=none:=by
 rw [rt]
 have:(if 0≤x.f then row[x.f.toNat]? else none)=none:=by
  split
  ·exact List.getElem?_eq_none (by omega)
  ·rfl
 simp [hx,h,this]
theorem yg2 {t:List Nd} {row:List Int} {n a f:Nat} {x:Nd} {y:Int} (hx:t[a]?=some x) (h:x.f=f) (hy:row[f]?=some y):rt t row (n+1) a=(rt t row n (if y≤x.c then x.l else x.r)).map ((a:Int) :: ·):=by
 rw [rt]
 have:x.f ≠ -1:=by omega
 simp [hx,this,h,hy]
def zh5 (t:List Nd) (row:List Int):List Int:=(rt t row (t.length+1) 0).getD []
theorem ywq (t:List Nd) (row:List Int) (hl:t.length≤1048576) (hr:row.length≤1048576):RUN T zqz [.agg [.sl 5 (t.map nd)],.sl 1 (zab row)]=some ([.own 1 (zab (zh5 t row))],[]):=by
 refine zaf yde rfl ?_
 simp [z0h,z0i]
 obtain ⟨r,hrr⟩ : ∃ r,r=rt t row (t.length+1) 0:=⟨_,rfl⟩
 unfold zh5
 rw [← hrr]
 refine zas (fun n st => ∃ i:Nat,i+n=t.length+1∧∃ (a:Int) (m:List Int) (o e:Nat),m.length=i∧(rt t row n a).map (m ++ ·)=r∧st.V 1 = .sl 1 (zab row)∧st.V 2 = .ptr 0 none 0 0 0∧st.V 5 = .ref o none e 0 m.length∧st.V 6=iv a∧st.V 7=iv i∧0<o∧o<st.nx∧st.S o=some (.row 1 (zab m))∧st.S 0=some (.box [.sl 5 (t.map nd)])) ?_ (t.length+1) _ ⟨0,by simp,0,[],1,0,by simp [hrr]⟩
 rintro n st ⟨i,hi,a,m,o,e,hmi,hm,h1,h2,h5,h6,h7,ho,hox,hSo,hS⟩
 simp [z93,h1,h2,h5,h6,h7,hS]
 refine zao (fun h => ?_) (fun h => ?_)
 ·simp at h
  obtain ⟨q,rfl⟩ : ∃ q,n=q+1:=⟨n-1,by omega⟩
  have hw:=w64 (x:=(t.length:Int)-1) (by omega) (by omega)
  have hwi:=w64 (x:=(i:Int)+1) (by omega) (by omega)
  have hwr:=w64 (x:=(row.length:Int)-1) (by omega) (by omega)
  simp [h1,h2,h5,h6,h7,hS,hw]
  refine zao (fun h3 => ?_) (fun h3 => ?_)
  ·simp at h3
   rw [yia h3] at hm
   simp at hm
   simp [← hm]
  ·have h3':0≤a∧a≤(t.length:Int)-1:=by simpa using h3
   obtain ⟨a,rfl⟩ : ∃ a':Nat,a=a':=⟨a.toNat,by omega⟩
   obtain ⟨x,hx⟩ : ∃ x,t[a]?=some x:=⟨_,List.getElem?_eq_getElem (by omega)⟩
   have z1:=fr hox
   have z2:=fr ho
   have z3:=fr (by omega:0<st.nx)
   have hr8:=zcb (n:=m.length+1) (by omega)
   simp [-getElem?_pos,h1,h2,h5,h6,h7,hS,hSo,z1,z2,z3,hx,nd,hr8,zb8,hwr]
   refine zao (fun h4 => ?_) (fun h4 => ?_)
   ·simp at h4
    rw [ykk hx h4] at hm
    simp at hm
    simp [← hm]
   ·simp at h4
    simp [-getElem?_pos,h1,h2,h5,h6,h7,hS,hSo,z1,z2,z3,hx,hr8,zb8,hwr]
    refine zao (fun h8 => ?_) (fun h8 => ?_)
    ·simp at h8
     rw [yj4 hx h4 h8] at hm
     simp at hm
     simp [← hm]
    ·have h8':0≤x.f∧x.f≤(row.length:Int)-1:=by simpa using h8
     obtain ⟨f,hf⟩ : ∃ f:Nat,x.f=f:=⟨x.f.toNat,by omega⟩
     obtain ⟨y,hy⟩ : ∃ y,row[f]?=some y:=⟨_,List.getElem?_eq_getElem (by omega)⟩
     have hfl:f<row.length:=by omega
     rw [yg2 hx hf hy] at hm
     have hy':=za7 hy
     simp [-getElem?_pos,h1,h2,h5,h6,h7,hS,hSo,z1,z2,z3,hr8,zb8,hwr,hf,hy',hfl,hwi]
     refine zao (fun b0 => ?_) (fun b0 => ?_) <;> (try simp at b0) <;> simp [-getElem?_pos,b0,h1,h2,h5,h6,h7,hS,hSo,z1,z2,z3,hf,hwi]
     all_goals
      refine zal q (by omega) ⟨i+1,by omega,_,m++[(a:Int)],st.nx+2,st.ep,by simp [hmi],?_,by simp [h1],by simp [h2],by simp,by simp; rfl,by simp,by omega,by simp,by simp,by simp [z2,z3,hS]⟩
      rw [← hm]
      first | rw [if_pos b0] | rw [if_neg (by omega)]
      simp [Function.comp_def]
 ·simp at h
  obtain rfl:n=0:=by omega
  simp [rt] at hm
  simp [← hm]
theorem ywr (t:List Nd) (row:List Int) (hl:t.length≤1048576) (hr:row.length≤1048576):RUN T zqr [.agg [.sl 5 (t.map nd)],.sl 1 (zab row)]=some ([.own 1 (zab (zh5 t row))],[]):=by
 refine zaf ycx rfl ?_
 have hw1:=w64 (x:=(t.length:Int)+1) (by omega) (by omega)
 simp [zz1,zz2,hw1]
 obtain ⟨r,hrr⟩ : ∃ r,r=rt t row (t.length+1) 0:=⟨_,rfl⟩
 unfold zh5
 rw [← hrr]
 refine zas (fun n st => ∃ i:Nat,i+n=t.length+1∧∃ (a:Int) (m:List Int) (o e:Nat),m.length=i∧(rt t row n a).map (m ++ ·)=r∧st.V 1 = .sl 1 (zab row)∧st.V 2 = .ptr 0 none 0 0 0∧st.V 5 = .ref o none e 0 m.length∧st.V 6=iv a∧st.V 13=iv i∧st.V 12=iv ((t.length:Int)+1)∧0<o∧o<st.nx∧st.S o=some (.row 1 (zab m))∧st.S 0=some (.box [.sl 5 (t.map nd)])) ?_ (t.length+1) _ ⟨0,by simp,0,[],1,0,by simp [hrr]⟩
 rintro n st ⟨i,hi,a,m,o,e,hmi,hm,h1,h2,h5,h6,h13,h12,ho,hox,hSo,hS⟩
 simp [z90,h13,h12]
 refine zao (fun h => ?_) (fun h => ?_)
 ·simp at h
  obtain ⟨q,rfl⟩ : ∃ q,n=q+1:=⟨n-1,by omega⟩
  have hw:=w64 (x:=(t.length:Int)-1) (by omega) (by omega)
  have hwi:=w64 (x:=(i:Int)+1) (by omega) (by omega)
  have hwr:=w64 (x:=(row.length:Int)-1) (by omega) (by omega)
  simp [h1,h2,h5,h6,hS,hw]
  refine zao (fun h3 => ?_) (fun h3 => ?_)
  ·simp at h3
   rw [yia h3] at hm
   simp at hm
   simp [← hm]
  ·have h3':0≤a∧a≤(t.length:Int)-1:=by simpa using h3
   obtain ⟨a,rfl⟩ : ∃ a':Nat,a=a':=⟨a.toNat,by omega⟩
   obtain ⟨x,hx⟩ : ∃ x,t[a]?=some x:=⟨_,List.getElem?_eq_getElem (by omega)⟩
   have z1:=fr hox
   have z2:=fr ho
   have z3:=fr (by omega:0<st.nx)
   have hr8:=zcb (n:=m.length+1) (by omega)
   simp [-getElem?_pos,h1,h2,h5,h6,hS,hSo,z1,z2,z3,hx,nd,hr8,zb8,hwr]
   refine zao (fun h4 => ?_) (fun h4 => ?_)
   ·simp at h4
    rw [ykk hx h4] at hm
    simp at hm
    simp [← hm]
   ·simp at h4
    simp [-getElem?_pos,h1,h2,h5,h6,hS,hSo,z1,z2,z3,hx,hr8,zb8,hwr]
    refine zao (fun h8 => ?_) (fun h8 => ?_)
    ·simp at h8
     rw [yj4 hx h4 h8] at hm
     simp at hm
     simp [← hm]
    ·have h8':0≤x.f∧x.f≤(row.length:Int)-1:=by simpa using h8
     obtain ⟨f,hf⟩ : ∃ f:Nat,x.f=f:=⟨x.f.toNat,by omega⟩
     obtain ⟨y,hy⟩ : ∃ y,row[f]?=some y:=⟨_,List.getElem?_eq_getElem (by omega)⟩
     have hfl:f<row.length:=by omega
     rw [yg2 hx hf hy] at hm
     have hy':=za7 hy
     simp [-getElem?_pos,h1,h2,h5,h6,h13,h12,hS,hSo,z1,z2,z3,hr8,zb8,hwr,hf,hy',hfl,hwi]
     refine zao (fun b0 => ?_) (fun b0 => ?_) <;> (try simp at b0) <;> simp [-getElem?_pos,b0,h1,h2,h5,h6,h13,h12,hS,hSo,z1,z2,z3,hf,hwi]
     all_goals
      refine zal q (by omega) ⟨i+1,by omega,_,m++[(a:Int)],st.nx+2,st.ep,by simp [hmi],?_,by simp [h1],by simp [h2],by simp,by simp; rfl,by simp,by simp [h12],by omega,by simp,by simp,by simp [z2,z3,hS]⟩
      rw [← hm]
      first | rw [if_pos b0] | rw [if_neg (by omega)]
      simp [Function.comp_def]
 ·simp at h
  obtain rfl:n=0:=by omega
  simp [rt] at hm
  simp [← hm]
theorem ygk (t:List Nd) (row:List Int) : ∀ (n:Nat) (a:Int) (l:List Int),rt t row n a=some l→l.length≤n∧l≠[]∧∀ k∈l,0≤k∧k<t.length
 | 0,_,_,h=>by cases h
 | n+1,a,l,h=>by
  rw [rt] at h
  have ha : ∀ x,(if 0≤a then t[a.toNat]? else none)=some x→0≤a∧a<t.length:=by
   intro x hx
   split at hx
   ·have:=(List.getElem?_eq_some_iff.mp hx).1; omega
   ·cases hx
  split at h
  ·cases h
  ·rename_i x hx
   have hax:=ha x hx
   split at h
   ·cases h; simpa using hax
   ·split at h
    ·cases h
    ·simp only [Option.map_eq_some_iff] at h
     obtain ⟨m,hm,rfl⟩:=h
     have:=ygk t row n _ m hm
     refine ⟨by simp; omega,by simp,fun k hk => ?_⟩
     rcases List.mem_cons.mp hk with e | e
     ·subst e; exact hax
     ·exact this.2.2 k e
theorem z5w (t:List Nd) (row:List Int):(zh5 t row).length≤t.length+1∧∀ k∈zh5 t row,0≤k∧k<t.length:=by
 unfold zh5
 cases h:rt t row (t.length+1) 0 with
 | none=>simp
 | some l=>have:=ygk t row _ _ l h; exact ⟨this.1,this.2.2⟩
def rto (t:List Nd) (row:List Int):Int:=((zh5 t row).getLast?).getD (-1)
theorem yhm {t:List Nd} {row:List Int}:rto t row = -1∨∃ i:Nat,rto t row=i∧i<t.length:=by
 unfold rto
 cases h:(zh5 t row).getLast? with
 | none=>exact .inl rfl
 | some k =>
  have:=(z5w t row).2 k (List.mem_of_getLast? h)
  exact .inr ⟨k.toNat,by simp; omega,by omega⟩
theorem yws (t:List Nd) (row:List Int) (hl:t.length≤1048576) (hr:row.length≤1048576):RUN T zp7 [.agg [.sl 5 (t.map nd)],.sl 1 (zab row)]=some ([iv (rto t row)],[]):=by
 refine zaf yb3 rfl ?_
 have hw:=(z5w t row).1
 simp [zym,zyn,ywq t row hl hr]
 refine zao (fun h => ?_) (fun h => ?_)
 ·simp at h
  simp [rto,h]
 ·simp at h
  obtain ⟨l,x,hlx⟩ : ∃ l x,zh5 t row=l++[x]:=⟨_,_,(List.dropLast_concat_getLast h).symm⟩
  have e1:rto t row=x:=by simp [rto,hlx]
  rw [e1]
  rw [hlx] at hw ⊢
  simp at hw
  have hwr:IntKind.i64.wrap (l.length:Int)=(l.length:Int):=w64 (by omega) (by omega)
  have hg:=za7 (l:=l++[x]) (i:=l.length) (x:=x) (by simp)
  simp [-getElem?_pos,hwr,hg]
theorem ywt (t:List Nd) (row:List Int) (hl:t.length≤1048576) (hr:row.length≤1048576):RUN T zp1 [.agg [.sl 5 (t.map nd)],.sl 1 (zab row)]=some ([iv (rto t row)],[]):=by
 refine zaf ybw rfl ?_
 have hw:=(z5w t row).1
 simp [zyg,zyh,ywr t row hl hr]
 refine zao (fun h => ?_) (fun h => ?_)
 ·simp at h
  simp [rto,h]
 ·simp at h
  obtain ⟨l,x,hlx⟩ : ∃ l x,zh5 t row=l++[x]:=⟨_,_,(List.dropLast_concat_getLast h).symm⟩
  have e1:rto t row=x:=by simp [rto,hlx]
  rw [e1]
  rw [hlx] at hw ⊢
  simp at hw
  have hwr:IntKind.i64.wrap (l.length:Int)=(l.length:Int):=w64 (by omega) (by omega)
  have hg:=za7 (l:=l++[x]) (i:=l.length) (x:=x) (by simp)
  simp [-getElem?_pos,hwr,hg]
def evt (t:List Nd) (row:List Int):Int:=if rto t row<0 then 0 else ((t[(rto t row).toNat]?).map (·.v)).getD 0
theorem ywu (t:List Nd) (row:List Int) (hl:t.length≤1048576) (hr:row.length≤1048576):RUN T zpf [.agg [.sl 5 (t.map nd)],.sl 1 (zab row)]=some ([iv (evt t row)],[]):=by
 refine zaf yat rfl ?_
 simp [zw3,zw4,yws t row hl hr]
 unfold evt
 rcases yhm (t:=t) (row:=row) with h | ⟨i,h,hi⟩
 ·simp [h]
 ·obtain ⟨x,hx⟩ : ∃ x,t[i]?=some x:=⟨_,List.getElem?_eq_getElem hi⟩
  rw [h]
  have h0 : ¬ ((i:Int)<0):=by omega
  simp [-getElem?_pos,h0,hx,nd]
theorem ywv (t:List Nd) (row:List Int) (hl:t.length≤1048576) (hr:row.length≤1048576):RUN T zpd [.agg [.sl 5 (t.map nd)],.sl 1 (zab row)]=some ([iv (evt t row)],[]):=by
 refine zaf yas rfl ?_
 simp [zw1,zw2,ywt t row hl hr]
 unfold evt
 rcases yhm (t:=t) (row:=row) with h | ⟨i,h,hi⟩
 ·simp [h]
 ·obtain ⟨x,hx⟩ : ∃ x,t[i]?=some x:=⟨_,List.getElem?_eq_getElem hi⟩
  rw [h]
  have h0 : ¬ ((i:Int)<0):=by omega
  simp [-getElem?_pos,h0,hx,nd]
def inI (n:Int):Prop := -9223372036854775808≤n∧n≤9223372036854775807
def Chn (t:List Nd):List Int→Int→Prop
 | [],c=>c<0
 | x::xs,c=>x=c∧0≤c∧Chn t xs (par t c)
theorem z6m (t:List Nd) : ∀ (n:Nat) (k:Int) (l:List Int),0≤k→anc t n k=some l→Chn t (k::l) k
 | 0,k,l,_,h=>by cases h
 | n+1,k,l,h0,h=>by
  rw [zkd] at h
  split at h
  ·rename_i hc
   cases h
   exact ⟨rfl,h0,hc⟩
  ·simp at h
   obtain ⟨m,hm,rfl⟩:=h
   exact ⟨rfl,h0,z6m t n _ m (by omega) hm⟩
theorem z52 (t:List Nd) (k:Int):par t k = -1∨0≤par t k∧par t k<t.length:=by
 unfold par zgf
 split
 ·rename_i i hi
  have:=(List.findIdx?_eq_some_iff_getElem.mp hi).1
  right; omega
 ·exact .inl rfl
theorem ykv (t:List Nd) : ∀ (l:List Int) (c:Int),Chn t l c→(0≤c→c<t.length)→∀ x∈l,0≤x∧x<t.length
 | [],_,_,_=>by simp
 | y::ys,c,h,hc=>by
  obtain ⟨rfl,h0,h2⟩:=h
  intro x hx
  rcases List.mem_cons.mp hx with e | e
  ·subst e; exact ⟨h0,hc h0⟩
  ·exact ykv t ys _ h2 (fun h=>by rcases z52 t y with h3 | h3 <;> omega) x e
theorem y5t (t:List Nd) (k:Int) : ∀ x∈way t k,0≤x∧x<t.length:=by
 unfold way
 split
 ·rename_i hk
  cases h:anc t 32 k with
  | none=>simp
  | some l =>
   intro x hx
   exact ykv t _ _ (z6m t 32 k l hk.1 h) (by omega) x (by simpa using List.mem_reverse.mp hx)
 ·simp
theorem yma (t:List Nd) (k:Int):lev t 32 k=match anc t 32 k with | some l=>(l.length:Int) | none => -1:=by
 have:=z79 t 32 k (Nat.le_refl _)
 rw [← this]
 cases anc t 32 k <;> simp
def box (t:List Nd) (f:Int):List Int→Int→Int→Int×Int
 | a::b::r,lo,hi=>match t[a.toNat]? with
  | none=>(lo,hi)
  | some x=>if x.f=f then (if x.l=b then box t f (b::r) lo (min hi x.c) else if x.c=9223372036854775807 then box t f (b::r) lo hi else box t f (b::r) (max lo (x.c+1)) hi) else box t f (b::r) lo hi
 | _,lo,hi=>(lo,hi)
theorem yww {f:Nat} {p:Int→Bool} (l:List Int) (hl:l.length≤9223372036854775807) (hm:zad T f=[]) (hp : ∀ n∈l,RUN T f [iv n]=some ([bv (p n)],[])) :
  RUN T zqo [.sl 1 (zab l),.fn f []]=some ([iv (zgf p l)],[]):=by
 refine zaf ycr rfl ?_
 simp [zzp,zzq]
 refine zas (fun n st => ∃ i:Nat,i+n=l.length∧st.V 0 = .sl 1 (zab l)∧st.V 1 = .fn f []∧st.V 8=iv i∧st.V 7=iv l.length∧∀ (j:Nat) (x:Int),j<i→l[j]?=some x→p x=false) ?_ l.length _ ⟨0,by simp⟩
 rintro n st ⟨i,hi,h0,h1,h8,h7,hj⟩
 simp [z9w,h0,h1,h8,h7]
 refine zao (fun h => ?_) (fun h => ?_)
 ·simp at h
  obtain ⟨x,hx⟩ : ∃ x,l[i]?=some x:=⟨_,List.getElem?_eq_getElem h⟩
  have hw:=wS h hl
  have hx':=za7 hx
  have hpx:=hp x (List.mem_of_getElem? hx)
  simp [-getElem?_pos,h0,h1,h8,h7,hx',hw,hm,hpx,h]
  refine zao (fun b0 => ?_) (fun b0 => ?_) <;> (try simp at b0) <;> simp [-getElem?_pos,b0,h0,h1,h8,h7,hx',hw]
  all_goals first
   | exact (zou hx b0 hj).symm
   | exact zal (n-1) (by omega) ⟨i+1,by omega,by simp [h0],by simp [h1],by simp,by simp [h7],zwm hj hx b0⟩
 ·simp at h
  simp [h]
  exact (ztk fun j x hl hx=>hj j x (by omega) hx).symm
theorem z40 {α:Type} {p:α→Bool} {l:List α}:decide (0≤zgf p l)=l.any p:=by
 unfold zgf
 cases h:l.findIdx? p with
 | none =>
  rw [List.findIdx?_eq_none_iff] at h
  simp
  exact fun x hx=>h x hx
 | some i =>
  obtain ⟨h1,h2,_⟩:=List.findIdx?_eq_some_iff_getElem.mp h
  simp
  exact ⟨_,List.getElem_mem h1,h2⟩
theorem z5g {f:Nat} {p:Int→Bool} (l:List Int) (hl:l.length≤9223372036854775807) (hm:zad T f=[]) (hp : ∀ n∈l,RUN T f [iv n]=some ([bv (p n)],[])) :
  RUN T zk6 [.sl 1 (zab l),.fn f []]=some ([bv (l.any p)],[]):=by
 refine zaf ybn rfl ?_
 have e:=yww l hl hm hp
 simp [zx2,zx3,e,z40]
structure Cfg where
 ro:Int
 de:Int
 bi:Int
 la:Int
 rw:Int
 nu:Int
 dn:Int
 sg:List Int
def zai (n a b:Int):Bool:=decide (a≤n) && decide (n≤b)
def zbm (c:Cfg):Bool:=zai c.ro 1 8 && zai c.de 0 4 && zai c.bi 2 8 && zai c.la 1 100 && zai c.rw 1 20 && zai c.dn 1 1000 && zai c.nu 1 c.dn && decide ((c.sg.length:Int)≤4) && c.sg.all fun n=>zai n (-1) 1
@[simp] theorem qdl (n:Int):RUN T zmr [iv n]=some ([bv (zai n (-1) 1)],[]):=by
 refine zaf ybp rfl ?_
 simp [zx6,zx7,zai]
@[simp] theorem ywx (n:Int):RUN T zmx [iv n]=some ([bv (!zai n (-1) 1)],[]):=by
 refine zaf ych rfl ?_
 simp [zy8,zy9]
theorem ze4 (a b c:Int):RUN T zco [iv a,iv b,iv c]=some ([bv (zai a b c)],[]):=zdn a b c
theorem za5 (a b c:Int):RUN T zbd [iv a,iv b,iv c]=some ([bv (zai a b c)],[]):=zav a b c
theorem ywy (c:Cfg) (hl:c.sg.length≤9223372036854775807):RUN T zpn [.agg [iv c.ro,iv c.de,iv c.bi,iv c.la,iv c.rw,iv c.nu,iv c.dn,.sl 1 (zab c.sg)]]=some ([bv (zbm c)],[]):=by
 refine zaf ya6 rfl ?_
 have e:=z5g (f:=zmx) (p:=fun n => !zai n (-1) 1) c.sg hl (by simp) (fun n _=>ywx n)
 have e2 : ∀ l:List Int,(l.any fun n => !zai n (-1) 1) = !(l.all fun n=>zai n (-1) 1):=by intro l; induction l <;> simp_all
 rw [e2] at e
 simp [zxl,zxm,ze4,-zdn]
 cases h0:zai c.ro 1 8 <;> cases h1:zai c.de 0 4 <;> simp [h0,h1,ze4,-zdn]
 all_goals try (simp [zbm,h0,h1]; done)
 cases h2:zai c.bi 2 8 <;> cases h3:zai c.la 1 100 <;> simp [h2,h3,ze4,-zdn]
 all_goals try (simp [zbm,h2,h3]; done)
 cases h4:zai c.rw 1 20 <;> cases h5:zai c.dn 1 1000 <;> simp [h4,h5,ze4,-zdn]
 all_goals try (simp [zbm,h4,h5]; done)
 cases h6:zai c.nu 1 c.dn <;> simp [h6,ze4,-zdn]
 all_goals try (simp [zbm,h6]; done)
 by_cases h7:(c.sg.length:Int)≤4
 ·simp [h7,e,zbm,h0,h1,h2,h3,h4,h5,h6]
 ·simp [h7,zbm]
theorem zsu {m:Nat→List Bool} {R:zak} {c:IC} {st:St} {Q:Ex→St→Prop} (h:W m R c st (Nx (fun s=>W m R (.loop c) s Q) Q ⟨⟩ ⟨⟩)):W m R (.loop c) st Q:=y8k ▸ h
theorem ywz (a b c d e f g:Int) (x:PV) (sg:List (List PV)):RUN T zph [.agg [iv a,iv b,iv c,iv d,iv e,iv f,iv g,.sl 1 sg]]=some ([.own 1 (zab [a,b,c,d,e])],[]):=by
 refine zaf yaz rfl ?_
 simp [zxb,zxc,zab]
theorem zu8:RUN T zpi []=some ([.own 1 (zab [1,0,2,1,1])],[]):=by
 refine zaf ya0 rfl ?_
 simp [zxd,zxe,zab]
theorem zu9:RUN T zpj []=some ([.own 1 (zab [8,4,8,100,20])],[]):=by
 refine zaf ya1 rfl ?_
 simp [zxf,zxg,zab]
theorem zva (c:Cfg) (hl:c.sg.length≤9223372036854775807):RUN T ziu [.agg [iv c.ro,iv c.de,iv c.bi,iv c.la,iv c.rw,iv c.nu,iv c.dn,.sl 1 (zab c.sg)]]=some ([bv (zbm c)],[]):=by
 refine zaf yai rfl ?_
 have e1:=ywz c.ro c.de c.bi c.la c.rw c.nu c.dn .undef (zab c.sg)
 simp [zwt,zwu,e1]
 refine zsu ?_
 simp [znk,zu8,zu9,za5,-zav,zv8]
 cases h0:zai c.ro 1 8 <;> simp [h0]
 ·simp [zbm,h0]
 refine zsu ?_
 simp [znk,zu8,zu9,za5,-zav,zv8]
 cases h1:zai c.de 0 4 <;> simp [h1]
 ·simp [zbm,h1]
 refine zsu ?_
 simp [znk,zu8,zu9,za5,-zav,zv8]
 cases h2:zai c.bi 2 8 <;> simp [h2]
 ·simp [zbm,h2]
 refine zsu ?_
 simp [znk,zu8,zu9,za5,-zav,zv8]
 cases h3:zai c.la 1 100 <;> simp [h3]
 ·simp [zbm,h3]
 refine zsu ?_
 simp [znk,zu8,zu9,za5,-zav,zv8]
 cases h4:zai c.rw 1 20 <;> simp [h4]
 ·simp [zbm,h4]
 refine zsu ?_
 simp [znk]
 refine zas (fun n st => ∃ i:Nat,i+n=c.sg.length∧st.V 1 = .ptr 0 none 0 0 0∧st.V 5=iv i∧st.S 0=some (.box [iv c.ro,iv c.de,iv c.bi,iv c.la,iv c.rw,iv c.nu,iv c.dn,.sl 1 (zab c.sg)])∧∀ (j:Nat) (x:Int),j<i→c.sg[j]?=some x→zai x (-1) 1=true) ?_ c.sg.length _ ⟨0,by simp⟩
 rintro n st ⟨i,hi,h1',h5,hS,hj⟩
 simp [z84,h1',h5,hS]
 refine zao (fun h => ?_) (fun h => ?_)
 ·simp at h
  obtain ⟨x,hx⟩ : ∃ x,c.sg[i]?=some x:=⟨_,List.getElem?_eq_getElem h⟩
  have hw:=wS h hl
  have hx':=za7 hx
  simp [-getElem?_pos,h1',h5,hS,hx',hw,h,za5,-zav]
  cases hb:zai x (-1) 1 with
  | true =>
   simp [-getElem?_pos,h1',h5,hS,hw]
   refine zal (n-1) (by omega) ⟨i+1,by omega,by simp [h1'],by simp,by simp [hS],fun j y hj' hy => ?_⟩
   by_cases e:j=i
   ·subst e; rw [hx] at hy; cases hy; exact hb
   ·exact hj j y (by omega) hy
  | false =>
   simp [zbm]
   intros
   exact ⟨x,List.mem_of_getElem? hx,hb⟩
 ·simp at h
  have hall:(c.sg.all fun n=>zai n (-1) 1)=true:=by
   rw [List.all_eq_true]
   intro x hx
   obtain ⟨j,hj'⟩:=List.getElem?_of_mem hx
   exact hj j x (by have:=(List.getElem?_eq_some_iff.mp hj').1; omega) hj'
  simp [h1',hS,za5,-zav]
  cases h5:zai c.dn 1 1000 <;> simp [h1',hS,h5,za5,-zav]
  ·simp [zbm,h5]
  cases h6:zai c.nu 1 c.dn <;> simp [h1',hS,h6,za5,-zav]
  ·simp [zbm,h6]
  simp [zbm,h0,h1,h2,h3,h4,h5,h6,hall]
def fdv (a b:Int):Int×Bool:=if b=0∨(b = -1∧a = -9223372036854775808) then (0,false) else (a.fdiv b,true)
theorem yif {a b:Int} (ha:inI a) (hb:b≠0) (h : ¬ (b = -1∧a = -9223372036854775808)) : -9223372036854775808≤a.tdiv b∧a.tdiv b≤9223372036854775807∧(b≠1 → -9223372036854775808≤a.tdiv b-1):=by
 obtain ⟨h1,h2⟩:=ha
 have h3:(a.tdiv b).natAbs=a.natAbs / b.natAbs:=Int.natAbs_tdiv a b
 have h4:a.natAbs / b.natAbs≤a.natAbs:=Nat.div_le_self _ _
 by_cases c:b=1
 ·subst c; simp; omega
 by_cases c2:b = -1
 ·subst c2; simp; omega
 have h5:a.natAbs / b.natAbs≤a.natAbs / 2:=Nat.div_le_div_left (by omega) (by omega)
 omega
theorem ykj (a b:Int) (hb:b≠0):a.fdiv b=if a.tmod b≠0∧¬ (a<0↔b<0) then a.tdiv b-1 else a.tdiv b:=by
 rw [Int.fdiv_eq_tdiv]
 have hd:b ∣ a↔a.tmod b=0:=Int.dvd_iff_tmod_eq_zero
 by_cases c:b ∣ a
 ·rw [if_pos c,if_neg (by rw [hd.mp c]; simp)]; simp
 ·have hc:a.tmod b≠0:=fun e=>c (hd.mpr e)
  have ha:a≠0:=fun e=>c (by subst e; exact ⟨0,by simp⟩)
  rw [if_neg c]
  rcases Int.lt_or_gt_of_ne hb with s2 | s2
  ·rw [if_neg (by omega : ¬ 0≤b),if_neg (by omega : ¬ 0≤b),Int.sign_eq_neg_one_of_neg s2]
   by_cases s1:0≤a
   ·rw [if_pos s1,if_pos ⟨hc,by omega⟩]
   ·rw [if_neg s1,if_neg (fun h=>h.2 (by omega))]; omega
  ·rw [if_pos (by omega:0≤b),if_pos (by omega:0≤b),Int.sign_eq_one_of_pos s2]
   by_cases s1:0≤a
   ·rw [if_pos s1,if_neg (fun h=>h.2 (by omega))]; omega
   ·rw [if_neg s1,if_pos ⟨hc,by omega⟩]
theorem z5h (a b:Int) (ha:inI a):RUN T zk8 [iv a,iv b]=some ([iv (fdv a b).1,bv (fdv a b).2],[]):=by
 refine zaf ycj rfl ?_
 simp [zzc,zzd]
 by_cases h0:b=0
 ·subst h0; simp [fdv]
 by_cases hbad:b = -1∧a = -9223372036854775808
 ·obtain ⟨rfl,rfl⟩:=hbad; simp [fdv]
 have hr:=yif ha h0 hbad
 have hq:=w64 hr.1 hr.2.1
 have hf:=ykj a b h0
 have e1:fdv a b=(a.fdiv b,true):=by unfold fdv; rw [if_neg (by simp [h0]; intro h; exact fun h2=>hbad ⟨h,h2⟩)]
 rw [e1]
 have hq2:a.tmod b≠0→IntKind.i64.wrap (a.tdiv b-1)=a.tdiv b-1:=fun h=>w64 (hr.2.2 (by rintro rfl; simp at h)) (by omega)
 have f0:=eq_false h0
 obtain ⟨p1,hp1⟩ : ∃ p,(b = -1)=p:=⟨_,rfl⟩
 obtain ⟨p2,hp2⟩ : ∃ p,(a = -9223372036854775808)=p:=⟨_,rfl⟩
 rw [hp1,hp2] at hbad
 by_cases c1:p1 <;> by_cases c2:p2
 ·exact (hbad ⟨c1,c2⟩).elim
 all_goals
  simp only [c1,c2] at hp1 hp2
  simp [f0,hp1,hp2,hq]
  by_cases d0:a.tmod b=0
  ·rw [if_neg (by simp [d0])] at hf
   simp [d0,hf]
  ·have hq3:=hq2 d0
   have d1:=eq_false d0
   by_cases d2:a<0 <;> by_cases d3:b<0
   all_goals
    simp only [d2,d3,ne_eq,d1,not_false_eq_true,iff_self,not_true_eq_false,and_false,if_false,iff_true,iff_false,and_true,if_true,true_iff,false_iff] at hf
    simp [d1,d2,d3,hq3,hf]
theorem yw0 (a b:Int) (ha:inI a):RUN T zp0 [iv a,iv b]=some ([iv (fdv a b).1,bv (fdv a b).2],[]):=by
 refine zaf ybv rfl ?_
 simp [zye,zyf]
 by_cases h0:b=0
 ·subst h0; simp [fdv]
 by_cases hbad:b = -1∧a = -9223372036854775808
 ·obtain ⟨rfl,rfl⟩:=hbad; simp [fdv]
 have hr:=yif ha h0 hbad
 have hq:=w64 hr.1 hr.2.1
 have hf:=ykj a b h0
 have e1:fdv a b=(a.fdiv b,true):=by unfold fdv; rw [if_neg (by simp [h0]; intro h; exact fun h2=>hbad ⟨h,h2⟩)]
 rw [e1]
 have hq2:a.tmod b≠0→IntKind.i64.wrap (a.tdiv b-1)=a.tdiv b-1:=fun h=>w64 (hr.2.2 (by rintro rfl; simp at h)) (by omega)
 have f0:=eq_false h0
 obtain ⟨p1,hp1⟩ : ∃ p,(b = -1)=p:=⟨_,rfl⟩
 obtain ⟨p2,hp2⟩ : ∃ p,(a = -9223372036854775808)=p:=⟨_,rfl⟩
 rw [hp1,hp2] at hbad
 by_cases c1:p1 <;> by_cases c2:p2
 ·exact (hbad ⟨c1,c2⟩).elim
 all_goals
  simp only [c1,c2] at hp1 hp2
  simp [f0,hp1,hp2,hq]
  by_cases d0:a.tmod b=0
  ·rw [if_neg (by simp [d0])] at hf
   simp [d0,hf]
  ·have hq3:=hq2 d0
   have d1:=eq_false d0
   by_cases d2:a<0 <;> by_cases d3:b<0
   all_goals
    simp only [d2,d3,ne_eq,d1,not_false_eq_true,iff_self,not_true_eq_false,and_false,if_false,iff_true,iff_false,and_true,if_true,true_iff,false_iff] at hf
    simp [d1,d2,d3,hq3,hf]
abbrev zfg (c:Cfg):PV := .agg [iv c.ro,iv c.de,iv c.bi,iv c.la,iv c.rw,iv c.nu,iv c.dn,.sl 1 (zab c.sg)]
abbrev zl9 (c:Cfg):PV := .agg [iv c.ro,iv c.de,iv c.bi,iv c.la,iv c.rw,iv c.nu,iv c.dn,.own 1 (zab c.sg)]
theorem za2 {n a b:Int}:zai n a b=true↔a≤n∧n≤b:=by simp [zai]
theorem zs9 {c:Cfg} (h:zbm c=true):(1≤c.ro∧c.ro≤8)∧(0≤c.de∧c.de≤4)∧(2≤c.bi∧c.bi≤8)∧(1≤c.la∧c.la≤100)∧(1≤c.rw∧c.rw≤20)∧(1≤c.dn∧c.dn≤1000)∧(1≤c.nu∧c.nu≤c.dn)∧c.sg.length≤4∧∀ n∈c.sg,-1≤n∧n≤1:=by
 simp only [zbm,Bool.and_eq_true,za2,decide_eq_true_eq,List.all_eq_true] at h
 obtain ⟨⟨⟨⟨⟨⟨⟨⟨h1,h2⟩,h3⟩,h4⟩,h5⟩,h6⟩,h7⟩,h8⟩,h9⟩:=h
 exact ⟨h1,h2,h3,h4,h5,h6,h7,by omega,h9⟩
def zef (v:Int):Bool:=zai v (-1099511627776) 1099511627776
@[simp] theorem ye0 (v:Int):RUN T zjm [iv v]=some ([bv (zef v)],[]):=by
 refine zaf ydf rfl ?_
 simp [z0j,z0k,zef,zai]
@[simp] theorem qdm (v:Int):RUN T zq8 [iv v]=some ([bv (zef v)],[]):=by
 refine zaf ydt rfl ?_
 simp [z1a,z1b,zef,zai]
def shr (v:Int) (c:Cfg):Int×Bool:=if zbm c && zef v then (( v*c.nu).fdiv c.dn,true) else (0,false)
theorem yzm {v:Int} {c:Cfg} (h:zbm c=true) (hv:zef v=true):inI (v*c.nu)∧IntKind.i64.wrap (v*c.nu)=v*c.nu∧fdv (v*c.nu) c.dn=((v*c.nu).fdiv c.dn,true):=by
 obtain ⟨_,_,_,_,_,hd,hn,_⟩:=zs9 h
 have h1:=za2.mp hv
 have h2 : -1099511627776*1000≤v*c.nu:=by
  have a1 : -1099511627776*c.nu≤v*c.nu:=Int.mul_le_mul_of_nonneg_right h1.1 (by omega)
  omega
 have h3:v*c.nu≤1099511627776*1000:=by
  have a1:v*c.nu≤1099511627776*c.nu:=Int.mul_le_mul_of_nonneg_right h1.2 (by omega)
  omega
 refine ⟨⟨by omega,by omega⟩,w64 (by omega) (by omega),?_⟩
 unfold fdv
 rw [if_neg (by omega)]
theorem yw1 (v:Int) (c:Cfg) (hl:c.sg.length≤9223372036854775807):RUN T zqy [iv v,zfg c]=some ([iv (shr v c).1,bv (shr v c).2],[]):=by
 refine zaf ydd rfl ?_
 have e:=zva c hl
 simp [z0f,z0g,e]
 cases h:zbm c
 ·simp [shr,h]
 ·cases hv:zef v
  ·simp [h,hv,shr]
  ·obtain ⟨h1,h2,h3⟩:=yzm h hv
   have e2:=z5h _ c.dn h1
   rw [h3] at e2
   simp [h,hv,shr,h2,e2]
theorem zl4 (a b c d e a' b' c' d' e':Int):eqP [.i .i64,.i .i64,.i .i64,.i .i64,.i .i64] (.agg [iv a,iv b,iv c,iv d,iv e]) (.agg [iv a',iv b',iv c',iv d',iv e'])=some (decide (a=a'∧b=b'∧c=c'∧d=d'∧e=e')):=by
 simp only [eqP,zbx,y8m,Option.bind_some]
 by_cases h1:a=a' <;> by_cases h2:b=b' <;> by_cases h3:c=c' <;> by_cases h4:d=d' <;> by_cases h5:e=e' <;> simp [h1,h2,h3,h4,h5]
def za8 (n:Int):Bool:=zai n (-2147483647) 2147483647
@[simp] theorem zoa (v:Int):RUN T ziv [iv v]=some ([bv (za8 v)],[]):=by
 refine zaf yay rfl ?_
 simp [zw9,zxa,za8,zai]
@[simp] theorem qdn (v:Int):RUN T zk7 [iv v]=some ([bv (za8 v)],[]):=by
 refine zaf ybq rfl ?_
 simp [zx8,zx9,za8,zai]
def shp (F:Int):List Nd→Int→Int→Option Int
 | [],_,n=>some n
 | x::xs,i,n =>
  if x.f = -1 then (if (x.c=0∧x.l=0∧x.r=0)∧zef x.v=true then shp F xs (i+1) n else none)
  else if zai x.f 0 (F-1)=true∧za8 x.c=true∧x.v=0∧x.l=n∧x.r=n+1∧i<n then shp F xs (i+1) (n+2) else none
def zej (t:List Nd) (F:Int):Bool:=match shp F t 0 1 with
 | some n=>decide (n=t.length)
 | none=>false
set_option maxHeartbeats 1000000 in
theorem yw2 (t:List Nd) (F:Int) (hl:t.length≤1048576) (hF:0≤F∧F≤4):RUN T zp8 [.agg [.sl 5 (t.map nd)],iv F]=some ([bv (zej t F)],[]):=by
 refine zaf yb4 rfl ?_
 simp [zyo,zyp]
 have hwF:=w64 (x:=F-1) (by omega) (by omega)
 refine zas (fun n st => ∃ i:Nat,i+n=t.length∧∃ k:Nat,k≤i∧shp F (t.drop i) i (1+2*k)=shp F t 0 1∧st.V 1=iv F∧st.V 2 = .ptr 0 none 0 0 0∧st.V 5=iv (1+2*k)∧st.V 6=iv i∧0<st.nx∧st.S 0=some (.box [.sl 5 (t.map nd)])) ?_ t.length _ ⟨0,by simp,0,by simp⟩
 rintro n st ⟨i,hi,k,hk,hr,h1,h2,h5,h6,hnx,hS⟩
 simp [z9n,h2,h6,hS]
 have z:=fr hnx
 refine zao (fun h => ?_) (fun h => ?_)
 ·simp at h
  obtain ⟨x,hx⟩ : ∃ x,t[i]?=some x:=⟨_,List.getElem?_eq_getElem h⟩
  have hw:=wS h (by omega:t.length≤9223372036854775807)
  have hw1:=w64 (x:=1+2*(k:Int)+1) (by omega) (by omega)
  have hw2:=w64 (x:=1+2*(k:Int)+2) (by omega) (by omega)
  rw [zct hx,shp] at hr
  simp [-getElem?_pos,h1,h2,h5,h6,hS,hx,nd,z]
  refine zao (fun h3 => ?_) (fun h3 => ?_)
  ·simp at h3
   rw [if_pos h3] at hr
   by_cases hc:x.c=0∧x.l=0∧x.r=0
   ·have hc':=eq_true hc
    simp [-getElem?_pos,h1,h2,h5,h6,hS,z,h3,zl4,hc']
    cases hv:zef x.v with
    | false =>
     rw [if_neg (by simp [hv])] at hr
     simp [zej,← hr]
    | true =>
     rw [if_pos ⟨hc,hv⟩] at hr
     simp [-getElem?_pos,h1,h2,h5,h6,hS,z,hw]
     exact zal (n-1) (by omega) ⟨i+1,by omega,k,by omega,by simpa using hr,by simp [h1],by simp [h2],by simp [h5],by simp,by simp,by simp [z,hS]⟩
   ·have hc':=eq_false hc
    rw [if_neg (fun h=>hc h.1)] at hr
    simp [-getElem?_pos,h1,h2,h5,h6,hS,z,h3,zl4,hc']
    simp [zej,← hr]
  ·simp at h3
   rw [if_neg h3] at hr
   simp [-getElem?_pos,h1,h2,h5,h6,hS,z,h3,hwF,za5,-zav]
   by_cases hc:zai x.f 0 (F-1)=true∧za8 x.c=true∧x.v=0∧x.l=1+2*(k:Int)∧x.r=1+2*(k:Int)+1∧(i:Int)<1+2*(k:Int)
   ·rw [if_pos hc] at hr
    obtain ⟨c1,c2,c3,c4,c5,c6⟩:=hc
    have c7 : ¬ (1+2*(k:Int)≤i):=by omega
    simp [-getElem?_pos,h1,h2,h5,h6,hS,z,h3,hwF,c1,c2,c3,c4,c5,c7,hw,hw1,hw2]
    exact zal (n-1) (by omega) ⟨i+1,by omega,k+1,by omega,by rw [← hr]; congr 1,by simp [h1],by simp [h2],by simp; omega,by simp,by simp,by simp [z,hS]⟩
   ·rw [if_neg hc] at hr
    have e0:zej t F=false:=by simp [zej,← hr]
    rw [e0]
    refine zao (fun b0 => ?_) (fun b0 => ?_) <;> (try simp at b0) <;> simp [-getElem?_pos,b0,h1,h2,h5,h6,hS,z,h3,hwF,hw1]
    all_goals try (refine zao (fun b1 => ?_) (fun b1 => ?_) <;> (try simp at b1) <;> simp [-getElem?_pos,b0,b1,h1,h2,h5,h6,hS,z,h3,hwF,hw1])
    all_goals try (refine zao (fun b2 => ?_) (fun b2 => ?_) <;> (try simp at b2) <;> simp [-getElem?_pos,b0,b1,b2,h1,h2,h5,h6,hS,z,h3,hwF,hw1])
    all_goals try (refine zao (fun b3 => ?_) (fun b3 => ?_) <;> (try simp at b3) <;> simp [-getElem?_pos,b0,b1,b2,b3,h1,h2,h5,h6,hS,z,h3,hwF,hw1])
    all_goals try (refine zao (fun b4 => ?_) (fun b4 => ?_) <;> (try simp at b4) <;> simp [-getElem?_pos,b0,b1,b2,b3,b4,h1,h2,h5,h6,hS,z,h3,hwF,hw1])
    all_goals try (refine zao (fun b5 => ?_) (fun b5 => ?_) <;> (try simp at b5) <;> simp [-getElem?_pos,b0,b1,b2,b3,b4,b5,h1,h2,h5,h6,hS,z,h3,hwF,hw1])
    exact (hc ⟨b0,b1,b2,b3,b4,by omega⟩).elim
 ·simp at h
  rw [List.drop_eq_nil_of_le h,shp] at hr
  unfold zej
  rw [← hr]
  simp [h5,hS,h2]
set_option maxHeartbeats 1000000 in
theorem yw3 (t:List Nd) (F:Int) (hl:t.length≤1048576) (hF:0≤F∧F≤4):RUN T zqq [.agg [.sl 5 (t.map nd)],iv F]=some ([bv (zej t F)],[]):=by
 refine zaf yct rfl ?_
 simp [zzt,zzu]
 have hwF:=w64 (x:=F-1) (by omega) (by omega)
 refine zas (fun n st => ∃ i:Nat,i+n=t.length∧∃ k:Nat,k≤i∧shp F (t.drop i) i (1+2*k)=shp F t 0 1∧st.V 1=iv F∧st.V 2 = .ptr 0 none 0 0 0∧st.V 5=iv (1+2*k)∧st.V 11=iv i∧st.V 10=iv t.length∧st.V 9 = .sl 5 (t.map nd)∧0<st.nx∧st.S 0=some (.box [.sl 5 (t.map nd)])) ?_ t.length _ ⟨0,by simp,0,by simp⟩
 rintro n st ⟨i,hi,k,hk,hr,h1,h2,h5,h6,h10,h9,hnx,hS⟩
 simp [z9y,h6,h10]
 have z:=fr hnx
 refine zao (fun h => ?_) (fun h => ?_)
 ·simp at h
  obtain ⟨x,hx⟩ : ∃ x,t[i]?=some x:=⟨_,List.getElem?_eq_getElem h⟩
  have hw:=wS h (by omega:t.length≤9223372036854775807)
  have hw1:=w64 (x:=1+2*(k:Int)+1) (by omega) (by omega)
  have hw2:=w64 (x:=1+2*(k:Int)+2) (by omega) (by omega)
  rw [zct hx,shp] at hr
  simp [-getElem?_pos,h1,h2,h5,h6,h9,h10,hS,hx,nd,z]
  refine zao (fun h3 => ?_) (fun h3 => ?_)
  ·simp at h3
   rw [if_pos h3] at hr
   by_cases hc:x.c=0∧x.l=0∧x.r=0
   ·have hc':=eq_true hc
    simp [-getElem?_pos,h1,h2,h5,h6,h9,h10,hS,z,h3,zl4,hc']
    cases hv:zef x.v with
    | false =>
     rw [if_neg (by simp [hv])] at hr
     simp [zej,← hr]
    | true =>
     rw [if_pos ⟨hc,hv⟩] at hr
     simp [-getElem?_pos,h1,h2,h5,h6,h9,h10,hS,z,hw]
     exact zal (n-1) (by omega) ⟨i+1,by omega,k,by omega,by simpa using hr,by simp [h1],by simp [h2],by simp [h5],by simp,by simp [h10],by simp [h9],by simp,by simp [z,hS]⟩
   ·have hc':=eq_false hc
    rw [if_neg (fun h=>hc h.1)] at hr
    simp [-getElem?_pos,h1,h2,h5,h6,h9,h10,hS,z,h3,zl4,hc']
    simp [zej,← hr]
  ·simp at h3
   rw [if_neg h3] at hr
   simp [-getElem?_pos,h1,h2,h5,h6,h9,h10,hS,z,h3,hwF,ze4,-zdn]
   by_cases hc:zai x.f 0 (F-1)=true∧za8 x.c=true∧x.v=0∧x.l=1+2*(k:Int)∧x.r=1+2*(k:Int)+1∧(i:Int)<1+2*(k:Int)
   ·rw [if_pos hc] at hr
    obtain ⟨c1,c2,c3,c4,c5,c6⟩:=hc
    have c7 : ¬ (1+2*(k:Int)≤i):=by omega
    simp [-getElem?_pos,h1,h2,h5,h6,h9,h10,hS,z,h3,hwF,c1,c2,c3,c4,c5,c7,hw,hw1,hw2]
    exact zal (n-1) (by omega) ⟨i+1,by omega,k+1,by omega,by rw [← hr]; congr 1,by simp [h1],by simp [h2],by simp; omega,by simp,by simp [h10],by simp [h9],by simp,by simp [z,hS]⟩
   ·rw [if_neg hc] at hr
    have e0:zej t F=false:=by simp [zej,← hr]
    rw [e0]
    refine zao (fun b0 => ?_) (fun b0 => ?_) <;> (try simp at b0) <;> simp [-getElem?_pos,b0,h1,h2,h5,h6,h9,h10,hS,z,h3,hwF,hw1]
    all_goals try (refine zao (fun b1 => ?_) (fun b1 => ?_) <;> (try simp at b1) <;> simp [-getElem?_pos,b0,b1,h1,h2,h5,h6,h9,h10,hS,z,h3,hwF,hw1])
    all_goals try (refine zao (fun b2 => ?_) (fun b2 => ?_) <;> (try simp at b2) <;> simp [-getElem?_pos,b0,b1,b2,h1,h2,h5,h6,h9,h10,hS,z,h3,hwF,hw1])
    all_goals try (refine zao (fun b3 => ?_) (fun b3 => ?_) <;> (try simp at b3) <;> simp [-getElem?_pos,b0,b1,b2,b3,h1,h2,h5,h6,h9,h10,hS,z,h3,hwF,hw1])
    all_goals try (refine zao (fun b4 => ?_) (fun b4 => ?_) <;> (try simp at b4) <;> simp [-getElem?_pos,b0,b1,b2,b3,b4,h1,h2,h5,h6,h9,h10,hS,z,h3,hwF,hw1])
    all_goals try (refine zao (fun b5 => ?_) (fun b5 => ?_) <;> (try simp at b5) <;> simp [-getElem?_pos,b0,b1,b2,b3,b4,b5,h1,h2,h5,h6,h9,h10,hS,z,h3,hwF,hw1])
    exact (hc ⟨b0,b1,b2,b3,b4,by omega⟩).elim
 ·simp at h
  rw [List.drop_eq_nil_of_le h,shp] at hr
  unfold zej
  rw [← hr]
  simp [h5,hS,h2]
structure z8l (F:Int) (x:Nd) (i n m:Int):Prop where
 lo:n≤x.l
 lt:i<x.l
 r:x.r=x.l+1
 hi:x.r<m
 f:0≤x.f∧x.f≤F-1
 c:za8 x.c=true
 v:x.v=0
theorem z7m (F:Int) : ∀ (l:List Nd) (i n m:Int),shp F l i n=some m→n≤m ∧
  (∀ (j:Nat) (x:Nd),l[j]?=some x→x.f = -1→x.c=0∧x.l=0∧x.r=0∧zef x.v=true) ∧
  (∀ (j:Nat) (x:Nd),l[j]?=some x→x.f ≠ -1→z8l F x (i+j) n m) ∧
  (∀ (j j':Nat) (x y:Nd),j<j'→l[j]?=some x→l[j']?=some y→x.f ≠ -1→y.f ≠ -1→x.r<y.l) ∧
  (∀ k:Int,n≤k→k<m→∃ (j:Nat) (x:Nd),l[j]?=some x∧x.f ≠ -1∧(x.l=k∨x.r=k))
 | [],i,n,m,h=>by
  simp only [shp,Option.some.injEq] at h
  subst h
  exact ⟨Int.le_refl _,by simp,by simp,by simp,fun k h1 h2=>by omega⟩
 | x::xs,i,n,m,h=>by
  rw [shp] at h
  split at h
  ·rename_i hf
   split at h
   ·rename_i hc
    obtain ⟨h1,h2,h3,h4,h5⟩:=z7m F xs (i+1) n m h
    refine ⟨h1,fun j y hj hy => ?_,fun j y hj hy => ?_,fun j j' y z hjj hj hj' hy hz => ?_,fun k hk1 hk2 => ?_⟩
    ·cases j with
     | zero=>simp at hj; subst hj; exact ⟨hc.1.1,hc.1.2.1,hc.1.2.2,hc.2⟩
     | succ j=>exact h2 j y (by simpa using hj) hy
    ·cases j with
     | zero=>simp at hj; subst hj; exact (hy hf).elim
     | succ j =>
      have:=h3 j y (by simpa using hj) hy
      exact ⟨this.lo,by have:=this.lt; push_cast; omega,this.r,this.hi,this.f,this.c,this.v⟩
    ·cases j' with
     | zero=>omega
     | succ j' =>
      cases j with
      | zero=>simp at hj; subst hj; exact (hy hf).elim
      | succ j=>exact h4 j j' y z (by omega) (by simpa using hj) (by simpa using hj') hy hz
    ·obtain ⟨j,y,hj,hy⟩:=h5 k hk1 hk2
     exact ⟨j+1,y,by simpa using hj,hy⟩
   ·cases h
  ·rename_i hf
   split at h
   ·rename_i hc
    obtain ⟨c1,c2,c3,c4,c5,c6⟩:=hc
    have c1':=za2.mp c1
    obtain ⟨h1,h2,h3,h4,h5⟩:=z7m F xs (i+1) (n+2) m h
    refine ⟨by omega,fun j y hj hy => ?_,fun j y hj hy => ?_,fun j j' y z hjj hj hj' hy hz => ?_,fun k hk1 hk2 => ?_⟩
    ·cases j with
     | zero=>simp at hj; subst hj; exact (hf hy).elim
     | succ j=>exact h2 j y (by simpa using hj) hy
    ·cases j with
     | zero=>simp at hj; subst hj; exact ⟨by omega,by simp; omega,by omega,by omega,c1',c2,c3⟩
     | succ j =>
      have:=h3 j y (by simpa using hj) hy
      exact ⟨by have:=this.lo; omega,by have:=this.lt; push_cast; omega,this.r,this.hi,this.f,this.c,this.v⟩
    ·cases j' with
     | zero=>omega
     | succ j' =>
      cases j with
      | zero =>
       simp at hj; subst hj
       have:=(h3 j' z (by simpa using hj') hz).lo
       omega
      | succ j=>exact h4 j j' y z (by omega) (by simpa using hj) (by simpa using hj') hy hz
    ·by_cases hkn:k<n+2
     ·exact ⟨0,x,rfl,hf,by omega⟩
     ·obtain ⟨j,y,hj,hy⟩:=h5 k (by omega) hk2
      exact ⟨j+1,y,by simpa using hj,hy⟩
   ·cases h
structure Shaped (t:List Nd) (F:Int):Prop where
 leaf : ∀ (j:Nat) (x:Nd),t[j]?=some x→x.f = -1→x.c=0∧x.l=0∧x.r=0∧zef x.v=true
 inner : ∀ (j:Nat) (x:Nd),t[j]?=some x→x.f ≠ -1→z8l F x j 1 t.length
 ord : ∀ (j j':Nat) (x y:Nd),j<j'→t[j]?=some x→t[j']?=some y→x.f ≠ -1→y.f ≠ -1→x.r<y.l
 cover : ∀ k:Int,1≤k→k<t.length→∃ (j:Nat) (x:Nd),t[j]?=some x∧x.f ≠ -1∧(x.l=k∨x.r=k)
 pos:1≤t.length
theorem z4s {t:List Nd} {F:Int} (h:zej t F=true):Shaped t F:=by
 unfold zej at h
 split at h
 ·rename_i n hn
  simp at h
  subst h
  obtain ⟨h1,h2,h3,h4,h5⟩:=z7m F t 0 1 _ hn
  exact ⟨h2,fun j x hj hx=>by simpa using h3 j x hj hx,h4,h5,by omega⟩
 ·cases h
theorem z6r {k:Int} {x:Nd}:zf3 k x=true↔x.f ≠ -1∧(x.l=k∨x.r=k):=by simp [zf3]
theorem Shaped.par_of {t:List Nd} {F:Int} (h:Shaped t F) {i:Nat} {x:Nd} (hx:t[i]?=some x) (hf:x.f ≠ -1) {k:Int} (hk:x.l=k∨x.r=k):par t k=i:=by
 unfold par
 refine zou hx (z6r.mpr ⟨hf,hk⟩) fun j y hj hy => ?_
 cases ha:zf3 k y with
 | false=>rfl
 | true =>
  obtain ⟨hyf,hyk⟩:=z6r.mp ha
  have h1:=h.ord j i y x hj hy hx hyf hf
  have h2:=(h.inner j y hy hyf).r
  have h3:=(h.inner i x hx hf).r
  omega
theorem Shaped.par_lt {t:List Nd} {F:Int} (h:Shaped t F) (k:Int):par t k<0∨∃ (i:Nat) (x:Nd),par t k=i∧t[i]?=some x∧x.f ≠ -1∧(x.l=k∨x.r=k)∧(i:Int)<k∧k<t.length:=by
 rcases z52 t k with h1 | h1
 ·left; omega
 ·obtain ⟨i,hi⟩ : ∃ i:Nat,par t k=i:=⟨(par t k).toNat,by omega⟩
  right
  have hil:i<t.length:=by omega
  have hx:=List.getElem?_eq_getElem hil
  refine ⟨i,t[i],hi,hx,?_⟩
  have ha:zf3 k t[i]=true:=by
   unfold par zgf at hi
   split at hi
   ·rename_i j hj
    obtain ⟨h2,h3,_⟩:=List.findIdx?_eq_some_iff_getElem.mp hj
    have:j=i:=by omega
    subst this; exact h3
   ·omega
  obtain ⟨hf,hk⟩:=z6r.mp ha
  have:=h.inner i _ hx hf
  have h2:=this.lt
  have h3:=this.r
  have h4:=this.hi
  exact ⟨hf,hk,by omega,by omega⟩
theorem Shaped.anc {t:List Nd} {F:Int} (h:Shaped t F) : ∀ (n:Nat) (k:Int),k<n→0<n→∃ l,anc t n k=some l
 | 0,_,_,h0=>by omega
 | n+1,k,hk,_=>by
  rw [zkd]
  split
  ·exact ⟨[],rfl⟩
  ·rename_i hp
   rcases h.par_lt k with h1 | ⟨i,x,h1,_,_,_,h2,_⟩
   ·omega
   ·obtain ⟨l,hl⟩:=h.anc n (par t k) (by omega) (by omega)
    exact ⟨_,by rw [hl]; rfl⟩
def adj (p:Int→Int→Bool):List Int→Bool
 | a::b::r=>p a b || adj p (b::r)
 | _=>false
theorem ymd (p:Int→Int→Bool) : ∀ (l:List Int) (a b:Int),adj p (l++[a,b])=(adj p (l++[a]) || p a b)
 | [],a,b=>by simp [adj]
 | [x],a,b=>by simp [adj]
 | x::y::r,a,b=>by
  have:=ymd p (y::r) a b
  simp only [List.cons_append,adj] at this ⊢
  rw [this,Bool.or_assoc]
theorem ylq (p:Int→Int→Bool) : ∀ l:List Int,adj p l.reverse=adj (fun a b=>p b a) l
 | []=>rfl
 | [x]=>rfl
 | x::y::r=>by
  have:=ylq p (y::r)
  rw [adj,← this]
  simp only [List.reverse_cons,List.append_assoc,List.cons_append,List.nil_append]
  rw [ymd,Bool.or_comm]
theorem z6w {p:Int→Int→Bool} : ∀ {l:List Int},adj p l=true↔∃ (i:Nat) (a b:Int),l[i]?=some a∧l[i+1]?=some b∧p a b=true
 | []=>by simp [adj]
 | [x]=>by simp [adj]
 | x::y::r=>by
  simp only [adj,Bool.or_eq_true]
  rw [z6w (l:=y::r)]
  constructor
  ·rintro (h | ⟨i,a,b,h1,h2,h3⟩)
   ·exact ⟨0,x,y,rfl,rfl,h⟩
   ·exact ⟨i+1,a,b,by simpa using h1,by simpa using h2,h3⟩
  ·rintro ⟨i,a,b,h1,h2,h3⟩
   cases i with
   | zero=>simp at h1 h2; subst h1; subst h2; exact .inl h3
   | succ i=>exact .inr ⟨i,a,b,by simpa using h1,by simpa using h2,h3⟩
def ze8 (t:List Nd) (n:Nd) (a b:Int):Bool:=match t[a.toNat]? with
 | none=>false
 | some x=>decide (x.f=n.f) && ((decide (x.r=b) && decide (n.c≤x.c)) || (decide (x.l=b) && decide (x.c≤n.c)))
def zj5 (t:List Nd) (i:Nat):Bool:=match t[i]? with
 | none=>true
 | some x=>decide (x.f = -1) || !adj (ze8 t x) (way t i)
def zkw (t:List Nd):Bool:=(List.range t.length).all (zj5 t)
def zcq (t:List Nd) (F:Int):Bool:=zai F 0 4 && zai t.length 1 31 && zej t F && decide (dpt t t.length≤4) && zkw t
theorem yg0 (t:List Nd) (b:Int) (hb : -1≤b) : ∀ n:Nat,dpt t n≤b↔∀ i:Nat,i<n→zea t i≤b
 | 0=>by simp [dpt]; omega
 | n+1=>by
  have ih:=yg0 t b hb n
  simp only [dpt]
  constructor
  ·intro h i hi
   by_cases e:i=n
   ·subst e; omega
   ·exact ih.mp (by omega) i (by omega)
  ·intro h
   have h1:=ih.mpr fun i hi=>h i (by omega)
   have h2:=h n (by omega)
   omega
theorem Shaped.lev_par {t:List Nd} {F:Int} (h:Shaped t F) (hl:t.length≤31) {k:Nat} (hk:k<t.length):0≤zea t k∧(par t k<0→zea t k=0)∧(0≤par t k→zea t k=zea t (par t k)+1):=by
 have e : ∀ j:Nat,j<t.length→zea t j=lev t 32 j:=fun j hj=>by unfold zea; rw [if_pos (by omega)]
 obtain ⟨l,ha⟩:=h.anc 32 k (by omega) (by omega)
 have hlev:zea t k=l.length:=by rw [e k hk,yma,ha]
 refine ⟨by omega,fun hp => ?_,fun hp => ?_⟩
 ·rw [zkd,if_pos hp] at ha; cases ha; simpa using hlev
 ·rcases h.par_lt k with h1 | ⟨i,x,h1,_,_,_,h2,_⟩
  ·omega
  ·obtain ⟨m,hm⟩:=h.anc 31 i (by omega) (by omega)
   rw [zkd,if_neg (by omega),h1,hm] at ha
   simp at ha
   subst ha
   obtain ⟨m',hm'⟩:=h.anc 32 i (by omega) (by omega)
   have hmm : ∀ (n:Nat) (k:Int) (a b:List Int),Pe.anc t n k=some a→Pe.anc t (n+1) k=some b→a=b:=by
    intro n
    induction n with
    | zero=>intro k a b h1; cases h1
    | succ n ih =>
     intro k a b h1 h2
     rw [zkd] at h1 h2
     split at h1
     ·rename_i c; rw [if_pos c] at h2; cases h1; cases h2; rfl
     ·rename_i c; rw [if_neg c] at h2
      simp only [Option.map_eq_some_iff] at h1 h2
      obtain ⟨a',ha',rfl⟩:=h1
      obtain ⟨b',hb',rfl⟩:=h2
      rw [ih _ _ _ ha' hb']
   have:=hmm 31 i m m' hm hm'
   subst this
   rw [h1,e i (by omega),yma,hm',hlev]
   simp
theorem Shaped.leaf_deep {t:List Nd} {F:Int} (h:Shaped t F) (hl:t.length≤31) : ∀ (n k:Nat),k<t.length→t.length-k≤n→∃ (j:Nat) (x:Nd),t[j]?=some x∧x.f = -1∧zea t k≤zea t j
 | 0,k,hk,hn=>by omega
 | n+1,k,hk,hn=>by
  have hx:=List.getElem?_eq_getElem hk
  by_cases hf:(t[k]).f = -1
  ·exact ⟨k,_,hx,hf,Int.le_refl _⟩
  ·have hi:=h.inner k _ hx hf
   have h1:=hi.lt
   have h2:=hi.r
   have h3:=hi.hi
   obtain ⟨c,hc⟩ : ∃ c:Nat,(t[k]).l=c:=⟨(t[k]).l.toNat,by omega⟩
   have hp:=h.par_of hx hf (.inl hc)
   obtain ⟨_,_,h4⟩:=h.lev_par hl (k:=c) (by omega)
   rw [hp] at h4
   obtain ⟨j,y,h5,h6,h7⟩:=h.leaf_deep hl n c (by omega) (by omega)
   exact ⟨j,y,h5,h6,by have:=h4 (by omega); omega⟩
theorem y4t {p:Int→Int→Bool} {w:List Int} {i:Nat} {a b:Int} (h1:w[i]?=some a) (h2:w[i+1]?=some b):adj p (w.drop i)=(p a b || adj p (w.drop (i+1))):=by
 rw [zct h1,zct h2,adj]
theorem y54 {p:Int→Int→Bool} {w:List Int} {i:Nat} (h:w.length≤i+1):adj p (w.drop i)=false:=by
 by_cases c:i<w.length
 ·rw [List.drop_eq_getElem_cons c,List.drop_eq_nil_of_le h,adj]
  simp
 ·rw [List.drop_eq_nil_of_le (by omega),adj]
  simp
theorem Shaped.way {t:List Nd} {F:Int} (h:Shaped t F) (hl:t.length≤31) {i:Nat} (hi:i<t.length) : ∃ l,Pe.way t i=((i:Int)::l).reverse∧Chn t l (par t i)∧l.length≤31:=by
 obtain ⟨l,ha⟩:=h.anc 32 i (by omega) (by omega)
 have hc:=z6m t 32 i l (by omega) ha
 have hle:=z8z t 32 i l ha
 refine ⟨l,?_,hc.2.2,by omega⟩
 unfold Pe.way
 rw [if_pos (by omega),ha]
theorem y03 {t:List Nd} {a:Nat} {z:Nd} (h:t[a]?=some z) (n:Nd) (b:Int):ze8 t n a b=(decide (z.f=n.f) && ((decide (z.r=b) && decide (n.c≤z.c)) || (decide (z.l=b) && decide (z.c≤n.c)))):=by
 simp [ze8,h]
theorem yz2 {t:List Nd} {a:Nat} {z:Nd} (h:t[a]?=some z) (n:Nd) (b:Int):ze8 t n a b=(decide (z.f=n.f) && ((decide (b=z.r) && decide (n.c≤z.c)) || (decide (b=z.l) && decide (z.c≤n.c)))):=by
 simp [ze8,h,eq_comm (a:=b)]
theorem z3r {t:List Nd} {i:Nat} {x:Nd} (h:t[i]?=some x):zj5 t i=(decide (x.f = -1) || !adj (ze8 t x) (way t i)):=by simp [zj5,h]
theorem z6p {t:List Nd}:zkw t=true↔∀ j:Nat,j<t.length→zj5 t j=true:=by
 simp [zkw]
theorem y8h {t:List Nd} {i:Nat} (hi:i<t.length) (h:zj5 t i=false):zkw t=false:=by
 cases e:zkw t with
 | false=>rfl
 | true=>rw [z6p.mp e i hi] at h; cases h
set_option maxHeartbeats 1000000 in
theorem yw4 (t:List Nd) (F:Int) (hl:t.length≤31) (hs:Shaped t F):RUN T zqa [.agg [.sl 5 (t.map nd)]]=some ([bv (zkw t)],[]):=by
 refine zaf yb6 rfl ?_
 simp [zys,zyt]
 refine zas (fun n st => ∃ i:Nat,i+n=t.length∧(∀ j:Nat,j<i→zj5 t j=true)∧st.V 1 = .ptr 0 none 0 0 0∧st.V 3=iv i∧0<st.nx∧st.S 0=some (.box [.sl 5 (t.map nd)])) ?_ t.length _ ⟨0,by simp⟩
 rintro n st ⟨i,hi,hk,h1,h3,hnx,hS⟩
 simp [z9q,h1,h3,hS]
 have z:=fr hnx
 refine zao (fun h => ?_) (fun h => ?_)
 ·simp at h
  obtain ⟨x,hx⟩ : ∃ x,t[i]?=some x:=⟨_,List.getElem?_eq_getElem h⟩
  have hw:=wS h (by omega:t.length≤9223372036854775807)
  have hup:=fun k=>yey t k (by omega)
  obtain ⟨l,hway,hchn,hll⟩:=hs.way hl h
  simp [-getElem?_pos,h1,h3,hS,hx,z,nd]
  refine zao (fun h4 => ?_) (fun h4 => ?_)
  ·simp at h4
   have ok:zj5 t i=true:=by rw [z3r hx]; simp [h4]
   simp [-getElem?_pos,h1,h3,hS,hx,z,hw]
   exact zal (n-1) (by omega) ⟨i+1,by omega,fun j hj=>by by_cases e:j=i; (subst e; exact ok); exact hk j (by omega),by simp [h1],by simp,by simp [hnx],by simp [hS]⟩
  ·simp at h4
   obtain ⟨A,hA⟩ : ∃ A,A=adj (ze8 t x) (way t i):=⟨_,rfl⟩
   have hA':zj5 t i = !A:=by rw [z3r hx,hA]; simp [h4]
   rw [hway,ylq] at hA
   simp [-getElem?_pos,h1,h3,hS,hx,z,hw,hup]
   refine zas (fun n st => ∃ (c:Int) (r:List Int),r.length=n∧Chn t r (par t c)∧adj (fun a b=>ze8 t x b a) (c::r)=A∧st.V 1 = .ptr 0 none 0 0 0∧st.V 3=iv i∧st.V 4=iv c∧st.V 5=iv (par t c)∧0<st.nx∧st.S 0=some (.box [.sl 5 (t.map nd)])) ?_ l.length _ ⟨i,l,rfl,hchn,hA.symm,by simp [h1],by simp [h3],by simp,by simp,by simp [hnx],by simp [hS]⟩
   clear hnx hS h1 h3 z
   rintro n' st ⟨c,r,hr,hc,hcA,h1,h3,h4',h5,hnx,hS⟩
   have z:=fr hnx
   simp [z9p,h1,h3,h5]
   refine zao (fun h => ?_) (fun h => ?_)
   ·simp at h
    cases r with
    | nil=>have:par t c<0:=hc; omega
    | cons y ys =>
     obtain ⟨rfl,h0,hc'⟩:=hc
     have hpr:=z52 t c
     obtain ⟨a,ha⟩ : ∃ a:Nat,par t c=a:=⟨(par t c).toNat,by omega⟩
     rw [ha] at h5 hc' hcA hpr
     obtain ⟨y,hy⟩ : ∃ y,t[a]?=some y:=⟨_,List.getElem?_eq_getElem (by omega)⟩
     rw [adj,y03 hy] at hcA
     have z2:=fr (by omega:st.nx<st.nx+1)
     by_cases b0:y.f=x.f
     all_goals by_cases b1:y.r=c
     all_goals by_cases b2:x.c≤y.c
     all_goals by_cases b3:y.l=c
     all_goals by_cases b4:y.c≤x.c
     all_goals simp [b0,b1,b2,b3,b4] at hcA
     all_goals simp [-getElem?_pos,h1,h3,h4',h5,hS,hx,hy,z,nd,hup,b0,b1,b2,b3,b4]
     all_goals first
      | (have no:zkw t=false:=y8h (i:=i) (by omega) (by rw [hA']; simp [hcA])
         simp [no]; done)
      | (simp at hr
         exact zal ys.length (by omega) ⟨a,ys,rfl,hc',hcA,by simp [h1],by simp [h3],by simp,by simp,by simp,by simp [z,hS]⟩)
      | skip
   ·simp at h
    cases r with
    | nil =>
     have ok:zj5 t i=true:=by rw [hA',← hcA]; rfl
     simp [-getElem?_pos,h1,h3,hS,hx,z,hw]
     exact zal (n-1) (by omega) ⟨i+1,by omega,fun j hj=>by by_cases e:j=i; (subst e; exact ok); exact hk j (by omega),by simp [h1],by simp,by simp [hnx],by simp [hS]⟩
    | cons x xs=>obtain ⟨_,h0,_⟩:=hc; omega
 ·simp at h
  have:zkw t=true:=z6p.mpr fun j hj=>hk j (by omega)
  simp [this]
theorem ye1 (t:List Nd) (F:Int) (hl:t.length≤9223372036854775807):RUN T zmj [.agg [.sl 5 (t.map nd)],iv F]=some ([bv (zcq t F)],[]):=by
 refine zaf yau rfl ?_
 unfold zcq
 by_cases h1:zai F 0 4=true
 ·by_cases h2:zai t.length 1 31=true
  ·have h1':=za2.mp h1
   have h2':=za2.mp h2
   have hS:=yw2 t F (by omega) h1'
   have hD:=ywp t hl
   by_cases h3:zej t F=true
   ·have hW:=yw4 t F (by omega) (z4s h3)
    by_cases h4:dpt t t.length≤4
    ·simp [zju,zjv,za5,-zav,h1,h2,hS,hD,hW,h3,h4]
    ·simp [zju,zjv,za5,-zav,h1,h2,hS,hD,h3,h4]
   ·simp [zju,zjv,za5,-zav,h1,h2,hS,h3]
  ·simp [zju,zjv,za5,-zav,h1,h2]
 ·by_cases h2:zai t.length 1 31=true
  ·simp [zju,zjv,za5,-zav,h1,h2]
  ·simp [zju,zjv,za5,-zav,h1,h2]
theorem yhp {t:List Nd} {F:Int} (hl:t.length≤31) (h:Shaped t F):(decide (dpt t t.length≤4) && zkw t)=true↔∀ (i:Nat) (x:Nd),t[i]?=some x→(x.f = -1→zea t i≤4)∧(x.f ≠ -1→adj (ze8 t x) (way t i)=false):=by
 simp only [Bool.and_eq_true,decide_eq_true_eq,z6p,yg0 t 4 (by omega)]
 constructor
 ·rintro ⟨h1,h2⟩ i x hx
  have hi:=(List.getElem?_eq_some_iff.mp hx).1
  refine ⟨fun _=>h1 i hi,fun hf => ?_⟩
  have:=h2 i hi
  rw [z3r hx] at this
  simpa [hf] using this
 ·intro h3
  refine ⟨fun i hi => ?_,fun i hi => ?_⟩
  ·obtain ⟨j,x,hx,hf,hle⟩:=h.leaf_deep hl t.length i hi (by omega)
   have:=(h3 j x hx).1 hf
   omega
  ·have hx:=List.getElem?_eq_getElem hi
   rw [z3r hx]
   by_cases hf:(t[i]).f = -1
   ·simp [hf]
   ·simp [hf,(h3 i _ hx).2 hf]
theorem yi1 {t:List Nd} {F:Int} (hl:t.length≤31) (h:Shaped t F) {i:Nat} {x:Nd} (hx:t[i]?=some x) (hn:(x.f = -1∧4<zea t i)∨(x.f ≠ -1∧adj (ze8 t x) (way t i)=true)):zcq t F=false:=by
 have:=mt ((yhp hl h).mp) fun h3=>by
  have:=h3 i x hx
  rcases hn with ⟨h1,h2⟩ | ⟨h1,h2⟩
  ·have:=this.1 h1; omega
  ·rw [this.2 h1] at h2; cases h2
 unfold zcq
 rw [Bool.and_assoc]
 simp [Bool.not_eq_true] at this ⊢
 intro _ _ _ h4
 exact this h4
theorem y7q {t:List Nd} {F:Int} (h1:zai F 0 4=true) (h2:zai t.length 1 31=true) (h3:zej t F=true) (hn : ∀ (i:Nat) (x:Nd),t[i]?=some x→(x.f = -1→zea t i≤4)∧(x.f ≠ -1→adj (ze8 t x) (way t i)=false)):zcq t F=true:=by
 unfold zcq
 rw [Bool.and_assoc,(yhp (za2.mp h2 |>.2 |> fun h=>by omega) (z4s h3)).mpr hn,h1,h2,h3]
 rfl
theorem zgo {α:Type} {P:Nat→α→Prop} {l:List α} {i:Nat} {x:α} (h : ∀ (j:Nat) (x:α),j<i→l[j]?=some x→P j x) (hi:l[i]?=some x) (hp:P i x) : ∀ (j:Nat) (x:α),j<i+1→l[j]?=some x→P j x:=by
 intro j y hj hy
 by_cases e:j=i
 ·subst e; rw [hi] at hy; cases hy; exact hp
 ·exact h j y (by omega) hy
set_option maxHeartbeats 1000000 in
theorem yw5 (t:List Nd) (F:Int) (hl:t.length≤9223372036854775807):RUN T zpy [.agg [.sl 5 (t.map nd)],iv F]=some ([bv (zcq t F)],[]):=by
 refine zaf ybt rfl ?_
 by_cases h1:zai F 0 4=true
 case neg=>simp [znv,znw,ze4,-zdn,h1,zcq]
 by_cases h2:zai t.length 1 31=true
 case neg=>simp [znv,znw,ze4,-zdn,h1,h2,zcq]
 have h1':=za2.mp h1
 have h2':=za2.mp h2
 have hS:=yw3 t F (by omega) h1'
 by_cases h3:zej t F=true
 case neg=>simp [znv,znw,ze4,-zdn,h1,h2,hS,h3,zcq]
 have hs:=z4s h3
 have hL:=fun k=>ywo t k hl
 have hW:=fun k=>yez t k hl
 simp [znv,znw,ze4,-zdn,h1,h2,hS,h3]
 refine zas (fun n st => ∃ i:Nat,i+n=t.length∧(∀ (j:Nat) (x:Nd),j<i→t[j]?=some x→(x.f = -1→zea t j≤4)∧(x.f ≠ -1→adj (ze8 t x) (way t j)=false))∧st.V 2 = .ptr 0 none 0 0 0∧st.V 30=iv i∧st.V 29=iv t.length∧st.V 28 = .sl 5 (t.map nd)∧0<st.nx∧st.S 0=some (.box [.sl 5 (t.map nd)])) ?_ t.length _ ⟨0,by simp⟩
 rintro n st ⟨i,hi,hk,v2,v30,v29,v28,hnx,hS⟩
 simp [z9k,v30,v29,v28]
 have z:=fr hnx
 have z2:=fr (by omega:st.nx<st.nx+1)
 refine zao (fun h => ?_) (fun h => ?_)
 ·simp at h
  obtain ⟨x,hx⟩ : ∃ x,t[i]?=some x:=⟨_,List.getElem?_eq_getElem h⟩
  have hw:=wS h hl
  simp [-getElem?_pos,v2,v30,v29,v28,hS,hx,z,z2,nd]
  refine zao (fun h4 => ?_) (fun h4 => ?_)
  ·simp at h4
   simp [-getElem?_pos,v2,v30,v29,v28,hS,hx,z,z2,hL]
   refine zao (fun h5 => ?_) (fun h5 => ?_)
   ·simp at h5
    simp [yi1 (by omega) hs hx (.inl ⟨h4,by omega⟩)]
   ·simp at h5
    simp [-getElem?_pos,v2,v30,v29,v28,hS,hx,z,z2,hw]
    exact zal (n-1) (by omega) ⟨i+1,by omega,zgo (P:=fun j x=>(x.f = -1→zea t j≤4)∧(x.f ≠ -1→adj (ze8 t x) (way t j)=false)) hk hx ⟨fun _=>by omega,fun h=>(h h4).elim⟩,by simp [v2],by simp,by simp [v29],by simp [v28],by simp,by simp [z,hS]⟩
  ·simp at h4
   obtain ⟨l,hway,hchn,hll⟩:=hs.way (by omega) h
   obtain ⟨w,hww⟩ : ∃ w,w=way t i:=⟨_,rfl⟩
   have hwl:1≤w.length∧w.length≤32:=by rw [hww,hway]; simp; omega
   have hwr:=y5t t i
   obtain ⟨A,hA⟩ : ∃ A,A=adj (ze8 t x) w:=⟨_,rfl⟩
   rw [← hww] at hwr
   have hww':=hW i
   rw [← hww] at hww'
   obtain ⟨q,hq⟩ : ∃ q,w.length=q+1:=⟨w.length-1,by omega⟩
   have hw1:IntKind.i64.wrap ((w.length:Int)-1)=q:=by rw [hq]; exact (w64 (by omega) (by omega)).trans (by omega)
   have hql:q≤w.length:=by omega
   simp [-getElem?_pos,v2,v30,v29,v28,hS,hx,z,z2,hww',hw1,hql]
   refine zas (fun n st => ∃ (j:Nat) (p o e ep:Nat),j+n=q∧adj (ze8 t x) (w.drop j)=A∧st.V 2 = .ptr 0 none 0 0 0∧st.V 30=iv i∧st.V 29=iv t.length∧st.V 28 = .sl 5 (t.map nd)∧st.V 6 = .ptr p none ep 0 0∧st.V 7 = .ref o none e 0 w.length∧st.V 48 = .ref o none e 0 q∧st.V 49=iv q∧st.V 50=iv j∧0<p∧p<o∧o<st.nx∧st.S p=some (.box [iv x.f,iv x.c,iv x.l,iv x.r,iv x.v])∧st.S o=some (.row 1 (zab w))∧st.S 0=some (.box [.sl 5 (t.map nd)])) ?_ q _ ⟨0,st.nx,st.nx+1,st.ep,st.ep,by omega,by simp [hA],by simp [v2],by simp [v30],by simp [v29],by simp [v28],by simp,by simp,by simp,by simp,by simp,hnx,by omega,by simp,by simp [z,z2],by simp [z,z2],by simp [z,z2,hS]⟩
   clear hnx hS z z2 v2 v30 v29 v28
   rintro n' st ⟨j,p,o,e,ep,hj,hjA,v2,v30,v29,v28,v6,v7,v48,v49,v50,hp,hpo,hox,hSp,hSo,hS⟩
   have z1:=fr hox
   have z2:=fr hpo
   have z3:=fr hp
   have z4:=fr (by omega:p<st.nx)
   have z5:=fr (by omega:0<o)
   have z6:=fr (by omega:0<st.nx)
   simp [z9j,v49,v50]
   refine zao (fun h => ?_) (fun h => ?_)
   ·simp at h
    have hjl:j+1<w.length:=by omega
    obtain ⟨a,ha⟩ : ∃ a,w[j]?=some a:=⟨_,List.getElem?_eq_getElem (by omega)⟩
    obtain ⟨b,hb⟩ : ∃ b,w[j+1]?=some b:=⟨_,List.getElem?_eq_getElem hjl⟩
    have har:=hwr a (List.mem_of_getElem? ha)
    obtain ⟨a,rfl⟩ : ∃ a':Nat,a=a':=⟨a.toNat,by omega⟩
    obtain ⟨y,hy⟩ : ∃ y,t[a]?=some y:=⟨_,List.getElem?_eq_getElem (by omega)⟩
    rw [y4t ha hb,yz2 hy] at hjA
    have ha':=za7 ha
    have hb':=za7 hb
    have hwj:=w64 (x:=(j:Int)+1) (by omega) (by omega)
    rcases Classical.propComplete (y.f=x.f) with b0 | b0
    all_goals rcases Classical.propComplete (b=y.r) with b1 | b1
    all_goals rcases Classical.propComplete (x.c≤y.c) with b2 | b2
    all_goals rcases Classical.propComplete (b=y.l) with b3 | b3
    all_goals rcases Classical.propComplete (y.c≤x.c) with b4 | b4
    all_goals simp [b0,b1,b2,b3,b4] at hjA
    all_goals simp [-getElem?_pos,v2,v30,v29,v28,v6,v7,v48,v49,v50,hSp,hSo,hS,z1,z2,z3,z4,z5,z6,ha',hb',hwj,hy,nd,b0,b1,b2,b3,b4,h,hjl]
    all_goals first
     | (have no:zcq t F=false:=yi1 (by omega) hs hx (.inr ⟨h4,by rw [← hww,← hA]; simp [hjA]⟩)
        simp [no]; done)
     | exact zal (n'-1) (by omega) ⟨j+1,p,o,e,ep,by omega,hjA,by simp [v2],by simp [v30],by simp [v29],by simp [v28],by simp [v6],by simp [v7],by simp [v48],by simp [v49],by simp,hp,hpo,by simp; omega,by simp [z4,hSp],by simp [z1,hSo],by simp [z6,hS]⟩
     | skip
   ·simp at h
    rw [y54 (by omega)] at hjA
    simp [-getElem?_pos,v2,v30,v29,v28,hw]
    exact zal (n-1) (by omega) ⟨i+1,by omega,zgo (P:=fun j x=>(x.f = -1→zea t j≤4)∧(x.f ≠ -1→adj (ze8 t x) (way t j)=false)) hk hx ⟨fun h=>(h4 h).elim,fun _=>by rw [← hww,← hA,hjA]⟩,by simp [v2],by simp,by simp [v29],by simp [v28],by simp; omega,by simp [hS]⟩
 ·simp at h
  have:zcq t F=true:=y7q h1 h2 h3 fun j x hj=>hk j x (by have:=(List.getElem?_eq_some_iff.mp hj).1; omega) hj
  simp [this]
def cel (q:Bool) (l:List Int):PV:=if q then .own 1 (zab l) else .sl 1 (zab l)
@[simp] theorem qju (q:Bool) (l:List Int):fz (cel q l) = .sl 1 (zab l):=by cases q <;> simp [cel]
def rws (q:Bool) (L:List (List Int)):List (List PV):=L.map fun l=>[cel q l]
@[simp] theorem qen (q:Bool) (L:List (List Int)):(rws q L).length=L.length:=by simp [rws]
theorem ze6 {q:Bool} {L:List (List Int)} {i:Nat} {l:List Int} (h:L[i]?=some l):(rws q L)[i]?=some [cel q l]:=by simp [rws,h]
@[simp] theorem qdo (n:Int):RUN T zm8 [iv n]=some ([bv (!za8 n)],[]):=by
 refine zaf ydn rfl ?_
 simp [z0z,z00]
theorem ye2 (l:List Int) (hl:l.length≤9223372036854775807):RUN T zmv [.sl 1 (zab l)]=some ([bv (l.all za8)],[]):=by
 refine zaf yce rfl ?_
 have e:=z5g (f:=zm8) (p:=fun n => !za8 n) l hl (by simp) (fun n _=>by simp)
 simp [zy2,zy3,e]
 simp [List.any_eq_not_all_not]
def zh2 (l:List Int):Bool := !adj (fun a b=>decide (b≤a)) l && l.all za8 && decide ((l.length:Int)≤7)
theorem y3q {p:Int→Int→Bool} {l:List Int} (h : ∀ (j:Nat) (a b:Int),l[j]?=some a→l[j+1]?=some b→p a b=false):adj p l=false:=by
 cases e:adj p l with
 | false=>rfl
 | true =>
  obtain ⟨j,a,b,h1,h2,h3⟩:=z6w.mp e
  rw [h j a b h1 h2] at h3; cases h3
theorem y6d {p:Int→Int→Bool} {l:List Int} {j:Nat} {a b:Int} (h1:l[j]?=some a) (h2:l[j+1]?=some b) (h3:p a b=true):adj p l=true:=z6w.mpr ⟨j,a,b,h1,h2,h3⟩
theorem ztn {l:List Int} {p:Int→Bool} {j:Nat} {a:Int} (h1:l[j]?=some a) (h2:p a=false):l.all p=false:=by
 cases e:l.all p with
 | false=>rfl
 | true=>rw [List.all_eq_true.mp e a (List.mem_of_getElem? h1)] at h2; cases h2
theorem zs2 {l:List Int} {p:Int→Bool} (h : ∀ (j:Nat) (a:Int),j<l.length→l[j]?=some a→p a=true):l.all p=true:=by
 rw [List.all_eq_true]
 intro x hx
 obtain ⟨j,hj⟩:=List.getElem?_of_mem hx
 exact h j x (List.getElem?_eq_some_iff.mp hj).1 hj
theorem yw6 (l:List Int) (hl:l.length≤9223372036854775807):RUN T zrg [.sl 1 (zab l)]=some ([bv (zh2 l)],[]):=by
 refine zaf yd7 rfl ?_
 simp [z1w,z1x]
 refine zas (fun n st => ∃ i:Nat,i+n=l.length∧st.V 0 = .sl 1 (zab l)∧st.V 3=iv i∧(∀ (j:Nat) (a:Int),j<i→l[j]?=some a→za8 a=true)∧∀ (j:Nat) (a b:Int),j+1<i→l[j]?=some a→l[j+1]?=some b→decide (b≤a)=false) ?_ l.length _ ⟨0,by simp⟩
 rintro n st ⟨i,hi,v0,v3,hd,hj⟩
 simp [yaf,v0,v3]
 refine zao (fun h => ?_) (fun h => ?_)
 ·simp at h
  obtain ⟨b,hb⟩ : ∃ b,l[i]?=some b:=⟨_,List.getElem?_eq_getElem h⟩
  have hb':=za7 hb
  have hw:=wS h hl
  rcases Bool.eq_false_or_eq_true (za8 b) with d | d
  ·have hd':=zgo (P:=fun _ a=>za8 a=true) hd hb d
   rcases i with _ | k
   ·simp [-getElem?_pos,v0,v3,hb',d,h,hw]
    exact zal (n-1) (by omega) ⟨1,by omega,by simp [v0],by simp,by simpa using hd',fun j x y hjk hx hy=>by omega⟩
   ·obtain ⟨a,ha⟩ : ∃ a,l[k]?=some a:=⟨_,List.getElem?_eq_getElem (by omega)⟩
    have ha':=za7 ha
    have hw:IntKind.i64.wrap ((k:Int)+1+1)=(k:Int)+1+1:=w64 (by omega) (by omega)
    have hw1:IntKind.i64.wrap (k:Int)=k:=w64 (by omega) (by omega)
    have hkl:k<l.length:=by omega
    have hk0:(0:Int)<((k+1:Nat):Int):=by omega
    rcases Classical.propComplete (b≤a) with c | c
    ·have:zh2 l=false:=by unfold zh2; rw [y6d ha hb (by simp [c])]; rfl
     simp [-getElem?_pos,v0,v3,ha',hb',d,h,hw,hw1,hkl,hk0,c,this]
    ·simp [-getElem?_pos,v0,v3,ha',hb',d,h,hw,hw1,hkl,hk0,c]
     refine zal (n-1) (by omega) ⟨k+2,by omega,by simp [v0],by simp; omega,hd',fun j x y hjk hx hy => ?_⟩
     by_cases e:j=k
     ·subst e; rw [ha] at hx; rw [hb] at hy; cases hx; cases hy; simp [c]
     ·exact hj j x y (by omega) hx hy
  ·have:zh2 l=false:=by unfold zh2; rw [ztn hb d]; simp
   simp [-getElem?_pos,v0,v3,hb',d,h,this]
 ·simp at h
  have e:adj (fun a b=>decide (b≤a)) l=false:=y3q fun j a b h1 h2=>hj j a b (by have:=(List.getElem?_eq_some_iff.mp h2).1; omega) h1 h2
  have e2:l.all za8=true:=zs2 fun j a h1 h2=>hd j a (by omega) h2
  unfold zh2
  rw [e,e2]
  simp [v0]
def ze9:List (List Int)→Nat
 | []=>0
 | l::_=>l.length
theorem ye3 (q:Bool) (c v:List (List Int)):RUN T zlc [.agg [.sl 1 (rws q c),.sl 1 (rws q v)]]=some ([iv (ze9 v)],[]):=by
 refine zaf ydx rfl ?_
 cases v with
 | nil=>simp [zuq,zur,ze9]
 | cons l L =>
  have h:rws q (l::L)=[cel q l]::rws q L:=rfl
  have h0:((L.length:Int)+1=0)=False:=eq_false (by omega)
  simp [h0,zuq,zur,ze9,h]
theorem yjc {s:St} {d:Option Dst} {op:IOp} {g:Opd} {v:Bool} {x:PV}:(yv s ⟨d,op,some (g,v)⟩=some x)=(Ob' (zh4 v (g.get s)) fun t=>Br t (WI (fun _=>[]) (fun _ _=>none) op s (fun y _=>y=x)) (PV.v Go.undef=x)):=by
 simp only [yv,yk9,WI,Ob',Br,Option.map_eq_some_iff,Option.bind_eq_some_iff,eq_iff_iff]
 constructor
 ·rintro ⟨⟨y,s'⟩,⟨t,h1,h2⟩,h3⟩
  refine ⟨t,h1,fun ht => ?_,fun ht => ?_⟩ <;> subst ht
  ·exact ⟨y,s',by simpa using h2,h3⟩
  ·simp at h2; obtain ⟨rfl,rfl⟩:=h2; exact h3
 ·rintro ⟨t,h1,h2,h3⟩
  cases t with
  | true=>obtain ⟨y,s',h4,h5⟩:=h2 rfl; exact ⟨(y,s'),⟨true,h1,by simpa using h4⟩,h5⟩
  | false=>exact ⟨_,⟨false,h1,rfl⟩,h3 rfl⟩
@[simp] theorem qgo {s:St} {d:Option Dst} {op:IOp} {g:Opd} {v:Bool} {x:PV} {n:Nat} {r:List (zac×PV×Nat)}:zb4 s ((⟨d,op,some (g,v)⟩,x,n+1)::r)=((Ob' (zh4 v (g.get s)) fun t=>Br t (WI (fun _=>[]) (fun _ _=>none) op s (fun y _=>y=x)) (PV.v Go.undef=x))∧zb4 s r):=by
 simp only [zb4,yjc]
@[simp] theorem qpq {V E:Nat→PV} {d:Option Dst} {op:IOp} {g:Opd} {v:Bool} {x:PV} {n:Nat} {s:St} {ms:List St}:za4 V E ⟨d,op,some (g,v)⟩ x (n+1) (s::ms)=((Ob' (zh4 v (g.get { s with V:=V,E:=E })) fun t=>Br t (WI (fun _=>[]) (fun _ _=>none) op { s with V:=V,E:=E } (fun y _=>y=x)) (PV.v Go.undef=x))∧za4 V E ⟨d,op,some (g,v)⟩ x n ms):=by
 simp only [za4,yjc]
def zij (c v:List (List Int)) (f:Nat):Bool:=match c[f]?,v[f]? with
 | some a,some b=>zh2 a && decide ((b.length:Int)=ze9 v) && b.all fun x=>zai x 0 a.length
 | _,_=>true
def zeh (c v:List (List Int)):Bool:=zai c.length 1 4 && decide ((v.length:Int)=c.length) && zai (ze9 v) 1 40 && (List.range c.length).all (zij c v)
theorem y5i {c v:List (List Int)} (h1:zai c.length 1 4=true) (h2:(v.length:Int)=c.length) (h3:zai (ze9 v) 1 40=true):zeh c v=(List.range c.length).all (zij c v):=by
 simp [zeh,h1,h2,h3]
theorem zom {p:Nat→Bool} {n:Nat} (h : ∀ i,i<n→p i=true):(List.range n).all p=true:=by
 rw [List.all_eq_true]
 intro x hx
 exact h x (by simpa using hx)
theorem zg6 {p:Nat→Bool} {n i:Nat} (hi:i<n) (h:p i=false):(List.range n).all p=false:=by
 cases e:(List.range n).all p with
 | false=>rfl
 | true=>rw [List.all_eq_true.mp e i (by simpa using hi)] at h; cases h
theorem y49 {c v:List (List Int)} {f:Nat} {a b:List Int} (ha:c[f]?=some a) (hb:v[f]?=some b):zij c v f=(zh2 a && decide ((b.length:Int)=ze9 v) && b.all fun x=>zai x 0 a.length):=by
 simp [zij,ha,hb]
theorem zeq {P:Nat→Prop} {i:Nat} (h : ∀ j,j<i→P j) (hi:P i) : ∀ j,j<i+1→P j:=by
 intro j hj
 by_cases e:j=i
 ·subst e; exact hi
 ·exact h j (by omega)
set_option maxHeartbeats 1000000 in
theorem ye4 (q:Bool) (c v:List (List Int)) (hc : ∀ l∈c,l.length≤9223372036854775807) (hv : ∀ l∈v,l.length≤9223372036854775807):RUN T znb [.agg [.sl 1 (rws q c),.sl 1 (rws q v)]]=some ([bv (zeh c v)],[]):=by
 refine zaf ydw rfl ?_
 have hR:=ye3 q c v
 by_cases h1:zai c.length 1 4=true
 case neg=>simp [zn3,zn4,za5,-zav,h1,zeh]
 by_cases h2:(v.length:Int)=c.length
 case neg=>simp [zn3,zn4,za5,-zav,h1,h2,zeh]
 by_cases h3:zai (ze9 v) 1 40=true
 case neg=>simp [zn3,zn4,za5,-zav,h1,h2,h3,hR,zeh]
 have h1':=za2.mp h1
 rw [y5i h1 h2 h3]
 simp [zn3,zn4,za5,-zav,h1,h2,h3,hR]
 refine zas (fun n st => ∃ i:Nat,i+n=c.length∧(∀ j,j<i→zij c v j=true)∧st.V 1 = .ptr 0 none 0 0 0∧st.V 3=iv i∧0<st.nx∧st.S 0=some (.box [.sl 1 (rws q c),.sl 1 (rws q v)])) ?_ c.length _ ⟨0,by simp⟩
 rintro n st ⟨i,hi,hk,v1,v3,hnx,hS⟩
 simp [yac,v1,v3,hS]
 have z:=fr hnx
 refine zao (fun h => ?_) (fun h => ?_)
 ·simp at h
  obtain ⟨a,ha⟩ : ∃ a,c[i]?=some a:=⟨_,List.getElem?_eq_getElem h⟩
  obtain ⟨b,hb⟩ : ∃ b,v[i]?=some b:=⟨_,List.getElem?_eq_getElem (by omega)⟩
  have ha':=ze6 (q:=q) ha
  have hb':=ze6 (q:=q) hb
  have hal:=hc a (List.mem_of_getElem? ha)
  have hbl:=hv b (List.mem_of_getElem? hb)
  have hC:=yw6 a hal
  have hw:=wS h (by omega:c.length≤9223372036854775807)
  have hiv:i<v.length:=by omega
  have hfe:=y49 ha hb
  by_cases d1:zh2 a=true
  case neg =>
   have no:=zg6 h (by rw [hfe]; simp [d1]:zij c v i=false)
   simp [-getElem?_pos,v1,v3,hS,z,ha',hb',hC,hR,hw,h,hiv,d1,no]
  rcases Classical.propComplete ((b.length:Int)=ze9 v) with d2 | d2
  case inr =>
   have no:=zg6 h (by rw [hfe,d1]; simp [d2]:zij c v i=false)
   simp [-getElem?_pos,v1,v3,hS,z,ha',hb',hC,hR,hw,h,hiv,d1,d2,no]
  simp [-getElem?_pos,v1,v3,hS,z,ha',hb',hC,hR,hw,h,hiv,d1,d2]
  refine zas (fun n st => ∃ j:Nat,j+n=b.length∧(∀ (k:Nat) (x:Int),k<j→b[k]?=some x→zai x 0 a.length=true)∧st.V 1 = .ptr 0 none 0 0 0∧st.V 3=iv i∧st.V 4=iv j∧0<st.nx∧st.S 0=some (.box [.sl 1 (rws q c),.sl 1 (rws q v)])) ?_ b.length _ ⟨0,by omega,fun _ _ h=>by omega,by simp [v1],by simp [v3],by simp,by simp [hnx],by simp [hS]⟩
  clear v1 v3 hnx hS z
  rintro n' st ⟨j,hj,hjk,v1,v3,v4,hnx,hS⟩
  simp [-getElem?_pos,yab,v1,v3,v4,hS,hb',hiv]
  refine zao (fun h4 => ?_) (fun h4 => ?_)
  ·simp at h4
   obtain ⟨x,hx⟩ : ∃ x,b[j]?=some x:=⟨_,List.getElem?_eq_getElem h4⟩
   have hx':=za7 hx
   have hwj:=wS h4 hbl
   rcases Bool.eq_false_or_eq_true (zai x 0 a.length) with d3 | d3
   ·simp [-getElem?_pos,v1,v3,v4,hS,ha',hb',hx',hiv,h,h4,d3,hwj,za5,-zav]
    exact zal (n'-1) (by omega) ⟨j+1,by omega,zgo (P:=fun _ x=>zai x 0 a.length=true) hjk hx d3,by simp [v1],by simp [v3],by simp,by simp [hnx],by simp [hS]⟩
   ·have no:=zg6 h (by rw [hfe,ztn hx d3]; simp:zij c v i=false)
    simp [-getElem?_pos,v1,v3,v4,hS,ha',hb',hx',hiv,h,h4,d3,hwj,no,za5,-zav]
  ·simp at h4
   have ok:zij c v i=true:=by
    rw [hfe,d1,zs2 fun k x hk hx=>hjk k x (by omega) hx]; simp [d2]
   simp [-getElem?_pos,v1,v3,v4,hS,hw]
   exact zal (n-1) (by omega) ⟨i+1,by omega,zeq hk ok,by simp [v1],by simp,by simp [hnx],by simp [hS]⟩
 ·simp at h
  have:=zom (p:=zij c v) (n:=c.length) fun j hj=>hk j (by omega)
  simp [this]
def zs7 (x:Int):Bool:=zai x (-2199023255552) 2199023255552
def zhv (c v:List (List Int)) (lab:List Int) (g:Cfg):Bool:=zeh c v && zbm g && decide ((lab.length:Int)=ze9 v) && lab.all zs7
theorem ye5 (q:Bool) (c v:List (List Int)) (lab:List Int) (g:Cfg) (hc : ∀ l∈c,l.length≤9223372036854775807) (hv : ∀ l∈v,l.length≤9223372036854775807) (hlab:lab.length≤9223372036854775807) (hg:g.sg.length≤9223372036854775807):RUN T zm3 [.agg [.sl 1 (rws q c),.sl 1 (rws q v)],.sl 1 (zab lab),zfg g]=some ([bv (zhv c v lab g)],[]):=by
 refine zaf yc2 rfl ?_
 have e1:=ye4 q c v hc hv
 have e2:=zva g hg
 have e3:=ye3 q c v
 unfold zhv
 cases d1:zeh c v with
 | false=>simp [zn1,zn2,zfg,e1,d1]
 | true =>
  cases d2:zbm g with
  | false=>simp [zn1,zn2,zfg,e1,d1,e2,d2]
  | true =>
   rcases Classical.propComplete ((lab.length:Int)=ze9 v) with d3 | d3
   ·simp [zn1,zn2,zfg,e1,d1,e2,d2,e3,d3]
    refine zas (fun n st => ∃ i:Nat,i+n=lab.length∧(∀ (j:Nat) (x:Int),j<i→lab[j]?=some x→zs7 x=true)∧st.V 1 = .sl 1 (zab lab)∧st.V 7=iv i) ?_ lab.length _ ⟨0,by omega,fun _ _ h=>by omega,by simp,by simp⟩
    rintro n st ⟨i,hi,hj,v1,v7⟩
    simp [z92,v1,v7]
    refine zao (fun h => ?_) (fun h => ?_)
    ·simp at h
     obtain ⟨x,hx⟩ : ∃ x,lab[i]?=some x:=⟨_,List.getElem?_eq_getElem h⟩
     have hx':=za7 hx
     have hw:=wS h hlab
     have hlb:zs7 x=zai x (-2199023255552) 2199023255552:=rfl
     cases d4:zs7 x with
     | true =>
      have d5:=hlb.symm.trans d4
      simp [-getElem?_pos,v1,v7,hx',hw,h,d5,za5,-zav]
      exact zal (n-1) (by omega) ⟨i+1,by omega,zgo (P:=fun _ x=>zs7 x=true) hj hx d4,by simp [v1],by simp⟩
     | false =>
      have d5:=hlb.symm.trans d4
      have no:=ztn hx d4
      simp [-getElem?_pos,v1,v7,hx',hw,h,d5,no,za5,-zav]
    ·simp at h
     have:=zs2 (p:=zs7) fun j a h1 h2=>hj j a (by omega) h2
     simp [this,d3]
   ·simp [zn1,zn2,zfg,e1,d1,e2,d2,e3,d3]
theorem ygn {α:Type} {f:α→List PV} {p:α→Prop} {tys:List TY} (h : ∀ cs,zb1 tys cs→∃ a,f a=cs∧p a) : ∀ {es:List (List PV)},(∀ cs∈es,zb1 tys cs)→∃ l:List α,l.map f=es∧∀ a∈l,p a
 | [],_=>⟨[],rfl,by simp⟩
 | e::es,hs=>by
  obtain ⟨a,ha,hp⟩:=h e (hs e (by simp))
  obtain ⟨l,hl,hq⟩:=ygn h (es:=es) (fun cs hc=>hs cs (by simp [hc]))
  refine ⟨a::l,by simp [ha,hl],fun b hb => ?_⟩
  rcases List.mem_cons.mp hb with e | e
  ·subst e; exact hp
  ·exact hq b e
theorem yz7 {P:Program} {l:List TypeId} (h:(l.all fun t=>P.readableRec t && decide (t<P.types.size))=true) : ∀ t∈l,P.readableRec t=true∧t<P.types.size:=by
 intro t ht
 have:=List.all_eq_true.mp h t ht
 simpa using this
theorem y32 {p:Bool×List TY} {pvs:List PV} (h:zc5 (fun p c=>zma p.1 p.2 c) [p] pvs) : ∃ a,pvs=[a]∧zma p.1 p.2 a:=by
 cases h with
 | cons h1 t=>cases t with
  | nil=>exact ⟨_,rfl,h1⟩
def zbl (B:List Int):List (List PV):=B.map fun n=>[.v (.int .u8 n)]
@[simp] theorem yzl (B:List Int):(zbl B).length=B.length:=by simp [zbl]
theorem yj5 {B:List Int} {i:Nat} {x:Int} (h:B[i]?=some x):(zbl B)[i]?=some [.v (.int .u8 x)]:=by simp [zbl,h]
def zjh (rv:List RV) (io:Nat) (G:List PV×List PV→Prop) (_:Dm rv) (_:Dm G) (e:Ex) (s:St):Prop:=(e = .normal∨e = .ret)∧∃ r,ze5 ⟨[],rv,.skip⟩ io s=some r∧G r
@[simp] theorem qiu {rv:List RV} {io:Nat} {G:List PV×List PV→Prop} {s:St}:zjh rv io G ⟨⟩ ⟨⟩ .normal s = ∃ r,ze5 ⟨[],rv,.skip⟩ io s=some r∧G r:=by simp [zjh]
@[simp] theorem qm2 {rv:List RV} {io:Nat} {G:List PV×List PV→Prop} {s:St}:zjh rv io G ⟨⟩ ⟨⟩ .ret s = ∃ r,ze5 ⟨[],rv,.skip⟩ io s=some r∧G r:=by simp [zjh]
theorem zfe {T:zcn} {f:Nat} {ms:List Bool} {rv:List RV} {ic:IC} {G:List PV×List PV→Prop} (hT:T f=some (.code ⟨ms,rv,ic⟩)) {args:List PV} {st:St} (hi:zkv args=some st) (h:W (zad T) (RUN T) ic st (zjh rv st.nx G ⟨⟩ ⟨⟩)) : ∃ r,RUN T f args=some r∧G r:=by
 unfold W at h
 obtain ⟨e,s,h1,h2,r,h3,hG⟩:=h
 refine ⟨r,yjh hT ?_,hG⟩
 unfold zv0
 rw [hi]
 simp only [Option.bind_some,h1]
 rcases h2 with rfl | rfl <;> exact h3
attribute [irreducible] zjh
theorem z3m (X:Nat):0≤IntKind.i64.wrap ((X &&& 255 % 2 ^ IntKind.i64.bits:Nat):Int)∧IntKind.i64.wrap ((X &&& 255 % 2 ^ IntKind.i64.bits:Nat):Int)≤255:=by
 have h:X &&& 255 % 2 ^ IntKind.i64.bits≤255:=Nat.le_trans Nat.and_le_right (by decide)
 rw [w64 (by omega) (by omega)]
 omega
def zfl (B:List Int) (P:PV→Prop) (r:List PV×List PV):Prop := ∃ (v:PV) (p:Nat) (s:Int),P v∧p≤B.length∧r=([v],[.bx [.sl 1 (zbl B),iv p,iv s]])
def PB (v:PV):Prop := ∃ b,v=bv b
def PM (l:List Int) (v:PV):Prop := ∃ n,v=iv n∧n∈l
def PI (v:PV):Prop := ∃ n,v=iv n∧inI n
def PN (n:Int) (v:PV):Prop := ∃ m,v=iv m∧0≤m∧(0<n→m<n)
theorem zvb (B:List Int) (p:Nat) (s:Int) (hp:p≤B.length) (hB:B.length≤9223372036854775807) : ∃ r,RUN T zhp [.bx [.sl 1 (zbl B),iv p,iv s]]=some r∧zfl B (fun v => ∃ n,v=iv n∧0≤n∧n≤255) r:=by
 refine zfe ycy rfl ?_
 by_cases h:p<B.length
 ·obtain ⟨x,hx⟩ : ∃ x,B[p]?=some x:=⟨_,List.getElem?_eq_getElem h⟩
  have hx':=yj5 hx
  have hw:=wS h hB
  simp [-getElem?_pos,zui,zuj,h,hx',hw]
  exact ⟨_,p+1,_,⟨_,rfl,(z3m _).1,(z3m _).2⟩,h,rfl⟩
 ·have h' : ¬ ((p:Int)<B.length):=by omega
  simp [-getElem?_pos,zui,zuj,h,h']
  exact ⟨_,p,_,⟨_,rfl,(z3m _).1,(z3m _).2⟩,hp,rfl⟩
theorem zbf (B:List Int) (p:Nat) (s:Int) (hp:p≤B.length) (hB:B.length≤9223372036854775807) (n:Int) (hn:n≤9223372036854775807) : ∃ r,RUN T zbe [.bx [.sl 1 (zbl B),iv p,iv s],iv n]=some r∧zfl B (PN n) r:=by
 refine zfe ybx rfl ?_
 obtain ⟨r1,h1,v1,p1,s1,⟨a1,rfl,a10,a11⟩,hp1,rfl⟩:=zvb B p s hp hB
 by_cases c1:n≤0
 ·simp [-getElem?_pos,zr5,zr6,c1]
  exact ⟨_,p,s,⟨0,rfl,by omega,by omega⟩,hp,rfl⟩
 have c0 : ¬ (n=0):=by omega
 by_cases c2:n≤256
 ·simp [-getElem?_pos,zr5,zr6,c0,c1,c2,h1]
  refine ⟨_,p1,s1,⟨_,rfl,?_,fun _ => ?_⟩,hp1,rfl⟩
  ·exact Int.tmod_nonneg _ a10
  ·exact Int.tmod_lt_of_pos _ (by omega)
 obtain ⟨r2,h2,v2,p2,s2,⟨a2,rfl,a20,a21⟩,hp2,rfl⟩:=zvb B p1 s1 hp1 hB
 obtain ⟨r3,h3,v3,p3,s3,⟨a3,rfl,a30,a31⟩,hp3,rfl⟩:=zvb B p2 s2 hp2 hB
 obtain ⟨r4,h4,v4,p4,s4,⟨a4,rfl,a40,a41⟩,hp4,rfl⟩:=zvb B p3 s3 hp3 hB
 have w1:=w64 (x:=a1*16777216) (by omega) (by omega)
 have w2:=w64 (x:=a2*65536) (by omega) (by omega)
 have w3:=w64 (x:=a1*16777216+a2*65536) (by omega) (by omega)
 have w4:=w64 (x:=a3*256) (by omega) (by omega)
 have w5:=w64 (x:=a1*16777216+a2*65536+a3*256) (by omega) (by omega)
 have w6:=w64 (x:=a1*16777216+a2*65536+a3*256+a4) (by omega) (by omega)
 simp [-getElem?_pos,zr5,zr6,c0,c1,c2,h1,h2,h3,h4,w1,w2,w3,w4,w5,w6]
 refine ⟨_,p4,s4,⟨_,rfl,?_,fun _ => ?_⟩,hp4,rfl⟩
 ·exact Int.tmod_nonneg _ (by omega)
 ·exact Int.tmod_lt_of_pos _ (by omega)
theorem zfj (B:List Int) (p:Nat) (s:Int) (hp:p≤B.length) (hB:B.length≤9223372036854775807) (n:Int) (hn:n≤9223372036854775807) : ∃ r,RUN T ze3 [.bx [.sl 1 (zbl B),iv p,iv s],iv n]=some r∧zfl B PB r:=by
 refine zfe ya2 rfl ?_
 obtain ⟨r1,h1,v1,p1,s1,⟨a1,rfl,a10,a11⟩,hp1,rfl⟩:=zbf B p s hp hB n hn
 simp [-getElem?_pos,zxh,zxi,h1]
 exact ⟨_,p1,s1,⟨_,rfl⟩,hp1,rfl⟩
def y5k (B:List Int) (l:List Int) (P:PV→Prop) (r:List PV×List PV):Prop := ∃ (v:PV) (p:Nat) (s:Int),P v∧p≤B.length∧r=([v],[.bx [.sl 1 (zbl B),iv p,iv s],.own 1 (zab l)])
theorem zfk (B:List Int) (p:Nat) (s:Int) (hp:p≤B.length) (hB:B.length≤9223372036854775807) (l:List Int) (hl:0<l.length∧l.length≤9223372036854775807) : ∃ r,RUN T zds [.bx [.sl 1 (zbl B),iv p,iv s],.own 1 (zab l)]=some r∧y5k B l (PM l) r:=by
 refine zfe ycd rfl ?_
 obtain ⟨r1,h1,v1,p1,s1,⟨a1,rfl,a10,a11⟩,hp1,rfl⟩:=zbf B p s hp hB l.length (by omega)
 obtain ⟨i,rfl⟩ : ∃ i:Nat,a1=i:=⟨a1.toNat,by omega⟩
 have hi:i<l.length:=by have:=a11 (by omega); omega
 obtain ⟨x,hx⟩ : ∃ x,l[i]?=some x:=⟨_,List.getElem?_eq_getElem hi⟩
 have hx':=za7 hx
 simp [-getElem?_pos,zy0,zy1,h1,hx',hi]
 exact ⟨_,p1,s1,⟨x,rfl,List.mem_of_getElem? hx⟩,hp1,rfl⟩
theorem y4w (x:Int):inI (IntKind.i64.wrap x):=by
 unfold inI IntKind.wrap
 simp [IntKind.bits,IntKind.signed]
 omega
theorem yw7 (B:List Int) (p:Nat) (s:Int) (hp:p≤B.length) (hB:B.length≤9223372036854775807) : ∃ r,RUN T zp2 [.bx [.sl 1 (zbl B),iv p,iv s]]=some r∧zfl B PI r:=by
 refine zfe yby rfl ?_
 obtain ⟨r1,h1,v1,p1,s1,⟨a1,rfl,a10,a11⟩,hp1,rfl⟩:=zbf B p s hp hB 4 (by omega)
 by_cases c0:a1=0
 ·obtain ⟨r2,h2,v2,p2,s2,⟨a2,rfl,hm⟩,hp2,rfl⟩:=zfk B p1 s1 hp1 hB [0,1,-1,9,10,999,1000,2147483647,-2147483648,3037000499,3037000500,9223372036854775807,-9223372036854775807,-9223372036854775808] (by simp)
  simp only [zab,List.map] at h2
  simp [-getElem?_pos,znx,zny,h1,c0,h2]
  refine ⟨_,p2,s2,⟨a2,rfl,?_⟩,hp2,rfl⟩
  simp at hm
  unfold inI
  omega
 by_cases c1:a1=1
 ·simp [-getElem?_pos,znx,zny,h1,c0,c1]
  refine zas (fun n st => ∃ (i p:Nat) (x s:Int),i+n=8∧p≤B.length∧inI x∧st.V 0 = .ptr 0 none 0 0 0∧st.V 3=iv x∧st.V 4=iv i∧0<st.nx∧st.ep=0∧st.S 0=some (.box [.sl 1 (zbl B),iv p,iv s])) ?_ 8 _ ⟨0,p1,0,s1,by omega,hp1,by unfold inI; omega,by simp⟩
  clear h1
  rintro n st ⟨i,p,x,s,hi,hp,hx,v0,v3,v4,hnx,hep,hS⟩
  simp [z9l,v4]
  refine zao (fun h => ?_) (fun h => ?_)
  ·simp at h
   obtain ⟨r2,h2,v2,p2,s2,⟨a2,rfl,a20,a21⟩,hp2,rfl⟩:=zvb B p s hp hB
   have w:=w64 (x:=(i:Int)+1) (by omega) (by omega)
   simp [-getElem?_pos,v0,v3,v4,hep,hS,h2,w]
   exact zal (n-1) (by omega) ⟨i+1,p2,_,s2,by omega,hp2,y4w _,by simp [v0],by simp; rfl,by simp,by simp [hnx],by simp [hep],by simp⟩
  ·simp [-getElem?_pos,v3,v0,hS]
   exact ⟨_,p,s,⟨x,rfl,hx⟩,hp,rfl⟩
 by_cases c2:a1=2
 ·obtain ⟨r2,h2,v2,p2,s2,⟨a2,rfl,a20,a21⟩,hp2,rfl⟩:=zbf B p1 s1 hp1 hB 1000000 (by omega)
  have a22:=a21 (by omega)
  have w:=w64 (x:=a2-500000) (by omega) (by omega)
  simp [-getElem?_pos,znx,zny,h1,c0,c1,c2,h2,w]
  exact ⟨_,p2,s2,⟨_,rfl,by unfold inI; omega⟩,hp2,rfl⟩
 ·obtain ⟨r2,h2,v2,p2,s2,⟨a2,rfl,a20,a21⟩,hp2,rfl⟩:=zbf B p1 s1 hp1 hB 41 (by omega)
  have a22:=a21 (by omega)
  have w:=w64 (x:=a2-20) (by omega) (by omega)
  simp [-getElem?_pos,znx,zny,h1,c0,c1,c2,h2,w]
  exact ⟨_,p2,s2,⟨_,rfl,by unfold inI; omega⟩,hp2,rfl⟩
theorem yw8 (B:List Int) (hB:B.length≤9223372036854775807) : ∃ r,RUN T zqb [.sl 1 (zbl B)]=some r∧∃ s:Int,r=([.bx [.sl 1 (zbl B),iv (0:Nat),iv s]],[]):=by
 refine zfe yb7 rfl ?_
 simp [-getElem?_pos,zyv,zyw]
 refine zas (fun n st => ∃ (i:Nat) (x:Int),i+n=B.length∧st.V 0 = .sl 1 (zbl B)∧st.V 3=iv x∧st.V 4=iv i) ?_ B.length _ ⟨0,_,by omega,by simp,by simp; rfl,by simp⟩
 rintro n st ⟨i,x,hi,v0,v3,v4⟩
 by_cases h:i<B.length
 ·obtain ⟨b,hx⟩ : ∃ b,B[i]?=some b:=⟨_,List.getElem?_eq_getElem h⟩
  have hx':=yj5 hx
  have hw:=wS h hB
  by_cases h2:(i:Int)<4000
  ·have h2':=eq_true h2
   simp [-getElem?_pos,zyu,v0,v3,v4,h,h2',hx',hw]
   exact zal (n-1) (by omega) ⟨i+1,_,by omega,by simp [v0],by simp; rfl,by simp⟩
  ·have h2':=eq_false h2
   simp [-getElem?_pos,zyu,v0,v3,v4,h,h2']
 ·simp [-getElem?_pos,zyu,v0,v3,v4,h]
def adi (a b:Int):Int×Bool:=if -9223372036854775808≤a+b∧a+b≤9223372036854775807 then (a+b,true) else (0,false)
theorem ygr {a b:Int} (ha:inI a) (hb:inI b):IntKind.i64.wrap (a+b)=if 9223372036854775807<a+b then a+b-18446744073709551616 else if a+b < -9223372036854775808 then a+b+18446744073709551616 else a+b:=by
 unfold inI at ha hb
 unfold IntKind.wrap
 simp [IntKind.bits,IntKind.signed]
 omega
theorem yw9 (a b:Int) (ha:inI a) (hb:inI b):RUN T zpz [iv a,iv b]=some ([iv (adi a b).1,bv (adi a b).2],[]):=by
 refine zaf ybu rfl ?_
 have hw:=ygr ha hb
 unfold inI at ha hb
 unfold adi
 by_cases c1:9223372036854775807<a+b
 ·rw [if_pos c1] at hw
  rw [if_neg (by omega)]
  have d1:=eq_false (by omega : ¬ a<0)
  have d2:=eq_false (by omega : ¬ b<0)
  have d3:=eq_true (by omega:a+b-18446744073709551616<0)
  simp [-getElem?_pos,zj0,zj1,hw,d1,d2,d3]
 ·rw [if_neg c1] at hw
  by_cases c2:a+b < -9223372036854775808
  ·rw [if_pos c2] at hw
   rw [if_neg (by omega)]
   have d1:=eq_true (by omega:a<0)
   have d2:=eq_true (by omega:b<0)
   have d3:=eq_false (by omega : ¬ a+b+18446744073709551616<0)
   simp [-getElem?_pos,zj0,zj1,hw,d1,d2,d3]
  ·rw [if_neg c2] at hw
   rw [if_pos (by omega)]
   rcases Classical.propComplete (a<0) with d1 | d1
   all_goals rcases Classical.propComplete (b<0) with d2 | d2
   all_goals simp at d1 d2
   ·have d3:=eq_true (by omega:a+b<0)
    simp [-getElem?_pos,zj0,zj1,hw,eq_true d1,eq_true d2,d3]
   ·have d2':=eq_false (by omega : ¬ b<0)
    simp [-getElem?_pos,zj0,zj1,hw,eq_true d1,d2']
   ·have d1':=eq_false (by omega : ¬ a<0)
    simp [-getElem?_pos,zj0,zj1,hw,eq_true d2,d1']
   ·have d1':=eq_false (by omega : ¬ a<0)
    have d2':=eq_false (by omega : ¬ b<0)
    have d3:=eq_false (by omega : ¬ a+b<0)
    simp [-getElem?_pos,zj0,zj1,hw,d1',d2',d3]
theorem z20 (a b:Int) (ha:inI a) (hb:inI b):RUN T zjk [iv a,iv b]=some ([iv (adi a b).1,bv (adi a b).2],[]):=by
 refine zaf yb2 rfl ?_
 have hw:=ygr ha hb
 unfold inI at ha hb
 unfold adi
 rcases Int.lt_trichotomy b 0 with c | c | c
 ·have d1:=eq_false (by omega : ¬ 0<b)
  have d2:=eq_true c
  have w:=w64 (x := -9223372036854775808-b) (by omega) (by omega)
  by_cases e:a < -9223372036854775808-b
  ·rw [if_neg (by omega)]
   simp [-getElem?_pos,zlm,zln,d1,d2,w,e]
  ·rw [if_neg (by omega),if_neg (by omega)] at hw
   rw [if_pos (by omega)]
   simp [-getElem?_pos,zlm,zln,d1,d2,w,e,hw]
 ·subst c
  rw [if_neg (by omega),if_neg (by omega)] at hw
  rw [if_pos (by omega)]
  simp at hw
  simp [zlm,zln,hw]
 ·have d1:=eq_true c
  have d2:=eq_false (by omega : ¬ b<0)
  have w:=w64 (x:=9223372036854775807-b) (by omega) (by omega)
  by_cases e:9223372036854775807-b<a
  ·rw [if_neg (by omega)]
   simp [-getElem?_pos,zlm,zln,d1,d2,w,e]
  ·rw [if_neg (by omega),if_neg (by omega)] at hw
   rw [if_pos (by omega)]
   simp [-getElem?_pos,zlm,zln,d1,d2,w,e,hw]
def zfz:Int→List Int→Option Int
 | t,[]=>some t
 | t,x::xs=>if (adi t x).2 then zfz (adi t x).1 xs else none
def zbs (l:List Int):Int×Bool:=match zfz 0 l with
 | some t=>fdv t l.length
 | none=>(0,false)
theorem z4u {a b:Int} (ha:inI a):inI (adi a b).1:=by
 unfold adi
 split
 ·rename_i h; exact h
 ·unfold inI; omega
theorem yxa (l:List Int) (hl:l.length≤9223372036854775807) (hin : ∀ n∈l,inI n):RUN T zpc [.sl 1 (zab l)]=some ([iv (zbs l).1,bv (zbs l).2],[]):=by
 refine zaf yar rfl ?_
 simp [-getElem?_pos,zwz,zw0]
 refine zas (fun n st => ∃ (i:Nat) (t:Int),i+n=l.length∧inI t∧zfz t (l.drop i)=zfz 0 l∧st.V 0 = .sl 1 (zab l)∧st.V 4=iv t∧st.V 9 = .sl 1 (zab l)∧st.V 10=iv l.length∧st.V 11=iv i) ?_ l.length _ ⟨0,0,by omega,by unfold inI; omega,by simp,by simp,by simp,by simp,by simp,by simp⟩
 rintro n st ⟨i,t,hi,ht,hb,v0,v4,v9,v10,v11⟩
 simp [z89,v10,v11]
 refine zao (fun h => ?_) (fun h => ?_)
 ·simp at h
  obtain ⟨x,hx⟩ : ∃ x,l[i]?=some x:=⟨_,List.getElem?_eq_getElem h⟩
  have hx':=za7 hx
  have hw:=wS h hl
  have ha:=yw9 t x ht (hin x (List.mem_of_getElem? hx))
  rw [zct hx,zfz] at hb
  cases c:(adi t x).2 with
  | true =>
   rw [if_pos c] at hb
   rw [c] at ha
   simp [-getElem?_pos,v0,v4,v9,v10,v11,hx',h,ha,hw]
   exact zal (n-1) (by omega) ⟨i+1,_,by omega,z4u ht,hb,by simp [v0],by simp,by simp [v9],by simp [v10],by simp⟩
  | false =>
   rw [if_neg (by simp [c])] at hb
   rw [c] at ha
   have:zbs l=(0,false):=by unfold zbs; rw [← hb]
   simp [-getElem?_pos,v0,v4,v9,v10,v11,hx',h,ha,hw,this]
 ·simp at h
  rw [List.drop_eq_nil_of_le h,zfz] at hb
  have hf:=yw0 t l.length ht
  have e:zbs l=fdv t l.length:=by unfold zbs; rw [← hb]
  simp [-getElem?_pos,v0,v4,hf,e]
theorem ye6 (l:List Int) (hl:l.length≤9223372036854775807) (hin : ∀ n∈l,inI n):RUN T zml [.sl 1 (zab l)]=some ([iv (zbs l).1,bv (zbs l).2],[]):=by
 refine zaf yba rfl ?_
 simp [-getElem?_pos,zxp,zxq]
 refine zas (fun n st => ∃ (i:Nat) (t:Int),i+n=l.length∧inI t∧zfz t (l.drop i)=zfz 0 l∧st.V 0 = .sl 1 (zab l)∧st.V 4=iv t∧st.V 5=iv i) ?_ l.length _ ⟨0,0,by omega,by unfold inI; omega,by simp,by simp,by simp,by simp⟩
 rintro n st ⟨i,t,hi,ht,hb,v0,v4,v5⟩
 simp [z9c,v0,v5]
 refine zao (fun h => ?_) (fun h => ?_)
 ·simp at h
  obtain ⟨x,hx⟩ : ∃ x,l[i]?=some x:=⟨_,List.getElem?_eq_getElem h⟩
  have hx':=za7 hx
  have hw:=wS h hl
  have ha:=z20 t x ht (hin x (List.mem_of_getElem? hx))
  rw [zct hx,zfz] at hb
  cases c:(adi t x).2 with
  | true =>
   rw [if_pos c] at hb
   rw [c] at ha
   simp [-getElem?_pos,v0,v4,v5,hx',h,ha,hw]
   exact zal (n-1) (by omega) ⟨i+1,_,by omega,z4u ht,hb,by simp [v0],by simp,by simp⟩
  | false =>
   rw [if_neg (by simp [c])] at hb
   rw [c] at ha
   have:zbs l=(0,false):=by unfold zbs; rw [← hb]
   simp [-getElem?_pos,v0,v4,v5,hx',h,ha,hw,this]
 ·simp at h
  rw [List.drop_eq_nil_of_le h,zfz] at hb
  have hf:=z5h t l.length ht
  have e:zbs l=fdv t l.length:=by unfold zbs; rw [← hb]
  simp [-getElem?_pos,v0,v4,hf,e]
theorem yxb (es:List (List PV)):RUN T zo4 [.sl 1 es]=some ([bv (decide ((1048576:Int)<es.length))],[]):=by
 refine zaf yag rfl ?_
 simp [-getElem?_pos,zwr,zws]
def zvs (v:Int):Nd:=⟨-1,0,0,0,v⟩
theorem yxc (v:Int):RUN T zq1 [iv v]=some ([.agg [.own 5 ([zvs v].map nd)]],[]):=by
 refine zaf ydk rfl ?_
 have hr:zaj 40 1=true:=by decide
 simp [-getElem?_pos,z0t,z0u,hr,zvs,nd]
theorem z71 {x y:Nd}:x=y↔x.f=y.f∧x.c=y.c∧x.l=y.l∧x.r=y.r∧x.v=y.v:=by
 cases x; cases y; simp
open Classical in
theorem yxd (t u:List Nd) (ht:t.length≤9223372036854775807) (hu:u.length≤9223372036854775807):RUN T zo5 [.agg [.sl 5 (t.map nd)],.agg [.sl 5 (u.map nd)]]=some ([bv (decide (t=u))],[]):=by
 refine zaf yaj rfl ?_
 rcases Classical.propComplete ((t.length:Int)=u.length) with hl | hl
 case inr =>
  have:decide (t=u)=false:=by simp; rintro rfl; simp at hl
  simp [-getElem?_pos,ztt,ztu,hl,this]
 simp [-getElem?_pos,ztt,ztu,hl]
 have hlen:t.length=u.length:=by simp at hl; omega
 refine zas (fun n st => ∃ i:Nat,i+n=t.length∧(∀ j,j<i→t[j]?=u[j]?)∧st.V 2 = .ptr 0 none 0 0 0∧st.V 3 = .ptr 1 none 0 0 0∧st.V 5=iv i∧st.S 0=some (.box [.sl 5 (t.map nd)])∧st.S 1=some (.box [.sl 5 (u.map nd)])) ?_ t.length _ ⟨0,by simp⟩
 rintro n st ⟨i,hi,hj,v2,v3,v5,hS,hS1⟩
 simp [z85,v2,v3,v5,hS]
 refine zao (fun h => ?_) (fun h => ?_)
 ·simp at h
  obtain ⟨x,hx⟩ : ∃ x,t[i]?=some x:=⟨_,List.getElem?_eq_getElem h⟩
  obtain ⟨y,hy⟩ : ∃ y,u[i]?=some y:=⟨_,List.getElem?_eq_getElem (by omega)⟩
  have hw:=wS h ht
  have hiu:i<u.length:=by omega
  rcases Classical.propComplete (x.f=y.f∧x.c=y.c∧x.l=y.l∧x.r=y.r∧x.v=y.v) with e | e
  ·simp [-getElem?_pos,v2,v3,v5,hS,hS1,hx,hy,nd,h,hiu,hw,zl4,e]
   refine zal (n-1) (by omega) ⟨i+1,by omega,zeq hj ?_,by simp [v2],by simp [v3],by simp,by simp [hS],by simp [hS1]⟩
   rw [hx,hy,z71.mpr (of_eq_true e)]
  ·have:decide (t=u)=false:=by
    simp
    rintro rfl
    rw [hx] at hy
    cases hy
    simp at e
   simp [-getElem?_pos,v2,v3,v5,hS,hS1,hx,hy,nd,h,hiu,hw,zl4,e,this]
 ·simp at h
  have:t=u:=by
   apply List.ext_getElem?
   intro j
   by_cases c:j<i
   ·exact hj j c
   ·rw [List.getElem?_eq_none (by omega),List.getElem?_eq_none (by omega)]
  simp [this]
def sbi (a b:Int):Int×Bool:=if -9223372036854775808≤a-b∧a-b≤9223372036854775807 then (a-b,true) else (0,false)
theorem y2p {a b:Int} (ha:inI a) (hb:inI b):IntKind.i64.wrap (a-b)=if 9223372036854775807<a-b then a-b-18446744073709551616 else if a-b < -9223372036854775808 then a-b+18446744073709551616 else a-b:=by
 unfold inI at ha hb
 unfold IntKind.wrap
 simp [IntKind.bits,IntKind.signed]
 omega
theorem z5i (a b:Int) (ha:inI a) (hb:inI b):RUN T zk9 [iv a,iv b]=some ([iv (sbi a b).1,bv (sbi a b).2],[]):=by
 refine zaf yc1 rfl ?_
 have hw:=y2p ha hb
 unfold inI at ha hb
 unfold sbi
 rcases Int.lt_trichotomy b 0 with c | c | c
 ·have d1:=eq_false (by omega : ¬ 0<b)
  have d2:=eq_true c
  have w:=w64 (x:=9223372036854775807+b) (by omega) (by omega)
  by_cases e:9223372036854775807+b<a
  ·rw [if_neg (by omega)]
   simp [-getElem?_pos,zlp,zlq,d1,d2,w,e]
  ·rw [if_neg (by omega),if_neg (by omega)] at hw
   rw [if_pos (by omega)]
   simp [-getElem?_pos,zlp,zlq,d1,d2,w,e,hw]
 ·subst c
  rw [if_neg (by omega),if_neg (by omega)] at hw
  rw [if_pos (by omega)]
  simp at hw
  simp [zlp,zlq,hw]
 ·have d1:=eq_true c
  have d2:=eq_false (by omega : ¬ b<0)
  have w:=w64 (x := -9223372036854775808+b) (by omega) (by omega)
  by_cases e:a < -9223372036854775808+b
  ·rw [if_neg (by omega)]
   simp [-getElem?_pos,zlp,zlq,d1,d2,w,e]
  ·rw [if_neg (by omega),if_neg (by omega)] at hw
   rw [if_pos (by omega)]
   simp [-getElem?_pos,zlp,zlq,d1,d2,w,e,hw]
def res:List Int→List Int→Option (List Int)
 | x::xs,y::ys=>if (sbi x y).2 then (res xs ys).map ((sbi x y).1 :: ·) else none
 | _,_=>some []
theorem y0h {l m:List Int} {i:Nat} {x y:Int} (hx:l[i]?=some x) (hy:m[i]?=some y):res (l.drop i) (m.drop i)=if (sbi x y).2 then (res (l.drop (i+1)) (m.drop (i+1))).map ((sbi x y).1 :: ·) else none:=by
 rw [zct hx,zct hy,res]
theorem yf6 (m:List Int):res [] m=some []:=by cases m <;> rfl
def zdq (l m:List Int):List Int×Bool:=if l.length=m.length then match res l m with
  | some r=>(r,true)
  | none=>([],false)
 else ([],false)
theorem z6e : ∀ {l m r:List Int},l.length=m.length→res l m=some r→r.length=l.length∧∀ (i:Nat) (x y z:Int),l[i]?=some x→m[i]?=some y→r[i]?=some z→z=x-y ∧ -9223372036854775808≤x-y∧x-y≤9223372036854775807
 | [],[],r,_,h=>by simp [res] at h; subst h; simp
 | x::xs,y::ys,r,hl,h=>by
  rw [res] at h
  split at h
  ·rename_i c
   simp only [Option.map_eq_some_iff] at h
   obtain ⟨r',hr,rfl⟩:=h
   obtain ⟨h1,h2⟩:=z6e (by simpa using hl) hr
   refine ⟨by simp [h1],fun i a b z ha hb hz => ?_⟩
   cases i with
   | zero =>
    simp at ha hb hz
    subst ha hb hz
    unfold sbi at c ⊢
    split at c
    ·rename_i hh; rw [if_pos hh]; exact ⟨rfl,hh⟩
    ·cases c
   | succ i=>exact h2 i a b z (by simpa using ha) (by simpa using hb) (by simpa using hz)
  ·cases h
 | [],_::_,_,hl,_=>by simp at hl
 | _::_,[],_,hl,_=>by simp at hl
theorem yxe (l m:List Int) (hl:l.length≤1048576) (hm:m.length≤1048576) (hli : ∀ n∈l,inI n) (hmi : ∀ n∈m,inI n):RUN T zp4 [.sl 1 (zab l),.sl 1 (zab m)]=some ([.own 1 (zab (zdq l m).1),bv (zdq l m).2],[]):=by
 refine zaf yb0 rfl ?_
 unfold zdq
 rcases Classical.propComplete ((l.length:Int)=m.length) with e | e
 case inr =>
  rw [if_neg (by simp at e; omega)]
  simp [-getElem?_pos,zt6,zt7,e]
 have e':l.length=m.length:=by simp at e; omega
 rw [if_pos e']
 simp [-getElem?_pos,zt6,zt7,e]
 refine zas (fun n st => ∃ (i o e:Nat) (a:List Int),i+n=l.length∧a.length=i∧(res (l.drop i) (m.drop i)).map (a ++ ·)=res l m∧st.V 0 = .sl 1 (zab l)∧st.V 1 = .sl 1 (zab m)∧st.V 6 = .ref o none e 0 a.length∧st.V 7=iv i∧o<st.nx∧st.ep=0∧st.S o=some (.row 1 (zab a))) ?_ l.length _ ⟨0,0,0,[],by omega,rfl,by simp,by simp⟩
 rintro n st ⟨i,o,ep,a,hi,ha,hr,v0,v1,v6,v7,hox,hep,hSo⟩
 simp [z9m,v0,v7]
 refine zao (fun h => ?_) (fun h => ?_)
 ·simp at h
  obtain ⟨x,hx⟩ : ∃ x,l[i]?=some x:=⟨_,List.getElem?_eq_getElem h⟩
  obtain ⟨y,hy⟩ : ∃ y,m[i]?=some y:=⟨_,List.getElem?_eq_getElem (by omega)⟩
  have hx':=za7 hx
  have hy':=za7 hy
  have him:i<m.length:=by omega
  have hw:=wS h (by omega:l.length≤9223372036854775807)
  have hsub:=z5i x y (hli x (List.mem_of_getElem? hx)) (hmi y (List.mem_of_getElem? hy))
  rw [y0h hx hy] at hr
  have z1:=fr hox
  have hr8:=zcb (n:=a.length+1) (by omega)
  cases c:(sbi x y).2 with
  | true =>
   rw [if_pos c] at hr
   rw [c] at hsub
   simp [-getElem?_pos,v0,v1,v6,v7,hep,hSo,z1,hx',hy',h,him,hsub,hr8,zb8,hw]
   refine zal (n-1) (by omega) ⟨i+1,st.nx+1,0,a++[(sbi x y).1],by omega,by simp [ha],?_,by simp [v0],by simp [v1],by simp,by simp,by simp,by simp [hep],by simp⟩
   rw [← hr]
   cases res (l.drop (i+1)) (m.drop (i+1)) <;> simp
  | false =>
   rw [if_neg (by simp [c])] at hr
   rw [c] at hsub
   simp at hr
   simp [-getElem?_pos,v0,v1,v6,v7,hep,hSo,z1,hx',hy',h,him,hsub,← hr]
 ·simp at h
  rw [List.drop_eq_nil_of_le h,yf6] at hr
  simp at hr
  rw [← hr]
  simp [-getElem?_pos,v6,hSo]
def PC (n:Nat) (v:PV):Prop := ∃ c:Cfg,v=zl9 c∧c.sg.length≤n
def LC (S:Nat→Option Ob) (nx:Nat) (lo:Nat) (m:List Int) (x:PV):Prop:=(x = .e0∧m=[])∨∃ o e,x = .ref o none e 0 m.length∧lo<o∧o<nx∧S o=some (.row 1 (zab m))
theorem ye7 (B:List Int) (p:Nat) (s:Int) (hp:p≤B.length) (hB:B.length≤9223372036854775807) : ∃ r,RUN T zmu [.bx [.sl 1 (zbl B),iv p,iv s]]=some r∧zfl B (PC 60) r:=by
 refine zfe yb9 rfl ?_
 obtain ⟨r1,h1,v1,p1,s1,⟨a1,rfl,a10,a11⟩,hp1,rfl⟩:=zbf B p s hp hB 4 (by omega)
 obtain ⟨r2,h2,v2,p2,s2,⟨a2,rfl,a20,a21⟩,hp2,rfl⟩:=zbf B p1 s1 hp1 hB 4 (by omega)
 obtain ⟨r3,h3,v3,p3,s3,⟨a3,rfl,a30,a31⟩,hp3,rfl⟩:=zbf B p2 s2 hp2 hB 5 (by omega)
 obtain ⟨r4,h4,v4,p4,s4,⟨a4,rfl,a40,a41⟩,hp4,rfl⟩:=zbf B p3 s3 hp3 hB 3 (by omega)
 obtain ⟨r5,h5,v5,p5,s5,⟨a5,rfl,a50,a51⟩,hp5,rfl⟩:=zbf B p4 s4 hp4 hB 3 (by omega)
 obtain ⟨r6,h6,v6,p6,s6,⟨a6,rfl,a60,a61⟩,hp6,rfl⟩:=zbf B p5 s5 hp5 hB 3 (by omega)
 obtain ⟨r7,h7,v7,p7,s7,⟨b1,rfl⟩,hp7,rfl⟩:=zfj B p6 s6 hp6 hB 8 (by omega)
 have w6:IntKind.i64.wrap (1+a6)=1+a6:=by have:=a61 (by omega); exact w64 (by omega) (by omega)
 have key : ∀ (k:Int) (x0 x1 x2 x3 x4 x5 x6:Int) (st:St) (p:Nat) (s:Int),0≤k→k≤60→p≤B.length→st.V 0 = .ptr 0 none 0 0 0→st.V 2 = .ptr 1 none 0 0 0→st.V 3 = .ptr 2 none 0 0 0→st.V 4=iv k→st.V 5=iv (0:Nat)→st.nx=3→st.S 0=some (.box [.sl 1 (zbl B),iv p,iv s])→st.S 1=some (.box [iv 0,iv 0,iv 0,iv 0,iv 0,iv 0,iv 0,.e0])→st.S 2=some (.box [iv x0,iv x1,iv x2,iv x3,iv x4,iv x5,iv x6,.e0])→W (zad T) (RUN T) (.loop z48) st (Bl 0 (Nx (fun s=>W (zad T) (RUN T) (.seq (.reg [⟨some (.E 53),.load true 8 (.V 3),none⟩,⟨none,.store [0,0,0,0,0,0,0,1] (.V 2) (.E 53),none⟩]) .ret) s (zjh [.cell [0,0,0,0,0,0,0,1] 2 true] 1 (zfl B (PC 60)) ⟨⟩ ⟨⟩)) (zjh [.cell [0,0,0,0,0,0,0,1] 2 true] 1 (zfl B (PC 60)) ⟨⟩ ⟨⟩) ⟨⟩ ⟨⟩) ⟨⟩):=by
  intro k x0 x1 x2 x3 x4 x5 x6 st p s hk0 hk hp v0 v2 v3 v4 v5 hnx hS hS1 hS2
  obtain ⟨kn,rfl⟩ : ∃ n:Nat,k=n:=⟨k.toNat,by omega⟩
  refine zas (fun n st => ∃ (i p:Nat) (s:Int) (m:List Int) (x:PV),i+n=kn∧m.length=i∧p≤B.length∧st.V 0 = .ptr 0 none 0 0 0∧st.V 2 = .ptr 1 none 0 0 0∧st.V 3 = .ptr 2 none 0 0 0∧st.V 4=iv kn∧st.V 5=iv i∧2<st.nx∧LC st.S st.nx 2 m x∧st.S 0=some (.box [.sl 1 (zbl B),iv p,iv s])∧st.S 1=some (.box [iv 0,iv 0,iv 0,iv 0,iv 0,iv 0,iv 0,.e0])∧st.S 2=some (.box [iv x0,iv x1,iv x2,iv x3,iv x4,iv x5,iv x6,x])) ?_ kn _ ⟨0,p,s,[],.e0,by omega,rfl,hp,v0,v2,v3,v4,v5,by omega,.inl ⟨rfl,rfl⟩,hS,hS1,hS2⟩
  clear v0 v2 v3 v4 v5 hnx hS hS1 hS2 hp
  rintro n st ⟨i,p,s,m,x,hi,hm,hp,v0,v2,v3,v4,v5,hnx,hx,hS,hS1,hS2⟩
  have z1:=fr hnx
  have z2:=fr (by omega:0<st.nx)
  have z3:=fr (by omega:1<st.nx)
  simp [z48,v4,v5]
  refine zao (fun h => ?_) (fun h => ?_)
  ·simp at h
   have hw:=w64 (x:=(i:Int)+1) (by omega) (by omega)
   obtain ⟨r1,h1,v1,p1,s1,⟨a,rfl,a0,a1⟩,hp1,rfl⟩:=zbf B p s hp hB 3 (by omega)
   have a2:=a1 (by omega)
   have w:=w64 (x:=a-1) (by omega) (by omega)
   rcases hx with ⟨rfl,rfl⟩ | ⟨o,e,rfl,ho,hox,hSo⟩
   ·have hr8:zaj 8 1=true:=by decide
    have hone:[[iv (a-1)]]=zab [a-1]:=rfl
    simp [-getElem?_pos,v0,v2,v3,v4,v5,hS,hS1,hS2,z1,z2,z3,h1,w,hw,hr8]
    exact zal (n-1) (by omega) ⟨i+1,p1,s1,[a-1],.ref (st.nx+1) none st.ep 0 1,by omega,by simp at hm; simp; omega,hp1,by simp [v0],by simp [v2],by simp [v3],by simp [v4],by simp,by simp; omega,.inr ⟨st.nx+1,st.ep,rfl,by omega,by simp,by
     have n2 : ¬ st.nx+1=2:=by omega
     simp [n2,zab]⟩,by simp [z1,z2,z3],by simp [z1,z2,z3,hS1],by simp⟩
   ·have hr8:=zcb (n:=m.length+1) (by omega)
    have y1:=fr hox
    have y2:=fr ho
    have y3:=fr (by omega:0<o)
    have y4:=fr (by omega:1<o)
    simp [-getElem?_pos,v0,v2,v3,v4,v5,hS,hS1,hS2,hSo,z1,z2,z3,y1,y2,y3,y4,h1,w,hw,hr8,zb8]
    exact zal (n-1) (by omega) ⟨i+1,p1,s1,m++[a-1],.ref (st.nx+1) none st.ep 0 (m.length+1),by omega,by simp [hm],hp1,by simp [v0],by simp [v2],by simp [v3],by simp [v4],by simp,by simp; omega,.inr ⟨st.nx+1,st.ep,by simp,by omega,by simp,by
     have n2 : ¬ st.nx+1=2:=by omega
     simp [n2]⟩,by simp [z1,z2,z3,y1,y2,y3,y4],by simp [z1,z2,z3,y1,y2,y3,y4,hS1],by simp⟩
  ·simp at h
   rcases hx with ⟨rfl,rfl⟩ | ⟨o,e,rfl,ho,hox,hSo⟩
   ·simp [-getElem?_pos,v0,v2,v3,hS,hS1,hS2]
    exact ⟨_,p,s,⟨⟨x0,x1,x2,x3,x4,x5,x6,[]⟩,rfl,by simp⟩,hp,rfl⟩
   ·have y2:=fr ho
    have y3:=fr (by omega:0<o)
    have y4:=fr (by omega:1<o)
    have y5:1≤o:=by omega
    simp [-getElem?_pos,v0,v2,v3,hS,hS1,hS2,hSo,y2,y3,y4,y5]
    exact ⟨_,p,s,⟨⟨x0,x1,x2,x3,x4,x5,x6,m⟩,rfl,by simp only; omega⟩,hp,rfl⟩
 cases b1 with
 | true =>
  obtain ⟨r8,h8,v8,p8,s8,⟨a8,rfl,a80,a81⟩,hp8,rfl⟩:=zbf B p7 s7 hp7 hB 100 (by omega)
  obtain ⟨r9,h9,v9,p9,s9,⟨b2,rfl⟩,hp9,rfl⟩:=zfj B p8 s8 hp8 hB 4 (by omega)
  cases b2 with
  | true =>
   obtain ⟨r10,h10,v10,p10,s10,⟨a10',rfl,_,_⟩,hp10,rfl⟩:=zbf B p9 s9 hp9 hB (1+a6) (by have:=a61 (by omega); omega)
   obtain ⟨r11,h11,v11,p11,s11,⟨k,rfl,k0,k1⟩,hp11,rfl⟩:=zbf B p10 s10 hp10 hB 5 (by omega)
   have k2:=k1 (by omega)
   simp [-getElem?_pos,znz,zn0,h1,h2,h3,h4,h5,h6,h7,h8,h9,h10,h11,w6]
   exact key k _ _ _ _ _ _ _ _ p11 s11 k0 (by omega) hp11 (by simp) (by simp) (by simp) (by simp) (by simp) (by simp) (by simp) (by simp) (by simp; exact ⟨rfl,rfl,rfl,rfl,rfl,rfl,rfl⟩)
  | false =>
   obtain ⟨r11,h11,v11,p11,s11,⟨k,rfl,k0,k1⟩,hp11,rfl⟩:=zbf B p9 s9 hp9 hB 5 (by omega)
   have k2:=k1 (by omega)
   simp [-getElem?_pos,znz,zn0,h1,h2,h3,h4,h5,h6,h7,h8,h9,h11,w6]
   exact key k _ _ _ _ _ _ _ _ p11 s11 k0 (by omega) hp11 (by simp) (by simp) (by simp) (by simp) (by simp) (by simp) (by simp) (by simp) (by simp; exact ⟨rfl,rfl,rfl,rfl,rfl,rfl,rfl⟩)
 | false =>
  obtain ⟨r9,h9,v9,p9,s9,⟨b2,rfl⟩,hp9,rfl⟩:=zfj B p7 s7 hp7 hB 4 (by omega)
  cases b2 with
  | true =>
   obtain ⟨r10,h10,v10,p10,s10,⟨a10',rfl,_,_⟩,hp10,rfl⟩:=zbf B p9 s9 hp9 hB (1+a6) (by have:=a61 (by omega); omega)
   obtain ⟨r11,h11,v11,p11,s11,⟨k,rfl,k0,k1⟩,hp11,rfl⟩:=zbf B p10 s10 hp10 hB 5 (by omega)
   have k2:=k1 (by omega)
   simp [-getElem?_pos,znz,zn0,h1,h2,h3,h4,h5,h6,h7,h9,h10,h11,w6]
   exact key k _ _ _ _ _ _ _ _ p11 s11 k0 (by omega) hp11 (by simp) (by simp) (by simp) (by simp) (by simp) (by simp) (by simp) (by simp) (by simp; exact ⟨rfl,rfl,rfl,rfl,rfl,rfl,rfl⟩)
  | false =>
   obtain ⟨r11,h11,v11,p11,s11,⟨k,rfl,k0,k1⟩,hp11,rfl⟩:=zbf B p9 s9 hp9 hB 5 (by omega)
   have k2:=k1 (by omega)
   simp [-getElem?_pos,znz,zn0,h1,h2,h3,h4,h5,h6,h7,h9,h11,w6]
   exact key k _ _ _ _ _ _ _ _ p11 s11 k0 (by omega) hp11 (by simp) (by simp) (by simp) (by simp) (by simp) (by simp) (by simp) (by simp) (by simp; exact ⟨rfl,rfl,rfl,rfl,rfl,rfl,rfl⟩)
theorem ye8 (B:List Int) (p:Nat) (s:Int) (hp:p≤B.length) (hB:B.length≤9223372036854775807) : ∃ r,RUN T zqd [.bx [.sl 1 (zbl B),iv p,iv s]]=some r∧zfl B (PC 64) r:=by
 refine zfe ycb rfl ?_
 obtain ⟨r1,h1,v1,p1,s1,⟨c,rfl,hc⟩,hp1,rfl⟩:=ye7 B p s hp hB
 obtain ⟨r2,h2,v2,p2,s2,⟨a,rfl,a0,a1⟩,hp2,rfl⟩:=zbf B p1 s1 hp1 hB 12 (by omega)
 have hr8:zaj 8 1=true:=by decide
 by_cases c0:a=0
 ·obtain ⟨r3,h3,v,p3,s3,⟨x,rfl,hx⟩,hp3,rfl⟩:=zfk B p2 s2 hp2 hB [0,1,8,9,-1] (by simp)
  simp only [zab,List.map] at h3
  simp [-getElem?_pos,zg1,zg2,hr8,h1,h2,c0,h3]
  exact ⟨_,p3,s3,⟨⟨x,c.de,c.bi,c.la,c.rw,c.nu,c.dn,c.sg⟩,rfl,by simp only; omega⟩,hp3,rfl⟩
 by_cases c1:a=1
 ·obtain ⟨r3,h3,v,p3,s3,⟨x,rfl,hx⟩,hp3,rfl⟩:=zfk B p2 s2 hp2 hB [-1,0,4,5] (by simp)
  simp only [zab,List.map] at h3
  simp [-getElem?_pos,zg1,zg2,hr8,h1,h2,c0,c1,h3]
  exact ⟨_,p3,s3,⟨⟨c.ro,x,c.bi,c.la,c.rw,c.nu,c.dn,c.sg⟩,rfl,by simp only; omega⟩,hp3,rfl⟩
 by_cases c2:a=2
 ·obtain ⟨r3,h3,v,p3,s3,⟨x,rfl,hx⟩,hp3,rfl⟩:=zfk B p2 s2 hp2 hB [1,2,8,9] (by simp)
  simp only [zab,List.map] at h3
  simp [-getElem?_pos,zg1,zg2,hr8,h1,h2,c0,c1,c2,h3]
  exact ⟨_,p3,s3,⟨⟨c.ro,c.de,x,c.la,c.rw,c.nu,c.dn,c.sg⟩,rfl,by simp only; omega⟩,hp3,rfl⟩
 by_cases c3:a=3
 ·obtain ⟨r3,h3,v,p3,s3,⟨x,rfl,hx⟩,hp3,rfl⟩:=zfk B p2 s2 hp2 hB [0,1,100,101,9223372036854775807] (by simp)
  simp only [zab,List.map] at h3
  simp [-getElem?_pos,zg1,zg2,hr8,h1,h2,c0,c1,c2,c3,h3]
  exact ⟨_,p3,s3,⟨⟨c.ro,c.de,c.bi,x,c.rw,c.nu,c.dn,c.sg⟩,rfl,by simp only; omega⟩,hp3,rfl⟩
 by_cases c4:a=4
 ·obtain ⟨r3,h3,v,p3,s3,⟨x,rfl,hx⟩,hp3,rfl⟩:=zfk B p2 s2 hp2 hB [0,1,20,21] (by simp)
  simp only [zab,List.map] at h3
  simp [-getElem?_pos,zg1,zg2,hr8,h1,h2,c0,c1,c2,c3,c4,h3]
  exact ⟨_,p3,s3,⟨⟨c.ro,c.de,c.bi,c.la,x,c.nu,c.dn,c.sg⟩,rfl,by simp only; omega⟩,hp3,rfl⟩
 by_cases c5:a=5
 ·obtain ⟨r3,h3,v,p3,s3,⟨x,rfl,hx⟩,hp3,rfl⟩:=zfk B p2 s2 hp2 hB [0,1,c.dn,IntKind.i64.wrap (c.dn+1),-1] (by simp)
  simp only [zab,List.map] at h3
  simp [-getElem?_pos,zg1,zg2,hr8,h1,h2,c0,c1,c2,c3,c4,c5,h3]
  exact ⟨_,p3,s3,⟨⟨c.ro,c.de,c.bi,c.la,c.rw,x,c.dn,c.sg⟩,rfl,by simp only; omega⟩,hp3,rfl⟩
 by_cases c6:a=6
 ·obtain ⟨r3,h3,v,p3,s3,⟨x,rfl,hx⟩,hp3,rfl⟩:=zfk B p2 s2 hp2 hB [0,1,1000,1001,9223372036854775807] (by simp)
  simp only [zab,List.map] at h3
  simp [-getElem?_pos,zg1,zg2,hr8,h1,h2,c0,c1,c2,c3,c4,c5,c6,h3]
  exact ⟨_,p3,s3,⟨⟨c.ro,c.de,c.bi,c.la,c.rw,c.nu,x,c.sg⟩,rfl,by simp only; omega⟩,hp3,rfl⟩
 by_cases c7:a=7
 ·obtain ⟨r3,h3,v,p3,s3,⟨x,rfl,x0,x1⟩,hp3,rfl⟩:=zbf B p2 s2 hp2 hB 5 (by omega)
  have x2:=x1 (by omega)
  have w:=w64 (x:=x-2) (by omega) (by omega)
  have hr9:=zcb (n:=c.sg.length+1) (by omega)
  simp [-getElem?_pos,zg1,zg2,hr8,hr9,h1,h2,c0,c1,c2,c3,c4,c5,c6,c7,h3,w,zb8]
  exact ⟨_,p3,s3,⟨⟨c.ro,c.de,c.bi,c.la,c.rw,c.nu,c.dn,c.sg++[x-2]⟩,rfl,by simp; omega⟩,hp3,rfl⟩
 ·simp [-getElem?_pos,zg1,zg2,hr8,h1,h2,c0,c1,c2,c3,c4,c5,c6,c7]
  exact ⟨_,p2,s2,⟨c,rfl,by omega⟩,hp2,rfl⟩
def sv (s:ByteArray):PV := .v (.string s)
def zaw (l:List ByteArray):List (List PV):=l.map fun s=>[.v (.string s)]
@[simp] theorem qor (l:List ByteArray):(zaw l).length=l.length:=by simp [zaw]
theorem zii {l:List ByteArray} {i:Nat} {x:ByteArray} (h:l[i]?=some x):(zaw l)[i]?=some [.v (.string x)]:=by simp [zaw,h]
def zsn (q:Bool) (t:List Nd):PV:=if q then .own 5 (t.map nd) else .sl 5 (t.map nd)
@[simp] theorem qd7 (q:Bool) (t:List Nd):fz (zsn q t) = .sl 5 (t.map nd):=by cases q <;> simp [zsn]
def trs (q:Bool) (M:List (List Nd)):List (List PV):=M.map fun t=>[zsn q t]
@[simp] theorem qhs (q:Bool) (M:List (List Nd)):(trs q M).length=M.length:=by simp [trs]
theorem zj7 {q:Bool} {M:List (List Nd)} {i:Nat} {t:List Nd} (h:M[i]?=some t):(trs q M)[i]?=some [zsn q t]:=by simp [trs,h]
def zmg (M:List (List Nd)):Nat:=(M.map List.length).sum
theorem y2v (l:List Nd) (M:List (List Nd)):zmg (l::M)=l.length+zmg M:=by simp [zmg]
structure Mo where
 ns:List ByteArray
 ix:List Int
 b:Int
 ts:List (List Nd)
abbrev moS (q:Bool) (m:Mo):PV := .agg [.sl 1 (zaw m.ns),.sl 1 (zab m.ix),iv m.b,.sl 1 (trs q m.ts)]
abbrev moO (m:Mo):PV := .agg [.own 1 (zaw m.ns),.own 1 (zab m.ix),iv m.b,.own 1 (trs true m.ts)]
structure MoL (n:Nat) (m:Mo):Prop where
 ns:m.ns.length≤n
 ss : ∀ x∈m.ns,x.size≤n
 ix:m.ix.length≤n
 ts:m.ts.length≤n
 tl : ∀ l∈m.ts,l.length≤n
theorem MoL.mono {n k:Nat} {m:Mo} (h:MoL n m) (hk:n≤k):MoL k m:=⟨Nat.le_trans h.ns hk,fun x hx=>Nat.le_trans (h.ss x hx) hk,Nat.le_trans h.ix hk,Nat.le_trans h.ts hk,fun x hx=>Nat.le_trans (h.tl x hx) hk⟩
theorem zj3 {α:Type} {l m:List α} {i:Nat} (hl:l.length=m.length) (hi:l.length≤i) (h : ∀ j,j<i→l[j]?=m[j]?):l=m:=by
 apply List.ext_getElem?
 intro j
 by_cases c:j<i
 ·exact h j c
 ·rw [List.getElem?_eq_none (by omega),List.getElem?_eq_none (by omega)]
theorem zkh {α:Type} {l m:List α} {i:Nat} {x y:α} (hx:l[i]?=some x) (hy:m[i]?=some y) (h : ¬ x=y):(l=m)=False:=by
 apply eq_false
 rintro rfl
 rw [hx] at hy
 cases hy
 exact h rfl
theorem zmb {α:Type} {l m:List α} (h:((l.length:Int)=m.length)=False):(l=m)=False:=by
 apply eq_false
 rintro rfl
 simp at h
theorem y1r (s:ByteArray) : ∀ (n i:Nat) (r:List UInt8),s.size-i≤n→ByteArray.toList.loop s i r=r.reverse++s.data.toList.drop i:=by
 have hs:s.data.toList.length=s.size:=by cases s; rfl
 intro n
 induction n with
 | zero =>
  intro i r h
  rw [ByteArray.toList.loop,if_neg (by omega),List.drop_eq_nil_of_le (by omega)]
  simp
 | succ n ih =>
  intro i r h
  rw [ByteArray.toList.loop]
  split
  ·rename_i hi
   rw [ih _ _ (by omega)]
   have hi':i<s.data.toList.length:=by omega
   rw [List.drop_eq_getElem_cons hi']
   have:s.get! i=s.data.toList[i]:=by
    cases s with
    | mk d =>
     show d[i]! = _
     rw [getElem!_pos d i (by simpa using hi')]
     simp
   simp [this]
  ·rename_i hi
   rw [List.drop_eq_nil_of_le (by omega)]
   simp
theorem ylk (s:ByteArray):s.toList=s.data.toList:=by
 unfold ByteArray.toList
 rw [y1r s s.size 0 [] (by omega)]
 simp
theorem y1y {x y:ByteArray} (h:x.toList=y.toList):x=y:=by
 rw [ylk,ylk] at h
 cases x; cases y
 simp at h
 simp [h]
theorem z3n {x y:ByteArray} (h : ¬ x=y):(x.toList == y.toList)=false:=by
 simp only [beq_eq_false_iff_ne,ne_eq]
 exact fun e=>h (y1y e)
open Classical in
theorem ye9 (l m:List Int) (hl:l.length≤9223372036854775807):RUN T zmn [.sl 1 (zab l),.sl 1 (zab m)]=some ([bv (decide (l=m))],[]):=by
 refine zaf ybe rfl ?_
 rcases Classical.propComplete ((l.length:Int)=m.length) with hlm | hlm
 case inr =>
  simp [-getElem?_pos,ztv,ztw,hlm,zmb hlm]
 simp [-getElem?_pos,ztv,ztw,hlm]
 have hlen:l.length=m.length:=by simp at hlm; omega
 refine zas (fun n st => ∃ i:Nat,i+n=l.length∧(∀ j,j<i→l[j]?=m[j]?)∧st.V 0 = .sl 1 (zab l)∧st.V 1 = .sl 1 (zab m)∧st.V 5=iv i) ?_ l.length _ ⟨0,by simp⟩
 rintro n st ⟨i,hi,hj,v0,v1,v5⟩
 simp [z9d,v0,v1,v5]
 refine zao (fun h => ?_) (fun h => ?_)
 ·simp at h
  obtain ⟨x,hx⟩ : ∃ x,l[i]?=some x:=⟨_,List.getElem?_eq_getElem h⟩
  obtain ⟨y,hy⟩ : ∃ y,m[i]?=some y:=⟨_,List.getElem?_eq_getElem (by omega)⟩
  have hx':=za7 hx
  have hy':=za7 hy
  have hw:=wS h hl
  have him:i<m.length:=by omega
  by_cases e:x=y
  ·simp [-getElem?_pos,v0,v1,v5,hx',hy',h,him,hw,eq_true e]
   exact zal (n-1) (by omega) ⟨i+1,by omega,zeq hj (by rw [hx,hy,e]),by simp [v0],by simp [v1],by simp⟩
  ·simp [-getElem?_pos,v0,v1,v5,hx',hy',h,him,hw,eq_false e,zkh hx hy e]
 ·simp at h
  simp [zj3 hlen h hj]
open Classical in
theorem yxf (l m:List Int) (hl:l.length≤9223372036854775807):RUN T zpt [.sl 1 (zab l),.sl 1 (zab m)]=some ([bv (decide (l=m))],[]):=by
 refine zaf ybg rfl ?_
 rcases Classical.propComplete ((l.length:Int)=m.length) with hlm | hlm
 case inr =>
  simp [-getElem?_pos,ztz,zt0,hlm,zmb hlm]
 simp [-getElem?_pos,ztz,zt0,hlm]
 have hlen:l.length=m.length:=by simp at hlm; omega
 refine zas (fun n st => ∃ i:Nat,i+n=l.length∧(∀ j,j<i→l[j]?=m[j]?)∧st.V 0 = .sl 1 (zab l)∧st.V 1 = .sl 1 (zab m)∧st.V 12=iv l.length∧st.V 13=iv i) ?_ l.length _ ⟨0,by simp [hlen]⟩
 rintro n st ⟨i,hi,hj,v0,v1,v12,v13⟩
 simp [z9f,v12,v13]
 refine zao (fun h => ?_) (fun h => ?_)
 ·simp at h
  obtain ⟨x,hx⟩ : ∃ x,l[i]?=some x:=⟨_,List.getElem?_eq_getElem h⟩
  obtain ⟨y,hy⟩ : ∃ y,m[i]?=some y:=⟨_,List.getElem?_eq_getElem (by omega)⟩
  have hx':=za7 hx
  have hy':=za7 hy
  have hw:=wS h hl
  have him:i<m.length:=by omega
  by_cases e:x=y
  ·simp [-getElem?_pos,v0,v1,v12,v13,hx',hy',h,him,hw,eq_true e]
   exact zal (n-1) (by omega) ⟨i+1,by omega,zeq hj (by rw [hx,hy,e]),by simp [v0],by simp [v1],by simp [v12],by simp⟩
  ·simp [-getElem?_pos,v0,v1,v12,v13,hx',hy',h,him,hw,eq_false e,zkh hx hy e]
 ·simp at h
  simp [zj3 hlen h hj]
open Classical in
theorem yxg (l m:List ByteArray) (hl:l.length≤9223372036854775807):RUN T zps [.sl 1 (zaw l),.sl 1 (zaw m)]=some ([bv (decide (l=m))],[]):=by
 refine zaf ybf rfl ?_
 rcases Classical.propComplete ((l.length:Int)=m.length) with hlm | hlm
 case inr =>
  simp [-getElem?_pos,ztx,zty,hlm,zmb hlm]
 simp [-getElem?_pos,ztx,zty,hlm]
 have hlen:l.length=m.length:=by simp at hlm; omega
 refine zas (fun n st => ∃ i:Nat,i+n=l.length∧(∀ j,j<i→l[j]?=m[j]?)∧st.V 0 = .sl 1 (zaw l)∧st.V 1 = .sl 1 (zaw m)∧st.V 12=iv l.length∧st.V 13=iv i) ?_ l.length _ ⟨0,by simp [hlen]⟩
 rintro n st ⟨i,hi,hj,v0,v1,v12,v13⟩
 simp [z9e,v12,v13]
 refine zao (fun h => ?_) (fun h => ?_)
 ·simp at h
  obtain ⟨x,hx⟩ : ∃ x,l[i]?=some x:=⟨_,List.getElem?_eq_getElem h⟩
  obtain ⟨y,hy⟩ : ∃ y,m[i]?=some y:=⟨_,List.getElem?_eq_getElem (by omega)⟩
  have hx':=zii hx
  have hy':=zii hy
  have hw:=wS h hl
  have him:i<m.length:=by omega
  by_cases e:x=y
  ·subst e
   simp [-getElem?_pos,v0,v1,v12,v13,hx',hy',h,him,hw]
   exact zal (n-1) (by omega) ⟨i+1,by omega,zeq hj (by rw [hx,hy]),by simp [v0],by simp [v1],by simp [v12],by simp⟩
  ·simp [-getElem?_pos,v0,v1,v12,v13,hx',hy',h,him,hw,z3n e,zkh hx hy e]
 ·simp at h
  simp [zj3 hlen h hj]
open Classical in
theorem yxh (l m:List Nd) (hl:l.length≤9223372036854775807):RUN T zqi [.sl 5 (l.map nd),.sl 5 (m.map nd)]=some ([bv (decide (l=m))],[]):=by
 refine zaf ycm rfl ?_
 rcases Classical.propComplete ((l.length:Int)=m.length) with hlm | hlm
 case inr =>
  simp [-getElem?_pos,zuf,zug,hlm,zmb hlm]
 simp [-getElem?_pos,zuf,zug,hlm]
 have hlen:l.length=m.length:=by simp at hlm; omega
 refine zas (fun n st => ∃ i:Nat,i+n=l.length∧(∀ j,j<i→l[j]?=m[j]?)∧st.V 0 = .sl 5 (l.map nd)∧st.V 1 = .sl 5 (m.map nd)∧st.V 12=iv l.length∧st.V 13=iv i) ?_ l.length _ ⟨0,by simp [hlen]⟩
 rintro n st ⟨i,hi,hj,v0,v1,v12,v13⟩
 simp [z9u,v12,v13]
 refine zao (fun h => ?_) (fun h => ?_)
 ·simp at h
  obtain ⟨x,hx⟩ : ∃ x,l[i]?=some x:=⟨_,List.getElem?_eq_getElem h⟩
  obtain ⟨y,hy⟩ : ∃ y,m[i]?=some y:=⟨_,List.getElem?_eq_getElem (by omega)⟩
  have hw:=wS h hl
  have him:i<m.length:=by omega
  rcases Classical.propComplete (x.f=y.f∧x.c=y.c∧x.l=y.l∧x.r=y.r∧x.v=y.v) with e | e
  ·simp [-getElem?_pos,v0,v1,v12,v13,hx,hy,nd,h,him,hw,zl4,e]
   exact zal (n-1) (by omega) ⟨i+1,by omega,zeq hj (by rw [hx,hy,z71.mpr (of_eq_true e)]),by simp [v0],by simp [v1],by simp [v12],by simp⟩
  ·have e2 : ¬ x=y:=fun hh=>by rw [z71] at hh; simp [e] at hh
   simp [-getElem?_pos,v0,v1,v12,v13,hx,hy,nd,h,him,hw,zl4,e,zkh hx hy e2]
 ·simp at h
  simp [zj3 hlen h hj]
open Classical in
theorem yxi (l m:List Nd) (hl:l.length≤9223372036854775807):RUN T zk5 [.agg [.sl 5 (l.map nd)],.agg [.sl 5 (m.map nd)]]=some ([bv (decide (l=m))],[]):=by
 refine zaf ybi rfl ?_
 have h:=yxh l m hl
 simp [-getElem?_pos,zxv,zxw,h]
open Classical in
theorem yxj (p q:Bool) (L M:List (List Nd)) (hl:L.length≤9223372036854775807) (hll : ∀ l∈L,l.length≤9223372036854775807):RUN T zpu [.sl 1 (trs p L),.sl 1 (trs q M),.fn zk5 []]=some ([bv (decide (L=M))],[]):=by
 refine zaf ybh rfl ?_
 rcases Classical.propComplete ((L.length:Int)=M.length) with hlm | hlm
 case inr =>
  simp [-getElem?_pos,zt1,zt2,hlm,zmb hlm]
 simp [-getElem?_pos,zt1,zt2,hlm]
 have hlen:L.length=M.length:=by simp at hlm; omega
 refine zas (fun n st => ∃ i:Nat,i+n=L.length∧(∀ j,j<i→L[j]?=M[j]?)∧st.V 1 = .sl 1 (trs q M)∧st.V 2 = .fn zk5 []∧st.V 15 = .sl 1 (trs p L)∧st.V 16=iv L.length∧st.V 17=iv i) ?_ L.length _ ⟨0,by simp [hlen]⟩
 rintro n st ⟨i,hi,hj,v1,v2,v15,v16,v17⟩
 simp [z9g,v16,v17]
 refine zao (fun h => ?_) (fun h => ?_)
 ·simp at h
  obtain ⟨x,hx⟩ : ∃ x,L[i]?=some x:=⟨_,List.getElem?_eq_getElem h⟩
  obtain ⟨y,hy⟩ : ∃ y,M[i]?=some y:=⟨_,List.getElem?_eq_getElem (by omega)⟩
  have hx':=zj7 (q:=p) hx
  have hy':=zj7 (q:=q) hy
  have hw:=wS h hl
  have him:i<M.length:=by omega
  have hs:=yxi x y (hll x (List.mem_of_getElem? hx))
  have z:=fr (by omega:st.nx<st.nx+1)
  by_cases e:x=y
  ·rw [decide_eq_true e] at hs
   simp [-getElem?_pos,v1,v2,v15,v16,v17,hx',hy',h,him,hw,hs,z]
   exact zal (n-1) (by omega) ⟨i+1,by omega,zeq hj (by rw [hx,hy,e]),by simp [v1],by simp [v2],by simp [v15],by simp [v16],by simp⟩
  ·rw [decide_eq_false e] at hs
   simp [-getElem?_pos,v1,v2,v15,v16,v17,hx',hy',h,him,hw,hs,z,zkh hx hy e]
 ·simp at h
  simp [zj3 hlen h hj]
def rwS (q:Bool) (l:List ByteArray):PV:=if q then .own 1 (zaw l) else .sl 1 (zaw l)
@[simp] theorem qj4 (q:Bool) (l:List ByteArray):fz (rwS q l) = .sl 1 (zaw l):=by cases q <;> simp [rwS]
def zhd (q:Bool) (L:List (List ByteArray)):List (List PV):=L.map fun l=>[rwS q l]
@[simp] theorem qrz (q:Bool) (L:List (List ByteArray)):(zhd q L).length=L.length:=by simp [zhd]
theorem yly {q:Bool} {L:List (List ByteArray)} {i:Nat} {l:List ByteArray} (h:L[i]?=some l):(zhd q L)[i]?=some [rwS q l]:=by simp [zhd,h]
open Classical in
theorem yxk (p q:Bool) (L M:List (List ByteArray)) (hl:L.length≤9223372036854775807) (hll : ∀ l∈L,l.length≤9223372036854775807):RUN T zqh [.sl 1 (zhd p L),.sl 1 (zhd q M)]=some ([bv (decide (L=M))],[]):=by
 refine zaf ycl rfl ?_
 rcases Classical.propComplete ((L.length:Int)=M.length) with hlm | hlm
 case inr =>
  simp [-getElem?_pos,zud,zue,hlm,zmb hlm]
 simp [-getElem?_pos,zud,zue,hlm]
 have hlen:L.length=M.length:=by simp at hlm; omega
 refine zas (fun n st => ∃ i:Nat,i+n=L.length∧(∀ j,j<i→L[j]?=M[j]?)∧st.V 0 = .sl 1 (zhd p L)∧st.V 1 = .sl 1 (zhd q M)∧st.V 5=iv i) ?_ L.length _ ⟨0,by simp [hlen]⟩
 rintro n st ⟨i,hi,hj,v0,v1,v5⟩
 simp [z9t,v0,v5]
 refine zao (fun h => ?_) (fun h => ?_)
 ·simp at h
  obtain ⟨x,hx⟩ : ∃ x,L[i]?=some x:=⟨_,List.getElem?_eq_getElem h⟩
  obtain ⟨y,hy⟩ : ∃ y,M[i]?=some y:=⟨_,List.getElem?_eq_getElem (by omega)⟩
  have hx':=yly (q:=p) hx
  have hy':=yly (q:=q) hy
  have hw:=wS h hl
  have him:i<M.length:=by omega
  have hxl:=hll x (List.mem_of_getElem? hx)
  rcases Classical.propComplete ((x.length:Int)=y.length) with d | d
  case inr =>
   have e : ¬ x=y:=by rintro rfl; simp at d
   simp [-getElem?_pos,v0,v1,v5,hx',hy',h,him,hw,d,zkh hx hy e]
  have hxy:x.length=y.length:=by simp at d; omega
  simp [-getElem?_pos,v0,v1,v5,hx',hy',h,him,hw,d]
  refine zas (fun n st => ∃ j:Nat,j+n=x.length∧(∀ k,k<j→x[k]?=y[k]?)∧st.V 0 = .sl 1 (zhd p L)∧st.V 1 = .sl 1 (zhd q M)∧st.V 5=iv i∧st.V 6=iv j) ?_ x.length _ ⟨0,by omega,fun _ hh=>by omega,by simp [v0],by simp [v1],by simp [v5],by simp⟩
  clear v0 v1 v5
  rintro n' st ⟨j,hjn,hjk,v0,v1,v5,v6⟩
  simp [-getElem?_pos,z9s,v0,v5,v6,hx',h]
  refine zao (fun h2 => ?_) (fun h2 => ?_)
  ·simp at h2
   obtain ⟨a,ha⟩ : ∃ a,x[j]?=some a:=⟨_,List.getElem?_eq_getElem h2⟩
   obtain ⟨b,hb⟩ : ∃ b,y[j]?=some b:=⟨_,List.getElem?_eq_getElem (by omega)⟩
   have ha':=zii ha
   have hb':=zii hb
   have hwj:=wS h2 hxl
   have hjy:j<y.length:=by omega
   by_cases e:a=b
   ·subst e
    simp [-getElem?_pos,v0,v1,v5,v6,hx',hy',ha',hb',h,him,h2,hjy,hwj]
    exact zal (n'-1) (by omega) ⟨j+1,by omega,zeq hjk (by rw [ha,hb]),by simp [v0],by simp [v1],by simp [v5],by simp⟩
   ·have e2 : ¬ x=y:=by rintro rfl; rw [ha] at hb; cases hb; exact e rfl
    simp [-getElem?_pos,v0,v1,v5,v6,hx',hy',ha',hb',h,him,h2,hjy,hwj,z3n e,zkh hx hy e2]
  ·simp at h2
   have exy:=zj3 hxy h2 hjk
   simp [-getElem?_pos,v0,v1,v5,hw]
   exact zal (n-1) (by omega) ⟨i+1,by omega,zeq hj (by rw [hx,hy,exy]),by simp [v0],by simp [v1],by simp⟩
 ·simp at h
  simp [zj3 hlen h hj]
open Classical in
theorem yxl (l m:List ByteArray) (hl:l.length≤9223372036854775807):RUN T zpr [.sl 1 (zaw l),.sl 1 (zaw m)]=some ([bv (decide (l=m))],[]):=by
 refine zaf ybd rfl ?_
 have h:=yxk false false [l] [m] (by simp) (by simpa using hl)
 have e:decide ([l]=[m])=decide (l=m):=by simp
 rw [e] at h
 have e1:zhd false [l]=[[.sl 1 (zaw l)]]:=rfl
 have e2:zhd false [m]=[[.sl 1 (zaw m)]]:=rfl
 rw [e1,e2] at h
 have hr:zaj 24 1=true:=by decide
 simp [-getElem?_pos,zxt,zxu,h,hr]
open Classical in
noncomputable def ztm (m k:Mo):Bool:=decide (m.ns=k.ns) && decide (m.ix=k.ix) && decide (m.b=k.b) && decide (m.ts=k.ts)
open Classical in
theorem yxm (p q:Bool) (m k:Mo) (hm:MoL 9223372036854775807 m):RUN T zo9 [moS p m,moS q k]=some ([bv (ztm m k)],[]):=by
 refine zaf yan rfl ?_
 have h1:=yxg m.ns k.ns hm.ns
 have h2:=yxf m.ix k.ix hm.ix
 have h3:=yxj p q m.ts k.ts hm.ts hm.tl
 unfold ztm
 rcases Classical.propComplete (m.ns=k.ns) with e1 | e1
 case inr =>
  simp only [e1,decide_false] at h1
  simp [-getElem?_pos,znr,zns,h1,e1]
 rcases Classical.propComplete (m.ix=k.ix) with e2 | e2
 case inr =>
  simp only [e1,e2,decide_false,decide_true] at h1 h2
  simp [-getElem?_pos,znr,zns,h1,h2,e1,e2]
 rcases Classical.propComplete (m.b=k.b) with e3 | e3
 case inr =>
  simp only [e1,e2,decide_true] at h1 h2
  simp [-getElem?_pos,znr,zns,h1,h2,e1,e2,e3]
 simp only [e1,e2,decide_true] at h1 h2
 simp [-getElem?_pos,znr,zns,h1,h2,h3,e1,e2,e3]
open Classical in
theorem yxn (p q:Bool) (m k:Mo) (hm:MoL 9223372036854775807 m) (hk:MoL 9223372036854775807 k):RUN T zo8 [moS p m,moS q k]=some ([bv (ztm m k)],[]):=by
 refine zaf yam rfl ?_
 have h1:=yxl m.ns k.ns hm.ns
 have h2:=ye9 m.ix k.ix hm.ix
 unfold ztm
 rcases Classical.propComplete (m.ns=k.ns) with e1 | e1
 case inr =>
  simp only [e1,decide_false] at h1
  simp [-getElem?_pos,zlk,zll,h1,e1]
 rcases Classical.propComplete (m.ix=k.ix) with e2 | e2
 case inr =>
  simp only [e1,e2,decide_false,decide_true] at h1 h2
  simp [-getElem?_pos,zlk,zll,h1,h2,e1,e2]
 simp only [e1,e2,decide_true] at h1 h2
 rcases Classical.propComplete (m.b=k.b) with e3 | e3
 case inr =>
  simp [-getElem?_pos,zlk,zll,h1,h2,e1,e2,e3]
 rcases Classical.propComplete ((m.ts.length:Int)=k.ts.length) with e4 | e4
 case inr =>
  simp [-getElem?_pos,zlk,zll,h1,h2,e1,e2,e3,e4,zmb e4]
 have hlen:m.ts.length=k.ts.length:=by simp at e4; omega
 simp [-getElem?_pos,zlk,zll,h1,h2,e1,e2,e3,e4]
 refine zas (fun n st => ∃ i:Nat,i+n=m.ts.length∧(∀ j,j<i→m.ts[j]?=k.ts[j]?)∧st.V 2 = .ptr 0 none 0 0 0∧st.V 3 = .ptr 1 none 0 0 0∧st.V 5=iv i∧st.S 0=some (.box [.sl 1 (zaw m.ns),.sl 1 (zab m.ix),iv m.b,.sl 1 (trs p m.ts)])∧st.S 1=some (.box [.sl 1 (zaw k.ns),.sl 1 (zab k.ix),iv k.b,.sl 1 (trs q k.ts)])) ?_ m.ts.length _ ⟨0,by simp⟩
 rintro n st ⟨i,hi,hj,v2,v3,v5,hS,hS1⟩
 simp [z86,v2,v5,hS]
 refine zao (fun h => ?_) (fun h => ?_)
 ·simp at h
  obtain ⟨x,hx⟩ : ∃ x,m.ts[i]?=some x:=⟨_,List.getElem?_eq_getElem h⟩
  obtain ⟨y,hy⟩ : ∃ y,k.ts[i]?=some y:=⟨_,List.getElem?_eq_getElem (by omega)⟩
  have hx':=zj7 (q:=p) hx
  have hy':=zj7 (q:=q) hy
  have hw:=wS h hm.ts
  have hik:i<k.ts.length:=by omega
  have hs:=yxd x y (hm.tl x (List.mem_of_getElem? hx)) (hk.tl y (List.mem_of_getElem? hy))
  by_cases e:x=y
  ·rw [decide_eq_true e] at hs
   simp [-getElem?_pos,v2,v3,v5,hS,hS1,hx',hy',h,hik,hw,hs]
   exact zal (n-1) (by omega) ⟨i+1,by omega,zeq hj (by rw [hx,hy,e]),by simp [v2],by simp [v3],by simp,by simp [hS],by simp [hS1]⟩
  ·rw [decide_eq_false e] at hs
   simp [-getElem?_pos,v2,v3,v5,hS,hS1,hx',hy',h,hik,hw,hs,zkh hx hy e]
 ·simp at h
  simp [zj3 hlen h hj,e1,e2,e3]
def ltr (n:Int):Bool:=decide (97≤n) && decide (n≤122)
def dgt (n:Int):Bool:=decide (48≤n) && decide (n≤57)
def chB (s:ByteArray) (i:Nat):Bool:=match s[i]? with
 | none=>true
 | some b=>ltr b.toNat || (decide (i≠0) && dgt b.toNat)
def zdk (s:ByteArray):Bool:=zai s.size 1 12 && (List.range s.size).all (chB s)
theorem z6g {s:ByteArray} {i:Nat} {b:UInt8} (h:s[i]?=some b):chB s i=(ltr b.toNat || (decide (i≠0) && dgt b.toNat)):=by simp [chB,h]
theorem yxo (s:ByteArray) (hs:s.size≤9223372036854775807):RUN T zqm [.v (.string s)]=some ([bv (zdk s)],[]):=by
 refine zaf ycp rfl ?_
 simp [-getElem?_pos,zzl,zzm]
 refine zas (fun n st => ∃ i:Nat,i+n=s.size∧(∀ j,j<i→chB s j=true)∧st.V 0 = .v (.string s)∧st.V 6=iv s.size∧st.V 7=iv i) ?_ s.size _ ⟨0,by simp⟩
 rintro n st ⟨i,hi,hj,v0,v6,v7⟩
 simp [z9v,v6,v7]
 refine zao (fun h => ?_) (fun h => ?_)
 ·simp at h
  obtain ⟨b,hb⟩ : ∃ b,s[i]?=some b:=⟨_,getElem?_pos s i h⟩
  have hw:=wS h hs
  have hc:=z6g hb
  obtain ⟨c,hcc⟩ : ∃ c:Int,c=b.toNat:=⟨_,rfl⟩
  rw [← hcc] at hc
  have hi0:((i:Int)=0)=(i=0):=by simp
  rcases Classical.propComplete (97≤c) with a1 | a1
  all_goals rcases Classical.propComplete (c≤122) with a2 | a2
  all_goals rcases Classical.propComplete (i=0) with a3 | a3
  all_goals rcases Classical.propComplete (48≤c) with a4 | a4
  all_goals rcases Classical.propComplete (c≤57) with a5 | a5
  all_goals have a6:(c<48) = ¬ (48≤c):=by simp
  all_goals have a7:(57<c) = ¬ (c≤57):=by simp
  all_goals simp [ltr,dgt,a1,a2,a3,a4,a5] at hc
  all_goals simp [-getElem?_pos,v0,v6,v7,hb,← hcc,a1,a2,a3,a4,a5,a6,a7,hi0,hw]
  all_goals first
   | exact zal (n-1) (by omega) ⟨i+1,by omega,zeq hj hc,by simp [v0],by simp [v6],by simp⟩
   | (have no:zdk s=false:=by
       unfold zdk
       rw [zg6 h hc]; simp
      simp [no]; done)
   | skip
 ·simp at h
  have:=zom (p:=chB s) (n:=s.size) fun j hj'=>hj j (by omega)
  unfold zdk
  rw [this]
  simp [-getElem?_pos,v0,ze4,-zdn]
theorem z5j (s:ByteArray) (hs:s.size≤9223372036854775807):RUN T zk3 [.v (.string s)]=some ([bv (zdk s)],[]):=by
 refine zaf yaw rfl ?_
 rcases Bool.eq_false_or_eq_true (zai s.size 1 12) with h0 | h0
 case inr =>
  have no:zdk s=false:=by unfold zdk; rw [h0]; rfl
  simp [-getElem?_pos,zrz,zr0,za5,-zav,h0,no]
 have hr:=za2.mp h0
 obtain ⟨b0,hb0⟩ : ∃ b,s[0]?=some b:=⟨_,getElem?_pos s 0 (by omega)⟩
 have hn0:zbr (.v (.int .i64 0))=some 0:=rfl
 rcases Classical.propComplete (((b0.toNat:Nat):Int)<97) with f | f
 case inl =>
  have hc:chB s 0=false:=by
   rw [z6g hb0]
   have : ¬ (97≤(b0.toNat:Int)):=by have:=of_eq_true f; omega
   simp [ltr,this]
  have no:zdk s=false:=by unfold zdk; rw [zg6 (by omega) hc]; simp
  simp [-getElem?_pos,zrz,zr0,za5,-zav,h0,no,hb0,f]
 simp [-getElem?_pos,zrz,zr0,za5,-zav,h0,hb0,f]
 refine zas (fun n st => ∃ i:Nat,i+n=s.size∧(∀ j,j<i→chB s j=true)∧st.V 0 = .v (.string s)∧st.V 3=iv i) ?_ s.size _ ⟨0,by simp⟩
 rintro n st ⟨i,hi,hj,v0,v3⟩
 simp [z9a,v0,v3]
 refine zao (fun h => ?_) (fun h => ?_)
 ·simp at h
  obtain ⟨b,hb⟩ : ∃ b,s[i]?=some b:=⟨_,getElem?_pos s i h⟩
  have hw:=wS h hs
  have hc:=z6g hb
  have hcv:IntKind.i64.wrap (b.toNat:Int)=b.toNat:=w64 (by omega) (by have:=b.toNat_lt; omega)
  have e1:zai (b.toNat:Int) 97 122=ltr b.toNat:=rfl
  have e2:zai (b.toNat:Int) 48 57=dgt b.toNat:=rfl
  cases a1:ltr b.toNat with
  | true =>
   have e3:=e1.trans a1
   simp [-getElem?_pos,v0,v3,hb,hcv,e3,hw,za5,-zav]
   exact zal (n-1) (by omega) ⟨i+1,by omega,zeq hj (by rw [hc,a1]; rfl),by simp [v0],by simp⟩
  | false =>
   have e3:=e1.trans a1
   cases a2:dgt b.toNat with
   | true =>
    have e4:=e2.trans a2
    have hi0:i≠0:=by
     rintro rfl
     rw [hb0] at hb
     cases hb
     simp [dgt] at a2
     have:=of_eq_false f
     omega
    simp [-getElem?_pos,v0,v3,hb,hcv,e3,e4,hw,za5,-zav]
    exact zal (n-1) (by omega) ⟨i+1,by omega,zeq hj (by rw [hc,a1,a2]; simp [hi0]),by simp [v0],by simp⟩
   | false =>
    have e4:=e2.trans a2
    have no:zdk s=false:=by unfold zdk; rw [zg6 h (by rw [hc,a1,a2]; simp:chB s i=false)]; simp
    simp [-getElem?_pos,v0,v3,hb,hcv,e3,e4,hw,no,za5,-zav]
 ·simp at h
  have:=zom (p:=chB s) (n:=s.size) fun j hj'=>hj j (by omega)
  have ok:zdk s=true:=by unfold zdk; rw [this,h0]; rfl
  simp [ok]
theorem ztl (l:List ByteArray) (i:Nat):List.take i (zaw l)=zaw (l.take i):=by simp [zaw]
def zfb (l:List ByteArray) (x:ByteArray):Bool:=l.any fun y=>decide (y=x)
theorem z5k (l:List ByteArray) (x:ByteArray) (hl:l.length≤9223372036854775807):RUN T zk4 [.sl 1 (zaw l),.v (.string x)]=some ([bv (zfb l x)],[]):=by
 refine zaf yax rfl ?_
 simp [-getElem?_pos,zw7,zw8]
 refine zas (fun n st => ∃ i:Nat,i+n=l.length∧(∀ (j:Nat) (y:ByteArray),j<i→l[j]?=some y→¬ y=x)∧st.V 0 = .sl 1 (zaw l)∧st.V 1 = .v (.string x)∧st.V 5=iv i) ?_ l.length _ ⟨0,by simp⟩
 rintro n st ⟨i,hi,hj,v0,v1,v5⟩
 simp [z9b,v0,v5]
 refine zao (fun h => ?_) (fun h => ?_)
 ·simp at h
  obtain ⟨y,hy⟩ : ∃ y,l[i]?=some y:=⟨_,List.getElem?_eq_getElem h⟩
  have hy':=zii hy
  have hw:=wS h hl
  by_cases e:y=x
  ·subst e
   have:zfb l y=true:=by
    unfold zfb; rw [List.any_eq_true]; exact ⟨y,List.mem_of_getElem? hy,by simp⟩
   simp [-getElem?_pos,v0,v1,v5,hy',h,this]
  ·simp [-getElem?_pos,v0,v1,v5,hy',h,hw,z3n e]
   exact zal (n-1) (by omega) ⟨i+1,by omega,zgo (P:=fun _ y => ¬ y=x) hj hy e,by simp [v0],by simp [v1],by simp⟩
 ·simp at h
  have:zfb l x=false:=by
   unfold zfb
   rw [List.any_eq_false]
   intro y hy
   obtain ⟨j,hjy⟩:=List.getElem?_of_mem hy
   simpa using hj j y (by have:=(List.getElem?_eq_some_iff.mp hjy).1; omega) hjy
  simp [this]
theorem yxp (l:List ByteArray) (x:ByteArray) (hl:l.length≤9223372036854775807):RUN T zq7 [.sl 1 (zaw l),.v (.string x)]=some ([iv (zgf (fun y=>decide (y=x)) l)],[]):=by
 refine zaf yds rfl ?_
 simp [-getElem?_pos,z08,z09]
 refine zas (fun n st => ∃ i:Nat,i+n=l.length∧(∀ (j:Nat) (y:ByteArray),j<i→l[j]?=some y→decide (y=x)=false)∧st.V 0 = .sl 1 (zaw l)∧st.V 1 = .v (.string x)∧st.V 7=iv l.length∧st.V 8=iv i) ?_ l.length _ ⟨0,by simp⟩
 rintro n st ⟨i,hi,hj,v0,v1,v7,v8⟩
 simp [z99,v7,v8]
 refine zao (fun h => ?_) (fun h => ?_)
 ·simp at h
  obtain ⟨y,hy⟩ : ∃ y,l[i]?=some y:=⟨_,List.getElem?_eq_getElem h⟩
  have hy':=zii hy
  have hw:=wS h hl
  by_cases e:y=x
  ·subst e
   have:=zou (p:=fun z=>decide (z=y)) hy (by simp) hj
   simp [-getElem?_pos,v0,v1,v7,v8,hy',h,this]
  ·simp [-getElem?_pos,v0,v1,v7,v8,hy',h,hw,z3n (fun e'=>e e'.symm)]
   exact zal (n-1) (by omega) ⟨i+1,by omega,zgo (P:=fun _ y=>decide (y=x)=false) hj hy (by simpa using e),by simp [v0],by simp [v1],by simp [v7],by simp⟩
 ·simp at h
  have:=ztk (p:=fun z=>decide (z=x)) (l:=l) fun j y h1 h2=>hj j y (by omega) h2
  simp [-getElem?_pos,this]
theorem yxq (l:List ByteArray) (x:ByteArray) (hl:l.length≤9223372036854775807):RUN T zqn [.sl 1 (zaw l),.v (.string x)]=some ([bv (zfb l x)],[]):=by
 refine zaf ycq rfl ?_
 have h:=yxp l x hl
 have e:=z40 (p:=fun y=>decide (y=x)) (l:=l)
 have e2:zfb l x=l.any fun y=>decide (y=x):=rfl
 rw [e2,← e]
 simp [-getElem?_pos,zzn,zzo,h]
def nmB (L:List ByteArray) (i:Nat):Bool:=match L[i]? with
 | none=>true
 | some x=>zdk x && !zfb (L.take i) x
def zd8 (L:List ByteArray):Bool:=(List.range L.length).all (nmB L)
theorem zsl {L:List ByteArray} {i:Nat} {x:ByteArray} (h:L[i]?=some x):nmB L i=(zdk x && !zfb (L.take i) x):=by simp [nmB,h]
theorem yfa (L:List ByteArray) (hl:L.length≤9223372036854775807) (hs : ∀ x∈L,x.size≤9223372036854775807):RUN T zmp [.sl 1 (zaw L)]=some ([bv (zd8 L)],[]):=by
 refine zaf ybm rfl ?_
 simp [-getElem?_pos,zx0,zx1]
 refine zas (fun n st => ∃ i:Nat,i+n=L.length∧(∀ j,j<i→nmB L j=true)∧st.V 0 = .sl 1 (zaw L)∧st.V 5 = .sl 1 (zaw L)∧st.V 6=iv L.length∧st.V 7=iv i) ?_ L.length _ ⟨0,by simp⟩
 rintro n st ⟨i,hi,hj,v0,v5,v6,v7⟩
 simp [z9i,v6,v7]
 refine zao (fun h => ?_) (fun h => ?_)
 ·simp at h
  obtain ⟨x,hx⟩ : ∃ x,L[i]?=some x:=⟨_,List.getElem?_eq_getElem h⟩
  have hx':=zii hx
  have hw:=wS h hl
  have hN:=yxo x (hs x (List.mem_of_getElem? hx))
  have hC:=yxq (L.take i) x (by simp; omega)
  have hc:=zsl hx
  have hil:i≤L.length:=by omega
  cases a1:zdk x with
  | false =>
   rw [a1] at hN hc
   have no:zd8 L=false:=zg6 h (by rw [hc]; rfl)
   simp [-getElem?_pos,v0,v5,v6,v7,hx',h,hw,hN,no]
  | true =>
   rw [a1] at hN hc
   cases a2:zfb (L.take i) x with
   | true =>
    rw [a2] at hC hc
    have no:zd8 L=false:=zg6 h (by rw [hc]; rfl)
    simp [-getElem?_pos,v0,v5,v6,v7,hx',h,hw,hN,hC,hil,ztl,no]
   | false =>
    rw [a2] at hC hc
    simp [-getElem?_pos,v0,v5,v6,v7,hx',h,hw,hN,hC,hil,ztl]
    exact zal (n-1) (by omega) ⟨i+1,by omega,zeq hj (by rw [hc]; rfl),by simp [v0],by simp [v5],by simp [v6],by simp⟩
 ·simp at h
  have:zd8 L=true:=zom fun j hj'=>hj j (by omega)
  simp [this]
@[simp] theorem qdp (n:Int):RUN T zmq [iv n]=some ([bv (!zai n (-1) 1)],[]):=by
 refine zaf ybo rfl ?_
 simp [zx4,zx5]
theorem yxr (t:List Nd) (F:Int) (hl:t.length≤9223372036854775807):RUN T zms [.agg [.sl 5 (t.map nd)],.fptr [iv F] 0]=some ([bv (!zcq t F)],[]):=by
 refine zaf ybs rfl ?_
 simp [-getElem?_pos,zyc,zyd,yw5 t F hl]
theorem yxs {q:Bool} {f:Nat} {c:PV} {p:List Nd→Bool} (M:List (List Nd)) (hl:M.length≤9223372036854775807) (hm:zad T f=[]) (hp : ∀ t∈M,RUN T f [.agg [.sl 5 (t.map nd)],.fptr [c] 0]=some ([bv (p t)],[])) :
  RUN T zqp [.sl 1 (trs q M),.fn f [.fptr [c] 0]]=some ([iv (zgf p M)],[]):=by
 refine zaf ycs rfl ?_
 simp [zzr,zzs]
 refine zas (fun n st => ∃ i:Nat,i+n=M.length∧st.V 0 = .sl 1 (trs q M)∧st.V 1 = .fn f [.fptr [c] 0]∧st.V 8=iv i∧st.V 7=iv M.length∧∀ (j:Nat) (x:List Nd),j<i→M[j]?=some x→p x=false) ?_ M.length _ ⟨0,by simp⟩
 rintro n st ⟨i,hi,h0,h1,h8,h7,hj⟩
 simp [z9x,h0,h1,h8,h7]
 refine zao (fun h => ?_) (fun h => ?_)
 ·simp at h
  obtain ⟨x,hx⟩ : ∃ x,M[i]?=some x:=⟨_,List.getElem?_eq_getElem h⟩
  have hw:=wS h hl
  have hx':=zj7 (q:=q) hx
  have hpx:=hp x (List.mem_of_getElem? hx)
  simp [-getElem?_pos,h0,h1,h8,h7,hx',hw,hm,hpx,h]
  refine zao (fun b0 => ?_) (fun b0 => ?_) <;> (try simp at b0) <;> simp [-getElem?_pos,b0,h0,h1,h8,h7,hx',hw]
  all_goals first
   | exact (zou hx b0 hj).symm
   | exact zal (n-1) (by omega) ⟨i+1,by omega,by simp [h0],by simp [h1],by simp,by simp [h7],zwm hj hx b0⟩
 ·simp at h
  simp [h]
  exact (ztk fun j x hl hx=>hj j x (by omega) hx).symm
theorem yxt {q:Bool} {f:Nat} {c:PV} {p:List Nd→Bool} (M:List (List Nd)) (hl:M.length≤9223372036854775807) (hm:zad T f=[]) (hp : ∀ t∈M,RUN T f [.agg [.sl 5 (t.map nd)],.fptr [c] 0]=some ([bv (p t)],[])) :
  RUN T zpx [.sl 1 (trs q M),.fn f [.fptr [c] 0]]=some ([bv (M.any p)],[]):=by
 refine zaf ybr rfl ?_
 have e:=yxs (q:=q) M hl hm hp
 simp [zya,zyb,e,z40]
def zgt (n:Int):Bool:=zai n (-1) 1
def zd0 (m:Mo):Bool:=zai m.ns.length 1 4 && zd8 m.ns && (decide ((m.ix.length:Int)=0) || decide ((m.ix.length:Int)=m.ns.length)) && m.ix.all zgt && za8 m.b && decide ((m.ts.length:Int)≤8) && m.ts.all fun t=>zcq t m.ns.length
set_option maxHeartbeats 1000000 in
theorem z5l (q:Bool) (m:Mo) (hm:MoL 9223372036854775807 m):RUN T zk2 [moS q m]=some ([bv (zd0 m)],[]):=by
 refine zaf yaq rfl ?_
 have h1:=yfa m.ns hm.ns hm.ss
 have h2:=z5g (f:=zmq) (p:=fun n => !zgt n) m.ix hm.ix (by simp) (fun n _=>by simp [zgt])
 have h3:=yxt (q:=q) (f:=zms) (c:=iv m.ns.length) (p:=fun t => !zcq t m.ns.length) m.ts hm.ts (by simp) (fun t ht=>yxr t _ (hm.tl t ht))
 have e2:(!(m.ix.any fun n => !zgt n))=m.ix.all zgt:=by simp [List.any_eq_not_all_not]
 have e3:(!(m.ts.any fun t => !zcq t m.ns.length))=m.ts.all fun t=>zcq t m.ns.length:=by simp [List.any_eq_not_all_not]
 unfold zd0
 rw [← e2,← e3]
 cases a1:zai m.ns.length 1 4 with
 | false=>simp [-getElem?_pos,zrw,zrx,ze4,-zdn,a1]
 | true =>
 cases a2:zd8 m.ns with
 | false =>
  rw [a2] at h1
  simp [-getElem?_pos,zrw,zrx,ze4,-zdn,a1,h1]
 | true =>
 rw [a2] at h1
 rcases Classical.propComplete (m.ix=[]) with b1 | b1
 all_goals rcases Classical.propComplete ((m.ix.length:Int)=m.ns.length) with b2 | b2
 all_goals cases a3:(m.ix.any fun n => !zgt n)
 all_goals rw [a3] at h2
 all_goals cases a4:za8 m.b
 all_goals rcases Classical.propComplete ((m.ts.length:Int)≤8) with b3 | b3
 all_goals simp [-getElem?_pos,zrw,zrx,ze4,-zdn,a1,h1,h2,h3,b1,b2,b3,a4]
theorem y0m {M:List (List Nd)} {p:List Nd→Bool} {j:Nat} {a:List Nd} (h1:M[j]?=some a) (h2:p a=false):M.all p=false:=by
 cases e:M.all p with
 | false=>rfl
 | true=>rw [List.all_eq_true.mp e a (List.mem_of_getElem? h1)] at h2; cases h2
theorem y5m {M:List (List Nd)} {p:List Nd→Bool} (h : ∀ (j:Nat) (a:List Nd),j<M.length→M[j]?=some a→p a=true):M.all p=true:=by
 rw [List.all_eq_true]
 intro x hx
 obtain ⟨j,hj⟩:=List.getElem?_of_mem hx
 exact h j x (List.getElem?_eq_some_iff.mp hj).1 hj
theorem y2e (q:Bool) (m:Mo) (hm:MoL 9223372036854775807 m) {Q:Ex→St→Prop} {st:St} (h1:st.V 1 = .ptr 0 none 0 0 0) (h3:st.V 3=iv m.ns.length) (h4:st.V 4=iv (0:Nat)) (hS:st.S 0=some (.box [.sl 1 (zaw m.ns),.sl 1 (zab m.ix),iv m.b,.sl 1 (trs q m.ts)]))
  (hr:zd8 m.ns=false→∀ s:St,s.V 2=bv false→Q .ret s) (he:zd8 m.ns=true→∀ s:St,s.V 1 = .ptr 0 none 0 0 0→s.V 3=iv m.ns.length→s.S 0=some (.box [.sl 1 (zaw m.ns),.sl 1 (zab m.ix),iv m.b,.sl 1 (trs q m.ts)])→Q (.exit 0) s):W (zad T) (RUN T) (.loop z44) st Q:=by
 refine zas (fun n st => ∃ i:Nat,i+n=m.ns.length∧(∀ j,j<i→nmB m.ns j=true)∧st.V 1 = .ptr 0 none 0 0 0∧st.V 3=iv m.ns.length∧st.V 4=iv i∧st.S 0=some (.box [.sl 1 (zaw m.ns),.sl 1 (zab m.ix),iv m.b,.sl 1 (trs q m.ts)])) ?_ m.ns.length _ ⟨0,by omega,fun _ h=>by omega,h1,h3,h4,hS⟩
 clear h1 h3 h4 hS
 rintro n st ⟨i,hi,hj,v1,v3,v4,hS⟩
 simp [z44,v3,v4]
 refine zao (fun h => ?_) (fun h => ?_)
 ·simp at h
  obtain ⟨x,hx⟩ : ∃ x,m.ns[i]?=some x:=⟨_,List.getElem?_eq_getElem h⟩
  have hx':=zii hx
  have hw:=wS h hm.ns
  have hml:=hm.ns
  have hN:=z5j x (hm.ss x (List.mem_of_getElem? hx))
  have hC:=z5k (m.ns.take i) x (by simp; omega)
  have hc:=zsl hx
  have hil:i≤m.ns.length:=by omega
  cases a1:zdk x with
  | false =>
   rw [a1] at hN hc
   simp [-getElem?_pos,v1,v3,v4,hS,hx',h,hw,hN]
   exact hr (zg6 h (by rw [hc]; rfl)) _ (by simp)
  | true =>
   rw [a1] at hN hc
   cases a2:zfb (m.ns.take i) x with
   | true =>
    rw [a2] at hC hc
    simp [-getElem?_pos,v1,v3,v4,hS,hx',h,hw,hN,hC,hil,ztl]
    exact hr (zg6 h (by rw [hc]; rfl)) _ (by simp)
   | false =>
    rw [a2] at hC hc
    simp [-getElem?_pos,v1,v3,v4,hS,hx',h,hw,hN,hC,hil,ztl]
    exact zal (n-1) (by omega) ⟨i+1,by omega,zeq hj (by rw [hc]; rfl),by simp [v1],by simp [v3],by simp,by simp [hS]⟩
 ·simp at h
  simp
  exact he (zom fun j hj'=>hj j (by omega)) _ (by simp [v1]) (by simp [v3]) (by simp [hS])
theorem y56 (q:Bool) (m:Mo) (hm:MoL 9223372036854775807 m) {Q:Ex→St→Prop} {st:St} (h1:st.V 1 = .ptr 0 none 0 0 0) (h3:st.V 3=iv m.ns.length) (h5:st.V 5=iv (0:Nat)) (hS:st.S 0=some (.box [.sl 1 (zaw m.ns),.sl 1 (zab m.ix),iv m.b,.sl 1 (trs q m.ts)]))
  (hr:m.ix.all zgt=false→∀ s:St,s.V 2=bv false→Q .ret s) (he:m.ix.all zgt=true→∀ s:St,s.V 1 = .ptr 0 none 0 0 0→s.V 3=iv m.ns.length→s.S 0=some (.box [.sl 1 (zaw m.ns),.sl 1 (zab m.ix),iv m.b,.sl 1 (trs q m.ts)])→Q (.exit 2) s):W (zad T) (RUN T) (.loop z45) st Q:=by
 refine zas (fun n st => ∃ i:Nat,i+n=m.ix.length∧(∀ (j:Nat) (x:Int),j<i→m.ix[j]?=some x→zgt x=true)∧st.V 1 = .ptr 0 none 0 0 0∧st.V 3=iv m.ns.length∧st.V 5=iv i∧st.S 0=some (.box [.sl 1 (zaw m.ns),.sl 1 (zab m.ix),iv m.b,.sl 1 (trs q m.ts)])) ?_ m.ix.length _ ⟨0,by omega,fun _ _ h=>by omega,h1,h3,h5,hS⟩
 clear h1 h3 h5 hS
 rintro n st ⟨i,hi,hj,v1,v3,v5,hS⟩
 simp [z45,v1,v5,hS]
 refine zao (fun h => ?_) (fun h => ?_)
 ·simp at h
  obtain ⟨x,hx⟩ : ∃ x,m.ix[i]?=some x:=⟨_,List.getElem?_eq_getElem h⟩
  have hx':=za7 hx
  have hw:=wS h hm.ix
  have e:zai x (-1) 1=zgt x:=rfl
  cases a1:zgt x with
  | false =>
   have e2:=e.trans a1
   simp [-getElem?_pos,v1,v3,v5,hS,hx',h,hw,e2,za5,-zav]
   exact hr (ztn hx a1) _ (by simp)
  | true =>
   have e2:=e.trans a1
   simp [-getElem?_pos,v1,v3,v5,hS,hx',h,hw,e2,za5,-zav]
   exact zal (n-1) (by omega) ⟨i+1,by omega,zgo (P:=fun _ x=>zgt x=true) hj hx a1,by simp [v1],by simp [v3],by simp,by simp [hS]⟩
 ·simp at h
  simp
  exact he (zs2 fun j a h1 h2=>hj j a (by omega) h2) _ (by simp [v1]) (by simp [v3]) (by simp [hS])
theorem y59 (q:Bool) (m:Mo) (hm:MoL 9223372036854775807 m) {Q:Ex→St→Prop} {st:St} (h1:st.V 1 = .ptr 0 none 0 0 0) (h3:st.V 3=iv m.ns.length) (h6:st.V 6=iv (0:Nat)) (hS:st.S 0=some (.box [.sl 1 (zaw m.ns),.sl 1 (zab m.ix),iv m.b,.sl 1 (trs q m.ts)]))
  (hr:(m.ts.all fun t=>zcq t m.ns.length)=false→∀ s:St,s.V 2=bv false→Q .ret s) (he:(m.ts.all fun t=>zcq t m.ns.length)=true→∀ s:St,Q (.exit 4) s):W (zad T) (RUN T) (.loop z46) st Q:=by
 refine zas (fun n st => ∃ i:Nat,i+n=m.ts.length∧(∀ (j:Nat) (x:List Nd),j<i→m.ts[j]?=some x→zcq x m.ns.length=true)∧st.V 1 = .ptr 0 none 0 0 0∧st.V 3=iv m.ns.length∧st.V 6=iv i∧st.S 0=some (.box [.sl 1 (zaw m.ns),.sl 1 (zab m.ix),iv m.b,.sl 1 (trs q m.ts)])) ?_ m.ts.length _ ⟨0,by omega,fun _ _ h=>by omega,h1,h3,h6,hS⟩
 clear h1 h3 h6 hS
 rintro n st ⟨i,hi,hj,v1,v3,v6,hS⟩
 simp [z46,v1,v6,hS]
 refine zao (fun h => ?_) (fun h => ?_)
 ·simp at h
  obtain ⟨x,hx⟩ : ∃ x,m.ts[i]?=some x:=⟨_,List.getElem?_eq_getElem h⟩
  have hx':=zj7 (q:=q) hx
  have hw:=wS h hm.ts
  have hT:=ye1 x m.ns.length (hm.tl x (List.mem_of_getElem? hx))
  cases a1:zcq x m.ns.length with
  | false =>
   rw [a1] at hT
   simp [-getElem?_pos,v1,v3,v6,hS,hx',h,hw,hT]
   exact hr (y0m (p:=fun t=>zcq t m.ns.length) hx a1) _ (by simp)
  | true =>
   rw [a1] at hT
   simp [-getElem?_pos,v1,v3,v6,hS,hx',h,hw,hT]
   exact zal (n-1) (by omega) ⟨i+1,by omega,zgo (P:=fun _ x=>zcq x m.ns.length=true) hj hx a1,by simp [v1],by simp [v3],by simp,by simp [hS]⟩
 ·simp at h
  simp
  exact he (y5m fun j a h1 h2=>hj j a (by omega) h2) _
set_option maxHeartbeats 1000000 in
theorem yxu (q:Bool) (m:Mo) (hm:MoL 9223372036854775807 m):RUN T zpq [moS q m]=some ([bv (zd0 m)],[]):=by
 refine zaf ybc rfl ?_
 cases a1:zai m.ns.length 1 4 with
 | false =>
  have no:zd0 m=false:=by unfold zd0; rw [a1]; rfl
  simp [-getElem?_pos,zjy,zjz,za5,-zav,a1,no]
 | true =>
 have hF:=za2.mp a1
 by_cases a5:(decide ((m.ix.length:Int)=0) || decide ((m.ix.length:Int)=m.ns.length))=true
 case neg =>
  have no:zd0 m=false:=by unfold zd0; simp only [Bool.not_eq_true] at a5; rw [a5]; simp
  simp at a5
  simp [-getElem?_pos,zjy,zjz,za5,-zav,a1,no,eq_false a5.1,eq_false a5.2]
 cases a4:za8 m.b with
 | false =>
  have no:zd0 m=false:=by unfold zd0; rw [a4]; simp
  rcases Classical.propComplete (m.ix=[]) with b1 | b1
  all_goals rcases Classical.propComplete ((m.ix.length:Int)=m.ns.length) with b2 | b2
  all_goals first
   | (simp [-getElem?_pos,zjy,zjz,za5,-zav,a1,no,b1,b2,a4]; done)
   | (exfalso; simp [b1,b2] at a5; done)
 | true =>
 by_cases b3:(m.ts.length:Int)≤8
 case neg =>
  have no:zd0 m=false:=by unfold zd0; rw [decide_eq_false b3]; simp
  rcases Classical.propComplete (m.ix=[]) with b1 | b1
  all_goals rcases Classical.propComplete ((m.ix.length:Int)=m.ns.length) with b2 | b2
  all_goals first
   | (simp [-getElem?_pos,zjy,zjz,za5,-zav,a1,no,b1,b2,a4,eq_true (by omega:(8:Int)<m.ts.length)]; done)
   | (exfalso; simp [b1,b2] at a5; done)
 have b3':((8:Int)<m.ts.length)=False:=eq_false (by omega)
 have hb:(m.ix=[])=True∨((m.ix=[])=False∧((m.ix.length:Int)=m.ns.length)=True):=by
  rcases Classical.propComplete (m.ix=[]) with b1 | b1
  ·exact .inl b1
  ·refine .inr ⟨b1,?_⟩
   simp [b1] at a5
   exact eq_true a5
 have mod:zd0 m=(zd8 m.ns && m.ix.all zgt && m.ts.all fun t=>zcq t m.ns.length):=by
  unfold zd0
  rw [a1,a4,a5,decide_eq_true b3]
  simp [Bool.and_assoc]
 rw [mod]
 rcases hb with b1 | ⟨b1,b2⟩
 all_goals first
  | simp [-getElem?_pos,zjy,zjz,za5,-zav,a1,b1,b2,a4,b3']
  | simp [-getElem?_pos,zjy,zjz,za5,-zav,a1,b1,a4,b3']
 all_goals refine y2e q m hm (by simp) (by simp) (by simp) (by simp) (fun no s h2 => ?_) (fun ok s u1 u3 uS => ?_)
 all_goals first
  | (simp [h2,no]; done)
  | skip
 all_goals simp [-getElem?_pos,u1,u3,uS]
 all_goals refine y56 q m hm (by simp [u1]) (by simp [u3]) (by simp) (by simp [uS]) (fun no s h2 => ?_) (fun ok2 s w1 w3 wS => ?_)
 all_goals first
  | (simp [h2,no]; done)
  | skip
 all_goals simp [-getElem?_pos,w1,w3,wS]
 all_goals refine y59 q m hm (by simp [w1]) (by simp [w3]) (by simp) (by simp [wS]) (fun no s h2 => ?_) (fun ok3 s => ?_)
 all_goals first
  | (simp [h2,no]; done)
  | (simp [ok,ok2,ok3]; done)
def zhx (row:List Int):List (List Nd)→Int→Int
 | [],a=>a
 | t::ts,a=>zhx row ts (IntKind.i64.wrap (a+evt t row))
def zgq (m:Mo) (row:List Int):Int×Bool:=if zd0 m=true∧(row.length:Int)=m.ns.length then (zhx row m.ts m.b,true) else (0,false)
theorem yxv (q:Bool) (m:Mo) (row:List Int) (hm:MoL 1048576 m) (hr:row.length≤1048576):RUN T zpw [moS q m,.sl 1 (zab row)]=some ([iv (zgq m row).1,bv (zgq m row).2],[]):=by
 refine zaf ybk rfl ?_
 have h1:=z5l q m (hm.mono (by omega))
 have hml:=hm.ts
 cases a1:zd0 m with
 | false =>
  have no:zgq m row=(0,false):=by unfold zgq; rw [if_neg (by simp [a1])]
  rw [a1] at h1
  simp [-getElem?_pos,zr3,zr4,h1,no]
 | true =>
  rw [a1] at h1
  rcases Classical.propComplete ((row.length:Int)=m.ns.length) with b1 | b1
  case inr =>
   have no:zgq m row=(0,false):=by unfold zgq; rw [if_neg (by simp [b1])]
   simp [-getElem?_pos,zr3,zr4,h1,b1,no]
  have ok:zgq m row=(zhx row m.ts m.b,true):=by unfold zgq; rw [if_pos ⟨a1,of_eq_true b1⟩]
  rw [ok]
  simp [-getElem?_pos,zr3,zr4,h1,b1]
  refine zas (fun n st => ∃ (i:Nat) (a:Int),i+n=m.ts.length∧zhx row (m.ts.drop i) a=zhx row m.ts m.b∧st.V 1 = .sl 1 (zab row)∧st.V 6=iv a∧st.V 23 = .sl 1 (trs q m.ts)∧st.V 24=iv m.ts.length∧st.V 25=iv i) ?_ m.ts.length _ ⟨0,m.b,by omega,by simp,by simp⟩
  rintro n st ⟨i,a,hi,ha,v1,v6,v23,v24,v25⟩
  simp [z9h,v24,v25]
  refine zao (fun h => ?_) (fun h => ?_)
  ·simp at h
   obtain ⟨t,ht⟩ : ∃ t,m.ts[i]?=some t:=⟨_,List.getElem?_eq_getElem h⟩
   have ht':=zj7 (q:=q) ht
   have hw:=wS h (by omega:m.ts.length≤9223372036854775807)
   have hE:=ywv t row (hm.tl t (List.mem_of_getElem? ht)) hr
   rw [zct ht,zhx] at ha
   simp [-getElem?_pos,v1,v6,v23,v24,v25,ht',h,hw,hE]
   exact zal (n-1) (by omega) ⟨i+1,_,by omega,ha,by simp [v1],by simp,by simp [v23],by simp [v24],by simp⟩
  ·simp at h
   rw [List.drop_eq_nil_of_le h,zhx] at ha
   simp [-getElem?_pos,v6,ha]
def y66 (p:Nat→Bool) (i:Nat):List Int:=((List.range i).filter p).map fun (j:Nat)=>(j:Int)
@[simp] theorem qli (p:Nat→Bool):y66 p 0=[]:=rfl
theorem zkz (x:Int):IntKind.u64.wrap x=x % 18446744073709551616:=IntKind.wrap_u64 x
theorem y6o (a b:Int):zbb .mul (.int .u64 a) (.int .u64 b)=some (.int .u64 (a*b % 18446744073709551616)):=by rw [yib,zkz]
theorem y2a (a b:Int):zbb .add (.int .u64 a) (.int .u64 b)=some (.int .u64 ((a+b) % 18446744073709551616)):=by rw [ym3,zkz]
theorem y2g (x:Int):zbb .shr (.int .u64 x) (.int .u64 32)=some (.int .u64 (x / 4294967296)):=by
 rw [ylr,if_pos (by decide)]
 have:(2:Int) ^ min (32:Int).toNat IntKind.u64.bits=4294967296:=by decide
 rw [this,Int.fdiv_eq_ediv_of_nonneg _ (by decide)]
theorem y3t (x:Int):zbb .shl (.int .u64 x) (.int .u64 32)=some (.int .u64 (x*4294967296 % 18446744073709551616)):=by
 rw [ylt,if_pos (by decide),zkz]
 have:(2:Int) ^ min (32:Int).toNat IntKind.u64.bits=4294967296:=by decide
 rw [this]
theorem z29 {x:Int} (h0:0≤x) (h1:x<18446744073709551616):zbb .and (.int .u64 x) (.int .u64 4294967295)=some (.int .u64 (x % 4294967296)):=by
 rw [ygg,zkz]
 have e:((BitVec.ofInt IntKind.u64.bits x &&& BitVec.ofInt IntKind.u64.bits 4294967295).toNat:Int)=x % 4294967296:=by
  obtain ⟨n,rfl⟩:=Int.eq_ofNat_of_zero_le h0
  have hn:n<2 ^ 64:=by omega
  have e2:(BitVec.ofInt 64 (n:Int) &&& BitVec.ofInt 64 4294967295).toNat=n % 4294967296:=by
   rw [BitVec.toNat_and]
   have e3:(BitVec.ofInt 64 (n:Int)).toNat=n:=by
    rw [BitVec.ofInt_natCast,BitVec.toNat_ofNat,Nat.mod_eq_of_lt hn]
   have e4:(BitVec.ofInt 64 4294967295).toNat=2 ^ 32-1:=by decide
   rw [e3,e4,Nat.and_two_pow_sub_one_eq_mod]
  show (((BitVec.ofInt 64 (n:Int) &&& BitVec.ofInt 64 4294967295).toNat:Nat):Int)=_
  rw [e2]; omega
 rw [e]; congr 2; omega
theorem parts {x y:Int} (hx:0≤x) (hx1:x<18446744073709551616) (hy:0≤y) (hy1:y<18446744073709551616) :
  ∃ a b c d:Int,a=x % 4294967296*(y % 4294967296)∧b=x / 4294967296*(y % 4294967296)∧c=x % 4294967296*(y / 4294967296)∧d=x / 4294967296*(y / 4294967296)∧0≤a∧a≤18446744065119617025∧0≤b∧b≤18446744065119617025∧0≤c∧c≤18446744065119617025∧0≤d∧d≤18446744065119617025∧x*y=d*18446744073709551616+(b+c)*4294967296+a:=by
 have bd : ∀ u v:Int,0≤u→u≤4294967295→0≤v→v≤4294967295→0≤u*v∧u*v≤18446744065119617025:=fun u v h1 h2 h3 h4 =>
  ⟨Int.mul_nonneg h1 h3,Int.le_trans (Int.mul_le_mul h2 h4 h3 (by decide)) (by decide)⟩
 have x0:0≤x % 4294967296∧x % 4294967296≤4294967295:=by omega
 have x1:0≤x / 4294967296∧x / 4294967296≤4294967295:=by omega
 have y0:0≤y % 4294967296∧y % 4294967296≤4294967295:=by omega
 have y1:0≤y / 4294967296∧y / 4294967296≤4294967295:=by omega
 refine ⟨_,_,_,_,rfl,rfl,rfl,rfl,(bd _ _ x0.1 x0.2 y0.1 y0.2).1,(bd _ _ x0.1 x0.2 y0.1 y0.2).2,(bd _ _ x1.1 x1.2 y0.1 y0.2).1,(bd _ _ x1.1 x1.2 y0.1 y0.2).2,(bd _ _ x0.1 x0.2 y1.1 y1.2).1,(bd _ _ x0.1 x0.2 y1.1 y1.2).2,(bd _ _ x1.1 x1.2 y1.1 y1.2).1,(bd _ _ x1.1 x1.2 y1.1 y1.2).2,?_⟩
 have ex:x=x / 4294967296*4294967296+x % 4294967296:=by omega
 have ey:y=y / 4294967296*4294967296+y % 4294967296:=by omega
 generalize x / 4294967296=p at *
 generalize x % 4294967296=q at *
 generalize y / 4294967296=r at *
 generalize y % 4294967296=s at *
 rw [ex,ey,Int.add_mul,Int.mul_add,Int.mul_add]
 have e1:p*4294967296*(r*4294967296)=p*r*18446744073709551616:=by
  rw [show (18446744073709551616:Int)=4294967296*4294967296 by decide,Int.mul_assoc,Int.mul_comm 4294967296 (r*4294967296),Int.mul_assoc r,← Int.mul_assoc p r]
 have e2:p*4294967296*s=p*s*4294967296:=by rw [Int.mul_assoc,Int.mul_comm 4294967296 s,← Int.mul_assoc]
 have e3:q*(r*4294967296)=q*r*4294967296:=by rw [← Int.mul_assoc]
 rw [e1,e2,e3,Int.add_mul]
 omega
theorem z5m (x y:Int) (hx:0≤x) (hx1:x<18446744073709551616) (hy:0≤y) (hy1:y<18446744073709551616):RUN T zlj [.v (.int .u64 x),.v (.int .u64 y)]=some ([.v (.int .u64 (x*y / 18446744073709551616)),.v (.int .u64 (x*y % 18446744073709551616))],[]):=by
 refine zaf yex rfl ?_
 obtain ⟨a,b,c,d,ea,eb,ec,ed,a0,a1,b0,b1,c0,c1,d0,d1,hp⟩:=parts hx hx1 hy hy1
 have f1:=z29 hx hx1
 have f2:=z29 hy hy1
 have g1:a % 18446744073709551616=a:=by omega
 have g2:b % 18446744073709551616=b:=by omega
 have g3:c % 18446744073709551616=c:=by omega
 have g4:d % 18446744073709551616=d:=by omega
 have g5:(b+a / 4294967296) % 18446744073709551616=b+a / 4294967296:=by omega
 have f3:=z29 (x:=b+a / 4294967296) (by omega) (by omega)
 have f4:=z29 (x:=a) (by omega) (by omega)
 simp [-yib,-ym3,-ygg,-ylr,-ylt,y6o,y2a,y2g,y3t,f1,f2,f3,f4,z2v,z2w,← ea,← eb,← ec,← ed,g1,g2,g3,g4,g5]
 omega
structure Wd where
 n:Bool
 h:Int
 l:Int
deriving DecidableEq
abbrev uv (x:Int):PV := .v (.int .u64 x)
def wd (w:Wd):List PV:=[bv w.n,uv w.h,uv w.l]
def wfU (w:Wd):Prop:=0≤w.h∧w.h<18446744073709551616∧0≤w.l∧w.l<18446744073709551616
def wok (w:Wd):Bool:=decide (w.h<9223372036854775808) && (!w.n || decide (0<w.h) || decide (0<w.l))
def mag (w:Wd):Int:=w.h*18446744073709551616+w.l
def mkW (n:Bool) (m:Int):Wd:=⟨n && decide (0<m),m / 18446744073709551616,m % 18446744073709551616⟩
def zca:Wd:=⟨false,0,0⟩
theorem z7g {n:Bool} {m:Int} (h0:0≤m) (h1:m<340282366920938463463374607431768211456):wfU (mkW n m):=by
 unfold wfU mkW; simp only; omega
theorem yis {n:Bool} {m:Int} (h0:0≤m):wok (mkW n m)=decide (m<170141183460469231731687303715884105728):=by
 unfold wok mkW
 simp only
 by_cases h:m<170141183460469231731687303715884105728
 ·have e:m / 18446744073709551616<9223372036854775808:=by omega
  rw [decide_eq_true h,decide_eq_true e]
  by_cases hz:0<m
  ·by_cases h2:0<m / 18446744073709551616
   ·simp [h2]
   ·have:0<m % 18446744073709551616:=by omega
    simp [this]
  ·simp [hz]
 ·have e : ¬ m / 18446744073709551616<9223372036854775808:=by omega
  rw [decide_eq_false h,decide_eq_false e]; rfl
theorem z5n (n:Int) (h:inI n):RUN T zli [iv n]=some ([uv n.natAbs],[]):=by
 refine zaf yew rfl ?_
 obtain ⟨h0,h1⟩:=h
 have e1:n<0→IntKind.i64.wrap (n+1)=n+1:=fun h=>w64 (by omega) (by omega)
 have e2:n<0→IntKind.i64.wrap (0-(n+1))=0-(n+1):=fun h=>w64 (by omega) (by omega)
 simp [z2t,z2u]
 refine zao (fun h => ?_) (fun h => ?_) <;> simp at h
 ·have e1:=e1 h
  have e2:=e2 h
  simp at e2
  simp [e1,e2,zkz]; omega
 ·simp [zkz]; omega
theorem zsk (w:Wd):RUN T zhq [.agg (wd w)]=some ([bv (wok w)],[]):=by
 refine zaf yev rfl ?_
 obtain ⟨n,h,l⟩:=w
 unfold wok
 by_cases h1:h<9223372036854775808
 ·cases n with
  | false=>simp [zn7,zn8,wd,h1]
  | true =>
   by_cases h2:0<h
   ·simp [zn7,zn8,wd,h1,h2]
   ·simp [zn7,zn8,wd,h1,h2]
 ·simp [zn7,zn8,wd,h1]
theorem zvc (w:Wd):RUN T zjp [.agg (wd w)]=some ([bv (decide (w.h=0) && decide (w.l=0))],[]):=by
 refine zaf yer rfl ?_
 by_cases h1:w.h=0
 ·simp [zu5,zu6,wd,h1]
 ·simp [zu5,zu6,wd,h1]
def zif (a b:Int):Int:=if a<b then -1 else if b<a then 1 else 0
def zl3 (a b:Wd):Int:=if zif a.h b.h=0 then zif a.l b.l else zif a.h b.h
theorem y2o {a b:Wd} (ha:wfU a) (hb:wfU b):zl3 a b=zif (mag a) (mag b):=by
 obtain ⟨_,_,_,_⟩:=ha
 obtain ⟨_,_,_,_⟩:=hb
 unfold zl3 zif mag
 split <;> split <;> split <;> (try split) <;> (try split) <;> omega
theorem z5o (a b:Wd):RUN T zlh [.agg (wd a),.agg (wd b)]=some ([iv (zl3 a b)],[]):=by
 refine zaf yes rfl ?_
 unfold zl3 zif
 by_cases h1:a.h<b.h
 ·simp [zlr,zls,wd,h1]
 ·by_cases h2:b.h<a.h
  ·have h3 : ¬ a.h=b.h:=by omega
   simp [zlr,zls,wd,h1,h2,h3]
  ·have h3:a.h=b.h:=by omega
   by_cases h4:a.l<b.l
   ·simp [zlr,zls,wd,h3,h4]
   ·by_cases h5:b.l<a.l
    ·simp [zlr,zls,wd,h3,h4,h5]
    ·simp [zlr,zls,wd,h3,h4,h5]
def zjb (a b:Int):Wd:=mkW (decide (a<0) != decide (b<0)) ((a.natAbs:Int)*b.natAbs)
theorem ztg {a:Int} (h:inI a):0≤(a.natAbs:Int)∧(a.natAbs:Int)≤9223372036854775808:=by
 obtain ⟨h0,h1⟩:=h; omega
theorem y3b {a b:Int} (ha:inI a) (hb:inI b):0≤(a.natAbs:Int)*b.natAbs∧(a.natAbs:Int)*b.natAbs≤85070591730234615865843651857942052864:=by
 obtain ⟨a0,a1⟩:=ztg ha
 obtain ⟨b0,b1⟩:=ztg hb
 exact ⟨Int.mul_nonneg a0 b0,Int.le_trans (Int.mul_le_mul a1 b1 b0 (by decide)) (by decide)⟩
theorem yxw (a b:Int) (ha:inI a) (hb:inI b):RUN T zrr [iv a,iv b]=some ([.agg (wd (zjb a b))],[]):=by
 refine zaf yeu rfl ?_
 obtain ⟨a0,a1⟩:=ztg ha
 obtain ⟨b0,b1⟩:=ztg hb
 have e1:=z5n a ha
 have e2:=z5n b hb
 have e3:=z5m a.natAbs b.natAbs a0 (by omega) b0 (by omega)
 have hpos:(0<(a.natAbs:Int)*b.natAbs)↔(a≠0∧b≠0):=by
  constructor
  ·intro h
   refine ⟨?_,?_⟩ <;> rintro rfl <;> simp at h
  ·rintro ⟨h1,h2⟩
   exact Int.mul_pos (by omega) (by omega)
 have e5:zjb a b=⟨((decide (a<0) != decide (b<0)) && !decide (a=0)) && !decide (b=0),(a.natAbs:Int)*b.natAbs / 18446744073709551616,(a.natAbs:Int)*b.natAbs % 18446744073709551616⟩:=by
  unfold zjb mkW
  congr 1
  rw [Bool.eq_iff_iff]; simp [hpos,and_assoc]
 rw [e5]
 by_cases sa:a<0 <;> by_cases sb:b<0 <;> rcases Classical.propComplete (a=0) with h0 | h0 <;> simp [z2r,z2s,e1,e2,e3,sa,sb,wd,h0]
def zg8 (w:Wd):Int:=if w.n then -mag w else mag w
def zeu (a b:Wd):Wd×Bool :=
 if wok a && wok b then
  if ((zg8 a+zg8 b).natAbs:Int)<170141183460469231731687303715884105728 then (mkW (decide (zg8 a+zg8 b<0)) (zg8 a+zg8 b).natAbs,true) else (zca,false)
 else (zca,false)
theorem y5u (a b:Wd):wfU (zeu a b).1:=by
 unfold zeu
 split
 ·split
  ·exact z7g (by omega) (by omega)
  ·exact ⟨by decide,by decide,by decide,by decide⟩
 ·exact ⟨by decide,by decide,by decide,by decide⟩
theorem zti {w:Wd} (h:wfU w) (hk:wok w=true):0≤mag w∧mag w<170141183460469231731687303715884105728∧(w.n=true→0<mag w):=by
 obtain ⟨h0,h1,h2,h3⟩:=h
 unfold wok at hk
 simp only [Bool.and_eq_true,Bool.or_eq_true,Bool.not_eq_true',decide_eq_true_eq] at hk
 unfold mag
 obtain ⟨k1,k2⟩:=hk
 refine ⟨by omega,by omega,fun hn => ?_⟩
 rw [hn] at k2
 rcases k2 with (k2 | k2) | k2
 ·cases k2
 ·omega
 ·omega
theorem y78 {a b:Wd} (ha:wfU a) (hb:wfU b) (ka:wok a=true) (kb:wok b=true) (hn:a.n=b.n):zeu a b=if mag a+mag b<170141183460469231731687303715884105728 then (mkW a.n (mag a+mag b),true) else (zca,false):=by
 obtain ⟨ma0,ma1,ma2⟩:=zti ha ka
 obtain ⟨mb0,mb1,mb2⟩:=zti hb kb
 unfold zeu zg8
 rw [ka,kb,← hn]
 simp only [Bool.and_self,if_true]
 cases h:a.n with
 | true =>
  have e1:(-mag a + -mag b).natAbs=mag a+mag b:=by omega
  have e2 : -mag a + -mag b<0:=by have:=ma2 h; omega
  simp only [if_true,e1,decide_eq_true e2]
 | false =>
  have e1:((mag a+mag b).natAbs:Int)=mag a+mag b:=by omega
  have e2 : ¬ mag a+mag b<0:=by omega
  simp only [Bool.false_eq_true,if_false,e1,decide_eq_false e2]
theorem y55 {a b:Wd} (ha:wfU a) (hb:wfU b) (ka:wok a=true) (kb:wok b=true) (hn : ¬ a.n=b.n):zeu a b=(mkW (if mag a<mag b then b.n else a.n) (if mag a<mag b then mag b-mag a else mag a-mag b),true):=by
 obtain ⟨ma0,ma1,ma2⟩:=zti ha ka
 obtain ⟨mb0,mb1,mb2⟩:=zti hb kb
 have gen : ∀ (n:Bool) (m:Int),((zg8 a+zg8 b).natAbs:Int)=m→m<170141183460469231731687303715884105728→(decide (zg8 a+zg8 b<0) && decide (0<m))=(n && decide (0<m))→zeu a b=(mkW n m,true):=by
  intro n m h1 h2 h3
  unfold zeu
  rw [ka,kb,h1]
  simp only [Bool.and_self,if_true,if_pos h2]
  unfold mkW
  rw [h3]
 unfold zg8 at gen
 cases h:a.n <;> cases h':b.n <;> simp only [h,h'] at gen hn ⊢
 ·exact (hn trivial).elim
 ·by_cases hl:mag a<mag b
  ·rw [if_pos hl,if_pos hl]
   exact gen _ _ (by simp; omega) (by omega) (by rw [Bool.eq_iff_iff]; simp; omega)
  ·rw [if_neg hl,if_neg hl]
   exact gen _ _ (by simp; omega) (by omega) (by rw [Bool.eq_iff_iff]; simp; omega)
 ·by_cases hl:mag a<mag b
  ·rw [if_pos hl,if_pos hl]
   exact gen _ _ (by simp; omega) (by omega) (by rw [Bool.eq_iff_iff]; simp; omega)
  ·rw [if_neg hl,if_neg hl]
   exact gen _ _ (by simp; omega) (by omega) (by rw [Bool.eq_iff_iff]; simp; omega)
 ·exact (hn trivial).elim
theorem yz1 (a b:Wd) (ha:wfU a) (hb:wfU b) (h:mag a+mag b<340282366920938463463374607431768211456) :
  IntKind.u64.wrap (a.l+b.l)=(mag a+mag b) % 18446744073709551616∧((mag a+mag b) % 18446744073709551616<a.l→IntKind.u64.wrap (IntKind.u64.wrap (a.h+b.h)+1)=(mag a+mag b) / 18446744073709551616)∧(¬ (mag a+mag b) % 18446744073709551616<a.l→IntKind.u64.wrap (a.h+b.h)=(mag a+mag b) / 18446744073709551616):=by
 obtain ⟨a0,a1,a2,a3⟩:=ha
 obtain ⟨b0,b1,b2,b3⟩:=hb
 unfold mag at *
 refine ⟨?_,fun h => ?_,fun h => ?_⟩ <;> simp only [zkz] at * <;> omega
theorem ykw (a b:Wd) (ha:wfU a) (hb:wfU b) (h:mag b≤mag a) :
  IntKind.u64.wrap (a.l-b.l)=(mag a-mag b) % 18446744073709551616∧(a.l<b.l→IntKind.u64.wrap (IntKind.u64.wrap (a.h-b.h)-1)=(mag a-mag b) / 18446744073709551616)∧(¬ a.l<b.l→IntKind.u64.wrap (a.h-b.h)=(mag a-mag b) / 18446744073709551616):=by
 obtain ⟨a0,a1,a2,a3⟩:=ha
 obtain ⟨b0,b1,b2,b3⟩:=hb
 unfold mag at *
 refine ⟨?_,fun h => ?_,fun h => ?_⟩ <;> simp only [zkz] at * <;> omega
theorem yxx (a b:Wd) (ha:wfU a) (hb:wfU b):RUN T zrq [.agg (wd a),.agg (wd b)]=some ([.agg (wd (zeu a b).1),bv (zeu a b).2],[]):=by
 refine zaf yeo rfl ?_
 have ea:=zsk a
 have eb:=zsk b
 cases ka:wok a with
 | false =>
  have es:zeu a b=(zca,false):=by unfold zeu; simp [ka]
  rw [es]; rw [ka] at ea
  simp only [wd] at ea
  simp [zfh,zfi,wd,ea,zca]
 | true =>
  cases kb:wok b with
  | false =>
   have es:zeu a b=(zca,false):=by unfold zeu; simp [kb]
   rw [es]; rw [ka] at ea; rw [kb] at eb
   simp only [wd] at ea eb
   simp [zfh,zfi,wd,ea,eb,zca]
  | true =>
   obtain ⟨ma0,ma1,ma2⟩:=zti ha ka
   obtain ⟨mb0,mb1,mb2⟩:=zti hb kb
   rw [ka] at ea; rw [kb] at eb
   by_cases hn:a.n=b.n
   ·obtain ⟨f1,f2,f3⟩:=yz1 a b ha hb (by omega)
    have f4:=zsk (mkW a.n (mag a+mag b))
    rw [yis (by omega)] at f4
    rw [y78 ha hb ka kb hn]
    have e6:mkW a.n (mag a+mag b)=⟨a.n,(mag a+mag b) / 18446744073709551616,(mag a+mag b) % 18446744073709551616⟩:=by
     unfold mkW
     congr 1
     cases h:a.n with
     | false=>rfl
     | true=>have:=ma2 h; simp; omega
    rw [e6] at f4 ⊢
    generalize hm:mag a+mag b=m at *
    generalize m / 18446744073709551616=hi at *
    generalize m % 18446744073709551616=lo at *
    simp only [wd] at ea eb f4 ⊢
    rw [hn] at ea f4
    by_cases hc:lo<a.l
    ·have f2:=f2 hc
     by_cases hk:m<170141183460469231731687303715884105728
     ·rw [decide_eq_true hk] at f4
      rw [if_pos hk]
      simp [zfh,zfi,ea,eb,hn,hc,f1,f2,f4]
     ·rw [decide_eq_false hk] at f4
      rw [if_neg hk]
      simp [zfh,zfi,ea,eb,hn,hc,f1,f2,f4,zca]
    ·have f3:=f3 hc
     by_cases hk:m<170141183460469231731687303715884105728
     ·rw [decide_eq_true hk] at f4
      rw [if_pos hk]
      simp [zfh,zfi,ea,eb,hn,hc,f1,f3,f4]
     ·rw [decide_eq_false hk] at f4
      rw [if_neg hk]
      simp [zfh,zfi,ea,eb,hn,hc,f1,f3,f4,zca]
   ·have ho:=z5o a b
    rw [y2o ha hb] at ho
    rw [y55 ha hb ka kb hn]
    have hnb:(a.n == b.n)=false:=by cases h:a.n <;> cases h':b.n <;> simp [h,h'] at hn ⊢
    by_cases hl:mag a<mag b
    ·obtain ⟨f1,f2,f3⟩:=ykw b a hb ha (by omega)
     have hz:=zvc ⟨b.n,(mag b-mag a) / 18446744073709551616,(mag b-mag a) % 18446744073709551616⟩
     have hs:zif (mag a) (mag b) = -1:=by unfold zif; rw [if_pos hl]
     rw [hs] at ho
     rw [if_pos hl,if_pos hl]
     have e6:mkW b.n (mag b-mag a)=⟨b.n,(mag b-mag a) / 18446744073709551616,(mag b-mag a) % 18446744073709551616⟩:=by
      unfold mkW
      congr 1
      rw [decide_eq_true (show 0<mag b-mag a by omega),Bool.and_true]
     have e7:(decide ((mag b-mag a) / 18446744073709551616=0) && decide ((mag b-mag a) % 18446744073709551616=0))=false:=by
      rw [Bool.eq_false_iff]; simp; omega
     simp only at hz
     rw [e7] at hz
     rw [e6]
     clear e6 e7
     generalize mag b-mag a=m at *
     generalize m / 18446744073709551616=hi at *
     generalize m % 18446744073709551616=lo at *
     simp only [wd] at ea eb ho hz ⊢
     by_cases hc:b.l<a.l
     ·have f2:=f2 hc
      simp [zfh,zfi,ea,eb,hnb,ho,hc,f1,f2,hz]
     ·have f3:=f3 hc
      simp [zfh,zfi,ea,eb,hnb,ho,hc,f1,f3,hz]
    ·obtain ⟨f1,f2,f3⟩:=ykw a b ha hb (by omega)
     have hz:=zvc ⟨a.n,(mag a-mag b) / 18446744073709551616,(mag a-mag b) % 18446744073709551616⟩
     have hs : ¬ zif (mag a) (mag b)<0:=by unfold zif; rw [if_neg hl]; split <;> omega
     rw [if_neg hl,if_neg hl]
     generalize zif (mag a) (mag b)=sg at *
     by_cases h0:mag a-mag b=0
     ·have e6:mkW a.n (mag a-mag b)=⟨false,(mag a-mag b) / 18446744073709551616,(mag a-mag b) % 18446744073709551616⟩:=by
       unfold mkW
       congr 1
       simp [h0]
      have e7:(decide ((mag a-mag b) / 18446744073709551616=0) && decide ((mag a-mag b) % 18446744073709551616=0))=true:=by
       simp; omega
      simp only at hz
      rw [e7] at hz
      rw [e6]
      clear e6 e7 h0
      generalize mag a-mag b=m at *
      generalize m / 18446744073709551616=hi at *
      generalize m % 18446744073709551616=lo at *
      simp only [wd] at ea eb ho hz ⊢
      by_cases hc:a.l<b.l
      ·have f2:=f2 hc
       simp [zfh,zfi,ea,eb,hnb,ho,hs,hc,f1,f2,hz]
      ·have f3:=f3 hc
       simp [zfh,zfi,ea,eb,hnb,ho,hs,hc,f1,f3,hz]
     ·have e6:mkW a.n (mag a-mag b)=⟨a.n,(mag a-mag b) / 18446744073709551616,(mag a-mag b) % 18446744073709551616⟩:=by
       unfold mkW
       congr 1
       rw [decide_eq_true (show 0<mag a-mag b by omega),Bool.and_true]
      have e7:(decide ((mag a-mag b) / 18446744073709551616=0) && decide ((mag a-mag b) % 18446744073709551616=0))=false:=by
       rw [Bool.eq_false_iff]; simp; omega
      simp only at hz
      rw [e7] at hz
      rw [e6]
      clear e6 e7 h0
      generalize mag a-mag b=m at *
      generalize m / 18446744073709551616=hi at *
      generalize m % 18446744073709551616=lo at *
      simp only [wd] at ea eb ho hz ⊢
      by_cases hc:a.l<b.l
      ·have f2:=f2 hc
       simp [zfh,zfi,ea,eb,hnb,ho,hs,hc,f1,f2,hz]
      ·have f3:=f3 hc
       simp [zfh,zfi,ea,eb,hnb,ho,hs,hc,f1,f3,hz]
theorem y6i {a b:Int} (ha:inI a) (hb:inI b):wfU (zjb a b):=by
 obtain ⟨m0,m1⟩:=y3b ha hb
 exact z7g m0 (by omega)
theorem yz3 {l:List Int} {i:Nat} {x:Int} (h:l[i]?=some x):l.drop i=x::l.drop (i+1):=by
 have hlt:i<l.length:=by
  rcases Nat.lt_or_ge i l.length with h' | h'
  ·exact h'
  ·rw [List.getElem?_eq_none (by omega)] at h; cases h
 rw [List.drop_eq_getElem_cons hlt]
 congr 1
 rw [List.getElem?_eq_getElem hlt] at h
 exact Option.some.inj h
def zev (w:Wd) (k:Int):Wd×Bool:=if wok w=true∧mag w*k.natAbs<170141183460469231731687303715884105728 then (mkW (w.n != decide (k<0)) (mag w*k.natAbs),true) else (zca,false)
theorem y4r (w:Wd) (k:Int) (hw:wfU w) (hk:inI k) : ∃ p q:Int,w.h*k.natAbs=p∧w.l*k.natAbs=q∧0≤p∧0≤q∧q≤170141183460469231722463931679029329920∧mag w*k.natAbs=p*18446744073709551616+q:=by
 obtain ⟨a0,a1,a2,a3⟩:=hw
 obtain ⟨k0,k1⟩:=ztg hk
 refine ⟨_,_,rfl,rfl,Int.mul_nonneg a0 k0,Int.mul_nonneg a2 k0,Int.le_trans (Int.mul_le_mul (show w.l≤18446744073709551615 by omega) k1 k0 (by decide)) (by decide),?_⟩
 unfold mag
 rw [Int.add_mul,Int.mul_assoc,Int.mul_comm 18446744073709551616,← Int.mul_assoc]
theorem y75 (w:Wd) (k:Int) (ka:wok w=true) (p q:Int) (p0:0≤p) (q0:0≤q) (q1:q≤170141183460469231722463931679029329920) (hP:mag w*k.natAbs=p*18446744073709551616+q) :
  (zev w k=(zca,false)∧(0<p / 18446744073709551616∨0<(p % 18446744073709551616+q / 18446744073709551616) / 18446744073709551616∨wok ⟨(w.n != decide (k<0)) && (decide (0<(p % 18446744073709551616+q / 18446744073709551616) % 18446744073709551616) || decide (0<q % 18446744073709551616)),(p % 18446744073709551616+q / 18446744073709551616) % 18446744073709551616,q % 18446744073709551616⟩=false)) ∨
  (zev w k=(⟨(w.n != decide (k<0)) && (decide (0<(p % 18446744073709551616+q / 18446744073709551616) % 18446744073709551616) || decide (0<q % 18446744073709551616)),(p % 18446744073709551616+q / 18446744073709551616) % 18446744073709551616,q % 18446744073709551616⟩,true)∧¬ 0<p / 18446744073709551616∧¬ 0<(p % 18446744073709551616+q / 18446744073709551616) / 18446744073709551616∧wok ⟨(w.n != decide (k<0)) && (decide (0<(p % 18446744073709551616+q / 18446744073709551616) % 18446744073709551616) || decide (0<q % 18446744073709551616)),(p % 18446744073709551616+q / 18446744073709551616) % 18446744073709551616,q % 18446744073709551616⟩=true):=by
 by_cases hk:p*18446744073709551616+q<170141183460469231731687303715884105728
 ·right
  have e:(⟨(w.n != decide (k<0)) && (decide (0<(p % 18446744073709551616+q / 18446744073709551616) % 18446744073709551616) || decide (0<q % 18446744073709551616)),(p % 18446744073709551616+q / 18446744073709551616) % 18446744073709551616,q % 18446744073709551616⟩:Wd)=mkW (w.n != decide (k<0)) (p*18446744073709551616+q):=by
   unfold mkW
   congr 1
   ·congr 1
    rw [Bool.eq_iff_iff]; simp; omega
   ·omega
   ·omega
  rw [e,yis (by omega)]
  refine ⟨?_,by omega,by omega,decide_eq_true hk⟩
  unfold zev
  rw [hP,if_pos ⟨ka,hk⟩]
 ·left
  refine ⟨?_,?_⟩
  ·unfold zev
   rw [hP,if_neg (fun h=>hk h.2)]
  ·by_cases h1:0<p / 18446744073709551616
   ·exact .inl h1
   ·by_cases h2:0<(p % 18446744073709551616+q / 18446744073709551616) / 18446744073709551616
    ·exact .inr (.inl h2)
    ·refine .inr (.inr ?_)
     unfold wok
     rw [decide_eq_false (show ¬ (p % 18446744073709551616+q / 18446744073709551616) % 18446744073709551616<9223372036854775808 by omega)]
     rfl
set_option maxHeartbeats 1000000 in
theorem yfb (w:Wd) (k:Int) (hw:wfU w) (hk:inI k):RUN T znh [.agg (wd w),iv k]=some ([.agg (wd (zev w k).1),bv (zev w k).2],[]):=by
 refine zaf yeq rfl ?_
 have ea:=zsk w
 cases ka:wok w with
 | false =>
  have es:zev w k=(zca,false):=by unfold zev; simp [ka]
  rw [es]; rw [ka] at ea
  simp only [wd] at ea
  simp [zht,zhu,wd,ea,zca]
 | true =>
  rw [ka] at ea
  obtain ⟨a0,a1,a2,a3⟩:=hw
  obtain ⟨k0,k1⟩:=ztg hk
  have e1:=z5n k hk
  have e2:=z5m w.h k.natAbs a0 a1 k0 (by omega)
  have e3:=z5m w.l k.natAbs a2 a3 k0 (by omega)
  obtain ⟨p,q,hp,hq,p0,q0,q1,hP⟩:=y4r w k ⟨a0,a1,a2,a3⟩ hk
  rw [hp] at e2
  rw [hq] at e3
  have e4:=zvc ⟨w.n != decide (k<0),(p % 18446744073709551616+q / 18446744073709551616) % 18446744073709551616,q % 18446744073709551616⟩
  have e5:(decide (0<(p % 18446744073709551616+q / 18446744073709551616) % 18446744073709551616) || decide (0<q % 18446744073709551616)) = !(decide ((p % 18446744073709551616+q / 18446744073709551616) % 18446744073709551616=0) && decide (q % 18446744073709551616=0)):=by
   rw [Bool.eq_iff_iff]; simp; omega
  have e6:=zsk ⟨(w.n != decide (k<0)) && (decide (0<(p % 18446744073709551616+q / 18446744073709551616) % 18446744073709551616) || decide (0<q % 18446744073709551616)),(p % 18446744073709551616+q / 18446744073709551616) % 18446744073709551616,q % 18446744073709551616⟩
  have e7:0<(p % 18446744073709551616+q / 18446744073709551616) / 18446744073709551616↔(p % 18446744073709551616+q / 18446744073709551616) % 18446744073709551616<p % 18446744073709551616:=by omega
  have e8:=zkz (p % 18446744073709551616+q / 18446744073709551616)
  have key:=y75 w k ka p q p0 q0 q1 hP
  rw [e7] at key
  rw [e5] at key e6
  clear e7 e5
  simp only at e4
  generalize (decide ((p % 18446744073709551616+q / 18446744073709551616) % 18446744073709551616=0) && decide (q % 18446744073709551616=0))=z at *
  generalize p / 18446744073709551616=P1 at *
  generalize p % 18446744073709551616=P2 at *
  generalize q / 18446744073709551616=Q1 at *
  generalize q % 18446744073709551616=Q2 at *
  generalize (P2+Q1) % 18446744073709551616=S2 at *
  generalize zev w k=r at *
  generalize hsn:((w.n != decide (k<0)) && !z)=sn at *
  generalize wok ⟨sn,S2,Q2⟩=o at *
  obtain ⟨wn,wh,wl⟩:=w
  simp only [wd] at ea e4 e6 ⊢
  simp only at e2 e3 hsn
  rcases key with ⟨rfl,c | c | rfl⟩ | ⟨rfl,c1,c2,rfl⟩
  ·cases wn <;> by_cases sb:k<0 <;> cases z <;> simp [sb] at e4 <;> simp [zht,zhu,ea,e1,e2,e3,e4,e8,sb,c,zca]
  ·by_cases c':0<P1
   ·cases wn <;> by_cases sb:k<0 <;> cases z <;> simp [sb] at e4 <;> simp [zht,zhu,ea,e1,e2,e3,e4,e8,sb,c',zca]
   ·cases wn <;> by_cases sb:k<0 <;> cases z <;> simp [sb] at e4 <;> simp [zht,zhu,ea,e1,e2,e3,e4,e8,sb,c',c,zca]
  ·by_cases c':0<P1
   ·cases wn <;> by_cases sb:k<0 <;> cases z <;> simp [sb] at e4 <;> simp [zht,zhu,ea,e1,e2,e3,e4,e8,sb,c',zca]
   ·by_cases c:S2<P2
    ·cases wn <;> by_cases sb:k<0 <;> cases z <;> simp [sb] at e4 <;> simp [zht,zhu,ea,e1,e2,e3,e4,e8,sb,c',c,zca]
    ·cases wn <;> by_cases sb:k<0 <;> cases z <;> simp [sb] at e4 hsn <;> subst hsn <;> simp [zht,zhu,ea,e1,e2,e3,e4,e6,e8,sb,c',c,zca]
  ·cases wn <;> by_cases sb:k<0 <;> cases z <;> simp [sb] at e4 hsn <;> subst hsn <;> simp [zht,zhu,ea,e1,e2,e3,e4,e6,e8,sb,c1,c2]
def z3a (w:Wd):Bool:=w.n && !(decide (w.h=0) && decide (w.l=0))
def z32 (a b:Wd):Int:=if z3a a=true then (if z3a b=true then zl3 b a else -1) else (if z3a b=true then 1 else zl3 a b)
theorem yxy (a b:Wd):RUN T zro [.agg (wd a),.agg (wd b)]=some ([iv (z32 a b)],[]):=by
 refine zaf yem rfl ?_
 have e1:=zvc a
 have e2:=zvc b
 have e3:=z5o a b
 have e4:=z5o b a
 unfold z32 z3a
 generalize zl3 a b=x at *
 generalize zl3 b a=y at *
 generalize (decide (a.h=0) && decide (a.l=0))=z at *
 generalize (decide (b.h=0) && decide (b.l=0))=z' at *
 obtain ⟨an,ah,al⟩:=a
 obtain ⟨bn,bh,bl⟩:=b
 simp only [wd] at e1 e2 e3 e4 ⊢
 cases an <;> cases bn <;> cases z <;> cases z' <;> simp [z2l,z2m,e1,e2,e3,e4]
theorem z8p : ∀ (M:Nat) (q:List Int),q.Nodup→(∀ y∈q,0≤y∧y<M)→q.length≤M
 | 0,q,_,h=>by
  cases q with
  | nil=>simp
  | cons x q=>have:=h x (by simp); omega
 | M+1,q,hn,h=>by
  by_cases hm:(M:Int)∈q
  ·have h1:=z8p M (q.erase M) (hn.erase _) (fun y hy=>by
    obtain ⟨h1,h2⟩:=(List.Nodup.mem_erase_iff hn).mp hy
    have:=h y h2
    omega)
   rw [List.length_erase_of_mem hm] at h1
   omega
  ·exact Nat.le_trans (z8p M q hn (fun y hy=>by
    have:=h y hy
    have:y≠M:=fun e=>hm (e ▸ hy)
    omega)) (by omega)
def z8u (u:List Nd):Prop := ∀ (j:Nat) (n:Nd),u[j]?=some n→n.f ≠ -1→1≤n.l∧n.l<u.length∧1≤n.r∧n.r<u.length∧n.l≠n.r∧∀ (j':Nat) (n':Nd),u[j']?=some n'→n'.f ≠ -1→(n.l=n'.l∨n.l=n'.r∨n.r=n'.l∨n.r=n'.r)→j=j'
structure QI (u:List Nd) (q:List Int) (i:Nat):Prop where
 nd:q.Nodup
 rg : ∀ y∈q,0≤y∧y<u.length
 up : ∀ y∈q,y=0∨∃ z∈q.take i,∃ n,u[z.toNat]?=some n∧n.f ≠ -1∧(y=n.l∨y=n.r)
theorem QI.skip {u:List Nd} {q:List Int} {i:Nat} (h:QI u q i):QI u q (i+1) :=
 ⟨h.nd,h.rg,fun y hy=>by
  rcases h.up y hy with h1 | ⟨z,hz,n,h2⟩
  ·exact .inl h1
  ·exact .inr ⟨z,(List.take_subset_take_left q (Nat.le_succ i)) hz,n,h2⟩⟩
theorem QI.step {u:List Nd} (hg:z8u u) {q:List Int} {i:Nat} (h:QI u q i) {z:Int} (hz:q[i]?=some z) {n:Nd} (hn:u[z.toNat]?=some n) (hf:n.f ≠ -1):QI u (q++[n.l,n.r]) (i+1):=by
 obtain ⟨g1,g2,g3,g4,g5,g6⟩:=hg _ _ hn hf
 have hlt:i<q.length:=by
  rcases Nat.lt_or_ge i q.length with h' | h'
  ·exact h'
  ·rw [List.getElem?_eq_none (by omega)] at hz; cases hz
 have hzr:=h.rg z (List.mem_of_getElem? hz)
 have hno:z ∉ q.take i:=by
  intro hm
  have hd:=h.nd
  rw [← List.take_append_drop i q,yz3 hz,List.nodup_append] at hd
  exact hd.2.2 z hm z (by simp) rfl
 have key : ∀ y∈q,(y=n.l∨y=n.r)→False:=by
  intro y hy hc
  rcases h.up y hy with h1 | ⟨z',hz',n',h2,h3,h4⟩
  ·omega
  ·have:=g6 _ _ h2 h3 (by rcases hc with c | c <;> rcases h4 with d | d <;> omega)
   have hz'r:=h.rg z' (List.mem_of_mem_take hz')
   have:z=z':=by omega
   exact hno (this ▸ hz')
 refine ⟨?_,?_,?_⟩
 ·rw [List.nodup_append]
  refine ⟨h.nd,by simp [g5],fun a ha b hb => ?_⟩
  rintro rfl
  simp at hb
  exact key a ha hb
 ·intro y hy
  rcases List.mem_append.mp hy with hy | hy
  ·exact h.rg y hy
  ·simp at hy; omega
 ·intro y hy
  rcases List.mem_append.mp hy with hy | hy
  ·rcases h.up y hy with h1 | ⟨z',hz',n',h2⟩
   ·exact .inl h1
   ·refine .inr ⟨z',?_,n',h2⟩
    rw [List.take_append_of_le_length (by omega)]
    exact (List.take_subset_take_left q (Nat.le_succ i)) hz'
  ·refine .inr ⟨z,?_,n,hn,hf,by simpa using hy⟩
   rw [List.take_append_of_le_length (by omega)]
   rw [List.take_succ,hz]; simp
theorem QI.len {u:List Nd} {q:List Int} {i:Nat} (h:QI u q i):q.length≤u.length:=z8p _ q h.nd h.rg
theorem zvi (l:List Nd) (x:Nd):l.map nd++[[iv x.f,iv x.c,iv x.l,iv x.r,iv x.v]]=(l++[x]).map nd:=by simp [nd]
theorem z6u {l:List Nd} {i:Nat} {x:Nd} (h:l[i]?=some x):(l.map nd)[i]?=some [iv x.f,iv x.c,iv x.l,iv x.r,iv x.v]:=by simp [h,nd]
def GL (N:Nat) (r:List PV×List PV):Prop := ∃ w:List Nd,w.length≤N∧r=([.agg [.own 5 (w.map nd)]],[])
set_option maxHeartbeats 1000000 in
theorem yxz (u:List Nd) (hg:z8u u) (h0:1≤u.length) (hl:u.length≤1000) : ∃ r,RUN T zre [.sl 5 (u.map nd)]=some r∧GL u.length r:=by
 refine zfe yd4 rfl ?_
 have hr8:zaj 8 1=true:=by decide
 simp [z1q,z1r,hr8]
 refine zas (fun n st => ∃ (i oq eq:Nat) (q:List Int) (w:List Nd) (x:PV) (nxt:Int),i+n=u.length∧w.length=i∧QI u q i∧i≤q.length∧1≤q.length∧st.V 0 = .sl 5 (u.map nd)∧st.V 2 = .ptr 0 none 0 0 0∧st.V 3 = .ptr 1 none 0 0 0∧st.V 4 = .ref oq none eq 0 q.length∧st.V 5=iv nxt∧st.V 6=iv i∧1<oq∧oq<st.nx∧st.S oq=some (.row 1 (zab q))∧((w=[]∧x = .e0)∨∃ ow ew,ow≠oq∧1<ow∧ow<st.nx∧x = .ref ow none ew 0 w.length∧st.S ow=some (.row 5 (w.map nd)))∧st.S 0=some (.box [.e0])∧st.S 1=some (.box [x])) ?_ u.length _ ⟨0,2,0,[0],[],.e0,1,by simp,rfl,⟨by simp,by simp; omega,by simp⟩,by simp,by simp,by simp,by simp,by simp,by simp,by simp,by simp,by simp,by simp,by simp [zab],.inl ⟨rfl,rfl⟩,by simp,by simp⟩
 rintro n st ⟨i,oq,eq,q,w,x,nxt,hi,hw,hq,hiq,hq1,v0,v2,v3,v4,v5,v6,ho,hox,hSo,hx,hS,hS1⟩
 have hlen:=hq.len
 simp [yad,v4,v6,hSo]
 obtain ⟨f1,f2,f3,f4⟩:=fr hox
 obtain ⟨g1,g2,g3,g4⟩:=fr (show 0<oq by omega)
 obtain ⟨z1,z2,z3,z4⟩:=fr (show 0<st.nx by omega)
 obtain ⟨y1,y2,y3,y4⟩:=fr (show 1<oq by omega)
 obtain ⟨x1,x2,x3,x4⟩:=fr (show 1<st.nx by omega)
 refine zao (fun h => ?_) (fun h => ?_)
 ·simp at h
  obtain ⟨z,hz⟩ : ∃ z,q[i]?=some z:=⟨_,List.getElem?_eq_getElem h⟩
  obtain ⟨hz0,hz1⟩:=hq.rg z (List.mem_of_getElem? hz)
  obtain ⟨zn,rfl⟩ : ∃ k:Nat,z=k:=⟨z.toNat,by omega⟩
  obtain ⟨m,hm⟩ : ∃ m,u[zn]?=some m:=⟨_,List.getElem?_eq_getElem (by omega)⟩
  have hz':=za7 hz
  have hm':=z6u hm
  have hws:=wS h (by omega:q.length≤9223372036854775807)
  have hr1:=zcb (n:=q.length+2) (by omega)
  have hr2:zaj 40 (w.length+1)=true:=by simp [zaj]; omega
  have hr3:zaj 40 1=true:=by decide
  have hQ:m.f ≠ -1→QI u (q++[m.l,m.r]) (i+1):=fun hf=>hq.step hg hz (by simpa using hm) hf
  have hints:zab q++[[iv m.l],[iv m.r]]=zab (q++[m.l,m.r]):=by simp [zab]
  have hn1:=zvi w m
  have hn2:=zvi w ⟨m.f,m.c,nxt,IntKind.i64.wrap (nxt+1),m.v⟩
  simp only at hn2
  rcases Classical.propComplete (m.f = -1) with hf | hf
  ·rcases hx with ⟨rfl,rfl⟩ | ⟨ow,ew,how,ho1,ho2,rfl,hSw⟩
   ·simp [-getElem?_pos,v0,v2,v3,v4,v5,v6,hS,hS1,hSo,hz',hm',hf,hws,h,hr3,f1,f2,f3,f4,g1,g2,g3,g4,z1,z2,z3,z4,y1,y2,y3,y4,x1,x2,x3,x4]
    refine zal (n-1) (by omega) ⟨i+1,oq,eq,q,[m],_,nxt,by omega,by simp at hw; simp; omega,hq.skip,by omega,by omega,by simp [v0],by simp [v2],by simp [v3],by simp [v4],by simp [v5],by simp,ho,by simp; omega,by simp [f1,f2,f3,f4,g1,g2,g3,g4,z1,z2,z3,z4,y1,y2,y3,y4,x1,x2,x3,x4,hSo],.inr ⟨st.nx+2,st.ep,by omega,by omega,by simp,rfl,by simp [nd]⟩,by simp [f1,f2,f3,f4,g1,g2,g3,g4,z1,z2,z3,z4,y1,y2,y3,y4,x1,x2,x3,x4,hS],by simp⟩
   ·obtain ⟨b1,b2,b3,b4⟩:=fr ho2
    obtain ⟨c1,c2,c3,c4⟩:=fr ho1
    obtain ⟨d1,d2,d3,d4⟩:=fr (show 0<ow by omega)
    have k1:(ow=oq)=False:=eq_false how
    have k2:(oq=ow)=False:=eq_false (fun e=>how e.symm)
    obtain ⟨_,_,k3,k4⟩:=fr (show ow<st.nx+1 by omega)
    obtain ⟨_,_,k5,k6⟩:=fr (show ow<st.nx+2 by omega)
    simp [-getElem?_pos,v0,v2,v3,v4,v5,v6,hS,hS1,hSo,hSw,hz',hm',hf,hws,h,hr2,hn1,f1,f2,f3,f4,g1,g2,g3,g4,z1,z2,z3,z4,y1,y2,y3,y4,x1,x2,x3,x4,b1,b2,b3,b4,c1,c2,c3,c4,d1,d2,d3,d4,k1,k2,k3,k4,k5,k6]
    refine zal (n-1) (by omega) ⟨i+1,oq,eq,q,w++[m],_,nxt,by omega,by simp; omega,hq.skip,by omega,by omega,by simp [v0],by simp [v2],by simp [v3],by simp [v4],by simp [v5],by simp,ho,by simp; omega,by simp [f1,f2,f3,f4,g1,g2,g3,g4,z1,z2,z3,z4,y1,y2,y3,y4,x1,x2,x3,x4,b1,b2,b3,b4,c1,c2,c3,c4,d1,d2,d3,d4,k1,k2,k3,k4,k5,k6,hSo],.inr ⟨st.nx+2,st.ep,by omega,by omega,by simp,by simp; rfl,by simp⟩,by simp [f1,f2,f3,f4,g1,g2,g3,g4,z1,z2,z3,z4,y1,y2,y3,y4,x1,x2,x3,x4,b1,b2,b3,b4,c1,c2,c3,c4,d1,d2,d3,d4,k1,k2,k3,k4,k5,k6,hS],by simp⟩
  ·have hQ:=hQ (by rw [ne_eq,hf]; exact id)
   rcases hx with ⟨rfl,rfl⟩ | ⟨ow,ew,how,ho1,ho2,rfl,hSw⟩
   ·simp [-getElem?_pos,v0,v2,v3,v4,v5,v6,hS,hS1,hSo,hz',hm',hf,hws,h,hr1,hr3,hints,f1,f2,f3,f4,g1,g2,g3,g4,z1,z2,z3,z4,y1,y2,y3,y4,x1,x2,x3,x4]
    refine zal (n-1) (by omega) ⟨i+1,st.nx+2,st.ep,q++[m.l,m.r],[⟨m.f,m.c,nxt,IntKind.i64.wrap (nxt+1),m.v⟩],_,_,by omega,by simp at hw; simp; omega,hQ,by simp; omega,by simp,by simp [v0],by simp [v2],by simp [v3],by simp,by simp; rfl,by simp,by omega,by simp,by simp [f1,f2,f3,f4,g1,g2,g3,g4,z1,z2,z3,z4,y1,y2,y3,y4,x1,x2,x3,x4],.inr ⟨st.nx+2+2,st.ep,by omega,by omega,by simp,rfl,by simp [nd]⟩,by simp [f1,f2,f3,f4,g1,g2,g3,g4,z1,z2,z3,z4,y1,y2,y3,y4,x1,x2,x3,x4,hS],by simp⟩
   ·obtain ⟨b1,b2,b3,b4⟩:=fr ho2
    obtain ⟨c1,c2,c3,c4⟩:=fr ho1
    obtain ⟨d1,d2,d3,d4⟩:=fr (show 0<ow by omega)
    have k1:(ow=oq)=False:=eq_false how
    have k2:(oq=ow)=False:=eq_false (fun e=>how e.symm)
    obtain ⟨_,_,k3,k4⟩:=fr (show ow<st.nx+1 by omega)
    obtain ⟨_,_,k5,k6⟩:=fr (show ow<st.nx+2 by omega)
    simp [-getElem?_pos,v0,v2,v3,v4,v5,v6,hS,hS1,hSo,hSw,hz',hm',hf,hws,h,hr1,hr2,hints,hn2,f1,f2,f3,f4,g1,g2,g3,g4,z1,z2,z3,z4,y1,y2,y3,y4,x1,x2,x3,x4,b1,b2,b3,b4,c1,c2,c3,c4,d1,d2,d3,d4,k1,k2,k3,k4,k5,k6]
    refine zal (n-1) (by omega) ⟨i+1,st.nx+2,st.ep,q++[m.l,m.r],w++[⟨m.f,m.c,nxt,IntKind.i64.wrap (nxt+1),m.v⟩],_,_,by omega,by simp; omega,hQ,by simp; omega,by simp,by simp [v0],by simp [v2],by simp [v3],by simp,by simp; rfl,by simp,by omega,by simp,by simp [f1,f2,f3,f4,g1,g2,g3,g4,z1,z2,z3,z4,y1,y2,y3,y4,x1,x2,x3,x4,b1,b2,b3,b4,c1,c2,c3,c4,d1,d2,d3,d4,k1,k2,k3,k4,k5,k6],.inr ⟨st.nx+2+2,st.ep,by omega,by omega,by simp,by simp; rfl,by simp⟩,by simp [f1,f2,f3,f4,g1,g2,g3,g4,z1,z2,z3,z4,y1,y2,y3,y4,x1,x2,x3,x4,b1,b2,b3,b4,c1,c2,c3,c4,d1,d2,d3,d4,k1,k2,k3,k4,k5,k6,hS],by simp⟩
 ·simp at h
  have e1:i=q.length:=by omega
  rcases hx with ⟨rfl,rfl⟩ | ⟨ow,ew,how,ho1,ho2,rfl,hSw⟩
  ·simp at hw; omega
  ·obtain ⟨b1,b2,b3,b4⟩:=fr ho2
   obtain ⟨c1,c2,c3,c4⟩:=fr ho1
   obtain ⟨d1,d2,d3,d4⟩:=fr (show 0<ow by omega)
   simp [-getElem?_pos,v2,v3,hS,hS1,hSw,b1,b2,b3,b4,c1,c2,c3,c4,d1,d2,d3,d4]
   exact ⟨w,by omega,rfl⟩
def ziz (t:List Nd) (k:Nat) (f c a b:Int):List Nd:=t.set k ⟨f,c,t.length,t.length+1,0⟩++[⟨-1,0,0,0,a⟩,⟨-1,0,0,0,b⟩]
theorem z27 {t:List Nd} {k:Nat} {f c a b:Int}:(ziz t k f c a b).length=t.length+2:=by simp [ziz]
theorem z8j {t:List Nd} {F:Int} (hs:Shaped t F) {k:Nat} (hk:k<t.length) {f c a b:Int} {j:Nat} {n:Nd} (h:(ziz t k f c a b)[j]?=some n) (hf:n.f ≠ -1):(j≠k∧j<t.length∧t[j]?=some n∧z8l F n j 1 t.length)∨(j=k∧n.l=t.length∧n.r=t.length+1):=by
 unfold ziz at h
 rcases Nat.lt_or_ge j t.length with hj | hj
 ·rw [List.getElem?_append_left (by simpa using hj),List.getElem?_set] at h
  by_cases e:k=j
  ·subst e
   rw [if_pos rfl,if_pos hk] at h
   cases h
   exact .inr ⟨rfl,rfl,rfl⟩
  ·rw [if_neg e] at h
   exact .inl ⟨fun e'=>e e'.symm,hj,h,hs.inner j n h hf⟩
 ·rw [List.getElem?_append_right (by simpa using hj)] at h
  simp only [List.length_set] at h
  have:j-t.length=0∨j-t.length=1∨2≤j-t.length:=by omega
  rcases this with e | e | e
  ·rw [e] at h; simp at h; subst h; exact (hf rfl).elim
  ·rw [e] at h; simp at h; subst h; exact (hf rfl).elim
  ·rw [List.getElem?_eq_none (by simpa using e)] at h; cases h
theorem y3o {t:List Nd} {F:Int} (hs:Shaped t F) {k:Nat} (hk:k<t.length) {f c a b:Int}:z8u (ziz t k f c a b):=by
 intro j n h hf
 rw [z27]
 rcases z8j hs hk h hf with ⟨e,hj,ht,hi⟩ | ⟨rfl,hl,hr⟩
 ·have i1:=hi.lo
  have i2:=hi.r
  have i3:=hi.hi
  refine ⟨by omega,by push_cast; omega,by omega,by push_cast; omega,by omega,fun j' n' h' hf' hc => ?_⟩
  rcases z8j hs hk h' hf' with ⟨e',hj',ht',hi'⟩ | ⟨rfl,hl',hr'⟩
  ·have i1':=hi'.r
   rcases Nat.lt_trichotomy j j' with c | c | c
   ·have:=hs.ord j j' n n' c ht ht' hf hf'; omega
   ·exact c
   ·have:=hs.ord j' j n' n c ht' ht hf' hf; omega
  ·omega
 ·refine ⟨by omega,by push_cast; omega,by omega,by push_cast; omega,by omega,fun j' n' h' hf' hc => ?_⟩
  rcases z8j hs hk h' hf' with ⟨e',hj',ht',hi'⟩ | ⟨rfl,hl',hr'⟩
  ·have i2:=hi'.r
   have i3:=hi'.hi
   omega
  ·rfl
theorem ykt (l:List Nd):zb5 (l.map nd)=true:=by simp [zb5,nd]
set_option maxHeartbeats 1000000 in
theorem yx0 (t:List Nd) (F:Int) (hs:Shaped t F) (hl:t.length≤31) (k:Nat) (hk:k<t.length) (f c l r v a b:Int) : ∃ r',RUN T zq3 [.agg [.sl 5 (t.map nd)],iv k,.agg [iv f,iv c,iv l,iv r,iv v],iv a,iv b]=some r'∧GL (t.length+2) r':=by
 refine zfe ydm rfl ?_
 have h1:=hs.pos
 obtain ⟨rr,hr,w,hw,rfl⟩:=yxz (ziz t k f c a b) (y3o hs hk) (by rw [z27]; omega) (by rw [z27]; omega)
 rw [z27] at hw
 have hw1:=w64 (x:=(t.length:Int)+1) (by omega) (by omega)
 have hr1:zaj 40 t.length=true:=by simp [zaj]; omega
 have hr2:zaj 40 (t.length+2)=true:=by simp [zaj]; omega
 have hr3:zaj 40 2=true:=by decide
 have hr0:zaj 40 0=true:=by decide
 have hg:(t.map nd).set k [iv f,iv c,iv t.length,iv (t.length+1),iv 0]++[[iv (-1),iv 0,iv 0,iv 0,iv a],[iv (-1),iv 0,iv 0,iv 0,iv b]]=(ziz t k f c a b).map nd:=by
  unfold ziz
  rw [List.map_append,List.map_set]
  rfl
 obtain ⟨x,hx⟩ : ∃ x,t[k]?=some x:=⟨_,List.getElem?_eq_getElem hk⟩
 have hnd : ∀ y:Nd,(nd y).length=5:=fun y=>rfl
 have hnx : ∀ y:Nd,nd y=[iv y.f,iv y.c,iv y.l,iv y.r,iv y.v]:=fun y=>rfl
 have hset : ∀ y:List PV,((t.map nd).set k y).length=t.length:=by simp
 simp [-getElem?_pos,z0x,z0y,hk,hw1,hr0,hr1,hr2,hr3,hg,hr,hset,ykt,hx,hnd,hnx]
 exact ⟨w,hw,rfl⟩
def PT (N:Nat) (v:PV):Prop := ∃ t:List Nd,v = .agg [.own 5 (t.map nd)]∧t.length≤N
def PT1 (N:Nat) (v:PV):Prop := ∃ t:List Nd,v = .agg [.own 5 (t.map nd)]∧1≤t.length∧t.length≤N
theorem yjd : ∀ (t:List Nd) (i y:Int),y∈lvs t i→i≤y∧y<i+t.length
 | [],i,y,h=>by simp [lvs] at h
 | x::xs,i,y,h=>by
  simp only [lvs] at h
  have ih:=fun h=>yjd xs (i+1) y h
  simp only [List.length_cons]
  split at h
  ·rcases List.mem_cons.mp h with h | h
   ·omega
   ·have:=ih h; omega
  ·have:=ih h; omega
theorem ygy : ∀ (t:List Nd) (i:Int) (j:Nat) (x:Nd),t[j]?=some x→x.f = -1→0<(lvs t i).length
 | [],_,_,_,h,_=>by simp at h
 | y::ys,i,j,x,h,hf=>by
  simp only [lvs]
  split
  ·simp
  ·rename_i hy
   cases j with
   | zero=>simp at h; subst h; exact (hy hf).elim
   | succ j=>exact ygy ys (i+1) j x (by simpa using h) hf
theorem Shaped.leaves {t:List Nd} {F:Int} (h:Shaped t F):0<(lvs t 0).length:=by
 have hp:=h.pos
 have hx:=List.getElem?_eq_getElem (l:=t) (show t.length-1<t.length by omega)
 generalize t[t.length-1]'(by omega)=x at hx
 by_cases hf:x.f = -1
 ·exact ygy t 0 _ x hx hf
 ·have h1:=h.inner _ x hx hf
  have:=h1.lt
  have:=h1.r
  have:=h1.hi
  omega
theorem y0s {v:Int} (F:Int) (h:zef v=true):Shaped [zvs v] F:=by
 refine ⟨fun j x hx hf => ?_,fun j x hx hf => ?_,fun j j' x y hj hx hy hf => ?_,fun k h1 h2 => ?_,by simp⟩
 ·cases j with
  | zero=>simp at hx; subst hx; exact ⟨rfl,rfl,rfl,h⟩
  | succ j=>simp at hx
 ·cases j with
  | zero=>simp at hx; subst hx; exact (hf rfl).elim
  | succ j=>simp at hx
 ·cases j with
  | zero=>simp at hx; subst hx; exact (hf rfl).elim
  | succ j=>simp at hx
 ·simp at h2; omega
set_option maxHeartbeats 2000000 in
theorem yx1 (B:List Int) (p:Nat) (s:Int) (hp:p≤B.length) (hB:B.length≤9223372036854775807) (F:Int) (hF:F≤9223372036854775807) : ∃ r,RUN T zqe [.bx [.sl 1 (zbl B),iv p,iv s],iv F]=some r∧zfl B (PT1 31) r:=by
 refine zfe ycc rfl ?_
 obtain ⟨r1,h1,v1,p1,s1,⟨a1,rfl,a10,a11⟩,hp1,rfl⟩:=zbf B p s hp hB 21 (by omega)
 have a12:=a11 (by omega)
 have w1:=w64 (x:=a1-10) (by omega) (by omega)
 have w2:=w64 (x:=50*(a1-10)) (by omega) (by omega)
 have h2:=yxc (50*(a1-10))
 obtain ⟨r3,h3,v3,p3,s3,⟨a3,rfl,a30,a31⟩,hp3,rfl⟩:=zbf B p1 s1 hp1 hB 6 (by omega)
 have a32:=a31 (by omega)
 obtain ⟨kn,rfl⟩ : ∃ n:Nat,a3=n:=⟨a3.toNat,by omega⟩
 have hsh:Shaped [zvs (50*(a1-10))] F:=y0s F (za2.mpr (by omega))
 generalize hlv:50*(a1-10)=lv at *
 simp [-getElem?_pos,zyy,zyz,h1,w1,w2,hlv,h2,h3]
 refine zas (fun n st => ∃ (i p ot et:Nat) (s:Int) (t:List Nd),i+n=kn∧p≤B.length∧Shaped t F∧t.length≤31∧st.V 0 = .ptr 0 none 0 0 0∧st.V 1=iv F∧st.V 4 = .ptr 1 none 0 0 0∧st.V 5 = .ptr 3 none 0 0 0∧st.V 6=iv kn∧st.V 7=iv i∧1<ot∧ot≠3∧ot<st.nx∧3<st.nx∧st.S 0=some (.box [.sl 1 (zbl B),iv p,iv s])∧st.S 1=some (.box [.e0])∧st.S 3=some (.box [.ref ot none et 0 t.length])∧st.S ot=some (.row 5 (t.map nd))) ?_ kn _ ⟨0,p3,2,0,s3,[zvs lv],by simp,hp3,hsh,by simp,by simp,by simp,by simp,by simp,by simp,by simp,by simp,by simp,by simp,by simp,by simp,by simp,by simp,by simp⟩
 clear h1 h2 h3 hsh
 rintro n st ⟨i,p,ot,et,s,t,hi,hp,hsh,hl,v0,v1,v4,v5,v6,v7,ho,ho3,hox,hnx,hS,hS1,hS3,hSo⟩
 obtain ⟨f1,f2,f3,f4⟩:=fr hox
 obtain ⟨g1,g2,g3,g4⟩:=fr (show 0<ot by omega)
 obtain ⟨z1,z2,z3,z4⟩:=fr (show 0<st.nx by omega)
 obtain ⟨y1,y2,y3,y4⟩:=fr (show 1<ot by omega)
 obtain ⟨x1,x2,x3,x4⟩:=fr (show 1<st.nx by omega)
 obtain ⟨u1,u2,u3,u4⟩:=fr (show 3<st.nx by omega)
 have k1:(ot=3)=False:=eq_false ho3
 have k2:(3=ot)=False:=eq_false (fun e=>ho3 e.symm)
 simp [z9r,v6,v7]
 refine zao (fun h => ?_) (fun h => ?_)
 ·simp at h
  have hw:=w64 (x:=(i:Int)+1) (by omega) (by omega)
  have e1:=ywm t (by omega)
  have hlv:=hsh.leaves
  have hll:=z70 t 0
  obtain ⟨r2,e2,v2,p2,s2,⟨a2,rfl,a20,a21⟩,hp2,rfl⟩:=zbf B p s hp hB (lvs t 0).length (by omega)
  obtain ⟨j,rfl⟩ : ∃ n:Nat,a2=n:=⟨a2.toNat,by omega⟩
  have hj:j<(lvs t 0).length:=by have:=a21 (by omega); omega
  obtain ⟨y,hy⟩ : ∃ y,(lvs t 0)[j]?=some y:=⟨_,List.getElem?_eq_getElem hj⟩
  have hy':=za7 hy
  obtain ⟨b0,b1⟩:=yjd t 0 y (List.mem_of_getElem? hy)
  obtain ⟨k,rfl⟩ : ∃ n:Nat,y=n:=⟨y.toNat,by omega⟩
  obtain ⟨r3,e3,v3,p3,s3,⟨a3,rfl,a30,a31⟩,hp3,rfl⟩:=zbf B p2 s2 hp2 hB F hF
  obtain ⟨r4,e4,v4',p4,s4,⟨a4,rfl,a40,a41⟩,hp4,rfl⟩:=zbf B p3 s3 hp3 hB 9 (by omega)
  obtain ⟨r5,e5,v5',p5,s5,⟨a5,rfl,a50,a51⟩,hp5,rfl⟩:=zbf B p4 s4 hp4 hB 2001 (by omega)
  obtain ⟨r6,e6,v6',p6,s6,⟨a6,rfl,a60,a61⟩,hp6,rfl⟩:=zbf B p5 s5 hp5 hB 2001 (by omega)
  have a42:=a41 (by omega)
  have a52:=a51 (by omega)
  have a62:=a61 (by omega)
  have w4:=w64 (x:=a4-4) (by omega) (by omega)
  have w4':=w64 (x:=500*(a4-4)) (by omega) (by omega)
  have w5:=w64 (x:=a5-1000) (by omega) (by omega)
  have w6:=w64 (x:=a6-1000) (by omega) (by omega)
  obtain ⟨r7,e7,w,hw7,rfl⟩:=yx0 t F hsh hl k (by omega) a3 (500*(a4-4)) 0 0 0 (a5-1000) (a6-1000)
  have e8:=ye1 w F (by omega)
  cases hb:zcq w F with
  | true =>
   rw [hb] at e8
   simp [-getElem?_pos,v0,v1,v4,v5,v6,v7,hS,hS1,hS3,hSo,e1,e2,hy',hj,e3,e4,e5,e6,w4,w4',w5,w6,e7,e8,hw,f1,f2,f3,f4,g1,g2,g3,g4,z1,z2,z3,z4,y1,y2,y3,y4,x1,x2,x3,x4,u1,u2,u3,u4,k1,k2]
   unfold zcq at hb
   simp only [Bool.and_eq_true] at hb
   have hwl:=za2.mp hb.1.1.1.2
   exact zal (n-1) (by omega) ⟨i+1,p6,st.nx+1,st.ep,s6,w,by omega,hp6,z4s hb.1.1.2,by omega,by simp [v0],by simp [v1],by simp [v4],by simp [v5],by simp [v6],by simp,by omega,by omega,by simp,by simp; omega,by simp [f1,f2,f3,f4,g1,g2,g3,g4,z1,z2,z3,z4,y1,y2,y3,y4,x1,x2,x3,x4,u1,u2,u3,u4,k1,k2],by simp [f1,f2,f3,f4,g1,g2,g3,g4,z1,z2,z3,z4,y1,y2,y3,y4,x1,x2,x3,x4,u1,u2,u3,u4,k1,k2,hS1],by simp,by simp [f1,f2,f3,f4,g1,g2,g3,g4,z1,z2,z3,z4,y1,y2,y3,y4,x1,x2,x3,x4,u1,u2,u3,u4,k1,k2]⟩
  | false =>
   rw [hb] at e8
   simp [-getElem?_pos,v0,v1,v4,v5,v6,v7,hS,hS1,hS3,hSo,e1,e2,hy',hj,e3,e4,e5,e6,w4,w4',w5,w6,e7,e8,hw,f1,f2,f3,f4,g1,g2,g3,g4,z1,z2,z3,z4,y1,y2,y3,y4,x1,x2,x3,x4,u1,u2,u3,u4,k1,k2]
   exact zal (n-1) (by omega) ⟨i+1,p6,ot,et,s6,t,by omega,hp6,hsh,hl,by simp [v0],by simp [v1],by simp [v4],by simp [v5],by simp [v6],by simp,ho,ho3,by simp; omega,by simp; omega,by simp [f1,f2,f3,f4,g1,g2,g3,g4,z1,z2,z3,z4,y1,y2,y3,y4,x1,x2,x3,x4,u1,u2,u3,u4,k1,k2],by simp [f1,f2,f3,f4,g1,g2,g3,g4,z1,z2,z3,z4,y1,y2,y3,y4,x1,x2,x3,x4,u1,u2,u3,u4,k1,k2,hS1],by simp [f1,f2,f3,f4,g1,g2,g3,g4,z1,z2,z3,z4,y1,y2,y3,y4,x1,x2,x3,x4,u1,u2,u3,u4,k1,k2,hS3],by simp [f1,f2,f3,f4,g1,g2,g3,g4,z1,z2,z3,z4,y1,y2,y3,y4,x1,x2,x3,x4,u1,u2,u3,u4,k1,k2,hSo]⟩
 ·simp at h
  have ho1:1≤ot:=by omega
  simp [-getElem?_pos,v0,v4,v5,ho1,hS,hS1,hS3,hSo,f1,f2,f3,f4,g1,g2,g3,g4,z1,z2,z3,z4,y1,y2,y3,y4,x1,x2,x3,x4,u1,u2,u3,u4,k1,k2]
  exact ⟨_,p,s,⟨t,rfl,hsh.pos,hl⟩,hp,rfl⟩
theorem zs5 (t:List Nd) (k:Nat) (f c l r v:Int):(t.map nd).set k [iv f,iv c,iv l,iv r,iv v]=(t.set k ⟨f,c,l,r,v⟩).map nd:=by
 rw [List.map_set]; rfl
set_option maxHeartbeats 2000000 in
theorem yx2 (B:List Int) (p:Nat) (s:Int) (hp:p≤B.length) (hB:B.length≤9223372036854775807) : ∃ r,RUN T zpl [.bx [.sl 1 (zbl B),iv p,iv s]]=some r∧zfl B (PT 32) r:=by
 refine zfe ya4 rfl ?_
 obtain ⟨r1,h1,v1,p1,s1,⟨a1,rfl,a10,a11⟩,hp1,rfl⟩:=zbf B p s hp hB 3 (by omega)
 have a12:=a11 (by omega)
 have w1:=w64 (x:=1+a1) (by omega) (by omega)
 obtain ⟨r2,h2,v2,p2,s2,⟨t,rfl,ht1,ht⟩,hp2,rfl⟩:=yx1 B p1 s1 hp1 hB (1+a1) (by omega)
 obtain ⟨r3,h3,v3,p3,s3,⟨a3,rfl,a30,a31⟩,hp3,rfl⟩:=zbf B p2 s2 hp2 hB t.length (by omega)
 have a32:=a31 (by omega)
 obtain ⟨k,rfl⟩ : ∃ n:Nat,a3=n:=⟨a3.toNat,by omega⟩
 have hk:k<t.length:=by omega
 obtain ⟨r4,h4,v4,p4,s4,⟨a4,rfl,a40,a41⟩,hp4,rfl⟩:=zbf B p3 s3 hp3 hB 14 (by omega)
 obtain ⟨x,hx⟩ : ∃ x,t[k]?=some x:=⟨_,List.getElem?_eq_getElem hk⟩
 have hnd : ∀ y:Nd,nd y=[iv y.f,iv y.c,iv y.l,iv y.r,iv y.v]:=fun y=>rfl
 have hr5:zaj 8 5=true:=by decide
 have hr6:zaj 8 6=true:=by decide
 have hr1:zaj 40 1=true:=by decide
 have hrt:zaj 40 (t.length+1)=true:=by simp [zaj]; omega
 by_cases c0:a4=0
 ·obtain ⟨r5,h5,v5,p5,s5,⟨y,rfl,hy⟩,hp5,rfl⟩:=zfk B p4 s4 hp4 hB [-1,0,1,4,-2,9223372036854775807] (by simp)
  simp only [zab,List.map] at h5
  simp [-getElem?_pos,zhr,zhs,h1,w1,h2,h3,h4,c0,h5,hr5,hr6,hk,hx,hnd]
  exact ⟨_,p5,s5,⟨t.set k ⟨y,x.c,x.l,x.r,x.v⟩,by rw [← zs5],by simp; omega⟩,hp5,rfl⟩
 by_cases c1:a4=1
 ·obtain ⟨r5,h5,v5,p5,s5,⟨y,rfl,hy⟩,hp5,rfl⟩:=zfk B p4 s4 hp4 hB [0,1,2147483648,-2147483648,500] (by simp)
  simp only [zab,List.map] at h5
  simp [-getElem?_pos,zhr,zhs,h1,w1,h2,h3,h4,c0,c1,h5,hr5,hr6,hk,hx,hnd]
  exact ⟨_,p5,s5,⟨t.set k ⟨x.f,y,x.l,x.r,x.v⟩,by rw [← zs5],by simp; omega⟩,hp5,rfl⟩
 by_cases c2:a4=2
 ·obtain ⟨r5,h5,v5,p5,s5,⟨y,rfl,hy⟩,hp5,rfl⟩:=zfk B p4 s4 hp4 hB [0,1,2,-1,40,(k:Int)] (by simp)
  simp only [zab,List.map] at h5
  simp [-getElem?_pos,zhr,zhs,h1,w1,h2,h3,h4,c0,c1,c2,h5,hr5,hr6,hk,hx,hnd]
  exact ⟨_,p5,s5,⟨t.set k ⟨x.f,x.c,y,x.r,x.v⟩,by rw [← zs5],by simp; omega⟩,hp5,rfl⟩
 by_cases c3:a4=3
 ·obtain ⟨r5,h5,v5,p5,s5,⟨y,rfl,hy⟩,hp5,rfl⟩:=zfk B p4 s4 hp4 hB [0,1,2,-1,40,(k:Int)] (by simp)
  simp only [zab,List.map] at h5
  simp [-getElem?_pos,zhr,zhs,h1,w1,h2,h3,h4,c0,c1,c2,c3,h5,hr5,hr6,hk,hx,hnd]
  exact ⟨_,p5,s5,⟨t.set k ⟨x.f,x.c,x.l,y,x.v⟩,by rw [← zs5],by simp; omega⟩,hp5,rfl⟩
 by_cases c4:a4=4
 ·obtain ⟨r5,h5,v5,p5,s5,⟨y,rfl,hy⟩,hp5,rfl⟩:=zfk B p4 s4 hp4 hB [0,1,1099511627776,1099511627777,-1099511627777] (by simp)
  simp only [zab,List.map] at h5
  simp [-getElem?_pos,zhr,zhs,h1,w1,h2,h3,h4,c0,c1,c2,c3,c4,h5,hr5,hr6,hk,hx,hnd]
  exact ⟨_,p5,s5,⟨t.set k ⟨x.f,x.c,x.l,x.r,y⟩,by rw [← zs5],by simp; omega⟩,hp5,rfl⟩
 by_cases c5:a4=5
 ·have e:=zvi t ⟨-1,0,0,0,0⟩
  simp only at e
  simp [-getElem?_pos,zhr,zhs,h1,w1,h2,h3,h4,c0,c1,c2,c3,c4,c5,hr1,hrt]
  exact ⟨_,p4,s4,⟨t++[⟨-1,0,0,0,0⟩],by rw [← e],by simp; omega⟩,hp4,rfl⟩
 by_cases c6:a4=6
 ·have hk':k≤t.length:=by omega
  have hkn : ¬ k=t.length:=by omega
  simp [-getElem?_pos,hk',hkn,zhr,zhs,h1,w1,h2,h3,h4,c0,c1,c2,c3,c4,c5,c6]
  exact ⟨_,p4,s4,⟨t.take k,by rw [List.map_take],by simp; omega⟩,hp4,rfl⟩
 ·simp [-getElem?_pos,zhr,zhs,h1,w1,h2,h3,h4,c0,c1,c2,c3,c4,c5,c6]
  exact ⟨_,p4,s4,⟨t,rfl,by omega⟩,hp4,rfl⟩
theorem yx3 (l:List Int) (hl:l.length≤9223372036854775807):RUN T zpb [.sl 1 (zab l),.sl 1 (zab l)]=some ([bv true],[]):=by
 refine zaf yap rfl ?_
 simp [zwx,zwy]
 refine zas (fun n st => ∃ i:Nat,i+n=l.length∧st.V 0 = .sl 1 (zab l)∧st.V 1 = .sl 1 (zab l)∧st.V 5=iv i) ?_ l.length _ ⟨0,by simp⟩
 rintro n st ⟨i,hi,v0,v1,v5⟩
 simp [z88,v0,v5]
 refine zao (fun h => ?_) (fun h => ?_)
 ·simp at h
  obtain ⟨x,hx⟩ : ∃ x,l[i]?=some x:=⟨_,List.getElem?_eq_getElem h⟩
  have hx':=za7 hx
  have hw:=wS h hl
  simp [-getElem?_pos,v0,v1,v5,h,hx',hw]
  exact zal (n-1) (by omega) ⟨i+1,by omega,by simp [v0],by simp [v1],by simp⟩
 ·simp
theorem y7p (l:List ByteArray) (i:Nat) (s:ByteArray):(zaw l).set i [.v (.string s)]=zaw (l.set i s):=by simp [zaw]
def zkc (m:Mo):List (List Int)→Option (List Int)
 | []=>some []
 | r::L=>if (zgq m r).2=true then (zkc m L).map ((zgq m r).1 :: ·) else none
def zmd (m:Mo) (L:List (List Int)):List Int×Bool:=match zkc m L with
 | some l=>(l,true)
 | none=>([],false)
set_option maxHeartbeats 1000000 in
theorem yx4 (q p:Bool) (m:Mo) (L:List (List Int)) (hm:MoL 1048576 m) (hL:L.length≤1048576) (hr : ∀ r∈L,r.length≤1048576):RUN T zpa [moS q m,.sl 1 (rws p L)]=some ([.own 1 (zab (zmd m L).1),bv (zmd m L).2],[]):=by
 refine zaf yao rfl ?_
 simp [-getElem?_pos,zwv,zww]
 refine zas (fun n st => ∃ (i o e:Nat) (w:List Int),i+n=L.length∧w.length=i∧zkc m L=(zkc m (L.drop i)).map (w ++ ·)∧st.V 12 = .sl 1 (rws p L)∧st.V 13=iv L.length∧st.V 2 = .ptr 0 none 0 0 0∧st.V 6 = .ref o none e 0 w.length∧st.V 14=iv i∧0<o∧o<st.nx∧st.S o=some (.row 1 (zab w))∧st.S 0=some (.box [.sl 1 (zaw m.ns),.sl 1 (zab m.ix),iv m.b,.sl 1 (trs q m.ts)])) ?_ L.length _ ⟨0,1,0,[],by simp [zab]⟩
 rintro n st ⟨i,o,e,w,hi,hw,hp,v12,v13,v2,v6,v14,ho,hox,hSo,hS⟩
 simp [z87,v13,v14]
 obtain ⟨f1,f2,f3,f4⟩:=fr hox
 obtain ⟨g1,g2,g3,g4⟩:=fr ho
 obtain ⟨z1,z2,z3,z4⟩:=fr (show 0<st.nx by omega)
 refine zao (fun h => ?_) (fun h => ?_)
 ·simp at h
  obtain ⟨r,hrr⟩ : ∃ r,L[i]?=some r:=⟨_,List.getElem?_eq_getElem h⟩
  have hr':=ze6 (q:=p) hrr
  have hws:=wS h (by omega:L.length≤9223372036854775807)
  have hP:=yxv q m r hm (hr r (List.mem_of_getElem? hrr))
  have hr8:=zcb (n:=w.length+1) (by omega)
  rw [zct hrr,zkc] at hp
  generalize hpr:zgq m r=pr at *
  obtain ⟨a,b⟩:=pr
  simp only at hp hP
  cases b with
  | true =>
   rw [if_pos rfl] at hp
   simp [-getElem?_pos,v12,v13,v2,v6,v14,hS,hSo,hr',h,hP,hws,hr8,zb8,f1,f2,f3,f4,g1,g2,g3,g4,z1,z2,z3,z4]
   exact zal (n-1) (by omega) ⟨i+1,st.nx+1,st.ep,w++[a],by omega,by simp [hw],by rw [hp]; cases zkc m (L.drop (i+1)) <;> simp,by simp [v12],by simp [v13],by simp [v2],by simp,by simp,by omega,by simp,by simp,by simp [f1,f2,f3,f4,g1,g2,g3,g4,z1,z2,z3,z4,hS]⟩
  | false =>
   rw [if_neg (by simp)] at hp
   have hi0:zab []=[]:=rfl
   have e1:zmd m L=([],false):=by unfold zmd; rw [hp]; rfl
   rw [e1]
   simp [-getElem?_pos,v12,v13,v2,v6,v14,hS,hSo,hr',h,hP,hi0,f1,f2,f3,f4,g1,g2,g3,g4,z1,z2,z3,z4]
 ·simp at h
  rw [List.drop_eq_nil_of_le h,zkc] at hp
  have e1:zmd m L=(w,true):=by unfold zmd; rw [hp]; simp
  rw [e1]
  simp [-getElem?_pos,v6,hSo]
def y4i (B:List Int) (l:List ByteArray) (r:List PV×List PV):Prop := ∃ (x:ByteArray) (p:Nat) (s:Int),x∈l∧p≤B.length∧r=([.v (.string x)],[.bx [.sl 1 (zbl B),iv p,iv s],.own 1 (zaw l)])
theorem yfc (B:List Int) (p:Nat) (s:Int) (hp:p≤B.length) (hB:B.length≤9223372036854775807) (l:List ByteArray) (hl:0<l.length∧l.length≤9223372036854775807) : ∃ r,RUN T zm7 [.bx [.sl 1 (zbl B),iv p,iv s],.own 1 (zaw l)]=some r∧y4i B l r:=by
 refine zfe ydj rfl ?_
 obtain ⟨r1,h1,v1,p1,s1,⟨a1,rfl,a10,a11⟩,hp1,rfl⟩:=zbf B p s hp hB l.length (by omega)
 obtain ⟨i,rfl⟩ : ∃ i:Nat,a1=i:=⟨a1.toNat,by omega⟩
 have hi:i<l.length:=by have:=a11 (by omega); omega
 obtain ⟨x,hx⟩ : ∃ x,l[i]?=some x:=⟨_,List.getElem?_eq_getElem hi⟩
 have hx':=zii hx
 simp [-getElem?_pos,z0r,z0s,h1,hx',hi]
 exact ⟨x,p1,s1,List.mem_of_getElem? hx,hp1,rfl⟩
theorem yfw (l:List ByteArray):zb5 (zaw l)=true:=by simp [zb5,zaw]
theorem z8c (M:List (List Nd)) (t:List Nd):trs true M++[[.own 5 (t.map nd)]]=trs true (M++[t]):=by simp [trs,zsn]
theorem z4k (L:List (List Int)) (r:List Int):rws true L++[[.own 1 (zab r)]]=rws true (L++[r]):=by simp [rws,cel]
theorem z6n (L:List (List Int)) (i:Nat) (r:List Int):(rws true L).set i [.own 1 (zab r)]=rws true (L.set i r):=by simp [rws,cel]
def pos (x:Int) (l:List Int):Nat→Nat
 | 0=>0
 | k+1=>if x<l.getD k 0 then pos x l k else k+1
def ins (l:List Int) (x:Int):List Int:=l.take (pos x l l.length)++x::l.drop (pos x l l.length)
def zfx (l:List Int):List Int:=l.foldl ins []
theorem z50 (x:Int) (l:List Int) : ∀ k,pos x l k≤k
 | 0=>by simp [pos]
 | k+1=>by
  have:=z50 x l k
  simp only [pos]; split <;> omega
theorem y0r (l:List Int) (x:Int):(ins l x).length=l.length+1:=by
 have:=z50 x l l.length
 unfold ins
 simp; omega
theorem y3x {l:List Int} {i:Nat} {x:Int} (h:l[i]?=some x):(l.take (i+1)).foldl ins []=ins ((l.take i).foldl ins []) x:=by
 rw [List.take_succ,h]
 simp [List.foldl_append]
theorem y6p (l:List Int) : ∀ a:List Int,(l.foldl ins a).length=a.length+l.length:=by
 induction l with
 | nil=>intro a; rfl
 | cons x l ih=>intro a; simp only [List.foldl_cons,ih,y0r,List.length_cons]; omega
theorem yz6 (a:List Int) (p:Nat):List.take (a.length-p) (List.drop p (zab a))=zab (a.drop p):=by
 rw [List.take_of_length_le (by simp)]
 simp [zab,List.map_drop]
theorem yzu (a:List Int) (p:Nat) (h:p≤a.length):(if p=a.length then zab a else List.take p (zab a))=zab (a.take p):=by
 split
 ·rename_i e; subst e; rw [List.take_length]
 ·simp [zab,List.map_take]
theorem z8y (x:Int) (l:List Int) (k:Nat):pos x l (k+1)=if x<l.getD k 0 then pos x l k else k+1:=rfl
def zdy (x:Int) (l:List Int) (k P:Nat):Prop:=pos x l k=P
theorem zdy.on {x y:Int} {l:List Int} {k P:Nat} (h:zdy x l (k+1) P) (hy:l[k]?=some y) (hc:x<y):zdy x l k P:=by
 unfold zdy at *
 rw [z8y] at h
 simp only [List.getD,hy,Option.getD_some,if_pos hc] at h
 exact h
theorem zdy.off {x y:Int} {l:List Int} {k P:Nat} (h:zdy x l (k+1) P) (hy:l[k]?=some y) (hc : ¬ x<y):k+1=P:=by
 unfold zdy at *
 rw [z8y] at h
 simp only [List.getD,hy,Option.getD_some,if_neg hc] at h
 exact h
theorem zdy.ex (x:Int) (l:List Int) (k:Nat) : ∃ P,zdy x l k P:=⟨_,rfl⟩
theorem zdy.z {x:Int} {l:List Int} {P:Nat} (h:zdy x l 0 P):0=P:=h
theorem z3f {x:Int} {l:List Int} {P:Nat} (h:zdy x l l.length P):ins l x=l.take P++x::l.drop P:=by unfold zdy at h; unfold ins; rw [h]
attribute [irreducible] pos ins zdy
set_option maxHeartbeats 800000 in
theorem yfd (l:List Int) (hl:l.length≤1048576):RUN T zm9 [.sl 1 (zab l)]=some ([.own 1 (zab (zfx l))],[]):=by
 refine zaf ydq rfl ?_
 have hr0:zaj 8 0=true:=by decide
 simp [-getElem?_pos,z04,z05,hr0]
 refine zas (fun n st => ∃ (i o e:Nat) (a:List Int),i+n=l.length∧a=(l.take i).foldl ins []∧a.length=i∧st.V 0 = .sl 1 (zab l)∧st.V 3 = .ref o none e 0 a.length∧st.V 4=iv i∧o<st.nx∧st.S o=some (.row 1 (zab a))) ?_ l.length _ ⟨0,0,0,[],by simp [zab]⟩
 rintro n st ⟨i,o,e,a,hi,ha,hal,v0,v3,v4,hox,hSo⟩
 simp [z98,v0,v4]
 obtain ⟨f1,f2,f3,f4⟩:=fr hox
 refine zao (fun h => ?_) (fun h => ?_)
 ·simp at h
  obtain ⟨x,hx⟩ : ∃ x,l[i]?=some x:=⟨_,List.getElem?_eq_getElem h⟩
  have hx':=za7 hx
  have hws:=wS h (by omega:l.length≤9223372036854775807)
  have hft:=y3x hx
  rw [← ha] at hft
  obtain ⟨P,hP⟩ : ∃ P,zdy x a a.length P:=zdy.ex x a a.length
  simp [-getElem?_pos,v0,v3,v4,hSo]
  refine zas (fun n' s => ∃ j:Nat,n'=j∧j≤a.length∧zdy x a j P∧s.V 0 = .sl 1 (zab l)∧s.V 3 = .ref o none e 0 a.length∧s.V 4=iv i∧s.V 5=iv j∧s.nx=st.nx∧s.S o=some (.row 1 (zab a))) ?_ a.length _ ⟨a.length,by omega,by omega,hP,by simp [v0],by simp [v3],by simp [v4],by simp,by simp,by simp [hSo]⟩
  rintro n' s ⟨j,hjn,hj,hp,u0,u3,u4,u5,unx,hSo'⟩
  clear v0 v3 v4 hSo
  obtain ⟨g1,g2,g3,g4⟩:=fr (show o<s.nx by omega)
  obtain ⟨_,_,g5,g6⟩:=fr (show o<s.nx+1 by omega)
  obtain ⟨_,_,g7,g8⟩:=fr (show o<s.nx+2 by omega)
  have hcr : ∀ c:Nat,c≤a.length+1→zaj 8 c=true:=fun c hc=>zcb (by omega)
  have hr1:zaj 8 1=true:=by decide
  by_cases h0:0<j
  ·obtain ⟨q,rfl⟩ : ∃ q:Nat,j=q+1:=⟨j-1,by omega⟩
   have hw:=w64 (x:=(q:Int)) (by omega) (by omega)
   obtain ⟨y,hy⟩ : ∃ y,a[q]?=some y:=⟨_,List.getElem?_eq_getElem (by omega)⟩
   have hy':=za7 hy
   have hqa:q<a.length:=by omega
   by_cases hc:x<y
   ·have hp':=hp.on hy hc
    simp [-getElem?_pos,z03,u0,u3,u4,u5,hSo',hx',h,h0,hw,hy',hqa,hc]
    exact zal q (by omega) ⟨q,rfl,by omega,hp',by simp [u0],by simp [u3],by simp [u4],by simp,by simp [unx],by simp [hSo']⟩
   ·have hp':=hp.off hy hc
    have hk1:=hcr (q+1) (by omega)
    have hk2:=zcb (n:=q+1+1) (by omega)
    have hk3:=hcr (a.length+1) (by omega)
    have hcut:=yzu a (q+1) (by omega)
    have hal2 : ∀ b:List Int,zb5 (zab b)=true:=yj0
    have hmin:(a.take (q+1)).length=q+1:=by simp; omega
    have hdr:=yz6 a (q+1)
    have hmd:(a.drop (q+1)).length=a.length-(q+1):=by simp
    have hsn:=zb8 (a.take (q+1)) x
    have hap:=y2l (a.take (q+1)++[x]) (a.drop (q+1))
    have hk4:=zcb (n:=q+2+(a.length-(q+1))) (by omega)
    have hin:=z3f hP
    rw [← hp'] at hin
    have hlen2:q+2+(a.length-(q+1))=a.length+1:=by omega
    simp [-getElem?_pos,z03,u0,u3,u4,u5,hSo',hx',h,h0,hw,hy',hqa,hc,hj,g1,g2,g3,g4,g5,g6,g7,g8,hr1,hk1,hk2,hk3,hcut,hal2,hmin,hdr,hmd,hsn,hap,hk4,hlen2]
    refine zal (n-1) (by omega) ⟨i+1,s.nx+2+2,s.ep,a.take (q+1)++x::a.drop (q+1),by omega,by rw [hft,hin],by simp; omega,by simp [u0],by simp; omega,by simp [hws],by simp,by simp⟩
  ·have h0':j=0:=by omega
   subst h0'
   have hp':=hp.z
   have hk0:=hcr 0 (by omega)
   have hk3:=hcr (a.length+1) (by omega)
   have hcut:(if 0=a.length then zab a else [])=([]:List (List PV)):=by
    split
    ·rename_i e
     have:a=[]:=List.length_eq_zero_iff.mp e.symm
     subst this; rfl
    ·rfl
   have hal2 : ∀ b:List Int,zb5 (zab b)=true:=yj0
   have hin:=z3f hP
   rw [← hp'] at hin
   have hcons:[iv x]::zab a=zab (x::a):=rfl
   have hk4:=hcr (1+a.length) (by omega)
   have hk5:=hcr (a.length+1) (by omega)
   simp [-getElem?_pos,z03,u0,u3,u4,u5,hSo',hx',h,g1,g2,g3,g4,g5,g6,g7,g8,hr1,hk0,hk3,hcut,hal2,hcons,hk4,hk5]
   refine zal (n-1) (by omega) ⟨i+1,s.nx+2+2,s.ep,x::a,by omega,by rw [hft,hin]; simp,by (try simp); try omega,by simp [u0],by (try simp); try omega,by simp [hws],by simp,by simp⟩
 ·simp at h
  have e1:i=l.length:=by omega
  rw [e1,List.take_length] at ha
  simp [-getElem?_pos,v3,hSo,zfx,← ha]
structure Ta where
 ns:List ByteArray
 nm:ByteArray
 rw:List (List Int)
 lb:List Int
abbrev taS (q:Bool) (t:Ta):PV := .agg [.sl 1 (zaw t.ns),.v (.string t.nm),.sl 1 (rws q t.rw),.sl 1 (zab t.lb)]
abbrev taO (t:Ta):PV := .agg [.own 1 (zaw t.ns),.v (.string t.nm),.own 1 (rws true t.rw),.own 1 (zab t.lb)]
structure TaL (n:Nat) (t:Ta):Prop where
 ns:t.ns.length≤n
 ss : ∀ x∈t.ns,x.size≤n
 nm:t.nm.size≤n
 rw:t.rw.length≤n
 rr : ∀ l∈t.rw,l.length≤n
 lb:t.lb.length≤n
structure Sta where
 sm:List Int
 ts:List (List Nd)
abbrev stS (q:Bool) (s:Sta):PV := .agg [.sl 1 (zab s.sm),.sl 1 (trs q s.ts)]
abbrev stO (s:Sta):PV := .agg [.own 1 (zab s.sm),.own 1 (trs true s.ts)]
structure zly (n:Nat) (s:Sta):Prop where
 sm:s.sm.length≤n
 ts:s.ts.length≤n
 tl : ∀ l∈s.ts,l.length≤n
structure Sl where
 n:Int
 g:Int
deriving DecidableEq
def slc (x:Sl):List PV:=[iv x.n,iv x.g]
def zb9 (l:List Sl):List (List PV):=l.map slc
@[simp] theorem qpx (l:List Sl):(zb9 l).length=l.length:=by simp [zb9]
theorem z4v {l:List Sl} {i:Nat} {x:Sl} (h:l[i]?=some x):(zb9 l)[i]?=some [iv x.n,iv x.g]:=by simp [zb9,h,slc]
theorem y5g (l:List Sl) (i:Nat) (a b:Int):(zb9 l).set i [iv a,iv b]=zb9 (l.set i ⟨a,b⟩):=by simp [zb9,List.map_set,slc]
def slI (x:Sl):Prop:=inI x.n∧inI x.g
def zb7 (a b:Sl):Sl×Bool:=if ((adi a.n b.n).2 && (adi a.g b.g).2)=true then (⟨(adi a.n b.n).1,(adi a.g b.g).1⟩,true) else (⟨0,0⟩,false)
theorem zwk {a b:Sl} (h:slI a):slI (zb7 a b).1:=by
 unfold zb7
 split
 ·exact ⟨z4u h.1,z4u h.2⟩
 ·unfold slI inI; simp
theorem z5p (a b:Sl) (ha:slI a) (hb:slI b):RUN T zle [.agg (slc a),.agg (slc b)]=some ([.agg (slc (zb7 a b).1),bv (zb7 a b).2],[]):=by
 refine zaf yec rfl ?_
 have e1:=z20 a.n b.n ha.1 hb.1
 have e2:=z20 a.g b.g ha.2 hb.2
 unfold zb7
 generalize adi a.n b.n=x at *
 generalize adi a.g b.g=y at *
 obtain ⟨x,xb⟩:=x
 obtain ⟨y,yb⟩:=y
 simp only at e1 e2 ⊢
 cases xb <;> cases yb <;> simp [z19,z2a,e1,e2,slc]
def atI {α:Type} (l:List α) (i:Int):Option α:=if 0≤i then l[i.toNat]? else none
theorem zkb {α:Type} {l:List α} {i:Int} {x:α} (h:atI l i=some x) : ∃ j:Nat,i=j∧l[j]?=some x∧j<l.length:=by
 unfold atI at h
 split at h
 ·refine ⟨i.toNat,by omega,h,?_⟩
  rcases Nat.lt_or_ge i.toNat l.length with h' | h'
  ·exact h'
  ·rw [List.getElem?_eq_none (by omega)] at h; cases h
 ·cases h
theorem zv2 {α:Type} {l:List α} {i:Int} (h:atI l i=none):i<0∨(l.length:Int)≤i:=by
 unfold atI at h
 split at h
 ·right
  rcases Nat.lt_or_ge i.toNat l.length with h' | h'
  ·rw [List.getElem?_eq_getElem h'] at h; cases h
  ·omega
 ·omega
def zcs (b g:List Int):List Int→List Sl→Option (List Sl)
 | [],h=>some h
 | r::rs,h=>match atI b r,atI g r with
  | some x,some y=>match atI h x with
   | some s=>if (zb7 s ⟨1,y⟩).2=true then zcs b g rs (h.set x.toNat (zb7 s ⟨1,y⟩).1) else none
   | none=>none
  | _,_=>none
def zc0 (b g rows:List Int) (k:Int):List Sl×Bool:=if zai k 1 8=true then match zcs b g rows (List.replicate k.toNat ⟨0,0⟩) with
  | some h=>(h,true)
  | none=>([],false)
 else ([],false)
theorem y42 (n:Nat):zb9 (List.replicate n ⟨0,0⟩)=List.replicate n [iv 0,iv 0]:=by simp [zb9,slc]
end Go.Pe
