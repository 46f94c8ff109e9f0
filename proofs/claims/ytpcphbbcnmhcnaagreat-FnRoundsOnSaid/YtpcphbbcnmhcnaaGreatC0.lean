/- What each function answers by the evaluator,and the law; for each answer its own conditions stand ahead of it. -/
import Derived.Test.YtpcphbbcnmhcnaaGreatK0
import Derived.Test.YtpcphbbcnmhcnaaGreatEvB2
import Derived.IntWalk
set_option linter.all false
namespace Go.Pe
open Go
theorem w64 {x:Int} (h1 : -9223372036854775808≤x) (h2:x≤9223372036854775807):IntKind.i64.wrap x=x:=IntWalk.i64_in x ⟨h1,h2⟩
@[simp] theorem qfv {x:Int} (h1 : -9223372036854775808≤x) (h2:x≤9223372036854775807):IntKind.i64.wrap x=x:=w64 h1 h2
structure Nd where
 f:Int
 c:Int
 l:Int
 r:Int
 v:Int
deriving DecidableEq
def nd (n:Nd):List PV:=[iv n.f,iv n.c,iv n.l,iv n.r,iv n.v]
@[simp] theorem y3z (a b c d e:Int):RUN T zlu [.agg [iv a,iv b,iv c,iv d,iv e]]=some ([bv (decide (a = -1))],[]):=by
 refine zag z6t rfl ?_
 simp [zv5,zv6]
@[simp] theorem zbd (a b c:Int):RUN T zbi [iv a,iv b,iv c]=some ([bv (decide (b≤a) && decide (a≤c))],[]):=by
 refine zag z52 rfl ?_
 simp [zu3,zu4]
 refine zb0 (fun h => ?_) (fun h => ?_) <;> simp [h]
@[simp] theorem zdg (a b c:Int):RUN T zez [iv a,iv b,iv c]=some ([bv (decide (b≤a) && decide (a≤c))],[]):=by
 refine zag z5n rfl ?_
 simp [zul,zum]
 refine zb0 (fun h => ?_) (fun h => ?_) <;> simp [h]
def zib {α:Type} (p:α→Bool) (l:List α):Int:=match l.findIdx? p with
 | some i=>(i:Int)
 | none => -1
theorem z0o {α:Type} {p:α→Bool} {l:List α} (h : ∀ (j:Nat) (x:α),j<l.length→l[j]?=some x→p x=false):zib p l = -1:=by
 unfold zib
 have:l.findIdx? p=none:=by
  rw [List.findIdx?_eq_none_iff]
  intro x hx
  obtain ⟨j,hj⟩:=List.getElem?_of_mem hx
  exact h j x (List.getElem?_eq_some_iff.mp hj).1 hj
 rw [this]
theorem z0a {α:Type} {p:α→Bool} {l:List α} {i:Nat} {x:α} (hi:l[i]?=some x) (hp:p x=true) (h : ∀ (j:Nat) (x:α),j<i→l[j]?=some x→p x=false):zib p l=i:=by
 unfold zib
 have:l.findIdx? p=some i:=by
  rw [List.findIdx?_eq_some_iff_getElem]
  obtain ⟨h1,h2⟩:=List.getElem?_eq_some_iff.mp hi
  refine ⟨h1,by rw [h2]; exact hp,fun j hj => ?_⟩
  have:=h j l[j] hj (List.getElem?_eq_getElem (by omega))
  simp [this]
 rw [this]
theorem z39 {α:Type} {p:α→Bool} {l:List α} {i:Nat} {x:α} (h : ∀ (j:Nat) (x:α),j<i→l[j]?=some x→p x=false) (hi:l[i]?=some x) (hp:p x=false) : ∀ (j:Nat) (x:α),j<i+1→l[j]?=some x→p x=false:=by
 intro j y hj hy
 by_cases e:j=i
 ·subst e; rw [hi] at hy; cases hy; exact hp
 ·exact h j y (by omega) hy
def ygz (k:Int) (n:Nd):Bool := !decide (n.f = -1) && (decide (n.l=k) || decide (n.r=k))
def par (t:List Nd) (k:Int):Int:=zib (ygz k) t
theorem wS {i n:Nat} (h:i<n) (hn:n≤9223372036854775807):IntKind.i64.wrap ((i:Int)+1)=(i:Int)+1:=w64 (by omega) (by omega)
def zac (l:List Int):List (List PV):=l.map fun n=>[iv n]
@[simp] theorem qkp (l:List Int):(zac l).length=l.length:=by simp [zac]
theorem zbp {l:List Int} {i:Nat} {x:Int} (h:l[i]?=some x):(zac l)[i]?=some [iv x]:=by simp [zac,h]
@[simp] theorem qfl:zac []=[]:=rfl
theorem ztu (x:Int) (l:List Int):zac (x::l)=[iv x]::zac l:=rfl
theorem yfm (l:List Int) (i:Nat) (x:Int):(zac l).set i [iv x]=zac (l.set i x):=by simp [zac,List.map_set]
theorem zdd (l:List Int) (x:Int):zac l++[[iv x]]=zac (l++[x]):=by simp [zac]
def anc (t:List Nd):Nat→Int→Option (List Int)
 | 0,_=>none
 | n+1,k=>if par t k<0 then some [] else (anc t n (par t k)).map (par t k :: ·)
def way (t:List Nd) (k:Int):List Int:=if 0≤k∧k≤t.length-1 then match anc t 32 k with
  | some l=>(k::l).reverse
  | none=>[]
 else []
theorem zd8 {n:Nat} (h:n≤17592186044416):zam 8 n=true:=by simp [zam]; omega
def upto (k:Int) (n:Nat):List Int:=(List.range n).map fun (i:Nat)=>k+(i:Int)
@[simp] theorem qc2 (k:Int) (n:Nat):(upto k n).length=n:=by simp [upto]
def lvs:List Nd→Int→List Int
 | [],_=>[]
 | x::xs,i=>if x.f = -1 then i::lvs xs (i+1) else lvs xs (i+1)
theorem z2x : ∀ (t:List Nd) (i:Int),(lvs t i).length≤t.length
 | [],_=>by simp [lvs]
 | x::xs,i=>by
  have:=z2x xs (i+1)
  simp only [lvs]
  split <;> simp <;> omega
theorem zd7 {α:Type} {l:List α} {i:Nat} {x:α} (h:l[i]?=some x):l.drop i=x::l.drop (i+1):=by
 obtain ⟨h1,h2⟩:=List.getElem?_eq_some_iff.mp h
 rw [List.drop_eq_getElem_cons h1,h2]
theorem yog (t:List Nd) (hl:t.length≤1048576):RUN T zo6 [.agg [.sl 5 (t.map nd)]]=some ([.own 1 (zac (lvs t 0))],[]):=by
 refine zag z7c rfl ?_
 simp [zwq,zwr]
 refine za3 (fun n st => ∃ i:Nat,i+n=t.length∧∃ (m:List Int) (o e:Nat),m++lvs (t.drop i) i=lvs t 0∧st.V 8 = .sl 5 (t.map nd)∧st.V 9=iv t.length∧st.V 3 = .ref o none e 0 m.length∧st.V 10=iv i∧o<st.nx∧st.S o=some (.row 1 (zac m))) ?_ t.length _ ⟨0,by simp,[],1,0,by simp⟩
 rintro n st ⟨i,hi,m,o,e,hm,h8,h9,h3,h10,hox,hSo⟩
 simp [z49,h8,h9,h10]
 refine zb0 (fun h => ?_) (fun h => ?_)
 ·simp at h
  obtain ⟨x,hx⟩ : ∃ x,t[i]?=some x:=⟨_,List.getElem?_eq_getElem h⟩
  have hw:=wS h (by omega:t.length≤9223372036854775807)
  have hr:zam 8 (m.length+1)=true:=zd8 (by
   have h5:=congrArg List.length hm
   have h6:=z2x t 0
   simp at h5; omega)
  have n1 : ¬ o=st.nx:=by omega
  have n2 : ¬ o=st.nx+1:=by omega
  simp [-getElem?_pos,h8,h9,h3,h10,hSo,n1,n2,hx,nd,hw,hr,zdd]
  refine zb0 (fun b0 => ?_) (fun b0 => ?_) <;> (try simp at b0) <;> simp [-getElem?_pos,b0,h8,h9,h3,h10,hSo,n1,n2,hx,hw,hr,zdd]
  ·refine zaq (n-1) (by omega) ⟨i+1,by omega,m++[(i:Int)],st.nx+2,st.ep,?_,by simp [h8],by simp [h9],by simp,by simp,by simp,by simp⟩
   rw [← hm,zd7 hx,lvs,if_pos b0]; simp
  ·refine zaq (n-1) (by omega) ⟨i+1,by omega,m,o,e,?_,by simp [h8],by simp [h9],by simp [h3],by simp,by simp; omega,by simp [hSo,n1]⟩
   rw [← hm,zd7 hx,lvs,if_neg b0]; simp
 ·simp at h
  have e:m=lvs t 0:=by rw [← hm,List.drop_eq_nil_of_le h]; simp [lvs]
  simp [h3,hSo,e]
def rt (t:List Nd) (row:List Int):Nat→Int→Option (List Int)
 | 0,_=>none
 | n+1,a=>match (if 0≤a then t[a.toNat]? else none) with
  | none=>none
  | some x=>if x.f = -1 then some [a] else match (if 0≤x.f then row[x.f.toNat]? else none) with
   | none=>none
   | some y=>(rt t row n (if y≤x.c then x.l else x.r)).map (a :: ·)
theorem ytn {t:List Nd} {row:List Int} {n:Nat} {a:Int} (h:a<0∨(t.length:Int)-1<a):rt t row n a=none:=by
 cases n with
 | zero=>rfl
 | succ n =>
  rw [rt]
  have:(if 0≤a then t[a.toNat]? else none)=none:=by
   split
   ·exact List.getElem?_eq_none (by omega)
   ·rfl
  rw [this]
theorem yxs {t:List Nd} {row:List Int} {n a:Nat} {x:Nd} (hx:t[a]?=some x) (h:x.f = -1):rt t row (n+1) a=some [(a:Int)]:=by
 rw [rt]; simp [hx,h]
theorem yxk {t:List Nd} {row:List Int} {n a:Nat} {x:Nd} (hx:t[a]?=some x) (h:x.f ≠ -1) (h2:x.f<0∨(row.length:Int)-1<x.f):rt t row (n+1) a=none:=by
 rw [rt]
 have:(if 0≤x.f then row[x.f.toNat]? else none)=none:=by
  split
  ·exact List.getElem?_eq_none (by omega)
  ·rfl
 simp [hx,h,this]
theorem yrt {t:List Nd} {row:List Int} {n a f:Nat} {x:Nd} {y:Int} (hx:t[a]?=some x) (h:x.f=f) (hy:row[f]?=some y):rt t row (n+1) a=(rt t row n (if y≤x.c then x.l else x.r)).map ((a:Int) :: ·):=by
 rw [rt]
 have:x.f ≠ -1:=by omega
 simp [hx,this,h,hy]
def zk4 (t:List Nd) (row:List Int):List Int:=(rt t row (t.length+1) 0).getD []
theorem yoh (t:List Nd) (row:List Int) (hl:t.length≤1048576) (hr:row.length≤1048576):RUN T zow [.agg [.sl 5 (t.map nd)],.sl 1 (zac row)]=some ([.own 1 (zac (zk4 t row))],[]):=by
 refine zag z6u rfl ?_
 have hw1:=w64 (x:=(t.length:Int)+1) (by omega) (by omega)
 simp [zv7,zv8,hw1]
 obtain ⟨r,hrr⟩ : ∃ r,r=rt t row (t.length+1) 0:=⟨_,rfl⟩
 unfold zk4
 rw [← hrr]
 refine za3 (fun n st => ∃ i:Nat,i+n=t.length+1∧∃ (a:Int) (m:List Int) (o e:Nat),m.length=i∧(rt t row n a).map (m ++ ·)=r∧st.V 1 = .sl 1 (zac row)∧st.V 2 = .ptr 0 none 0 0 0∧st.V 5 = .ref o none e 0 m.length∧st.V 6=iv a∧st.V 13=iv i∧st.V 12=iv ((t.length:Int)+1)∧0<o∧o<st.nx∧st.S o=some (.row 1 (zac m))∧st.S 0=some (.box [.sl 5 (t.map nd)])) ?_ (t.length+1) _ ⟨0,by simp,0,[],1,0,by simp [hrr]⟩
 rintro n st ⟨i,hi,a,m,o,e,hmi,hm,h1,h2,h5,h6,h13,h12,ho,hox,hSo,hS⟩
 simp [z48,h13,h12]
 refine zb0 (fun h => ?_) (fun h => ?_)
 ·simp at h
  obtain ⟨q,rfl⟩ : ∃ q,n=q+1:=⟨n-1,by omega⟩
  have hw:=w64 (x:=(t.length:Int)-1) (by omega) (by omega)
  have hwi:=w64 (x:=(i:Int)+1) (by omega) (by omega)
  have hwr:=w64 (x:=(row.length:Int)-1) (by omega) (by omega)
  simp [h1,h2,h5,h6,hS,hw]
  refine zb0 (fun h3 => ?_) (fun h3 => ?_)
  ·simp at h3
   rw [ytn h3] at hm
   simp at hm
   simp [← hm]
  ·have h3':0≤a∧a≤(t.length:Int)-1:=by simpa using h3
   obtain ⟨a,rfl⟩ : ∃ a':Nat,a=a':=⟨a.toNat,by omega⟩
   obtain ⟨x,hx⟩ : ∃ x,t[a]?=some x:=⟨_,List.getElem?_eq_getElem (by omega)⟩
   have z1:=fr hox
   have z2:=fr ho
   have z3:=fr (by omega:0<st.nx)
   have hr8:=zd8 (n:=m.length+1) (by omega)
   simp [-getElem?_pos,h1,h2,h5,h6,hS,hSo,z1,z2,z3,hx,nd,hr8,zdd,hwr]
   refine zb0 (fun h4 => ?_) (fun h4 => ?_)
   ·simp at h4
    rw [yxs hx h4] at hm
    simp at hm
    simp [← hm]
   ·simp at h4
    simp [-getElem?_pos,h1,h2,h5,h6,hS,hSo,z1,z2,z3,hx,hr8,zdd,hwr]
    refine zb0 (fun h8 => ?_) (fun h8 => ?_)
    ·simp at h8
     rw [yxk hx h4 h8] at hm
     simp at hm
     simp [← hm]
    ·have h8':0≤x.f∧x.f≤(row.length:Int)-1:=by simpa using h8
     obtain ⟨f,hf⟩ : ∃ f:Nat,x.f=f:=⟨x.f.toNat,by omega⟩
     obtain ⟨y,hy⟩ : ∃ y,row[f]?=some y:=⟨_,List.getElem?_eq_getElem (by omega)⟩
     have hfl:f<row.length:=by omega
     rw [yrt hx hf hy] at hm
     have hy':=zbp hy
     simp [-getElem?_pos,h1,h2,h5,h6,h13,h12,hS,hSo,z1,z2,z3,hr8,zdd,hwr,hf,hy',hfl,hwi]
     refine zb0 (fun b0 => ?_) (fun b0 => ?_) <;> (try simp at b0) <;> simp [-getElem?_pos,b0,h1,h2,h5,h6,h13,h12,hS,hSo,z1,z2,z3,hf,hwi]
     all_goals
      refine zaq q (by omega) ⟨i+1,by omega,_,m++[(a:Int)],st.nx+2,st.ep,by simp [hmi],?_,by simp [h1],by simp [h2],by simp,by simp; rfl,by simp,by simp [h12],by omega,by simp,by simp,by simp [z2,z3,hS]⟩
      rw [← hm]
      first | rw [if_pos b0] | rw [if_neg (by omega)]
      simp [Function.comp_def]
 ·simp at h
  obtain rfl:n=0:=by omega
  simp [rt] at hm
  simp [← hm]
theorem ya5 (t:List Nd) (row:List Int) : ∀ (n:Nat) (a:Int) (l:List Int),rt t row n a=some l→l.length≤n∧l≠[]∧∀ k∈l,0≤k∧k<t.length
 | 0,_,_,h=>by cases h
 | n+1,a,l,h=>by
  rw [rt] at h
  have ha : ∀ x,(if 0≤a then t[a.toNat]? else none)=some x→0≤a∧a<t.length:=by
   intro x hx
   split at hx
   ·have:=(List.getElem?_eq_some_iff.mp hx).1; omega
   ·cases hx
  split at h
  ·cases h
  ·rename_i x hx
   have hax:=ha x hx
   split at h
   ·cases h; simpa using hax
   ·split at h
    ·cases h
    ·simp only [Option.map_eq_some_iff] at h
     obtain ⟨m,hm,rfl⟩:=h
     have:=ya5 t row n _ m hm
     refine ⟨by simp; omega,by simp,fun k hk => ?_⟩
     rcases List.mem_cons.mp hk with e | e
     ·subst e; exact hax
     ·exact this.2.2 k e
theorem yd5 (t:List Nd) (row:List Int):(zk4 t row).length≤t.length+1∧∀ k∈zk4 t row,0≤k∧k<t.length:=by
 unfold zk4
 cases h:rt t row (t.length+1) 0 with
 | none=>simp
 | some l=>have:=ya5 t row _ _ l h; exact ⟨this.1,this.2.2⟩
def rto (t:List Nd) (row:List Int):Int:=((zk4 t row).getLast?).getD (-1)
theorem yyh {t:List Nd} {row:List Int}:rto t row = -1∨∃ i:Nat,rto t row=i∧i<t.length:=by
 unfold rto
 cases h:(zk4 t row).getLast? with
 | none=>exact .inl rfl
 | some k =>
  have:=(yd5 t row).2 k (List.mem_of_getLast? h)
  exact .inr ⟨k.toNat,by simp; omega,by omega⟩
theorem yoi (t:List Nd) (row:List Int) (hl:t.length≤1048576) (hr:row.length≤1048576):RUN T zoj [.agg [.sl 5 (t.map nd)],.sl 1 (zac row)]=some ([iv (rto t row)],[]):=by
 refine zag z59 rfl ?_
 have hw:=(yd5 t row).1
 simp [zvd,zve,yoh t row hl hr]
 refine zb0 (fun h => ?_) (fun h => ?_)
 ·simp at h
  simp [rto,h]
 ·simp at h
  obtain ⟨l,x,hlx⟩ : ∃ l x,zk4 t row=l++[x]:=⟨_,_,(List.dropLast_concat_getLast h).symm⟩
  have e1:rto t row=x:=by simp [rto,hlx]
  rw [e1]
  rw [hlx] at hw ⊢
  simp at hw
  have hwr:IntKind.i64.wrap (l.length:Int)=(l.length:Int):=w64 (by omega) (by omega)
  have hg:=zbp (l:=l++[x]) (i:=l.length) (x:=x) (by simp)
  simp [-getElem?_pos,hwr,hg]
def evt (t:List Nd) (row:List Int):Int:=if rto t row<0 then 0 else ((t[(rto t row).toNat]?).map (·.v)).getD 0
theorem yoj (t:List Nd) (row:List Int) (hl:t.length≤1048576) (hr:row.length≤1048576):RUN T zn5 [.agg [.sl 5 (t.map nd)],.sl 1 (zac row)]=some ([iv (evt t row)],[]):=by
 refine zag z5m rfl ?_
 simp [zuj,zuk,yoi t row hl hr]
 unfold evt
 rcases yyh (t:=t) (row:=row) with h | ⟨i,h,hi⟩
 ·simp [h]
 ·obtain ⟨x,hx⟩ : ∃ x,t[i]?=some x:=⟨_,List.getElem?_eq_getElem hi⟩
  rw [h]
  have h0 : ¬ ((i:Int)<0):=by omega
  simp [-getElem?_pos,h0,hx,nd]
def inI (n:Int):Prop := -9223372036854775808≤n∧n≤9223372036854775807
def box (t:List Nd) (f:Int):List Int→Int→Int→Int×Int
 | a::b::r,lo,hi=>match t[a.toNat]? with
  | none=>(lo,hi)
  | some x=>if x.f=f then (if x.l=b then box t f (b::r) lo (min hi x.c) else if x.c=9223372036854775807 then box t f (b::r) lo hi else box t f (b::r) (max lo (x.c+1)) hi) else box t f (b::r) lo hi
 | _,lo,hi=>(lo,hi)
theorem yok {f:Nat} {p:Int→Bool} (l:List Int) (hl:l.length≤9223372036854775807) (hm:zad T f=[]) (hp : ∀ n∈l,RUN T f [iv n]=some ([bv (p n)],[])) :
  RUN T zls [.sl 1 (zac l),.fn f []]=some ([iv (zib p l)],[]):=by
 refine zag z08 rfl ?_
 simp [zr6,zr7]
 refine za3 (fun n st => ∃ i:Nat,i+n=l.length∧st.V 0 = .sl 1 (zac l)∧st.V 1 = .fn f []∧st.V 8=iv i∧st.V 7=iv l.length∧∀ (j:Nat) (x:Int),j<i→l[j]?=some x→p x=false) ?_ l.length _ ⟨0,by simp⟩
 rintro n st ⟨i,hi,h0,h1,h8,h7,hj⟩
 simp [z00,h0,h1,h8,h7]
 refine zb0 (fun h => ?_) (fun h => ?_)
 ·simp at h
  obtain ⟨x,hx⟩ : ∃ x,l[i]?=some x:=⟨_,List.getElem?_eq_getElem h⟩
  have hw:=wS h hl
  have hx':=zbp hx
  have hpx:=hp x (List.mem_of_getElem? hx)
  simp [-getElem?_pos,h0,h1,h8,h7,hx',hw,hm,hpx,h]
  refine zb0 (fun b0 => ?_) (fun b0 => ?_) <;> (try simp at b0) <;> simp [-getElem?_pos,b0,h0,h1,h8,h7,hx',hw]
  all_goals first
   | exact (z0a hx b0 hj).symm
   | exact zaq (n-1) (by omega) ⟨i+1,by omega,by simp [h0],by simp [h1],by simp,by simp [h7],z39 hj hx b0⟩
 ·simp at h
  simp [h]
  exact (z0o fun j x hl hx=>hj j x (by omega) hx).symm
theorem zy6 {α:Type} {p:α→Bool} {l:List α}:decide (0≤zib p l)=l.any p:=by
 unfold zib
 cases h:l.findIdx? p with
 | none =>
  rw [List.findIdx?_eq_none_iff] at h
  simp
  exact fun x hx=>h x hx
 | some i =>
  obtain ⟨h1,h2,_⟩:=List.findIdx?_eq_some_iff_getElem.mp h
  simp
  exact ⟨_,List.getElem_mem h1,h2⟩
theorem z1a {f:Nat} {p:Int→Bool} (l:List Int) (hl:l.length≤9223372036854775807) (hm:zad T f=[]) (hp : ∀ n∈l,RUN T f [iv n]=some ([bv (p n)],[])) :
  RUN T zii [.sl 1 (zac l),.fn f []]=some ([bv (l.any p)],[]):=by
 refine zag z06 rfl ?_
 have e:=yok l hl hm hp
 simp [zrv,zrw,e,zy6]
structure Cfg where
 ro:Int
 de:Int
 bi:Int
 la:Int
 rw:Int
 nu:Int
 dn:Int
 sg:List Int
def zal (n a b:Int):Bool:=decide (a≤n) && decide (n≤b)
def za1 (c:Cfg):Bool:=zal c.ro 1 8 && zal c.de 0 4 && zal c.bi 2 8 && zal c.la 1 100 && zal c.rw 1 20 && zal c.dn 1 1000 && zal c.nu 1 c.dn && decide ((c.sg.length:Int)≤4) && c.sg.all fun n=>zal n (-1) 1
@[simp] theorem y30 (n:Int):RUN T zoh [iv n]=some ([bv (zal n (-1) 1)],[]):=by
 refine zag z55 rfl ?_
 simp [zu7,zu8,zal]
@[simp] theorem yol (n:Int):RUN T zlq [iv n]=some ([bv (!zal n (-1) 1)],[]):=by
 refine zag z6p rfl ?_
 simp [zvx,zvy]
theorem zcb (a b c:Int):RUN T zbi [iv a,iv b,iv c]=some ([bv (zal a b c)],[]):=zbd a b c
theorem zel (a b c:Int):RUN T zez [iv a,iv b,iv c]=some ([bv (zal a b c)],[]):=zdg a b c
theorem zy3 (c:Cfg) (hl:c.sg.length≤9223372036854775807):RUN T zja [.agg [iv c.ro,iv c.de,iv c.bi,iv c.la,iv c.rw,iv c.nu,iv c.dn,.sl 1 (zac c.sg)]]=some ([bv (za1 c)],[]):=by
 refine zag z5w rfl ?_
 have e:=z1a (f:=zlq) (p:=fun n => !zal n (-1) 1) c.sg hl (by simp) (fun n _=>yol n)
 have e2 : ∀ l:List Int,(l.any fun n => !zal n (-1) 1) = !(l.all fun n=>zal n (-1) 1):=by intro l; induction l <;> simp_all
 rw [e2] at e
 simp [zuz,zu0,zcb,-zbd]
 cases h0:zal c.ro 1 8 <;> cases h1:zal c.de 0 4 <;> simp [h0,h1,zcb,-zbd]
 all_goals try (simp [za1,h0,h1]; done)
 cases h2:zal c.bi 2 8 <;> cases h3:zal c.la 1 100 <;> simp [h2,h3,zcb,-zbd]
 all_goals try (simp [za1,h2,h3]; done)
 cases h4:zal c.rw 1 20 <;> cases h5:zal c.dn 1 1000 <;> simp [h4,h5,zcb,-zbd]
 all_goals try (simp [za1,h4,h5]; done)
 cases h6:zal c.nu 1 c.dn <;> simp [h6,zcb,-zbd]
 all_goals try (simp [za1,h6]; done)
 by_cases h7:(c.sg.length:Int)≤4
 ·simp [h7,e,za1,h0,h1,h2,h3,h4,h5,h6]
 ·simp [h7,za1]
theorem zrl {m:Nat→List Bool} {R:zah} {c:IC} {st:St} {Q:Ex→St→Prop} (h:W m R c st (Nx (fun s=>W m R (.loop c) s Q) Q ⟨⟩ ⟨⟩)):W m R (.loop c) st Q:=yz4 ▸ h
theorem yom (a b c d e f g:Int) (x:PV) (sg:List (List PV)):RUN T zn9 [.agg [iv a,iv b,iv c,iv d,iv e,iv f,iv g,.sl 1 sg]]=some ([.own 1 (zac [a,b,c,d,e])],[]):=by
 refine zag z5r rfl ?_
 simp [zur,zus,zac]
theorem zsx:RUN T zoa []=some ([.own 1 (zac [1,0,2,1,1])],[]):=by
 refine zag z5s rfl ?_
 simp [zut,zuu,zac]
theorem zsy:RUN T zob []=some ([.own 1 (zac [8,4,8,100,20])],[]):=by
 refine zag z5t rfl ?_
 simp [zuv,zuw,zac]
theorem yon (c:Cfg) (hl:c.sg.length≤9223372036854775807):RUN T zn2 [.agg [iv c.ro,iv c.de,iv c.bi,iv c.la,iv c.rw,iv c.nu,iv c.dn,.sl 1 (zac c.sg)]]=some ([bv (za1 c)],[]):=by
 refine zag z5j rfl ?_
 have e1:=yom c.ro c.de c.bi c.la c.rw c.nu c.dn .undef (zac c.sg)
 simp [zuf,zug,e1]
 refine zrl ?_
 simp [zmj,zsx,zsy,zel,-zdg,ztu]
 cases h0:zal c.ro 1 8 <;> simp [h0]
 ·simp [za1,h0]
 refine zrl ?_
 simp [zmj,zsx,zsy,zel,-zdg,ztu]
 cases h1:zal c.de 0 4 <;> simp [h1]
 ·simp [za1,h1]
 refine zrl ?_
 simp [zmj,zsx,zsy,zel,-zdg,ztu]
 cases h2:zal c.bi 2 8 <;> simp [h2]
 ·simp [za1,h2]
 refine zrl ?_
 simp [zmj,zsx,zsy,zel,-zdg,ztu]
 cases h3:zal c.la 1 100 <;> simp [h3]
 ·simp [za1,h3]
 refine zrl ?_
 simp [zmj,zsx,zsy,zel,-zdg,ztu]
 cases h4:zal c.rw 1 20 <;> simp [h4]
 ·simp [za1,h4]
 refine zrl ?_
 simp [zmj]
 refine za3 (fun n st => ∃ i:Nat,i+n=c.sg.length∧st.V 1 = .ptr 0 none 0 0 0∧st.V 5=iv i∧st.S 0=some (.box [iv c.ro,iv c.de,iv c.bi,iv c.la,iv c.rw,iv c.nu,iv c.dn,.sl 1 (zac c.sg)])∧∀ (j:Nat) (x:Int),j<i→c.sg[j]?=some x→zal x (-1) 1=true) ?_ c.sg.length _ ⟨0,by simp⟩
 rintro n st ⟨i,hi,h1',h5,hS,hj⟩
 simp [z4x,h1',h5,hS]
 refine zb0 (fun h => ?_) (fun h => ?_)
 ·simp at h
  obtain ⟨x,hx⟩ : ∃ x,c.sg[i]?=some x:=⟨_,List.getElem?_eq_getElem h⟩
  have hw:=wS h hl
  have hx':=zbp hx
  simp [-getElem?_pos,h1',h5,hS,hx',hw,h,zel,-zdg]
  cases hb:zal x (-1) 1 with
  | true =>
   simp [-getElem?_pos,h1',h5,hS,hw]
   refine zaq (n-1) (by omega) ⟨i+1,by omega,by simp [h1'],by simp,by simp [hS],fun j y hj' hy => ?_⟩
   by_cases e:j=i
   ·subst e; rw [hx] at hy; cases hy; exact hb
   ·exact hj j y (by omega) hy
  | false =>
   simp [za1]
   intros
   exact ⟨x,List.mem_of_getElem? hx,hb⟩
 ·simp at h
  have hall:(c.sg.all fun n=>zal n (-1) 1)=true:=by
   rw [List.all_eq_true]
   intro x hx
   obtain ⟨j,hj'⟩:=List.getElem?_of_mem hx
   exact hj j x (by have:=(List.getElem?_eq_some_iff.mp hj').1; omega) hj'
  simp [h1',hS,zel,-zdg]
  cases h5:zal c.dn 1 1000 <;> simp [h1',hS,h5,zel,-zdg]
  ·simp [za1,h5]
  cases h6:zal c.nu 1 c.dn <;> simp [h1',hS,h6,zel,-zdg]
  ·simp [za1,h6]
  simp [za1,h0,h1,h2,h3,h4,h5,h6,hall]
def fdv (a b:Int):Int×Bool:=if b=0∨(b = -1∧a = -9223372036854775808) then (0,false) else (a.fdiv b,true)
theorem yrl {a b:Int} (ha:inI a) (hb:b≠0) (h : ¬ (b = -1∧a = -9223372036854775808)) : -9223372036854775808≤a.tdiv b∧a.tdiv b≤9223372036854775807∧(b≠1 → -9223372036854775808≤a.tdiv b-1):=by
 obtain ⟨h1,h2⟩:=ha
 have h3:(a.tdiv b).natAbs=a.natAbs / b.natAbs:=Int.natAbs_tdiv a b
 have h4:a.natAbs / b.natAbs≤a.natAbs:=Nat.div_le_self _ _
 by_cases c:b=1
 ·subst c; simp; omega
 by_cases c2:b = -1
 ·subst c2; simp; omega
 have h5:a.natAbs / b.natAbs≤a.natAbs / 2:=Nat.div_le_div_left (by omega) (by omega)
 omega
theorem yzc (a b:Int) (hb:b≠0):a.fdiv b=if a.tmod b≠0∧¬ (a<0↔b<0) then a.tdiv b-1 else a.tdiv b:=by
 rw [Int.fdiv_eq_tdiv]
 have hd:b ∣ a↔a.tmod b=0:=Int.dvd_iff_tmod_eq_zero
 by_cases c:b ∣ a
 ·rw [if_pos c,if_neg (by rw [hd.mp c]; simp)]; simp
 ·have hc:a.tmod b≠0:=fun e=>c (hd.mpr e)
  have ha:a≠0:=fun e=>c (by subst e; exact ⟨0,by simp⟩)
  rw [if_neg c]
  rcases Int.lt_or_gt_of_ne hb with s2 | s2
  ·rw [if_neg (by omega : ¬ 0≤b),if_neg (by omega : ¬ 0≤b),Int.sign_eq_neg_one_of_neg s2]
   by_cases s1:0≤a
   ·rw [if_pos s1,if_pos ⟨hc,by omega⟩]
   ·rw [if_neg s1,if_neg (fun h=>h.2 (by omega))]; omega
  ·rw [if_pos (by omega:0≤b),if_pos (by omega:0≤b),Int.sign_eq_one_of_pos s2]
   by_cases s1:0≤a
   ·rw [if_pos s1,if_neg (fun h=>h.2 (by omega))]; omega
   ·rw [if_neg s1,if_pos ⟨hc,by omega⟩]
theorem z1b (a b:Int) (ha:inI a):RUN T zkj [iv a,iv b]=some ([iv (fdv a b).1,bv (fdv a b).2],[]):=by
 refine zag z58 rfl ?_
 simp [zvb,zvc]
 by_cases h0:b=0
 ·subst h0; simp [fdv]
 by_cases hbad:b = -1∧a = -9223372036854775808
 ·obtain ⟨rfl,rfl⟩:=hbad; simp [fdv]
 have hr:=yrl ha h0 hbad
 have hq:=w64 hr.1 hr.2.1
 have hf:=yzc a b h0
 have e1:fdv a b=(a.fdiv b,true):=by unfold fdv; rw [if_neg (by simp [h0]; intro h; exact fun h2=>hbad ⟨h,h2⟩)]
 rw [e1]
 have hq2:a.tmod b≠0→IntKind.i64.wrap (a.tdiv b-1)=a.tdiv b-1:=fun h=>w64 (hr.2.2 (by rintro rfl; simp at h)) (by omega)
 have f0:=eq_false h0
 obtain ⟨p1,hp1⟩ : ∃ p,(b = -1)=p:=⟨_,rfl⟩
 obtain ⟨p2,hp2⟩ : ∃ p,(a = -9223372036854775808)=p:=⟨_,rfl⟩
 rw [hp1,hp2] at hbad
 by_cases c1:p1 <;> by_cases c2:p2
 ·exact (hbad ⟨c1,c2⟩).elim
 all_goals
  simp only [c1,c2] at hp1 hp2
  simp [f0,hp1,hp2,hq]
  by_cases d0:a.tmod b=0
  ·rw [if_neg (by simp [d0])] at hf
   simp [d0,hf]
  ·have hq3:=hq2 d0
   have d1:=eq_false d0
   by_cases d2:a<0 <;> by_cases d3:b<0
   all_goals
    simp only [d2,d3,ne_eq,d1,not_false_eq_true,iff_self,not_true_eq_false,and_false,if_false,iff_true,iff_false,and_true,if_true,true_iff,false_iff] at hf
    simp [d1,d2,d3,hq3,hf]
abbrev zht (c:Cfg):PV := .agg [iv c.ro,iv c.de,iv c.bi,iv c.la,iv c.rw,iv c.nu,iv c.dn,.sl 1 (zac c.sg)]
abbrev zld (c:Cfg):PV := .agg [iv c.ro,iv c.de,iv c.bi,iv c.la,iv c.rw,iv c.nu,iv c.dn,.own 1 (zac c.sg)]
theorem za2 {n a b:Int}:zal n a b=true↔a≤n∧n≤b:=by simp [zal]
theorem zir {c:Cfg} (h:za1 c=true):(1≤c.ro∧c.ro≤8)∧(0≤c.de∧c.de≤4)∧(2≤c.bi∧c.bi≤8)∧(1≤c.la∧c.la≤100)∧(1≤c.rw∧c.rw≤20)∧(1≤c.dn∧c.dn≤1000)∧(1≤c.nu∧c.nu≤c.dn)∧c.sg.length≤4∧∀ n∈c.sg,-1≤n∧n≤1:=by
 simp only [za1,Bool.and_eq_true,za2,decide_eq_true_eq,List.all_eq_true] at h
 obtain ⟨⟨⟨⟨⟨⟨⟨⟨h1,h2⟩,h3⟩,h4⟩,h5⟩,h6⟩,h7⟩,h8⟩,h9⟩:=h
 exact ⟨h1,h2,h3,h4,h5,h6,h7,by omega,h9⟩
def zix (v:Int):Bool:=zal v (-1099511627776) 1099511627776
@[simp] theorem z8x (v:Int):RUN T zkn [iv v]=some ([bv (zix v)],[]):=by
 refine zag z7j rfl ?_
 simp [zw2,zw3,zix,zal]
def shr (v:Int) (c:Cfg):Int×Bool:=if za1 c && zix v then (( v*c.nu).fdiv c.dn,true) else (0,false)
theorem yuz {v:Int} {c:Cfg} (h:za1 c=true) (hv:zix v=true):inI (v*c.nu)∧IntKind.i64.wrap (v*c.nu)=v*c.nu∧fdv (v*c.nu) c.dn=((v*c.nu).fdiv c.dn,true):=by
 obtain ⟨_,_,_,_,_,hd,hn,_⟩:=zir h
 have h1:=za2.mp hv
 have h2 : -1099511627776*1000≤v*c.nu:=by
  have a1 : -1099511627776*c.nu≤v*c.nu:=Int.mul_le_mul_of_nonneg_right h1.1 (by omega)
  omega
 have h3:v*c.nu≤1099511627776*1000:=by
  have a1:v*c.nu≤1099511627776*c.nu:=Int.mul_le_mul_of_nonneg_right h1.2 (by omega)
  omega
 refine ⟨⟨by omega,by omega⟩,w64 (by omega) (by omega),?_⟩
 unfold fdv
 rw [if_neg (by omega)]
theorem yoo (v:Int) (c:Cfg) (hl:c.sg.length≤9223372036854775807):RUN T zo7 [iv v,zht c]=some ([iv (shr v c).1,bv (shr v c).2],[]):=by
 refine zag z7d rfl ?_
 have e:=zy3 c hl
 simp [zws,zwt,e]
 cases h:za1 c
 ·simp [shr,h]
 ·cases hv:zix v
  ·simp [h,hv,shr]
  ·obtain ⟨h1,h2,h3⟩:=yuz h hv
   have e2:=z1b _ c.dn h1
   rw [h3] at e2
   simp [h,hv,shr,h2,e2]
theorem yf6 (a b c d e a' b' c' d' e':Int):eqP [.i .i64,.i .i64,.i .i64,.i .i64,.i .i64] (.agg [iv a,iv b,iv c,iv d,iv e]) (.agg [iv a',iv b',iv c',iv d',iv e'])=some (decide (a=a'∧b=b'∧c=c'∧d=d'∧e=e')):=by
 simp only [eqP,zbo,ys7,Option.bind_some]
 by_cases h1:a=a' <;> by_cases h2:b=b' <;> by_cases h3:c=c' <;> by_cases h4:d=d' <;> by_cases h5:e=e' <;> simp [h1,h2,h3,h4,h5]
def zbg (n:Int):Bool:=zal n (-2147483647) 2147483647
@[simp] theorem zm0 (v:Int):RUN T zll [iv v]=some ([bv (zbg v)],[]):=by
 refine zag z5q rfl ?_
 simp [zup,zuq,zbg,zal]
@[simp] theorem y31 (v:Int):RUN T zoi [iv v]=some ([bv (zbg v)],[]):=by
 refine zag z56 rfl ?_
 simp [zu9,zva,zbg,zal]
def adj (p:Int→Int→Bool):List Int→Bool
 | a::b::r=>p a b || adj p (b::r)
 | _=>false
theorem z4u {p:Int→Int→Bool} : ∀ {l:List Int},adj p l=true↔∃ (i:Nat) (a b:Int),l[i]?=some a∧l[i+1]?=some b∧p a b=true
 | []=>by simp [adj]
 | [x]=>by simp [adj]
 | x::y::r=>by
  simp only [adj,Bool.or_eq_true]
  rw [z4u (l:=y::r)]
  constructor
  ·rintro (h | ⟨i,a,b,h1,h2,h3⟩)
   ·exact ⟨0,x,y,rfl,rfl,h⟩
   ·exact ⟨i+1,a,b,by simpa using h1,by simpa using h2,h3⟩
  ·rintro ⟨i,a,b,h1,h2,h3⟩
   cases i with
   | zero=>simp at h1 h2; subst h1; subst h2; exact .inl h3
   | succ i=>exact .inr ⟨i,a,b,by simpa using h1,by simpa using h2,h3⟩
theorem zzo {α:Type} {P:Nat→α→Prop} {l:List α} {i:Nat} {x:α} (h : ∀ (j:Nat) (x:α),j<i→l[j]?=some x→P j x) (hi:l[i]?=some x) (hp:P i x) : ∀ (j:Nat) (x:α),j<i+1→l[j]?=some x→P j x:=by
 intro j y hj hy
 by_cases e:j=i
 ·subst e; rw [hi] at hy; cases hy; exact hp
 ·exact h j y (by omega) hy
def cel (q:Bool) (l:List Int):PV:=if q then .own 1 (zac l) else .sl 1 (zac l)
@[simp] theorem qcm (q:Bool) (l:List Int):fz (cel q l) = .sl 1 (zac l):=by cases q <;> simp [cel]
def rws (q:Bool) (L:List (List Int)):List (List PV):=L.map fun l=>[cel q l]
@[simp] theorem qaj (q:Bool) (L:List (List Int)):(rws q L).length=L.length:=by simp [rws]
theorem zfi {q:Bool} {L:List (List Int)} {i:Nat} {l:List Int} (h:L[i]?=some l):(rws q L)[i]?=some [cel q l]:=by simp [rws,h]
@[simp] theorem y32 (n:Int):RUN T zl1 [iv n]=some ([bv (!zbg n)],[]):=by
 refine zag z7f rfl ?_
 simp [zww,zwx]
theorem z1c (l:List Int) (hl:l.length≤9223372036854775807):RUN T zkk [.sl 1 (zac l)]=some ([bv (l.all zbg)],[]):=by
 refine zag z6m rfl ?_
 have e:=z1a (f:=zl1) (p:=fun n => !zbg n) l hl (by simp) (fun n _=>by simp)
 simp [zvr,zvs,e]
 simp [List.any_eq_not_all_not]
def zjw (l:List Int):Bool := !adj (fun a b=>decide (b≤a)) l && l.all zbg && decide ((l.length:Int)≤7)
theorem yq2 {p:Int→Int→Bool} {l:List Int} (h : ∀ (j:Nat) (a b:Int),l[j]?=some a→l[j+1]?=some b→p a b=false):adj p l=false:=by
 cases e:adj p l with
 | false=>rfl
 | true =>
  obtain ⟨j,a,b,h1,h2,h3⟩:=z4u.mp e
  rw [h j a b h1 h2] at h3; cases h3
theorem ysk {p:Int→Int→Bool} {l:List Int} {j:Nat} {a b:Int} (h1:l[j]?=some a) (h2:l[j+1]?=some b) (h3:p a b=true):adj p l=true:=z4u.mpr ⟨j,a,b,h1,h2,h3⟩
theorem yf0 {l:List Int} {p:Int→Bool} {j:Nat} {a:Int} (h1:l[j]?=some a) (h2:p a=false):l.all p=false:=by
 cases e:l.all p with
 | false=>rfl
 | true=>rw [List.all_eq_true.mp e a (List.mem_of_getElem? h1)] at h2; cases h2
theorem yao {l:List Int} {p:Int→Bool} (h : ∀ (j:Nat) (a:Int),j<l.length→l[j]?=some a→p a=true):l.all p=true:=by
 rw [List.all_eq_true]
 intro x hx
 obtain ⟨j,hj⟩:=List.getElem?_of_mem hx
 exact h j x (List.getElem?_eq_some_iff.mp hj).1 hj
theorem yop (l:List Int) (hl:l.length≤9223372036854775807):RUN T zpj [.sl 1 (zac l)]=some ([bv (zjw l)],[]):=by
 refine zag z7y rfl ?_
 have hd:=z1c l hl
 simp [zxn,zxo]
 refine za3 (fun n st => ∃ i:Nat,i+n=l.length+1∧1≤i∧st.V 0 = .sl 1 (zac l)∧st.V 3=iv i∧∀ (j:Nat) (a b:Int),j+1<i→l[j]?=some a→l[j+1]?=some b→decide (b≤a)=false) ?_ l.length _ ⟨1,by omega,by omega,by simp,by simp,fun j a b h=>by omega⟩
 rintro n st ⟨i,hi,h1,v0,v3,hj⟩
 simp [z5e,v0,v3]
 refine zb0 (fun h => ?_) (fun h => ?_)
 ·simp at h
  obtain ⟨k,rfl⟩ : ∃ k,i=k+1:=⟨i-1,by omega⟩
  obtain ⟨a,ha⟩ : ∃ a,l[k]?=some a:=⟨_,List.getElem?_eq_getElem (by omega)⟩
  obtain ⟨b,hb⟩ : ∃ b,l[k+1]?=some b:=⟨_,List.getElem?_eq_getElem h⟩
  have ha':=zbp ha
  have hb':=zbp hb
  have hw:IntKind.i64.wrap ((k:Int)+1+1)=(k:Int)+1+1:=w64 (by omega) (by omega)
  have hw1:IntKind.i64.wrap (k:Int)=k:=w64 (by omega) (by omega)
  have hkl:k<l.length:=by omega
  simp [-getElem?_pos,v0,v3,ha',hb',hw1,h,hkl]
  refine zb0 (fun h2 => ?_) (fun h2 => ?_)
  ·simp at h2
   have:zjw l=false:=by unfold zjw; rw [ysk ha hb (by simpa using h2)]; rfl
   simp [this]
  ·simp at h2
   simp [-getElem?_pos,v0,v3,hw]
   refine zaq (n-1) (by omega) ⟨k+2,by omega,by omega,by simp [v0],by simp; omega,fun j x y hjk hx hy => ?_⟩
   by_cases e:j=k
   ·subst e; rw [ha] at hx; rw [hb] at hy; cases hx; cases hy; simp; omega
   ·exact hj j x y (by omega) hx hy
 ·simp at h
  have e:adj (fun a b=>decide (b≤a)) l=false:=yq2 fun j a b h1 h2=>hj j a b (by have:=(List.getElem?_eq_some_iff.mp h2).1; omega) h1 h2
  unfold zjw
  rw [e]
  by_cases c:(l.length:Int)≤7
  ·simp [v0,hd,c]
  ·simp [v0,c]
def zd9:List (List Int)→Nat
 | []=>0
 | l::_=>l.length
theorem z1d (q:Bool) (c v:List (List Int)):RUN T zjc [.agg [.sl 1 (rws q c),.sl 1 (rws q v)]]=some ([iv (zd9 v)],[]):=by
 refine zag z63 rfl ?_
 cases v with
 | nil=>simp [zsb,zsc,zd9]
 | cons l L =>
  have h:rws q (l::L)=[cel q l]::rws q L:=rfl
  have h0:((L.length:Int)+1=0)=False:=eq_false (by omega)
  simp [h0,zsb,zsc,zd9,h]
theorem yoq {f:Nat} {c:PV} {p:Int→Bool} (l:List Int) (hl:l.length≤9223372036854775807) (hm:zad T f=[]) (hp : ∀ n∈l,RUN T f [iv n,.fptr [c] 0]=some ([bv (p n)],[])) :
  RUN T zls [.sl 1 (zac l),.fn f [.fptr [c] 0]]=some ([iv (zib p l)],[]):=by
 refine zag z08 rfl ?_
 simp [zr6,zr7]
 refine za3 (fun n st => ∃ i:Nat,i+n=l.length∧st.V 0 = .sl 1 (zac l)∧st.V 1 = .fn f [.fptr [c] 0]∧st.V 8=iv i∧st.V 7=iv l.length∧∀ (j:Nat) (x:Int),j<i→l[j]?=some x→p x=false) ?_ l.length _ ⟨0,by simp⟩
 rintro n st ⟨i,hi,h0,h1,h8,h7,hj⟩
 simp [z00,h0,h1,h8,h7]
 refine zb0 (fun h => ?_) (fun h => ?_)
 ·simp at h
  obtain ⟨x,hx⟩ : ∃ x,l[i]?=some x:=⟨_,List.getElem?_eq_getElem h⟩
  have hw:=wS h hl
  have hx':=zbp hx
  have hpx:=hp x (List.mem_of_getElem? hx)
  simp [-getElem?_pos,h0,h1,h8,h7,hx',hw,hm,hpx,h]
  refine zb0 (fun b0 => ?_) (fun b0 => ?_) <;> (try simp at b0) <;> simp [-getElem?_pos,b0,h0,h1,h8,h7,hx',hw]
  all_goals first
   | exact (z0a hx b0 hj).symm
   | exact zaq (n-1) (by omega) ⟨i+1,by omega,by simp [h0],by simp [h1],by simp,by simp [h7],z39 hj hx b0⟩
 ·simp at h
  simp [h]
  exact (z0o fun j x hl hx=>hj j x (by omega) hx).symm
theorem yor {f:Nat} {c:PV} {p:Int→Bool} (l:List Int) (hl:l.length≤9223372036854775807) (hm:zad T f=[]) (hp : ∀ n∈l,RUN T f [iv n,.fptr [c] 0]=some ([bv (p n)],[])) :
  RUN T zii [.sl 1 (zac l),.fn f [.fptr [c] 0]]=some ([bv (l.any p)],[]):=by
 refine zag z06 rfl ?_
 have e:=yoq l hl hm hp
 simp [zrv,zrw,e,zy6]
@[simp] theorem y33 (n:Int) (a:List Int):RUN T zl7 [iv n,.fptr [.sl 1 (zac a)] 0]=some ([bv (!zal n 0 a.length)],[]):=by
 refine zag z7z rfl ?_
 simp [zxp,zxq,zcb,-zbd]
theorem ydy {s:St} {d:Option Dst} {op:IOp} {g:Opd} {v:Bool} {x:PV}:(yv s ⟨d,op,some (g,v)⟩=some x)=(Ob' (zh0 v (g.get s)) fun t=>Br t (WI (fun _=>[]) (fun _ _=>none) op s (fun y _=>y=x)) (PV.v Go.undef=x)):=by
 simp only [yv,ybz,WI,Ob',Br,Option.map_eq_some_iff,Option.bind_eq_some_iff,eq_iff_iff]
 constructor
 ·rintro ⟨⟨y,s'⟩,⟨t,h1,h2⟩,h3⟩
  refine ⟨t,h1,fun ht => ?_,fun ht => ?_⟩ <;> subst ht
  ·exact ⟨y,s',by simpa using h2,h3⟩
  ·simp at h2; obtain ⟨rfl,rfl⟩:=h2; exact h3
 ·rintro ⟨t,h1,h2,h3⟩
  cases t with
  | true=>obtain ⟨y,s',h4,h5⟩:=h2 rfl; exact ⟨(y,s'),⟨true,h1,by simpa using h4⟩,h5⟩
  | false=>exact ⟨_,⟨false,h1,rfl⟩,h3 rfl⟩
@[simp] theorem qfk {s:St} {d:Option Dst} {op:IOp} {g:Opd} {v:Bool} {x:PV} {n:Nat} {r:List (zab×PV×Nat)}:zb4 s ((⟨d,op,some (g,v)⟩,x,n+1)::r)=((Ob' (zh0 v (g.get s)) fun t=>Br t (WI (fun _=>[]) (fun _ _=>none) op s (fun y _=>y=x)) (PV.v Go.undef=x))∧zb4 s r):=by
 simp only [zb4,ydy]
@[simp] theorem qan {V E:Nat→PV} {d:Option Dst} {op:IOp} {g:Opd} {v:Bool} {x:PV} {n:Nat} {s:St} {ms:List St}:zaz V E ⟨d,op,some (g,v)⟩ x (n+1) (s::ms)=((Ob' (zh0 v (g.get { s with V:=V,E:=E })) fun t=>Br t (WI (fun _=>[]) (fun _ _=>none) op { s with V:=V,E:=E } (fun y _=>y=x)) (PV.v Go.undef=x))∧zaz V E ⟨d,op,some (g,v)⟩ x n ms):=by
 simp only [zaz,ydy]
def zis (c v:List (List Int)) (f:Nat):Bool:=match c[f]?,v[f]? with
 | some a,some b=>zjw a && decide ((b.length:Int)=zd9 v) && b.all fun x=>zal x 0 a.length
 | _,_=>true
def zei (c v:List (List Int)):Bool:=zal c.length 1 4 && decide ((v.length:Int)=c.length) && zal (zd9 v) 1 40 && (List.range c.length).all (zis c v)
theorem yzn {c v:List (List Int)} (h1:zal c.length 1 4=true) (h2:(v.length:Int)=c.length) (h3:zal (zd9 v) 1 40=true):zei c v=(List.range c.length).all (zis c v):=by
 simp [zei,h1,h2,h3]
theorem zrk {p:Nat→Bool} {n:Nat} (h : ∀ i,i<n→p i=true):(List.range n).all p=true:=by
 rw [List.all_eq_true]
 intro x hx
 exact h x (by simpa using hx)
theorem zi1 {p:Nat→Bool} {n i:Nat} (hi:i<n) (h:p i=false):(List.range n).all p=false:=by
 cases e:(List.range n).all p with
 | false=>rfl
 | true=>rw [List.all_eq_true.mp e i (by simpa using hi)] at h; cases h
theorem ysx {c v:List (List Int)} {f:Nat} {a b:List Int} (ha:c[f]?=some a) (hb:v[f]?=some b):zis c v f=(zjw a && decide ((b.length:Int)=zd9 v) && b.all fun x=>zal x 0 a.length):=by
 simp [zis,ha,hb]
theorem zj3 {P:Nat→Prop} {i:Nat} (h : ∀ j,j<i→P j) (hi:P i) : ∀ j,j<i+1→P j:=by
 intro j hj
 by_cases e:j=i
 ·subst e; exact hi
 ·exact h j (by omega)
set_option maxHeartbeats 1000000 in
theorem z8y (q:Bool) (c v:List (List Int)) (hc : ∀ l∈c,l.length≤9223372036854775807) (hv : ∀ l∈v,l.length≤9223372036854775807):RUN T zl2 [.agg [.sl 1 (rws q c),.sl 1 (rws q v)]]=some ([bv (zei c v)],[]):=by
 refine zag z7o rfl ?_
 have hR:=z1d q c v
 by_cases h1:zal c.length 1 4=true
 case neg=>simp [zms,zmt,zcb,-zbd,h1,zei]
 by_cases h2:(v.length:Int)=c.length
 case neg=>simp [zms,zmt,zcb,-zbd,h1,h2,zei]
 by_cases h3:zal (zd9 v) 1 40=true
 case neg=>simp [zms,zmt,zcb,-zbd,h1,h2,h3,hR,zei]
 have h1':=za2.mp h1
 rw [yzn h1 h2 h3]
 simp [zms,zmt,zcb,-zbd,h1,h2,h3,hR]
 refine za3 (fun n st => ∃ i:Nat,i+n=c.length∧(∀ j,j<i→zis c v j=true)∧st.V 1 = .ptr 0 none 0 0 0∧st.V 26 = .sl 1 (rws q c)∧st.V 27=iv c.length∧st.V 28=iv i∧0<st.nx∧st.S 0=some (.box [.sl 1 (rws q c),.sl 1 (rws q v)])) ?_ c.length _ ⟨0,by simp⟩
 rintro n st ⟨i,hi,hk,v1,v26,v27,v28,hnx,hS⟩
 simp [z5d,v26,v27,v28]
 have z:=fr hnx
 refine zb0 (fun h => ?_) (fun h => ?_)
 ·simp at h
  obtain ⟨a,ha⟩ : ∃ a,c[i]?=some a:=⟨_,List.getElem?_eq_getElem h⟩
  obtain ⟨b,hb⟩ : ∃ b,v[i]?=some b:=⟨_,List.getElem?_eq_getElem (by omega)⟩
  have ha':=zfi (q:=q) ha
  have hb':=zfi (q:=q) hb
  have hal:=hc a (List.mem_of_getElem? ha)
  have hbl:=hv b (List.mem_of_getElem? hb)
  have hC:=yop a hal
  have hF:=yor (f:=zl7) (c := .sl 1 (zac a)) (p:=fun n => !zal n 0 a.length) b hbl (by simp) (fun n _=>by simp)
  have hw:=wS h (by omega:c.length≤9223372036854775807)
  have hiv:i<v.length:=by omega
  have hfe:=ysx ha hb
  by_cases d1:zjw a=true
  ·rcases Classical.propComplete ((b.length:Int)=zd9 v) with d2 | d2
   ·by_cases d3:(b.all fun x=>zal x 0 a.length)=true
    ·have d3':(b.any fun n => !zal n 0 a.length)=false:=by simpa [List.any_eq_not_all_not] using d3
     simp [-getElem?_pos,v1,v26,v27,v28,hS,z,ha',hb',hC,hF,hR,hw,h,hiv,d1,d2,d3']
     exact zaq (n-1) (by omega) ⟨i+1,by omega,zj3 hk (by rw [hfe,d1,d3]; simp [d2]),by simp [v1],by simp [v26],by simp [v27],by simp,by simp,by simp [z,hS]⟩
    ·have d3':(b.any fun n => !zal n 0 a.length)=true:=by simpa [List.any_eq_not_all_not] using d3
     have no:=zi1 h (by rw [hfe,d1]; simp [d3]:zis c v i=false)
     simp [-getElem?_pos,v1,v26,v27,v28,hS,z,ha',hb',hC,hF,hR,hw,h,hiv,d1,d2,d3',no]
   ·have no:=zi1 h (by rw [hfe,d1]; simp [d2]:zis c v i=false)
    simp [-getElem?_pos,v1,v26,v27,v28,hS,z,ha',hb',hC,hF,hR,hw,h,hiv,d1,d2,no]
  ·have no:=zi1 h (by rw [hfe]; simp [d1]:zis c v i=false)
   simp [-getElem?_pos,v1,v26,v27,v28,hS,z,ha',hb',hC,hF,hR,hw,h,hiv,d1,no]
 ·simp at h
  have:=zrk (p:=zis c v) (n:=c.length) fun j hj=>hk j (by omega)
  simp [this]
def zrb (x:Int):Bool:=zal x (-2199023255552) 2199023255552
def zfw (c v:List (List Int)) (lab:List Int) (g:Cfg):Bool:=zei c v && za1 g && decide ((lab.length:Int)=zd9 v) && lab.all zrb
@[simp] theorem y34 (n:Int):RUN T zl3 [iv n]=some ([bv (!zrb n)],[]):=by
 refine zag z7p rfl ?_
 simp [zw8,zw9,zcb,-zbd,zrb]
theorem z8z (q:Bool) (c v:List (List Int)) (lab:List Int) (g:Cfg) (hc : ∀ l∈c,l.length≤9223372036854775807) (hv : ∀ l∈v,l.length≤9223372036854775807) (hlab:lab.length≤9223372036854775807) (hg:g.sg.length≤9223372036854775807):RUN T zlx [.agg [.sl 1 (rws q c),.sl 1 (rws q v)],.sl 1 (zac lab),zht g]=some ([bv (zfw c v lab g)],[]):=by
 refine zag z61 rfl ?_
 have e1:=z8y q c v hc hv
 have e2:=zy3 g hg
 have e3:=z1d q c v
 have e4:=z1a (f:=zl3) (p:=fun n => !zrb n) lab hlab (by simp) (fun n _=>by simp)
 unfold zfw
 cases d1:zei c v with
 | false=>simp [zmq,zmr,zht,e1,d1]
 | true =>
  cases d2:za1 g with
  | false=>simp [zmq,zmr,zht,e1,d1,e2,d2]
  | true =>
   rcases Classical.propComplete ((lab.length:Int)=zd9 v) with d3 | d3
   ·have d4:(!(lab.any fun n => !zrb n))=lab.all zrb:=by simp [List.any_eq_not_all_not]
    simp [zmq,zmr,zht,e1,d1,e2,d2,e3,d3,e4,d4]
   ·simp [zmq,zmr,zht,e1,d1,e2,d2,e3,d3]
theorem yc4 {α:Type} {f:α→List PV} {p:α→Prop} {tys:List TY} (h : ∀ cs,zbz tys cs→∃ a,f a=cs∧p a) : ∀ {es:List (List PV)},(∀ cs∈es,zbz tys cs)→∃ l:List α,l.map f=es∧∀ a∈l,p a
 | [],_=>⟨[],rfl,by simp⟩
 | e::es,hs=>by
  obtain ⟨a,ha,hp⟩:=h e (hs e (by simp))
  obtain ⟨l,hl,hq⟩:=yc4 h (es:=es) (fun cs hc=>hs cs (by simp [hc]))
  refine ⟨a::l,by simp [ha,hl],fun b hb => ?_⟩
  rcases List.mem_cons.mp hb with e | e
  ·subst e; exact hp
  ·exact hq b e
theorem yxq {P:Program} {l:List TypeId} (h:(l.all fun t=>P.readableRec t && decide (t<P.types.size))=true) : ∀ t∈l,P.readableRec t=true∧t<P.types.size:=by
 intro t ht
 have:=List.all_eq_true.mp h t ht
 simpa using this
theorem yrw {p:Bool×List TY} {pvs:List PV} (h:zc1 (fun p c=>zlg p.1 p.2 c) [p] pvs) : ∃ a,pvs=[a]∧zlg p.1 p.2 a:=by
 cases h with
 | cons h1 t=>cases t with
  | nil=>exact ⟨_,rfl,h1⟩
def zbl (B:List Int):List (List PV):=B.map fun n=>[.v (.int .u8 n)]
@[simp] theorem yre (B:List Int):(zbl B).length=B.length:=by simp [zbl]
theorem ydc {B:List Int} {i:Nat} {x:Int} (h:B[i]?=some x):(zbl B)[i]?=some [.v (.int .u8 x)]:=by simp [zbl,h]
def zik (rv:List RV) (io:Nat) (G:List PV×List PV→Prop) (_:Dm rv) (_:Dm G) (e:Ex) (s:St):Prop:=(e = .normal∨e = .ret)∧∃ r,ze0 ⟨[],rv,.skip⟩ io s=some r∧G r
@[simp] theorem y9v {rv:List RV} {io:Nat} {G:List PV×List PV→Prop} {s:St}:zik rv io G ⟨⟩ ⟨⟩ .normal s = ∃ r,ze0 ⟨[],rv,.skip⟩ io s=some r∧G r:=by simp [zik]
@[simp] theorem qao {rv:List RV} {io:Nat} {G:List PV×List PV→Prop} {s:St}:zik rv io G ⟨⟩ ⟨⟩ .ret s = ∃ r,ze0 ⟨[],rv,.skip⟩ io s=some r∧G r:=by simp [zik]
theorem zgz {T:zb2} {f:Nat} {ms:List Bool} {rv:List RV} {ic:IC} {G:List PV×List PV→Prop} (hT:T f=some (.code ⟨ms,rv,ic⟩)) {args:List PV} {st:St} (hi:zjs args=some st) (h:W (zad T) (RUN T) ic st (zik rv st.nx G ⟨⟩ ⟨⟩)) : ∃ r,RUN T f args=some r∧G r:=by
 unfold W at h
 obtain ⟨e,s,h1,h2,r,h3,hG⟩:=h
 refine ⟨r,yc2 hT ?_,hG⟩
 unfold ztj
 rw [hi]
 simp only [Option.bind_some,h1]
 rcases h2 with rfl | rfl <;> exact h3
attribute [irreducible] zik
theorem zzw (X:Nat):0≤IntKind.i64.wrap ((X &&& 255 % 2 ^ IntKind.i64.bits:Nat):Int)∧IntKind.i64.wrap ((X &&& 255 % 2 ^ IntKind.i64.bits:Nat):Int)≤255:=by
 have h:X &&& 255 % 2 ^ IntKind.i64.bits≤255:=Nat.le_trans Nat.and_le_right (by decide)
 rw [w64 (by omega) (by omega)]
 omega
def zgp (B:List Int) (P:PV→Prop) (r:List PV×List PV):Prop := ∃ (v:PV) (p:Nat) (s:Int),P v∧p≤B.length∧r=([v],[.bx [.sl 1 (zbl B),iv p,iv s]])
def PB (v:PV):Prop := ∃ b,v=bv b
def PM (l:List Int) (v:PV):Prop := ∃ n,v=iv n∧n∈l
def PI (v:PV):Prop := ∃ n,v=iv n∧inI n
def PN (n:Int) (v:PV):Prop := ∃ m,v=iv m∧0≤m∧(0<n→m<n)
theorem zsz (B:List Int) (p:Nat) (s:Int) (hp:p≤B.length) (hB:B.length≤9223372036854775807) : ∃ r,RUN T zhh [.bx [.sl 1 (zbl B),iv p,iv s]]=some r∧zgp B (fun v => ∃ n,v=iv n∧0≤n∧n≤255) r:=by
 refine zgz z6v rfl ?_
 by_cases h:p<B.length
 ·obtain ⟨x,hx⟩ : ∃ x,B[p]?=some x:=⟨_,List.getElem?_eq_getElem h⟩
  have hx':=ydc hx
  have hw:=wS h hB
  simp [-getElem?_pos,zr8,zr9,h,hx',hw]
  exact ⟨_,p+1,_,⟨_,rfl,(zzw _).1,(zzw _).2⟩,h,rfl⟩
 ·have h' : ¬ ((p:Int)<B.length):=by omega
  simp [-getElem?_pos,zr8,zr9,h,h']
  exact ⟨_,p,_,⟨_,rfl,(zzw _).1,(zzw _).2⟩,hp,rfl⟩
theorem zbv (B:List Int) (p:Nat) (s:Int) (hp:p≤B.length) (hB:B.length≤9223372036854775807) (n:Int) (hn:n≤9223372036854775807) : ∃ r,RUN T zbu [.bx [.sl 1 (zbl B),iv p,iv s],iv n]=some r∧zgp B (PN n) r:=by
 refine zgz z6a rfl ?_
 obtain ⟨r1,h1,v1,p1,s1,⟨a1,rfl,a10,a11⟩,hp1,rfl⟩:=zsz B p s hp hB
 by_cases c1:n≤0
 ·simp [-getElem?_pos,zp3,zp4,c1]
  exact ⟨_,p,s,⟨0,rfl,by omega,by omega⟩,hp,rfl⟩
 have c0 : ¬ (n=0):=by omega
 by_cases c2:n≤256
 ·simp [-getElem?_pos,zp3,zp4,c0,c1,c2,h1]
  refine ⟨_,p1,s1,⟨_,rfl,?_,fun _ => ?_⟩,hp1,rfl⟩
  ·exact Int.tmod_nonneg _ a10
  ·exact Int.tmod_lt_of_pos _ (by omega)
 obtain ⟨r2,h2,v2,p2,s2,⟨a2,rfl,a20,a21⟩,hp2,rfl⟩:=zsz B p1 s1 hp1 hB
 obtain ⟨r3,h3,v3,p3,s3,⟨a3,rfl,a30,a31⟩,hp3,rfl⟩:=zsz B p2 s2 hp2 hB
 obtain ⟨r4,h4,v4,p4,s4,⟨a4,rfl,a40,a41⟩,hp4,rfl⟩:=zsz B p3 s3 hp3 hB
 have w1:=w64 (x:=a1*16777216) (by omega) (by omega)
 have w2:=w64 (x:=a2*65536) (by omega) (by omega)
 have w3:=w64 (x:=a1*16777216+a2*65536) (by omega) (by omega)
 have w4:=w64 (x:=a3*256) (by omega) (by omega)
 have w5:=w64 (x:=a1*16777216+a2*65536+a3*256) (by omega) (by omega)
 have w6:=w64 (x:=a1*16777216+a2*65536+a3*256+a4) (by omega) (by omega)
 simp [-getElem?_pos,zp3,zp4,c0,c1,c2,h1,h2,h3,h4,w1,w2,w3,w4,w5,w6]
 refine ⟨_,p4,s4,⟨_,rfl,?_,fun _ => ?_⟩,hp4,rfl⟩
 ·exact Int.tmod_nonneg _ (by omega)
 ·exact Int.tmod_lt_of_pos _ (by omega)
theorem zga (B:List Int) (p:Nat) (s:Int) (hp:p≤B.length) (hB:B.length≤9223372036854775807) (n:Int) (hn:n≤9223372036854775807) : ∃ r,RUN T zfp [.bx [.sl 1 (zbl B),iv p,iv s],iv n]=some r∧zgp B PB r:=by
 refine zgz z5u rfl ?_
 obtain ⟨r1,h1,v1,p1,s1,⟨a1,rfl,a10,a11⟩,hp1,rfl⟩:=zbv B p s hp hB n hn
 simp [-getElem?_pos,zux,zuy,h1]
 exact ⟨_,p1,s1,⟨_,rfl⟩,hp1,rfl⟩
def ywt (B:List Int) (l:List Int) (P:PV→Prop) (r:List PV×List PV):Prop := ∃ (v:PV) (p:Nat) (s:Int),P v∧p≤B.length∧r=([v],[.bx [.sl 1 (zbl B),iv p,iv s],.own 1 (zac l)])
theorem zij (B:List Int) (p:Nat) (s:Int) (hp:p≤B.length) (hB:B.length≤9223372036854775807) (l:List Int) (hl:0<l.length∧l.length≤9223372036854775807) : ∃ r,RUN T ze8 [.bx [.sl 1 (zbl B),iv p,iv s],.own 1 (zac l)]=some r∧ywt B l (PM l) r:=by
 refine zgz z6l rfl ?_
 obtain ⟨r1,h1,v1,p1,s1,⟨a1,rfl,a10,a11⟩,hp1,rfl⟩:=zbv B p s hp hB l.length (by omega)
 obtain ⟨i,rfl⟩ : ∃ i:Nat,a1=i:=⟨a1.toNat,by omega⟩
 have hi:i<l.length:=by have:=a11 (by omega); omega
 obtain ⟨x,hx⟩ : ∃ x,l[i]?=some x:=⟨_,List.getElem?_eq_getElem hi⟩
 have hx':=zbp hx
 simp [-getElem?_pos,zvp,zvq,h1,hx',hi]
 exact ⟨_,p1,s1,⟨x,rfl,List.mem_of_getElem? hx⟩,hp1,rfl⟩
theorem yqk (x:Int):inI (IntKind.i64.wrap x):=by
 unfold inI IntKind.wrap
 simp [IntKind.bits,IntKind.signed]
 omega
theorem yos (B:List Int) (p:Nat) (s:Int) (hp:p≤B.length) (hB:B.length≤9223372036854775807) : ∃ r,RUN T zok [.bx [.sl 1 (zbl B),iv p,iv s]]=some r∧zgp B PI r:=by
 refine zgz z6b rfl ?_
 obtain ⟨r1,h1,v1,p1,s1,⟨a1,rfl,a10,a11⟩,hp1,rfl⟩:=zbv B p s hp hB 4 (by omega)
 by_cases c0:a1=0
 ·obtain ⟨r2,h2,v2,p2,s2,⟨a2,rfl,hm⟩,hp2,rfl⟩:=zij B p1 s1 hp1 hB [0,1,-1,9,10,999,1000,2147483647,-2147483648,3037000499,3037000500,9223372036854775807,-9223372036854775807,-9223372036854775808] (by simp)
  simp only [zac,List.map] at h2
  simp [-getElem?_pos,zmm,zmn,h1,c0,h2]
  refine ⟨_,p2,s2,⟨a2,rfl,?_⟩,hp2,rfl⟩
  simp at hm
  unfold inI
  omega
 by_cases c1:a1=1
 ·simp [-getElem?_pos,zmm,zmn,h1,c0,c1]
  refine za3 (fun n st => ∃ (i p:Nat) (x s:Int),i+n=8∧p≤B.length∧inI x∧st.V 0 = .ptr 0 none 0 0 0∧st.V 3=iv x∧st.V 4=iv i∧0<st.nx∧st.ep=0∧st.S 0=some (.box [.sl 1 (zbl B),iv p,iv s])) ?_ 8 _ ⟨0,p1,0,s1,by omega,hp1,by unfold inI; omega,by simp⟩
  clear h1
  rintro n st ⟨i,p,x,s,hi,hp,hx,v0,v3,v4,hnx,hep,hS⟩
  simp [z44,v4]
  refine zb0 (fun h => ?_) (fun h => ?_)
  ·simp at h
   obtain ⟨r2,h2,v2,p2,s2,⟨a2,rfl,a20,a21⟩,hp2,rfl⟩:=zsz B p s hp hB
   have w:=w64 (x:=(i:Int)+1) (by omega) (by omega)
   simp [-getElem?_pos,v0,v3,v4,hep,hS,h2,w]
   exact zaq (n-1) (by omega) ⟨i+1,p2,_,s2,by omega,hp2,yqk _,by simp [v0],by simp; rfl,by simp,by simp [hnx],by simp [hep],by simp⟩
  ·simp [-getElem?_pos,v3,v0,hS]
   exact ⟨_,p,s,⟨x,rfl,hx⟩,hp,rfl⟩
 by_cases c2:a1=2
 ·obtain ⟨r2,h2,v2,p2,s2,⟨a2,rfl,a20,a21⟩,hp2,rfl⟩:=zbv B p1 s1 hp1 hB 1000000 (by omega)
  have a22:=a21 (by omega)
  have w:=w64 (x:=a2-500000) (by omega) (by omega)
  simp [-getElem?_pos,zmm,zmn,h1,c0,c1,c2,h2,w]
  exact ⟨_,p2,s2,⟨_,rfl,by unfold inI; omega⟩,hp2,rfl⟩
 ·obtain ⟨r2,h2,v2,p2,s2,⟨a2,rfl,a20,a21⟩,hp2,rfl⟩:=zbv B p1 s1 hp1 hB 41 (by omega)
  have a22:=a21 (by omega)
  have w:=w64 (x:=a2-20) (by omega) (by omega)
  simp [-getElem?_pos,zmm,zmn,h1,c0,c1,c2,h2,w]
  exact ⟨_,p2,s2,⟨_,rfl,by unfold inI; omega⟩,hp2,rfl⟩
theorem yot (B:List Int) (hB:B.length≤9223372036854775807) : ∃ r,RUN T zop [.sl 1 (zbl B)]=some r∧∃ s:Int,r=([.bx [.sl 1 (zbl B),iv (0:Nat),iv s]],[]):=by
 refine zgz z6f rfl ?_
 simp [-getElem?_pos,zvm,zvn]
 refine za3 (fun n st => ∃ (i:Nat) (x:Int),i+n=B.length∧st.V 0 = .sl 1 (zbl B)∧st.V 3=iv x∧st.V 4=iv i) ?_ B.length _ ⟨0,_,by omega,by simp,by simp; rfl,by simp⟩
 rintro n st ⟨i,x,hi,v0,v3,v4⟩
 by_cases h:i<B.length
 ·obtain ⟨b,hx⟩ : ∃ b,B[i]?=some b:=⟨_,List.getElem?_eq_getElem h⟩
  have hx':=ydc hx
  have hw:=wS h hB
  by_cases h2:(i:Int)<4000
  ·have h2':=eq_true h2
   simp [-getElem?_pos,zvl,v0,v3,v4,h,h2',hx',hw]
   exact zaq (n-1) (by omega) ⟨i+1,_,by omega,by simp [v0],by simp; rfl,by simp⟩
  ·have h2':=eq_false h2
   simp [-getElem?_pos,zvl,v0,v3,v4,h,h2']
 ·simp [-getElem?_pos,zvl,v0,v3,v4,h]
def adi (a b:Int):Int×Bool:=if -9223372036854775808≤a+b∧a+b≤9223372036854775807 then (a+b,true) else (0,false)
theorem yto {a b:Int} (ha:inI a) (hb:inI b):IntKind.i64.wrap (a+b)=if 9223372036854775807<a+b then a+b-18446744073709551616 else if a+b < -9223372036854775808 then a+b+18446744073709551616 else a+b:=by
 unfold inI at ha hb
 unfold IntKind.wrap
 simp [IntKind.bits,IntKind.signed]
 omega
theorem zy4 (a b:Int) (ha:inI a) (hb:inI b):RUN T zjb [iv a,iv b]=some ([iv (adi a b).1,bv (adi a b).2],[]):=by
 refine zag z57 rfl ?_
 have hw:=yto ha hb
 unfold inI at ha hb
 unfold adi
 by_cases c1:9223372036854775807<a+b
 ·rw [if_pos c1] at hw
  rw [if_neg (by omega)]
  have d1:=eq_false (by omega : ¬ a<0)
  have d2:=eq_false (by omega : ¬ b<0)
  have d3:=eq_true (by omega:a+b-18446744073709551616<0)
  simp [-getElem?_pos,zjk,zjl,hw,d1,d2,d3]
 ·rw [if_neg c1] at hw
  by_cases c2:a+b < -9223372036854775808
  ·rw [if_pos c2] at hw
   rw [if_neg (by omega)]
   have d1:=eq_true (by omega:a<0)
   have d2:=eq_true (by omega:b<0)
   have d3:=eq_false (by omega : ¬ a+b+18446744073709551616<0)
   simp [-getElem?_pos,zjk,zjl,hw,d1,d2,d3]
  ·rw [if_neg c2] at hw
   rw [if_pos (by omega)]
   rcases Classical.propComplete (a<0) with d1 | d1
   all_goals rcases Classical.propComplete (b<0) with d2 | d2
   all_goals simp at d1 d2
   ·have d3:=eq_true (by omega:a+b<0)
    simp [-getElem?_pos,zjk,zjl,hw,eq_true d1,eq_true d2,d3]
   ·have d2':=eq_false (by omega : ¬ b<0)
    simp [-getElem?_pos,zjk,zjl,hw,eq_true d1,d2']
   ·have d1':=eq_false (by omega : ¬ a<0)
    simp [-getElem?_pos,zjk,zjl,hw,eq_true d2,d1']
   ·have d1':=eq_false (by omega : ¬ a<0)
    have d2':=eq_false (by omega : ¬ b<0)
    have d3:=eq_false (by omega : ¬ a+b<0)
    simp [-getElem?_pos,zjk,zjl,hw,d1',d2',d3]
def zi5:Int→List Int→Option Int
 | t,[]=>some t
 | t,x::xs=>if (adi t x).2 then zi5 (adi t x).1 xs else none
def zct (l:List Int):Int×Bool:=match zi5 0 l with
 | some t=>fdv t l.length
 | none=>(0,false)
theorem z4h {a b:Int} (ha:inI a):inI (adi a b).1:=by
 unfold adi
 split
 ·rename_i h; exact h
 ·unfold inI; omega
theorem yov (l:List Int) (hl:l.length≤9223372036854775807) (hin : ∀ n∈l,inI n):RUN T zn4 [.sl 1 (zac l)]=some ([iv (zct l).1,bv (zct l).2],[]):=by
 refine zag z5l rfl ?_
 simp [-getElem?_pos,zuh,zui]
 refine za3 (fun n st => ∃ (i:Nat) (t:Int),i+n=l.length∧inI t∧zi5 t (l.drop i)=zi5 0 l∧st.V 0 = .sl 1 (zac l)∧st.V 4=iv t∧st.V 9 = .sl 1 (zac l)∧st.V 10=iv l.length∧st.V 11=iv i) ?_ l.length _ ⟨0,0,by omega,by unfold inI; omega,by simp,by simp,by simp,by simp,by simp,by simp⟩
 rintro n st ⟨i,t,hi,ht,hb,v0,v4,v9,v10,v11⟩
 simp [z4z,v10,v11]
 refine zb0 (fun h => ?_) (fun h => ?_)
 ·simp at h
  obtain ⟨x,hx⟩ : ∃ x,l[i]?=some x:=⟨_,List.getElem?_eq_getElem h⟩
  have hx':=zbp hx
  have hw:=wS h hl
  have ha:=zy4 t x ht (hin x (List.mem_of_getElem? hx))
  rw [zd7 hx,zi5] at hb
  cases c:(adi t x).2 with
  | true =>
   rw [if_pos c] at hb
   rw [c] at ha
   simp [-getElem?_pos,v0,v4,v9,v10,v11,hx',h,ha,hw]
   exact zaq (n-1) (by omega) ⟨i+1,_,by omega,z4h ht,hb,by simp [v0],by simp,by simp [v9],by simp [v10],by simp⟩
  | false =>
   rw [if_neg (by simp [c])] at hb
   rw [c] at ha
   have:zct l=(0,false):=by unfold zct; rw [← hb]
   simp [-getElem?_pos,v0,v4,v9,v10,v11,hx',h,ha,hw,this]
 ·simp at h
  rw [List.drop_eq_nil_of_le h,zi5] at hb
  have hf:=z1b t l.length ht
  have e:zct l=fdv t l.length:=by unfold zct; rw [← hb]
  simp [-getElem?_pos,v0,v4,hf,e]
theorem yow (es:List (List PV)):RUN T znz [.sl 1 es]=some ([bv (decide ((1048576:Int)<es.length))],[]):=by
 refine zag z5g rfl ?_
 simp [-getElem?_pos,zub,zuc]
theorem yy7 {x y:Nd}:x=y↔x.f=y.f∧x.c=y.c∧x.l=y.l∧x.r=y.r∧x.v=y.v:=by
 cases x; cases y; simp
open Classical in
theorem yox (t u:List Nd) (ht:t.length≤9223372036854775807) (hu:u.length≤9223372036854775807):RUN T zn3 [.agg [.sl 5 (t.map nd)],.agg [.sl 5 (u.map nd)]]=some ([bv (decide (t=u))],[]):=by
 refine zag z5k rfl ?_
 rcases Classical.propComplete ((t.length:Int)=u.length) with hl | hl
 case inr =>
  have:decide (t=u)=false:=by simp; rintro rfl; simp at hl
  simp [-getElem?_pos,zrr,zrs,hl,this]
 simp [-getElem?_pos,zrr,zrs,hl]
 have hlen:t.length=u.length:=by simp at hl; omega
 refine za3 (fun n st => ∃ i:Nat,i+n=t.length∧(∀ j,j<i→t[j]?=u[j]?)∧st.V 2 = .ptr 0 none 0 0 0∧st.V 3 = .ptr 1 none 0 0 0∧st.V 5=iv i∧st.S 0=some (.box [.sl 5 (t.map nd)])∧st.S 1=some (.box [.sl 5 (u.map nd)])) ?_ t.length _ ⟨0,by simp⟩
 rintro n st ⟨i,hi,hj,v2,v3,v5,hS,hS1⟩
 simp [z4y,v2,v3,v5,hS]
 refine zb0 (fun h => ?_) (fun h => ?_)
 ·simp at h
  obtain ⟨x,hx⟩ : ∃ x,t[i]?=some x:=⟨_,List.getElem?_eq_getElem h⟩
  obtain ⟨y,hy⟩ : ∃ y,u[i]?=some y:=⟨_,List.getElem?_eq_getElem (by omega)⟩
  have hw:=wS h ht
  have hiu:i<u.length:=by omega
  rcases Classical.propComplete (x.f=y.f∧x.c=y.c∧x.l=y.l∧x.r=y.r∧x.v=y.v) with e | e
  ·simp [-getElem?_pos,v2,v3,v5,hS,hS1,hx,hy,nd,h,hiu,hw,yf6,e]
   refine zaq (n-1) (by omega) ⟨i+1,by omega,zj3 hj ?_,by simp [v2],by simp [v3],by simp,by simp [hS],by simp [hS1]⟩
   rw [hx,hy,yy7.mpr (of_eq_true e)]
  ·have:decide (t=u)=false:=by
    simp
    rintro rfl
    rw [hx] at hy
    cases hy
    simp at e
   simp [-getElem?_pos,v2,v3,v5,hS,hS1,hx,hy,nd,h,hiu,hw,yf6,e,this]
 ·simp at h
  have:t=u:=by
   apply List.ext_getElem?
   intro j
   by_cases c:j<i
   ·exact hj j c
   ·rw [List.getElem?_eq_none (by omega),List.getElem?_eq_none (by omega)]
  simp [this]
def sbi (a b:Int):Int×Bool:=if -9223372036854775808≤a-b∧a-b≤9223372036854775807 then (a-b,true) else (0,false)
theorem ywk {a b:Int} (ha:inI a) (hb:inI b):IntKind.i64.wrap (a-b)=if 9223372036854775807<a-b then a-b-18446744073709551616 else if a-b < -9223372036854775808 then a-b+18446744073709551616 else a-b:=by
 unfold inI at ha hb
 unfold IntKind.wrap
 simp [IntKind.bits,IntKind.signed]
 omega
theorem z1e (a b:Int) (ha:inI a) (hb:inI b):RUN T zkl [iv a,iv b]=some ([iv (sbi a b).1,bv (sbi a b).2],[]):=by
 refine zag z60 rfl ?_
 have hw:=ywk ha hb
 unfold inI at ha hb
 unfold sbi
 by_cases c1:9223372036854775807<a-b
 ·rw [if_pos c1] at hw
  rw [if_neg (by omega)]
  have d1:=eq_false (by omega : ¬ a<0)
  have d2:=eq_true (by omega:b<0)
  have d3:=eq_true (by omega:a-b-18446744073709551616<0)
  simp [-getElem?_pos,zjn,zjo,hw,d1,d2,d3]
 ·rw [if_neg c1] at hw
  by_cases c2:a-b < -9223372036854775808
  ·rw [if_pos c2] at hw
   rw [if_neg (by omega)]
   have d1:=eq_true (by omega:a<0)
   have d2:=eq_false (by omega : ¬ b<0)
   have d3:=eq_false (by omega : ¬ a-b+18446744073709551616<0)
   simp [-getElem?_pos,zjn,zjo,hw,d1,d2,d3]
  ·rw [if_neg c2] at hw
   rw [if_pos (by omega)]
   rcases Classical.propComplete (a<0) with d1 | d1
   all_goals rcases Classical.propComplete (b<0) with d2 | d2
   all_goals simp at d1 d2
   ·simp [-getElem?_pos,zjn,zjo,hw,eq_true d1,eq_true d2]
   ·have d2':=eq_false (by omega : ¬ b<0)
    have d3:=eq_true (by omega:a-b<0)
    simp [-getElem?_pos,zjn,zjo,hw,eq_true d1,d2',d3]
   ·have d1':=eq_false (by omega : ¬ a<0)
    have d3:=eq_false (by omega : ¬ a-b<0)
    simp [-getElem?_pos,zjn,zjo,hw,eq_true d2,d1',d3]
   ·have d1':=eq_false (by omega : ¬ a<0)
    have d2':=eq_false (by omega : ¬ b<0)
    simp [-getElem?_pos,zjn,zjo,hw,d1',d2']
def res:List Int→List Int→Option (List Int)
 | x::xs,y::ys=>if (sbi x y).2 then (res xs ys).map ((sbi x y).1 :: ·) else none
 | _,_=>some []
theorem yri {l m:List Int} {i:Nat} {x y:Int} (hx:l[i]?=some x) (hy:m[i]?=some y):res (l.drop i) (m.drop i)=if (sbi x y).2 then (res (l.drop (i+1)) (m.drop (i+1))).map ((sbi x y).1 :: ·) else none:=by
 rw [zd7 hx,zd7 hy,res]
theorem yd8 (m:List Int):res [] m=some []:=by cases m <;> rfl
def zdn (l m:List Int):List Int×Bool:=if l.length=m.length then match res l m with
  | some r=>(r,true)
  | none=>([],false)
 else ([],false)
theorem z2h : ∀ {l m r:List Int},l.length=m.length→res l m=some r→r.length=l.length∧∀ (i:Nat) (x y z:Int),l[i]?=some x→m[i]?=some y→r[i]?=some z→z=x-y ∧ -9223372036854775808≤x-y∧x-y≤9223372036854775807
 | [],[],r,_,h=>by simp [res] at h; subst h; simp
 | x::xs,y::ys,r,hl,h=>by
  rw [res] at h
  split at h
  ·rename_i c
   simp only [Option.map_eq_some_iff] at h
   obtain ⟨r',hr,rfl⟩:=h
   obtain ⟨h1,h2⟩:=z2h (by simpa using hl) hr
   refine ⟨by simp [h1],fun i a b z ha hb hz => ?_⟩
   cases i with
   | zero =>
    simp at ha hb hz
    subst ha hb hz
    unfold sbi at c ⊢
    split at c
    ·rename_i hh; rw [if_pos hh]; exact ⟨rfl,hh⟩
    ·cases c
   | succ i=>exact h2 i a b z (by simpa using ha) (by simpa using hb) (by simpa using hz)
  ·cases h
 | [],_::_,_,hl,_=>by simp at hl
 | _::_,[],_,hl,_=>by simp at hl
theorem yoy (l m:List Int) (hl:l.length≤1048576) (hm:m.length≤1048576) (hli : ∀ n∈l,inI n) (hmi : ∀ n∈m,inI n):RUN T zom [.sl 1 (zac l),.sl 1 (zac m)]=some ([.own 1 (zac (zdn l m).1),bv (zdn l m).2],[]):=by
 refine zag z6d rfl ?_
 unfold zdn
 rcases Classical.propComplete ((l.length:Int)=m.length) with e | e
 case inr =>
  rw [if_neg (by simp at e; omega)]
  simp [-getElem?_pos,zrx,zry,e]
 have e':l.length=m.length:=by simp at e; omega
 rw [if_pos e']
 simp [-getElem?_pos,zrx,zry,e]
 refine za3 (fun n st => ∃ (i o e:Nat) (a:List Int),i+n=l.length∧a.length=i∧(res (l.drop i) (m.drop i)).map (a ++ ·)=res l m∧st.V 0 = .sl 1 (zac l)∧st.V 1 = .sl 1 (zac m)∧st.V 6 = .ref o none e 0 a.length∧st.V 17=iv l.length∧st.V 18=iv i∧o<st.nx∧st.ep=0∧st.S o=some (.row 1 (zac a))) ?_ l.length _ ⟨0,0,0,[],by omega,rfl,by simp,by simp⟩
 rintro n st ⟨i,o,ep,a,hi,ha,hr,v0,v1,v6,v17,v18,hox,hep,hSo⟩
 simp [z45,v17,v18]
 refine zb0 (fun h => ?_) (fun h => ?_)
 ·simp at h
  obtain ⟨x,hx⟩ : ∃ x,l[i]?=some x:=⟨_,List.getElem?_eq_getElem h⟩
  obtain ⟨y,hy⟩ : ∃ y,m[i]?=some y:=⟨_,List.getElem?_eq_getElem (by omega)⟩
  have hx':=zbp hx
  have hy':=zbp hy
  have him:i<m.length:=by omega
  have hw:=wS h (by omega:l.length≤9223372036854775807)
  have hsub:=z1e x y (hli x (List.mem_of_getElem? hx)) (hmi y (List.mem_of_getElem? hy))
  rw [yri hx hy] at hr
  have z1:=fr hox
  have hr8:=zd8 (n:=a.length+1) (by omega)
  cases c:(sbi x y).2 with
  | true =>
   rw [if_pos c] at hr
   rw [c] at hsub
   simp [-getElem?_pos,v0,v1,v6,v17,v18,hep,hSo,z1,hx',hy',h,him,hsub,hr8,zdd,hw]
   refine zaq (n-1) (by omega) ⟨i+1,st.nx+1,0,a++[(sbi x y).1],by omega,by simp [ha],?_,by simp [v0],by simp [v1],by simp,by simp [v17],by simp,by simp,by simp [hep],by simp⟩
   rw [← hr]
   cases res (l.drop (i+1)) (m.drop (i+1)) <;> simp
  | false =>
   rw [if_neg (by simp [c])] at hr
   rw [c] at hsub
   simp at hr
   simp [-getElem?_pos,v0,v1,v6,v17,v18,hep,hSo,z1,hx',hy',h,him,hsub,← hr]
 ·simp at h
  rw [List.drop_eq_nil_of_le h,yd8] at hr
  simp at hr
  rw [← hr]
  simp [-getElem?_pos,v6,hSo]
def PC (n:Nat) (v:PV):Prop := ∃ c:Cfg,v=zld c∧c.sg.length≤n
def LC (S:Nat→Option Ob) (nx:Nat) (lo:Nat) (m:List Int) (x:PV):Prop:=(x = .e0∧m=[])∨∃ o e,x = .ref o none e 0 m.length∧lo<o∧o<nx∧S o=some (.row 1 (zac m))
theorem z80 (B:List Int) (p:Nat) (s:Int) (hp:p≤B.length) (hB:B.length≤9223372036854775807) : ∃ r,RUN T zlo [.bx [.sl 1 (zbl B),iv p,iv s]]=some r∧zgp B (PC 60) r:=by
 refine zgz z6h rfl ?_
 obtain ⟨r1,h1,v1,p1,s1,⟨a1,rfl,a10,a11⟩,hp1,rfl⟩:=zbv B p s hp hB 4 (by omega)
 obtain ⟨r2,h2,v2,p2,s2,⟨a2,rfl,a20,a21⟩,hp2,rfl⟩:=zbv B p1 s1 hp1 hB 4 (by omega)
 obtain ⟨r3,h3,v3,p3,s3,⟨a3,rfl,a30,a31⟩,hp3,rfl⟩:=zbv B p2 s2 hp2 hB 5 (by omega)
 obtain ⟨r4,h4,v4,p4,s4,⟨a4,rfl,a40,a41⟩,hp4,rfl⟩:=zbv B p3 s3 hp3 hB 3 (by omega)
 obtain ⟨r5,h5,v5,p5,s5,⟨a5,rfl,a50,a51⟩,hp5,rfl⟩:=zbv B p4 s4 hp4 hB 3 (by omega)
 obtain ⟨r6,h6,v6,p6,s6,⟨a6,rfl,a60,a61⟩,hp6,rfl⟩:=zbv B p5 s5 hp5 hB 3 (by omega)
 obtain ⟨r7,h7,v7,p7,s7,⟨b1,rfl⟩,hp7,rfl⟩:=zga B p6 s6 hp6 hB 8 (by omega)
 have w6:IntKind.i64.wrap (1+a6)=1+a6:=by have:=a61 (by omega); exact w64 (by omega) (by omega)
 have key : ∀ (k:Int) (x0 x1 x2 x3 x4 x5 x6:Int) (st:St) (p:Nat) (s:Int),0≤k→k≤60→p≤B.length→st.V 0 = .ptr 0 none 0 0 0→st.V 2 = .ptr 1 none 0 0 0→st.V 3 = .ptr 2 none 0 0 0→st.V 4=iv k→st.V 5=iv (0:Nat)→st.nx=3→st.S 0=some (.box [.sl 1 (zbl B),iv p,iv s])→st.S 1=some (.box [iv 0,iv 0,iv 0,iv 0,iv 0,iv 0,iv 0,.e0])→st.S 2=some (.box [iv x0,iv x1,iv x2,iv x3,iv x4,iv x5,iv x6,.e0])→W (zad T) (RUN T) (.loop z0y) st (Bl 0 (Nx (fun s=>W (zad T) (RUN T) (.seq (.reg [⟨some (.E 53),.load true 8 (.V 3),none⟩,⟨none,.store [0,0,0,0,0,0,0,1] (.V 2) (.E 53),none⟩]) .ret) s (zik [.cell [0,0,0,0,0,0,0,1] 2 true] 1 (zgp B (PC 60)) ⟨⟩ ⟨⟩)) (zik [.cell [0,0,0,0,0,0,0,1] 2 true] 1 (zgp B (PC 60)) ⟨⟩ ⟨⟩) ⟨⟩ ⟨⟩) ⟨⟩):=by
  intro k x0 x1 x2 x3 x4 x5 x6 st p s hk0 hk hp v0 v2 v3 v4 v5 hnx hS hS1 hS2
  obtain ⟨kn,rfl⟩ : ∃ n:Nat,k=n:=⟨k.toNat,by omega⟩
  refine za3 (fun n st => ∃ (i p:Nat) (s:Int) (m:List Int) (x:PV),i+n=kn∧m.length=i∧p≤B.length∧st.V 0 = .ptr 0 none 0 0 0∧st.V 2 = .ptr 1 none 0 0 0∧st.V 3 = .ptr 2 none 0 0 0∧st.V 4=iv kn∧st.V 5=iv i∧2<st.nx∧LC st.S st.nx 2 m x∧st.S 0=some (.box [.sl 1 (zbl B),iv p,iv s])∧st.S 1=some (.box [iv 0,iv 0,iv 0,iv 0,iv 0,iv 0,iv 0,.e0])∧st.S 2=some (.box [iv x0,iv x1,iv x2,iv x3,iv x4,iv x5,iv x6,x])) ?_ kn _ ⟨0,p,s,[],.e0,by omega,rfl,hp,v0,v2,v3,v4,v5,by omega,.inl ⟨rfl,rfl⟩,hS,hS1,hS2⟩
  clear v0 v2 v3 v4 v5 hnx hS hS1 hS2 hp
  rintro n st ⟨i,p,s,m,x,hi,hm,hp,v0,v2,v3,v4,v5,hnx,hx,hS,hS1,hS2⟩
  have z1:=fr hnx
  have z2:=fr (by omega:0<st.nx)
  have z3:=fr (by omega:1<st.nx)
  simp [z0y,v4,v5]
  refine zb0 (fun h => ?_) (fun h => ?_)
  ·simp at h
   have hw:=w64 (x:=(i:Int)+1) (by omega) (by omega)
   obtain ⟨r1,h1,v1,p1,s1,⟨a,rfl,a0,a1⟩,hp1,rfl⟩:=zbv B p s hp hB 3 (by omega)
   have a2:=a1 (by omega)
   have w:=w64 (x:=a-1) (by omega) (by omega)
   rcases hx with ⟨rfl,rfl⟩ | ⟨o,e,rfl,ho,hox,hSo⟩
   ·have hr8:zam 8 1=true:=by decide
    have hone:[[iv (a-1)]]=zac [a-1]:=rfl
    simp [-getElem?_pos,v0,v2,v3,v4,v5,hS,hS1,hS2,z1,z2,z3,h1,w,hw,hr8]
    exact zaq (n-1) (by omega) ⟨i+1,p1,s1,[a-1],.ref (st.nx+1) none st.ep 0 1,by omega,by simp at hm; simp; omega,hp1,by simp [v0],by simp [v2],by simp [v3],by simp [v4],by simp,by simp; omega,.inr ⟨st.nx+1,st.ep,rfl,by omega,by simp,by
     have n2 : ¬ st.nx+1=2:=by omega
     simp [n2,zac]⟩,by simp [z1,z2,z3],by simp [z1,z2,z3,hS1],by simp⟩
   ·have hr8:=zd8 (n:=m.length+1) (by omega)
    have y1:=fr hox
    have y2:=fr ho
    have y3:=fr (by omega:0<o)
    have y4:=fr (by omega:1<o)
    simp [-getElem?_pos,v0,v2,v3,v4,v5,hS,hS1,hS2,hSo,z1,z2,z3,y1,y2,y3,y4,h1,w,hw,hr8,zdd]
    exact zaq (n-1) (by omega) ⟨i+1,p1,s1,m++[a-1],.ref (st.nx+1) none st.ep 0 (m.length+1),by omega,by simp [hm],hp1,by simp [v0],by simp [v2],by simp [v3],by simp [v4],by simp,by simp; omega,.inr ⟨st.nx+1,st.ep,by simp,by omega,by simp,by
     have n2 : ¬ st.nx+1=2:=by omega
     simp [n2]⟩,by simp [z1,z2,z3,y1,y2,y3,y4],by simp [z1,z2,z3,y1,y2,y3,y4,hS1],by simp⟩
  ·simp at h
   rcases hx with ⟨rfl,rfl⟩ | ⟨o,e,rfl,ho,hox,hSo⟩
   ·simp [-getElem?_pos,v0,v2,v3,hS,hS1,hS2]
    exact ⟨_,p,s,⟨⟨x0,x1,x2,x3,x4,x5,x6,[]⟩,rfl,by simp⟩,hp,rfl⟩
   ·have y2:=fr ho
    have y3:=fr (by omega:0<o)
    have y4:=fr (by omega:1<o)
    have y5:1≤o:=by omega
    simp [-getElem?_pos,v0,v2,v3,hS,hS1,hS2,hSo,y2,y3,y4,y5]
    exact ⟨_,p,s,⟨⟨x0,x1,x2,x3,x4,x5,x6,m⟩,rfl,by simp only; omega⟩,hp,rfl⟩
 cases b1 with
 | true =>
  obtain ⟨r8,h8,v8,p8,s8,⟨a8,rfl,a80,a81⟩,hp8,rfl⟩:=zbv B p7 s7 hp7 hB 100 (by omega)
  obtain ⟨r9,h9,v9,p9,s9,⟨b2,rfl⟩,hp9,rfl⟩:=zga B p8 s8 hp8 hB 4 (by omega)
  cases b2 with
  | true =>
   obtain ⟨r10,h10,v10,p10,s10,⟨a10',rfl,_,_⟩,hp10,rfl⟩:=zbv B p9 s9 hp9 hB (1+a6) (by have:=a61 (by omega); omega)
   obtain ⟨r11,h11,v11,p11,s11,⟨k,rfl,k0,k1⟩,hp11,rfl⟩:=zbv B p10 s10 hp10 hB 5 (by omega)
   have k2:=k1 (by omega)
   simp [-getElem?_pos,zmo,zmp,h1,h2,h3,h4,h5,h6,h7,h8,h9,h10,h11,w6]
   exact key k _ _ _ _ _ _ _ _ p11 s11 k0 (by omega) hp11 (by simp) (by simp) (by simp) (by simp) (by simp) (by simp) (by simp) (by simp) (by simp; exact ⟨rfl,rfl,rfl,rfl,rfl,rfl,rfl⟩)
  | false =>
   obtain ⟨r11,h11,v11,p11,s11,⟨k,rfl,k0,k1⟩,hp11,rfl⟩:=zbv B p9 s9 hp9 hB 5 (by omega)
   have k2:=k1 (by omega)
   simp [-getElem?_pos,zmo,zmp,h1,h2,h3,h4,h5,h6,h7,h8,h9,h11,w6]
   exact key k _ _ _ _ _ _ _ _ p11 s11 k0 (by omega) hp11 (by simp) (by simp) (by simp) (by simp) (by simp) (by simp) (by simp) (by simp) (by simp; exact ⟨rfl,rfl,rfl,rfl,rfl,rfl,rfl⟩)
 | false =>
  obtain ⟨r9,h9,v9,p9,s9,⟨b2,rfl⟩,hp9,rfl⟩:=zga B p7 s7 hp7 hB 4 (by omega)
  cases b2 with
  | true =>
   obtain ⟨r10,h10,v10,p10,s10,⟨a10',rfl,_,_⟩,hp10,rfl⟩:=zbv B p9 s9 hp9 hB (1+a6) (by have:=a61 (by omega); omega)
   obtain ⟨r11,h11,v11,p11,s11,⟨k,rfl,k0,k1⟩,hp11,rfl⟩:=zbv B p10 s10 hp10 hB 5 (by omega)
   have k2:=k1 (by omega)
   simp [-getElem?_pos,zmo,zmp,h1,h2,h3,h4,h5,h6,h7,h9,h10,h11,w6]
   exact key k _ _ _ _ _ _ _ _ p11 s11 k0 (by omega) hp11 (by simp) (by simp) (by simp) (by simp) (by simp) (by simp) (by simp) (by simp) (by simp; exact ⟨rfl,rfl,rfl,rfl,rfl,rfl,rfl⟩)
  | false =>
   obtain ⟨r11,h11,v11,p11,s11,⟨k,rfl,k0,k1⟩,hp11,rfl⟩:=zbv B p9 s9 hp9 hB 5 (by omega)
   have k2:=k1 (by omega)
   simp [-getElem?_pos,zmo,zmp,h1,h2,h3,h4,h5,h6,h7,h9,h11,w6]
   exact key k _ _ _ _ _ _ _ _ p11 s11 k0 (by omega) hp11 (by simp) (by simp) (by simp) (by simp) (by simp) (by simp) (by simp) (by simp) (by simp; exact ⟨rfl,rfl,rfl,rfl,rfl,rfl,rfl⟩)
theorem z81 (B:List Int) (p:Nat) (s:Int) (hp:p≤B.length) (hB:B.length≤9223372036854775807) : ∃ r,RUN T zor [.bx [.sl 1 (zbl B),iv p,iv s]]=some r∧zgp B (PC 64) r:=by
 refine zgz z6j rfl ?_
 obtain ⟨r1,h1,v1,p1,s1,⟨c,rfl,hc⟩,hp1,rfl⟩:=z80 B p s hp hB
 obtain ⟨r2,h2,v2,p2,s2,⟨a,rfl,a0,a1⟩,hp2,rfl⟩:=zbv B p1 s1 hp1 hB 12 (by omega)
 have hr8:zam 8 1=true:=by decide
 by_cases c0:a=0
 ·obtain ⟨r3,h3,v,p3,s3,⟨x,rfl,hx⟩,hp3,rfl⟩:=zij B p2 s2 hp2 hB [0,1,8,9,-1] (by simp)
  simp only [zac,List.map] at h3
  simp [-getElem?_pos,zgu,zgv,hr8,h1,h2,c0,h3]
  exact ⟨_,p3,s3,⟨⟨x,c.de,c.bi,c.la,c.rw,c.nu,c.dn,c.sg⟩,rfl,by simp only; omega⟩,hp3,rfl⟩
 by_cases c1:a=1
 ·obtain ⟨r3,h3,v,p3,s3,⟨x,rfl,hx⟩,hp3,rfl⟩:=zij B p2 s2 hp2 hB [-1,0,4,5] (by simp)
  simp only [zac,List.map] at h3
  simp [-getElem?_pos,zgu,zgv,hr8,h1,h2,c0,c1,h3]
  exact ⟨_,p3,s3,⟨⟨c.ro,x,c.bi,c.la,c.rw,c.nu,c.dn,c.sg⟩,rfl,by simp only; omega⟩,hp3,rfl⟩
 by_cases c2:a=2
 ·obtain ⟨r3,h3,v,p3,s3,⟨x,rfl,hx⟩,hp3,rfl⟩:=zij B p2 s2 hp2 hB [1,2,8,9] (by simp)
  simp only [zac,List.map] at h3
  simp [-getElem?_pos,zgu,zgv,hr8,h1,h2,c0,c1,c2,h3]
  exact ⟨_,p3,s3,⟨⟨c.ro,c.de,x,c.la,c.rw,c.nu,c.dn,c.sg⟩,rfl,by simp only; omega⟩,hp3,rfl⟩
 by_cases c3:a=3
 ·obtain ⟨r3,h3,v,p3,s3,⟨x,rfl,hx⟩,hp3,rfl⟩:=zij B p2 s2 hp2 hB [0,1,100,101,9223372036854775807] (by simp)
  simp only [zac,List.map] at h3
  simp [-getElem?_pos,zgu,zgv,hr8,h1,h2,c0,c1,c2,c3,h3]
  exact ⟨_,p3,s3,⟨⟨c.ro,c.de,c.bi,x,c.rw,c.nu,c.dn,c.sg⟩,rfl,by simp only; omega⟩,hp3,rfl⟩
 by_cases c4:a=4
 ·obtain ⟨r3,h3,v,p3,s3,⟨x,rfl,hx⟩,hp3,rfl⟩:=zij B p2 s2 hp2 hB [0,1,20,21] (by simp)
  simp only [zac,List.map] at h3
  simp [-getElem?_pos,zgu,zgv,hr8,h1,h2,c0,c1,c2,c3,c4,h3]
  exact ⟨_,p3,s3,⟨⟨c.ro,c.de,c.bi,c.la,x,c.nu,c.dn,c.sg⟩,rfl,by simp only; omega⟩,hp3,rfl⟩
 by_cases c5:a=5
 ·obtain ⟨r3,h3,v,p3,s3,⟨x,rfl,hx⟩,hp3,rfl⟩:=zij B p2 s2 hp2 hB [0,1,c.dn,IntKind.i64.wrap (c.dn+1),-1] (by simp)
  simp only [zac,List.map] at h3
  simp [-getElem?_pos,zgu,zgv,hr8,h1,h2,c0,c1,c2,c3,c4,c5,h3]
  exact ⟨_,p3,s3,⟨⟨c.ro,c.de,c.bi,c.la,c.rw,x,c.dn,c.sg⟩,rfl,by simp only; omega⟩,hp3,rfl⟩
 by_cases c6:a=6
 ·obtain ⟨r3,h3,v,p3,s3,⟨x,rfl,hx⟩,hp3,rfl⟩:=zij B p2 s2 hp2 hB [0,1,1000,1001,9223372036854775807] (by simp)
  simp only [zac,List.map] at h3
  simp [-getElem?_pos,zgu,zgv,hr8,h1,h2,c0,c1,c2,c3,c4,c5,c6,h3]
  exact ⟨_,p3,s3,⟨⟨c.ro,c.de,c.bi,c.la,c.rw,c.nu,x,c.sg⟩,rfl,by simp only; omega⟩,hp3,rfl⟩
 by_cases c7:a=7
 ·obtain ⟨r3,h3,v,p3,s3,⟨x,rfl,x0,x1⟩,hp3,rfl⟩:=zbv B p2 s2 hp2 hB 5 (by omega)
  have x2:=x1 (by omega)
  have w:=w64 (x:=x-2) (by omega) (by omega)
  have hr9:=zd8 (n:=c.sg.length+1) (by omega)
  simp [-getElem?_pos,zgu,zgv,hr8,hr9,h1,h2,c0,c1,c2,c3,c4,c5,c6,c7,h3,w,zdd]
  exact ⟨_,p3,s3,⟨⟨c.ro,c.de,c.bi,c.la,c.rw,c.nu,c.dn,c.sg++[x-2]⟩,rfl,by simp; omega⟩,hp3,rfl⟩
 ·simp [-getElem?_pos,zgu,zgv,hr8,h1,h2,c0,c1,c2,c3,c4,c5,c6,c7]
  exact ⟨_,p2,s2,⟨c,rfl,by omega⟩,hp2,rfl⟩
def sv (s:ByteArray):PV := .v (.string s)
def za5 (l:List ByteArray):List (List PV):=l.map fun s=>[.v (.string s)]
@[simp] theorem qkn (l:List ByteArray):(za5 l).length=l.length:=by simp [za5]
theorem zq0 {l:List ByteArray} {i:Nat} {x:ByteArray} (h:l[i]?=some x):(za5 l)[i]?=some [.v (.string x)]:=by simp [za5,h]
def znr (q:Bool) (t:List Nd):PV:=if q then .own 5 (t.map nd) else .sl 5 (t.map nd)
@[simp] theorem y6u (q:Bool) (t:List Nd):fz (znr q t) = .sl 5 (t.map nd):=by cases q <;> simp [znr]
def trs (q:Bool) (M:List (List Nd)):List (List PV):=M.map fun t=>[znr q t]
@[simp] theorem qgf (q:Bool) (M:List (List Nd)):(trs q M).length=M.length:=by simp [trs]
theorem z3p {q:Bool} {M:List (List Nd)} {i:Nat} {t:List Nd} (h:M[i]?=some t):(trs q M)[i]?=some [znr q t]:=by simp [trs,h]
structure Mo where
 ns:List ByteArray
 ix:List Int
 b:Int
 ts:List (List Nd)
structure MoL (n:Nat) (m:Mo):Prop where
 ns:m.ns.length≤n
 ss : ∀ x∈m.ns,x.size≤n
 ix:m.ix.length≤n
 ts:m.ts.length≤n
 tl : ∀ l∈m.ts,l.length≤n
theorem MoL.mono {n k:Nat} {m:Mo} (h:MoL n m) (hk:n≤k):MoL k m:=⟨Nat.le_trans h.ns hk,fun x hx=>Nat.le_trans (h.ss x hx) hk,Nat.le_trans h.ix hk,Nat.le_trans h.ts hk,fun x hx=>Nat.le_trans (h.tl x hx) hk⟩
theorem ycl {α:Type} {l m:List α} {i:Nat} (hl:l.length=m.length) (hi:l.length≤i) (h : ∀ j,j<i→l[j]?=m[j]?):l=m:=by
 apply List.ext_getElem?
 intro j
 by_cases c:j<i
 ·exact h j c
 ·rw [List.getElem?_eq_none (by omega),List.getElem?_eq_none (by omega)]
theorem yfl {α:Type} {l m:List α} {i:Nat} {x y:α} (hx:l[i]?=some x) (hy:m[i]?=some y) (h : ¬ x=y):(l=m)=False:=by
 apply eq_false
 rintro rfl
 rw [hx] at hy
 cases hy
 exact h rfl
theorem yck {α:Type} {l m:List α} (h:((l.length:Int)=m.length)=False):(l=m)=False:=by
 apply eq_false
 rintro rfl
 simp at h
theorem yvd (s:ByteArray) : ∀ (n i:Nat) (r:List UInt8),s.size-i≤n→ByteArray.toList.loop s i r=r.reverse++s.data.toList.drop i:=by
 have hs:s.data.toList.length=s.size:=by cases s; rfl
 intro n
 induction n with
 | zero =>
  intro i r h
  rw [ByteArray.toList.loop,if_neg (by omega),List.drop_eq_nil_of_le (by omega)]
  simp
 | succ n ih =>
  intro i r h
  rw [ByteArray.toList.loop]
  split
  ·rename_i hi
   rw [ih _ _ (by omega)]
   have hi':i<s.data.toList.length:=by omega
   rw [List.drop_eq_getElem_cons hi']
   have:s.get! i=s.data.toList[i]:=by
    cases s with
    | mk d =>
     show d[i]! = _
     rw [getElem!_pos d i (by simpa using hi')]
     simp
   simp [this]
  ·rename_i hi
   rw [List.drop_eq_nil_of_le (by omega)]
   simp
theorem z9s (s:ByteArray):s.toList=s.data.toList:=by
 unfold ByteArray.toList
 rw [yvd s s.size 0 [] (by omega)]
 simp
theorem yuy {x y:ByteArray} (h:x.toList=y.toList):x=y:=by
 rw [z9s,z9s] at h
 cases x; cases y
 simp at h
 simp [h]
theorem yer {x y:ByteArray} (h : ¬ x=y):(x.toList == y.toList)=false:=by
 simp only [beq_eq_false_iff_ne,ne_eq]
 exact fun e=>h (yuy e)
open Classical in
theorem yoz (l m:List Int) (hl:l.length≤9223372036854775807):RUN T zof [.sl 1 (zac l),.sl 1 (zac m)]=some ([bv (decide (l=m))],[]):=by
 refine zag z50 rfl ?_
 rcases Classical.propComplete ((l.length:Int)=m.length) with hlm | hlm
 case inr =>
  simp [-getElem?_pos,zrt,zru,hlm,yck hlm]
 simp [-getElem?_pos,zrt,zru,hlm]
 have hlen:l.length=m.length:=by simp at hlm; omega
 refine za3 (fun n st => ∃ i:Nat,i+n=l.length∧(∀ j,j<i→l[j]?=m[j]?)∧st.V 0 = .sl 1 (zac l)∧st.V 1 = .sl 1 (zac m)∧st.V 12=iv l.length∧st.V 13=iv i) ?_ l.length _ ⟨0,by simp [hlen]⟩
 rintro n st ⟨i,hi,hj,v0,v1,v12,v13⟩
 simp [z42,v12,v13]
 refine zb0 (fun h => ?_) (fun h => ?_)
 ·simp at h
  obtain ⟨x,hx⟩ : ∃ x,l[i]?=some x:=⟨_,List.getElem?_eq_getElem h⟩
  obtain ⟨y,hy⟩ : ∃ y,m[i]?=some y:=⟨_,List.getElem?_eq_getElem (by omega)⟩
  have hx':=zbp hx
  have hy':=zbp hy
  have hw:=wS h hl
  have him:i<m.length:=by omega
  by_cases e:x=y
  ·simp [-getElem?_pos,v0,v1,v12,v13,hx',hy',h,him,hw,eq_true e]
   exact zaq (n-1) (by omega) ⟨i+1,by omega,zj3 hj (by rw [hx,hy,e]),by simp [v0],by simp [v1],by simp [v12],by simp⟩
  ·simp [-getElem?_pos,v0,v1,v12,v13,hx',hy',h,him,hw,eq_false e,yfl hx hy e]
 ·simp at h
  simp [ycl hlen h hj]
def rwS (q:Bool) (l:List ByteArray):PV:=if q then .own 1 (za5 l) else .sl 1 (za5 l)
@[simp] theorem y4v (q:Bool) (l:List ByteArray):fz (rwS q l) = .sl 1 (za5 l):=by cases q <;> simp [rwS]
def yf1 (q:Bool) (L:List (List ByteArray)):List (List PV):=L.map fun l=>[rwS q l]
@[simp] theorem qg8 (q:Bool) (L:List (List ByteArray)):(yf1 q L).length=L.length:=by simp [yf1]
def ltr (n:Int):Bool:=decide (97≤n) && decide (n≤122)
def dgt (n:Int):Bool:=decide (48≤n) && decide (n≤57)
def chB (s:ByteArray) (i:Nat):Bool:=match s[i]? with
 | none=>true
 | some b=>ltr b.toNat || (decide (i≠0) && dgt b.toNat)
def zdl (s:ByteArray):Bool:=zal s.size 1 12 && (List.range s.size).all (chB s)
theorem z3o {s:ByteArray} {i:Nat} {b:UInt8} (h:s[i]?=some b):chB s i=(ltr b.toNat || (decide (i≠0) && dgt b.toNat)):=by simp [chB,h]
theorem yo0 (s:ByteArray) (hs:s.size≤9223372036854775807):RUN T zou [.v (.string s)]=some ([bv (zdl s)],[]):=by
 refine zag z6r rfl ?_
 simp [-getElem?_pos,zv1,zv2]
 refine za3 (fun n st => ∃ i:Nat,i+n=s.size∧(∀ j,j<i→chB s j=true)∧st.V 0 = .v (.string s)∧st.V 6=iv s.size∧st.V 7=iv i) ?_ s.size _ ⟨0,by simp⟩
 rintro n st ⟨i,hi,hj,v0,v6,v7⟩
 simp [z47,v6,v7]
 refine zb0 (fun h => ?_) (fun h => ?_)
 ·simp at h
  obtain ⟨b,hb⟩ : ∃ b,s[i]?=some b:=⟨_,getElem?_pos s i h⟩
  have hw:=wS h hs
  have hc:=z3o hb
  obtain ⟨c,hcc⟩ : ∃ c:Int,c=b.toNat:=⟨_,rfl⟩
  rw [← hcc] at hc
  have hi0:((i:Int)=0)=(i=0):=by simp
  rcases Classical.propComplete (97≤c) with a1 | a1
  all_goals rcases Classical.propComplete (c≤122) with a2 | a2
  all_goals rcases Classical.propComplete (i=0) with a3 | a3
  all_goals rcases Classical.propComplete (48≤c) with a4 | a4
  all_goals rcases Classical.propComplete (c≤57) with a5 | a5
  all_goals have a6:(c<48) = ¬ (48≤c):=by simp
  all_goals have a7:(57<c) = ¬ (c≤57):=by simp
  all_goals simp [ltr,dgt,a1,a2,a3,a4,a5] at hc
  all_goals simp [-getElem?_pos,v0,v6,v7,hb,← hcc,a1,a2,a3,a4,a5,a6,a7,hi0,hw]
  all_goals first
   | exact zaq (n-1) (by omega) ⟨i+1,by omega,zj3 hj hc,by simp [v0],by simp [v6],by simp⟩
   | (have no:zdl s=false:=by
       unfold zdl
       rw [zi1 h hc]; simp
      simp [no]; done)
   | skip
 ·simp at h
  have:=zrk (p:=chB s) (n:=s.size) fun j hj'=>hj j (by omega)
  unfold zdl
  rw [this]
  simp [-getElem?_pos,v0,zcb,-zbd]
theorem z82 (s:ByteArray) (hs:s.size≤9223372036854775807):RUN T zlj [.v (.string s)]=some ([bv (zdl s)],[]):=by
 refine zag z5o rfl ?_
 rcases Bool.eq_false_or_eq_true (zal s.size 1 12) with h0 | h0
 case inr =>
  have no:zdl s=false:=by unfold zdl; rw [h0]; rfl
  simp [-getElem?_pos,zp1,zp2,zel,-zdg,h0,no]
 have hr:=za2.mp h0
 obtain ⟨b0,hb0⟩ : ∃ b,s[0]?=some b:=⟨_,getElem?_pos s 0 (by omega)⟩
 have hn0:zbm (.v (.int .i64 0))=some 0:=rfl
 rcases Classical.propComplete (((b0.toNat:Nat):Int)<97) with f | f
 case inl =>
  have hc:chB s 0=false:=by
   rw [z3o hb0]
   have : ¬ (97≤(b0.toNat:Int)):=by have:=of_eq_true f; omega
   simp [ltr,this]
  have no:zdl s=false:=by unfold zdl; rw [zi1 (by omega) hc]; simp
  simp [-getElem?_pos,zp1,zp2,zel,-zdg,h0,no,hb0,f]
 simp [-getElem?_pos,zp1,zp2,zel,-zdg,h0,hb0,f]
 refine za3 (fun n st => ∃ i:Nat,i+n=s.size∧(∀ j,j<i→chB s j=true)∧st.V 0 = .v (.string s)∧st.V 3=iv i) ?_ s.size _ ⟨0,by simp⟩
 rintro n st ⟨i,hi,hj,v0,v3⟩
 simp [z40,v0,v3]
 refine zb0 (fun h => ?_) (fun h => ?_)
 ·simp at h
  obtain ⟨b,hb⟩ : ∃ b,s[i]?=some b:=⟨_,getElem?_pos s i h⟩
  have hw:=wS h hs
  have hc:=z3o hb
  have hcv:IntKind.i64.wrap (b.toNat:Int)=b.toNat:=w64 (by omega) (by have:=b.toNat_lt; omega)
  have e1:zal (b.toNat:Int) 97 122=ltr b.toNat:=rfl
  have e2:zal (b.toNat:Int) 48 57=dgt b.toNat:=rfl
  cases a1:ltr b.toNat with
  | true =>
   have e3:=e1.trans a1
   simp [-getElem?_pos,v0,v3,hb,hcv,e3,hw,zel,-zdg]
   exact zaq (n-1) (by omega) ⟨i+1,by omega,zj3 hj (by rw [hc,a1]; rfl),by simp [v0],by simp⟩
  | false =>
   have e3:=e1.trans a1
   cases a2:dgt b.toNat with
   | true =>
    have e4:=e2.trans a2
    have hi0:i≠0:=by
     rintro rfl
     rw [hb0] at hb
     cases hb
     simp [dgt] at a2
     have:=of_eq_false f
     omega
    simp [-getElem?_pos,v0,v3,hb,hcv,e3,e4,hw,zel,-zdg]
    exact zaq (n-1) (by omega) ⟨i+1,by omega,zj3 hj (by rw [hc,a1,a2]; simp [hi0]),by simp [v0],by simp⟩
   | false =>
    have e4:=e2.trans a2
    have no:zdl s=false:=by unfold zdl; rw [zi1 h (by rw [hc,a1,a2]; simp:chB s i=false)]; simp
    simp [-getElem?_pos,v0,v3,hb,hcv,e3,e4,hw,no,zel,-zdg]
 ·simp at h
  have:=zrk (p:=chB s) (n:=s.size) fun j hj'=>hj j (by omega)
  have ok:zdl s=true:=by unfold zdl; rw [this,h0]; rfl
  simp [ok]
theorem z0l (l:List ByteArray) (i:Nat):List.take i (za5 l)=za5 (l.take i):=by simp [za5]
def zff (l:List ByteArray) (x:ByteArray):Bool:=l.any fun y=>decide (y=x)
theorem z83 (l:List ByteArray) (x:ByteArray) (hl:l.length≤9223372036854775807):RUN T zlk [.sl 1 (za5 l),.v (.string x)]=some ([bv (zff l x)],[]):=by
 refine zag z5p rfl ?_
 simp [-getElem?_pos,zun,zuo]
 refine za3 (fun n st => ∃ i:Nat,i+n=l.length∧(∀ (j:Nat) (y:ByteArray),j<i→l[j]?=some y→¬ y=x)∧st.V 0 = .sl 1 (za5 l)∧st.V 1 = .v (.string x)∧st.V 5=iv i) ?_ l.length _ ⟨0,by simp⟩
 rintro n st ⟨i,hi,hj,v0,v1,v5⟩
 simp [z41,v0,v5]
 refine zb0 (fun h => ?_) (fun h => ?_)
 ·simp at h
  obtain ⟨y,hy⟩ : ∃ y,l[i]?=some y:=⟨_,List.getElem?_eq_getElem h⟩
  have hy':=zq0 hy
  have hw:=wS h hl
  by_cases e:y=x
  ·subst e
   have:zff l y=true:=by
    unfold zff; rw [List.any_eq_true]; exact ⟨y,List.mem_of_getElem? hy,by simp⟩
   simp [-getElem?_pos,v0,v1,v5,hy',h,this]
  ·simp [-getElem?_pos,v0,v1,v5,hy',h,hw,yer e]
   exact zaq (n-1) (by omega) ⟨i+1,by omega,zzo (P:=fun _ y => ¬ y=x) hj hy e,by simp [v0],by simp [v1],by simp⟩
 ·simp at h
  have:zff l x=false:=by
   unfold zff
   rw [List.any_eq_false]
   intro y hy
   obtain ⟨j,hjy⟩:=List.getElem?_of_mem hy
   simpa using hj j y (by have:=(List.getElem?_eq_some_iff.mp hjy).1; omega) hjy
  simp [this]
theorem yo1 (l:List ByteArray) (x:ByteArray) (hl:l.length≤9223372036854775807):RUN T zpa [.sl 1 (za5 l),.v (.string x)]=some ([iv (zib (fun y=>decide (y=x)) l)],[]):=by
 refine zag z7i rfl ?_
 simp [-getElem?_pos,zw0,zw1]
 refine za3 (fun n st => ∃ i:Nat,i+n=l.length∧(∀ (j:Nat) (y:ByteArray),j<i→l[j]?=some y→decide (y=x)=false)∧st.V 0 = .sl 1 (za5 l)∧st.V 1 = .v (.string x)∧st.V 7=iv l.length∧st.V 8=iv i) ?_ l.length _ ⟨0,by simp⟩
 rintro n st ⟨i,hi,hj,v0,v1,v7,v8⟩
 simp [z5b,v7,v8]
 refine zb0 (fun h => ?_) (fun h => ?_)
 ·simp at h
  obtain ⟨y,hy⟩ : ∃ y,l[i]?=some y:=⟨_,List.getElem?_eq_getElem h⟩
  have hy':=zq0 hy
  have hw:=wS h hl
  by_cases e:y=x
  ·subst e
   have:=z0a (p:=fun z=>decide (z=y)) hy (by simp) hj
   simp [-getElem?_pos,v0,v1,v7,v8,hy',h,this]
  ·simp [-getElem?_pos,v0,v1,v7,v8,hy',h,hw,yer (fun e'=>e e'.symm)]
   exact zaq (n-1) (by omega) ⟨i+1,by omega,zzo (P:=fun _ y=>decide (y=x)=false) hj hy (by simpa using e),by simp [v0],by simp [v1],by simp [v7],by simp⟩
 ·simp at h
  have:=z0o (p:=fun z=>decide (z=x)) (l:=l) fun j y h1 h2=>hj j y (by omega) h2
  simp [-getElem?_pos,this]
theorem yo2 (l:List ByteArray) (x:ByteArray) (hl:l.length≤9223372036854775807):RUN T zov [.sl 1 (za5 l),.v (.string x)]=some ([bv (zff l x)],[]):=by
 refine zag z6s rfl ?_
 have h:=yo1 l x hl
 have e:=zy6 (p:=fun y=>decide (y=x)) (l:=l)
 have e2:zff l x=l.any fun y=>decide (y=x):=rfl
 rw [e2,← e]
 simp [-getElem?_pos,zv3,zv4,h]
def nmB (L:List ByteArray) (i:Nat):Bool:=match L[i]? with
 | none=>true
 | some x=>zdl x && !zff (L.take i) x
def zfr (L:List ByteArray):Bool:=(List.range L.length).all (nmB L)
theorem zs6 {L:List ByteArray} {i:Nat} {x:ByteArray} (h:L[i]?=some x):nmB L i=(zdl x && !zff (L.take i) x):=by simp [nmB,h]
theorem yo3 (L:List ByteArray) (hl:L.length≤9223372036854775807) (hs : ∀ x∈L,x.size≤9223372036854775807):RUN T zog [.sl 1 (za5 L)]=some ([bv (zfr L)],[]):=by
 refine zag z54 rfl ?_
 simp [-getElem?_pos,zu5,zu6]
 refine za3 (fun n st => ∃ i:Nat,i+n=L.length∧(∀ j,j<i→nmB L j=true)∧st.V 0 = .sl 1 (za5 L)∧st.V 5 = .sl 1 (za5 L)∧st.V 6=iv L.length∧st.V 7=iv i) ?_ L.length _ ⟨0,by simp⟩
 rintro n st ⟨i,hi,hj,v0,v5,v6,v7⟩
 simp [z43,v6,v7]
 refine zb0 (fun h => ?_) (fun h => ?_)
 ·simp at h
  obtain ⟨x,hx⟩ : ∃ x,L[i]?=some x:=⟨_,List.getElem?_eq_getElem h⟩
  have hx':=zq0 hx
  have hw:=wS h hl
  have hN:=yo0 x (hs x (List.mem_of_getElem? hx))
  have hC:=yo2 (L.take i) x (by simp; omega)
  have hc:=zs6 hx
  have hil:i≤L.length:=by omega
  cases a1:zdl x with
  | false =>
   rw [a1] at hN hc
   have no:zfr L=false:=zi1 h (by rw [hc]; rfl)
   simp [-getElem?_pos,v0,v5,v6,v7,hx',h,hw,hN,no]
  | true =>
   rw [a1] at hN hc
   cases a2:zff (L.take i) x with
   | true =>
    rw [a2] at hC hc
    have no:zfr L=false:=zi1 h (by rw [hc]; rfl)
    simp [-getElem?_pos,v0,v5,v6,v7,hx',h,hw,hN,hC,hil,z0l,no]
   | false =>
    rw [a2] at hC hc
    simp [-getElem?_pos,v0,v5,v6,v7,hx',h,hw,hN,hC,hil,z0l]
    exact zaq (n-1) (by omega) ⟨i+1,by omega,zj3 hj (by rw [hc]; rfl),by simp [v0],by simp [v5],by simp [v6],by simp⟩
 ·simp at h
  have:zfr L=true:=zrk fun j hj'=>hj j (by omega)
  simp [this]
def zzp (row:List Int):List (List Nd)→Int→Int
 | [],a=>a
 | t::ts,a=>zzp row ts (IntKind.i64.wrap (a+evt t row))
def ysj (p:Nat→Bool) (i:Nat):List Int:=((List.range i).filter p).map fun (j:Nat)=>(j:Int)
@[simp] theorem qfn (p:Nat→Bool):ysj p 0=[]:=rfl
theorem zzk (x:Int):IntKind.u64.wrap x=x % 18446744073709551616:=IntKind.wrap_u64 x
theorem yur (a b:Int):za7 .mul (.int .u64 a) (.int .u64 b)=some (.int .u64 (a*b % 18446744073709551616)):=by rw [ybg,zzk]
theorem yyw (a b:Int):za7 .add (.int .u64 a) (.int .u64 b)=some (.int .u64 ((a+b) % 18446744073709551616)):=by rw [yar,zzk]
theorem yq0 (x:Int):za7 .shr (.int .u64 x) (.int .u64 32)=some (.int .u64 (x / 4294967296)):=by
 rw [ybw,if_pos (by decide)]
 have:(2:Int) ^ min (32:Int).toNat IntKind.u64.bits=4294967296:=by decide
 rw [this,Int.fdiv_eq_ediv_of_nonneg _ (by decide)]
theorem z1w {x:Int} (h0:0≤x) (h1:x<18446744073709551616):za7 .and (.int .u64 x) (.int .u64 4294967295)=some (.int .u64 (x % 4294967296)):=by
 rw [yee,zzk]
 have e:((BitVec.ofInt IntKind.u64.bits x &&& BitVec.ofInt IntKind.u64.bits 4294967295).toNat:Int)=x % 4294967296:=by
  obtain ⟨n,rfl⟩:=Int.eq_ofNat_of_zero_le h0
  have hn:n<2 ^ 64:=by omega
  have e2:(BitVec.ofInt 64 (n:Int) &&& BitVec.ofInt 64 4294967295).toNat=n % 4294967296:=by
   rw [BitVec.toNat_and]
   have e3:(BitVec.ofInt 64 (n:Int)).toNat=n:=by
    rw [BitVec.ofInt_natCast,BitVec.toNat_ofNat,Nat.mod_eq_of_lt hn]
   have e4:(BitVec.ofInt 64 4294967295).toNat=2 ^ 32-1:=by decide
   rw [e3,e4,Nat.and_two_pow_sub_one_eq_mod]
  show (((BitVec.ofInt 64 (n:Int) &&& BitVec.ofInt 64 4294967295).toNat:Nat):Int)=_
  rw [e2]; omega
 rw [e]; congr 2; omega
theorem parts {x y:Int} (hx:0≤x) (hx1:x<18446744073709551616) (hy:0≤y) (hy1:y<18446744073709551616) :
  ∃ a b c d:Int,a=x % 4294967296*(y % 4294967296)∧b=x / 4294967296*(y % 4294967296)∧c=x % 4294967296*(y / 4294967296)∧d=x / 4294967296*(y / 4294967296)∧0≤a∧a≤18446744065119617025∧0≤b∧b≤18446744065119617025∧0≤c∧c≤18446744065119617025∧0≤d∧d≤18446744065119617025∧x*y=d*18446744073709551616+(b+c)*4294967296+a:=by
 have bd : ∀ u v:Int,0≤u→u≤4294967295→0≤v→v≤4294967295→0≤u*v∧u*v≤18446744065119617025:=fun u v h1 h2 h3 h4 =>
  ⟨Int.mul_nonneg h1 h3,Int.le_trans (Int.mul_le_mul h2 h4 h3 (by decide)) (by decide)⟩
 have x0:0≤x % 4294967296∧x % 4294967296≤4294967295:=by omega
 have x1:0≤x / 4294967296∧x / 4294967296≤4294967295:=by omega
 have y0:0≤y % 4294967296∧y % 4294967296≤4294967295:=by omega
 have y1:0≤y / 4294967296∧y / 4294967296≤4294967295:=by omega
 refine ⟨_,_,_,_,rfl,rfl,rfl,rfl,(bd _ _ x0.1 x0.2 y0.1 y0.2).1,(bd _ _ x0.1 x0.2 y0.1 y0.2).2,(bd _ _ x1.1 x1.2 y0.1 y0.2).1,(bd _ _ x1.1 x1.2 y0.1 y0.2).2,(bd _ _ x0.1 x0.2 y1.1 y1.2).1,(bd _ _ x0.1 x0.2 y1.1 y1.2).2,(bd _ _ x1.1 x1.2 y1.1 y1.2).1,(bd _ _ x1.1 x1.2 y1.1 y1.2).2,?_⟩
 have ex:x=x / 4294967296*4294967296+x % 4294967296:=by omega
 have ey:y=y / 4294967296*4294967296+y % 4294967296:=by omega
 generalize x / 4294967296=p at *
 generalize x % 4294967296=q at *
 generalize y / 4294967296=r at *
 generalize y % 4294967296=s at *
 rw [ex,ey,Int.add_mul,Int.mul_add,Int.mul_add]
 have e1:p*4294967296*(r*4294967296)=p*r*18446744073709551616:=by
  rw [show (18446744073709551616:Int)=4294967296*4294967296 by decide,Int.mul_assoc,Int.mul_comm 4294967296 (r*4294967296),Int.mul_assoc r,← Int.mul_assoc p r]
 have e2:p*4294967296*s=p*s*4294967296:=by rw [Int.mul_assoc,Int.mul_comm 4294967296 s,← Int.mul_assoc]
 have e3:q*(r*4294967296)=q*r*4294967296:=by rw [← Int.mul_assoc]
 rw [e1,e2,e3,Int.add_mul]
 omega
theorem z1f (x y:Int) (hx:0≤x) (hx1:x<18446744073709551616) (hy:0≤y) (hy1:y<18446744073709551616):RUN T zkw [.v (.int .u64 x),.v (.int .u64 y)]=some ([.v (.int .u64 (x*y / 18446744073709551616)),.v (.int .u64 (x*y % 18446744073709551616))],[]):=by
 refine zag z8u rfl ?_
 obtain ⟨a,b,c,d,ea,eb,ec,ed,a0,a1,b0,b1,c0,c1,d0,d1,hp⟩:=parts hx hx1 hy hy1
 have f1:=z1w hx hx1
 have f2:=z1w hy hy1
 have g1:a % 18446744073709551616=a:=by omega
 have g2:b % 18446744073709551616=b:=by omega
 have g3:c % 18446744073709551616=c:=by omega
 have g4:d % 18446744073709551616=d:=by omega
 have g5:(b+a / 4294967296) % 18446744073709551616=b+a / 4294967296:=by omega
 have f3:=z1w (x:=b+a / 4294967296) (by omega) (by omega)
 simp [-ybg,-yar,-yee,-ybw,yur,yyw,yq0,f1,f2,f3,zyw,zyx,← ea,← eb,← ec,← ed,g1,g2,g3,g4,g5]
 omega
structure Wd where
 n:Bool
 h:Int
 l:Int
deriving DecidableEq
abbrev uv (x:Int):PV := .v (.int .u64 x)
def wd (w:Wd):List PV:=[bv w.n,uv w.h,uv w.l]
def wfU (w:Wd):Prop:=0≤w.h∧w.h<18446744073709551616∧0≤w.l∧w.l<18446744073709551616
def wok (w:Wd):Bool:=decide (w.h<9223372036854775808) && (!w.n || decide (0<w.h) || decide (0<w.l))
def mag (w:Wd):Int:=w.h*18446744073709551616+w.l
def mkW (n:Bool) (m:Int):Wd:=⟨n && decide (0<m),m / 18446744073709551616,m % 18446744073709551616⟩
def zch:Wd:=⟨false,0,0⟩
theorem z2v {n:Bool} {m:Int} (h0:0≤m) (h1:m<340282366920938463463374607431768211456):wfU (mkW n m):=by
 unfold wfU mkW; simp only; omega
theorem ya2 {n:Bool} {m:Int} (h0:0≤m):wok (mkW n m)=decide (m<170141183460469231731687303715884105728):=by
 unfold wok mkW
 simp only
 by_cases h:m<170141183460469231731687303715884105728
 ·have e:m / 18446744073709551616<9223372036854775808:=by omega
  rw [decide_eq_true h,decide_eq_true e]
  by_cases hz:0<m
  ·by_cases h2:0<m / 18446744073709551616
   ·simp [h2]
   ·have:0<m % 18446744073709551616:=by omega
    simp [this]
  ·simp [hz]
 ·have e : ¬ m / 18446744073709551616<9223372036854775808:=by omega
  rw [decide_eq_false h,decide_eq_false e]; rfl
theorem z1g (n:Int) (h:inI n):RUN T zkv [iv n]=some ([uv n.natAbs],[]):=by
 refine zag z8t rfl ?_
 obtain ⟨h0,h1⟩:=h
 simp [zyu,zyv]
 refine zb0 (fun h => ?_) (fun h => ?_) <;> simp at h <;> simp [zzk] <;> omega
theorem zs0 (n:Bool) (h l:Int):RUN T zgr [bv n,uv h,uv l]=some ([.agg (wd ⟨n && (decide (0<h) || decide (0<l)),h,l⟩)],[]):=by
 refine zag z8o rfl ?_
 cases n with
 | false=>simp [zqi,zqj,wd]
 | true =>
  by_cases h1:0<h
  ·simp [zqi,zqj,wd,h1]
  ·simp [zqi,zqj,wd,h1]
theorem zqm (w:Wd):RUN T zhi [.agg (wd w)]=some ([bv (wok w)],[]):=by
 refine zag z8r rfl ?_
 obtain ⟨n,h,l⟩:=w
 unfold wok
 by_cases h1:h<9223372036854775808
 ·cases n with
  | false=>simp [zmw,zmx,wd,h1]
  | true =>
   by_cases h2:0<h
   ·simp [zmw,zmx,wd,h1,h2]
   ·simp [zmw,zmx,wd,h1,h2]
 ·simp [zmw,zmx,wd,h1]
def zc6 (a b:Int):Int:=if a<b then -1 else if b<a then 1 else 0
theorem z84 (x:Int):RUN T zmi [uv x]=some ([bv false],[]):=by
 refine zag z8w rfl ?_
 simp [zyy,zyz]
theorem z85 (x y:Int):RUN T zmh [uv x,uv y]=some ([iv (zc6 x y)],[]):=by
 refine zag z8v rfl ?_
 have e1:=z84 x
 have e2:=z84 y
 unfold zc6
 by_cases h1:x<y
 ·simp [zqk,zql,e1,e2,h1]
 ·by_cases h2:y<x
  ·simp [zqk,zql,e1,e2,h1,h2]
  ·simp [zqk,zql,e1,e2,h1,h2]
theorem z86 (x y:Int):RUN T zmc [.sl 1 [[iv x],[iv y]]]=some ([iv (if x=0 then y else x)],[]):=by
 refine zag z8g rfl ?_
 simp [zyg,zyh]
 refine za3 (fun n st => ∃ i:Nat,i+n=2∧(1≤i→x=0)∧(2≤i→y=0)∧st.V 3=iv 0∧st.V 6 = .sl 1 [[iv x],[iv y]]∧st.V 7=iv 2∧st.V 8=iv i) ?_ 2 _ ⟨0,by simp⟩
 rintro n st ⟨i,hi,hx,hy,v3,v6,v7,v8⟩
 simp [z5f,v7,v8]
 have h3:i=0∨i=1∨i=2:=by omega
 rcases h3 with rfl | rfl | rfl
 ·have hw:IntKind.i64.wrap 1=1:=w64 (by omega) (by omega)
  by_cases h:x=0
  ·simp [v3,v6,v7,v8,h,hw]
   exact zaq (n-1) (by omega) ⟨1,by omega,fun _=>h,by simp,by simp [v3],by simp [v6,h],by simp [v7],by simp⟩
  ·simp [v3,v6,v7,v8,h]
 ·have hx:=hx (by omega)
  have hw:IntKind.i64.wrap 2=2:=w64 (by omega) (by omega)
  by_cases h:y=0
  ·simp [v3,v6,v7,v8,h,hx,hw]
   exact zaq (n-1) (by omega) ⟨2,by omega,fun _=>hx,fun _=>h,by simp [v3],by simp [v6,h,hx],by simp [v7],by simp⟩
  ·simp [v3,v6,v7,v8,h,hx]
 ·have hx:=hx (by omega)
  have hy:=hy (by omega)
  simp [v3,hx,hy]
def zf3 (a b:Wd):Int:=if zc6 a.h b.h=0 then zc6 a.l b.l else zc6 a.h b.h
theorem ys4 {a b:Wd} (ha:wfU a) (hb:wfU b):zf3 a b=zc6 (mag a) (mag b):=by
 obtain ⟨_,_,_,_⟩:=ha
 obtain ⟨_,_,_,_⟩:=hb
 unfold zf3 zc6 mag
 split <;> split <;> split <;> (try split) <;> (try split) <;> omega
theorem z1h (a b:Wd):RUN T zkt [.agg (wd a),.agg (wd b)]=some ([iv (zf3 a b)],[]):=by
 refine zag z8p rfl ?_
 have e1:=z85 a.h b.h
 have e2:=z85 a.l b.l
 have e3:=z86 (zc6 a.h b.h) (zc6 a.l b.l)
 simp [zyq,zyr,wd,e1,e2,e3,zf3]
def zh3 (a b:Int):Wd:=mkW (decide (a<0) != decide (b<0)) ((a.natAbs:Int)*b.natAbs)
theorem zrm {a:Int} (h:inI a):0≤(a.natAbs:Int)∧(a.natAbs:Int)≤9223372036854775808:=by
 obtain ⟨h0,h1⟩:=h; omega
theorem ya0 {a b:Int} (ha:inI a) (hb:inI b):0≤(a.natAbs:Int)*b.natAbs∧(a.natAbs:Int)*b.natAbs≤85070591730234615865843651857942052864:=by
 obtain ⟨a0,a1⟩:=zrm ha
 obtain ⟨b0,b1⟩:=zrm hb
 exact ⟨Int.mul_nonneg a0 b0,Int.le_trans (Int.mul_le_mul a1 b1 b0 (by decide)) (by decide)⟩
theorem yo4 (a b:Int) (ha:inI a) (hb:inI b):RUN T zpv [iv a,iv b]=some ([.agg (wd (zh3 a b))],[]):=by
 refine zag z8q rfl ?_
 obtain ⟨a0,a1⟩:=zrm ha
 obtain ⟨b0,b1⟩:=zrm hb
 have e1:=z1g a ha
 have e2:=z1g b hb
 have e3:=z1f a.natAbs b.natAbs a0 (by omega) b0 (by omega)
 have e4:=zs0 (decide (a<0) != decide (b<0)) ((a.natAbs:Int)*b.natAbs / 18446744073709551616) ((a.natAbs:Int)*b.natAbs % 18446744073709551616)
 obtain ⟨m0,m1⟩:=ya0 ha hb
 have e5:(⟨(decide (a<0) != decide (b<0)) && (decide (0<(a.natAbs:Int)*b.natAbs / 18446744073709551616) || decide (0<(a.natAbs:Int)*b.natAbs % 18446744073709551616)),(a.natAbs:Int)*b.natAbs / 18446744073709551616,(a.natAbs:Int)*b.natAbs % 18446744073709551616⟩:Wd)=zh3 a b:=by
  unfold zh3 mkW
  congr 2
  generalize (a.natAbs:Int)*b.natAbs=m at *
  rw [Bool.eq_iff_iff]; simp; omega
 rw [e5] at e4
 generalize zh3 a b=w at *
 obtain ⟨wn,wh,wl⟩:=w
 simp only [wd] at e4 ⊢
 by_cases sa:a<0 <;> by_cases sb:b<0 <;> simp [sa,sb] at e4 <;> simp [zys,zyt,e1,e2,e3,sa,sb,e4]
def zha (w:Wd):Int:=if w.n then -mag w else mag w
def zep (a b:Wd):Wd×Bool :=
 if wok a && wok b then
  if ((zha a+zha b).natAbs:Int)<170141183460469231731687303715884105728 then (mkW (decide (zha a+zha b<0)) (zha a+zha b).natAbs,true) else (zch,false)
 else (zch,false)
theorem ysy (a b:Wd):wfU (zep a b).1:=by
 unfold zep
 split
 ·split
  ·exact z2v (by omega) (by omega)
  ·exact ⟨by decide,by decide,by decide,by decide⟩
 ·exact ⟨by decide,by decide,by decide,by decide⟩
theorem yc3 {w:Wd} (h:wfU w) (hk:wok w=true):0≤mag w∧mag w<170141183460469231731687303715884105728∧(w.n=true→0<mag w):=by
 obtain ⟨h0,h1,h2,h3⟩:=h
 unfold wok at hk
 simp only [Bool.and_eq_true,Bool.or_eq_true,Bool.not_eq_true',decide_eq_true_eq] at hk
 unfold mag
 obtain ⟨k1,k2⟩:=hk
 refine ⟨by omega,by omega,fun hn => ?_⟩
 rw [hn] at k2
 rcases k2 with (k2 | k2) | k2
 ·cases k2
 ·omega
 ·omega
theorem yyy (a b:Wd) (ha:wfU a) (hb:wfU b) (h:mag a+mag b<340282366920938463463374607431768211456) : ∃ c d:Int,
  RUN T zjd [uv a.l,uv b.l,uv 0]=some ([uv ((mag a+mag b) % 18446744073709551616),uv c],[])∧RUN T zjd [uv a.h,uv b.h,uv c]=some ([uv ((mag a+mag b) / 18446744073709551616),uv d],[]):=by
 obtain ⟨a0,a1,a2,a3⟩:=ha
 obtain ⟨b0,b1,b2,b3⟩:=hb
 have e1:=z32 z09 (x:=a.l) (y:=b.l) (c:=0) a2 b2 (by decide) (by decide)
 have e2:=z32 z09 (x:=a.h) (y:=b.h) (c:=(a.l+b.l+0) / 18446744073709551616) a0 b0 (by omega) (by omega)
 have f1:(a.l+b.l+0) % 18446744073709551616=(mag a+mag b) % 18446744073709551616:=by unfold mag; omega
 have f2:(a.h+b.h+(a.l+b.l+0) / 18446744073709551616) % 18446744073709551616=(mag a+mag b) / 18446744073709551616:=by unfold mag at *; omega
 rw [f1] at e1
 rw [f2] at e2
 exact ⟨_,_,e1,e2⟩
theorem ygd (a b:Wd) (ha:wfU a) (hb:wfU b) (h:mag b≤mag a) : ∃ c d:Int,
  RUN T zku [uv a.l,uv b.l,uv 0]=some ([uv ((mag a-mag b) % 18446744073709551616),uv c],[])∧RUN T zku [uv a.h,uv b.h,uv c]=some ([uv ((mag a-mag b) / 18446744073709551616),uv d],[]):=by
 obtain ⟨a0,a1,a2,a3⟩:=ha
 obtain ⟨b0,b1,b2,b3⟩:=hb
 have e1:=yga z8s (x:=a.l) (y:=b.l) (c:=0) a2 b2 a3 b3 (by decide) (by decide)
 have e2:=yga z8s (x:=a.h) (y:=b.h) (c:=if a.l<b.l+0 then 1 else 0) a0 b0 a1 b1 (by split <;> omega) (by split <;> omega)
 have f1:(a.l-b.l-0) % 18446744073709551616=(mag a-mag b) % 18446744073709551616:=by unfold mag; omega
 have f2:(a.h-b.h-(if a.l<b.l+0 then 1 else 0)) % 18446744073709551616=(mag a-mag b) / 18446744073709551616:=by
  unfold mag at *
  split <;> omega
 rw [f1] at e1
 rw [f2] at e2
 exact ⟨_,_,e1,e2⟩
theorem z4a {n:Bool} {m:Int} (h:0≤m):RUN T zgr [bv n,uv (m / 18446744073709551616),uv (m % 18446744073709551616)]=some ([.agg (wd (mkW n m))],[]):=by
 rw [zs0]
 have:(⟨n && (decide (0<m / 18446744073709551616) || decide (0<m % 18446744073709551616)),m / 18446744073709551616,m % 18446744073709551616⟩:Wd)=mkW n m:=by
  unfold mkW
  congr 2
  rw [Bool.eq_iff_iff]; simp; omega
 rw [this]
theorem yo5 (a b:Wd) (ha:wfU a) (hb:wfU b):RUN T zpu [.agg (wd a),.agg (wd b)]=some ([.agg (wd (zep a b).1),bv (zep a b).2],[]):=by
 refine zag z8k rfl ?_
 have ea:=zqm a
 have eb:=zqm b
 cases ka:wok a with
 | false =>
  have es:zep a b=(zch,false):=by unfold zep; simp [ka]
  rw [es]; rw [ka] at ea
  simp only [wd] at ea
  simp [zjp,zjq,wd,ea,zch]
 | true =>
  cases kb:wok b with
  | false =>
   have es:zep a b=(zch,false):=by unfold zep; simp [kb]
   rw [es]; rw [ka] at ea; rw [kb] at eb
   simp only [wd] at ea eb
   simp [zjp,zjq,wd,ea,eb,zch]
  | true =>
   obtain ⟨ma0,ma1,ma2⟩:=yc3 ha ka
   obtain ⟨mb0,mb1,mb2⟩:=yc3 hb kb
   rw [ka] at ea; rw [kb] at eb
   by_cases hn:a.n=b.n
   ·obtain ⟨c,d,f1,f2⟩:=yyy a b ha hb (by omega)
    have f3:=z4a (n:=a.n) (m:=mag a+mag b) (by omega)
    have f4:=zqm (mkW a.n (mag a+mag b))
    rw [ya2 (by omega)] at f4
    have es:zep a b=if mag a+mag b<170141183460469231731687303715884105728 then (mkW a.n (mag a+mag b),true) else (zch,false):=by
     unfold zep zha
     rw [ka,kb,← hn]
     simp only [Bool.and_self,if_true]
     cases h:a.n with
     | true =>
      have e1:(-mag a + -mag b).natAbs=mag a+mag b:=by omega
      have e2 : -mag a + -mag b<0:=by have:=ma2 h; omega
      simp only [if_true,e1,decide_eq_true e2]
     | false =>
      have e1:((mag a+mag b).natAbs:Int)=mag a+mag b:=by omega
      have e2 : ¬ mag a+mag b<0:=by omega
      simp only [Bool.false_eq_true,if_false,e1,decide_eq_false e2]
    rw [es]
    generalize hm:mag a+mag b=m at *
    generalize mkW a.n m=w at *
    generalize m / 18446744073709551616=hi at *
    generalize m % 18446744073709551616=lo at *
    simp only [wd] at ea eb f3 f4 ⊢
    rw [hn] at ea f3
    by_cases hk:m<170141183460469231731687303715884105728
    ·rw [decide_eq_true hk] at f4
     rw [if_pos hk]
     simp [zjp,zjq,ea,eb,hn,f1,f2,f3,f4]
    ·rw [decide_eq_false hk] at f4
     rw [if_neg hk]
     simp [zjp,zjq,ea,eb,hn,f1,f2,f3,f4,zch]
   ·have ho:=z1h a b
    rw [ys4 ha hb] at ho
    have es:zep a b=(mkW (if mag a<mag b then b.n else a.n) (if mag a<mag b then mag b-mag a else mag a-mag b),true):=by
     have gen : ∀ (n:Bool) (m:Int),((zha a+zha b).natAbs:Int)=m→m<170141183460469231731687303715884105728→(decide (zha a+zha b<0) && decide (0<m))=(n && decide (0<m))→zep a b=(mkW n m,true):=by
      intro n m h1 h2 h3
      unfold zep
      rw [ka,kb,h1]
      simp only [Bool.and_self,if_true,if_pos h2]
      unfold mkW
      rw [h3]
     unfold zha at gen
     cases h:a.n <;> cases h':b.n <;> simp only [h,h'] at gen hn ⊢
     ·exact (hn trivial).elim
     ·by_cases hl:mag a<mag b
      ·rw [if_pos hl,if_pos hl]
       exact gen _ _ (by simp; omega) (by omega) (by rw [Bool.eq_iff_iff]; simp; omega)
      ·rw [if_neg hl,if_neg hl]
       exact gen _ _ (by simp; omega) (by omega) (by rw [Bool.eq_iff_iff]; simp; omega)
     ·by_cases hl:mag a<mag b
      ·rw [if_pos hl,if_pos hl]
       exact gen _ _ (by simp; omega) (by omega) (by rw [Bool.eq_iff_iff]; simp; omega)
      ·rw [if_neg hl,if_neg hl]
       exact gen _ _ (by simp; omega) (by omega) (by rw [Bool.eq_iff_iff]; simp; omega)
     ·exact (hn trivial).elim
    rw [es]
    have hnb:(a.n == b.n)=false:=by cases h:a.n <;> cases h':b.n <;> simp [h,h'] at hn ⊢
    by_cases hl:mag a<mag b
    ·obtain ⟨c,d,f1,f2⟩:=ygd b a hb ha (by omega)
     have f3:=z4a (n:=b.n) (m:=mag b-mag a) (by omega)
     have hs:zc6 (mag a) (mag b) = -1:=by unfold zc6; rw [if_pos hl]
     rw [hs] at ho
     rw [if_pos hl,if_pos hl]
     generalize mag b-mag a=m at *
     generalize mkW b.n m=w at *
     generalize m / 18446744073709551616=hi at *
     generalize m % 18446744073709551616=lo at *
     simp only [wd] at ea eb f3 ho ⊢
     simp [zjp,zjq,ea,eb,hnb,ho,f1,f2,f3]
    ·obtain ⟨c,d,f1,f2⟩:=ygd a b ha hb (by omega)
     have f3:=z4a (n:=a.n) (m:=mag a-mag b) (by omega)
     have hs : ¬ zc6 (mag a) (mag b)<0:=by unfold zc6; rw [if_neg hl]; split <;> omega
     rw [if_neg hl,if_neg hl]
     generalize mag a-mag b=m at *
     generalize mkW a.n m=w at *
     generalize m / 18446744073709551616=hi at *
     generalize m % 18446744073709551616=lo at *
     generalize zc6 (mag a) (mag b)=sg at *
     simp only [wd] at ea eb f3 ho ⊢
     simp [zjp,zjq,ea,eb,hnb,ho,hs,f1,f2,f3]
theorem ywe {a b:Int} (ha:inI a) (hb:inI b):wfU (zh3 a b):=by
 obtain ⟨m0,m1⟩:=ya0 ha hb
 exact z2v m0 (by omega)
def zev (w:Wd) (k:Int):Wd×Bool:=if wok w=true∧mag w*k.natAbs<170141183460469231731687303715884105728 then (mkW (w.n != decide (k<0)) (mag w*k.natAbs),true) else (zch,false)
theorem yth (w:Wd) (k:Int) (hw:wfU w) (hk:inI k) : ∃ p q:Int,w.h*k.natAbs=p∧w.l*k.natAbs=q∧0≤p∧0≤q∧q≤170141183460469231722463931679029329920∧mag w*k.natAbs=p*18446744073709551616+q:=by
 obtain ⟨a0,a1,a2,a3⟩:=hw
 obtain ⟨k0,k1⟩:=zrm hk
 refine ⟨_,_,rfl,rfl,Int.mul_nonneg a0 k0,Int.mul_nonneg a2 k0,Int.le_trans (Int.mul_le_mul (show w.l≤18446744073709551615 by omega) k1 k0 (by decide)) (by decide),?_⟩
 unfold mag
 rw [Int.add_mul,Int.mul_assoc,Int.mul_comm 18446744073709551616,← Int.mul_assoc]
theorem yrz (w:Wd) (k:Int) (ka:wok w=true) (p q:Int) (p0:0≤p) (q0:0≤q) (q1:q≤170141183460469231722463931679029329920) (hP:mag w*k.natAbs=p*18446744073709551616+q) :
  (zev w k=(zch,false)∧(0<p / 18446744073709551616∨0<(p % 18446744073709551616+q / 18446744073709551616) / 18446744073709551616∨wok ⟨(w.n != decide (k<0)) && (decide (0<(p % 18446744073709551616+q / 18446744073709551616) % 18446744073709551616) || decide (0<q % 18446744073709551616)),(p % 18446744073709551616+q / 18446744073709551616) % 18446744073709551616,q % 18446744073709551616⟩=false)) ∨
  (zev w k=(⟨(w.n != decide (k<0)) && (decide (0<(p % 18446744073709551616+q / 18446744073709551616) % 18446744073709551616) || decide (0<q % 18446744073709551616)),(p % 18446744073709551616+q / 18446744073709551616) % 18446744073709551616,q % 18446744073709551616⟩,true)∧¬ 0<p / 18446744073709551616∧¬ 0<(p % 18446744073709551616+q / 18446744073709551616) / 18446744073709551616∧wok ⟨(w.n != decide (k<0)) && (decide (0<(p % 18446744073709551616+q / 18446744073709551616) % 18446744073709551616) || decide (0<q % 18446744073709551616)),(p % 18446744073709551616+q / 18446744073709551616) % 18446744073709551616,q % 18446744073709551616⟩=true):=by
 by_cases hk:p*18446744073709551616+q<170141183460469231731687303715884105728
 ·right
  have e:(⟨(w.n != decide (k<0)) && (decide (0<(p % 18446744073709551616+q / 18446744073709551616) % 18446744073709551616) || decide (0<q % 18446744073709551616)),(p % 18446744073709551616+q / 18446744073709551616) % 18446744073709551616,q % 18446744073709551616⟩:Wd)=mkW (w.n != decide (k<0)) (p*18446744073709551616+q):=by
   unfold mkW
   congr 1
   ·congr 1
    rw [Bool.eq_iff_iff]; simp; omega
   ·omega
   ·omega
  rw [e,ya2 (by omega)]
  refine ⟨?_,by omega,by omega,decide_eq_true hk⟩
  unfold zev
  rw [hP,if_pos ⟨ka,hk⟩]
 ·left
  refine ⟨?_,?_⟩
  ·unfold zev
   rw [hP,if_neg (fun h=>hk h.2)]
  ·by_cases h1:0<p / 18446744073709551616
   ·exact .inl h1
   ·by_cases h2:0<(p % 18446744073709551616+q / 18446744073709551616) / 18446744073709551616
    ·exact .inr (.inl h2)
    ·refine .inr (.inr ?_)
     unfold wok
     rw [decide_eq_false (show ¬ (p % 18446744073709551616+q / 18446744073709551616) % 18446744073709551616<9223372036854775808 by omega)]
     rfl
set_option maxHeartbeats 1000000 in
theorem z87 (w:Wd) (k:Int) (hw:wfU w) (hk:inI k):RUN T zmg [.agg (wd w),iv k]=some ([.agg (wd (zev w k).1),bv (zev w k).2],[]):=by
 refine zag z8n rfl ?_
 have ea:=zqm w
 cases ka:wok w with
 | false =>
  have es:zev w k=(zch,false):=by unfold zev; simp [ka]
  rw [es]; rw [ka] at ea
  simp only [wd] at ea
  simp [zhj,zhk,wd,ea,zch]
 | true =>
  rw [ka] at ea
  obtain ⟨a0,a1,a2,a3⟩:=hw
  obtain ⟨k0,k1⟩:=zrm hk
  have e1:=z1g k hk
  have e2:=z1f w.h k.natAbs a0 a1 k0 (by omega)
  have e3:=z1f w.l k.natAbs a2 a3 k0 (by omega)
  obtain ⟨p,q,hp,hq,p0,q0,q1,hP⟩:=yth w k ⟨a0,a1,a2,a3⟩ hk
  rw [hp] at e2
  rw [hq] at e3
  have e4:=z32 z09 (x:=p % 18446744073709551616) (y:=q / 18446744073709551616) (c:=0) (by omega) (by omega) (by decide) (by decide)
  rw [Int.add_zero] at e4
  have e5:=zs0 (w.n != decide (k<0)) ((p % 18446744073709551616+q / 18446744073709551616) % 18446744073709551616) (q % 18446744073709551616)
  have e6:=zqm ⟨(w.n != decide (k<0)) && (decide (0<(p % 18446744073709551616+q / 18446744073709551616) % 18446744073709551616) || decide (0<q % 18446744073709551616)),(p % 18446744073709551616+q / 18446744073709551616) % 18446744073709551616,q % 18446744073709551616⟩
  have key:=yrz w k ka p q p0 q0 q1 hP
  generalize ((w.n != decide (k<0)) && (decide (0<(p % 18446744073709551616+q / 18446744073709551616) % 18446744073709551616) || decide (0<q % 18446744073709551616)))=sn at *
  generalize p / 18446744073709551616=P1 at *
  generalize p % 18446744073709551616=P2 at *
  generalize q / 18446744073709551616=Q1 at *
  generalize q % 18446744073709551616=Q2 at *
  generalize (P2+Q1) / 18446744073709551616=S1 at *
  generalize (P2+Q1) % 18446744073709551616=S2 at *
  generalize zev w k=r at *
  generalize wok ⟨sn,S2,Q2⟩=o at *
  obtain ⟨wn,wh,wl⟩:=w
  simp only [wd] at ea e5 e6 ⊢
  simp only at e2 e3
  rcases key with ⟨rfl,c | c | rfl⟩ | ⟨rfl,c1,c2,rfl⟩
  ·cases wn <;> by_cases sb:k<0 <;> simp [sb] at e5 <;> simp [zhj,zhk,ea,e1,e2,e3,e4,e5,sb,c,zch]
  ·by_cases c':0<P1
   ·cases wn <;> by_cases sb:k<0 <;> simp [sb] at e5 <;> simp [zhj,zhk,ea,e1,e2,e3,e4,e5,sb,c',zch]
   ·cases wn <;> by_cases sb:k<0 <;> simp [sb] at e5 <;> simp [zhj,zhk,ea,e1,e2,e3,e4,e5,sb,c',c,zch]
  ·by_cases c':0<P1
   ·cases wn <;> by_cases sb:k<0 <;> simp [sb] at e5 <;> simp [zhj,zhk,ea,e1,e2,e3,e4,e5,sb,c',zch]
   ·by_cases c:0<S1
    ·cases wn <;> by_cases sb:k<0 <;> simp [sb] at e5 <;> simp [zhj,zhk,ea,e1,e2,e3,e4,e5,sb,c',c,zch]
    ·cases wn <;> by_cases sb:k<0 <;> simp [sb] at e5 <;> simp [zhj,zhk,ea,e1,e2,e3,e4,e5,e6,sb,c',c,zch]
  ·cases wn <;> by_cases sb:k<0 <;> simp [sb] at e5 <;> simp [zhj,zhk,ea,e1,e2,e3,e4,e5,e6,sb,c1,c2]
def zet (w:Wd):Bool:=w.n && !(decide (w.h=0) && decide (w.l=0))
def zqx (a b:Wd):Int:=if zet a=true then (if zet b=true then zf3 b a else -1) else (if zet b=true then 1 else zf3 a b)
theorem ygm (l:List Nd) (x:Nd):l.map nd++[[iv x.f,iv x.c,iv x.l,iv x.r,iv x.v]]=(l++[x]).map nd:=by simp [nd]
theorem ydr {l:List Nd} {i:Nat} {x:Nd} (h:l[i]?=some x):(l.map nd)[i]?=some [iv x.f,iv x.c,iv x.l,iv x.r,iv x.v]:=by simp [h,nd]
def yg6 (t:List Nd) (k:Nat) (f c a b:Int):List Nd:=t.set k ⟨f,c,t.length,t.length+1,0⟩++[⟨-1,0,0,0,a⟩,⟨-1,0,0,0,b⟩]
theorem yu1 (t:List Nd) (k:Nat) (f c l r v:Int):(t.map nd).set k [iv f,iv c,iv l,iv r,iv v]=(t.set k ⟨f,c,l,r,v⟩).map nd:=by
 rw [List.map_set]; rfl
theorem ysc (l:List ByteArray) (i:Nat) (s:ByteArray):(za5 l).set i [.v (.string s)]=za5 (l.set i s):=by simp [za5]
def ytk (B:List Int) (l:List ByteArray) (r:List PV×List PV):Prop := ∃ (x:ByteArray) (p:Nat) (s:Int),x∈l∧p≤B.length∧r=([.v (.string x)],[.bx [.sl 1 (zbl B),iv p,iv s],.own 1 (za5 l)])
theorem z88 (B:List Int) (p:Nat) (s:Int) (hp:p≤B.length) (hB:B.length≤9223372036854775807) (l:List ByteArray) (hl:0<l.length∧l.length≤9223372036854775807) : ∃ r,RUN T zl0 [.bx [.sl 1 (zbl B),iv p,iv s],.own 1 (za5 l)]=some r∧ytk B l r:=by
 refine zgz z7e rfl ?_
 obtain ⟨r1,h1,v1,p1,s1,⟨a1,rfl,a10,a11⟩,hp1,rfl⟩:=zbv B p s hp hB l.length (by omega)
 obtain ⟨i,rfl⟩ : ∃ i:Nat,a1=i:=⟨a1.toNat,by omega⟩
 have hi:i<l.length:=by have:=a11 (by omega); omega
 obtain ⟨x,hx⟩ : ∃ x,l[i]?=some x:=⟨_,List.getElem?_eq_getElem hi⟩
 have hx':=zq0 hx
 simp [-getElem?_pos,zwu,zwv,h1,hx',hi]
 exact ⟨x,p1,s1,List.mem_of_getElem? hx,hp1,rfl⟩
theorem yeb (l:List ByteArray):zcr (za5 l)=true:=by simp [zcr,za5]
theorem yve (M:List (List Nd)) (t:List Nd):trs true M++[[.own 5 (t.map nd)]]=trs true (M++[t]):=by simp [trs,znr]
theorem z0k (L:List (List Int)) (r:List Int):rws true L++[[.own 1 (zac r)]]=rws true (L++[r]):=by simp [rws,cel]
theorem z4f (L:List (List Int)) (i:Nat) (r:List Int):(rws true L).set i [.own 1 (zac r)]=rws true (L.set i r):=by simp [rws,cel]
def pos (x:Int) (l:List Int):Nat→Nat
 | 0=>0
 | k+1=>if x<l.getD k 0 then pos x l k else k+1
def ins (l:List Int) (x:Int):List Int:=l.take (pos x l l.length)++x::l.drop (pos x l l.length)
def zfq (l:List Int):List Int:=l.foldl ins []
theorem z2u (x:Int) (l:List Int) : ∀ k,pos x l k≤k
 | 0=>by simp [pos]
 | k+1=>by
  have:=z2u x l k
  simp only [pos]; split <;> omega
theorem yuf (l:List Int) (x:Int):(ins l x).length=l.length+1:=by
 have:=z2u x l l.length
 unfold ins
 simp; omega
theorem yuq (l:List Int) : ∀ a:List Int,(l.foldl ins a).length=a.length+l.length:=by
 induction l with
 | nil=>intro a; rfl
 | cons x l ih=>intro a; simp only [List.foldl_cons,ih,yuf,List.length_cons]; omega
theorem yy5 (x:Int) (l:List Int) (k:Nat):pos x l (k+1)=if x<l.getD k 0 then pos x l k else k+1:=rfl
def zi4 (x:Int) (l:List Int) (k P:Nat):Prop:=pos x l k=P
theorem zi4.ex (x:Int) (l:List Int) (k:Nat) : ∃ P,zi4 x l k P:=⟨_,rfl⟩
theorem zi4.z {x:Int} {l:List Int} {P:Nat} (h:zi4 x l 0 P):0=P:=h
theorem yfq {x:Int} {l:List Int} {P:Nat} (h:zi4 x l l.length P):ins l x=l.take P++x::l.drop P:=by unfold zi4 at h; unfold ins; rw [h]
attribute [irreducible] pos ins zi4
structure Ta where
 ns:List ByteArray
 nm:ByteArray
 rw:List (List Int)
 lb:List Int
abbrev taS (q:Bool) (t:Ta):PV := .agg [.sl 1 (za5 t.ns),.v (.string t.nm),.sl 1 (rws q t.rw),.sl 1 (zac t.lb)]
abbrev taO (t:Ta):PV := .agg [.own 1 (za5 t.ns),.v (.string t.nm),.own 1 (rws true t.rw),.own 1 (zac t.lb)]
structure TaL (n:Nat) (t:Ta):Prop where
 ns:t.ns.length≤n
 ss : ∀ x∈t.ns,x.size≤n
 nm:t.nm.size≤n
 rw:t.rw.length≤n
 rr : ∀ l∈t.rw,l.length≤n
 lb:t.lb.length≤n
structure Sta where
 sm:List Int
 ts:List (List Nd)
abbrev stS (q:Bool) (s:Sta):PV := .agg [.sl 1 (zac s.sm),.sl 1 (trs q s.ts)]
abbrev stO (s:Sta):PV := .agg [.own 1 (zac s.sm),.own 1 (trs true s.ts)]
structure ye0 (n:Nat) (s:Sta):Prop where
 sm:s.sm.length≤n
 ts:s.ts.length≤n
 tl : ∀ l∈s.ts,l.length≤n
structure Sl where
 n:Int
 g:Int
deriving DecidableEq
def slc (x:Sl):List PV:=[iv x.n,iv x.g]
def zb6 (l:List Sl):List (List PV):=l.map slc
@[simp] theorem y5p (l:List Sl):(zb6 l).length=l.length:=by simp [zb6]
theorem z0r {l:List Sl} {i:Nat} {x:Sl} (h:l[i]?=some x):(zb6 l)[i]?=some [iv x.n,iv x.g]:=by simp [zb6,h,slc]
theorem ytt (l:List Sl) (i:Nat) (a b:Int):(zb6 l).set i [iv a,iv b]=zb6 (l.set i ⟨a,b⟩):=by simp [zb6,List.map_set,slc]
def slI (x:Sl):Prop:=inI x.n∧inI x.g
def zb5 (a b:Sl):Sl×Bool:=if ((adi a.n b.n).2 && (adi a.g b.g).2)=true then (⟨(adi a.n b.n).1,(adi a.g b.g).1⟩,true) else (⟨0,0⟩,false)
theorem ztn {a b:Sl} (h:slI a):slI (zb5 a b).1:=by
 unfold zb5
 split
 ·exact ⟨z4h h.1,z4h h.2⟩
 ·unfold slI inI; simp
theorem z1i (a b:Sl) (ha:slI a) (hb:slI b):RUN T zkp [.agg (slc a),.agg (slc b)]=some ([.agg (slc (zb5 a b).1),bv (zb5 a b).2],[]):=by
 refine zag z75 rfl ?_
 have e1:=zy4 a.n b.n ha.1 hb.1
 have e2:=zy4 a.g b.g ha.2 hb.2
 unfold zb5
 generalize adi a.n b.n=x at *
 generalize adi a.g b.g=y at *
 obtain ⟨x,xb⟩:=x
 obtain ⟨y,yb⟩:=y
 simp only at e1 e2 ⊢
 cases xb <;> cases yb <;> simp [zx0,zx1,e1,e2,slc]
def atI {α:Type} (l:List α) (i:Int):Option α:=if 0≤i then l[i.toNat]? else none
theorem zkh {α:Type} {l:List α} {i:Int} {x:α} (h:atI l i=some x) : ∃ j:Nat,i=j∧l[j]?=some x∧j<l.length:=by
 unfold atI at h
 split at h
 ·refine ⟨i.toNat,by omega,h,?_⟩
  rcases Nat.lt_or_ge i.toNat l.length with h' | h'
  ·exact h'
  ·rw [List.getElem?_eq_none (by omega)] at h; cases h
 ·cases h
theorem zua {α:Type} {l:List α} {i:Int} (h:atI l i=none):i<0∨(l.length:Int)≤i:=by
 unfold atI at h
 split at h
 ·right
  rcases Nat.lt_or_ge i.toNat l.length with h' | h'
  ·rw [List.getElem?_eq_getElem h'] at h; cases h
  ·omega
 ·omega
def zco (b g:List Int):List Int→List Sl→Option (List Sl)
 | [],h=>some h
 | r::rs,h=>match atI b r,atI g r with
  | some x,some y=>match atI h x with
   | some s=>if (zb5 s ⟨1,y⟩).2=true then zco b g rs (h.set x.toNat (zb5 s ⟨1,y⟩).1) else none
   | none=>none
  | _,_=>none
def zcu (b g rows:List Int) (k:Int):List Sl×Bool:=if zal k 1 8=true then match zco b g rows (List.replicate k.toNat ⟨0,0⟩) with
  | some h=>(h,true)
  | none=>([],false)
 else ([],false)
theorem yyk (n:Nat):zb6 (List.replicate n ⟨0,0⟩)=List.replicate n [iv 0,iv 0]:=by simp [zb6,slc]
set_option maxHeartbeats 2000000 in
theorem yo6 (b g rows:List Int) (k:Int) (hb:b.length≤1048576) (hg:g.length≤1048576) (hr:rows.length≤1048576) (hgi : ∀ x∈g,inI x):RUN T zpk [.sl 1 (zac b),.sl 1 (zac g),.sl 1 (zac rows),iv k]=some ([.own 2 (zb6 (zcu b g rows k).1),bv (zcu b g rows k).2],[]):=by
 refine zag z70 rfl ?_
 cases hk:zal k 1 8 with
 | false =>
  have e:=zcb k 1 8
  rw [hk] at e
  have e2:zcu b g rows k=([],false):=by unfold zcu; rw [hk]; rfl
  rw [e2]
  simp [-getElem?_pos,zso,zsp,-zbd,e,zb6]
 | true =>
  have e:=zcb k 1 8
  rw [hk] at e
  have hk':=za2.mp hk
  obtain ⟨kn,rfl⟩ : ∃ n:Nat,k=n:=⟨k.toNat,by omega⟩
  have hro:zam 16 kn=true:=by simp [zam]; omega
  obtain ⟨R,hR⟩ : ∃ R,R=zcu b g rows kn:=⟨_,rfl⟩
  have hR':R=match zco b g rows (List.replicate kn ⟨0,0⟩) with
   | some h=>(h,true)
   | none=>([],false):=by rw [hR]; unfold zcu; rw [if_pos hk]; first | (simp; done) | (simp; rfl)
  rw [← hR]
  clear hR
  simp [-getElem?_pos,zso,zsp,-zbd,e,hro]
  refine za3 (fun n st => ∃ (i:Nat) (h:List Sl),i+n=rows.length∧h.length=kn∧(∀ s∈h,slI s)∧zco b g (rows.drop i) h=zco b g rows (List.replicate kn ⟨0,0⟩)∧st.V 0 = .sl 1 (zac b)∧st.V 1 = .sl 1 (zac g)∧st.V 3=iv kn∧st.V 10 = .ref 0 none 0 0 kn∧st.V 20 = .sl 1 (zac rows)∧st.V 21=iv rows.length∧st.V 22=iv i∧0<st.nx∧st.S 0=some (.row 2 (zb6 h))) ?_ rows.length _ ⟨0,List.replicate kn ⟨0,0⟩,by omega,by simp,?_,by simp,by simp,by simp,by simp,by simp,by simp,by simp,by simp,by simp,by simp [yyk]⟩
  ·rintro n st ⟨i,h,hi,hhl,hhi,hh,v0,v1,v3,v10,v20,v21,v22,hnx,hS⟩
   obtain ⟨z1,z2,z3,z4⟩:=fr hnx
   by_cases hlt:i<rows.length
   ·obtain ⟨r,hrr⟩ : ∃ r,rows[i]?=some r:=⟨_,List.getElem?_eq_getElem hlt⟩
    have hr':=zbp hrr
    have hws:=wS hlt (by omega:rows.length≤9223372036854775807)
    have w1:=w64 (x:=min (b.length:Int) g.length-1) (by omega) (by omega)
    have w2:=w64 (x:=(kn:Int)-1) (by omega) (by omega)
    have e1:=zcb r 0 (min (b.length:Int) g.length-1)
    rw [zd7 hrr,zco] at hh
    cases hbx:atI b r with
    | none =>
     rw [hbx] at hh
     have hn:=zua hbx
     have:zal r 0 (min (b.length:Int) g.length-1)=false:=by
      cases hw:zal r 0 (min (b.length:Int) g.length-1) with
      | false=>rfl
      | true=>have:=za2.mp hw; omega
     rw [this] at e1
     rw [← hh] at hR'
     subst hR'
     simp [-getElem?_pos,zmv,-zbd,v0,v1,v3,v10,v20,v21,v22,hS,hlt,hr',w1,e1,zb6]
    | some x =>
     obtain ⟨rn,rfl,hbr,hbl⟩:=zkh hbx
     cases hgy:atI g rn with
     | none =>
      rw [hbx,hgy] at hh
      have hn:=zua hgy
      have:zal rn 0 (min (b.length:Int) g.length-1)=false:=by
       cases hw:zal rn 0 (min (b.length:Int) g.length-1) with
       | false=>rfl
       | true=>have:=za2.mp hw; omega
      rw [this] at e1
      rw [← hh] at hR'
      subst hR'
      simp [-getElem?_pos,zmv,-zbd,v0,v1,v3,v10,v20,v21,v22,hS,hlt,hr',w1,e1,zb6]
     | some y =>
      obtain ⟨rn',hrn,hgr,hgl⟩:=zkh hgy
      have:rn'=rn:=by omega
      subst this
      have:zal rn' 0 (min (b.length:Int) g.length-1)=true:=za2.mpr (by omega)
      rw [this] at e1
      rw [hbx,hgy] at hh
      simp only at hh
      have hb':=zbp hbr
      have hg':=zbp hgr
      have e2:=zcb x 0 ((kn:Int)-1)
      cases hhx:atI h x with
      | none =>
       rw [hhx] at hh
       have hn:=zua hhx
       have:zal x 0 ((kn:Int)-1)=false:=by
        cases hw:zal x 0 ((kn:Int)-1) with
        | false=>rfl
        | true=>have:=za2.mp hw; omega
       rw [this] at e2
       simp only at hh
       rw [← hh] at hR'
       subst hR'
       simp [-getElem?_pos,zmv,-zbd,v0,v1,v3,v10,v20,v21,v22,hS,hlt,hr',hb',hbl,w1,w2,e1,e2,zb6]
      | some s =>
       obtain ⟨xn,rfl,hhs,hhl2⟩:=zkh hhx
       have:zal xn 0 ((kn:Int)-1)=true:=za2.mpr (by omega)
       rw [this] at e2
       rw [hhx] at hh
       have hs':=z0r hhs
       have hsi:=hhi s (List.mem_of_getElem? hhs)
       have hyi:=hgi y (List.mem_of_getElem? hgr)
       have hpi:=ztn (b:=⟨1,y⟩) hsi
       have e3:=z1i s ⟨1,y⟩ hsi ⟨by unfold inI; simp,hyi⟩
       simp only [Int.toNat_natCast] at hh
       have hxk:xn<kn:=by omega
       generalize zb5 s ⟨1,y⟩=p at *
       obtain ⟨⟨pn,pg⟩,pb⟩:=p
       simp only [slc] at e3 hh
       cases pb with
       | false =>
        rw [if_neg (by simp)] at hh
        rw [← hh] at hR'
        subst hR'
        simp [-getElem?_pos,zmv,-zbd,v0,v1,v3,v10,v20,v21,v22,hS,hlt,hr',hb',hbl,hg',hgl,hs',hxk,hhl,w1,w2,e1,e2,e3,z1,z2,z3,z4]
        simp [zb6]
       | true =>
        rw [if_pos rfl] at hh
        have hset:=ytt h xn pn pg
        simp [-getElem?_pos,zmv,-zbd,v0,v1,v3,v10,v20,v21,v22,hS,hlt,hr',hb',hbl,hg',hgl,hs',hxk,hhl,w1,w2,e1,e2,e3,hws,hset,z1,z2,z3,z4]
        refine zaq (n-1) (by omega) ⟨i+1,h.set xn ⟨pn,pg⟩,by omega,by simp [hhl],fun q hq => ?_,hh,by simp [v0],by simp [v1],by simp [v3],by simp [v10],by simp [v20],by simp [v21],by simp,by simp,by simp⟩
        rcases List.mem_or_eq_of_mem_set hq with h' | h'
        ·exact hhi q h'
        ·subst h'; exact hpi
   ·rw [List.drop_eq_nil_of_le (by omega),zco] at hh
    rw [← hh] at hR'
    subst hR'
    simp [-getElem?_pos,zmv,v10,v21,v22,hS,hlt,hhl]
  ·intro s hs
   have:=List.eq_of_mem_replicate hs
   subst this
   exact ⟨by unfold inI; simp,by unfold inI; simp⟩
def ztf (q:Bool) (l:List Sl):PV:=if q then .own 2 (zb6 l) else .sl 2 (zb6 l)
@[simp] theorem y5d (q:Bool) (l:List Sl):fz (ztf q l) = .sl 2 (zb6 l):=by cases q <;> simp [ztf]
def rss (q:Bool) (H:List (List Sl)):List (List PV):=H.map fun l=>[ztf q l]
@[simp] theorem y8l (q:Bool) (H:List (List Sl)):(rss q H).length=H.length:=by simp [rss]
theorem yya {q:Bool} {H:List (List Sl)} {i:Nat} {l:List Sl} (h:H[i]?=some l):(rss q H)[i]?=some [ztf q l]:=by simp [rss,h]
theorem yue (H:List (List Sl)) (l:List Sl):rss true H++[[.own 2 (zb6 l)]]=rss true (H++[l]):=by simp [rss,ztf]
def zb3 (g rows:List Int):List (List Int)→List (List Int)→Option (List (List Sl))
 | x::c,y::v=>if (zcu y g rows (x.length+1)).2=true then (zb3 g rows c v).map ((zcu y g rows (x.length+1)).1 :: ·) else none
 | _,_=>some []
def zcc (c v:List (List Int)) (g rows:List Int):List (List Sl)×Bool:=if zei c v=true then match zb3 g rows c v with
  | some h=>(h,true)
  | none=>([],false)
 else ([],false)
theorem yz1 {g rows:List Int} {c v:List (List Int)} {i:Nat} {x y:List Int} (hx:c[i]?=some x) (hy:v[i]?=some y):zb3 g rows (c.drop i) (v.drop i)=if (zcu y g rows (x.length+1)).2=true then (zb3 g rows (c.drop (i+1)) (v.drop (i+1))).map ((zcu y g rows (x.length+1)).1 :: ·) else none:=by
 rw [zd7 hx,zd7 hy,zb3]
theorem ytz {g rows:List Int} {v:List (List Int)}:zb3 g rows [] v=some []:=by simp [zb3]
theorem z3v {b g:List Int} : ∀ (rows:List Int) (h h':List Sl),zco b g rows h=some h'→h'.length=h.length
 | [],h,h',e=>by simp [zco] at e; subst e; rfl
 | r::rs,h,h',e=>by
  simp only [zco] at e
  split at e
  ·split at e
   ·split at e
    ·have:=z3v rs _ _ e
     simpa using this
    ·cases e
   ·cases e
  ·cases e
theorem yq1 (b g rows:List Int) (k:Int):(zcu b g rows k).1.length≤8:=by
 unfold zcu
 split
 ·rename_i hk
  have:=za2.mp hk
  cases h:zco b g rows (List.replicate k.toNat ⟨0,0⟩) with
  | none=>simp
  | some h'=>have:=z3v _ _ _ h; simp at this; simp; omega
 ·simp
theorem z91 {g rows:List Int} : ∀ (c v:List (List Int)) (H:List (List Sl)),zb3 g rows c v=some H→H.length≤c.length∧∀ l∈H,l.length≤8
 | [],v,H,h=>by simp [zb3] at h; subst h; simp
 | x::c,[],H,h=>by simp [zb3] at h; subst h; simp
 | x::c,y::v,H,h=>by
  simp only [zb3] at h
  split at h
  ·simp only [Option.map_eq_some_iff] at h
   obtain ⟨H',h1,rfl⟩:=h
   obtain ⟨h2,h3⟩:=z91 c v H' h1
   refine ⟨by simp; omega,fun l hl => ?_⟩
   rcases List.mem_cons.mp hl with e | e
   ·subst e; exact yq1 _ _ _ _
   ·exact h3 l e
  ·cases h
theorem ztd (c v:List (List Int)) (g rows:List Int):(zcc c v g rows).1.length≤c.length∧∀ l∈(zcc c v g rows).1,l.length≤8:=by
 unfold zcc
 split
 ·cases h:zb3 g rows c v with
  | none=>simp
  | some H=>exact z91 c v H h
 ·simp
theorem yfo {c v:List (List Int)} (h:zei c v=true):v.length=c.length∧c.length≤4:=by
 unfold zei at h
 simp only [Bool.and_eq_true,decide_eq_true_eq] at h
 have:=za2.mp h.1.1.1
 omega
set_option maxHeartbeats 2000000 in
theorem yo7 (q:Bool) (c v:List (List Int)) (g rows:List Int) (hc : ∀ l∈c,l.length≤1048576) (hv : ∀ l∈v,l.length≤1048576) (hg:g.length≤1048576) (hr:rows.length≤1048576) (hgi : ∀ x∈g,inI x):RUN T zpe [.agg [.sl 1 (rws q c),.sl 1 (rws q v)],.sl 1 (zac g),.sl 1 (zac rows)]=some ([.own 1 (rss true (zcc c v g rows).1),bv (zcc c v g rows).2],[]):=by
 refine zag z7q rfl ?_
 have e:=z8y q c v (fun l hl=>Nat.le_trans (hc l hl) (by omega)) (fun l hl=>Nat.le_trans (hv l hl) (by omega))
 cases hk:zei c v with
 | false =>
  rw [hk] at e
  have e2:zcc c v g rows=([],false):=by unfold zcc; rw [hk]; rfl
  rw [e2]
  simp [-getElem?_pos,zsk,zsl,e,rss]
 | true =>
  rw [hk] at e
  obtain ⟨hvc,hc4⟩:=yfo hk
  obtain ⟨R,hR⟩ : ∃ R,R=zcc c v g rows:=⟨_,rfl⟩
  have hR':R=match zb3 g rows c v with
   | some h=>(h,true)
   | none=>([],false):=by rw [hR]; unfold zcc; exact if_pos hk
  rw [← hR]
  clear hR
  have hr0:zam 24 0=true:=by decide
  have hr1:zam 24 1=true:=by decide
  simp [-getElem?_pos,zsk,zsl,e,hr0]
  refine za3 (fun n st => ∃ (i o e:Nat) (H:List (List Sl)),i+n=c.length∧H.length=i∧zb3 g rows c v=(zb3 g rows (c.drop i) (v.drop i)).map (H ++ ·)∧st.V 1 = .sl 1 (zac g)∧st.V 2 = .sl 1 (zac rows)∧st.V 3 = .ptr 0 none 0 0 0∧st.V 8 = .ref o none e 0 H.length∧st.V 18 = .sl 1 (rws q c)∧st.V 19=iv c.length∧st.V 20=iv i∧0<o∧o<st.nx∧st.S 0=some (.box [.sl 1 (rws q c),.sl 1 (rws q v)])∧st.S o=some (.row 1 (rss true H))) ?_ c.length _ ⟨0,1,0,[],by simp [rss]⟩
  rintro n st ⟨i,o,ep,H,hi,hH,hL,v1,v2,v3,v8,v18,v19,v20,ho,hox,hS,hSo⟩
  obtain ⟨x1,x2,x3,x4⟩:=fr hox
  obtain ⟨g1,g2,g3,g4⟩:=fr ho
  obtain ⟨z1,z2,z3,z4⟩:=fr (show 0<st.nx by omega)
  by_cases hlt:i<c.length
  ·obtain ⟨x,hx⟩ : ∃ x,c[i]?=some x:=⟨_,List.getElem?_eq_getElem hlt⟩
   obtain ⟨y,hy⟩ : ∃ y,v[i]?=some y:=⟨_,List.getElem?_eq_getElem (by omega)⟩
   have hx':=zfi (q:=q) hx
   have hy':=zfi (q:=q) hy
   have hiv:i<v.length:=by omega
   have hxl:=hc x (List.mem_of_getElem? hx)
   have hws:=wS hlt (by omega:c.length≤9223372036854775807)
   have hwl:=w64 (x:=(x.length:Int)+1) (by omega) (by omega)
   have hh:=yo6 y g rows (x.length+1) (hv y (List.mem_of_getElem? hy)) hg hr hgi
   have hr24:zam 24 (H.length+1)=true:=by simp [zam]; omega
   rw [yz1 hx hy] at hL
   generalize zcu y g rows (x.length+1)=p at *
   obtain ⟨ph,pb⟩:=p
   simp only at hh hL
   cases pb with
   | false =>
    rw [if_neg (by simp)] at hL
    rw [hL] at hR'
    subst hR'
    simp [-getElem?_pos,zxa,v1,v2,v3,v8,v18,v19,v20,hS,hSo,hlt,hiv,hx',hy',hwl,hh,rss,x1,x2,x3,x4,g1,g2,g3,g4,z1,z2,z3,z4]
   | true =>
    rw [if_pos rfl] at hL
    have hsn:=yue H ph
    simp [-getElem?_pos,zxa,v1,v2,v3,v8,v18,v19,v20,hS,hSo,hlt,hiv,hx',hy',hwl,hws,hh,hr1,hr24,hsn,x1,x2,x3,x4,g1,g2,g3,g4,z1,z2,z3,z4]
    exact zaq (n-1) (by omega) ⟨i+1,st.nx+2,st.ep,H++[ph],by omega,by simp [hH],by rw [hL]; cases zb3 g rows (c.drop (i+1)) (v.drop (i+1)) <;> simp,by simp [v1],by simp [v2],by simp [v3],by simp,by simp [v18],by simp [v19],by simp,by omega,by simp,by simp [x1,x2,x3,x4,g1,g2,g3,g4,z1,z2,z3,z4,hS],by simp⟩
  ·have h0:c.drop i=[]:=List.drop_eq_nil_of_le (by omega)
   rw [h0,ytz] at hL
   rw [hL] at hR'
   simp only [Option.map_some,List.append_nil] at hR'
   subst hR'
   simp [-getElem?_pos,zxa,v8,v19,v20,hSo,hlt]
def yej (k:Int) (n:Nat):List Sl:=(List.range n).map fun (i:Nat)=>⟨k+2*(i:Int),k+2*(i:Int)+1⟩
@[simp] theorem y8c (k:Int) (n:Nat):(yej k n).length=n:=by simp [yej]
theorem z89 (x:Int):RUN T zme [iv x]=some ([bv false],[]):=by
 refine zag z8i rfl ?_
 simp [zyi,zyj]
theorem z9a (x y:Int):RUN T zmd [iv x,iv y]=some ([iv (zc6 x y)],[]):=by
 refine zag z8h rfl ?_
 have e1:=z89 x
 have e2:=z89 y
 unfold zc6
 by_cases h1:x<y
 ·simp [zqg,zqh,e1,e2,h1]
 ·by_cases h2:y<x
  ·simp [zqg,zqh,e1,e2,h1,h2]
  ·simp [zqg,zqh,e1,e2,h1,h2]
theorem yo8 (a b:Wd) (ha:wfU a) (hb:wfU b):RUN T zps [.agg (wd a),.agg (wd b)]=some ([iv (zqx a b)],[]):=by
 refine zag z8f rfl ?_
 have n1:(a.n && (decide (0<a.h) || decide (0<a.l)))=zet a:=by
  obtain ⟨h0,_,h1,_⟩:=ha
  unfold zet
  congr 1
  rw [Bool.eq_iff_iff]; simp; omega
 have n2:(b.n && (decide (0<b.h) || decide (0<b.l)))=zet b:=by
  obtain ⟨h0,_,h1,_⟩:=hb
  unfold zet
  congr 1
  rw [Bool.eq_iff_iff]; simp; omega
 have e1:=zs0 a.n a.h a.l
 have e2:=zs0 b.n b.h b.l
 rw [n1] at e1
 rw [n2] at e2
 have e3:=z1h ⟨zet a,a.h,a.l⟩ ⟨zet b,b.h,b.l⟩
 have e4:=z1h ⟨zet b,b.h,b.l⟩ ⟨zet a,a.h,a.l⟩
 have o1:zf3 ⟨zet a,a.h,a.l⟩ ⟨zet b,b.h,b.l⟩=zf3 a b:=rfl
 have o2:zf3 ⟨zet b,b.h,b.l⟩ ⟨zet a,a.h,a.l⟩=zf3 b a:=rfl
 rw [o1] at e3
 rw [o2] at e4
 clear o1 o2 n1 n2 ha hb
 unfold zqx
 generalize zf3 a b=x at *
 generalize zf3 b a=y at *
 generalize zet a=p at *
 generalize zet b=q at *
 obtain ⟨an,ah,al⟩:=a
 obtain ⟨bn,bh,bl⟩:=b
 simp only [wd] at e1 e2 e3 e4 ⊢
 cases p <;> cases q <;> simp [zye,zyf,e1,e2,e3,e4]
structure Fr where
 w:Wd
 d:Int
def frc (f:Fr):List PV:=[bv f.w.n,uv f.w.h,uv f.w.l,iv f.d]
def frB (f:Fr):Bool:=wok f.w && zal f.d 1 1000000
def zge:Fr:=⟨zch,0⟩
def zg3 (w:Wd) (d:Int):Fr×Bool:=if frB ⟨w,d⟩=true then (⟨w,d⟩,true) else (zge,false)
theorem z1j (f:Fr):RUN T zks [.agg (frc f)]=some ([bv (frB f)],[]):=by
 refine zag z8m rfl ?_
 have e1:=zqm f.w
 have e2:=zcb f.d 1 1000000
 unfold frB
 generalize wok f.w=x at *
 generalize zal f.d 1 1000000=y at *
 simp only [wd] at e1
 cases x <;> simp [zyo,zyp,-zbd,frc,e1,e2]
theorem z9b (w:Wd) (d:Int):RUN T zmf [.agg (wd w),iv d]=some ([.agg (frc (zg3 w d).1),bv (zg3 w d).2],[]):=by
 refine zag z8l rfl ?_
 have e1:=z1j ⟨w,d⟩
 unfold zg3
 generalize frB ⟨w,d⟩=x at *
 simp only [frc] at e1
 cases x <;> simp [zym,zyn,wd,frc,zge,zch,e1]
theorem yo9 (a d:Int) (ha:inI a):RUN T zpt [iv a,iv d]=some ([.agg (frc (zg3 (zh3 a a) d).1),bv (zg3 (zh3 a a) d).2],[]):=by
 refine zag z8j rfl ?_
 have e1:=yo4 a a ha ha
 have e2:=z9b (zh3 a a) d
 generalize zh3 a a=m at *
 generalize zg3 m d=f at *
 obtain ⟨⟨fw,fd⟩,fb⟩:=f
 simp only [wd,frc] at e1 e2 ⊢
 simp [zyk,zyl,e1,e2]
def frI (f:Fr):Prop:=wfU f.w∧inI f.d
theorem ztm:wfU zch:=⟨by decide,by decide,by decide,by decide⟩
theorem z96 (w:Wd) (k:Int) (h:wfU w):wfU (zev w k).1:=by
 unfold zev
 split
 ·rename_i hc
  refine z2v ?_ (by omega)
  obtain ⟨h0,h1,h2,h3⟩:=h
  exact Int.mul_nonneg (by unfold mag; omega) (by omega)
 ·exact ztm
def zcl (a b:Fr):Wd×Wd×Bool:=if (frB a && frB b)=true then ((zev a.w b.d).1,(zev b.w a.d).1,(zev a.w b.d).2 && (zev b.w a.d).2) else (zch,zch,false)
theorem ycc (a b:Fr) (ha:wfU a.w) (hb:wfU b.w):wfU (zcl a b).1∧wfU (zcl a b).2.1:=by
 unfold zcl
 split
 ·exact ⟨z96 _ _ ha,z96 _ _ hb⟩
 ·exact ⟨ztm,ztm⟩
theorem yr0 {a b:Fr} (h:(zcl a b).2.2=true):(1≤a.d∧a.d≤1000000)∧1≤b.d∧b.d≤1000000:=by
 unfold zcl at h
 split at h
 ·rename_i hc
  simp only [frB,Bool.and_eq_true] at hc
  exact ⟨za2.mp hc.1.2,za2.mp hc.2.2⟩
 ·cases h
theorem z9c (a b:Fr) (ha:frI a) (hb:frI b):RUN T zmb [.agg (frc a),.agg (frc b)]=some ([.agg (wd (zcl a b).1),.agg (wd (zcl a b).2.1),bv (zcl a b).2.2],[]):=by
 refine zag z8e rfl ?_
 have e1:=z1j a
 have e2:=z1j b
 have e3:=z87 a.w b.d ha.1 hb.2
 have e4:=z87 b.w a.d hb.1 ha.2
 unfold zcl
 generalize zev a.w b.d=x at *
 generalize zev b.w a.d=y at *
 generalize frB a=p at *
 generalize frB b=q at *
 obtain ⟨⟨an,ah,al⟩,ad⟩:=a
 obtain ⟨⟨bn,bh,bl⟩,bd⟩:=b
 obtain ⟨x,xb⟩:=x
 obtain ⟨y,yb⟩:=y
 simp only [frc,wd] at e1 e2 e3 e4 ⊢
 cases p <;> cases q <;> cases xb <;> simp [zyc,zyd,e1,e2,e3,e4,zch]
def zhd (a b:Fr):Int×Bool:=if (zcl a b).2.2=true then (zqx (zcl a b).1 (zcl a b).2.1,true) else (0,false)
theorem z9d (a b:Fr) (ha:frI a) (hb:frI b):RUN T zma [.agg (frc a),.agg (frc b)]=some ([iv (zhd a b).1,bv (zhd a b).2],[]):=by
 refine zag z79 rfl ?_
 have e1:=z9c a b ha hb
 obtain ⟨w1,w2⟩:=ycc a b ha.1 hb.1
 have e2:=yo8 (zcl a b).1 (zcl a b).2.1 w1 w2
 unfold zhd
 generalize zcl a b=r at *
 obtain ⟨x,y,o⟩:=r
 simp only at e2 ⊢
 generalize zqx x y=z at *
 simp only [frc,wd] at e1 e2 ⊢
 cases o <;> simp [zx6,zx7,e1,e2]
def zng (a b:Fr):Fr×Bool:=if (zcl a b).2.2=true then (if (zep (zcl a b).1 (zcl a b).2.1).2=true then zg3 (zep (zcl a b).1 (zcl a b).2.1).1 (a.d*b.d) else (zge,false)) else (zge,false)
theorem ywj {a b:Int} (h:(1≤a∧a≤1000000)∧1≤b∧b≤1000000):IntKind.i64.wrap (a*b)=a*b:=by
 have h1:a*b≤1000000*1000000:=Int.mul_le_mul h.1.2 h.2.2 (by omega) (by decide)
 have h2:0≤a*b:=Int.mul_nonneg (by omega) (by omega)
 exact w64 (by omega) (by omega)
theorem ypa (a b:Fr) (ha:frI a) (hb:frI b):RUN T zpr [.agg (frc a),.agg (frc b)]=some ([.agg (frc (zng a b).1),bv (zng a b).2],[]):=by
 refine zag z8d rfl ?_
 have e1:=z9c a b ha hb
 obtain ⟨w1,w2⟩:=ycc a b ha.1 hb.1
 have e2:=yo5 (zcl a b).1 (zcl a b).2.1 w1 w2
 have hok := @yr0 a b
 have e3:=z9b (zep (zcl a b).1 (zcl a b).2.1).1 (a.d*b.d)
 unfold zng
 generalize zcl a b=r at *
 obtain ⟨x,y,o⟩:=r
 simp only at e2 e3 hok ⊢
 generalize zep x y=s at *
 obtain ⟨s,so⟩:=s
 simp only at e2 e3 ⊢
 cases o with
 | false =>
  simp only [frc,wd] at e1 ⊢
  simp [zsu,zsv,e1,zge,zch]
 | true =>
  have hm:=ywj (hok rfl)
  generalize zg3 s (a.d*b.d)=f at *
  obtain ⟨f,fo⟩:=f
  simp only [frc,wd] at e1 e2 e3 ⊢
  cases so <;> simp [zsu,zsv,e1,e2,e3,hm,zge,zch]
structure Cnd where
 f:Int
 b:Int
 a:Sl
 z:Sl
deriving DecidableEq
def cnd (c:Cnd):List PV:=[iv c.f,iv c.b,iv c.a.n,iv c.a.g,iv c.z.n,iv c.z.g]
def zho (c:Cnd):Prop:=inI c.f∧inI c.b∧slI c.a∧slI c.z
structure Bd where
 lo:Int
 hi:Int
def bnd (b:Bd):List PV:=[iv b.lo,iv b.hi]
def zkg (b:Bd):Bool:=decide (b.lo≤b.hi) && zix b.lo && zix b.hi
def zfz (x lo hi:Int):Int:=if x<lo then lo else if hi<x then hi else x
def zke (n l:Int):Bool:=zal n 0 40 && zal l 1 100
def zfk (s:Sl) (l:Int) (b:Bd):Int×Bool:=if (zke s.n l && zkg b)=true then (zfz (fdv s.g (s.n+l)).1 b.lo b.hi,true) else (0,false)
def zej (s:Sl) (l:Int):Fr×Bool:=if zke s.n l=true then zg3 (zh3 s.g s.g) (s.n+l) else (zge,false)
def zcy (c:Cnd) (l:Int):Fr×Bool:=if ((zej c.a l).2 && (zej c.z l).2)=true then zng (zej c.a l).1 (zej c.z l).1 else (zge,false)
theorem z9e (n l:Int):RUN T zl4 [iv n,iv l]=some ([bv (zke n l)],[]):=by
 refine zag z7t rfl ?_
 have e1:=zcb n 0 40
 have e2:=zcb l 1 100
 unfold zke
 generalize zal n 0 40=x at *
 cases x <;> simp [zxh,zxi,-zbd,e1,e2]
theorem z9f (b:Bd):RUN T zl5 [.agg (bnd b)]=some ([bv (zkg b)],[]):=by
 refine zag z7u rfl ?_
 have e1:=z8x b.lo
 have e2:=z8x b.hi
 unfold zkg
 generalize zix b.lo=x at *
 generalize zix b.hi=y at *
 by_cases h:b.lo≤b.hi <;> cases x <;> simp [zxj,zxk,bnd,e1,e2,h]
theorem z9g (x lo hi:Int):RUN T zl6 [iv x,iv lo,iv hi]=some ([iv (zfz x lo hi)],[]):=by
 refine zag z7v rfl ?_
 unfold zfz
 by_cases h1:x<lo
 ·simp [zsm,zsn,h1]
 ·by_cases h2:hi<x <;> simp [zsm,zsn,h1,h2]
theorem ybt {n l:Int} (h:zke n l=true):IntKind.i64.wrap (n+l)=n+l:=by
 unfold zke at h
 simp only [Bool.and_eq_true] at h
 have h1:=za2.mp h.1
 have h2:=za2.mp h.2
 exact w64 (by omega) (by omega)
theorem z1k (s:Sl) (l:Int) (b:Bd) (hs:slI s):RUN T zkm [.agg (slc s),iv l,.agg (bnd b)]=some ([iv (zfk s l b).1,bv (zfk s l b).2],[]):=by
 refine zag z66 rfl ?_
 have e1:=z9e s.n l
 have e2:=z9f b
 have e3:=z1b s.g (s.n+l) hs.2
 have e4:=z9g (fdv s.g (s.n+l)).1 b.lo b.hi
 have hw := @ybt s.n l
 unfold zfk
 generalize zke s.n l=x at *
 generalize zkg b=y at *
 generalize fdv s.g (s.n+l)=q at *
 obtain ⟨q,qo⟩:=q
 simp only [bnd] at e2
 cases x with
 | false=>simp [zsd,zse,slc,bnd,e1]
 | true =>
  have hw:=hw rfl
  cases y <;> simp [zsd,zse,slc,bnd,e1,e2,e3,e4,hw]
theorem ypb (c:Cnd) (h:zho c):RUN T zpq [.agg (cnd c)]=some ([.agg (slc (zb5 c.a c.z).1),bv (zb5 c.a c.z).2],[]):=by
 refine zag z8b rfl ?_
 have e1:=z1i c.a c.z h.2.2.1 h.2.2.2
 generalize zb5 c.a c.z=p at *
 obtain ⟨⟨pn,pg⟩,pb⟩:=p
 simp only [slc] at e1 ⊢
 simp [zya,zyb,cnd,e1]
theorem z1l (s:Sl) (l:Int) (hs:slI s):RUN T zkr [.agg (slc s),iv l]=some ([.agg (frc (zej s l).1),bv (zej s l).2],[]):=by
 refine zag z8c rfl ?_
 have e1:=z9e s.n l
 have e2:=yo9 s.g (s.n+l) hs.2
 have hw := @ybt s.n l
 unfold zej
 generalize zke s.n l=x at *
 generalize zg3 (zh3 s.g s.g) (s.n+l)=f at *
 obtain ⟨⟨fw,fd⟩,fb⟩:=f
 simp only [frc] at e2 ⊢
 cases x with
 | false=>simp [zss,zst,slc,e1,zge,zch]
 | true =>
  have hw:=hw rfl
  simp [zss,zst,slc,e1,e2,hw]
theorem ybp (w:Wd) (d:Int) (hw:wfU w):frI (zg3 w d).1:=by
 unfold zg3
 split
 ·rename_i h
  simp only [frB,Bool.and_eq_true] at h
  have:=za2.mp h.2
  exact ⟨hw,by unfold inI; simp only; omega⟩
 ·exact ⟨ztm,by unfold inI zge; simp⟩
theorem zzy:frI zge:=⟨ztm,by unfold inI zge; simp⟩
theorem z3k (s:Sl) (l:Int) (hs:slI s):frI (zej s l).1:=by
 unfold zej
 split
 ·exact ybp _ _ (ywe hs.2 hs.2)
 ·exact zzy
theorem yzv (a b:Fr):frI (zng a b).1:=by
 unfold zng
 split
 ·split
  ·exact ybp _ _ (ysy _ _)
  ·exact zzy
 ·exact zzy
theorem z27 (c:Cnd) (l:Int):frI (zcy c l).1:=by
 unfold zcy
 split
 ·exact yzv _ _
 ·exact zzy
theorem z1m (c:Cnd) (l:Int) (h:zho c):RUN T zkq [.agg (cnd c),iv l]=some ([.agg (frc (zcy c l).1),bv (zcy c l).2],[]):=by
 refine zag z78 rfl ?_
 have e1:=z1l c.a l h.2.2.1
 have e2:=z1l c.z l h.2.2.2
 have e3:=ypa (zej c.a l).1 (zej c.z l).1 (z3k _ _ h.2.2.1) (z3k _ _ h.2.2.2)
 unfold zcy
 generalize zej c.a l=p at *
 generalize zej c.z l=q at *
 obtain ⟨p,pb⟩:=p
 obtain ⟨q,qb⟩:=q
 simp only at e1 e2 e3 ⊢
 generalize zng p q=r at *
 obtain ⟨r,rb⟩:=r
 simp only [frc,slc] at e1 e2 e3 ⊢
 cases pb <;> cases qb <;> simp [zx4,zx5,cnd,e1,e2,e3,zge,zch]
abbrev cfS (c:Cfg):PV := .agg [iv c.ro,iv c.de,iv c.bi,iv c.la,iv c.rw,iv c.nu,iv c.dn,.sl 1 (zac c.sg)]
def zcg (c:Cfg) (b:Bd) (x:Cnd):Int×Int×Bool:=if ((zfk x.a c.la b).2 && (zfk x.z c.la b).2)=true then ((zfk x.a c.la b).1,(zfk x.z c.la b).1,true) else (0,0,false)
def zfu (c:Cfg) (f:Int):Int:=(atI c.sg f).getD 0
def z0s (s l r:Int):Bool:=if s=1 then decide (l≤r) else if s = -1 then decide (r≤l) else true
def zzi (x:Cnd) (l:Int):Bool:=(zcy x l).2 && ((zb5 x.a x.z).2 && ((zej (zb5 x.a x.z).1 l).2 && ((zhd (zcy x l).1 (zej (zb5 x.a x.z).1 l).1).2 && decide (0<(zhd (zcy x l).1 (zej (zb5 x.a x.z).1 l).1).1))))
def znx (a b:Cnd):Bool:=decide (a.f<b.f) || (decide (a.f=b.f) && decide (a.b<b.b))
def ze4 (a b:Cnd) (l:Int):Bool:=(zcy a l).2 && ((zcy b l).2 && ((zhd (zcy a l).1 (zcy b l).1).2 && (decide (0<(zhd (zcy a l).1 (zcy b l).1).1) || (decide ((zhd (zcy a l).1 (zcy b l).1).1=0) && znx a b))))
theorem z9h (c:Cfg) (b:Bd) (x:Cnd) (h:zho x):RUN T zly [cfS c,.agg (bnd b),.agg (cnd x)]=some ([iv (zcg c b x).1,iv (zcg c b x).2.1,bv (zcg c b x).2.2],[]):=by
 have e1:=z1k x.a c.la b h.2.2.1
 have e2:=z1k x.z c.la b h.2.2.2
 unfold zcg
 generalize zfk x.a c.la b=p at *
 generalize zfk x.z c.la b=q at *
 obtain ⟨p,pb⟩:=p
 obtain ⟨q,qb⟩:=q
 simp only [slc,bnd] at e1 e2 ⊢
 refine zag z68 rfl ?_
 cases pb <;> cases qb <;> simp [zwm,zwn,cnd,e1,e2]
theorem z9i (c:Cfg) (f:Int) (hl:c.sg.length≤9223372036854775807):RUN T zlz [cfS c,iv f]=some ([iv (zfu c f)],[]):=by
 refine zag z7a rfl ?_
 have hw:=w64 (x:=(c.sg.length:Int)-1) (by omega) (by omega)
 have e1:=zcb f 0 ((c.sg.length:Int)-1)
 unfold zfu
 cases hs:atI c.sg f with
 | none =>
  have hn:=zua hs
  have:zal f 0 ((c.sg.length:Int)-1)=false:=by
   cases hw:zal f 0 ((c.sg.length:Int)-1) with
   | false=>rfl
   | true=>have:=za2.mp hw; omega
  rw [this] at e1
  simp [zsf,zsg,-zbd,e1,hw]
 | some x =>
  obtain ⟨j,rfl,hj,hjl⟩:=zkh hs
  rw [show zal j 0 ((c.sg.length:Int)-1)=true from za2.mpr (by omega)] at e1
  have hj':=zbp hj
  simp [-getElem?_pos,zsf,zsg,-zbd,e1,hw,hj',hjl]
theorem ypc (s l r:Int):RUN T zpn [iv s,iv l,iv r]=some ([bv (z0s s l r)],[]):=by
 refine zag z76 rfl ?_
 unfold z0s
 by_cases h1:s=1
 ·simp [zsq,zsr,h1]
 ·by_cases h2:s = -1 <;> simp [zsq,zsr,h1,h2]
theorem ypd (x:Cnd) (l:Int) (h:zho x):RUN T zpo [.agg (cnd x),iv l]=some ([bv (zzi x l)],[]):=by
 refine zag z77 rfl ?_
 have hp:=ztn (b:=x.z) h.2.2.1
 have e1:=z1m x l h
 have e2:=ypb x h
 have e3:=z1l (zb5 x.a x.z).1 l hp
 have e4:=z9d (zcy x l).1 (zej (zb5 x.a x.z).1 l).1 (z27 _ _) (z3k _ _ hp)
 unfold zzi
 generalize zcy x l=g at *
 generalize zb5 x.a x.z=p at *
 obtain ⟨p,pb⟩:=p
 simp only at e2 e3 e4 ⊢
 generalize zej p l=q at *
 obtain ⟨g,gb⟩:=g
 obtain ⟨q,qb⟩:=q
 simp only at e1 e3 e4 ⊢
 generalize zhd g q=m at *
 obtain ⟨m,mb⟩:=m
 simp only [frc,slc,cnd] at e1 e2 e3 e4 ⊢
 cases gb <;> cases pb <;> cases qb <;> cases mb <;> simp [zx2,zx3,e1,e2,e3,e4]
theorem ype (a b:Cnd):RUN T zpp [.agg (cnd a),.agg (cnd b)]=some ([bv (znx a b)],[]):=by
 refine zag z8a rfl ?_
 have e1:=z9a a.f b.f
 have e2:=z9a a.b b.b
 have e3:=z86 (zc6 a.f b.f) (zc6 a.b b.b)
 have hr:zam 8 2=true:=by decide
 have e4:znx a b=decide ((if zc6 a.f b.f=0 then zc6 a.b b.b else zc6 a.f b.f)<0):=by
  unfold znx zc6
  rw [Bool.eq_iff_iff]
  simp only [Bool.or_eq_true,Bool.and_eq_true,decide_eq_true_eq]
  split <;> split <;> (try split) <;> (try split) <;> (try split) <;> (try split) <;> omega
 rw [e4]
 simp [zx8,zx9,cnd,e1,e2,e3,hr]
theorem ypf (a b:Cnd) (l:Int) (ha:zho a) (hb:zho b):RUN T zl9 [.agg (cnd a),.agg (cnd b),iv l]=some ([bv (ze4 a b l)],[]):=by
 have e1:=z1m a l ha
 have e2:=z1m b l hb
 have e3:=z9d (zcy a l).1 (zcy b l).1 (z27 _ _) (z27 _ _)
 have e4:=ype a b
 unfold ze4
 generalize zcy a l=g at *
 generalize zcy b l=q at *
 generalize znx a b=le at *
 obtain ⟨g,gb⟩:=g
 obtain ⟨q,qb⟩:=q
 simp only at e1 e2 e3 ⊢
 generalize zhd g q=m at *
 obtain ⟨m,mb⟩:=m
 simp only [frc,cnd] at e1 e2 e3 e4 ⊢
 refine zag z72 rfl ?_
 cases gb <;> cases qb <;> cases mb <;> by_cases h1:0<m <;> by_cases h2:m=0 <;> simp [zxt,zxu,e1,e2,e3,e4,h1,h2]
def zd4 (c:Cfg) (b:Bd) (x:Cnd):Bool:=za1 c && ((zcg c b x).2.2 && (decide (c.rw≤x.a.n) && (decide (c.rw≤x.z.n) && (z0s (zfu c x.f) (zcg c b x).1 (zcg c b x).2.1 && zzi x c.la))))
theorem ypg (c:Cfg) (b:Bd) (x:Cnd) (h:zho x) (hl:c.sg.length≤9223372036854775807):RUN T zl8 [cfS c,.agg (bnd b),.agg (cnd x)]=some ([bv (zd4 c b x)],[]):=by
 have e1:=z9h c b x h
 have e2:=zy3 c hl
 have e3:=z9i c x.f hl
 have e5:=ypd x c.la h
 unfold zd4
 generalize zcg c b x=p at *
 obtain ⟨p1,p2,pb⟩:=p
 have e4:=ypc (zfu c x.f) p1 p2
 simp only at e1 ⊢
 generalize zfu c x.f=s at *
 generalize z0s s p1 p2=ab at *
 generalize zzi x c.la=ib at *
 generalize za1 c=cb at *
 simp only [cnd,bnd] at e1 e5 ⊢
 refine zag z71 rfl ?_
 cases cb <;> cases pb <;> by_cases h1:c.rw≤x.a.n <;> by_cases h2:c.rw≤x.z.n <;> cases ab <;> simp [zxr,zxs,e1,e2,e3,e4,e5,h1,h2]
def zdi (l:List Cnd):List (List PV):=l.map cnd
@[simp] theorem y7s (l:List Cnd):(zdi l).length=l.length:=by simp [zdi]
theorem z3n {l:List Cnd} {i:Nat} {x:Cnd} (h:l[i]?=some x):(zdi l)[i]?=some (cnd x):=by simp [zdi,h]
def noB (c:Cfg) (b:Bd) (x y:Cnd):Bool := !zd4 c b y || !ze4 y x c.la
def zle (c:Cfg) (b:Bd) (l:List Cnd) (x:Cnd):Bool:=zd4 c b x && l.all (noB c b x)
def zra:Cnd:=⟨0,0,⟨0,0⟩,⟨0,0⟩⟩
def zfg (c:Cfg) (b:Bd) (l:List Cnd):Cnd×Bool:=match l.find? (zle c b l) with
 | some x=>(x,true)
 | none=>(zra,false)
theorem ywa (a:Wd):zf3 a a=0:=by
 have h : ∀ x,zc6 x x=0:=fun x=>by
  unfold zc6
  rw [if_neg (by omega),if_neg (by omega)]
 unfold zf3
 rw [h,h,if_pos rfl]
theorem yyp (a:Wd):zqx a a=0:=by
 unfold zqx
 rw [ywa]
 split <;> simp_all
theorem yxt (a:Fr):(zhd a a).1=0:=by
 unfold zhd
 split
 ·rename_i h
  have:(zcl a a).1=(zcl a a).2.1:=by
   unfold zcl
   split <;> rfl
  simp only
  rw [this,yyp]
 ·rfl
theorem yt0 (x:Cnd) (l:Int):ze4 x x l=false:=by
 have h1:=yxt (zcy x l).1
 have h2:znx x x=false:=by
  unfold znx
  rw [decide_eq_false (show ¬ x.f<x.f by omega),decide_eq_false (show ¬ x.b<x.b by omega)]
  simp
 unfold ze4
 rw [h1,h2]
 simp
theorem yvc {p q:Cnd→Bool} (l:List Cnd):(l.filter p).all q=l.all fun y => !p y || q y:=by
 induction l with
 | nil=>rfl
 | cons y l ih =>
  simp only [List.filter_cons,List.all_cons]
  cases h:p y with
  | true=>simp [ih]
  | false=>simp [ih]
theorem yqp {p q:Cnd→Bool} (l:List Cnd):(l.filter p).find? q=l.find? fun x=>p x && q x:=by
 induction l with
 | nil=>rfl
 | cons y l ih =>
  simp only [List.filter_cons,List.find?_cons]
  cases h:p y with
  | true =>
   simp only [if_true,List.find?_cons,Bool.true_and]
   cases q y <;> simp [ih]
  | false=>simp [ih]
theorem yyj (c:Cfg) (b:Bd) (l:List Cnd):l.find? (zle c b l)=(l.filter (zd4 c b)).find? fun x=>(l.filter (zd4 c b)).all fun y => !ze4 y x c.la:=by
 rw [yqp]
 congr 1
 funext x
 unfold zle
 rw [yvc]
 rfl
set_option maxHeartbeats 2000000 in
theorem yph (c:Cfg) (b:Bd) (l:List Cnd) (hl:l.length≤1048576) (hc:c.sg.length≤1048576) (hi : ∀ x∈l,zho x):RUN T zpf [cfS c,.agg (bnd b),.sl 6 (zdi l)]=some ([.agg (cnd (zfg c b l).1),bv (zfg c b l).2],[]):=by
 have eM : ∀ x∈l,RUN T zl8 [cfS c,.agg [iv b.lo,iv b.hi],.agg [iv x.f,iv x.b,iv x.a.n,iv x.a.g,iv x.z.n,iv x.z.g]]=some ([bv (zd4 c b x)],[]):=fun x hx=>ypg c b x (hi x hx) (by omega)
 have eB : ∀ x∈l,∀ y∈l,RUN T zl9 [.agg [iv x.f,iv x.b,iv x.a.n,iv x.a.g,iv x.z.n,iv x.z.g],.agg [iv y.f,iv y.b,iv y.a.n,iv y.a.g,iv y.z.n,iv y.z.g],iv c.la]=some ([bv (ze4 x y c.la)],[]):=fun x hx y hy=>ypf x y c.la (hi x hx) (hi y hy)
 obtain ⟨R,hR⟩ : ∃ R,R=zfg c b l:=⟨_,rfl⟩
 unfold zfg at hR
 rw [show zfg c b l=R by rw [hR]; rfl]
 rw [yyj] at hR
 simp only [bnd]
 refine zag z7r rfl ?_
 have hr0:zam 48 0=true:=by decide
 have hr1:zam 48 1=true:=by decide
 simp [-getElem?_pos,zxc,zxd,hr0]
 refine za3 (fun n st => ∃ (i o e:Nat) (m:List Cnd),i+n=l.length∧m=(l.take i).filter (zd4 c b)∧st.V 3 = .ptr 0 none 0 0 0∧st.V 4 = .ptr 1 none 0 0 0∧st.V 6 = .ptr 2 none 0 0 0∧st.V 8 = .ref o none e 0 m.length∧st.V 17 = .sl 6 (zdi l)∧st.V 18=iv l.length∧st.V 19=iv i∧2<o∧o<st.nx∧st.S 0=some (.box [iv c.ro,iv c.de,iv c.bi,iv c.la,iv c.rw,iv c.nu,iv c.dn,.sl 1 (zac c.sg)])∧st.S 1=some (.box [iv b.lo,iv b.hi])∧st.S 2=some (.box [iv 0,iv 0,iv 0,iv 0,iv 0,iv 0])∧st.S o=some (.row 6 (zdi m))) ?_ l.length _ ⟨0,3,0,[],by simp [zdi]⟩
 rintro n st ⟨i,o,e,m,hin,hm,v3,v4,v6,v8,v17,v18,v19,ho,hox,hS0,hS1,hS2,hSo⟩
 obtain ⟨a01,a02,a03,a04⟩:=fr (show 0<st.nx by omega)
 obtain ⟨a11,a12,a13,a14⟩:=fr (show 1<st.nx by omega)
 obtain ⟨a21,a22,a23,a24⟩:=fr (show 2<st.nx by omega)
 obtain ⟨a31,a32,a33,a34⟩:=fr (show 0<o by omega)
 obtain ⟨a41,a42,a43,a44⟩:=fr (show 1<o by omega)
 obtain ⟨a51,a52,a53,a54⟩:=fr (show 2<o by omega)
 obtain ⟨a61,a62,a63,a64⟩:=fr (show o<st.nx by omega)
 obtain ⟨a71,a72,a73,a74⟩:=fr (show o<st.nx+1 by omega)
 by_cases h:i<l.length
 ·obtain ⟨x,hx⟩ : ∃ x,l[i]?=some x:=⟨_,List.getElem?_eq_getElem h⟩
  have hx':=z3n hx
  have hxm:=List.mem_of_getElem? hx
  have hws:=wS h (by omega:l.length≤9223372036854775807)
  have e1:=eM x hxm
  have hml:m.length≤i:=by rw [hm]; exact Nat.le_trans (List.length_filter_le _ _) (by simp; omega)
  have hr48:zam 48 (m.length+1)=true:=by simp [zam]; omega
  have htk:(l.take (i+1)).filter (zd4 c b)=if zd4 c b x=true then m++[x] else m:=by
   rw [List.take_succ,hx,List.filter_append,← hm]
   by_cases c':zd4 c b x=true <;> simp [c']
  have hsn:zdi m++[[iv x.f,iv x.b,iv x.a.n,iv x.a.g,iv x.z.n,iv x.z.g]]=zdi (m++[x]):=by simp [zdi,cnd]
  clear eM eB hm
  cases hmx:zd4 c b x with
  | true =>
   rw [hmx] at e1
   rw [if_pos hmx] at htk
   simp [-getElem?_pos,zxb,v3,v4,v6,v8,v17,v18,v19,hS0,hS1,hS2,hSo,h,hx',cnd,e1,hws,hr1,hr48,hsn,a01,a02,a03,a04,a11,a12,a13,a14,a21,a22,a23,a24,a31,a32,a33,a34,a41,a42,a43,a44,a51,a52,a53,a54,a61,a62,a63,a64,a71,a72,a73,a74]
   exact zaq (n-1) (by omega) ⟨i+1,st.nx+2,st.ep,m++[x],by omega,htk.symm,by simp [v3],by simp [v4],by simp [v6],by simp,by simp [v17],by simp [v18],by simp,by omega,by simp,by simp [a01,a02,a03,a04,a11,a12,a13,a14,a21,a22,a23,a24,a31,a32,a33,a34,a41,a42,a43,a44,a51,a52,a53,a54,a61,a62,a63,a64,a71,a72,a73,a74,hS0],by simp [a01,a02,a03,a04,a11,a12,a13,a14,a21,a22,a23,a24,a31,a32,a33,a34,a41,a42,a43,a44,a51,a52,a53,a54,a61,a62,a63,a64,a71,a72,a73,a74,hS1],by simp [a01,a02,a03,a04,a11,a12,a13,a14,a21,a22,a23,a24,a31,a32,a33,a34,a41,a42,a43,a44,a51,a52,a53,a54,a61,a62,a63,a64,a71,a72,a73,a74,hS2],by simp⟩
  | false =>
   rw [hmx] at e1
   rw [if_neg (by simp [hmx])] at htk
   simp [-getElem?_pos,zxb,v3,v4,v6,v8,v17,v18,v19,hS0,hS1,hS2,hSo,h,hx',cnd,e1,hws,a01,a02,a03,a04,a11,a12,a13,a14,a21,a22,a23,a24,a31,a32,a33,a34,a41,a42,a43,a44,a51,a52,a53,a54,a61,a62,a63,a64,a71,a72,a73,a74]
   exact zaq (n-1) (by omega) ⟨i+1,o,e,m,by omega,htk.symm,by simp [v3],by simp [v4],by simp [v6],by simp [v8],by simp [v17],by simp [v18],by simp,by omega,by simp; omega,by simp [a01,a02,a03,a04,a11,a12,a13,a14,a21,a22,a23,a24,a31,a32,a33,a34,a41,a42,a43,a44,a51,a52,a53,a54,a61,a62,a63,a64,a71,a72,a73,a74,hS0],by simp [a01,a02,a03,a04,a11,a12,a13,a14,a21,a22,a23,a24,a31,a32,a33,a34,a41,a42,a43,a44,a51,a52,a53,a54,a61,a62,a63,a64,a71,a72,a73,a74,hS1],by simp [a01,a02,a03,a04,a11,a12,a13,a14,a21,a22,a23,a24,a31,a32,a33,a34,a41,a42,a43,a44,a51,a52,a53,a54,a61,a62,a63,a64,a71,a72,a73,a74,hS2],by simp [a01,a02,a03,a04,a11,a12,a13,a14,a21,a22,a23,a24,a31,a32,a33,a34,a41,a42,a43,a44,a51,a52,a53,a54,a61,a62,a63,a64,a71,a72,a73,a74,hSo]⟩
 ·rw [List.take_of_length_le (by omega)] at hm
  rw [← hm] at hR
  have hmem : ∀ y∈m,y∈l:=fun y hy=>by rw [hm] at hy; exact (List.mem_filter.mp hy).1
  have hml:m.length≤1048576:=by rw [hm]; exact Nat.le_trans (List.length_filter_le _ _) hl
  simp [-getElem?_pos,zxb,v8,v18,v19,hSo,h]
  obtain ⟨q,hq⟩ : ∃ q:Cnd→Bool,q=fun x=>m.all fun y => !ze4 y x c.la:=⟨_,rfl⟩
  rw [← hq] at hR
  clear eM hm hin
  refine za3 (fun n st => ∃ i:Nat,i+n=m.length∧(m.drop i).find? q=m.find? q∧st.V 3 = .ptr 0 none 0 0 0∧st.V 4 = .ptr 1 none 0 0 0∧st.V 6 = .ptr 2 none 0 0 0∧st.V 8 = .ref o none e 0 m.length∧st.V 32 = .ref o none e 0 m.length∧st.V 33=iv m.length∧st.V 34=iv i∧2<o∧o<st.nx∧st.S 0=some (.box [iv c.ro,iv c.de,iv c.bi,iv c.la,iv c.rw,iv c.nu,iv c.dn,.sl 1 (zac c.sg)])∧st.S 1=some (.box [iv b.lo,iv b.hi])∧st.S 2=some (.box [iv 0,iv 0,iv 0,iv 0,iv 0,iv 0])∧st.S o=some (.row 6 (zdi m))) ?_ m.length _ ⟨0,by simp,by simp,by simp [v3],by simp [v4],by simp [v6],by simp [v8],by simp,by simp,by simp,ho,by simp [hox],by simp [hS0],by simp [hS1],by simp [hS2],by simp [hSo]⟩
  clear v3 v4 v6 v8 v17 v18 v19 hS0 hS1 hS2 hSo hox ho
  clear a01 a02 a03 a04 a11 a12 a13 a14 a21 a22 a23 a24 a31 a32 a33 a34 a41 a42 a43 a44 a51 a52 a53 a54 a61 a62 a63 a64 a71 a72 a73 a74
  rintro n st ⟨i,hin,hf,v3,v4,v6,v8,v32,v33,v34,ho,hox,hS0,hS1,hS2,hSo⟩
  obtain ⟨b01,b02,b03,b04⟩:=fr (show 0<st.nx by omega)
  obtain ⟨b11,b12,b13,b14⟩:=fr (show 1<st.nx by omega)
  obtain ⟨b21,b22,b23,b24⟩:=fr (show 2<st.nx by omega)
  obtain ⟨b31,b32,b33,b34⟩:=fr (show 0<o by omega)
  obtain ⟨b41,b42,b43,b44⟩:=fr (show 1<o by omega)
  obtain ⟨b51,b52,b53,b54⟩:=fr (show 2<o by omega)
  obtain ⟨b61,b62,b63,b64⟩:=fr (show o<st.nx by omega)
  by_cases h:i<m.length
  ·obtain ⟨x,hx⟩ : ∃ x,m[i]?=some x:=⟨_,List.getElem?_eq_getElem h⟩
   have hx':=z3n hx
   have hxm:=List.mem_of_getElem? hx
   have hws:=wS h (by omega:m.length≤9223372036854775807)
   rw [zd7 hx,List.find?_cons] at hf
   obtain ⟨kb0,hkb⟩ : ∃ k,k=q x:=⟨_,rfl⟩
   rw [← hkb] at hf
   have hkb2:kb0=(true && (m.drop 0).all fun y => !ze4 y x c.la):=by rw [hkb,hq]; rfl
   clear hkb hq
   simp [-getElem?_pos,z04,v3,v4,v6,v8,v32,v33,v34,hS0,hS1,hS2,hSo,h,hx',cnd,b01,b02,b03,b04,b11,b12,b13,b14,b21,b22,b23,b24,b31,b32,b33,b34,b41,b42,b43,b44,b51,b52,b53,b54,b61,b62,b63,b64]
   generalize hpp:st.nx=pp at *
   refine za3 (fun n' s => ∃ (j:Nat) (k:Bool),j+n'=m.length∧(k && (m.drop j).all fun y => !ze4 y x c.la)=kb0∧s.V 3 = .ptr 0 none 0 0 0∧s.V 4 = .ptr 1 none 0 0 0∧s.V 6 = .ptr 2 none 0 0 0∧s.V 8 = .ref o none e 0 m.length∧s.V 32 = .ref o none e 0 m.length∧s.V 33=iv m.length∧s.V 34=iv i∧s.V 11=iv i∧s.V 12 = .ptr pp none st.ep 0 0∧s.V 13=bv k∧s.V 39 = .ref o none e 0 m.length∧s.V 40=iv m.length∧s.V 41=iv j∧pp<s.nx∧s.S 0=some (.box [iv c.ro,iv c.de,iv c.bi,iv c.la,iv c.rw,iv c.nu,iv c.dn,.sl 1 (zac c.sg)])∧s.S 1=some (.box [iv b.lo,iv b.hi])∧s.S 2=some (.box [iv 0,iv 0,iv 0,iv 0,iv 0,iv 0])∧s.S o=some (.row 6 (zdi m))∧s.S pp=some (.box [iv x.f,iv x.b,iv x.a.n,iv x.a.g,iv x.z.n,iv x.z.g])) ?_ m.length _ ⟨0,true,by omega,hkb2.symm,by simp [v3],by simp [v4],by simp [v6],by simp [v8],by simp [v32],by simp [v33],by simp [v34],by simp,by simp,by simp,by simp,by simp,by simp,by simp,by simp [b01,b02,b03,b04,b11,b12,b13,b14,b21,b22,b23,b24,b31,b32,b33,b34,b41,b42,b43,b44,b51,b52,b53,b54,b61,b62,b63,b64,hS0],by simp [b01,b02,b03,b04,b11,b12,b13,b14,b21,b22,b23,b24,b31,b32,b33,b34,b41,b42,b43,b44,b51,b52,b53,b54,b61,b62,b63,b64,hS1],by simp [b01,b02,b03,b04,b11,b12,b13,b14,b21,b22,b23,b24,b31,b32,b33,b34,b41,b42,b43,b44,b51,b52,b53,b54,b61,b62,b63,b64,hS2],by simp [b01,b02,b03,b04,b11,b12,b13,b14,b21,b22,b23,b24,b31,b32,b33,b34,b41,b42,b43,b44,b51,b52,b53,b54,b61,b62,b63,b64,hSo],by simp [b01,b02,b03,b04,b11,b12,b13,b14,b21,b22,b23,b24,b31,b32,b33,b34,b41,b42,b43,b44,b51,b52,b53,b54,b61,b62,b63,b64]⟩
   clear v3 v4 v6 v8 v32 v33 v34 hS0 hS1 hS2 hSo
   rintro n' s ⟨j,k,hj,hk,v3,v4,v6,v8,v32,v33,v34,v11,v12,v13,v39,v40,v41,hpn,hS0,hS1,hS2,hSo,hSp⟩
   obtain ⟨d01,d02,d03,d04⟩:=fr (show 0<s.nx by omega)
   obtain ⟨d11,d12,d13,d14⟩:=fr (show 1<s.nx by omega)
   obtain ⟨d21,d22,d23,d24⟩:=fr (show 2<s.nx by omega)
   obtain ⟨d31,d32,d33,d34⟩:=fr (show 0<o by omega)
   obtain ⟨d41,d42,d43,d44⟩:=fr (show 1<o by omega)
   obtain ⟨d51,d52,d53,d54⟩:=fr (show 2<o by omega)
   obtain ⟨d61,d62,d63,d64⟩:=fr (show o<s.nx by omega)
   obtain ⟨d71,d72,d73,d74⟩:=fr (show 0<pp by omega)
   obtain ⟨d81,d82,d83,d84⟩:=fr (show 1<pp by omega)
   obtain ⟨d91,d92,d93,d94⟩:=fr (show 2<pp by omega)
   obtain ⟨d101,d102,d103,d104⟩:=fr (show o<pp by omega)
   obtain ⟨d111,d112,d113,d114⟩:=fr (show pp<s.nx by omega)
   by_cases hjl:j<m.length
   ·obtain ⟨y,hy⟩ : ∃ y,m[j]?=some y:=⟨_,List.getElem?_eq_getElem hjl⟩
    have hy':=z3n hy
    have hym:=List.mem_of_getElem? hy
    have hwj:=wS hjl (by omega:m.length≤9223372036854775807)
    have e3:=eB y (hmem y hym) x (hmem x hxm)
    rw [zd7 hy,List.all_cons] at hk
    clear eB
    cases k with
    | false =>
     have hk':(false && (m.drop (j+1)).all fun y => !ze4 y x c.la)=kb0:=by rw [← hk]; rfl
     simp [-getElem?_pos,zmu,v3,v4,v6,v8,v11,v12,v13,v39,v40,v41,hS0,hS1,hS2,hSo,hSp,hjl,hy',cnd,hwj,d01,d02,d03,d04,d11,d12,d13,d14,d21,d22,d23,d24,d31,d32,d33,d34,d41,d42,d43,d44,d51,d52,d53,d54,d61,d62,d63,d64,d71,d72,d73,d74,d81,d82,d83,d84,d91,d92,d93,d94,d101,d102,d103,d104,d111,d112,d113,d114]
     exact zaq (n'-1) (by omega) ⟨j+1,false,by omega,hk',by simp [v3],by simp [v4],by simp [v6],by simp [v8],by simp [v32],by simp [v33],by simp [v34],by simp [v11],by simp [v12],by simp [v13],by simp [v39],by simp [v40],by simp,by simp; omega,by simp [d01,d02,d03,d04,d11,d12,d13,d14,d21,d22,d23,d24,d31,d32,d33,d34,d41,d42,d43,d44,d51,d52,d53,d54,d61,d62,d63,d64,d71,d72,d73,d74,d81,d82,d83,d84,d91,d92,d93,d94,d101,d102,d103,d104,d111,d112,d113,d114,hS0],by simp [d01,d02,d03,d04,d11,d12,d13,d14,d21,d22,d23,d24,d31,d32,d33,d34,d41,d42,d43,d44,d51,d52,d53,d54,d61,d62,d63,d64,d71,d72,d73,d74,d81,d82,d83,d84,d91,d92,d93,d94,d101,d102,d103,d104,d111,d112,d113,d114,hS1],by simp [d01,d02,d03,d04,d11,d12,d13,d14,d21,d22,d23,d24,d31,d32,d33,d34,d41,d42,d43,d44,d51,d52,d53,d54,d61,d62,d63,d64,d71,d72,d73,d74,d81,d82,d83,d84,d91,d92,d93,d94,d101,d102,d103,d104,d111,d112,d113,d114,hS2],by simp [d01,d02,d03,d04,d11,d12,d13,d14,d21,d22,d23,d24,d31,d32,d33,d34,d41,d42,d43,d44,d51,d52,d53,d54,d61,d62,d63,d64,d71,d72,d73,d74,d81,d82,d83,d84,d91,d92,d93,d94,d101,d102,d103,d104,d111,d112,d113,d114,hSo],by simp [d01,d02,d03,d04,d11,d12,d13,d14,d21,d22,d23,d24,d31,d32,d33,d34,d41,d42,d43,d44,d51,d52,d53,d54,d61,d62,d63,d64,d71,d72,d73,d74,d81,d82,d83,d84,d91,d92,d93,d94,d101,d102,d103,d104,d111,d112,d113,d114,hSp]⟩
    | true =>
     by_cases hij:j=i
     ·have hyx:y=x:=by
       subst hij
       rw [hx] at hy; exact (Option.some.inj hy).symm
      subst hyx
      rw [yt0] at hk
      have hk':(true && (m.drop (j+1)).all fun z => !ze4 z y c.la)=kb0:=by rw [← hk]; rfl
      subst hij
      simp [-getElem?_pos,zmu,v3,v4,v6,v8,v11,v12,v13,v39,v40,v41,hS0,hS1,hS2,hSo,hSp,hjl,hy',cnd,hwj,d01,d02,d03,d04,d11,d12,d13,d14,d21,d22,d23,d24,d31,d32,d33,d34,d41,d42,d43,d44,d51,d52,d53,d54,d61,d62,d63,d64,d71,d72,d73,d74,d81,d82,d83,d84,d91,d92,d93,d94,d101,d102,d103,d104,d111,d112,d113,d114]
      exact zaq (n'-1) (by omega) ⟨j+1,true,by omega,hk',by simp [v3],by simp [v4],by simp [v6],by simp [v8],by simp [v32],by simp [v33],by simp [v34],by simp [v11],by simp [v12],by simp [v13],by simp [v39],by simp [v40],by simp,by simp; omega,by simp [d01,d02,d03,d04,d11,d12,d13,d14,d21,d22,d23,d24,d31,d32,d33,d34,d41,d42,d43,d44,d51,d52,d53,d54,d61,d62,d63,d64,d71,d72,d73,d74,d81,d82,d83,d84,d91,d92,d93,d94,d101,d102,d103,d104,d111,d112,d113,d114,hS0],by simp [d01,d02,d03,d04,d11,d12,d13,d14,d21,d22,d23,d24,d31,d32,d33,d34,d41,d42,d43,d44,d51,d52,d53,d54,d61,d62,d63,d64,d71,d72,d73,d74,d81,d82,d83,d84,d91,d92,d93,d94,d101,d102,d103,d104,d111,d112,d113,d114,hS1],by simp [d01,d02,d03,d04,d11,d12,d13,d14,d21,d22,d23,d24,d31,d32,d33,d34,d41,d42,d43,d44,d51,d52,d53,d54,d61,d62,d63,d64,d71,d72,d73,d74,d81,d82,d83,d84,d91,d92,d93,d94,d101,d102,d103,d104,d111,d112,d113,d114,hS2],by simp [d01,d02,d03,d04,d11,d12,d13,d14,d21,d22,d23,d24,d31,d32,d33,d34,d41,d42,d43,d44,d51,d52,d53,d54,d61,d62,d63,d64,d71,d72,d73,d74,d81,d82,d83,d84,d91,d92,d93,d94,d101,d102,d103,d104,d111,d112,d113,d114,hSo],by simp [d01,d02,d03,d04,d11,d12,d13,d14,d21,d22,d23,d24,d31,d32,d33,d34,d41,d42,d43,d44,d51,d52,d53,d54,d61,d62,d63,d64,d71,d72,d73,d74,d81,d82,d83,d84,d91,d92,d93,d94,d101,d102,d103,d104,d111,d112,d113,d114,hSp]⟩
     ·have h1:((j:Int)=i)=False:=eq_false (by omega)
      have h2:((i:Int)=j)=False:=eq_false (by omega)
      have hji : ¬ i=j:=fun e=>hij e.symm
      generalize ze4 y x c.la=bb at *
      cases bb with
      | true =>
       have hk':(false && (m.drop (j+1)).all fun y => !ze4 y x c.la)=kb0:=by rw [← hk]; rfl
       simp [-getElem?_pos,zmu,v3,v4,v6,v8,v11,v12,v13,v39,v40,v41,hS0,hS1,hS2,hSo,hSp,hjl,hy',cnd,hwj,d01,d02,d03,d04,d11,d12,d13,d14,d21,d22,d23,d24,d31,d32,d33,d34,d41,d42,d43,d44,d51,d52,d53,d54,d61,d62,d63,d64,d71,d72,d73,d74,d81,d82,d83,d84,d91,d92,d93,d94,d101,d102,d103,d104,d111,d112,d113,d114,h1,h2,hij,hji,e3]
       exact zaq (n'-1) (by omega) ⟨j+1,false,by omega,hk',by simp [v3],by simp [v4],by simp [v6],by simp [v8],by simp [v32],by simp [v33],by simp [v34],by simp [v11],by simp [v12],by simp [v13],by simp [v39],by simp [v40],by simp,by simp; omega,by simp [d01,d02,d03,d04,d11,d12,d13,d14,d21,d22,d23,d24,d31,d32,d33,d34,d41,d42,d43,d44,d51,d52,d53,d54,d61,d62,d63,d64,d71,d72,d73,d74,d81,d82,d83,d84,d91,d92,d93,d94,d101,d102,d103,d104,d111,d112,d113,d114,hS0],by simp [d01,d02,d03,d04,d11,d12,d13,d14,d21,d22,d23,d24,d31,d32,d33,d34,d41,d42,d43,d44,d51,d52,d53,d54,d61,d62,d63,d64,d71,d72,d73,d74,d81,d82,d83,d84,d91,d92,d93,d94,d101,d102,d103,d104,d111,d112,d113,d114,hS1],by simp [d01,d02,d03,d04,d11,d12,d13,d14,d21,d22,d23,d24,d31,d32,d33,d34,d41,d42,d43,d44,d51,d52,d53,d54,d61,d62,d63,d64,d71,d72,d73,d74,d81,d82,d83,d84,d91,d92,d93,d94,d101,d102,d103,d104,d111,d112,d113,d114,hS2],by simp [d01,d02,d03,d04,d11,d12,d13,d14,d21,d22,d23,d24,d31,d32,d33,d34,d41,d42,d43,d44,d51,d52,d53,d54,d61,d62,d63,d64,d71,d72,d73,d74,d81,d82,d83,d84,d91,d92,d93,d94,d101,d102,d103,d104,d111,d112,d113,d114,hSo],by simp [d01,d02,d03,d04,d11,d12,d13,d14,d21,d22,d23,d24,d31,d32,d33,d34,d41,d42,d43,d44,d51,d52,d53,d54,d61,d62,d63,d64,d71,d72,d73,d74,d81,d82,d83,d84,d91,d92,d93,d94,d101,d102,d103,d104,d111,d112,d113,d114,hSp]⟩
      | false =>
       have hk':(true && (m.drop (j+1)).all fun y => !ze4 y x c.la)=kb0:=by rw [← hk]; rfl
       simp [-getElem?_pos,zmu,v3,v4,v6,v8,v11,v12,v13,v39,v40,v41,hS0,hS1,hS2,hSo,hSp,hjl,hy',cnd,hwj,d01,d02,d03,d04,d11,d12,d13,d14,d21,d22,d23,d24,d31,d32,d33,d34,d41,d42,d43,d44,d51,d52,d53,d54,d61,d62,d63,d64,d71,d72,d73,d74,d81,d82,d83,d84,d91,d92,d93,d94,d101,d102,d103,d104,d111,d112,d113,d114,h1,h2,hij,hji,e3]
       exact zaq (n'-1) (by omega) ⟨j+1,true,by omega,hk',by simp [v3],by simp [v4],by simp [v6],by simp [v8],by simp [v32],by simp [v33],by simp [v34],by simp [v11],by simp [v12],by simp [v13],by simp [v39],by simp [v40],by simp,by simp; omega,by simp [d01,d02,d03,d04,d11,d12,d13,d14,d21,d22,d23,d24,d31,d32,d33,d34,d41,d42,d43,d44,d51,d52,d53,d54,d61,d62,d63,d64,d71,d72,d73,d74,d81,d82,d83,d84,d91,d92,d93,d94,d101,d102,d103,d104,d111,d112,d113,d114,hS0],by simp [d01,d02,d03,d04,d11,d12,d13,d14,d21,d22,d23,d24,d31,d32,d33,d34,d41,d42,d43,d44,d51,d52,d53,d54,d61,d62,d63,d64,d71,d72,d73,d74,d81,d82,d83,d84,d91,d92,d93,d94,d101,d102,d103,d104,d111,d112,d113,d114,hS1],by simp [d01,d02,d03,d04,d11,d12,d13,d14,d21,d22,d23,d24,d31,d32,d33,d34,d41,d42,d43,d44,d51,d52,d53,d54,d61,d62,d63,d64,d71,d72,d73,d74,d81,d82,d83,d84,d91,d92,d93,d94,d101,d102,d103,d104,d111,d112,d113,d114,hS2],by simp [d01,d02,d03,d04,d11,d12,d13,d14,d21,d22,d23,d24,d31,d32,d33,d34,d41,d42,d43,d44,d51,d52,d53,d54,d61,d62,d63,d64,d71,d72,d73,d74,d81,d82,d83,d84,d91,d92,d93,d94,d101,d102,d103,d104,d111,d112,d113,d114,hSo],by simp [d01,d02,d03,d04,d11,d12,d13,d14,d21,d22,d23,d24,d31,d32,d33,d34,d41,d42,d43,d44,d51,d52,d53,d54,d61,d62,d63,d64,d71,d72,d73,d74,d81,d82,d83,d84,d91,d92,d93,d94,d101,d102,d103,d104,d111,d112,d113,d114,hSp]⟩
   ·rw [List.drop_eq_nil_of_le (by omega)] at hk
    simp only [List.all_nil,Bool.and_true] at hk
    subst hk
    cases k with
    | true =>
     simp only at hf
     rw [← hf] at hR
     simp only at hR
     subst hR
     simp [-getElem?_pos,zmu,v3,v4,v6,v8,v11,v12,v13,v39,v40,v41,hS0,hS1,hS2,hSo,hSp,hjl,cnd,d01,d02,d03,d04,d11,d12,d13,d14,d21,d22,d23,d24,d31,d32,d33,d34,d41,d42,d43,d44,d51,d52,d53,d54,d61,d62,d63,d64,d71,d72,d73,d74,d81,d82,d83,d84,d91,d92,d93,d94,d101,d102,d103,d104,d111,d112,d113,d114]
    | false =>
     simp only at hf
     simp [-getElem?_pos,zmu,v3,v4,v6,v8,v11,v12,v13,v34,v39,v40,v41,hS0,hS1,hS2,hSo,hSp,hjl,hws,d01,d02,d03,d04,d11,d12,d13,d14,d21,d22,d23,d24,d31,d32,d33,d34,d41,d42,d43,d44,d51,d52,d53,d54,d61,d62,d63,d64,d71,d72,d73,d74,d81,d82,d83,d84,d91,d92,d93,d94,d101,d102,d103,d104,d111,d112,d113,d114]
     exact zaq (n-1) (by omega) ⟨i+1,by omega,hf,by simp [v3],by simp [v4],by simp [v6],by simp [v8],by simp [v32],by simp [v33],by simp,ho,by simp; omega,by simp [hS0],by simp [hS1],by simp [hS2],by simp [hSo]⟩
  ·rw [List.drop_eq_nil_of_le (by omega)] at hf
   rw [← hf] at hR
   simp only [List.find?_nil] at hR
   subst hR
   simp [-getElem?_pos,z04,v6,v33,v34,hS2,h,zra,cnd]
def zdq (a b:Sl):Sl×Bool:=if ((sbi a.n b.n).2 && (sbi a.g b.g).2)=true then (⟨(sbi a.n b.n).1,(sbi a.g b.g).1⟩,true) else (⟨0,0⟩,false)
theorem ygw {a b:Int}:inI (sbi a b).1:=by
 unfold sbi inI
 split
 ·rename_i h; simpa using h
 ·simp
theorem yvr (a b:Sl):slI (zdq a b).1:=by
 unfold zdq
 split
 ·exact ⟨ygw,ygw⟩
 ·unfold slI inI; simp
def zdm (s:Sl):List Sl→Option (List Sl)
 | []=>some []
 | x::xs=>if (zb5 s x).2=true then (zdm (zb5 s x).1 xs).map ((zb5 s x).1 :: ·) else none
def zcp (h:List Sl):List Sl×Bool:=match zdm ⟨0,0⟩ h with
 | some l=>(l,true)
 | none=>([],false)
theorem z9v : ∀ (h:List Sl) (s:Sl) (l:List Sl),slI s→zdm s h=some l→l.length=h.length∧∀ x∈l,slI x
 | [],s,l,_,e=>by simp [zdm] at e; subst e; simp
 | x::xs,s,l,hs,e=>by
  simp only [zdm] at e
  split at e
  ·simp only [Option.map_eq_some_iff] at e
   obtain ⟨l',h1,rfl⟩:=e
   have hp:=ztn (b:=x) hs
   obtain ⟨h2,h3⟩:=z9v xs _ _ hp h1
   refine ⟨by simp [h2],fun y hy => ?_⟩
   rcases List.mem_cons.mp hy with e | e
   ·subst e; exact hp
   ·exact h3 y e
  ·cases e
theorem z4p:slI ⟨0,0⟩:=⟨by unfold inI; simp,by unfold inI; simp⟩
theorem yel (h:List Sl):(zcp h).1.length≤h.length∧(∀ x∈(zcp h).1,slI x)∧((zcp h).2=true→(zcp h).1.length=h.length):=by
 unfold zcp
 cases e:zdm ⟨0,0⟩ h with
 | none=>simp
 | some l =>
  obtain ⟨h1,h2⟩:=z9v h _ l z4p e
  exact ⟨by simp [h1],h2,fun _=>h1⟩
def zfh (f:Int) (all:Sl) (least:Int):Int→List Sl→List Cnd→Option (List Cnd)
 | b,x::y::xs,acc=>if (zdq all x).2=true then zfh f all least (b+1) (y::xs) (if least≤x.n∧least≤(zdq all x).1.n then acc++[⟨f,b,x,(zdq all x).1⟩] else acc) else none
 | _,_,acc=>some acc
def zhy (l:List Sl):Sl:=l.getLast?.getD ⟨0,0⟩
def zeq (least:Int):Int→List (List Sl)→List Cnd→Option (List Cnd)
 | _,[],acc=>some acc
 | f,h::hs,acc=>if (zcp h).2=true then match zfh f (zhy (zcp h).1) least 0 (zcp h).1 acc with
  | some a=>zeq least (f+1) hs a
  | none=>none
  else none
def zfs (H:List (List Sl)) (least:Int):List Cnd:=(zeq least 0 H []).getD []
theorem z2k {f:Int} {all:Sl} {least:Int} {l:List Sl} {i:Nat} {x:Sl} (acc:List Cnd) (hx:l[i]?=some x) (hi:i+1<l.length):zfh f all least i (l.drop i) acc=if (zdq all x).2=true then zfh f all least (i+1:Nat) (l.drop (i+1)) (if least≤x.n∧least≤(zdq all x).1.n then acc++[⟨f,i,x,(zdq all x).1⟩] else acc) else none:=by
 rw [zd7 hx,zd7 (List.getElem?_eq_getElem hi),zfh]
 simp
theorem ztz {f:Int} {all:Sl} {least:Int} {l:List Sl} {i:Nat} (acc:List Cnd) (hi : ¬ i+1<l.length):zfh f all least i (l.drop i) acc=some acc:=by
 match h:l.drop i with
 | []=>rw [zfh]; simp
 | [x]=>rw [zfh]; simp
 | x::y::xs =>
  have:=congrArg List.length h
  simp at this; omega
theorem yw4 {l:List Sl} {x:Sl} (h:l[l.length-1]?=some x):zhy l=x:=by
 unfold zhy; rw [List.getLast?_eq_getElem?,h]; rfl
def zq5 (H:List (List Sl)) (x:Cnd):Prop := ∃ (f b:Nat) (h:List Sl),x.f=f∧x.b=b∧H[f]?=some h∧b+1<h.length∧slI x.a∧slI x.z
theorem z1u {f:Int} {all:Sl} {least:Int} {p:Cnd→Prop} {l:List Sl} (hl : ∀ x∈l,slI x) (hp : ∀ (b:Nat) (x z:Sl),b+1<l.length→slI x→slI z→p ⟨f,b,x,z⟩) : ∀ (k i:Nat) (acc a:List Cnd),i+k=l.length→(∀ x∈acc,p x)→zfh f all least i (l.drop i) acc=some a→a.length≤acc.length+k∧∀ x∈a,p x
 | 0,i,acc,a,hk,ha,h=>by
  rw [ztz acc (by omega)] at h
  cases h
  exact ⟨by omega,ha⟩
 | k+1,i,acc,a,hk,ha,h=>by
  by_cases hi:i+1<l.length
  ·obtain ⟨x,hx⟩ : ∃ x,l[i]?=some x:=⟨_,List.getElem?_eq_getElem (by omega)⟩
   rw [z2k acc hx hi] at h
   have hxi:=hl x (List.mem_of_getElem? hx)
   split at h
   ·split at h
    ·obtain ⟨h1,h2⟩:=z1u hl hp k (i+1) _ _ (by omega) (fun y hy=>by
      rcases List.mem_append.mp hy with e | e
      ·exact ha y e
      ·simp only [List.mem_singleton] at e; subst e; exact hp i x _ hi hxi (yvr _ _)) h
     exact ⟨by simp at h1; omega,h2⟩
    ·obtain ⟨h1,h2⟩:=z1u hl hp k (i+1) _ _ (by omega) ha h
     exact ⟨by omega,h2⟩
   ·cases h
  ·rw [ztz acc hi] at h
   cases h
   exact ⟨by omega,ha⟩
theorem z4v {least:Int} {H:List (List Sl)} {i:Nat} {h:List Sl} (acc:List Cnd) (hx:H[i]?=some h):zeq least i (H.drop i) acc=if (zcp h).2=true then match zfh i (zhy (zcp h).1) least 0 (zcp h).1 acc with
  | some a=>zeq least (i+1:Nat) (H.drop (i+1)) a
  | none=>none
  else none:=by
 rw [zd7 hx,zeq]
 simp
theorem yb3 {least:Int} {H:List (List Sl)} {m:Nat} (hm : ∀ l∈H,l.length≤m) : ∀ (k i:Nat) (acc a:List Cnd),i+k=H.length→(∀ x∈acc,zq5 H x)→zeq least i (H.drop i) acc=some a→a.length≤acc.length+m*k∧∀ x∈a,zq5 H x
 | 0,i,acc,a,hk,ha,h=>by
  rw [List.drop_eq_nil_of_le (by omega),zeq] at h
  cases h
  exact ⟨by omega,ha⟩
 | k+1,i,acc,a,hk,ha,h=>by
  obtain ⟨l,hx⟩ : ∃ x,H[i]?=some x:=⟨_,List.getElem?_eq_getElem (by omega)⟩
  rw [z4v acc hx] at h
  obtain ⟨p1,p2,p3⟩:=yel l
  split at h
  ·rename_i hp
   split at h
   ·rename_i a' h'
    have h'':zfh i (zhy (zcp l).1) least ((0:Nat):Int) ((zcp l).1.drop 0) acc=some a':=by simpa using h'
    obtain ⟨q1,q2⟩:=z1u (p:=zq5 H) p2 (fun b x z hb hx' hz'=>⟨i,b,l,rfl,rfl,hx,by omega,hx',hz'⟩) (zcp l).1.length 0 acc a' (by omega) ha h''
    obtain ⟨r1,r2⟩:=yb3 hm k (i+1) a' a (by omega) q2 h
    have:=hm l (List.mem_of_getElem? hx)
    refine ⟨?_,r2⟩
    rw [Nat.mul_add]
    omega
   ·cases h
  ·cases h
theorem ycj {least:Int} {H:List (List Sl)} {m:Nat} (hm : ∀ l∈H,l.length≤m):(zfs H least).length≤m*H.length∧∀ x∈zfs H least,zq5 H x:=by
 unfold zfs
 cases h:zeq least 0 H [] with
 | none=>simp
 | some a =>
  have h':zeq least ((0:Nat):Int) (H.drop 0) []=some a:=by simpa using h
  obtain ⟨h1,h2⟩:=yb3 hm H.length 0 [] a (by omega) (fun x hx=>by cases hx) h'
  exact ⟨by simpa using h1,h2⟩
theorem yfy {H:List (List Sl)} {x:Cnd} (hH:H.length≤1048576) (hl : ∀ l∈H,l.length≤1048576) (h:zq5 H x):zho x:=by
 obtain ⟨f,b,l,h1,h2,h3,h4,h5,h6⟩:=h
 have:=(List.getElem?_eq_some_iff.mp h3).1
 have:=hl l (List.mem_of_getElem? h3)
 exact ⟨by unfold inI; omega,by unfold inI; omega,h5,h6⟩
theorem yeo {c:Cfg} {b:Bd} {l:List Cnd} (h:(zfg c b l).2=true):(zfg c b l).1∈l∧zd4 c b (zfg c b l).1=true∧∀ y∈l,zd4 c b y=true→ze4 y (zfg c b l).1 c.la=false:=by
 unfold zfg at h ⊢
 cases e:l.find? (zle c b l) with
 | none=>rw [e] at h; cases h
 | some x =>
  simp only
  have h1:=List.mem_of_find?_eq_some e
  have h2:=List.find?_some e
  unfold zle at h2
  simp only [Bool.and_eq_true] at h2
  refine ⟨h1,h2.1,fun y hy hm => ?_⟩
  have:=List.all_eq_true.mp h2.2 y hy
  unfold noB at this
  rw [hm] at this
  simpa using this
def ze6 (a:Int):Nat:=(a % 18446744073709551616).toNat
theorem ydw {a:Int} (h:inI a):(ze6 a:Int)=if a<0 then a+18446744073709551616 else a:=by
 unfold inI at h
 unfold ze6
 split <;> omega
theorem ye1 (a:Int):ze6 a<18446744073709551616:=by
 unfold ze6; omega
theorem ywb {n:Nat} (h:n<18446744073709551616):IntKind.i64.wrap n=if n<9223372036854775808 then (n:Int) else n-18446744073709551616:=by
 split
 ·exact w64 (by omega) (by omega)
 ·simp [IntKind.wrap,IntKind.signed,IntKind.bits]
  omega
theorem ys2 {x y:Nat} (hx:x<18446744073709551616):(x &&& y)<18446744073709551616:=Nat.lt_of_le_of_lt Nat.and_le_left hx
theorem ywl {a b:Int} (ha:inI a) (hb:inI b):inI (IntKind.i64.wrap ((ze6 a &&& ze6 b:Nat):Int))∧(IntKind.i64.wrap ((ze6 a &&& ze6 b:Nat):Int) % 2=1↔a % 2=1∧b % 2=1):=by
 have la:=ye1 a
 have lb:=ye1 b
 have ea:=ydw ha
 have eb:=ydw hb
 have h4:(ze6 a &&& ze6 b) % 2=1↔ze6 a % 2=1∧ze6 b % 2=1:=Nat.and_mod_two_eq_one
 have hl:=ys2 (y:=ze6 b) la
 rw [ywb hl]
 unfold inI at *
 generalize ze6 a &&& ze6 b=p at *
 split at ea <;> split at eb <;> split <;> omega
def zhv (a b:Int):Int:=(a+b) / 2
theorem ypi (a b:Int) (ha:inI a) (hb:inI b):RUN T zph [iv a,iv b]=some ([iv (zhv a b)],[]):=by
 refine zag z7w rfl ?_
 obtain ⟨h1,h2⟩:=ywl ha hb
 unfold ze6 at h1 h2
 unfold inI at ha hb h1
 have hb64:IntKind.i64.bits=64:=rfl
 simp [zxl,zxm,hb64]
 rw [Int.fdiv_eq_ediv_of_nonneg _ (by omega),Int.fdiv_eq_ediv_of_nonneg _ (by omega)]
 unfold zhv
 generalize IntKind.i64.wrap (((a % 18446744073709551616).toNat &&& (b % 18446744073709551616).toNat:Nat):Int)=p at *
 have h3:max (p % 18446744073709551616) 0 % 2=p % 2:=by omega
 rw [h3,w64 (x:=p % 2) (by omega) (by omega),w64 (x:=a / 2+b / 2) (by omega) (by omega),w64 (by omega) (by omega)]
 omega
def zie (s:Int) (b:Bd) (l r:Int):Bd×Bd:=if zkg b=true then (if s=1 then (⟨b.lo,zfz (zhv l r) b.lo b.hi⟩,⟨zfz (zhv l r) b.lo b.hi,b.hi⟩) else if s = -1 then (⟨zfz (zhv l r) b.lo b.hi,b.hi⟩,⟨b.lo,zfz (zhv l r) b.lo b.hi⟩) else (b,b)) else (b,b)
theorem ypj (s:Int) (b:Bd) (l r:Int) (hl:inI l) (hr:inI r):RUN T zo4 [iv s,.agg (bnd b),iv l,iv r]=some ([.agg (bnd (zie s b l r).1),.agg (bnd (zie s b l r).2)],[]):=by
 have e1:=z9f b
 have e2:=ypi l r hl hr
 have e3:=z9g (zhv l r) b.lo b.hi
 refine zag z69 rfl ?_
 unfold zie
 generalize zkg b=q at *
 generalize zfz (zhv l r) b.lo b.hi=m at *
 obtain ⟨lo,hi⟩:=b
 simp only [bnd] at *
 cases q with
 | false=>simp [zqd,zqe,e1,e2,e3]
 | true =>
  by_cases h1:s=1
  ·simp [zqd,zqe,e1,e2,e3,h1]
  ·by_cases h2:s = -1 <;> simp [zqd,zqe,e1,e2,e3,h1,h2]
theorem ypk (a b:Sl) (ha:slI a) (hb:slI b):RUN T zpm [.agg (slc a),.agg (slc b)]=some ([.agg (slc (zdq a b).1),bv (zdq a b).2],[]):=by
 have e1:=z1e a.n b.n ha.1 hb.1
 have e2:=z1e a.g b.g ha.2 hb.2
 unfold zdq
 generalize sbi a.n b.n=x at *
 generalize sbi a.g b.g=y at *
 obtain ⟨x,xb⟩:=x
 obtain ⟨y,yb⟩:=y
 simp only at e1 e2 ⊢
 refine zag z74 rfl ?_
 cases xb <;> cases yb <;> simp [zxy,zxz,e1,e2,slc]
theorem yqt (m:List Sl) (x:Sl):zb6 m++[[iv x.n,iv x.g]]=zb6 (m++[x]):=by simp [zb6,slc]
theorem yuk {s x:Sl} {h:List Sl} {i:Nat} (hx:h[i]?=some x):zdm s (h.drop i)=if (zb5 s x).2=true then (zdm (zb5 s x).1 (h.drop (i+1))).map ((zb5 s x).1 :: ·) else none:=by
 rw [zd7 hx,zdm]
set_option maxHeartbeats 1000000 in
theorem ypl (h:List Sl) (hl:h.length≤1048576) (hi : ∀ x∈h,slI x):RUN T zpl [.sl 2 (zb6 h)]=some ([.own 2 (zb6 (zcp h).1),bv (zcp h).2],[]):=by
 obtain ⟨R,hR⟩ : ∃ R,R=zcp h:=⟨_,rfl⟩
 have hR':R=match zdm ⟨0,0⟩ h with
  | some l=>(l,true)
  | none=>([],false):=by rw [hR]; rfl
 rw [← hR]
 clear hR
 have hr0:zam 16 0=true:=by decide
 have hr1:zam 16 1=true:=by decide
 refine zag z73 rfl ?_
 simp [-getElem?_pos,zxw,zxx,hr0]
 refine za3 (fun n st => ∃ (i o e:Nat) (m:List Sl) (s:Sl),i+n=h.length∧m.length=i∧slI s∧zdm ⟨0,0⟩ h=(zdm s (h.drop i)).map (m ++ ·)∧st.V 4 = .ref o none e 0 m.length∧st.V 5 = .ptr 1 none 0 0 0∧st.V 12 = .sl 2 (zb6 h)∧st.V 13=iv h.length∧st.V 14=iv i∧¬ o=1∧o<st.nx∧1<st.nx∧st.S o=some (.row 2 (zb6 m))∧st.S 1=some (.box [iv s.n,iv s.g])) ?_ h.length _ ⟨0,0,0,[],⟨0,0⟩,by omega,rfl,z4p,by simp,by simp,by simp,by simp,by simp,by simp,by simp,by simp,by simp,by simp [zb6],by simp⟩
 rintro n st ⟨i,o,ep,m,s,hin,hm,hs,hp,v4,v5,v12,v13,v14,ho1,hox,h1x,hSo,hS1⟩
 obtain ⟨x1,x2,x3,x4⟩:=fr hox
 obtain ⟨z1,z2,z3,z4⟩:=fr h1x
 obtain ⟨a1,a2,a3,a4⟩:=fr (show o<st.nx+1 by omega)
 obtain ⟨b1,b2,b3,b4⟩:=fr (show o<st.nx+2 by omega)
 obtain ⟨c1,c2,c3,c4⟩:=fr (show 1<st.nx+1 by omega)
 obtain ⟨d1,d2,d3,d4⟩:=fr (show 1<st.nx+2 by omega)
 have ho2 : ¬ 1=o:=fun e=>ho1 e.symm
 have hn0 : ¬ st.nx=0:=by omega
 have hn1 : ¬ 1=st.nx+1:=by omega
 by_cases hlt:i<h.length
 ·obtain ⟨x,hx⟩ : ∃ x,h[i]?=some x:=⟨_,List.getElem?_eq_getElem hlt⟩
  have hx':=z0r hx
  have hws:=wS hlt (by omega:h.length≤9223372036854775807)
  have hr16:zam 16 (m.length+1)=true:=by simp [zam]; omega
  have e1:=z1i s x hs (hi x (List.mem_of_getElem? hx))
  have hpi:=ztn (b:=x) hs
  rw [yuk hx] at hp
  generalize zb5 s x=p at *
  obtain ⟨⟨pn,pg⟩,pb⟩:=p
  simp only [slc] at e1 hp hpi
  cases pb with
  | false =>
   rw [if_neg (by simp)] at hp
   rw [hp] at hR'
   subst hR'
   simp [-getElem?_pos,zxv,v4,v5,v12,v13,v14,hlt,hx',hSo,hS1,e1,ho1,ho2,hn0,x1,x2,x3,x4,z1,z2,z3,z4,a1,a2,a3,a4,b1,b2,b3,b4,c1,c2,c3,c4,d1,d2,d3,d4]
   simp [zb6]
  | true =>
   rw [if_pos rfl] at hp
   have hsn:=yqt m ⟨pn,pg⟩
   simp only at hsn
   simp [-getElem?_pos,zxv,v4,v5,v12,v13,v14,hlt,hx',hSo,hS1,hr1,hr16,hws,hsn,e1,ho1,ho2,hn0,x1,x2,x3,x4,z1,z2,z3,z4,a1,a2,a3,a4,b1,b2,b3,b4,c1,c2,c3,c4,d1,d2,d3,d4]
   exact zaq (n-1) (by omega) ⟨i+1,st.nx+1+2,st.ep,m++[⟨pn,pg⟩],⟨pn,pg⟩,by omega,by simp [hm],hpi,by rw [hp]; cases zdm ⟨pn,pg⟩ (h.drop (i+1)) <;> simp,by simp,by simp [v5],by simp [v12],by simp [v13],by simp,by omega,by simp,by simp <;> omega,by simp [hn0],by simp [hn0]⟩
 ·rw [List.drop_eq_nil_of_le (by omega),zdm] at hp
  simp only [Option.map_some,List.append_nil] at hp
  rw [hp] at hR'
  subst hR'
  simp [-getElem?_pos,zxv,v4,v13,v14,hlt,hSo]
theorem ywp (m:List Cnd) (x:Cnd):zdi m++[[iv x.f,iv x.b,iv x.a.n,iv x.a.g,iv x.z.n,iv x.z.g]]=zdi (m++[x]):=by simp [zdi,cnd]
set_option maxHeartbeats 4000000 in
set_option maxRecDepth 4000 in
theorem ypm (q:Bool) (H:List (List Sl)) (least:Int) (hH:H.length≤16) (hl : ∀ l∈H,l.length≤16) (hi : ∀ l∈H,∀ x∈l,slI x):RUN T zpg [.sl 1 (rss q H),iv least]=some ([.own 6 (zdi (zfs H least))],[]):=by
 obtain ⟨R,hR⟩ : ∃ R,R=zfs H least:=⟨_,rfl⟩
 have hR':R=(zeq least 0 H []).getD []:=hR
 rw [← hR]
 clear hR
 have hr0:zam 48 0=true:=by decide
 have hr1:zam 48 1=true:=by decide
 refine zag z7s rfl ?_
 simp [-getElem?_pos,zxf,zxg,hr0]
 refine za3 (fun n st => ∃ (i o e:Nat) (acc:List Cnd),i+n=H.length∧acc.length≤16*i∧zeq least i (H.drop i) acc=zeq least 0 H []∧st.V 1=iv least∧st.V 5 = .ref o none e 0 acc.length∧st.V 14 = .sl 1 (rss q H)∧st.V 15=iv H.length∧st.V 16=iv i∧o<st.nx∧st.S o=some (.row 6 (zdi acc))) ?_ H.length _ ⟨0,0,0,[],by omega,by simp,by simp,by simp,by simp,by simp,by simp,by simp,by simp,by simp [zdi]⟩
 rintro n st ⟨i,o,ep,acc,hin,hacc,hF,v1,v5,v14,v15,v16,hox,hSo⟩
 obtain ⟨x1,x2,x3,x4⟩:=fr hox
 by_cases hlt:i<H.length
 ·obtain ⟨l,hx⟩ : ∃ x,H[i]?=some x:=⟨_,List.getElem?_eq_getElem hlt⟩
  have hx':=yya (q:=q) hx
  have hlm:=List.mem_of_getElem? hx
  have hws:=wS hlt (by omega:H.length≤9223372036854775807)
  have hll:=hl l hlm
  have e1:=ypl l (by omega) (hi l hlm)
  obtain ⟨p1,p2,p3⟩:=yel l
  rw [z4v acc hx] at hF
  generalize zcp l=p at *
  obtain ⟨sums,pb⟩:=p
  simp only at e1 p1 p2 p3 hF
  cases pb with
  | false =>
   rw [if_neg (by simp)] at hF
   rw [← hF] at hR'
   subst hR'
   simp [-getElem?_pos,zxe,v1,v5,v14,v15,v16,hlt,hx',hSo,e1,x1,x2,x3,x4]
   simp [zdi]
  | true =>
   rw [if_pos rfl] at hF
   have p3:=p3 rfl
   simp [-getElem?_pos,zxe,v1,v5,v14,v15,v16,hlt,hx',hSo,e1,x1,x2,x3,x4]
   obtain ⟨tgt,htgt⟩ : ∃ t,t=zfh i (zhy sums) least 0 sums acc:=⟨_,rfl⟩
   rw [← htgt] at hF
   obtain ⟨p,hpe⟩ : ∃ p,p=st.nx:=⟨_,rfl⟩
   refine za3 (fun n' s => ∃ (b o' e':Nat) (acc':List Cnd),b+n'=sums.length∧acc'.length≤16*i+b∧zfh i (zhy sums) least b (sums.drop b) acc'=tgt∧s.V 1=iv least∧s.V 5 = .ref o' none e' 0 acc'.length∧s.V 6=iv i∧s.V 8 = .ref p none st.ep 0 sums.length∧s.V 10=iv b∧s.V 14 = .sl 1 (rss q H)∧s.V 15=iv H.length∧s.V 16=iv i∧¬ o'=p∧o'<s.nx∧p<s.nx∧s.S o'=some (.row 6 (zdi acc'))∧s.S p=some (.row 2 (zb6 sums))) ?_ sums.length _ ⟨0,o,ep,acc,by omega,by omega,by rw [htgt]; simp,by simp [v1],by simp [v5],by simp,by simp [hpe],by simp,by simp [v14],by simp [v15],by simp [v16],by omega,by simp; omega,by simp; omega,by simp [x1,x2,x3,x4,hSo],by simp [hpe]⟩
   clear v1 v5 v14 v15 v16 hox hSo x1 x2 x3 x4
   generalize st.ep=ep2
   rintro n' s ⟨b,o',e',acc',hbn,hacc',hB,v1,v5,v6,v8,v10,v14,v15,v16,hop,hox,hpx,hSo,hSp⟩
   obtain ⟨x1,x2,x3,x4⟩:=fr hox
   obtain ⟨z1,z2,z3,z4⟩:=fr hpx
   obtain ⟨a1,a2,a3,a4⟩:=fr (show o'<s.nx+1 by omega)
   obtain ⟨c1,c2,c3,c4⟩:=fr (show p<s.nx+1 by omega)
   have hpo : ¬ p=o':=fun e=>hop e.symm
   by_cases hb:b+1<sums.length
   ·obtain ⟨x,hx⟩ : ∃ x,sums[b]?=some x:=⟨_,List.getElem?_eq_getElem (by omega)⟩
    obtain ⟨y,hy⟩ : ∃ x,sums[sums.length-1]?=some x:=⟨_,List.getElem?_eq_getElem (by omega)⟩
    have hxs:=z0r hx
    have hys:=z0r hy
    have hly:=yw4 hy
    have w1:IntKind.i64.wrap ((sums.length:Int)-1)=((sums.length-1:Nat):Int):=by rw [w64 (by omega) (by omega)]; omega
    have w2:=w64 (x:=(b:Int)+1) (by omega) (by omega)
    have k1:b<sums.length-1:=by omega
    have k2:b<sums.length:=by omega
    have k3:sums.length-1<sums.length:=by omega
    have hr48:zam 48 (acc'.length+1)=true:=by simp [zam]; omega
    have e2:=ypk y x (p2 y (List.mem_of_getElem? hy)) (p2 x (List.mem_of_getElem? hx))
    rw [z2k acc' hx hb,hly] at hB
    generalize zdq y x=d at *
    obtain ⟨⟨dn,dg⟩,db⟩:=d
    simp only [slc] at e2 hB
    cases db with
    | false =>
     rw [if_neg (by simp)] at hB
     rw [← hB] at hF
     simp only at hF
     rw [← hF] at hR'
     simp only [Option.getD_none] at hR'
     subst hR'
     simp [-getElem?_pos,zqf,v1,v5,v6,v8,v10,v14,v15,v16,hSo,hSp,hxs,hys,w1,k1,k2,k3,e2,hop,hpo,x1,x2,x3,x4,z1,z2,z3,z4]
     simp [zdi]
    | true =>
     rw [if_pos rfl] at hB
     by_cases g1:least≤x.n
     ·by_cases g2:least≤dn
      ·rw [if_pos ⟨g1,g2⟩] at hB
       have hsn:=ywp acc' ⟨i,b,x,⟨dn,dg⟩⟩
       simp only at hsn
       simp [-getElem?_pos,zqf,v1,v5,v6,v8,v10,v14,v15,v16,hSo,hSp,hxs,hys,w1,w2,k1,k2,k3,e2,g1,g2,hr1,hr48,hsn,hop,hpo,x1,x2,x3,x4,z1,z2,z3,z4,a1,a2,a3,a4,c1,c2,c3,c4]
       refine zaq (n'-1) (by omega) ⟨b+1,s.nx+2,s.ep,acc'++[⟨i,b,x,⟨dn,dg⟩⟩],by omega,by simp; omega,by rw [hly]; exact hB,by simp [v1],by simp,by simp [v6],by simp [v8],by simp,by simp [v14],by simp [v15],by simp [v16],by omega,by simp,by simp; omega,by simp,by simp [hop,hpo,x1,x2,x3,x4,z1,z2,z3,z4,hSp]⟩
      ·rw [if_neg (fun h=>g2 h.2)] at hB
       simp [-getElem?_pos,zqf,v1,v5,v6,v8,v10,v14,v15,v16,hSo,hSp,hxs,hys,w1,w2,k1,k2,k3,e2,g1,g2,hop,hpo,x1,x2,x3,x4,z1,z2,z3,z4]
       refine zaq (n'-1) (by omega) ⟨b+1,o',e',acc',by omega,by omega,by rw [hly]; exact hB,by simp [v1],by simp [v5],by simp [v6],by simp [v8],by simp,by simp [v14],by simp [v15],by simp [v16],hop,by simp; omega,by simp; omega,by simp [x1,x2,x3,x4,hSo],by simp [z1,z2,z3,z4,hSp]⟩
     ·rw [if_neg (fun h=>g1 h.1)] at hB
      simp [-getElem?_pos,zqf,v1,v5,v6,v8,v10,v14,v15,v16,hSo,hSp,hxs,hys,w1,w2,k1,k2,k3,e2,g1,hop,hpo,x1,x2,x3,x4,z1,z2,z3,z4]
      refine zaq (n'-1) (by omega) ⟨b+1,o',e',acc',by omega,by omega,by rw [hly]; exact hB,by simp [v1],by simp [v5],by simp [v6],by simp [v8],by simp,by simp [v14],by simp [v15],by simp [v16],hop,by simp; omega,by simp; omega,by simp [x1,x2,x3,x4,hSo],by simp [z1,z2,z3,z4,hSp]⟩
   ·rw [ztz acc' hb] at hB
    rw [← hB] at hF
    simp only at hF
    have w1:IntKind.i64.wrap ((sums.length:Int)-1)=(sums.length:Int)-1:=w64 (by omega) (by omega)
    have k1 : ¬ (b:Int)<(sums.length:Int)-1:=by omega
    simp [-getElem?_pos,zqf,v8,v10,v16,hSp,w1,k1,hws]
    exact zaq (n-1) (by omega) ⟨i+1,o',e',acc',by omega,by omega,hF,by simp [v1],by simp [v5],by simp [v14],by simp [v15],by simp,by simp [hox],by simp [hSo]⟩
 ·rw [List.drop_eq_nil_of_le (by omega),zeq] at hF
  rw [← hF] at hR'
  simp only [Option.getD_some] at hR'
  subst hR'
  simp [-getElem?_pos,zxe,v5,v15,v16,hlt,hSo]
def zbc (c v:List (List Int)) (g:List Int) (cfg:Cfg) (rows:List Int) (b:Bd):Cnd×Bool:=if zfw c v g cfg=true then (if (zcc c v g rows).2=true then zfg cfg b (zfs (zcc c v g rows).1 cfg.rw) else (zra,false)) else (zra,false)
theorem ygv {b g:List Int} : ∀ (rows:List Int) (h h':List Sl),(∀ x∈h,slI x)→zco b g rows h=some h'→∀ x∈h',slI x
 | [],h,h',hh,e=>by simp [zco] at e; subst e; exact hh
 | r::rs,h,h',hh,e=>by
  simp only [zco] at e
  split at e
  ·split at e
   ·rename_i s hs
    split at e
    ·refine ygv rs _ _ (fun x hx => ?_) e
     rcases List.mem_or_eq_of_mem_set hx with h1 | h1
     ·exact hh x h1
     ·subst h1
      obtain ⟨_,_,h3,_⟩:=zkh hs
      exact ztn (hh _ (List.mem_of_getElem? h3))
    ·cases e
   ·cases e
  ·cases e
theorem yq7 (b g rows:List Int) (k:Int) : ∀ x∈(zcu b g rows k).1,slI x:=by
 unfold zcu
 split
 ·cases h:zco b g rows (List.replicate k.toNat ⟨0,0⟩) with
  | none=>simp
  | some h'=>exact ygv _ _ _ (fun x hx=>by rw [List.eq_of_mem_replicate hx]; exact z4p) h
 ·simp
theorem ya9 {g rows:List Int} : ∀ (c v:List (List Int)) (H:List (List Sl)),zb3 g rows c v=some H→∀ l∈H,∀ x∈l,slI x
 | [],v,H,h=>by simp [zb3] at h; subst h; simp
 | x::c,[],H,h=>by simp [zb3] at h; subst h; simp
 | x::c,y::v,H,h=>by
  simp only [zb3] at h
  split at h
  ·simp only [Option.map_eq_some_iff] at h
   obtain ⟨H',h1,rfl⟩:=h
   intro l hl
   rcases List.mem_cons.mp hl with e | e
   ·subst e; exact yq7 _ _ _ _
   ·exact ya9 c v H' h1 l e
  ·cases h
theorem yw2 (c v:List (List Int)) (g rows:List Int) : ∀ l∈(zcc c v g rows).1,∀ x∈l,slI x:=by
 unfold zcc
 split
 ·cases h:zb3 g rows c v with
  | none=>simp
  | some H=>exact ya9 c v H h
 ·simp
theorem z1p (c v:List (List Int)) (g rows:List Int):(zcc c v g rows).1.length≤4:=by
 by_cases h:zei c v=true
 ·have:=(ztd c v g rows).1
  have:=yfo h
  omega
 ·unfold zcc
  rw [if_neg h]; simp
theorem yvf (c v:List (List Int)) (g rows:List Int) (least:Int):(zfs (zcc c v g rows).1 least).length≤1048576∧∀ x∈zfs (zcc c v g rows).1 least,zho x:=by
 have h1:=z1p c v g rows
 have h2:=(ztd c v g rows).2
 obtain ⟨h3,h4⟩:=ycj (least:=least) h2
 exact ⟨by omega,fun x hx=>yfy (by omega) (fun l hl=>Nat.le_trans (h2 l hl) (by omega)) (h4 x hx)⟩
set_option maxHeartbeats 1000000 in
theorem ypn (q:Bool) (c v:List (List Int)) (g:List Int) (cfg:Cfg) (rows:List Int) (b:Bd) (hc : ∀ l∈c,l.length≤1048576) (hv : ∀ l∈v,l.length≤1048576) (hg:g.length≤1048576) (hr:rows.length≤1048576) (hs:cfg.sg.length≤1048576) (hgi : ∀ x∈g,inI x):RUN T zo2 [.agg [.sl 1 (rws q c),.sl 1 (rws q v)],.sl 1 (zac g),cfS cfg,.sl 1 (zac rows),.agg (bnd b)]=some ([.agg (cnd (zbc c v g cfg rows b).1),bv (zbc c v g cfg rows b).2],[]):=by
 have e1:=z8z q c v g cfg (fun l hl=>Nat.le_trans (hc l hl) (by omega)) (fun l hl=>Nat.le_trans (hv l hl) (by omega)) (by omega) (by omega)
 have e2:=yo7 q c v g rows hc hv hg hr hgi
 obtain ⟨f1,f2⟩:=yvf c v g rows cfg.rw
 have e3:=ypm true (zcc c v g rows).1 cfg.rw (by have:=z1p c v g rows; omega) (fun l hl=>by have:=(ztd c v g rows).2 l hl; omega) (yw2 c v g rows)
 have e4:=yph cfg b (zfs (zcc c v g rows).1 cfg.rw) f1 hs f2
 unfold zbc
 simp only [zht,bnd] at e1 e4
 generalize zfw c v g cfg=t at *
 generalize zcc c v g rows=H at *
 obtain ⟨H,hb⟩:=H
 simp only at e2 e3 e4 ⊢
 generalize zfg cfg b (zfs H cfg.rw)=r at *
 generalize zfs H cfg.rw=L at *
 obtain ⟨r,rb⟩:=r
 simp only [cnd] at e4 ⊢
 refine zag z65 rfl ?_
 cases t with
 | false=>simp [-getElem?_pos,zqb,zqc,bnd,e1,zra]
 | true =>
  cases hb with
  | false=>simp [-getElem?_pos,zqb,zqc,bnd,e1,e2,zra]
  | true =>
   simp [-getElem?_pos,zqb,zqc,bnd,e1,e2,e3,e4]
def zem (g:List Int) (rows:List Int):Sl:=⟨rows.length,(rows.map fun r=>(atI g r).getD 0).sum⟩
def zjv (bins:List Int) (b r:Int):Bool:=match atI bins r with
 | some x=>decide (x≤b)
 | none=>false
def zs5 (bins:List Int) (b r:Int):Bool:=match atI bins r with
 | some x => !decide (x≤b)
 | none=>false
def zcz (bins rows:List Int) (b:Int):List Int:=rows.filter (zjv bins b)
def zfm (bins rows:List Int) (b:Int):List Int:=rows.filter (zs5 bins b)
structure Pnd where
 r:List Int
 b:Bd
 l:Int
def zif (c v:List (List Int)) (cfg:Cfg) (x:Pnd) (k:Cnd):Pnd:=⟨zcz ((atI v k.f).getD []) x.r k.b,(zie (zfu cfg k.f) x.b (zcg cfg x.b k).1 (zcg cfg x.b k).2.1).1,x.l+1⟩
def zhx (c v:List (List Int)) (cfg:Cfg) (x:Pnd) (k:Cnd):Pnd:=⟨zfm ((atI v k.f).getD []) x.r k.b,(zie (zfu cfg k.f) x.b (zcg cfg x.b k).1 (zcg cfg x.b k).2.1).2,x.l+1⟩
def zen (g:List Int) (cfg:Cfg) (x:Pnd):Nd:=⟨-1,0,0,0,(zfk (zem g x.r) cfg.la x.b).1⟩
def zrc (c:List (List Int)) (k:Cnd) (n:Nat):Nd:=⟨k.f,(atI ((atI c k.f).getD []) k.b).getD 0,n,n+1,0⟩
def goes (c v:List (List Int)) (g:List Int) (cfg:Cfg) (x:Pnd):Bool:=decide (x.l<cfg.de) && (zbc c v g cfg x.r x.b).2
def zc9 (c v:List (List Int)) (g:List Int) (cfg:Cfg):Nat→List Pnd→Nat→List Nd→List Nd
 | 0,_,_,out=>out
 | n+1,q,i,out=>match q[i]? with
  | none=>out
  | some x=>if goes c v g cfg x=true then zc9 c v g cfg n (q++[zif c v cfg x (zbc c v g cfg x.r x.b).1,zhx c v cfg x (zbc c v g cfg x.r x.b).1]) (i+1) (out++[zrc c (zbc c v g cfg x.r x.b).1 q.length]) else zc9 c v g cfg n q (i+1) (out++[zen g cfg x])
def zt4:Bd:=⟨-1099511627776,1099511627776⟩
def zf8 (g:List Int):Pnd:=⟨(List.range g.length).map fun (i:Nat)=>(i:Int),zt4,0⟩
def zb7 (c v:List (List Int)) (g:List Int) (cfg:Cfg):List Nd×Bool:=if zfw c v g cfg=true then (zc9 c v g cfg 32 [zf8 g] 0 [],true) else ([],false)
def pot (d:Int) (x:Pnd):Nat:=2 ^ (d+1-x.l).toNat-1
def zit (d:Int) (l:List Pnd):Nat:=(l.map (pot d)).sum
theorem zz3 (d:Int) (x:Pnd) (l:List Pnd):zit d (x::l)=pot d x+zit d l:=by simp [zit]
theorem yu9 (d:Int) (l m:List Pnd):zit d (l++m)=zit d l+zit d m:=by simp [zit]
theorem ys8 {d:Int} {x:Pnd} (h:x.l≤d):1≤pot d x:=by
 unfold pot
 obtain ⟨k,hk⟩ : ∃ k,(d+1-x.l).toNat=k+1:=⟨(d-x.l).toNat,by omega⟩
 rw [hk,Nat.pow_succ]
 have:=Nat.one_le_two_pow (n:=k)
 omega
theorem yzh {d:Int} {x y z:Pnd} (h:x.l<d) (hy:y.l=x.l+1) (hz:z.l=x.l+1):pot d x=pot d y+pot d z+1:=by
 unfold pot
 rw [hy,hz]
 obtain ⟨k,hk⟩ : ∃ k,(d+1-x.l).toNat=k+1:=⟨(d-x.l).toNat,by omega⟩
 have hk2:(d+1-(x.l+1)).toNat=k:=by omega
 rw [hk,hk2,Nat.pow_succ]
 have:=Nat.one_le_two_pow (n:=k)
 omega
def zty (n:Nat) (d:Int) (x:Pnd):Prop:=(∀ r∈x.r,0≤r∧r<n)∧x.r.length≤n∧0≤x.l∧x.l≤d
theorem ycw {bins rows:List Int} {b r:Int}:(r∈zcz bins rows b→r∈rows)∧(r∈zfm bins rows b→r∈rows):=⟨fun h=>(List.mem_filter.mp h).1,fun h=>(List.mem_filter.mp h).1⟩
theorem yxf {n:Nat} {c v:List (List Int)} {cfg:Cfg} {x:Pnd} {k:Cnd} (h:zty n cfg.de x) (hl:x.l<cfg.de):zty n cfg.de (zif c v cfg x k)∧zty n cfg.de (zhx c v cfg x k):=by
 obtain ⟨h1,h2,h3,h4⟩:=h
 refine ⟨⟨fun r hr=>h1 r (ycw.1 hr),Nat.le_trans (List.length_filter_le _ _) h2,?_,?_⟩,⟨fun r hr=>h1 r (ycw.2 hr),Nat.le_trans (List.length_filter_le _ _) h2,?_,?_⟩⟩
 ·show 0≤x.l+1; omega
 ·show x.l+1≤cfg.de; omega
 ·show 0≤x.l+1; omega
 ·show x.l+1≤cfg.de; omega
theorem z0t {c v:List (List Int)} {g:List Int} {cfg:Cfg} (h:zfw c v g cfg=true):zei c v=true∧za1 cfg=true∧g.length=zd9 v∧(∀ x∈g,-2199023255552≤x∧x≤2199023255552):=by
 unfold zfw at h
 simp only [Bool.and_eq_true,decide_eq_true_eq] at h
 exact ⟨h.1.1.1,h.1.1.2,by omega,fun x hx=>za2.mp (List.all_eq_true.mp h.2 x hx)⟩
theorem yq5 {c v:List (List Int)} (h:zei c v=true):1≤zd9 v∧zd9 v≤40:=by
 unfold zei at h
 simp only [Bool.and_eq_true] at h
 have:=za2.mp h.1.2
 omega
theorem yfw {cfg:Cfg} (h:za1 cfg=true):(0≤cfg.de∧cfg.de≤4)∧cfg.sg.length≤4∧(1≤cfg.la∧cfg.la≤100):=by
 unfold za1 at h
 simp only [Bool.and_eq_true,decide_eq_true_eq] at h
 have h1:=za2.mp h.1.1.1.1.1.1.1.2
 have h2:=za2.mp h.1.1.1.1.1.2
 omega
theorem yfc {c v:List (List Int)} {g:List Int} {cfg:Cfg} {rows:List Int} {b:Bd} (h:(zbc c v g cfg rows b).2=true):zq5 (zcc c v g rows).1 (zbc c v g cfg rows b).1∧(zcc c v g rows).2=true:=by
 unfold zbc at h ⊢
 split
 ·rename_i h1
  rw [if_pos h1] at h
  split
  ·rename_i h2
   rw [if_pos h2] at h
   obtain ⟨h3,_,_⟩:=yeo h
   exact ⟨(ycj (ztd c v g rows).2).2 _ h3,h2⟩
  ·rename_i h2
   rw [if_neg h2] at h; cases h
 ·rename_i h1
  rw [if_neg h1] at h; cases h
theorem ypo:RUN T zo1 []=some ([.agg (bnd zt4)],[]):=by
 refine zag z64 rfl ?_
 simp [zwi,zwj,bnd,zt4]
def upl (n:Nat):List Int:=(List.range n).map fun (i:Nat)=>(i:Int)
theorem yv2 (n:Nat):upl n++[(n:Int)]=upl (n+1):=by simp [upl,List.range_succ]
@[simp] theorem qic (n:Nat):(upl n).length=n:=by simp [upl]
@[simp] theorem y4s:upl 0=[]:=rfl
theorem ypp (n:Nat) (h1:1≤n) (h2:n≤40):RUN T zo0 [iv n]=some ([.own 1 (zac (upl n))],[]):=by
 have e:=zcb n 1 40
 rw [za2.mpr (by omega)] at e
 have hr0:zam 8 0=true:=by decide
 have hr1:zam 8 1=true:=by decide
 refine zag z62 rfl ?_
 simp [-getElem?_pos,zwg,zwh,-zbd,e,hr0]
 refine za3 (fun k st => ∃ (i o e:Nat),i+k=n∧st.V 3 = .ref o none e 0 i∧st.V 10=iv n∧st.V 11=iv i∧o<st.nx∧st.S o=some (.row 1 (zac (upl i)))) ?_ n _ ⟨0,0,0,by omega,by simp⟩
 rintro k st ⟨i,o,ep,hi,v3,v10,v11,hox,hSo⟩
 obtain ⟨x1,x2,x3,x4⟩:=fr hox
 by_cases hlt:i<n
 ·have hws:=wS hlt (by omega:n≤9223372036854775807)
  have hr8:=zd8 (n:=i+1) (by omega)
  have hsn:zac (upl i)++[[iv (i:Int)]]=zac (upl (i+1)):=by rw [zdd,yv2]
  simp [-getElem?_pos,z02,v3,v10,v11,hSo,hlt,hws,hr1,hr8,hsn,x1,x2,x3,x4]
  exact zaq (k-1) (by omega) ⟨i+1,st.nx+1,st.ep,by omega,by simp,by simp [v10],by simp,by simp,by simp⟩
 ·have hin:i=n:=by omega
  subst hin
  simp [-getElem?_pos,z02,v3,v10,v11,hSo,hlt]
def zft (g rows:List Int) (i:Nat):Int:=((rows.take i).map fun r=>(atI g r).getD 0).sum
theorem yud {g rows:List Int} {i:Nat} {r x:Int} (hr:rows[i]?=some r) (hx:atI g r=some x):zft g rows (i+1)=zft g rows i+x:=by
 unfold zft
 rw [List.take_succ,hr]
 simp [hx]
theorem z4c {g rows:List Int} (hg : ∀ x∈g,-2199023255552≤x∧x≤2199023255552) : ∀ i:Nat,i≤rows.length → -2199023255552*(i:Int)≤zft g rows i∧zft g rows i≤2199023255552*(i:Int)
 | 0,_=>by simp [zft]
 | i+1,h=>by
  have ih:=z4c (rows:=rows) hg i (by omega)
  obtain ⟨r,hr⟩ : ∃ r,rows[i]?=some r:=⟨_,List.getElem?_eq_getElem (by omega)⟩
  have e:zft g rows (i+1)=zft g rows i+(atI g r).getD 0:=by
   unfold zft
   rw [List.take_succ,hr]
   simp
  rw [e]
  cases hx:atI g r with
  | none=>simp only [Option.getD_none]; omega
  | some x =>
   obtain ⟨_,_,h3,_⟩:=zkh hx
   have:=hg x (List.mem_of_getElem? h3)
   simp only [Option.getD_some]; omega
theorem ydf (g rows:List Int):zem g rows=⟨rows.length,zft g rows rows.length⟩:=by simp [zem,zft]
theorem yrc {g rows:List Int} (hg : ∀ x∈g,-2199023255552≤x∧x≤2199023255552) (hl:rows.length≤1048576):slI (zem g rows):=by
 rw [ydf]
 have:=z4c (rows:=rows) hg rows.length (by omega)
 exact ⟨by unfold inI; simp only; omega,by unfold inI; simp only; omega⟩
theorem ypq (g rows:List Int) (hg : ∀ x∈g,-2199023255552≤x∧x≤2199023255552) (hr : ∀ r∈rows,0≤r∧r<g.length) (hl:rows.length≤1048576):RUN T zo3 [.sl 1 (zac g),.sl 1 (zac rows)]=some ([.agg (slc (zem g rows))],[]):=by
 rw [ydf]
 refine zag z67 rfl ?_
 simp [-getElem?_pos,zwk,zwl]
 refine za3 (fun k st => ∃ i:Nat,i+k=rows.length∧st.V 0 = .sl 1 (zac g)∧st.V 4 = .ptr 0 none 0 0 0∧st.V 5 = .ptr 1 none 0 0 0∧st.V 11 = .sl 1 (zac rows)∧st.V 12=iv rows.length∧st.V 13=iv i∧1<st.nx∧st.S 1=some (.box [iv rows.length,iv (zft g rows i)])∧st.S 0=some (.box [iv 0,iv 0])) ?_ rows.length _ ⟨0,by omega,by simp,by simp,by simp,by simp,by simp,by simp,by simp,by simp [zft],by simp⟩
 rintro k st ⟨i,hi,v0,v4,v5,v11,v12,v13,h1x,hS1,hS0⟩
 obtain ⟨z1,z2,z3,z4⟩:=fr h1x
 by_cases hlt:i<rows.length
 ·obtain ⟨r,hrr⟩ : ∃ r,rows[i]?=some r:=⟨_,List.getElem?_eq_getElem hlt⟩
  obtain ⟨r0,r1⟩:=hr r (List.mem_of_getElem? hrr)
  obtain ⟨rn,rfl⟩ : ∃ n:Nat,r=n:=⟨r.toNat,by omega⟩
  obtain ⟨x,hx⟩ : ∃ x,g[rn]?=some x:=⟨_,List.getElem?_eq_getElem (by omega)⟩
  have hrn:rn<g.length:=by omega
  have hr':=zbp hrr
  have hx':=zbp hx
  have hws:=wS hlt (by omega:rows.length≤9223372036854775807)
  have hs:=yud (g:=g) hrr (x:=x) (by unfold atI; rw [if_pos r0]; simpa using hx)
  have b1:=z4c (rows:=rows) hg (i+1) (by omega)
  rw [hs] at b1
  have hw:=w64 (x:=zft g rows i+x) (by omega) (by omega)
  simp [-getElem?_pos,z03,v0,v4,v5,v11,v12,v13,hS1,hS0,hlt,hr',hx',hrn,hw,hws,z1,z2,z3,z4]
  exact zaq (k-1) (by omega) ⟨i+1,by omega,by simp [v0],by simp [v4],by simp [v5],by simp [v11],by simp [v12],by simp,by simp [h1x],by simp [hs],by simp [hS0]⟩
 ·have hin:i=rows.length:=by omega
  subst hin
  simp [-getElem?_pos,z03,v4,v5,v12,v13,hS1,hS0,slc]
set_option maxHeartbeats 1000000 in
theorem ypr (bins rows:List Int) (b:Int) (hb:bins.length≤1048576) (hl:rows.length≤1048576):RUN T zo5 [.sl 1 (zac bins),.sl 1 (zac rows),iv b]=some ([.own 1 (zac (zcz bins rows b)),.own 1 (zac (zfm bins rows b))],[]):=by
 have hr0:zam 8 0=true:=by decide
 have hr1:zam 8 1=true:=by decide
 have w1:=w64 (x:=(bins.length:Int)-1) (by omega) (by omega)
 refine zag z7b rfl ?_
 simp [-getElem?_pos,zwo,zwp,hr0]
 refine za3 (fun k st => ∃ (i o e p e2:Nat) (m l:List Int),i+k=rows.length∧m.length≤i∧l.length≤i∧m++(rows.drop i).filter (zjv bins b)=zcz bins rows b∧l++(rows.drop i).filter (zs5 bins b)=zfm bins rows b∧st.V 0 = .sl 1 (zac bins)∧st.V 2=iv b∧st.V 8 = .ref o none e 0 m.length∧st.V 9 = .ref p none e2 0 l.length∧st.V 14 = .sl 1 (zac rows)∧st.V 15=iv rows.length∧st.V 16=iv i∧¬ o=p∧o<st.nx∧p<st.nx∧st.S o=some (.row 1 (zac m))∧st.S p=some (.row 1 (zac l))) ?_ rows.length _ ⟨0,0,0,1,0,[],[],by omega,by simp,by simp,by simp [zcz],by simp [zfm],by simp⟩
 rintro k st ⟨i,o,e,p,e2,m,l,hi,hml,hll,hm,hl2,v0,v2,v8,v9,v14,v15,v16,hop,hox,hpx,hSo,hSp⟩
 obtain ⟨x1,x2,x3,x4⟩:=fr hox
 obtain ⟨z1,z2,z3,z4⟩:=fr hpx
 have hpo : ¬ p=o:=fun e=>hop e.symm
 by_cases hlt:i<rows.length
 ·obtain ⟨r,hrr⟩ : ∃ r,rows[i]?=some r:=⟨_,List.getElem?_eq_getElem hlt⟩
  have hr':=zbp hrr
  have hws:=wS hlt (by omega:rows.length≤9223372036854775807)
  have e1:=zcb r 0 ((bins.length:Int)-1)
  rw [zd7 hrr,List.filter_cons] at hm hl2
  have hB:zjv bins b r=match atI bins r with
   | some x=>decide (x≤b)
   | none=>false:=rfl
  have hC:zs5 bins b r=match atI bins r with
   | some x => !decide (x≤b)
   | none=>false:=rfl
  have r1:=zd8 (n:=m.length+1) (by omega)
  have r2:=zd8 (n:=l.length+1) (by omega)
  have s1:=zdd m r
  have s2:=zdd l r
  cases hx:atI bins r with
  | none =>
   have hn:=zua hx
   rw [show zal r 0 ((bins.length:Int)-1)=false from by
    cases hw:zal r 0 ((bins.length:Int)-1) with
    | false=>rfl
    | true=>have:=za2.mp hw; omega] at e1
   rw [hx] at hB hC
   rw [hB] at hm
   rw [hC] at hl2
   simp [-getElem?_pos,zsh,-zbd,v0,v2,v8,v9,v14,v15,v16,hSo,hSp,hlt,hr',hws,w1,e1]
   exact zaq (k-1) (by omega) ⟨i+1,o,e,p,e2,m,l,by omega,by omega,by omega,by simpa using hm,by simpa using hl2,by simp [v0],by simp [v2],by simp [v8],by simp [v9],by simp [v14],by simp [v15],by simp,hop,by simp [hox],by simp [hpx],by simp [hSo],by simp [hSp]⟩
  | some x =>
   obtain ⟨rn,rfl,hbr,hbl⟩:=zkh hx
   rw [show zal rn 0 ((bins.length:Int)-1)=true from za2.mpr (by omega)] at e1
   rw [hx] at hB hC
   rw [hB] at hm
   rw [hC] at hl2
   have hb':=zbp hbr
   by_cases hc:x≤b
   ·have d1:decide (x≤b)=true:=decide_eq_true hc
    simp only [d1,if_true,Bool.not_true,Bool.false_eq_true,if_false] at hm hl2
    simp [-getElem?_pos,zsh,-zbd,v0,v2,v8,v9,v14,v15,v16,hSo,hSp,hlt,hr',hws,w1,e1,hb',hbl,hc,hr1,r1,s1,hop,hpo,x1,x2,x3,x4,z1,z2,z3,z4]
    exact zaq (k-1) (by omega) ⟨i+1,st.nx+1,st.ep,p,e2,m++[(rn:Int)],l,by omega,by simp; omega,by omega,by simpa using hm,hl2,by simp [v0],by simp [v2],by simp,by simp [v9],by simp [v14],by simp [v15],by simp,by omega,by simp,by simp; omega,by simp,by simp [hop,hpo,x1,x2,x3,x4,z1,z2,z3,z4,hSp]⟩
   ·have d1:decide (x≤b)=false:=decide_eq_false hc
    simp only [d1,if_true,Bool.not_false,Bool.false_eq_true,if_false] at hm hl2
    simp [-getElem?_pos,zsh,-zbd,v0,v2,v8,v9,v14,v15,v16,hSo,hSp,hlt,hr',hws,w1,e1,hb',hbl,hc,hr1,r2,s2,hop,hpo,x1,x2,x3,x4,z1,z2,z3,z4]
    exact zaq (k-1) (by omega) ⟨i+1,o,e,st.nx+1,st.ep,m,l++[(rn:Int)],by omega,by omega,by simp; omega,hm,by simpa using hl2,by simp [v0],by simp [v2],by simp [v8],by simp,by simp [v14],by simp [v15],by simp,by omega,by simp; omega,by simp,by simp [hop,hpo,x1,x2,x3,x4,z1,z2,z3,z4,hSo],by simp⟩
 ·rw [List.drop_eq_nil_of_le (by omega)] at hm hl2
  simp only [List.filter_nil,List.append_nil] at hm hl2
  subst hm hl2
  simp [-getElem?_pos,zsh,v8,v9,v14,v15,v16,hSo,hSp,hlt,hop,hpo]
def pnd (x:Pnd):List PV:=[.own 1 (zac x.r),iv x.b.lo,iv x.b.hi,iv x.l]
def zic (l:List Pnd):List (List PV):=l.map pnd
@[simp] theorem qjc (l:List Pnd):(zic l).length=l.length:=by simp [zic]
theorem yf7 {l:List Pnd} {i:Nat} {x:Pnd} (h:l[i]?=some x):(zic l)[i]?=some [.own 1 (zac x.r),iv x.b.lo,iv x.b.hi,iv x.l]:=by simp [zic,h,pnd]
theorem ywf {l:List Pnd} {i:Nat} {x:Pnd} (h:l[i]?=some x):za8 (zic l) i 0=some (1,zac x.r):=by simp [za8,yf7 h]
theorem yty (l:List Pnd) (x y:Pnd):zic l++[[.own 1 (zac x.r),iv x.b.lo,iv x.b.hi,iv x.l],[.own 1 (zac y.r),iv y.b.lo,iv y.b.hi,iv y.l]]=zic (l++[x,y]):=by simp [zic,pnd]
theorem zzc {α:Type} {l:List α} {i:Nat} {x:α} (h:l[i]?=some x):atI l (i:Int)=some x:=by
 unfold atI
 rw [if_pos (by omega)]
 simpa using h
theorem yt5 {b g rows:List Int} {k:Int} (h:(zcu b g rows k).2=true):((zcu b g rows k).1.length:Int)=k:=by
 unfold zcu at h ⊢
 split
 ·rename_i hk
  rw [if_pos hk] at h
  have hk':=za2.mp hk
  cases e:zco b g rows (List.replicate k.toNat ⟨0,0⟩) with
  | none=>rw [e] at h; cases h
  | some h'=>have:=z3v _ _ _ e; simp at this; simp only; omega
 ·rename_i hk
  rw [if_neg hk] at h; cases h
theorem yaq {g rows:List Int} : ∀ (c v:List (List Int)) (H:List (List Sl)) (f:Nat) (h:List Sl),zb3 g rows c v=some H→H[f]?=some h→∃ x y,c[f]?=some x∧v[f]?=some y∧h.length=x.length+1
 | [],v,H,f,h,e,hf=>by simp [zb3] at e; subst e; simp at hf
 | x::c,[],H,f,h,e,hf=>by simp [zb3] at e; subst e; simp at hf
 | x::c,y::v,H,f,h,e,hf=>by
  simp only [zb3] at e
  split at e
  ·rename_i hp
   simp only [Option.map_eq_some_iff] at e
   obtain ⟨H',h1,rfl⟩:=e
   cases f with
   | zero =>
    simp at hf
    subst hf
    have:=yt5 hp
    exact ⟨x,y,rfl,rfl,by omega⟩
   | succ f =>
    simp at hf
    obtain ⟨x',y',h2,h3,h4⟩:=yaq c v H' f h h1 hf
    exact ⟨x',y',by simpa using h2,by simpa using h3,h4⟩
  ·cases e
theorem yu5 {c v:List (List Int)} {g rows:List Int} {f:Nat} {h:List Sl} (hb:(zcc c v g rows).2=true) (hf:(zcc c v g rows).1[f]?=some h) : ∃ x y,c[f]?=some x∧v[f]?=some y∧h.length=x.length+1:=by
 unfold zcc at hb hf
 split at hb
 ·rename_i hg
  rw [if_pos hg] at hf
  cases e:zb3 g rows c v with
  | none=>rw [e] at hb; cases hb
  | some H=>rw [e] at hf; exact yaq c v H f h e hf
 ·cases hb
theorem yz7 {c v:List (List Int)} {g:List Int} {cfg:Cfg} {rows:List Int} {b:Bd} (h:(zbc c v g cfg rows b).2=true) : ∃ (f k:Nat) (x y:List Int) (z:Int),(zbc c v g cfg rows b).1.f=f∧(zbc c v g cfg rows b).1.b=k∧c[f]?=some x∧v[f]?=some y∧x[k]?=some z∧zho (zbc c v g cfg rows b).1:=by
 obtain ⟨h1,h2⟩:=yfc h
 have hI:=yfy (by have:=z1p c v g rows; omega) (fun l hl=>Nat.le_trans ((ztd c v g rows).2 l hl) (by omega)) h1
 obtain ⟨f,k,l,e1,e2,e3,e4,_,_⟩:=h1
 obtain ⟨x,y,hx,hy,hl⟩:=yu5 h2 e3
 exact ⟨f,k,x,y,x[k]'(by omega),e1,e2,hx,hy,List.getElem?_eq_getElem (by omega),hI⟩
theorem ywo {x lo hi:Int} (h:lo≤hi):lo≤zfz x lo hi∧zfz x lo hi≤hi:=by
 unfold zfz
 split
 ·omega
 ·split <;> omega
theorem ytd {b:Bd} (h:zkg b=true):b.lo≤b.hi ∧ -1099511627776≤b.lo∧b.hi≤1099511627776:=by
 unfold zkg at h
 simp only [Bool.and_eq_true,decide_eq_true_eq] at h
 have h1:=h.1.2
 have h2:=h.2
 unfold zix at h1 h2
 have:=za2.mp h1
 have:=za2.mp h2
 omega
theorem yd4 (s:Sl) (l:Int) (b:Bd) : -1099511627776≤(zfk s l b).1∧(zfk s l b).1≤1099511627776:=by
 unfold zfk
 split
 ·rename_i h
  simp only [Bool.and_eq_true] at h
  obtain ⟨h1,h2,h3⟩:=ytd h.2
  have:=ywo (x:=(fdv s.g (s.n+l)).1) h1
  simp only; omega
 ·simp
theorem yd7 (c:Cfg) (b:Bd) (x:Cnd):inI (zcg c b x).1∧inI (zcg c b x).2.1:=by
 have h1:=yd4 x.a c.la b
 have h2:=yd4 x.z c.la b
 unfold zcg inI
 split
 ·simp only; omega
 ·simp
def NC (S:Nat→Option Ob) (nx oq:Nat) (m:List Nd) (x:PV):Prop:=(x = .e0∧m=[])∨∃ o e,x = .ref o none e 0 m.length∧5<o∧o<nx∧¬ o=oq∧S o=some (.row 5 (m.map nd))
theorem ybd {c v:List (List Int)} {g:List Int} {cfg:Cfg} {n:Nat} {q:List Pnd} {i:Nat} {out:List Nd} (h:q[i]?=none):zc9 c v g cfg n q i out=out:=by
 cases n with
 | zero=>rfl
 | succ n=>rw [zc9,h]
theorem z9t {c v:List (List Int)} {g:List Int} {cfg:Cfg} {n:Nat} {q:List Pnd} {i:Nat} {out:List Nd} {x:Pnd} (h:q[i]?=some x) (hg:goes c v g cfg x=false):zc9 c v g cfg (n+1) q i out=zc9 c v g cfg n q (i+1) (out++[zen g cfg x]):=by
 rw [zc9,h]; simp [hg]
theorem ydk {c v:List (List Int)} {g:List Int} {cfg:Cfg} {n:Nat} {q:List Pnd} {i:Nat} {out:List Nd} {x:Pnd} (h:q[i]?=some x) (hg:goes c v g cfg x=true):zc9 c v g cfg (n+1) q i out=zc9 c v g cfg n (q++[zif c v cfg x (zbc c v g cfg x.r x.b).1,zhx c v cfg x (zbc c v g cfg x.r x.b).1]) (i+1) (out++[zrc c (zbc c v g cfg x.r x.b).1 q.length]):=by
 rw [zc9,h]; simp [hg]
structure GI (c v:List (List Int)) (g:List Int) (cfg:Cfg) (n:Nat) (q:List Pnd) (i:Nat) (out:List Nd):Prop where
 n1:i+n=32
 le:i≤q.length
 ql:q.length≤2*i+1
 ol:out.length=i
 po:zit cfg.de (q.drop i)≤n
 ok : ∀ x∈q,zty g.length cfg.de x
 go:zc9 c v g cfg n q i out=zc9 c v g cfg 32 [zf8 g] 0 []
theorem GI.leaf {c v:List (List Int)} {g:List Int} {cfg:Cfg} {n:Nat} {q:List Pnd} {i:Nat} {out:List Nd} {x:Pnd} (h:GI c v g cfg n q i out) (hx:q[i]?=some x) (hg:goes c v g cfg x=false):1≤n∧GI c v g cfg (n-1) q (i+1) (out++[zen g cfg x]):=by
 have hp:=h.po
 rw [zd7 hx,zz3] at hp
 have:=ys8 (h.ok x (List.mem_of_getElem? hx)).2.2.2
 have hlt:=(List.getElem?_eq_some_iff.mp hx).1
 obtain ⟨m,rfl⟩ : ∃ m,n=m+1:=⟨n-1,by omega⟩
 have:=h.n1
 have:=h.ql
 exact ⟨by omega,by simp; omega,by omega,by omega,by simp [h.ol],by simp; omega,h.ok,by rw [← h.go,z9t hx hg]; rfl⟩
theorem GI.cut {c v:List (List Int)} {g:List Int} {cfg:Cfg} {n:Nat} {q:List Pnd} {i:Nat} {out:List Nd} {x:Pnd} (h:GI c v g cfg n q i out) (hx:q[i]?=some x) (hg:goes c v g cfg x=true):1≤n∧GI c v g cfg (n-1) (q++[zif c v cfg x (zbc c v g cfg x.r x.b).1,zhx c v cfg x (zbc c v g cfg x.r x.b).1]) (i+1) (out++[zrc c (zbc c v g cfg x.r x.b).1 q.length]):=by
 have hp:=h.po
 have hlt:=(List.getElem?_eq_some_iff.mp hx).1
 have hxo:=h.ok x (List.mem_of_getElem? hx)
 rw [zd7 hx,zz3] at hp
 have hlv:x.l<cfg.de:=by
  unfold goes at hg
  simp only [Bool.and_eq_true,decide_eq_true_eq] at hg
  exact hg.1
 have hk:=yzh (y:=zif c v cfg x (zbc c v g cfg x.r x.b).1) (z:=zhx c v cfg x (zbc c v g cfg x.r x.b).1) hlv rfl rfl
 obtain ⟨m,rfl⟩ : ∃ m,n=m+1:=⟨n-1,by omega⟩
 have:=h.n1
 have:=h.ql
 obtain ⟨ko1,ko2⟩:=yxf (c:=c) (v:=v) (k:=(zbc c v g cfg x.r x.b).1) hxo hlv
 refine ⟨by omega,by simp; omega,by simp; omega,by simp; omega,by simp [h.ol],?_,fun y hy => ?_,by rw [← h.go,ydk hx hg]; rfl⟩
 ·rw [List.drop_append_of_le_length (by omega),yu9,zz3,zz3]
  have:zit cfg.de ([]:List Pnd)=0:=rfl
  simp only [Nat.add_sub_cancel]
  omega
 ·rcases List.mem_append.mp hy with e | e
  ·exact h.ok y e
  ·simp only [List.mem_cons,List.not_mem_nil,or_false] at e
   rcases e with e | e
   ·subst e; exact ko1
   ·subst e; exact ko2
theorem GI.start {c v:List (List Int)} {g:List Int} {cfg:Cfg} (h:zfw c v g cfg=true):GI c v g cfg 32 [zf8 g] 0 []:=by
 obtain ⟨h1,h2,h3,h4⟩:=z0t h
 obtain ⟨d1,d2⟩:=(yfw h2).1
 refine ⟨rfl,by simp,by simp,rfl,?_,fun x hx => ?_,rfl⟩
 ·simp only [List.drop_zero,zit,List.map_cons,List.map_nil,List.sum_cons,List.sum_nil,pot,zf8]
  have:(cfg.de+1-0).toNat≤5:=by omega
  have:=Nat.pow_le_pow_right (n:=2) (by omega) this
  omega
 ·simp only [List.mem_singleton] at hx
  subst hx
  refine ⟨fun r hr => ?_,by simp [zf8],by simp [zf8],d1⟩
  simp only [zf8,List.mem_map,List.mem_range] at hr
  obtain ⟨j,hj,rfl⟩:=hr
  omega
set_option maxHeartbeats 8000000 in
set_option maxRecDepth 8000 in
theorem yps (q:Bool) (c v:List (List Int)) (g:List Int) (cfg:Cfg) (hc : ∀ l∈c,l.length≤1048576) (hv : ∀ l∈v,l.length≤1048576) (hg:g.length≤1048576) (hs:cfg.sg.length≤1048576) (hgi : ∀ x∈g,inI x):RUN T zon [.agg [.sl 1 (rws q c),.sl 1 (rws q v)],.sl 1 (zac g),cfS cfg]=some ([.agg [.own 5 ((zb7 c v g cfg).1.map nd)],bv (zb7 c v g cfg).2],[]):=by
 have e1:=z8z q c v g cfg (fun l hl=>Nat.le_trans (hc l hl) (by omega)) (fun l hl=>Nat.le_trans (hv l hl) (by omega)) (by omega) (by omega)
 simp only [zht] at e1
 cases ht:zfw c v g cfg with
 | false =>
  rw [ht] at e1
  have hR:zb7 c v g cfg=([],false):=by unfold zb7; rw [ht]; rfl
  rw [hR]
  refine zag z07 rfl ?_
  simp [-getElem?_pos,zrz,zr0,e1]
 | true =>
  rw [ht] at e1
  have hR:zb7 c v g cfg=(zc9 c v g cfg 32 [zf8 g] 0 [],true):=by unfold zb7; rw [if_pos ht]
  rw [hR]
  obtain ⟨R,hR'⟩ : ∃ R,R=zc9 c v g cfg 32 [zf8 g] 0 []:=⟨_,rfl⟩
  rw [← hR']
  obtain ⟨t1,t2,t3,t4⟩:=z0t ht
  obtain ⟨t5,t6⟩:=yq5 t1
  have e2:=z1d q c v
  have e3:=ypp (zd9 v) t5 t6
  have e4:=ypo
  have hr48:zam 48 1=true:=by decide
  have hG:=GI.start ht
  have hroot:zic [zf8 g]=[[.own 1 (zac (upl (zd9 v))),iv zt4.lo,iv zt4.hi,iv 0]]:=by simp [zic,pnd,zf8,t3,upl]
  simp only [bnd] at e4
  refine zag z07 rfl ?_
  simp [-getElem?_pos,zrz,zr0,e1,e2,e3,e4,hr48]
  refine za3 (fun n st => ∃ (i o e:Nat) (Q:List Pnd) (out:List Nd) (x:PV),GI c v g cfg n Q i out∧st.V 1 = .sl 1 (zac g)∧st.V 3 = .ptr 0 none 0 0 0∧st.V 5 = .ptr 1 none 0 0 0∧st.V 6 = .ptr 2 none 0 0 0∧st.V 8 = .ref o none e 0 Q.length∧st.V 9 = .ptr 5 none 0 0 0∧st.V 10=iv i∧3<o∧¬ o=5∧o<st.nx∧5<st.nx∧st.S 0=some (.box [.sl 1 (rws q c),.sl 1 (rws q v)])∧st.S 1=some (.box [iv cfg.ro,iv cfg.de,iv cfg.bi,iv cfg.la,iv cfg.rw,iv cfg.nu,iv cfg.dn,.sl 1 (zac cfg.sg)])∧st.S 2=some (.box [.e0])∧st.S 5=some (.box [x])∧st.S o=some (.row 4 (zic Q))∧NC st.S st.nx o out x) ?_ 32 _ ⟨0,4,0,[zf8 g],[],.e0,hG,?_⟩
  ·rintro n st ⟨i,o,ep,Q,out,x,hG,v1,v3,v5,v6,v8,v9,v10,ho3,ho5,hox,h5x,hS0,hS1,hS2,hS5,hSo,hN⟩
   obtain ⟨Fa01,Fa02,Fa03,Fa04⟩:=fr (show 0<st.nx by omega)
   obtain ⟨Fb01,Fb02,Fb03,Fb04⟩:=fr (show 1<st.nx by omega)
   obtain ⟨Fc01,Fc02,Fc03,Fc04⟩:=fr (show 2<st.nx by omega)
   obtain ⟨Fd01,Fd02,Fd03,Fd04⟩:=fr (show 5<st.nx by omega)
   obtain ⟨Fo01,Fo02,Fo03,Fo04⟩:=fr (show o<st.nx by omega)
   have N0a:(o=0)=False:=eq_false (by omega)
   have N0b:(0=o)=False:=eq_false (by omega)
   have N1a:(o=1)=False:=eq_false (by omega)
   have N1b:(1=o)=False:=eq_false (by omega)
   have N2a:(o=2)=False:=eq_false (by omega)
   have N2b:(2=o)=False:=eq_false (by omega)
   have N3a:(o=5)=False:=eq_false (by omega)
   have N3b:(5=o)=False:=eq_false (by omega)
   have y0:(st.nx=0)=False:=eq_false (by omega)
   have y1:(st.nx=1)=False:=eq_false (by omega)
   have y2:(st.nx=2)=False:=eq_false (by omega)
   have y3:(st.nx=3)=False:=eq_false (by omega)
   have y4:(st.nx=4)=False:=eq_false (by omega)
   have y5:(st.nx=5)=False:=eq_false (by omega)
   have na : ∀ a b:Nat,st.nx+a+b=st.nx+(a+b):=fun a b=>Nat.add_assoc _ _ _
   by_cases hlt:i<Q.length
   ·obtain ⟨p,hp⟩ : ∃ p,Q[i]?=some p:=⟨_,List.getElem?_eq_getElem hlt⟩
    have hp':=yf7 hp
    have hps:=ywf hp
    have hpo:=hG.ok p (List.mem_of_getElem? hp)
    obtain ⟨p1,p2,p3,p4⟩:=hpo
    have hn1:=hG.n1
    have hql:=hG.ql
    have hws:=wS hlt (by omega:Q.length≤9223372036854775807)
    have f1:=ypn q c v g cfg p.r p.b hc hv hg (by omega) hs hgi
    have f2:=ypq g p.r t4 p1 (by omega)
    have f3:=z1k (zem g p.r) cfg.la p.b (yrc t4 (by omega))
    have hr40:zam 40 1=true:=by decide
    have hr41:zam 40 (out.length+1)=true:=by have:=hG.ol; simp [zam]; omega
    have hsn:=ygm out (zen g cfg p)
    simp only [zen] at hsn
    simp only [bnd] at f1 f3
    obtain ⟨K,hK⟩ : ∃ K,K=zbc c v g cfg p.r p.b:=⟨_,rfl⟩
    obtain ⟨G,hGg⟩ : ∃ G,G=goes c v g cfg p:=⟨_,rfl⟩
    have hG2:G=(decide (p.l<cfg.de) && K.2):=by rw [hGg,hK]; rfl
    cases G with
    | false =>
     obtain ⟨m1,hG'⟩:=hG.leaf hp hGg.symm
     rw [← hK] at f1
     simp only [slc] at f2 f3
     by_cases hlv:p.l<cfg.de
     ·have hK2:K.2=false:=by simpa [hlv] using hG2.symm
      obtain ⟨K,Kb⟩:=K
      simp only at hK2 f1
      subst hK2
      simp only [cnd] at f1
      rcases hN with ⟨rfl,rfl⟩ | ⟨w,ew,rfl,hw5,hwx,hwo,hSw⟩
      ·simp [-getElem?_pos,zjm,v1,v3,v5,v6,v8,v9,v10,hS0,hS1,hS2,hS5,hSo,hlt,hp',hps,hlv,f1,f2,f3,hws,hr40,Fa01,Fa02,Fa03,Fa04,Fb01,Fb02,Fb03,Fb04,Fc01,Fc02,Fc03,Fc04,Fd01,Fd02,Fd03,Fd04,Fo01,Fo02,Fo03,Fo04,N0a,N0b,N1a,N1b,N2a,N2b,N3a,N3b,y0,y1,y2,y3,y4,y5,na]
       refine zaq (n-1) (by omega) ⟨i+1,o,ep,Q,[zen g cfg p],.ref (st.nx+3) none st.ep 0 1,hG',by simp [v1],by simp [v3],by simp [v5],by simp [v6],by simp [v8],by simp [v9],by simp,ho3,ho5,(by simp <;> omega),by simp <;> omega,by simp [Fa01,Fa02,Fa03,Fa04,Fb01,Fb02,Fb03,Fb04,Fc01,Fc02,Fc03,Fc04,Fd01,Fd02,Fd03,Fd04,Fo01,Fo02,Fo03,Fo04,N0a,N0b,N1a,N1b,N2a,N2b,N3a,N3b,y0,y1,y2,y3,y4,y5,na,hS0],by simp [Fa01,Fa02,Fa03,Fa04,Fb01,Fb02,Fb03,Fb04,Fc01,Fc02,Fc03,Fc04,Fd01,Fd02,Fd03,Fd04,Fo01,Fo02,Fo03,Fo04,N0a,N0b,N1a,N1b,N2a,N2b,N3a,N3b,y0,y1,y2,y3,y4,y5,na,hS1],by simp [Fa01,Fa02,Fa03,Fa04,Fb01,Fb02,Fb03,Fb04,Fc01,Fc02,Fc03,Fc04,Fd01,Fd02,Fd03,Fd04,Fo01,Fo02,Fo03,Fo04,N0a,N0b,N1a,N1b,N2a,N2b,N3a,N3b,y0,y1,y2,y3,y4,y5,na,hS2],by simp [Fa01,Fa02,Fa03,Fa04,Fb01,Fb02,Fb03,Fb04,Fc01,Fc02,Fc03,Fc04,Fd01,Fd02,Fd03,Fd04,Fo01,Fo02,Fo03,Fo04,N0a,N0b,N1a,N1b,N2a,N2b,N3a,N3b,y0,y1,y2,y3,y4,y5,na],by simp [Fa01,Fa02,Fa03,Fa04,Fb01,Fb02,Fb03,Fb04,Fc01,Fc02,Fc03,Fc04,Fd01,Fd02,Fd03,Fd04,Fo01,Fo02,Fo03,Fo04,N0a,N0b,N1a,N1b,N2a,N2b,N3a,N3b,y0,y1,y2,y3,y4,y5,na,hSo],.inr ⟨st.nx+3,st.ep,by simp,by omega,by simp <;> omega,by omega,by simp [nd,zen,y0,y1,y2,y3,y4,y5]⟩⟩
      ·obtain ⟨Fw01,Fw02,Fw03,Fw04⟩:=fr (show w<st.nx by omega)
       have M0a:(w=0)=False:=eq_false (by omega)
       have M0b:(0=w)=False:=eq_false (by omega)
       have M1a:(w=1)=False:=eq_false (by omega)
       have M1b:(1=w)=False:=eq_false (by omega)
       have M2a:(w=2)=False:=eq_false (by omega)
       have M2b:(2=w)=False:=eq_false (by omega)
       have M3a:(w=5)=False:=eq_false (by omega)
       have M3b:(5=w)=False:=eq_false (by omega)
       have M4a:(w=o)=False:=eq_false (by omega)
       have M4b:(o=w)=False:=eq_false (by omega)
       simp [-getElem?_pos,zjm,v1,v3,v5,v6,v8,v9,v10,hS0,hS1,hS2,hS5,hSo,hSw,hlt,hp',hps,hlv,f1,f2,f3,hws,hr40,hr41,hsn,Fa01,Fa02,Fa03,Fa04,Fb01,Fb02,Fb03,Fb04,Fc01,Fc02,Fc03,Fc04,Fd01,Fd02,Fd03,Fd04,Fo01,Fo02,Fo03,Fo04,N0a,N0b,N1a,N1b,N2a,N2b,N3a,N3b,y0,y1,y2,y3,y4,y5,na,Fw01,Fw02,Fw03,Fw04,M0a,M0b,M1a,M1b,M2a,M2b,M3a,M3b,M4a,M4b]
       refine zaq (n-1) (by omega) ⟨i+1,o,ep,Q,out++[zen g cfg p],.ref (st.nx+3) none st.ep 0 (out.length+1),hG',by simp [v1],by simp [v3],by simp [v5],by simp [v6],by simp [v8],by simp [v9],by simp,ho3,ho5,(by simp <;> omega),by simp <;> omega,by simp [Fa01,Fa02,Fa03,Fa04,Fb01,Fb02,Fb03,Fb04,Fc01,Fc02,Fc03,Fc04,Fd01,Fd02,Fd03,Fd04,Fo01,Fo02,Fo03,Fo04,N0a,N0b,N1a,N1b,N2a,N2b,N3a,N3b,y0,y1,y2,y3,y4,y5,na,Fw01,Fw02,Fw03,Fw04,M0a,M0b,M1a,M1b,M2a,M2b,M3a,M3b,M4a,M4b,hS0],by simp [Fa01,Fa02,Fa03,Fa04,Fb01,Fb02,Fb03,Fb04,Fc01,Fc02,Fc03,Fc04,Fd01,Fd02,Fd03,Fd04,Fo01,Fo02,Fo03,Fo04,N0a,N0b,N1a,N1b,N2a,N2b,N3a,N3b,y0,y1,y2,y3,y4,y5,na,Fw01,Fw02,Fw03,Fw04,M0a,M0b,M1a,M1b,M2a,M2b,M3a,M3b,M4a,M4b,hS1],by simp [Fa01,Fa02,Fa03,Fa04,Fb01,Fb02,Fb03,Fb04,Fc01,Fc02,Fc03,Fc04,Fd01,Fd02,Fd03,Fd04,Fo01,Fo02,Fo03,Fo04,N0a,N0b,N1a,N1b,N2a,N2b,N3a,N3b,y0,y1,y2,y3,y4,y5,na,Fw01,Fw02,Fw03,Fw04,M0a,M0b,M1a,M1b,M2a,M2b,M3a,M3b,M4a,M4b,hS2],by simp [Fa01,Fa02,Fa03,Fa04,Fb01,Fb02,Fb03,Fb04,Fc01,Fc02,Fc03,Fc04,Fd01,Fd02,Fd03,Fd04,Fo01,Fo02,Fo03,Fo04,N0a,N0b,N1a,N1b,N2a,N2b,N3a,N3b,y0,y1,y2,y3,y4,y5,na,Fw01,Fw02,Fw03,Fw04,M0a,M0b,M1a,M1b,M2a,M2b,M3a,M3b,M4a,M4b],by simp [Fa01,Fa02,Fa03,Fa04,Fb01,Fb02,Fb03,Fb04,Fc01,Fc02,Fc03,Fc04,Fd01,Fd02,Fd03,Fd04,Fo01,Fo02,Fo03,Fo04,N0a,N0b,N1a,N1b,N2a,N2b,N3a,N3b,y0,y1,y2,y3,y4,y5,na,Fw01,Fw02,Fw03,Fw04,M0a,M0b,M1a,M1b,M2a,M2b,M3a,M3b,M4a,M4b,hSo],.inr ⟨st.nx+3,st.ep,by simp,by omega,by simp <;> omega,by omega,by simp [nd,zen,y0,y1,y2,y3,y4,y5]⟩⟩
     ·rcases hN with ⟨rfl,rfl⟩ | ⟨w,ew,rfl,hw5,hwx,hwo,hSw⟩
      ·simp [-getElem?_pos,zjm,v1,v3,v5,v6,v8,v9,v10,hS0,hS1,hS2,hS5,hSo,hlt,hp',hps,hlv,f2,f3,hws,hr40,Fa01,Fa02,Fa03,Fa04,Fb01,Fb02,Fb03,Fb04,Fc01,Fc02,Fc03,Fc04,Fd01,Fd02,Fd03,Fd04,Fo01,Fo02,Fo03,Fo04,N0a,N0b,N1a,N1b,N2a,N2b,N3a,N3b,y0,y1,y2,y3,y4,y5,na]
       refine zaq (n-1) (by omega) ⟨i+1,o,ep,Q,[zen g cfg p],.ref (st.nx+3) none st.ep 0 1,hG',by simp [v1],by simp [v3],by simp [v5],by simp [v6],by simp [v8],by simp [v9],by simp,ho3,ho5,(by simp <;> omega),by simp <;> omega,by simp [Fa01,Fa02,Fa03,Fa04,Fb01,Fb02,Fb03,Fb04,Fc01,Fc02,Fc03,Fc04,Fd01,Fd02,Fd03,Fd04,Fo01,Fo02,Fo03,Fo04,N0a,N0b,N1a,N1b,N2a,N2b,N3a,N3b,y0,y1,y2,y3,y4,y5,na,hS0],by simp [Fa01,Fa02,Fa03,Fa04,Fb01,Fb02,Fb03,Fb04,Fc01,Fc02,Fc03,Fc04,Fd01,Fd02,Fd03,Fd04,Fo01,Fo02,Fo03,Fo04,N0a,N0b,N1a,N1b,N2a,N2b,N3a,N3b,y0,y1,y2,y3,y4,y5,na,hS1],by simp [Fa01,Fa02,Fa03,Fa04,Fb01,Fb02,Fb03,Fb04,Fc01,Fc02,Fc03,Fc04,Fd01,Fd02,Fd03,Fd04,Fo01,Fo02,Fo03,Fo04,N0a,N0b,N1a,N1b,N2a,N2b,N3a,N3b,y0,y1,y2,y3,y4,y5,na,hS2],by simp [Fa01,Fa02,Fa03,Fa04,Fb01,Fb02,Fb03,Fb04,Fc01,Fc02,Fc03,Fc04,Fd01,Fd02,Fd03,Fd04,Fo01,Fo02,Fo03,Fo04,N0a,N0b,N1a,N1b,N2a,N2b,N3a,N3b,y0,y1,y2,y3,y4,y5,na],by simp [Fa01,Fa02,Fa03,Fa04,Fb01,Fb02,Fb03,Fb04,Fc01,Fc02,Fc03,Fc04,Fd01,Fd02,Fd03,Fd04,Fo01,Fo02,Fo03,Fo04,N0a,N0b,N1a,N1b,N2a,N2b,N3a,N3b,y0,y1,y2,y3,y4,y5,na,hSo],.inr ⟨st.nx+3,st.ep,by simp,by omega,by simp <;> omega,by omega,by simp [nd,zen,y0,y1,y2,y3,y4,y5]⟩⟩
      ·obtain ⟨Fw01,Fw02,Fw03,Fw04⟩:=fr (show w<st.nx by omega)
       have M0a:(w=0)=False:=eq_false (by omega)
       have M0b:(0=w)=False:=eq_false (by omega)
       have M1a:(w=1)=False:=eq_false (by omega)
       have M1b:(1=w)=False:=eq_false (by omega)
       have M2a:(w=2)=False:=eq_false (by omega)
       have M2b:(2=w)=False:=eq_false (by omega)
       have M3a:(w=5)=False:=eq_false (by omega)
       have M3b:(5=w)=False:=eq_false (by omega)
       have M4a:(w=o)=False:=eq_false (by omega)
       have M4b:(o=w)=False:=eq_false (by omega)
       simp [-getElem?_pos,zjm,v1,v3,v5,v6,v8,v9,v10,hS0,hS1,hS2,hS5,hSo,hSw,hlt,hp',hps,hlv,f2,f3,hws,hr40,hr41,hsn,Fa01,Fa02,Fa03,Fa04,Fb01,Fb02,Fb03,Fb04,Fc01,Fc02,Fc03,Fc04,Fd01,Fd02,Fd03,Fd04,Fo01,Fo02,Fo03,Fo04,N0a,N0b,N1a,N1b,N2a,N2b,N3a,N3b,y0,y1,y2,y3,y4,y5,na,Fw01,Fw02,Fw03,Fw04,M0a,M0b,M1a,M1b,M2a,M2b,M3a,M3b,M4a,M4b]
       refine zaq (n-1) (by omega) ⟨i+1,o,ep,Q,out++[zen g cfg p],.ref (st.nx+3) none st.ep 0 (out.length+1),hG',by simp [v1],by simp [v3],by simp [v5],by simp [v6],by simp [v8],by simp [v9],by simp,ho3,ho5,(by simp <;> omega),by simp <;> omega,by simp [Fa01,Fa02,Fa03,Fa04,Fb01,Fb02,Fb03,Fb04,Fc01,Fc02,Fc03,Fc04,Fd01,Fd02,Fd03,Fd04,Fo01,Fo02,Fo03,Fo04,N0a,N0b,N1a,N1b,N2a,N2b,N3a,N3b,y0,y1,y2,y3,y4,y5,na,Fw01,Fw02,Fw03,Fw04,M0a,M0b,M1a,M1b,M2a,M2b,M3a,M3b,M4a,M4b,hS0],by simp [Fa01,Fa02,Fa03,Fa04,Fb01,Fb02,Fb03,Fb04,Fc01,Fc02,Fc03,Fc04,Fd01,Fd02,Fd03,Fd04,Fo01,Fo02,Fo03,Fo04,N0a,N0b,N1a,N1b,N2a,N2b,N3a,N3b,y0,y1,y2,y3,y4,y5,na,Fw01,Fw02,Fw03,Fw04,M0a,M0b,M1a,M1b,M2a,M2b,M3a,M3b,M4a,M4b,hS1],by simp [Fa01,Fa02,Fa03,Fa04,Fb01,Fb02,Fb03,Fb04,Fc01,Fc02,Fc03,Fc04,Fd01,Fd02,Fd03,Fd04,Fo01,Fo02,Fo03,Fo04,N0a,N0b,N1a,N1b,N2a,N2b,N3a,N3b,y0,y1,y2,y3,y4,y5,na,Fw01,Fw02,Fw03,Fw04,M0a,M0b,M1a,M1b,M2a,M2b,M3a,M3b,M4a,M4b,hS2],by simp [Fa01,Fa02,Fa03,Fa04,Fb01,Fb02,Fb03,Fb04,Fc01,Fc02,Fc03,Fc04,Fd01,Fd02,Fd03,Fd04,Fo01,Fo02,Fo03,Fo04,N0a,N0b,N1a,N1b,N2a,N2b,N3a,N3b,y0,y1,y2,y3,y4,y5,na,Fw01,Fw02,Fw03,Fw04,M0a,M0b,M1a,M1b,M2a,M2b,M3a,M3b,M4a,M4b],by simp [Fa01,Fa02,Fa03,Fa04,Fb01,Fb02,Fb03,Fb04,Fc01,Fc02,Fc03,Fc04,Fd01,Fd02,Fd03,Fd04,Fo01,Fo02,Fo03,Fo04,N0a,N0b,N1a,N1b,N2a,N2b,N3a,N3b,y0,y1,y2,y3,y4,y5,na,Fw01,Fw02,Fw03,Fw04,M0a,M0b,M1a,M1b,M2a,M2b,M3a,M3b,M4a,M4b,hSo],.inr ⟨st.nx+3,st.ep,by simp,by omega,by simp <;> omega,by omega,by simp [nd,zen,y0,y1,y2,y3,y4,y5]⟩⟩
    | true =>
     obtain ⟨m1,hG'⟩:=hG.cut hp hGg.symm
     have t7:=yfw t2
     have hlv:p.l<cfg.de:=by
      have h9:=hG2.symm
      simp only [Bool.and_eq_true,decide_eq_true_eq] at h9
      exact h9.1
     have hK2:K.2=true:=by
      have h9:=hG2.symm
      simp only [Bool.and_eq_true,decide_eq_true_eq] at h9
      exact h9.2
     obtain ⟨kf,kb,X,Y,z,k1,k2,hX,hY,hz,kI⟩:=yz7 (c:=c) (v:=v) (g:=g) (cfg:=cfg) (rows:=p.r) (b:=p.b) (by rw [← hK]; exact hK2)
     rw [← hK] at f1 hG' k1 k2 kI
     obtain ⟨⟨kf',kb',ka,kz⟩,Kb⟩:=K
     simp only at hK2 k1 k2 kI f1 hG'
     subst hK2 k1 k2
     have hfc:=(List.getElem?_eq_some_iff.mp hX).1
     have hfv:=(List.getElem?_eq_some_iff.mp hY).1
     have hbx:=(List.getElem?_eq_some_iff.mp hz).1
     have hX':=zfi (q:=q) hX
     have hY':=zfi (q:=q) hY
     have hz':=zbp hz
     have f4:=z9h cfg p.b ⟨kf,kb,ka,kz⟩ kI
     have f5:=z9i cfg kf (by omega)
     have f6:=ypj (zfu cfg kf) p.b (zcg cfg p.b ⟨kf,kb,ka,kz⟩).1 (zcg cfg p.b ⟨kf,kb,ka,kz⟩).2.1 (yd7 _ _ _).1 (yd7 _ _ _).2
     have f7:=ypr Y p.r kb (hv Y (List.mem_of_getElem? hY)) (by omega)
     have hkl:zif c v cfg p ⟨kf,kb,ka,kz⟩=⟨zcz Y p.r kb,(zie (zfu cfg kf) p.b (zcg cfg p.b ⟨kf,kb,ka,kz⟩).1 (zcg cfg p.b ⟨kf,kb,ka,kz⟩).2.1).1,p.l+1⟩:=by
      unfold zif
      simp only [zzc hY,Option.getD_some]
     have hkr:zhx c v cfg p ⟨kf,kb,ka,kz⟩=⟨zfm Y p.r kb,(zie (zfu cfg kf) p.b (zcg cfg p.b ⟨kf,kb,ka,kz⟩).1 (zcg cfg p.b ⟨kf,kb,ka,kz⟩).2.1).2,p.l+1⟩:=by
      unfold zhx
      simp only [zzc hY,Option.getD_some]
     have hcn:zrc c ⟨kf,kb,ka,kz⟩ Q.length=⟨kf,z,Q.length,Q.length+1,0⟩:=by
      unfold zrc
      simp only [zzc hX,Option.getD_some,zzc hz]
     rw [hkl,hkr,hcn] at hG'
     clear hkl hkr hcn
     generalize zcg cfg p.b ⟨kf,kb,ka,kz⟩=sv at *
     obtain ⟨sl,sr,sb⟩:=sv
     simp only at f4 f6 hG'
     generalize zfu cfg kf=sg at *
     generalize zie sg p.b sl sr=bb at *
     obtain ⟨⟨ll,lh⟩,⟨rl,rh⟩⟩:=bb
     generalize zcz Y p.r kb=L1 at *
     generalize zfm Y p.r kb=R1 at *
     simp only [bnd,cnd] at f1 f4 f6 hG'
     have hQ:=yty Q ⟨L1,⟨ll,lh⟩,p.l+1⟩ ⟨R1,⟨rl,rh⟩,p.l+1⟩
     have hsn2:=ygm out ⟨kf,z,Q.length,Q.length+1,0⟩
     simp only at hQ hsn2
     have wl:=w64 (x:=p.l+1) (by omega) (by omega)
     have wq:=w64 (x:=(Q.length:Int)+1) (by omega) (by omega)
     have hr482:zam 48 2=true:=by decide
     have hr483:zam 48 (Q.length+2)=true:=by simp [zam]; omega
     rcases hN with ⟨rfl,rfl⟩ | ⟨w,ew,rfl,hw5,hwx,hwo,hSw⟩
     ·simp [-getElem?_pos,zjm,v1,v3,v5,v6,v8,v9,v10,hS0,hS1,hS2,hS5,hSo,hlt,hp',hps,hlv,f1,f4,f5,f6,f7,hX',hY',hz',hfc,hfv,hbx,wl,wq,hr482,hr483,hQ,hws,hr40,Fa01,Fa02,Fa03,Fa04,Fb01,Fb02,Fb03,Fb04,Fc01,Fc02,Fc03,Fc04,Fd01,Fd02,Fd03,Fd04,Fo01,Fo02,Fo03,Fo04,N0a,N0b,N1a,N1b,N2a,N2b,N3a,N3b,y0,y1,y2,y3,y4,y5,na]
      refine zaq (n-1) (by omega) ⟨i+1,st.nx+9,st.ep,(Q++[⟨L1,⟨ll,lh⟩,p.l+1⟩,⟨R1,⟨rl,rh⟩,p.l+1⟩]),[⟨kf,z,Q.length,Q.length+1,0⟩],.ref (st.nx+7) none st.ep 0 1,hG',by simp [v1],by simp [v3],by simp [v5],by simp [v6],by simp,by simp [v9],by simp,by omega,by omega,by simp,by simp <;> omega,by simp [Fa01,Fa02,Fa03,Fa04,Fb01,Fb02,Fb03,Fb04,Fc01,Fc02,Fc03,Fc04,Fd01,Fd02,Fd03,Fd04,Fo01,Fo02,Fo03,Fo04,N0a,N0b,N1a,N1b,N2a,N2b,N3a,N3b,y0,y1,y2,y3,y4,y5,na,hS0],by simp [Fa01,Fa02,Fa03,Fa04,Fb01,Fb02,Fb03,Fb04,Fc01,Fc02,Fc03,Fc04,Fd01,Fd02,Fd03,Fd04,Fo01,Fo02,Fo03,Fo04,N0a,N0b,N1a,N1b,N2a,N2b,N3a,N3b,y0,y1,y2,y3,y4,y5,na,hS1],by simp [Fa01,Fa02,Fa03,Fa04,Fb01,Fb02,Fb03,Fb04,Fc01,Fc02,Fc03,Fc04,Fd01,Fd02,Fd03,Fd04,Fo01,Fo02,Fo03,Fo04,N0a,N0b,N1a,N1b,N2a,N2b,N3a,N3b,y0,y1,y2,y3,y4,y5,na,hS2],by simp [Fa01,Fa02,Fa03,Fa04,Fb01,Fb02,Fb03,Fb04,Fc01,Fc02,Fc03,Fc04,Fd01,Fd02,Fd03,Fd04,Fo01,Fo02,Fo03,Fo04,N0a,N0b,N1a,N1b,N2a,N2b,N3a,N3b,y0,y1,y2,y3,y4,y5,na],by simp [Fa01,Fa02,Fa03,Fa04,Fb01,Fb02,Fb03,Fb04,Fc01,Fc02,Fc03,Fc04,Fd01,Fd02,Fd03,Fd04,Fo01,Fo02,Fo03,Fo04,N0a,N0b,N1a,N1b,N2a,N2b,N3a,N3b,y0,y1,y2,y3,y4,y5,na],.inr ⟨st.nx+7,st.ep,by simp,by omega,by simp,by simp,by simp [nd,Fo03,Fo04,Fo01,Fo02,y0,y1,y2,y3,y4,y5]⟩⟩
     ·obtain ⟨Fw01,Fw02,Fw03,Fw04⟩:=fr (show w<st.nx by omega)
      have M0a:(w=0)=False:=eq_false (by omega)
      have M0b:(0=w)=False:=eq_false (by omega)
      have M1a:(w=1)=False:=eq_false (by omega)
      have M1b:(1=w)=False:=eq_false (by omega)
      have M2a:(w=2)=False:=eq_false (by omega)
      have M2b:(2=w)=False:=eq_false (by omega)
      have M3a:(w=5)=False:=eq_false (by omega)
      have M3b:(5=w)=False:=eq_false (by omega)
      have M4a:(w=o)=False:=eq_false (by omega)
      have M4b:(o=w)=False:=eq_false (by omega)
      simp [-getElem?_pos,zjm,v1,v3,v5,v6,v8,v9,v10,hS0,hS1,hS2,hS5,hSo,hSw,hlt,hp',hps,hlv,f1,f4,f5,f6,f7,hX',hY',hz',hfc,hfv,hbx,wl,wq,hr482,hr483,hQ,hws,hr40,hr41,hsn2,Fa01,Fa02,Fa03,Fa04,Fb01,Fb02,Fb03,Fb04,Fc01,Fc02,Fc03,Fc04,Fd01,Fd02,Fd03,Fd04,Fo01,Fo02,Fo03,Fo04,N0a,N0b,N1a,N1b,N2a,N2b,N3a,N3b,y0,y1,y2,y3,y4,y5,na,Fw01,Fw02,Fw03,Fw04,M0a,M0b,M1a,M1b,M2a,M2b,M3a,M3b,M4a,M4b]
      refine zaq (n-1) (by omega) ⟨i+1,st.nx+9,st.ep,(Q++[⟨L1,⟨ll,lh⟩,p.l+1⟩,⟨R1,⟨rl,rh⟩,p.l+1⟩]),(out++[⟨kf,z,Q.length,Q.length+1,0⟩]),.ref (st.nx+7) none st.ep 0 (out.length+1),hG',by simp [v1],by simp [v3],by simp [v5],by simp [v6],by simp,by simp [v9],by simp,by omega,by omega,by simp,by simp <;> omega,by simp [Fa01,Fa02,Fa03,Fa04,Fb01,Fb02,Fb03,Fb04,Fc01,Fc02,Fc03,Fc04,Fd01,Fd02,Fd03,Fd04,Fo01,Fo02,Fo03,Fo04,N0a,N0b,N1a,N1b,N2a,N2b,N3a,N3b,y0,y1,y2,y3,y4,y5,na,Fw01,Fw02,Fw03,Fw04,M0a,M0b,M1a,M1b,M2a,M2b,M3a,M3b,M4a,M4b,hS0],by simp [Fa01,Fa02,Fa03,Fa04,Fb01,Fb02,Fb03,Fb04,Fc01,Fc02,Fc03,Fc04,Fd01,Fd02,Fd03,Fd04,Fo01,Fo02,Fo03,Fo04,N0a,N0b,N1a,N1b,N2a,N2b,N3a,N3b,y0,y1,y2,y3,y4,y5,na,Fw01,Fw02,Fw03,Fw04,M0a,M0b,M1a,M1b,M2a,M2b,M3a,M3b,M4a,M4b,hS1],by simp [Fa01,Fa02,Fa03,Fa04,Fb01,Fb02,Fb03,Fb04,Fc01,Fc02,Fc03,Fc04,Fd01,Fd02,Fd03,Fd04,Fo01,Fo02,Fo03,Fo04,N0a,N0b,N1a,N1b,N2a,N2b,N3a,N3b,y0,y1,y2,y3,y4,y5,na,Fw01,Fw02,Fw03,Fw04,M0a,M0b,M1a,M1b,M2a,M2b,M3a,M3b,M4a,M4b,hS2],by simp [Fa01,Fa02,Fa03,Fa04,Fb01,Fb02,Fb03,Fb04,Fc01,Fc02,Fc03,Fc04,Fd01,Fd02,Fd03,Fd04,Fo01,Fo02,Fo03,Fo04,N0a,N0b,N1a,N1b,N2a,N2b,N3a,N3b,y0,y1,y2,y3,y4,y5,na,Fw01,Fw02,Fw03,Fw04,M0a,M0b,M1a,M1b,M2a,M2b,M3a,M3b,M4a,M4b],by simp [Fa01,Fa02,Fa03,Fa04,Fb01,Fb02,Fb03,Fb04,Fc01,Fc02,Fc03,Fc04,Fd01,Fd02,Fd03,Fd04,Fo01,Fo02,Fo03,Fo04,N0a,N0b,N1a,N1b,N2a,N2b,N3a,N3b,y0,y1,y2,y3,y4,y5,na,Fw01,Fw02,Fw03,Fw04,M0a,M0b,M1a,M1b,M2a,M2b,M3a,M3b,M4a,M4b],.inr ⟨st.nx+7,st.ep,by simp,by omega,by simp,by simp,by simp [nd,Fo03,Fo04,Fo01,Fo02,y0,y1,y2,y3,y4,y5]⟩⟩
   ·have hiq:i=Q.length:=by have:=hG.le; omega
    have hgo:=hG.go
    rw [ybd (List.getElem?_eq_none (by omega)),← hR'] at hgo
    subst hgo
    have hol:=hG.ol
    rcases hN with ⟨rfl,rfl⟩ | ⟨w,ew,rfl,hw5,hwx,hwo,hSw⟩
    ·simp [-getElem?_pos,zjm,v1,v3,v5,v6,v8,v9,v10,hS0,hS1,hS2,hS5,hSo,hlt,Fa01,Fa02,Fa03,Fa04,Fb01,Fb02,Fb03,Fb04,Fc01,Fc02,Fc03,Fc04,Fd01,Fd02,Fd03,Fd04,Fo01,Fo02,Fo03,Fo04,N0a,N0b,N1a,N1b,N2a,N2b,N3a,N3b,y0,y1,y2,y3,y4,y5,na]
    ·obtain ⟨Fw01,Fw02,Fw03,Fw04⟩:=fr (show w<st.nx by omega)
     have M0a:(w=0)=False:=eq_false (by omega)
     have M0b:(0=w)=False:=eq_false (by omega)
     have M1a:(w=1)=False:=eq_false (by omega)
     have M1b:(1=w)=False:=eq_false (by omega)
     have M2a:(w=2)=False:=eq_false (by omega)
     have M2b:(2=w)=False:=eq_false (by omega)
     have M3a:(w=5)=False:=eq_false (by omega)
     have M3b:(5=w)=False:=eq_false (by omega)
     have M4a:(w=o)=False:=eq_false (by omega)
     have M4b:(o=w)=False:=eq_false (by omega)
     simp [-getElem?_pos,zjm,v1,v3,v5,v6,v8,v9,v10,hS0,hS1,hS2,hS5,hSo,hSw,hlt,Fa01,Fa02,Fa03,Fa04,Fb01,Fb02,Fb03,Fb04,Fc01,Fc02,Fc03,Fc04,Fd01,Fd02,Fd03,Fd04,Fo01,Fo02,Fo03,Fo04,N0a,N0b,N1a,N1b,N2a,N2b,N3a,N3b,y0,y1,y2,y3,y4,y5,na,Fw01,Fw02,Fw03,Fw04,M0a,M0b,M1a,M1b,M2a,M2b,M3a,M3b,M4a,M4b]
  ·refine ⟨by simp,by simp,by simp,by simp,by simp,by simp,by simp,by simp,by simp,by simp,by simp,by simp,by simp,by simp,by simp,by simp [hroot],.inl ⟨rfl,rfl⟩⟩
theorem z4r {c v:List (List Int)} {g:List Int} {cfg:Cfg} : ∀ (n:Nat) (q:List Pnd) (i:Nat) (out:List Nd),(zc9 c v g cfg n q i out).length≤out.length+n
 | 0,q,i,out=>by simp [zc9]
 | n+1,q,i,out=>by
  rw [zc9]
  split
  ·omega
  ·split
   ·refine Nat.le_trans (z4r n _ _ _) ?_
    simp; omega
   ·refine Nat.le_trans (z4r n _ _ _) ?_
    simp; omega
theorem yd1 (c v:List (List Int)) (g:List Int) (cfg:Cfg):(zb7 c v g cfg).1.length≤32:=by
 unfold zb7
 split
 ·have:=z4r (c:=c) (v:=v) (g:=g) (cfg:=cfg) 32 [zf8 g] 0 []
  simpa using this
 ·simp
end Go.Pe
