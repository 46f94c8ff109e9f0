/- What each function answers by the evaluator,and the law; for each answer its own conditions stand ahead of it. -/
import Derived.Test.YtpcphbbcnmhcnaaGreatC0
import Derived.Test.YtpcphbbcnmhcnaaGreatEvB2
import Derived.IntWalk
set_option linter.all false
namespace Go.Pe
open Go
theorem ypt {q:Bool} {f:Nat} {cs:List PV} {p:List Int→Bool} (M:List (List Int)) (hl:M.length≤9223372036854775807) (hm:zad T f=[]) (hp : ∀ t∈M,RUN T f [.sl 1 (zac t),.fptr cs 0]=some ([bv (p t)],[])) :
  RUN T zo8 [.sl 1 (rws q M),.fn f [.fptr cs 0]]=some ([iv (zib p M)],[]):=by
 refine zag z7g rfl ?_
 simp [zwy,zwz]
 refine za3 (fun n st => ∃ i:Nat,i+n=M.length∧st.V 0 = .sl 1 (rws q M)∧st.V 1 = .fn f [.fptr cs 0]∧st.V 8=iv i∧st.V 7=iv M.length∧∀ (j:Nat) (x:List Int),j<i→M[j]?=some x→p x=false) ?_ M.length _ ⟨0,by simp⟩
 rintro n st ⟨i,hi,h0,h1,h8,h7,hj⟩
 simp [z5a,h0,h1,h8,h7]
 refine zb0 (fun h => ?_) (fun h => ?_)
 ·simp at h
  obtain ⟨x,hx⟩ : ∃ x,M[i]?=some x:=⟨_,List.getElem?_eq_getElem h⟩
  have hw:=wS h hl
  have hx':=zfi (q:=q) hx
  have hpx:=hp x (List.mem_of_getElem? hx)
  simp [-getElem?_pos,h0,h1,h8,h7,hx',hw,hm,hpx,h]
  refine zb0 (fun b0 => ?_) (fun b0 => ?_) <;> (try simp at b0) <;> simp [-getElem?_pos,b0,h0,h1,h8,h7,hx',hw]
  all_goals first
   | exact (z0a hx b0 hj).symm
   | exact zaq (n-1) (by omega) ⟨i+1,by omega,by simp [h0],by simp [h1],by simp,by simp [h7],z39 hj hx b0⟩
 ·simp at h
  simp [h]
  exact (z0o fun j x hl hx=>hj j x (by omega) hx).symm
theorem ypu {q:Bool} {f:Nat} {cs:List PV} {p:List Int→Bool} (M:List (List Int)) (hl:M.length≤9223372036854775807) (hm:zad T f=[]) (hp : ∀ t∈M,RUN T f [.sl 1 (zac t),.fptr cs 0]=some ([bv (p t)],[])) :
  RUN T zot [.sl 1 (rws q M),.fn f [.fptr cs 0]]=some ([bv (M.any p)],[]):=by
 refine zag z6n rfl ?_
 have e:=ypt (q:=q) M hl hm hp
 simp [zvt,zvu,e,zy6]
def zd6 (n:Nat) (r:List Int):Bool:=decide ((r.length:Int)=n) && r.all zbg
def za9 (t:Ta):Bool:=zal t.ns.length 1 4 && zfr (t.ns++[t.nm]) && zal t.rw.length 1 40 && decide ((t.lb.length:Int)=t.rw.length) && t.lb.all zbg && t.rw.all (zd6 t.ns.length)
theorem yg2 {L:List ByteArray} {x:ByteArray} {i:Nat} (h:i<L.length):nmB (L++[x]) i=nmB L i:=by
 obtain ⟨y,hy⟩ : ∃ y,L[i]?=some y:=⟨_,List.getElem?_eq_getElem h⟩
 have hy2:(L++[x])[i]?=some y:=by rw [List.getElem?_append_left h]; exact hy
 rw [zs6 hy,zs6 hy2,List.take_append_of_le_length (by omega)]
theorem yqn {L:List ByteArray} {x:ByteArray}:nmB (L++[x]) L.length=(zdl x && !zff L x):=by
 rw [zs6 (x:=x) (by simp)]
 simp
theorem yrj (L:List ByteArray) (x:ByteArray):zfr (L++[x])=(zfr L && (zdl x && !zff L x)):=by
 unfold zfr
 rw [show (L++[x]).length=L.length+1 by simp,List.range_succ,List.all_append]
 simp only [List.all_cons,List.all_nil,Bool.and_true]
 rw [yqn]
 congr 1
 rw [Bool.eq_iff_iff,List.all_eq_true,List.all_eq_true]
 constructor
 ·intro h j hj; rw [← yg2 (x:=x) (List.mem_range.mp hj)]; exact h j hj
 ·intro h j hj; rw [yg2 (List.mem_range.mp hj)]; exact h j hj
theorem ywq (l:List ByteArray):zcr (za5 l)=true:=by
 induction l with
 | nil=>rfl
 | cons x l ih=>simpa [za5,zcr] using ih
theorem z9u (l:List Int):zcr (zac l)=true:=by
 induction l with
 | nil=>rfl
 | cons x l ih=>simpa [zac,zcr] using ih
theorem yvu (l:List Nd):zcr (l.map nd)=true:=by
 induction l with
 | nil=>rfl
 | cons x l ih=>simpa [nd,zcr] using ih
theorem ypv (l:List ByteArray) (hl:l.length≤1048576):RUN T zoc [.sl 1 (za5 l)]=some ([.own 1 (za5 l)],[]) :=
 z3z z5x (ywq l) (by simp [zam]; omega)
theorem ypw (l:List Int) (hl:l.length≤1048576):RUN T zod [.sl 1 (zac l)]=some ([.own 1 (zac l)],[]) :=
 z3z z5y (z9u l) (by simp [zam]; omega)
theorem ypx (l:List Nd) (hl:l.length≤1048576):RUN T zo9 [.sl 5 (l.map nd)]=some ([.own 5 (l.map nd)],[]) :=
 z3z z7h (yvu l) (by simp [zam]; omega)
theorem ypy (q:Bool) (t:Ta) (r:List Int) (hr:r.length≤9223372036854775807):RUN T zlp [.sl 1 (zac r),.fptr [.sl 1 (za5 t.ns),.v (.string t.nm),.sl 1 (rws q t.rw),.sl 1 (zac t.lb)] 0]=some ([bv (!zd6 t.ns.length r)],[]):=by
 have e:=z1c r hr
 unfold zd6
 generalize r.all zbg=a at *
 refine zag z6o rfl ?_
 rcases Classical.propComplete ((r.length:Int)=t.ns.length) with h | h <;> cases a <;> simp [-getElem?_pos,zvv,zvw,e,h]
theorem yui (l:List ByteArray) (x:ByteArray):za5 l++[[.v (.string x)]]=za5 (l++[x]):=by simp [za5]
set_option maxHeartbeats 2000000 in
theorem z1n (q:Bool) (t:Ta) (ht:TaL 1048576 t):RUN T zki [taS q t]=some ([bv (za9 t)],[]):=by
 have h0:=ypv t.ns ht.ns
 have h1:=yo3 (t.ns++[t.nm]) (by have:=ht.ns; simp; omega) (fun x hx=>by
  rcases List.mem_append.mp hx with e | e
  ·exact Nat.le_trans (ht.ss x e) (by omega)
  ·simp at e; subst e; exact Nat.le_trans ht.nm (by omega))
 have h2:=z1c t.lb (Nat.le_trans ht.lb (by omega))
 have h3:=ypu (q:=q) (f:=zlp) (cs:=[.sl 1 (za5 t.ns),.v (.string t.nm),.sl 1 (rws q t.rw),.sl 1 (zac t.lb)]) (p:=fun r => !zd6 t.ns.length r) t.rw (Nat.le_trans ht.rw (by omega)) (by simp) (fun r hr=>ypy q t r (Nat.le_trans (ht.rr r hr) (by omega)))
 have e3:(!(t.rw.any fun r => !zd6 t.ns.length r))=t.rw.all (zd6 t.ns.length):=by simp [List.any_eq_not_all_not]
 have g1:=zcb t.ns.length 1 4
 have g2:=zcb t.rw.length 1 40
 have hsn:=yui t.ns t.nm
 have hns:=ht.ns
 have hr1:zam 16 1=true:=by decide
 have hr2:zam 16 (t.ns.length+1)=true:=by simp [zam]; omega
 unfold za9
 rw [← e3]
 clear e3
 generalize zfr (t.ns++[t.nm])=a1 at *
 generalize t.lb.all zbg=a2 at *
 generalize (t.rw.any fun r => !zd6 t.ns.length r)=a3 at *
 generalize zal t.ns.length 1 4=b1 at *
 generalize zal t.rw.length 1 40=b2 at *
 refine zag z5v rfl ?_
 cases b1 with
 | false=>simp [-getElem?_pos,zji,zjj,-zbd,g1,g2,h0,h1,h2,h3,hsn,hr1,hr2]
 | true =>
 cases a1 with
 | false=>simp [-getElem?_pos,zji,zjj,-zbd,g1,g2,h0,h1,h2,h3,hsn,hr1,hr2]
 | true =>
 cases b2 with
 | false=>simp [-getElem?_pos,zji,zjj,-zbd,g1,g2,h0,h1,h2,h3,hsn,hr1,hr2]
 | true =>
 rcases Classical.propComplete ((t.lb.length:Int)=t.rw.length) with h | h
 ·cases a2 with
  | false=>simp [-getElem?_pos,zji,zjj,-zbd,g1,g2,h0,h1,h2,h3,hsn,hr1,hr2,h]
  | true=>cases a3 <;> simp [-getElem?_pos,zji,zjj,-zbd,g1,g2,h0,h1,h2,h3,hsn,hr1,hr2,h]
 ·simp [-getElem?_pos,zji,zjj,-zbd,g1,g2,h0,h1,h2,h3,hsn,hr1,hr2,h]
abbrev taB (q:Bool) (t:Ta):List PV:=[.sl 1 (za5 t.ns),.v (.string t.nm),.sl 1 (rws q t.rw),.sl 1 (zac t.lb)]
theorem ysg (q:Bool) (t:Ta) (ht:TaL 9223372036854775807 t) {Q:Ex→St→Prop} {st:St} (h1:st.V 1 = .ptr 0 none 0 0 0) (h3:st.V 3=iv t.ns.length) (h4:st.V 4=iv (0:Nat)) (hS:st.S 0=some (.box (taB q t)))
  (hr:zfr t.ns=false→∀ s:St,s.V 2=bv false→Q .ret s) (he:zfr t.ns=true→∀ s:St,s.V 1 = .ptr 0 none 0 0 0→s.V 3=iv t.ns.length→s.S 0=some (.box (taB q t))→Q (.exit 0) s):W (zad T) (RUN T) (.loop zpw) st Q:=by
 refine za3 (fun n st => ∃ i:Nat,i+n=t.ns.length∧(∀ j,j<i→nmB t.ns j=true)∧st.V 1 = .ptr 0 none 0 0 0∧st.V 3=iv t.ns.length∧st.V 4=iv i∧st.S 0=some (.box (taB q t))) ?_ t.ns.length _ ⟨0,by omega,fun _ h=>by omega,h1,h3,h4,hS⟩
 clear h1 h3 h4 hS
 rintro n st ⟨i,hi,hj,v1,v3,v4,hS⟩
 by_cases h:i<t.ns.length
 ·obtain ⟨x,hx⟩ : ∃ x,t.ns[i]?=some x:=⟨_,List.getElem?_eq_getElem h⟩
  have hx':=zq0 hx
  have hw:=wS h ht.ns
  have hml:=ht.ns
  have hN:=z82 x (ht.ss x (List.mem_of_getElem? hx))
  have hC:=z83 (t.ns.take i) x (by simp; omega)
  have hc:=zs6 hx
  have hil:i≤t.ns.length:=by omega
  cases a1:zdl x with
  | false =>
   rw [a1] at hN hc
   simp [-getElem?_pos,zpw,v1,v3,v4,hS,hx',h,hw,hN]
   exact hr (zi1 h (by rw [hc]; rfl)) _ (by simp)
  | true =>
   rw [a1] at hN hc
   cases a2:zff (t.ns.take i) x with
   | true =>
    rw [a2] at hC hc
    simp [-getElem?_pos,zpw,v1,v3,v4,hS,hx',h,hw,hN,hC,hil,z0l]
    exact hr (zi1 h (by rw [hc]; rfl)) _ (by simp)
   | false =>
    rw [a2] at hC hc
    simp [-getElem?_pos,zpw,v1,v3,v4,hS,hx',h,hw,hN,hC,hil,z0l]
    exact zaq (n-1) (by omega) ⟨i+1,by omega,zj3 hj (by rw [hc]; rfl),by simp [v1],by simp [v3],by simp,by simp [hS]⟩
 ·simp [-getElem?_pos,zpw,v3,v4,h]
  exact he (zrk fun j hj'=>hj j (by omega)) _ (by simp [v1]) (by simp [v3]) (by simp [hS])
theorem yw0 (q:Bool) (t:Ta) (ht:TaL 9223372036854775807 t) {r:List Int} {j:Nat} (hj:t.rw[j]?=some r) (hl:r.length=t.ns.length) {Q:Ex→St→Prop} {st:St} (h1:st.V 1 = .ptr 0 none 0 0 0) (h3:st.V 3=iv t.ns.length) (h5:st.V 5=iv j) (h6:st.V 6=iv (0:Nat)) (hS:st.S 0=some (.box (taB q t)))
  (hr:r.all zbg=false→∀ s:St,s.V 2=bv false→Q .ret s) (he:r.all zbg=true→∀ s:St,s.V 1 = .ptr 0 none 0 0 0→s.V 3=iv t.ns.length→s.V 5=iv j→s.S 0=some (.box (taB q t))→Q (.exit 4) s):W (zad T) (RUN T) (.loop zrq) st Q:=by
 have hj':=zfi (q:=q) hj
 have hjl:=(List.getElem?_eq_some_iff.mp hj).1
 refine za3 (fun n st => ∃ i:Nat,i+n=r.length∧(∀ (k:Nat) (x:Int),k<i→r[k]?=some x→zbg x=true)∧st.V 1 = .ptr 0 none 0 0 0∧st.V 3=iv t.ns.length∧st.V 5=iv j∧st.V 6=iv i∧st.S 0=some (.box (taB q t))) ?_ r.length _ ⟨0,by omega,fun _ _ h=>by omega,h1,h3,h5,h6,hS⟩
 clear h1 h3 h5 h6 hS
 rintro n st ⟨i,hi,hk,v1,v3,v5,v6,hS⟩
 by_cases h:i<t.ns.length
 ·obtain ⟨x,hx⟩ : ∃ x,r[i]?=some x:=⟨_,List.getElem?_eq_getElem (by omega)⟩
  have hx':=zbp hx
  have hw:=wS h ht.ns
  have hir:i<r.length:=by omega
  have hD:=zm0 x
  cases a1:zbg x with
  | false =>
   rw [a1] at hD
   simp [-getElem?_pos,zrq,-zm0,v1,v3,v5,v6,hS,hj',hjl,hir,hx',h,hw,hD]
   exact hr (yf0 hx a1) _ (by simp)
  | true =>
   rw [a1] at hD
   simp [-getElem?_pos,zrq,-zm0,v1,v3,v5,v6,hS,hj',hjl,hir,hx',h,hw,hD]
   exact zaq (n-1) (by omega) ⟨i+1,by omega,zzo (P:=fun _ x=>zbg x=true) hk hx a1,by simp [v1],by simp [v3],by simp [v5],by simp,by simp [hS]⟩
 ·simp [-getElem?_pos,zrq,v3,v6,h]
  exact he (yao fun k a h1 h2=>hk k a (by omega) h2) _ (by simp [v1]) (by simp [v3]) (by simp [v5]) (by simp [hS])
theorem ybc {M:List (List Int)} {p:List Int→Bool} {j:Nat} {a:List Int} (h1:M[j]?=some a) (h2:p a=false):M.all p=false:=by
 cases e:M.all p with
 | false=>rfl
 | true=>rw [List.all_eq_true.mp e a (List.mem_of_getElem? h1)] at h2; cases h2
theorem yx6 {M:List (List Int)} {p:List Int→Bool} (h : ∀ (j:Nat) (a:List Int),j<M.length→M[j]?=some a→p a=true):M.all p=true:=by
 rw [List.all_eq_true]
 intro x hx
 obtain ⟨j,hj⟩:=List.getElem?_of_mem hx
 exact h j x (List.getElem?_eq_some_iff.mp hj).1 hj
set_option maxHeartbeats 1000000 in
theorem yx5 (q:Bool) (t:Ta) (ht:TaL 9223372036854775807 t) (hyl:t.lb.length=t.rw.length) {Q:Ex→St→Prop} {st:St} (h1:st.V 1 = .ptr 0 none 0 0 0) (h3:st.V 3=iv t.ns.length) (h5:st.V 5=iv (0:Nat)) (hS:st.S 0=some (.box (taB q t)))
  (hr:(t.lb.all zbg && t.rw.all (zd6 t.ns.length))=false→∀ s:St,s.V 2=bv false→Q .ret s) (he:(t.lb.all zbg && t.rw.all (zd6 t.ns.length))=true→∀ s:St,Q (.exit 2) s):W (zad T) (RUN T) (.loop zpx) st Q:=by
 refine za3 (fun n st => ∃ i:Nat,i+n=t.rw.length∧(∀ (k:Nat) (x:Int),k<i→t.lb[k]?=some x→zbg x=true)∧(∀ (k:Nat) (x:List Int),k<i→t.rw[k]?=some x→zd6 t.ns.length x=true)∧st.V 1 = .ptr 0 none 0 0 0∧st.V 3=iv t.ns.length∧st.V 5=iv i∧st.S 0=some (.box (taB q t))) ?_ t.rw.length _ ⟨0,by omega,fun _ _ h=>by omega,fun _ _ h=>by omega,h1,h3,h5,hS⟩
 clear h1 h3 h5 hS
 rintro n st ⟨i,hi,hk,hk2,v1,v3,v5,hS⟩
 by_cases h:i<t.rw.length
 ·obtain ⟨r,hx⟩ : ∃ x,t.rw[i]?=some x:=⟨_,List.getElem?_eq_getElem h⟩
  obtain ⟨y,hy⟩ : ∃ x,t.lb[i]?=some x:=⟨_,List.getElem?_eq_getElem (by omega)⟩
  have hx':=zfi (q:=q) hx
  have hy':=zbp hy
  have hw:=wS h ht.rw
  have hil:i<t.lb.length:=by omega
  have hD:=zm0 y
  have hrb:zd6 t.ns.length r=(decide ((r.length:Int)=t.ns.length) && r.all zbg):=rfl
  rcases Classical.propComplete ((r.length:Int)=t.ns.length) with e1 | e1
  ·cases a1:zbg y with
   | false =>
    rw [a1] at hD
    simp [-getElem?_pos,zpx,-zm0,v1,v3,v5,hS,hx',hy',h,hil,hD,e1]
    exact hr (by rw [yf0 hy a1]; rfl) _ (by simp)
   | true =>
    rw [a1] at hD
    have e2:(r.length:Int)=t.ns.length:=by rw [e1]; trivial
    simp [-getElem?_pos,zpx,-zm0,v1,v3,v5,hS,hx',hy',h,hil,hD,e1]
    refine yw0 q t ht hx (by omega) (by simp [v1]) (by simp [v3]) (by simp [v5]) (by simp) (by simp [hS]) (fun no s h2 => ?_) (fun ok s w1 w3 w5 wS => ?_)
    ·simp
     refine hr ?_ _ (by simp [h2])
     rw [ybc hx (by rw [hrb,no]; simp)]; simp
    ·simp [-getElem?_pos,w1,w3,w5,wS,hw]
     exact zaq (n-1) (by omega) ⟨i+1,by omega,zzo (P:=fun _ x=>zbg x=true) hk hy a1,(fun k x h1 h2=>by
      rcases Nat.lt_or_ge k i with h3 | h3
      ·exact hk2 k x h3 h2
      ·have:k=i:=by omega
       subst this
       rw [hx] at h2; cases h2
       rw [hrb,ok,decide_eq_true e2]; rfl),by simp [w1],by simp [w3],by simp,by simp [wS]⟩
  ·simp [-getElem?_pos,zpx,-zm0,v1,v3,v5,hS,hx',hy',h,hil,e1]
   refine hr ?_ _ (by simp)
   rw [ybc hx (by rw [hrb]; simp [e1])]; simp
 ·simp [-getElem?_pos,zpx,v1,v5,hS,h]
  exact he (by rw [yao fun k a h1 h2=>hk k a (by omega) h2,yx6 fun k a h1 h2=>hk2 k a (by omega) h2]; rfl) _
set_option maxHeartbeats 2000000 in
theorem ypz (q:Bool) (t:Ta) (ht:TaL 9223372036854775807 t):RUN T zn1 [taS q t]=some ([bv (za9 t)],[]):=by
 have g1:=zel t.ns.length 1 4
 have g2:=zel t.rw.length 1 40
 have g3:=z82 t.nm ht.nm
 have g4:=z83 t.ns t.nm ht.ns
 have mod:za9 t=(zal t.ns.length 1 4 && (zfr t.ns && (zdl t.nm && !zff t.ns t.nm)) && zal t.rw.length 1 40 && decide ((t.lb.length:Int)=t.rw.length) && t.lb.all zbg && t.rw.all (zd6 t.ns.length)):=by
  unfold za9
  rw [yrj]
 rw [mod]
 clear mod
 generalize zal t.ns.length 1 4=b1 at *
 generalize zal t.rw.length 1 40=b2 at *
 generalize zdl t.nm=b3 at *
 generalize zff t.ns t.nm=b4 at *
 obtain ⟨R,hR⟩ : ∃ R,R=(b1 && (zfr t.ns && (b3 && !b4)) && b2 && decide ((t.lb.length:Int)=t.rw.length) && t.lb.all zbg && t.rw.all (zd6 t.ns.length)):=⟨_,rfl⟩
 rw [← hR]
 refine zag z5i rfl ?_
 cases b1 with
 | false =>
  have hR:R=false:=by rw [hR]; simp
  subst hR
  simp [-getElem?_pos,zje,zjf,-zdg,g1]
 | true =>
 cases b3 with
 | false =>
  have hR:R=false:=by rw [hR]; simp
  subst hR
  simp [-getElem?_pos,zje,zjf,-zdg,g1,g3]
 | true =>
 cases b4 with
 | true =>
  have hR:R=false:=by rw [hR]; simp
  subst hR
  simp [-getElem?_pos,zje,zjf,-zdg,g1,g3,g4]
 | false =>
 cases b2 with
 | false =>
  have hR:R=false:=by rw [hR]; simp
  subst hR
  simp [-getElem?_pos,zje,zjf,-zdg,g1,g2,g3,g4]
 | true =>
 by_cases e2:(t.lb.length:Int)=t.rw.length
 ·have e1:((t.lb.length:Int)=t.rw.length)=True:=eq_true e2
  rw [decide_eq_true e2] at hR
  simp [-getElem?_pos,zje,zjf,-zdg,g1,g2,g3,g4,e1]
  refine ysg q t ht (by simp) (by simp) (by simp) (by simp) (fun no s h2 => ?_) (fun ok s u1 u3 uS => ?_)
  ·have hR:R=false:=by rw [hR,no]; simp
   simp [h2,hR]
  ·simp [-getElem?_pos,u1,u3,uS]
   refine yx5 q t ht (by omega) (by simp [u1]) (by simp [u3]) (by simp) (by simp [uS]) (fun no s h2 => ?_) (fun ok2 s => ?_)
   ·have hR:R=false:=by rw [hR,ok]; generalize t.lb.all zbg=a at *; generalize t.rw.all (zd6 t.ns.length)=b at *; cases a <;> cases b <;> first | rfl | cases no
    simp [h2,hR]
   ·have hR:R=true:=by rw [hR,ok]; generalize t.lb.all zbg=a at *; generalize t.rw.all (zd6 t.ns.length)=b at *; cases a <;> cases b <;> first | rfl | cases ok2
    simp [hR]
 ·have e1:((t.lb.length:Int)=t.rw.length)=False:=eq_false e2
  have hR:R=false:=by rw [hR,decide_eq_false e2]; simp
  subst hR
  simp [-getElem?_pos,zje,zjf,-zdg,g1,g2,g3,g4,e1]
theorem z9j (t:List Nd) (hl:t.length≤1048576):RUN T zlr [.agg [.sl 5 (t.map nd)]]=some ([.agg [.own 5 (t.map nd)]],[]):=by
 have e:=ypx t hl
 refine zag z6q rfl ?_
 simp [-getElem?_pos,zvz,zv0,e]
theorem yp0 (q:Bool) (M:List (List Nd)) (hl:M.length≤1048576) (ht : ∀ t∈M,t.length≤1048576):RUN T zoe [.sl 1 (trs q M)]=some ([.own 1 (trs true M)],[]):=by
 have hr0:zam 24 0=true:=by decide
 have hr1:zam 24 1=true:=by decide
 refine zag z5z rfl ?_
 simp [-getElem?_pos,zu1,zu2,hr0]
 refine za3 (fun n st => ∃ (i o e:Nat),i+n=M.length∧st.V 3 = .ref o none e 0 i∧st.V 7 = .sl 1 (trs q M)∧st.V 8=iv M.length∧st.V 9=iv i∧o<st.nx∧st.S o=some (.row 1 (trs true (M.take i)))) ?_ M.length _ ⟨0,0,0,by omega,by simp,by simp,by simp,by simp,by simp,by simp [trs]⟩
 rintro n st ⟨i,o,ep,hi,v3,v7,v8,v9,hox,hSo⟩
 obtain ⟨x1,x2,x3,x4⟩:=fr hox
 have na : ∀ a b:Nat,st.nx+a+b=st.nx+(a+b):=fun a b=>Nat.add_assoc _ _ _
 by_cases h:i<M.length
 ·obtain ⟨t,hx⟩ : ∃ t,M[i]?=some t:=⟨_,List.getElem?_eq_getElem h⟩
  have hx':=z3p (q:=q) hx
  have hw:=wS h (by omega:M.length≤9223372036854775807)
  have e1:=z9j t (ht t (List.mem_of_getElem? hx))
  have hr24:zam 24 (i+1)=true:=by simp [zam]; omega
  have hsn:trs true (M.take i)++[[.own 5 (t.map nd)]]=trs true (M.take (i+1)):=by rw [yve,List.take_succ,hx]; rfl
  have hml:(M.take i).length=i:=by simp; omega
  simp [-getElem?_pos,z0w,v3,v7,v8,v9,hSo,h,hx',hw,e1,hr1,hr24,hsn,hml,x1,x2,x3,x4,na]
  exact zaq (n-1) (by omega) ⟨i+1,st.nx+3,st.ep,by omega,by simp; omega,by simp [v7],by simp [v8],by simp,by simp,by simp⟩
 ·have e:i=M.length:=by omega
  subst e
  rw [List.take_length] at hSo
  simp [-getElem?_pos,z0w,v3,v8,v9,hSo,h]
def zf9 (c:Cfg) (x:Nd):Nd:=if x.f = -1 then ⟨x.f,x.c,x.l,x.r,(shr x.v c).1⟩ else x
def zgy (c:Cfg) (x:Nd):Bool := !decide (x.f = -1) || (shr x.v c).2
def zf1 (c:Cfg) (t:List Nd):List Nd×Bool:=if t.all (zgy c)=true then (t.map (zf9 c),true) else ([],false)
theorem ygc : ∀ (t:List Nd) (i:Int) (j:Int),j∈lvs t i↔∃ (k:Nat) (x:Nd),j=i+k∧t[k]?=some x∧x.f = -1
 | [],i,j=>by simp [lvs]
 | x::xs,i,j=>by
  have ih:=ygc xs (i+1) j
  have key:(∃ (k:Nat) (y:Nd),j=i+k∧(x::xs)[k]?=some y∧y.f = -1)↔(j=i∧x.f = -1)∨∃ (k:Nat) (y:Nd),j=i+1+k∧xs[k]?=some y∧y.f = -1:=by
   constructor
   ·rintro ⟨k,y,h1,h2,h3⟩
    cases k with
    | zero=>simp at h2; subst h2; exact .inl ⟨by omega,h3⟩
    | succ k=>exact .inr ⟨k,y,by omega,by simpa using h2,h3⟩
   ·rintro (⟨h1,h2⟩ | ⟨k,y,h1,h2,h3⟩)
    ·exact ⟨0,x,by omega,rfl,h2⟩
    ·exact ⟨k+1,y,by omega,by simpa using h2,h3⟩
  rw [key,← ih]
  simp only [lvs]
  split
  ·rename_i hf
   rw [List.mem_cons]
   constructor
   ·rintro (h | h)
    ·exact .inl ⟨h,hf⟩
    ·exact .inr h
   ·rintro (h | h)
    ·exact .inl h.1
    ·exact .inr h
  ·rename_i hf
   constructor
   ·exact .inr
   ·rintro (h | h)
    ·exact absurd h.2 hf
    ·exact h
def ztx (c:Cfg) (t C:List Nd) (p:Nat→Prop):Prop:=C.length=t.length∧∀ (j:Nat) (x:Nd),t[j]?=some x→(p j→C[j]?=some (zf9 c x))∧(¬ p j→C[j]?=some x)
theorem yzz {c:Cfg} {t C:List Nd} {p:Nat→Prop} (h:ztx c t C p) (hp : ∀ (j:Nat) (x:Nd),t[j]?=some x→x.f = -1→p j):C=t.map (zf9 c):=by
 refine List.ext_getElem? fun j => ?_
 rcases Nat.lt_or_ge j t.length with hj | hj
 ·obtain ⟨x,hx⟩ : ∃ x,t[j]?=some x:=⟨_,List.getElem?_eq_getElem hj⟩
  obtain ⟨h1,h2⟩:=h.2 j x hx
  rw [List.getElem?_map,hx,Option.map_some]
  rcases Classical.em (p j) with hpj | hpj
  ·exact h1 hpj
  ·rw [h2 hpj]
   by_cases hf:x.f = -1
   ·exact absurd (hp j x hx hf) hpj
   ·unfold zf9; rw [if_neg hf]
 ·rw [List.getElem?_eq_none (by rw [h.1]; omega),List.getElem?_eq_none (by simpa using hj)]
theorem yvb {c:Cfg} {t C:List Nd} {p:Nat→Prop} {i:Nat} {x:Nd} (h:ztx c t C p) (hx:t[i]?=some x) (hf:x.f = -1):ztx c t (C.set i ⟨x.f,x.c,x.l,x.r,(shr x.v c).1⟩) (fun j=>p j∨j=i):=by
 refine ⟨by rw [List.length_set,h.1],fun j y hy => ?_⟩
 obtain ⟨h1,h2⟩:=h.2 j y hy
 have hi:=(List.getElem?_eq_some_iff.mp hx).1
 by_cases e:j=i
 ·subst e
  rw [hx] at hy; cases hy
  refine ⟨fun _ => ?_,fun hn=>absurd (.inr rfl) hn⟩
  rw [List.getElem?_set_self (by rw [h.1]; exact hi)]
  unfold zf9; rw [if_pos hf]
 ·rw [List.getElem?_set_ne (fun h=>e h.symm)]
  exact ⟨fun hp=>h1 (hp.resolve_right e),fun hn=>h2 fun hp=>hn (.inl hp)⟩
theorem yw6 {c:Cfg} {t C:List Nd} {p:Nat→Prop} {i:Nat} {x:Nd} (h:ztx c t C p) (hx:t[i]?=some x) : ∃ v,C[i]?=some ⟨x.f,x.c,x.l,x.r,v⟩:=by
 obtain ⟨h1,h2⟩:=h.2 i x hx
 rcases Classical.em (p i) with hp | hp
 ·rw [h1 hp]
  unfold zf9
  split
  ·exact ⟨_,rfl⟩
  ·exact ⟨x.v,rfl⟩
 ·exact ⟨x.v,h2 hp⟩
theorem ysm {c:Cfg} {t:List Nd} {i:Nat} {x:Nd} (hx:t[i]?=some x) (hf:x.f = -1) (hs:(shr x.v c).2=false):t.all (zgy c)=false:=by
 cases e:t.all (zgy c) with
 | false=>rfl
 | true =>
  have:=List.all_eq_true.mp e x (List.mem_of_getElem? hx)
  unfold zgy at this
  rw [hs,decide_eq_true hf] at this
  cases this
theorem yva {c:Cfg} {t:List Nd} (h : ∀ (j:Nat) (x:Nd),t[j]?=some x→x.f = -1→(shr x.v c).2=true):t.all (zgy c)=true:=by
 rw [List.all_eq_true]
 intro x hx
 obtain ⟨j,hj⟩:=List.getElem?_of_mem hx
 unfold zgy
 by_cases hf:x.f = -1
 ·rw [h j x hj hf]; simp
 ·rw [decide_eq_false hf]; rfl
set_option maxHeartbeats 2000000 in
theorem yp1 (t:List Nd) (c:Cfg) (hl:t.length≤1048576) (hc:c.sg.length≤1048576):RUN T zoo [.agg [.sl 5 (t.map nd)],zht c]=some ([.agg [.own 5 ((zf1 c t).1.map nd)],bv (zf1 c t).2],[]):=by
 have e1:=z9j t hl
 have e2:=yog t hl
 have hll:=z2x t 0
 have hmem:=ygc t 0
 generalize lvs t 0=L at *
 obtain ⟨R,hR⟩ : ∃ R,R=zf1 c t:=⟨_,rfl⟩
 have hR':R=if t.all (zgy c)=true then (t.map (zf9 c),true) else ([],false):=hR
 rw [← hR]
 clear hR
 simp only [zht]
 refine zag z6e rfl ?_
 simp [-getElem?_pos,zvj,zvk,e1,e2]
 refine za3 (fun n st => ∃ (i:Nat) (C:List Nd),i+n=L.length∧ztx c t C (fun j=>(j:Int)∈L.take i)∧(∀ (k:Nat) (y:Int),k<i→L[k]?=some y→∀ (j:Nat) (x:Nd),y=j→t[j]?=some x→(shr x.v c).2=true)∧st.V 2 = .ptr 0 none 0 0 0∧st.V 3 = .ptr 1 none 0 0 0∧st.V 4 = .ptr 2 none 0 0 0∧st.V 6 = .ptr 4 none 0 0 0∧st.V 14 = .ref 5 none 0 0 L.length∧st.V 15=iv L.length∧st.V 16=iv i∧5<st.nx∧st.S 0=some (.box [.sl 5 (t.map nd)])∧st.S 1=some (.box [iv c.ro,iv c.de,iv c.bi,iv c.la,iv c.rw,iv c.nu,iv c.dn,.sl 1 (zac c.sg)])∧st.S 2=some (.box [.e0])∧st.S 4=some (.box [.ref 3 none 0 0 t.length])∧st.S 5=some (.row 1 (zac L))∧st.S 3=some (.row 5 (C.map nd))) ?_ L.length _ ⟨0,t,by omega,⟨rfl,fun j x hx=>⟨fun h=>by simp at h,fun _=>hx⟩⟩,fun k y h=>by omega,by simp,by simp,by simp,by simp,by simp,by simp,by simp,by simp,by simp,by simp,by simp,by simp,by simp,by simp⟩
 rintro n st ⟨i,C,hi,hC,hok,v2,v3,v4,v6,v14,v15,v16,h5x,hS0,hS1,hS2,hS4,hS5,hS3⟩
 obtain ⟨z1,z2,z3,z4⟩:=fr h5x
 by_cases h:i<L.length
 ·obtain ⟨y,hy⟩ : ∃ y,L[i]?=some y:=⟨_,List.getElem?_eq_getElem h⟩
  obtain ⟨k,x,hyk,hx,hf'⟩:=(hmem y).mp (List.mem_of_getElem? hy)
  have hyk:y=(k:Int):=by omega
  subst hyk
  have hy':=zbp hy
  have hkt:=(List.getElem?_eq_some_iff.mp hx).1
  have hx':=ydr hx
  have hw:=wS h (by omega:L.length≤9223372036854775807)
  have f1:=yoo x.v c (by omega)
  obtain ⟨v,hv⟩:=yw6 hC hx
  have hv':=ydr hv
  have hCl:k<C.length:=by rw [hC.1]; exact hkt
  simp only [zht] at f1
  have hset:=yu1 C k x.f x.c x.l x.r (shr x.v c).1
  have hI:=yvb hC hx hf'
  have htk:L.take (i+1)=L.take i++[(k:Int)]:=by rw [List.take_succ,hy]; rfl
  cases hb:(shr x.v c).2 with
  | false =>
   rw [ysm hx hf' hb,if_neg (by simp)] at hR'
   subst hR'
   rw [hb] at f1
   simp [-getElem?_pos,zvi,v2,v3,v4,v6,v14,v15,v16,hS0,hS1,hS2,hS4,hS5,hS3,h,hy',hkt,hx',f1]
  | true =>
   rw [hb] at f1
   have hok2 : ∀ (k':Nat) (y:Int),k'<i+1→L[k']?=some y→∀ (j:Nat) (x:Nd),y=j→t[j]?=some x→(shr x.v c).2=true:=by
    intro k' y hk' hy2 j x2 e1 e2
    rcases Nat.lt_or_ge k' i with h3 | h3
    ·exact hok k' y h3 hy2 j x2 e1 e2
    ·have e3:k'=i:=by omega
     subst e3
     rw [hy] at hy2; cases hy2
     have e4:j=k:=by omega
     subst e4
     rw [hx] at e2; cases e2
     exact hb
   simp [-getElem?_pos,zvi,v2,v3,v4,v6,v14,v15,v16,hS0,hS1,hS2,hS4,hS5,hS3,h,hy',hkt,hx',hw,f1,hv',hCl,hC.1,hset]
   refine zaq (n-1) (by omega) ⟨i+1,_,by omega,⟨hI.1,fun j y hy2=>⟨fun hj=>(hI.2 j y hy2).1 ?_,fun hj=>(hI.2 j y hy2).2 ?_⟩⟩,hok2,by simp [v2],by simp [v3],by simp [v4],by simp [v6],by simp [v14],by simp [v15],by simp,by simp [h5x],by simp [hS0],by simp [hS1],by simp [hS2],by simp [hS4],by simp [hS5],by simp⟩
   ·rw [htk,List.mem_append,List.mem_singleton] at hj
    exact hj.imp id (fun e=>by omega)
   ·intro hp
    apply hj
    rw [htk,List.mem_append,List.mem_singleton]
    exact hp.imp id (fun e=>by omega)
 ·have hiL:i=L.length:=by omega
  subst hiL
  rw [List.take_length] at hC
  have hin : ∀ (j:Nat) (x:Nd),t[j]?=some x→x.f = -1→(j:Int)∈L:=fun j x hx hf=>(hmem j).mpr ⟨j,x,by omega,hx,hf⟩
  have hall:=yzz hC hin
  rw [yva (fun j x hx hf=>by
   obtain ⟨k,hk⟩:=List.getElem?_of_mem (hin j x hx hf)
   exact hok k j (List.getElem?_eq_some_iff.mp hk).1 hk j x rfl hx),if_pos rfl,← hall] at hR'
  have hCl:=hC.1
  subst hR'
  simp [-getElem?_pos,zvi,v2,v4,v6,v14,v15,v16,hS0,hS2,hS4,hS3,h,hCl]
theorem yvq (c:Cfg) (t:List Nd):(zf1 c t).1.length≤t.length:=by
 unfold zf1
 split
 ·simp
 ·simp
def zfn (t:Ta):Sta×Bool:=if za9 t=true then (⟨List.replicate t.lb.length (zct t.lb).1,[]⟩,true) else (⟨[],[]⟩,false)
theorem yx0 (b:Int) (i:Nat):zac (List.replicate i b)++[[iv b]]=zac (List.replicate (i+1) b):=by
 rw [List.replicate_succ']; simp [zac]
set_option maxHeartbeats 2000000 in
theorem yp2 (q:Bool) (t:Ta) (ht:TaL 1048576 t) (hi : ∀ x∈t.lb,inI x):RUN T zos [taS q t]=some ([stO (zfn t).1,bv (zfn t).2],[]):=by
 have e1:=z1n q t ht
 have e3:=yov t.lb (Nat.le_trans ht.lb (by omega)) hi
 have hlb:=ht.lb
 unfold zfn
 generalize za9 t=b1 at *
 generalize zct t.lb=bs at *
 obtain ⟨bs,bb⟩:=bs
 simp only at e3 ⊢
 have hr1:zam 8 1=true:=by decide
 have zi:zac []=[]:=rfl
 have zt:trs true []=[]:=rfl
 refine zag z6k rfl ?_
 cases b1 with
 | false=>simp [-getElem?_pos,zr4,zr5,e1,zi,zt]
 | true =>
  simp [-getElem?_pos,zr4,zr5,e1,e3]
  refine za3 (fun n st => ∃ (i:Nat) (x:PV),i+n=t.lb.length∧st.V 2 = .ptr 1 none 0 0 0∧st.V 4=iv bs∧st.V 6 = .ptr 2 none 0 0 0∧st.V 20=iv t.lb.length∧st.V 21=iv i∧2<st.nx∧LC st.S st.nx 2 (List.replicate i bs) x∧st.S 1=some (.box [.e0,.e0])∧st.S 2=some (.box [x,.e0])) ?_ t.lb.length _ ⟨0,.e0,by omega,by simp,by simp,by simp,by simp,by simp,by simp,.inl ⟨rfl,rfl⟩,by simp,by simp⟩
  rintro n st ⟨i,x,hin,v2,v4,v6,v20,v21,hnx,hx,hS1,hS2⟩
  have z1:=fr hnx
  have z2:=fr (by omega:1<st.nx)
  have nz0 : ¬ st.nx=0:=by omega
  by_cases h:i<t.lb.length
  ·have hw:=wS h (by omega:t.lb.length≤9223372036854775807)
   have hsn:=yx0 bs i
   rcases hx with ⟨rfl,hm⟩ | ⟨o,e,rfl,ho,hox,hSo⟩
   ·have hi0:i=0:=by cases i with | zero=>rfl | succ n=>simp [List.replicate_succ] at hm
    subst hi0
    have hone:[[iv bs]]=zac (List.replicate 1 bs):=rfl
    simp [-getElem?_pos,zr3,v2,v4,v6,v20,v21,hS1,hS2,z1,z2,h,hw,hr1]
    exact zaq (n-1) (by omega) ⟨1,_,by omega,by simp [v2],by simp [v4],by simp [v6],by simp [v20],by simp,by simp; omega,.inr ⟨st.nx+1,st.ep,rfl,by omega,by simp,by
     have n2 : ¬ st.nx+1=2:=by omega
     simp [n2,zac]⟩,by simp [z1,z2,nz0,hS1],by simp⟩
   ·have hr8:=zd8 (n:=i+1) (by omega)
    have y1:=fr hox
    have y2:=fr ho
    have y3:=fr (by omega:1<o)
    rw [List.length_replicate] at *
    have hil:(zac (List.replicate i bs)).length=i:=by simp [zac]
    generalize zac (List.replicate i bs)=A at *
    simp [-getElem?_pos,zr3,v2,v4,v6,v20,v21,hS1,hS2,hSo,z1,z2,y1,y2,y3,h,hw,hr8,hsn,hil]
    exact zaq (n-1) (by omega) ⟨i+1,.ref (st.nx+1) none st.ep 0 (i+1),by omega,by simp [v2],by simp [v4],by simp [v6],by simp [v20],by simp,by simp; omega,.inr ⟨st.nx+1,st.ep,by simp,by omega,by simp,by
     have n2 : ¬ st.nx+1=2:=by omega
     simp [n2]⟩,by simp [z1,z2,nz0,y1,y2,y3,hS1],by simp⟩
  ·have e:i=t.lb.length:=by omega
   subst e
   rcases hx with ⟨rfl,hm⟩ | ⟨o,e,rfl,ho,hox,hSo⟩
   ·rw [hm]
    simp [-getElem?_pos,zr3,v2,v4,v6,v20,v21,hS1,hS2,h,zi,zt]
   ·have y2:=fr ho
    have y3:=fr (by omega:1<o)
    rw [List.length_replicate] at *
    simp [-getElem?_pos,zr3,v2,v4,v6,v20,v21,hS1,hS2,hSo,y2,y3,h,zt]
def PDc (v:PV):Prop := ∃ n,v=iv n∧zbg n=true
theorem zqo {n:Int} (h1 : -2147483647≤n) (h2:n≤2147483647):zbg n=true:=by
 unfold zbg; exact za2.mpr ⟨h1,h2⟩
theorem z9k (B:List Int) (p:Nat) (s:Int) (hp:p≤B.length) (hB:B.length≤9223372036854775807) : ∃ r,RUN T zlv [.bx [.sl 1 (zbl B),iv p,iv s]]=some r∧zgp B PDc r:=by
 refine zgz z6w rfl ?_
 have hr5:zam 8 5=true:=by decide
 obtain ⟨r1,h1,v1,p1,s1,⟨b1,rfl⟩,hp1,rfl⟩:=zga B p s hp hB 20 (by omega)
 cases b1 with
 | true =>
  obtain ⟨r2,h2,v2,p2,s2,⟨a2,rfl,hm⟩,hp2,rfl⟩:=zij B p1 s1 hp1 hB [2147483647,-2147483647,1,-1,1000000000] (by simp)
  simp only [zac,List.map] at h2
  simp [-getElem?_pos,zp7,zp8,hr5,h1,h2]
  refine ⟨_,p2,s2,⟨a2,rfl,?_⟩,hp2,rfl⟩
  simp at hm
  exact zqo (by omega) (by omega)
 | false =>
  obtain ⟨r2,h2,v2,p2,s2,⟨b2,rfl⟩,hp2,rfl⟩:=zga B p1 s1 hp1 hB 2 (by omega)
  cases b2 with
  | true =>
   obtain ⟨r3,h3,v3,p3,s3,⟨a3,rfl,a30,a31⟩,hp3,rfl⟩:=zbv B p2 s2 hp2 hB 9 (by omega)
   have a32:=a31 (by omega)
   have w1:=w64 (x:=a3-4) (by omega) (by omega)
   have w2:=w64 (x:=1000*(a3-4)) (by omega) (by omega)
   simp [-getElem?_pos,zp7,zp8,h1,h2,h3,w1,w2]
   exact ⟨_,p3,s3,⟨_,rfl,zqo (by omega) (by omega)⟩,hp3,rfl⟩
  | false =>
   obtain ⟨r3,h3,v3,p3,s3,⟨a3,rfl,a30,a31⟩,hp3,rfl⟩:=zbv B p2 s2 hp2 hB 41 (by omega)
   have a32:=a31 (by omega)
   have w1:=w64 (x:=a3-20) (by omega) (by omega)
   have w2:=w64 (x:=250*(a3-20)) (by omega) (by omega)
   simp [-getElem?_pos,zp7,zp8,h1,h2,h3,w1,w2]
   exact ⟨_,p3,s3,⟨_,rfl,zqo (by omega) (by omega)⟩,hp3,rfl⟩
theorem ybo (l:List Int):(zfq l).length=l.length:=by
 unfold zfq
 rw [yuq]; simp
theorem yfz (x:Int) (l:List Int) : ∀ k:Nat,(∀ j,pos x l k≤j→j<k→x<l.getD j 0)∧(pos x l k=0∨l.getD (pos x l k-1) 0≤x)
 | 0=>by
  refine ⟨fun j _ h=>by omega,.inl ?_⟩
  simp only [pos]
 | k+1=>by
  obtain ⟨h1,h2⟩:=yfz x l k
  rw [yy5]
  by_cases hc:x<l.getD k 0
  ·rw [if_pos hc]
   refine ⟨fun j hj hk => ?_,h2⟩
   by_cases hjk:j=k
   ·subst hjk; exact hc
   ·exact h1 j hj (by omega)
  ·rw [if_neg hc]
   refine ⟨fun j hj hk=>by omega,.inr ?_⟩
   simp only [Nat.add_sub_cancel]
   omega
def srt (l:List Int):Prop:=l.Pairwise fun a b=>a≤b
theorem zrd {l:List Int} (h:srt l) {i j:Nat} {a b:Int} (hij:i≤j) (ha:l[i]?=some a) (hb:l[j]?=some b):a≤b:=by
 by_cases e:i=j
 ·subst e; rw [ha] at hb; cases hb; exact Int.le_refl _
 ·obtain ⟨hi,rfl⟩:=List.getElem?_eq_some_iff.mp ha
  obtain ⟨hj,rfl⟩:=List.getElem?_eq_some_iff.mp hb
  exact List.pairwise_iff_getElem.mp h i j hi hj (by omega)
theorem yro {l:List Int} (h:srt l) (x:Int):srt (ins l x):=by
 obtain ⟨P,hP⟩:=zi4.ex x l l.length
 rw [yfq hP]
 have hp:pos x l l.length=P:=by unfold zi4 at hP; exact hP
 obtain ⟨h1,h2⟩:=yfz x l l.length
 rw [hp] at h1 h2
 have hle:=z2u x l l.length
 rw [hp] at hle
 unfold srt
 rw [List.pairwise_append]
 refine ⟨h.sublist (List.take_sublist _ _),?_,?_⟩
 ·rw [List.pairwise_cons]
  refine ⟨fun b hb => ?_,h.sublist (List.drop_sublist _ _)⟩
  obtain ⟨j,hj⟩:=List.getElem?_of_mem hb
  rw [List.getElem?_drop] at hj
  have hlt:=(List.getElem?_eq_some_iff.mp hj).1
  have:=h1 (P+j) (by omega) hlt
  rw [List.getD,hj,Option.getD_some] at this
  omega
 ·intro a ha b hb
  obtain ⟨i,hi⟩:=List.getElem?_of_mem ha
  have hi2:i<P:=by
   have:=(List.getElem?_eq_some_iff.mp hi).1
   simp at this; omega
  rw [List.getElem?_take_of_lt hi2] at hi
  have hax:a≤x:=by
   rcases h2 with h2 | h2
   ·omega
   ·obtain ⟨y,hy⟩ : ∃ y,l[P-1]?=some y:=⟨_,List.getElem?_eq_getElem (by omega)⟩
    rw [List.getD,hy,Option.getD_some] at h2
    have:=zrd h (by omega:i≤P-1) hi hy
    omega
  rcases List.mem_cons.mp hb with rfl | hb
  ·exact hax
  ·obtain ⟨j,hj⟩:=List.getElem?_of_mem hb
   rw [List.getElem?_drop] at hj
   exact zrd h (by omega:i≤P+j) hi hj
theorem yzs (l:List Int) (x:Int):(ins l x).Perm (x::l):=by
 obtain ⟨P,hP⟩:=zi4.ex x l l.length
 rw [yfq hP]
 have:=List.perm_middle (a:=x) (l₁:=l.take P) (l₂:=l.drop P)
 rwa [List.take_append_drop] at this
theorem zzx : ∀ (l a:List Int),srt a→srt (l.foldl ins a)∧(l.foldl ins a).Perm (a++l)
 | [],a,h=>⟨h,by simp⟩
 | x::l,a,h=>by
  obtain ⟨h1,h2⟩:=zzx l (ins a x) (yro h x)
  refine ⟨h1,h2.trans ?_⟩
  refine ((yzs a x).append_right l).trans ?_
  exact List.perm_middle.symm
theorem yv3 (l:List Int):zh5 l=zfq l:=by
 obtain ⟨h1,h2⟩:=zzx l [] List.Pairwise.nil
 have h3:srt (zh5 l):=by
  have:=List.pairwise_mergeSort (le:=fun x y:Int=>decide (x≤y)) (fun a b c h1 h2=>by simp at *; omega) (fun a b=>by simp; omega) l
  unfold srt zh5
  exact this.imp fun h=>by simpa using h
 refine List.Perm.eq_of_pairwise (le:=fun a b=>a≤b) (fun a b _ _ h1 h2=>by omega) h3 h1 ?_
 exact (List.mergeSort_perm _ _).trans (by have h4:=h2.symm; rw [List.nil_append] at h4; exact h4)
theorem yp3 (l:List Int) (hl:l.length≤1048576):RUN T zpi [.own 1 (zac l)]=some ([],[.own 1 (zac (zfq l))]):=by
 rw [← yv3]
 exact ys3 z7x (by omega)
theorem yp4 (l:List Int) (hl:l.length≤1048576):RUN T zpd [.own 1 (zac l)]=some ([.own 1 (zac (Lib.compact l))],[.undef]):=yuv z7n (by omega)
theorem yp5 (l:List Int) (hl:l.length≤1048576):RUN T zpc [.sl 1 (zac l)]=some ([.own 1 (zac (zfq l))],[]):=by
 have e1:=ypw l hl
 have e2:=yp3 l hl
 have hl2:=ybo l
 generalize zfq l=a at *
 refine zag z7m rfl ?_
 simp [-getElem?_pos,zw6,zw7,e1,e2,hl2]
theorem ys9 {a:List Int} {i:Nat} {x:Int} (h:a[i]?=some x):Lib.compactUpTo a.toArray (i+1)=if (i=0∨¬ a[i-1]?=some x) then Lib.compactUpTo a.toArray i++[x] else Lib.compactUpTo a.toArray i:=by
 have hx:a.toArray[i]! = x:=by simp [h]
 have hlt:=(List.getElem?_eq_some_iff.mp h).1
 unfold Lib.compactUpTo
 rw [List.range_succ,List.filter_append,List.map_append]
 have hk:Lib.keeps a.toArray i=decide (i=0∨¬ a[i-1]?=some x):=by
  unfold Lib.keeps
  by_cases h0:i=0
  ·simp [h0]
  ·obtain ⟨y,hy⟩ : ∃ y,a[i-1]?=some y:=⟨_,List.getElem?_eq_getElem (by omega)⟩
   have hy':a.toArray[i-1]! = y:=by simp [hy]
   rw [hx,hy',hy]
   simp only [h0,false_or,Option.some.injEq]
   congr 1
   simp only [ne_eq,eq_comm]
 simp only [List.filter_cons,List.filter_nil,hk]
 by_cases hc:i=0∨¬ a[i-1]?=some x
 ·simp only [hc,decide_true,if_true,List.map_cons,List.map_nil,hx]
 ·simp only [hc,decide_false,if_false,Bool.false_eq_true,List.map_nil,List.append_nil]
def zf6 (c:List Int) (v:Int):Nat:=(c.filter fun x=>decide (x<v)).length
def zcm (t:Ta) (f:Nat):List Int:=t.rw.map fun r=>r.getD f 0
def zhr (a:List Int) (b k:Nat):Nat:=a.length*k / b
def zla (a:List Int) (b k:Nat):List Int:=if 1≤zhr a b k∧a.getD (zhr a b k-1) 0≠a.getD (a.length-1) 0 then [a.getD (zhr a b k-1) 0] else []
def ze5 (a:List Int) (b:Nat):Nat→List Int
 | 0=>[]
 | k+1=>ze5 a b k++zla a b (k+1)
def zc5 (l:List Int) (b:Int):List Int:=if (zal b 2 8 && zal l.length 1 40)=true then Lib.compact (ze5 (zfq l) b.toNat (b.toNat-1)) else []
def zk6 (t:Ta) (b:Int) (f:Nat):List Int:=(zcm t f).map fun v=>(zf6 (zc5 (zcm t f) b) v:Int)
def zbx (t:Ta) (b:Int):List (List Int):=if (za9 t && zal b 2 8)=true then (List.range t.ns.length).map fun f=>zc5 (zcm t f) b else []
def zbt (t:Ta) (b:Int):List (List Int):=if (za9 t && zal b 2 8)=true then (List.range t.ns.length).map (zk6 t b) else []
theorem yup (l:List Int):(Lib.compact l).length≤l.length:=by
 unfold Lib.compact Lib.compactUpTo
 rw [List.length_map]
 exact Nat.le_trans (List.length_filter_le _ _) (by simp)
theorem yc1 {a:List Int} (ha:srt a) : ∀ i:Nat,i≤a.length→(Lib.compactUpTo a.toArray i).Pairwise (fun x y=>x<y)∧∀ y,y∈Lib.compactUpTo a.toArray i↔∃ j,j<i∧a[j]?=some y
 | 0,_=>by
  refine ⟨List.Pairwise.nil,fun y => ?_⟩
  constructor
  ·intro h; exact absurd h (by simp [Lib.compactUpTo])
  ·rintro ⟨j,h,_⟩; omega
 | i+1,hi=>by
  obtain ⟨h1,h2⟩:=yc1 ha i (by omega)
  obtain ⟨x,hx⟩ : ∃ x,a[i]?=some x:=⟨_,List.getElem?_eq_getElem (by omega)⟩
  rw [ys9 hx]
  by_cases hc:i=0∨¬ a[i-1]?=some x
  ·rw [if_pos hc]
   refine ⟨?_,fun y => ?_⟩
   ·rw [List.pairwise_append]
    refine ⟨h1,by simp,fun y hy z hz => ?_⟩
    simp only [List.mem_singleton] at hz
    subst hz
    obtain ⟨j,hj,hjy⟩:=(h2 y).mp hy
    rcases hc with hc | hc
    ·omega
    ·obtain ⟨w,hw⟩ : ∃ w,a[i-1]?=some w:=⟨_,List.getElem?_eq_getElem (by omega)⟩
     have e1:=zrd ha (by omega:j≤i-1) hjy hw
     have e2:=zrd ha (by omega:i-1≤i) hw hx
     have e3:w≠z:=fun e=>hc (by rw [hw,e])
     omega
   ·rw [List.mem_append,List.mem_singleton,h2 y]
    constructor
    ·rintro (⟨j,hj,e⟩ | rfl)
     ·exact ⟨j,by omega,e⟩
     ·exact ⟨i,by omega,hx⟩
    ·rintro ⟨j,hj,e⟩
     by_cases hji:j<i
     ·exact .inl ⟨j,hji,e⟩
     ·obtain rfl:j=i:=by omega
      rw [hx] at e; cases e
      exact .inr rfl
  ·rw [if_neg hc]
   refine ⟨h1,fun y => ?_⟩
   rw [h2 y]
   constructor
   ·rintro ⟨j,hj,e⟩; exact ⟨j,by omega,e⟩
   ·rintro ⟨j,hj,e⟩
    by_cases hji:j<i
    ·exact ⟨j,hji,e⟩
    ·obtain rfl:j=i:=by omega
     rw [hx] at e; cases e
     have hc1 : ¬ j=0:=fun h=>hc (.inl h)
     have hc2:a[j-1]?=some x:=Classical.byContradiction fun h=>hc (.inr h)
     exact ⟨j-1,by omega,hc2⟩
theorem zhl {t:Ta} (h:za9 t=true):1≤t.ns.length∧t.ns.length≤4∧1≤t.rw.length∧t.rw.length≤40∧t.lb.length=t.rw.length∧∀ r∈t.rw,r.length=t.ns.length:=by
 unfold za9 at h
 simp only [Bool.and_eq_true,decide_eq_true_eq,List.all_eq_true] at h
 obtain ⟨⟨⟨⟨⟨h1,_⟩,h3⟩,h4⟩,_⟩,h6⟩:=h
 have h1:=za2.mp h1
 have h3:=za2.mp h3
 refine ⟨by omega,by omega,by omega,by omega,by omega,fun r hr => ?_⟩
 have:=h6 r hr
 unfold zd6 at this
 simp only [Bool.and_eq_true,decide_eq_true_eq] at this
 omega
theorem ygs (l:List Int):srt (zfq l):=(zzx l [] List.Pairwise.nil).1
theorem yso {l:List Int} {x:Int}:x∈zfq l↔x∈l:=by
 have h2:=(zzx l [] List.Pairwise.nil).2
 rw [List.nil_append] at h2
 exact h2.mem_iff
theorem yut (a:List Int) (b k:Nat):(zla a b k).length≤1:=by unfold zla; split <;> simp
theorem ygo (a:List Int) (b:Nat) : ∀ k,(ze5 a b k).length≤k
 | 0=>by simp [ze5]
 | k+1=>by
  have:=ygo a b k
  have:=yut a b (k+1)
  simp only [ze5,List.length_append]; omega
theorem ytj {a:List Int} {b k:Nat} (hk:k≤b):zhr a b k≤a.length:=by
 unfold zhr
 exact Nat.div_le_of_le_mul (by rw [Nat.mul_comm b]; exact Nat.mul_le_mul_left _ hk)
theorem ycu {a:List Int} {b k:Nat}:zhr a b k≤zhr a b (k+1):=Nat.div_le_div_right (Nat.mul_le_mul_left _ (Nat.le_succ k))
theorem ybx {a:List Int} {b k:Nat} (hk:k≤b) {x:Int} (h:x∈zla a b k) : ∃ j,j+1=zhr a b k∧a[j]?=some x:=by
 unfold zla at h
 split at h
 ·rename_i hc
  simp only [List.mem_singleton] at h
  have:=ytj (a:=a) hk
  refine ⟨zhr a b k-1,by omega,?_⟩
  rw [h,List.getD_eq_getElem?_getD,List.getElem?_eq_getElem (by omega)]
  rfl
 ·simp at h
theorem z3a {a:List Int} {b:Nat} : ∀ k,k≤b→∀ x∈ze5 a b k,∃ j,j<zhr a b k∧a[j]?=some x
 | 0,_,x,h=>by simp [ze5] at h
 | k+1,hk,x,h=>by
  rw [ze5] at h
  rcases List.mem_append.mp h with h | h
  ·obtain ⟨j,h1,h2⟩:=z3a k (by omega) x h
   exact ⟨j,Nat.lt_of_lt_of_le h1 ycu,h2⟩
  ·obtain ⟨j,h1,h2⟩:=ybx hk h
   exact ⟨j,by omega,h2⟩
theorem z9y {a:List Int} {b:Nat} (ha:srt a) : ∀ k,k≤b→srt (ze5 a b k)
 | 0,_=>by unfold ze5; exact List.Pairwise.nil
 | k+1,hk=>by
  rw [ze5]
  unfold srt
  rw [List.pairwise_append]
  refine ⟨z9y ha k (by omega),?_,fun x hx y hy => ?_⟩
  ·unfold zla; split <;> simp
  ·obtain ⟨i,h1,h2⟩:=z3a k (by omega) x hx
   obtain ⟨j,h3,h4⟩:=ybx hk hy
   have:=ycu (a:=a) (b:=b) (k:=k)
   exact zrd ha (by omega) h2 h4
theorem z1v (l:List Int) (b:Int):(zc5 l b).Pairwise (fun x y=>x<y)∧(∀ x∈zc5 l b,x∈l)∧(zc5 l b).length≤7:=by
 unfold zc5
 split
 ·rename_i hc
  simp only [Bool.and_eq_true] at hc
  have hb:=za2.mp hc.1
  have hs:=z9y (ygs l) (b:=b.toNat) (b.toNat-1) (by omega)
  obtain ⟨h1,h2⟩:=yc1 hs _ (Nat.le_refl _)
  refine ⟨h1,fun x hx => ?_,?_⟩
  ·obtain ⟨j,_,hj⟩:=(h2 x).mp hx
   obtain ⟨i,_,hi⟩:=z3a (a:=zfq l) (b:=b.toNat) (b.toNat-1) (by omega) x (List.mem_of_getElem? hj)
   exact yso.mp (List.mem_of_getElem? hi)
  ·have:=yup (ze5 (zfq l) b.toNat (b.toNat-1))
   have:=ygo (zfq l) b.toNat (b.toNat-1)
   omega
 ·exact ⟨List.Pairwise.nil,by simp,by simp⟩
theorem yd6 : ∀ {l:List Int},l.Pairwise (fun x y=>x<y)→adj (fun a b=>decide (b≤a)) l=false
 | [],_=>rfl
 | [x],_=>rfl
 | a::b::r,h=>by
  obtain ⟨h1,h2⟩:=List.pairwise_cons.mp h
  have:=h1 b (by simp)
  rw [adj,yd6 h2]
  simp; omega
theorem yts {t:Ta} {f:Nat} (h:za9 t=true) (hf:f<t.ns.length) : ∀ x∈zcm t f,zbg x=true:=by
 intro x hx
 obtain ⟨r,hr,rfl⟩:=List.mem_map.mp hx
 unfold za9 at h
 simp only [Bool.and_eq_true,List.all_eq_true] at h
 have h6:=h.2 r hr
 unfold zd6 at h6
 simp only [Bool.and_eq_true,decide_eq_true_eq,List.all_eq_true] at h6
 refine h6.2 _ ?_
 rw [List.getD_eq_getElem?_getD,List.getElem?_eq_getElem (by omega)]
 exact List.getElem_mem _
theorem ytg {t:Ta} {f:Nat} (h:za9 t=true) (hf:f<t.ns.length) (b:Int):zjw (zc5 (zcm t f) b)=true:=by
 obtain ⟨h1,h2,h3⟩:=z1v (zcm t f) b
 unfold zjw
 rw [yd6 h1,List.all_eq_true.mpr fun x hx=>yts h hf x (h2 x hx),decide_eq_true (by omega)]
 rfl
theorem yf4 {t:Ta} {b:Int} (h:za9 t=true) (hb:zal b 2 8=true) {f:Nat} (hf:f<t.ns.length):(zbx t b)[f]?=some (zc5 (zcm t f) b)∧(zbt t b)[f]?=some (zk6 t b f):=by
 have hc:(za9 t && zal b 2 8)=true:=by rw [h,hb]; rfl
 unfold zbx zbt
 rw [if_pos hc,if_pos hc,List.getElem?_map,List.getElem?_map,List.getElem?_range hf]
 exact ⟨rfl,rfl⟩
theorem ybu {t:Ta} {b:Int} (h:za9 t=true) (hb:zal b 2 8=true):(zbx t b).length=t.ns.length∧(zbt t b).length=t.ns.length:=by
 have hc:(za9 t && zal b 2 8)=true:=by rw [h,hb]; rfl
 unfold zbx zbt
 rw [if_pos hc,if_pos hc]
 simp
theorem ybl {t:Ta} {b:Int} (h:za9 t=true) (hb:zal b 2 8=true):zd9 (zbt t b)=t.rw.length:=by
 have h1:=(yf4 h hb (f:=0) (by have:=(zhl h).1; omega)).2
 cases e:zbt t b with
 | nil=>rw [e] at h1; cases h1
 | cons x l =>
  rw [e] at h1
  simp only [List.getElem?_cons_zero,Option.some.injEq] at h1
  rw [h1]
  simp [zd9,zk6,zcm]
theorem yr6 {t:Ta} {b:Int} (h:za9 t=true) (hb:zal b 2 8=true):zei (zbx t b) (zbt t b)=true:=by
 obtain ⟨t1,t2,t3,t4,t5,t6⟩:=zhl h
 obtain ⟨l1,l2⟩:=ybu h hb
 have hr:=ybl h hb
 unfold zei
 rw [l1,l2,hr,za2.mpr (by omega),za2.mpr (by omega),decide_eq_true rfl,zrk fun f hf => ?_]
 ·rfl
 ·obtain ⟨g1,g2⟩:=yf4 h hb hf
  unfold zis
  rw [g1,g2,hr]
  simp only
  rw [ytg h hf,decide_eq_true (by simp [zk6,zcm]),List.all_eq_true.mpr fun x hx => ?_]
  ·rfl
  ·obtain ⟨v,_,rfl⟩:=List.mem_map.mp hx
   have:zf6 (zc5 (zcm t f) b) v≤(zc5 (zcm t f) b).length:=List.length_filter_le _ _
   exact za2.mpr (by omega)
theorem yy1 {t:Ta} {b:Int}:(∀ l∈zbx t b,l.length≤7)∧∀ l∈zbt t b,l.length=t.rw.length:=by
 unfold zbx zbt
 split
 ·refine ⟨fun l hl => ?_,fun l hl => ?_⟩
  ·obtain ⟨f,_,rfl⟩:=List.mem_map.mp hl
   exact (z1v _ _).2.2
  ·obtain ⟨f,_,rfl⟩:=List.mem_map.mp hl
   simp [zk6,zcm]
 ·exact ⟨by simp,by simp⟩
theorem yw7 (c:List Int) (v x:Int):zf6 (c++[x]) v=zf6 c v+if x<v then 1 else 0:=by
 unfold zf6
 rw [List.filter_append,List.length_append]
 by_cases h:x<v <;> simp [h]
theorem z3w {α:Type} {l:List α} {i:Nat} {x:α} (h:l[i]?=some x):l.take (i+1)=l.take i++[x]:=by
 rw [List.take_add_one,h]; rfl
def LG (S:Nat→Option Ob) (nx:Nat) (C D:List (List Int)) (x y:PV):Prop:=(x = .e0∧y = .e0∧C=[]∧D=[])∨∃ o e o' e',x = .ref o none e 0 C.length∧y = .ref o' none e' 0 D.length∧2<o∧o<nx∧2<o'∧o'<nx∧o≠o'∧S o=some (.row 1 (rws true C))∧S o'=some (.row 1 (rws true D))
theorem LG.mono {S S':Nat→Option Ob} {nx nx':Nat} {C D:List (List Int)} {x y:PV} (h:LG S nx C D x y) (hn:nx≤nx') (hS : ∀ k,2<k→k<nx→S' k=S k):LG S' nx' C D x y:=by
 rcases h with h | ⟨o,e,o',e',h1,h2,h3,h4,h5,h6,h7,h8,h9⟩
 ·exact .inl h
 ·exact .inr ⟨o,e,o',e',h1,h2,h3,by omega,h5,by omega,h7,by rw [hS o h3 h4]; exact h8,by rw [hS o' h5 h6]; exact h9⟩
def ztt (x:Int):Prop := -1500≤x∧x≤1500
theorem yw1 (B:List Int) (hB:B.length≤9223372036854775807) (far:Bool) (n:Nat) (hn:n≤3) {st:St} {p o e:Nat} {s:Int} {Q:Ex→St→Prop} (hp:p≤B.length) (v0:st.V 0 = .ptr 0 none 0 0 0) (v3:st.V 3=iv n) (v6:st.V 6=bv far) (v8:st.V 8 = .ref o none e 0 0) (v9:st.V 9=iv (0:Nat)) (ho:0<o) (hox:o<st.nx) (hS0:st.S 0=some (.box [.sl 1 (zbl B),iv p,iv s])) (hSo:st.S o=some (.row 1 []))
  (hQ : ∀ (s':St) (p' o' e':Nat) (sd:Int) (r:List Int),r.length=n→(∀ x∈r,zbg x=true)→(far=false→∀ x∈r,ztt x)→p'≤B.length→(∀ k,k≠8→k≠9→k≠10→s'.V k=st.V k)→s'.V 8 = .ref o' none e' 0 n→o≤o'→o'<s'.nx→st.nx≤s'.nx→s'.ep=st.ep→s'.S o'=some (.row 1 (zac r))→s'.S 0=some (.box [.sl 1 (zbl B),iv p',iv sd])→(∀ k,k≠0→k<o→s'.S k=st.S k)→Q (.exit 2) s') :
  W (zad T) (RUN T) (.loop zr1) st Q:=by
 refine za3 (fun m s' => ∃ (i p' o' e':Nat) (sd:Int) (r:List Int),i+m=n∧r.length=i∧(∀ x∈r,zbg x=true)∧(far=false→∀ x∈r,ztt x)∧p'≤B.length∧(∀ k,k≠8→k≠9→k≠10→s'.V k=st.V k)∧s'.V 8 = .ref o' none e' 0 r.length∧s'.V 9=iv i∧o≤o'∧o'<s'.nx∧st.nx≤s'.nx∧s'.ep=st.ep∧s'.S o'=some (.row 1 (zac r))∧s'.S 0=some (.box [.sl 1 (zbl B),iv p',iv sd])∧(∀ k,k≠0→k<o→s'.S k=st.S k)) ?_ n _ ⟨0,p,o,e,s,[],by omega,rfl,by simp,by simp,hp,fun _ _ _ _=>rfl,by simpa using v8,by simpa using v9,by omega,hox,Nat.le_refl _,rfl,by simpa [zac] using hSo,hS0,fun _ _ _=>rfl⟩
 rintro m s' ⟨i,p',o',e',sd,r,hi,hr,hrd,hrs,hp',hV,v8',v9',hoo,hox',hnx,hep,hSo',hS0',hfr⟩
 have v0':s'.V 0 = .ptr 0 none 0 0 0:=by rw [hV 0 (by decide) (by decide) (by decide)]; exact v0
 have v3':s'.V 3=iv n:=by rw [hV 3 (by decide) (by decide) (by decide)]; exact v3
 have v6':s'.V 6=bv far:=by rw [hV 6 (by decide) (by decide) (by decide)]; exact v6
 obtain ⟨x1,x2,x3,x4⟩:=fr hox'
 obtain ⟨g1,g2,g3,g4⟩:=fr (show 0<o' by omega)
 obtain ⟨z1,z2,z3,z4⟩:=fr (show 0<s'.nx by omega)
 by_cases h:i<n
 ·have hw:=wS h (by omega:n≤9223372036854775807)
  have hr1:zam 8 1=true:=by decide
  have hr8:=zd8 (n:=r.length+1) (by omega)
  obtain ⟨r1,h1,w1,p1,s1,⟨a1,rfl,had⟩,hp1,rfl⟩:=z9k B p' sd hp' hB
  cases far with
  | true =>
   have hsn:=zdd r a1
   simp [-getElem?_pos,zr1,v0',v3',v6',v8',v9',hSo',hS0',h,h1,hw,hr1,hr8,hsn,g1,g2,g3,g4,x1,x2,x3,x4,z1,z2,z3,z4]
   refine zaq (m-1) (by omega) ⟨i+1,p1,s'.nx+1,s'.ep,s1,r++[a1],by omega,by simp [hr],?_,fun h=>(by cases h),hp1,fun k k1 k2 k3 => ?_,by simp,by simp,by omega,by simp,by simp; omega,by simp [hep],by simp,by simp [g1,g2,g3,g4,x1,x2,x3,x4,z1,z2,z3,z4],fun k k1 k2 => ?_⟩
   ·intro x hx
    rcases List.mem_append.mp hx with hx | hx
    ·exact hrd x hx
    ·simp at hx; subst hx; exact had
   ·simp [k1,k2,k3]; exact hV k k1 k2 k3
   ·have e1:(k=s'.nx)=False:=eq_false (by omega)
    have e2:(k=s'.nx+1)=False:=eq_false (by omega)
    have e3:(k=o')=False:=eq_false (by omega)
    have e4:(k=0)=False:=eq_false k1
    simp [e1,e2,e3,e4]
    exact hfr k k1 k2
  | false =>
   obtain ⟨r2,h2,w2,p2,s2,⟨a2,rfl,a20,a21⟩,hp2,rfl⟩:=zbv B p1 s1 hp1 hB 7 (by omega)
   have a22:=a21 (by omega)
   have u1:=w64 (x:=a2-3) (by omega) (by omega)
   have u2:=w64 (x:=500*(a2-3)) (by omega) (by omega)
   have hsn:=zdd r (500*(a2-3))
   simp [-getElem?_pos,zr1,v0',v3',v6',v8',v9',hSo',hS0',h,h1,h2,hw,u1,u2,hr1,hr8,hsn,g1,g2,g3,g4,x1,x2,x3,x4,z1,z2,z3,z4]
   refine zaq (m-1) (by omega) ⟨i+1,p2,s'.nx+1,s'.ep,s2,r++[500*(a2-3)],by omega,by simp [hr],?_,?_,hp2,fun k k1 k2 k3 => ?_,by simp,by simp,by omega,by simp,by simp; omega,by simp [hep],by simp,by simp [g1,g2,g3,g4,x1,x2,x3,x4,z1,z2,z3,z4],fun k k1 k2 => ?_⟩
   ·intro x hx
    rcases List.mem_append.mp hx with hx | hx
    ·exact hrd x hx
    ·simp at hx; subst hx; exact zqo (by omega) (by omega)
   ·intro _ x hx
    rcases List.mem_append.mp hx with hx | hx
    ·exact hrs rfl x hx
    ·simp at hx; subst hx; unfold ztt; omega
   ·simp [k1,k2,k3]; exact hV k k1 k2 k3
   ·have e1:(k=s'.nx)=False:=eq_false (by omega)
    have e2:(k=s'.nx+1)=False:=eq_false (by omega)
    have e3:(k=o')=False:=eq_false (by omega)
    have e4:(k=0)=False:=eq_false k1
    simp [e1,e2,e3,e4]
    exact hfr k k1 k2
 ·have hin:i=n:=by omega
  subst hin
  simp [-getElem?_pos,zr1,v3',v9',h]
  exact hQ _ p' o' e' sd r hr hrd hrs hp' (fun k k1 k2 k3=>by simp; exact hV k k1 k2 k3) (by simp [v8',hr]) hoo (by simp [hox']) (by simp [hnx]) (by simp [hep]) (by simp [hSo']) (by simp [hS0']) (fun k k1 k2=>by simp; exact hfr k k1 k2)
def PTa (v:PV):Prop := ∃ t:Ta,v=taO t∧TaL 64 t∧za9 t=true
def nm4:List ByteArray:=[bs [97],bs [98],bs [99,50],bs [100]]
theorem yqh {n:Nat} (h1:1≤n) (h3:n≤3):zfr (nm4.take n++[bs [121]])=true:=by
 have h:n=1∨n=2∨n=3:=by omega
 rcases h with rfl | rfl | rfl <;> decide +kernel
theorem yz3 {n m:Nat} {L:List (List Int)} {Y:List Int} (h1:1≤n) (h3:n≤3) (m1:1≤m) (m2:m≤40) (hL:L.length=m) (hY:Y.length=m) (hr : ∀ r∈L,r.length=n∧∀ x∈r,zbg x=true) (hy : ∀ y∈Y,zbg y=true):PTa (taO ⟨nm4.take n,bs [121],L,Y⟩):=by
 have hnl:(nm4.take n).length=n:=by simp [nm4]; omega
 have hsz:(bs [121]).size=1:=rfl
 refine ⟨_,rfl,⟨by simp only [hnl]; omega,fun x hx => ?_,by simp only [hsz]; omega,by simp only [hL]; omega,fun r hr'=>by have:=(hr r hr').1; omega,by simp only [hY]; omega⟩,?_⟩
 ·have hm:=List.mem_of_mem_take hx
  simp only [nm4,List.mem_cons,List.not_mem_nil,or_false] at hm
  rcases hm with rfl | rfl | rfl | rfl <;> decide
 ·unfold za9
  simp only [hnl,hL,hY]
  rw [za2.mpr (by omega),yqh h1 h3,za2.mpr (by omega)]
  have e1:Y.all zbg=true:=by rw [List.all_eq_true]; exact hy
  have e2:L.all (zd6 n)=true:=by
   rw [List.all_eq_true]
   intro r hr'
   unfold zd6
   rw [decide_eq_true (by have:=(hr r hr').1; omega:(r.length:Int)=n),List.all_eq_true.mpr (hr r hr').2]; rfl
  rw [e1,e2]; simp
set_option maxHeartbeats 4000000 in
set_option maxRecDepth 8000 in
theorem z9l (B:List Int) (p:Nat) (s:Int) (hp:p≤B.length) (hB:B.length≤9223372036854775807) : ∃ r,RUN T zln [.bx [.sl 1 (zbl B),iv p,iv s]]=some r∧zgp B PTa r:=by
 have hr0:zam 16 0=true:=by decide
 have hr1:zam 16 4=true:=by decide
 obtain ⟨r1,h1,v1,p1,s1,⟨a1,rfl,a10,a11⟩,hp1,rfl⟩:=zbv B p s hp hB 3 (by omega)
 have a12:=a11 (by omega)
 obtain ⟨n,hnf⟩ : ∃ n:Nat,1+a1=n:=⟨(1+a1).toNat,by omega⟩
 have w1:=w64 (x:=(n:Int)) (by omega) (by omega)
 have hr2:zam 16 n=true:=by simp [zam]; omega
 have hn3:n≤3:=by omega
 have hn4:n≤4:=by omega
 have hn1:1≤n:=by omega
 obtain ⟨ns,hns⟩ : ∃ ns,ns=nm4.take n:=⟨_,rfl⟩
 have hcut:(if n=4 then [[PV.v (Value.string (bs [97]))],[PV.v (Value.string (bs [98]))],[PV.v (Value.string (bs [99,50]))],[PV.v (Value.string (bs [100]))]] else List.take n [[PV.v (Value.string (bs [97]))],[PV.v (Value.string (bs [98]))],[PV.v (Value.string (bs [99,50]))],[PV.v (Value.string (bs [100]))]])=za5 ns:=by
  subst hns
  have h:n=1∨n=2∨n=3:=by omega
  rcases h with h | h | h <;> subst h <;> rfl
 have hnl:ns.length=n:=by subst hns; simp [nm4]; omega
 obtain ⟨r2,h2,v2,p2,s2,⟨a2,rfl,a20,a21⟩,hp2,rfl⟩:=zbv B p1 s1 hp1 hB 9 (by omega)
 have a22:=a21 (by omega)
 obtain ⟨r3,h3,v3,p3,s3,⟨b3,rfl⟩,hp3,rfl⟩:=zga B p2 s2 hp2 hB 10 (by omega)
 have key : ∀ (m:Nat) (far:Bool) (p:Nat) (s:Int) (st:St),1≤m→m≤40→p≤B.length→st.V 0 = .ptr 0 none 0 0 0→st.V 2 = .ptr 1 none 0 0 0→st.V 3=iv n→st.V 4 = .ptr 5 none 0 0 0→st.V 5=iv m→st.V 6=bv far→st.V 7=iv (0:Nat)→5<st.nx→st.S 0=some (.box [.sl 1 (zbl B),iv p,iv s])→st.S 1=some (.box [.e0,.v (.string (bs [])),.e0,.e0])→st.S 4=some (.row 1 (za5 ns))→st.S 5=some (.box [.ref 4 none 0 0 n,.v (.string (bs [121])),.e0,.e0]) →
   W (zad T) (RUN T) (.loop zvo) st (Bl 0 (Nx (fun s=>W (zad T) (RUN T) (.seq (.reg [oE 83 (.load true 4 (.V 4)),oN (.store [1,0,1,1] (.V 2) (.E 83))]) .ret) s (zik zkz 1 (zgp B PTa) ⟨⟩ ⟨⟩)) (zik zkz 1 (zgp B PTa) ⟨⟩ ⟨⟩) ⟨⟩ ⟨⟩) ⟨⟩):=by
  clear h1 h2 h3 hp1 hp2 hp3 hp
  intro m far p s st hm1 hm40 hp v0 v2 v3 v4 v5 v6 v7 h5x hS0 hS1 hS4 hS5
  refine za3 (fun k st => ∃ (i p:Nat) (s:Int) (L:List (List Int)) (Y:List Int) (xR xY:PV),i+k=m∧L.length=i∧Y.length=i∧(∀ r∈L,r.length=n∧∀ x∈r,zbg x=true)∧(∀ y∈Y,zbg y=true)∧p≤B.length∧st.V 0 = .ptr 0 none 0 0 0∧st.V 2 = .ptr 1 none 0 0 0∧st.V 3=iv n∧st.V 4 = .ptr 5 none 0 0 0∧st.V 5=iv m∧st.V 6=bv far∧st.V 7=iv i∧5<st.nx∧st.S 0=some (.box [.sl 1 (zbl B),iv p,iv s])∧st.S 1=some (.box [.e0,.v (.string (bs [])),.e0,.e0])∧st.S 4=some (.row 1 (za5 ns))∧st.S 5=some (.box [.ref 4 none 0 0 n,.v (.string (bs [121])),xR,xY])∧((L=[]∧Y=[]∧xR = .e0∧xY = .e0)∨∃ o1 e1 o2 e2,xR = .ref o1 none e1 0 i∧xY = .ref o2 none e2 0 i∧5<o1∧o1<st.nx∧5<o2∧o2<st.nx∧¬ o1=o2∧st.S o1=some (.row 1 (rws true L))∧st.S o2=some (.row 1 (zac Y)))) ?_ m _ ⟨0,p,s,[],[],.e0,.e0,by omega,rfl,rfl,by simp,by simp,hp,v0,v2,v3,v4,v5,v6,v7,h5x,hS0,hS1,hS4,hS5,.inl ⟨rfl,rfl,rfl,rfl⟩⟩
  clear v0 v2 v3 v4 v5 v6 v7 h5x hS0 hS1 hS4 hS5 hp
  rintro k st ⟨i,p,s,L,Y,xR,xY,hi,hL,hY,hLr,hYd,hp,v0,v2,v3,v4,v5,v6,v7,h5x,hS0,hS1,hS4,hS5,hx⟩
  obtain ⟨f1,f2,f3,f4⟩:=fr (show 0<st.nx by omega)
  obtain ⟨g1,g2,g3,g4⟩:=fr (show 1<st.nx by omega)
  obtain ⟨h1,h2,h3,h4⟩:=fr (show 4<st.nx by omega)
  obtain ⟨j1,j2,j3,j4⟩:=fr (show 5<st.nx by omega)
  by_cases h:i<m
  ·have hw:=wS h (by omega:m≤9223372036854775807)
   have hr1:zam 8 1=true:=by decide
   have hr00:zam 8 0=true:=by decide
   simp [-getElem?_pos,zvo,v5,v7,h,hr00]
   refine yw1 (o:=st.nx) (e:=st.ep) (p:=p) (s:=s) B hB far n (by omega) hp (by simp [v0]) (by simp [v3]) (by simp [v6]) (by simp) (by simp) (by omega) (by simp) (by simp [f1,f2,f3,f4,g1,g2,g3,g4,h1,h2,h3,h4,j1,j2,j3,j4,hS0]) (by simp) ?_
   intro t p1 o3 e3 s1 r hr hrd hrs hp1 hV w8 ho3 ho3x hnx hep hSo3 hT0 hfr
   simp only at ho3 hnx hep
   have w0:t.V 0 = .ptr 0 none 0 0 0:=by rw [hV 0 (by decide) (by decide) (by decide)]; simp [v0]
   have w2:t.V 2 = .ptr 1 none 0 0 0:=by rw [hV 2 (by decide) (by decide) (by decide)]; simp [v2]
   have w3:t.V 3=iv n:=by rw [hV 3 (by decide) (by decide) (by decide)]; simp [v3]
   have w4:t.V 4 = .ptr 5 none 0 0 0:=by rw [hV 4 (by decide) (by decide) (by decide)]; simp [v4]
   have w5:t.V 5=iv m:=by rw [hV 5 (by decide) (by decide) (by decide)]; simp [v5]
   have w6:t.V 6=bv far:=by rw [hV 6 (by decide) (by decide) (by decide)]; simp [v6]
   have w7:t.V 7=iv i:=by rw [hV 7 (by decide) (by decide) (by decide)]; simp [v7]
   have hT1:t.S 1=some (.box [.e0,.v (.string (bs [])),.e0,.e0]):=by rw [hfr 1 (by omega) (by omega)]; simp [f1,f2,f3,f4,g1,g2,g3,g4,h1,h2,h3,h4,j1,j2,j3,j4,hS1]
   have hT4:t.S 4=some (.row 1 (za5 ns)):=by rw [hfr 4 (by omega) (by omega)]; simp [f1,f2,f3,f4,g1,g2,g3,g4,h1,h2,h3,h4,j1,j2,j3,j4,hS4]
   have hT5:t.S 5=some (.box [.ref 4 none 0 0 n,.v (.string (bs [121])),xR,xY]):=by rw [hfr 5 (by omega) (by omega)]; simp [f1,f2,f3,f4,g1,g2,g3,g4,h1,h2,h3,h4,j1,j2,j3,j4,hS5]
   obtain ⟨x0,hx0⟩ : ∃ x,r[0]?=some x:=⟨_,List.getElem?_eq_getElem (by omega)⟩
   have hx0':=zbp hx0
   obtain ⟨q1,d1,_,p2,s2,⟨y,rfl,hyd⟩,hp2,rfl⟩:=z9k B p1 s1 hp1 hB
   have hr24:zam 24 1=true:=by decide
   have hr24':zam 24 (i+1)=true:=by simp [zam]; omega
   have hr8:=zd8 (n:=i+1) (by omega)
   have hsn1:=z0k L r
   have hn0:(0:Nat)<n:=by omega
   have na : ∀ a b:Nat,t.nx+a+b=t.nx+(a+b):=fun a b=>Nat.add_assoc _ _ _
   obtain ⟨F1,F2,F3,F4⟩:=fr (show 0<t.nx by omega)
   obtain ⟨G1,G2,G3,G4⟩:=fr (show 1<t.nx by omega)
   obtain ⟨H1,H2,H3,H4⟩:=fr (show 4<t.nx by omega)
   obtain ⟨J1,J2,J3,J4⟩:=fr (show 5<t.nx by omega)
   obtain ⟨O1,O2,O3,O4⟩:=fr (show o3<t.nx by omega)
   have n0a:(o3=0)=False:=eq_false (by omega)
   have n0b:(0=o3)=False:=eq_false (by omega)
   have n1a:(o3=1)=False:=eq_false (by omega)
   have n1b:(1=o3)=False:=eq_false (by omega)
   have n2a:(o3=4)=False:=eq_false (by omega)
   have n2b:(4=o3)=False:=eq_false (by omega)
   have n3a:(o3=5)=False:=eq_false (by omega)
   have n3b:(5=o3)=False:=eq_false (by omega)
   rcases hx with ⟨rfl,rfl,rfl,rfl⟩ | ⟨o1,e1,o2,e2,rfl,rfl,ho1,ho1x,ho2,ho2x,ho12,hSo1,hSo2⟩
   ·have hi0:i=0:=by simpa using hL.symm
    subst hi0
    cases far with
    | true =>
     simp [-getElem?_pos,w0,w2,w3,w4,w5,w6,w7,w8,hT0,hT1,hT4,hT5,hSo3,hx0',hn0,hr,hw,hr1,d1,hr24,na,F1,F2,F3,F4,G1,G2,G3,G4,H1,H2,H3,H4,J1,J2,J3,J4,O1,O2,O3,O4,n0a,n0b,n1a,n1b,n2a,n2b,n3a,n3b]
     refine zaq (k-1) (by omega) ⟨0+1,p2,s2,[]++[r],[]++[y],.ref (t.nx+1) none t.ep 0 (0+1),.ref (t.nx+3) none t.ep 0 (0+1),by omega,by simp [hL],by simp [hY],?_,?_,by assumption,by simp [w0],by simp [w2],by simp [w3],by simp [w4],by simp [w5],by simp [w6],by simp,by simp; omega,by simp [F1,F2,F3,F4,G1,G2,G3,G4,H1,H2,H3,H4,J1,J2,J3,J4,O1,O2,O3,O4,n0a,n0b,n1a,n1b,n2a,n2b,n3a,n3b],by simp [F1,F2,F3,F4,G1,G2,G3,G4,H1,H2,H3,H4,J1,J2,J3,J4,O1,O2,O3,O4,n0a,n0b,n1a,n1b,n2a,n2b,n3a,n3b,hT1],by simp [F1,F2,F3,F4,G1,G2,G3,G4,H1,H2,H3,H4,J1,J2,J3,J4,O1,O2,O3,O4,n0a,n0b,n1a,n1b,n2a,n2b,n3a,n3b,hT4],by simp [F1,F2,F3,F4,G1,G2,G3,G4,H1,H2,H3,H4,J1,J2,J3,J4,O1,O2,O3,O4,n0a,n0b,n1a,n1b,n2a,n2b,n3a,n3b],.inr ⟨t.nx+1,t.ep,t.nx+3,t.ep,rfl,rfl,by omega,by simp,by omega,by simp,by omega,by simp [F1,F2,F3,F4,G1,G2,G3,G4,H1,H2,H3,H4,J1,J2,J3,J4,O1,O2,O3,O4,n0a,n0b,n1a,n1b,n2a,n2b,n3a,n3b,rws,cel],by simp [F1,F2,F3,F4,G1,G2,G3,G4,H1,H2,H3,H4,J1,J2,J3,J4,O1,O2,O3,O4,n0a,n0b,n1a,n1b,n2a,n2b,n3a,n3b,zac]⟩⟩
     ·intro r' hr'
      rcases List.mem_append.mp hr' with hr' | hr'
      ·exact hLr r' hr'
      ·simp at hr'; subst hr'; exact ⟨hr,hrd⟩
     ·intro y' hy'
      rcases List.mem_append.mp hy' with hy' | hy'
      ·exact hYd y' hy'
      ·simp at hy'; subst hy'; exact hyd
    | false =>
     have hsx:=hrs rfl x0 (List.mem_of_getElem? hx0)
     unfold ztt at hsx
     obtain ⟨q2,d2,_,p3,s3,⟨b4,rfl⟩,hp3,rfl⟩:=zga B p2 s2 hp2 hB 4 (by omega)
     cases b4 with
     | true =>
      simp [-getElem?_pos,w0,w2,w3,w4,w5,w6,w7,w8,hT0,hT1,hT4,hT5,hSo3,hx0',hn0,hr,hw,hr1,d1,hr24,na,d2,F1,F2,F3,F4,G1,G2,G3,G4,H1,H2,H3,H4,J1,J2,J3,J4,O1,O2,O3,O4,n0a,n0b,n1a,n1b,n2a,n2b,n3a,n3b]
      refine zaq (k-1) (by omega) ⟨0+1,p3,s3,[]++[r],[]++[y],.ref (t.nx+1) none t.ep 0 (0+1),.ref (t.nx+3) none t.ep 0 (0+1),by omega,by simp [hL],by simp [hY],?_,?_,by assumption,by simp [w0],by simp [w2],by simp [w3],by simp [w4],by simp [w5],by simp [w6],by simp,by simp; omega,by simp [F1,F2,F3,F4,G1,G2,G3,G4,H1,H2,H3,H4,J1,J2,J3,J4,O1,O2,O3,O4,n0a,n0b,n1a,n1b,n2a,n2b,n3a,n3b],by simp [F1,F2,F3,F4,G1,G2,G3,G4,H1,H2,H3,H4,J1,J2,J3,J4,O1,O2,O3,O4,n0a,n0b,n1a,n1b,n2a,n2b,n3a,n3b,hT1],by simp [F1,F2,F3,F4,G1,G2,G3,G4,H1,H2,H3,H4,J1,J2,J3,J4,O1,O2,O3,O4,n0a,n0b,n1a,n1b,n2a,n2b,n3a,n3b,hT4],by simp [F1,F2,F3,F4,G1,G2,G3,G4,H1,H2,H3,H4,J1,J2,J3,J4,O1,O2,O3,O4,n0a,n0b,n1a,n1b,n2a,n2b,n3a,n3b],.inr ⟨t.nx+1,t.ep,t.nx+3,t.ep,rfl,rfl,by omega,by simp,by omega,by simp,by omega,by simp [F1,F2,F3,F4,G1,G2,G3,G4,H1,H2,H3,H4,J1,J2,J3,J4,O1,O2,O3,O4,n0a,n0b,n1a,n1b,n2a,n2b,n3a,n3b,rws,cel],by simp [F1,F2,F3,F4,G1,G2,G3,G4,H1,H2,H3,H4,J1,J2,J3,J4,O1,O2,O3,O4,n0a,n0b,n1a,n1b,n2a,n2b,n3a,n3b,zac]⟩⟩
      ·intro r' hr'
       rcases List.mem_append.mp hr' with hr' | hr'
       ·exact hLr r' hr'
       ·simp at hr'; subst hr'; exact ⟨hr,hrd⟩
      ·intro y' hy'
       rcases List.mem_append.mp hy' with hy' | hy'
       ·exact hYd y' hy'
       ·simp at hy'; subst hy'; exact hyd
     | false =>
      obtain ⟨q3,d3,_,p4,s4,⟨a4,rfl,a40,a41⟩,hp4,rfl⟩:=zbv B p3 s3 hp3 hB 5 (by omega)
      have a42:=a41 (by omega)
      have u1:=w64 (x:=x0*2) (by omega) (by omega)
      have u2:=w64 (x:=100*a4) (by omega) (by omega)
      have u3:=w64 (x:=x0*2+100*a4) (by omega) (by omega)
      simp [-getElem?_pos,w0,w2,w3,w4,w5,w6,w7,w8,hT0,hT1,hT4,hT5,hSo3,hx0',hn0,hr,hw,hr1,d1,hr24,na,d2,d3,u1,u2,u3,F1,F2,F3,F4,G1,G2,G3,G4,H1,H2,H3,H4,J1,J2,J3,J4,O1,O2,O3,O4,n0a,n0b,n1a,n1b,n2a,n2b,n3a,n3b]
      refine zaq (k-1) (by omega) ⟨0+1,p4,s4,[]++[r],[]++[x0*2+100*a4],.ref (t.nx+1) none t.ep 0 (0+1),.ref (t.nx+3) none t.ep 0 (0+1),by omega,by simp [hL],by simp [hY],?_,?_,by assumption,by simp [w0],by simp [w2],by simp [w3],by simp [w4],by simp [w5],by simp [w6],by simp,by simp; omega,by simp [F1,F2,F3,F4,G1,G2,G3,G4,H1,H2,H3,H4,J1,J2,J3,J4,O1,O2,O3,O4,n0a,n0b,n1a,n1b,n2a,n2b,n3a,n3b],by simp [F1,F2,F3,F4,G1,G2,G3,G4,H1,H2,H3,H4,J1,J2,J3,J4,O1,O2,O3,O4,n0a,n0b,n1a,n1b,n2a,n2b,n3a,n3b,hT1],by simp [F1,F2,F3,F4,G1,G2,G3,G4,H1,H2,H3,H4,J1,J2,J3,J4,O1,O2,O3,O4,n0a,n0b,n1a,n1b,n2a,n2b,n3a,n3b,hT4],by simp [F1,F2,F3,F4,G1,G2,G3,G4,H1,H2,H3,H4,J1,J2,J3,J4,O1,O2,O3,O4,n0a,n0b,n1a,n1b,n2a,n2b,n3a,n3b],.inr ⟨t.nx+1,t.ep,t.nx+3,t.ep,rfl,rfl,by omega,by simp,by omega,by simp,by omega,by simp [F1,F2,F3,F4,G1,G2,G3,G4,H1,H2,H3,H4,J1,J2,J3,J4,O1,O2,O3,O4,n0a,n0b,n1a,n1b,n2a,n2b,n3a,n3b,rws,cel],by simp [F1,F2,F3,F4,G1,G2,G3,G4,H1,H2,H3,H4,J1,J2,J3,J4,O1,O2,O3,O4,n0a,n0b,n1a,n1b,n2a,n2b,n3a,n3b,zac]⟩⟩
      ·intro r' hr'
       rcases List.mem_append.mp hr' with hr' | hr'
       ·exact hLr r' hr'
       ·simp at hr'; subst hr'; exact ⟨hr,hrd⟩
      ·intro y' hy'
       rcases List.mem_append.mp hy' with hy' | hy'
       ·exact hYd y' hy'
       ·simp at hy'; subst hy'; exact zqo (by omega) (by omega)
   ·have hT6:t.S o1=some (.row 1 (rws true L)):=by rw [hfr o1 (by omega) (by omega)]; simp [show (o1=st.nx)=False from eq_false (by omega),hSo1]
    have hT7:t.S o2=some (.row 1 (zac Y)):=by rw [hfr o2 (by omega) (by omega)]; simp [show (o2=st.nx)=False from eq_false (by omega),hSo2]
    obtain ⟨P1,P2,P3,P4⟩:=fr (show o1<t.nx by omega)
    obtain ⟨Q1,Q2,Q3,Q4⟩:=fr (show o2<t.nx by omega)
    have m0a:(o1=0)=False:=eq_false (by omega)
    have m0b:(0=o1)=False:=eq_false (by omega)
    have m1a:(o1=1)=False:=eq_false (by omega)
    have m1b:(1=o1)=False:=eq_false (by omega)
    have m2a:(o1=4)=False:=eq_false (by omega)
    have m2b:(4=o1)=False:=eq_false (by omega)
    have m3a:(o1=5)=False:=eq_false (by omega)
    have m3b:(5=o1)=False:=eq_false (by omega)
    have m4a:(o2=0)=False:=eq_false (by omega)
    have m4b:(0=o2)=False:=eq_false (by omega)
    have m5a:(o2=1)=False:=eq_false (by omega)
    have m5b:(1=o2)=False:=eq_false (by omega)
    have m6a:(o2=4)=False:=eq_false (by omega)
    have m6b:(4=o2)=False:=eq_false (by omega)
    have m7a:(o2=5)=False:=eq_false (by omega)
    have m7b:(5=o2)=False:=eq_false (by omega)
    have m8a:(o1=o3)=False:=eq_false (by omega)
    have m8b:(o3=o1)=False:=eq_false (by omega)
    have m9a:(o2=o3)=False:=eq_false (by omega)
    have m9b:(o3=o2)=False:=eq_false (by omega)
    have m10a:(o1=o2)=False:=eq_false (by omega)
    have m10b:(o2=o1)=False:=eq_false (by omega)
    cases far with
    | true =>
     simp [-getElem?_pos,w0,w2,w3,w4,w5,w6,w7,w8,hT0,hT1,hT4,hT5,hSo3,hx0',hn0,hr,hw,hr1,d1,hr24,na,hT6,hT7,hr24',hr8,hsn1,hL,hY,zdd,F1,F2,F3,F4,G1,G2,G3,G4,H1,H2,H3,H4,J1,J2,J3,J4,O1,O2,O3,O4,n0a,n0b,n1a,n1b,n2a,n2b,n3a,n3b,P1,P2,P3,P4,Q1,Q2,Q3,Q4,m0a,m0b,m1a,m1b,m2a,m2b,m3a,m3b,m4a,m4b,m5a,m5b,m6a,m6b,m7a,m7b,m8a,m8b,m9a,m9b,m10a,m10b]
     refine zaq (k-1) (by omega) ⟨i+1,p2,s2,L++[r],Y++[y],.ref (t.nx+1) none t.ep 0 (i+1),.ref (t.nx+3) none t.ep 0 (i+1),by omega,by simp [hL],by simp [hY],?_,?_,by assumption,by simp [w0],by simp [w2],by simp [w3],by simp [w4],by simp [w5],by simp [w6],by simp,by simp; omega,by simp [F1,F2,F3,F4,G1,G2,G3,G4,H1,H2,H3,H4,J1,J2,J3,J4,O1,O2,O3,O4,n0a,n0b,n1a,n1b,n2a,n2b,n3a,n3b,P1,P2,P3,P4,Q1,Q2,Q3,Q4,m0a,m0b,m1a,m1b,m2a,m2b,m3a,m3b,m4a,m4b,m5a,m5b,m6a,m6b,m7a,m7b,m8a,m8b,m9a,m9b,m10a,m10b],by simp [F1,F2,F3,F4,G1,G2,G3,G4,H1,H2,H3,H4,J1,J2,J3,J4,O1,O2,O3,O4,n0a,n0b,n1a,n1b,n2a,n2b,n3a,n3b,P1,P2,P3,P4,Q1,Q2,Q3,Q4,m0a,m0b,m1a,m1b,m2a,m2b,m3a,m3b,m4a,m4b,m5a,m5b,m6a,m6b,m7a,m7b,m8a,m8b,m9a,m9b,m10a,m10b,hT1],by simp [F1,F2,F3,F4,G1,G2,G3,G4,H1,H2,H3,H4,J1,J2,J3,J4,O1,O2,O3,O4,n0a,n0b,n1a,n1b,n2a,n2b,n3a,n3b,P1,P2,P3,P4,Q1,Q2,Q3,Q4,m0a,m0b,m1a,m1b,m2a,m2b,m3a,m3b,m4a,m4b,m5a,m5b,m6a,m6b,m7a,m7b,m8a,m8b,m9a,m9b,m10a,m10b,hT4],by simp [F1,F2,F3,F4,G1,G2,G3,G4,H1,H2,H3,H4,J1,J2,J3,J4,O1,O2,O3,O4,n0a,n0b,n1a,n1b,n2a,n2b,n3a,n3b,P1,P2,P3,P4,Q1,Q2,Q3,Q4,m0a,m0b,m1a,m1b,m2a,m2b,m3a,m3b,m4a,m4b,m5a,m5b,m6a,m6b,m7a,m7b,m8a,m8b,m9a,m9b,m10a,m10b],.inr ⟨t.nx+1,t.ep,t.nx+3,t.ep,rfl,rfl,by omega,by simp,by omega,by simp,by omega,by simp [F1,F2,F3,F4,G1,G2,G3,G4,H1,H2,H3,H4,J1,J2,J3,J4,O1,O2,O3,O4,n0a,n0b,n1a,n1b,n2a,n2b,n3a,n3b,P1,P2,P3,P4,Q1,Q2,Q3,Q4,m0a,m0b,m1a,m1b,m2a,m2b,m3a,m3b,m4a,m4b,m5a,m5b,m6a,m6b,m7a,m7b,m8a,m8b,m9a,m9b,m10a,m10b],by simp [F1,F2,F3,F4,G1,G2,G3,G4,H1,H2,H3,H4,J1,J2,J3,J4,O1,O2,O3,O4,n0a,n0b,n1a,n1b,n2a,n2b,n3a,n3b,P1,P2,P3,P4,Q1,Q2,Q3,Q4,m0a,m0b,m1a,m1b,m2a,m2b,m3a,m3b,m4a,m4b,m5a,m5b,m6a,m6b,m7a,m7b,m8a,m8b,m9a,m9b,m10a,m10b]⟩⟩
     ·intro r' hr'
      rcases List.mem_append.mp hr' with hr' | hr'
      ·exact hLr r' hr'
      ·simp at hr'; subst hr'; exact ⟨hr,hrd⟩
     ·intro y' hy'
      rcases List.mem_append.mp hy' with hy' | hy'
      ·exact hYd y' hy'
      ·simp at hy'; subst hy'; exact hyd
    | false =>
     have hsx:=hrs rfl x0 (List.mem_of_getElem? hx0)
     unfold ztt at hsx
     obtain ⟨q2,d2,_,p3,s3,⟨b4,rfl⟩,hp3,rfl⟩:=zga B p2 s2 hp2 hB 4 (by omega)
     cases b4 with
     | true =>
      simp [-getElem?_pos,w0,w2,w3,w4,w5,w6,w7,w8,hT0,hT1,hT4,hT5,hSo3,hx0',hn0,hr,hw,hr1,d1,hr24,na,hT6,hT7,hr24',hr8,hsn1,hL,hY,zdd,d2,F1,F2,F3,F4,G1,G2,G3,G4,H1,H2,H3,H4,J1,J2,J3,J4,O1,O2,O3,O4,n0a,n0b,n1a,n1b,n2a,n2b,n3a,n3b,P1,P2,P3,P4,Q1,Q2,Q3,Q4,m0a,m0b,m1a,m1b,m2a,m2b,m3a,m3b,m4a,m4b,m5a,m5b,m6a,m6b,m7a,m7b,m8a,m8b,m9a,m9b,m10a,m10b]
      refine zaq (k-1) (by omega) ⟨i+1,p3,s3,L++[r],Y++[y],.ref (t.nx+1) none t.ep 0 (i+1),.ref (t.nx+3) none t.ep 0 (i+1),by omega,by simp [hL],by simp [hY],?_,?_,by assumption,by simp [w0],by simp [w2],by simp [w3],by simp [w4],by simp [w5],by simp [w6],by simp,by simp; omega,by simp [F1,F2,F3,F4,G1,G2,G3,G4,H1,H2,H3,H4,J1,J2,J3,J4,O1,O2,O3,O4,n0a,n0b,n1a,n1b,n2a,n2b,n3a,n3b,P1,P2,P3,P4,Q1,Q2,Q3,Q4,m0a,m0b,m1a,m1b,m2a,m2b,m3a,m3b,m4a,m4b,m5a,m5b,m6a,m6b,m7a,m7b,m8a,m8b,m9a,m9b,m10a,m10b],by simp [F1,F2,F3,F4,G1,G2,G3,G4,H1,H2,H3,H4,J1,J2,J3,J4,O1,O2,O3,O4,n0a,n0b,n1a,n1b,n2a,n2b,n3a,n3b,P1,P2,P3,P4,Q1,Q2,Q3,Q4,m0a,m0b,m1a,m1b,m2a,m2b,m3a,m3b,m4a,m4b,m5a,m5b,m6a,m6b,m7a,m7b,m8a,m8b,m9a,m9b,m10a,m10b,hT1],by simp [F1,F2,F3,F4,G1,G2,G3,G4,H1,H2,H3,H4,J1,J2,J3,J4,O1,O2,O3,O4,n0a,n0b,n1a,n1b,n2a,n2b,n3a,n3b,P1,P2,P3,P4,Q1,Q2,Q3,Q4,m0a,m0b,m1a,m1b,m2a,m2b,m3a,m3b,m4a,m4b,m5a,m5b,m6a,m6b,m7a,m7b,m8a,m8b,m9a,m9b,m10a,m10b,hT4],by simp [F1,F2,F3,F4,G1,G2,G3,G4,H1,H2,H3,H4,J1,J2,J3,J4,O1,O2,O3,O4,n0a,n0b,n1a,n1b,n2a,n2b,n3a,n3b,P1,P2,P3,P4,Q1,Q2,Q3,Q4,m0a,m0b,m1a,m1b,m2a,m2b,m3a,m3b,m4a,m4b,m5a,m5b,m6a,m6b,m7a,m7b,m8a,m8b,m9a,m9b,m10a,m10b],.inr ⟨t.nx+1,t.ep,t.nx+3,t.ep,rfl,rfl,by omega,by simp,by omega,by simp,by omega,by simp [F1,F2,F3,F4,G1,G2,G3,G4,H1,H2,H3,H4,J1,J2,J3,J4,O1,O2,O3,O4,n0a,n0b,n1a,n1b,n2a,n2b,n3a,n3b,P1,P2,P3,P4,Q1,Q2,Q3,Q4,m0a,m0b,m1a,m1b,m2a,m2b,m3a,m3b,m4a,m4b,m5a,m5b,m6a,m6b,m7a,m7b,m8a,m8b,m9a,m9b,m10a,m10b],by simp [F1,F2,F3,F4,G1,G2,G3,G4,H1,H2,H3,H4,J1,J2,J3,J4,O1,O2,O3,O4,n0a,n0b,n1a,n1b,n2a,n2b,n3a,n3b,P1,P2,P3,P4,Q1,Q2,Q3,Q4,m0a,m0b,m1a,m1b,m2a,m2b,m3a,m3b,m4a,m4b,m5a,m5b,m6a,m6b,m7a,m7b,m8a,m8b,m9a,m9b,m10a,m10b]⟩⟩
      ·intro r' hr'
       rcases List.mem_append.mp hr' with hr' | hr'
       ·exact hLr r' hr'
       ·simp at hr'; subst hr'; exact ⟨hr,hrd⟩
      ·intro y' hy'
       rcases List.mem_append.mp hy' with hy' | hy'
       ·exact hYd y' hy'
       ·simp at hy'; subst hy'; exact hyd
     | false =>
      obtain ⟨q3,d3,_,p4,s4,⟨a4,rfl,a40,a41⟩,hp4,rfl⟩:=zbv B p3 s3 hp3 hB 5 (by omega)
      have a42:=a41 (by omega)
      have u1:=w64 (x:=x0*2) (by omega) (by omega)
      have u2:=w64 (x:=100*a4) (by omega) (by omega)
      have u3:=w64 (x:=x0*2+100*a4) (by omega) (by omega)
      simp [-getElem?_pos,w0,w2,w3,w4,w5,w6,w7,w8,hT0,hT1,hT4,hT5,hSo3,hx0',hn0,hr,hw,hr1,d1,hr24,na,hT6,hT7,hr24',hr8,hsn1,hL,hY,zdd,d2,d3,u1,u2,u3,F1,F2,F3,F4,G1,G2,G3,G4,H1,H2,H3,H4,J1,J2,J3,J4,O1,O2,O3,O4,n0a,n0b,n1a,n1b,n2a,n2b,n3a,n3b,P1,P2,P3,P4,Q1,Q2,Q3,Q4,m0a,m0b,m1a,m1b,m2a,m2b,m3a,m3b,m4a,m4b,m5a,m5b,m6a,m6b,m7a,m7b,m8a,m8b,m9a,m9b,m10a,m10b]
      refine zaq (k-1) (by omega) ⟨i+1,p4,s4,L++[r],Y++[x0*2+100*a4],.ref (t.nx+1) none t.ep 0 (i+1),.ref (t.nx+3) none t.ep 0 (i+1),by omega,by simp [hL],by simp [hY],?_,?_,by assumption,by simp [w0],by simp [w2],by simp [w3],by simp [w4],by simp [w5],by simp [w6],by simp,by simp; omega,by simp [F1,F2,F3,F4,G1,G2,G3,G4,H1,H2,H3,H4,J1,J2,J3,J4,O1,O2,O3,O4,n0a,n0b,n1a,n1b,n2a,n2b,n3a,n3b,P1,P2,P3,P4,Q1,Q2,Q3,Q4,m0a,m0b,m1a,m1b,m2a,m2b,m3a,m3b,m4a,m4b,m5a,m5b,m6a,m6b,m7a,m7b,m8a,m8b,m9a,m9b,m10a,m10b],by simp [F1,F2,F3,F4,G1,G2,G3,G4,H1,H2,H3,H4,J1,J2,J3,J4,O1,O2,O3,O4,n0a,n0b,n1a,n1b,n2a,n2b,n3a,n3b,P1,P2,P3,P4,Q1,Q2,Q3,Q4,m0a,m0b,m1a,m1b,m2a,m2b,m3a,m3b,m4a,m4b,m5a,m5b,m6a,m6b,m7a,m7b,m8a,m8b,m9a,m9b,m10a,m10b,hT1],by simp [F1,F2,F3,F4,G1,G2,G3,G4,H1,H2,H3,H4,J1,J2,J3,J4,O1,O2,O3,O4,n0a,n0b,n1a,n1b,n2a,n2b,n3a,n3b,P1,P2,P3,P4,Q1,Q2,Q3,Q4,m0a,m0b,m1a,m1b,m2a,m2b,m3a,m3b,m4a,m4b,m5a,m5b,m6a,m6b,m7a,m7b,m8a,m8b,m9a,m9b,m10a,m10b,hT4],by simp [F1,F2,F3,F4,G1,G2,G3,G4,H1,H2,H3,H4,J1,J2,J3,J4,O1,O2,O3,O4,n0a,n0b,n1a,n1b,n2a,n2b,n3a,n3b,P1,P2,P3,P4,Q1,Q2,Q3,Q4,m0a,m0b,m1a,m1b,m2a,m2b,m3a,m3b,m4a,m4b,m5a,m5b,m6a,m6b,m7a,m7b,m8a,m8b,m9a,m9b,m10a,m10b],.inr ⟨t.nx+1,t.ep,t.nx+3,t.ep,rfl,rfl,by omega,by simp,by omega,by simp,by omega,by simp [F1,F2,F3,F4,G1,G2,G3,G4,H1,H2,H3,H4,J1,J2,J3,J4,O1,O2,O3,O4,n0a,n0b,n1a,n1b,n2a,n2b,n3a,n3b,P1,P2,P3,P4,Q1,Q2,Q3,Q4,m0a,m0b,m1a,m1b,m2a,m2b,m3a,m3b,m4a,m4b,m5a,m5b,m6a,m6b,m7a,m7b,m8a,m8b,m9a,m9b,m10a,m10b],by simp [F1,F2,F3,F4,G1,G2,G3,G4,H1,H2,H3,H4,J1,J2,J3,J4,O1,O2,O3,O4,n0a,n0b,n1a,n1b,n2a,n2b,n3a,n3b,P1,P2,P3,P4,Q1,Q2,Q3,Q4,m0a,m0b,m1a,m1b,m2a,m2b,m3a,m3b,m4a,m4b,m5a,m5b,m6a,m6b,m7a,m7b,m8a,m8b,m9a,m9b,m10a,m10b]⟩⟩
      ·intro r' hr'
       rcases List.mem_append.mp hr' with hr' | hr'
       ·exact hLr r' hr'
       ·simp at hr'; subst hr'; exact ⟨hr,hrd⟩
      ·intro y' hy'
       rcases List.mem_append.mp hy' with hy' | hy'
       ·exact hYd y' hy'
       ·simp at hy'; subst hy'; exact zqo (by omega) (by omega)
  ·have him:i=m:=by omega
   subst him
   rcases hx with ⟨rfl,rfl,rfl,rfl⟩ | ⟨o1,e1,o2,e2,rfl,rfl,ho1,ho1x,ho2,ho2x,ho12,hSo1,hSo2⟩
   ·simp at hL; omega
   ·have n0a:(o1=0)=False:=eq_false (by omega)
    have n0b:(0=o1)=False:=eq_false (by omega)
    have n1a:(o1=1)=False:=eq_false (by omega)
    have n1b:(1=o1)=False:=eq_false (by omega)
    have n2a:(o1=4)=False:=eq_false (by omega)
    have n2b:(4=o1)=False:=eq_false (by omega)
    have n3a:(o1=5)=False:=eq_false (by omega)
    have n3b:(5=o1)=False:=eq_false (by omega)
    have n4a:(o2=0)=False:=eq_false (by omega)
    have n4b:(0=o2)=False:=eq_false (by omega)
    have n5a:(o2=1)=False:=eq_false (by omega)
    have n5b:(1=o2)=False:=eq_false (by omega)
    have n6a:(o2=4)=False:=eq_false (by omega)
    have n6b:(4=o2)=False:=eq_false (by omega)
    have n7a:(o2=5)=False:=eq_false (by omega)
    have n7b:(5=o2)=False:=eq_false (by omega)
    have n8a:(o1=o2)=False:=eq_false (by omega)
    have n8b:(o2=o1)=False:=eq_false (by omega)
    have hfin:=yz3 hn1 hn3 hm1 hm40 hL hY hLr hYd
    rw [← hns] at hfin
    have hq1:1≤o1:=by omega
    have hq2:1≤o2:=by omega
    simp [-getElem?_pos,zvo,zkz,hq1,hq2,v0,v2,v4,v5,v7,h,hS0,hS1,hS4,hS5,hSo1,hSo2,hnl,hL,hY,n0a,n0b,n1a,n1b,n2a,n2b,n3a,n3b,n4a,n4b,n5a,n5b,n6a,n6b,n7a,n7b,n8a,n8b]
    exact ⟨_,p,s,hfin,hp,rfl⟩
 obtain ⟨r4,h4,v4,p4,s4,⟨b4,rfl⟩,hp4,rfl⟩:=zga B p3 s3 hp3 hB 12 (by omega)
 refine zgz z6g rfl ?_
 cases b3 with
 | false =>
  obtain ⟨m,hm⟩ : ∃ m:Nat,1+a2=m:=⟨(1+a2).toNat,by omega⟩
  have w2:=w64 (x:=(m:Int)) (by omega) (by omega)
  simp [-getElem?_pos,zr2,zkz,h1,h2,h3,h4,hnf,hm,w1,w2,hr0,hr1,hr2,hn4,hcut,yeb,hnl]
  exact key m b4 p4 s4 _ (by omega) (by omega) hp4 (by simp) (by simp) (by simp) (by simp) (by simp) (by simp) (by simp) (by simp) (by simp) (by simp) (by simp) (by simp)
 | true =>
  obtain ⟨r5,h5,v5,p5,s5,⟨a5,rfl,a50,a51⟩,hp5,rfl⟩:=zbv B p3 s3 hp3 hB 40 (by omega)
  have a52:=a51 (by omega)
  obtain ⟨m,hm⟩ : ∃ m:Nat,1+a5=m:=⟨(1+a5).toNat,by omega⟩
  have w2:=w64 (x:=(m:Int)) (by omega) (by omega)
  have w3:=w64 (x:=1+a2) (by omega) (by omega)
  obtain ⟨r6,h6,v6,p6,s6,⟨b6,rfl⟩,hp6,rfl⟩:=zga B p5 s5 hp5 hB 12 (by omega)
  simp [-getElem?_pos,zr2,zkz,h1,h2,h3,h5,h6,hnf,hm,w1,w2,w3,hr0,hr1,hr2,hn4,hcut,yeb,hnl]
  exact key m b6 p6 s6 _ (by omega) (by omega) hp6 (by simp) (by simp) (by simp) (by simp) (by simp) (by simp) (by simp) (by simp) (by simp) (by simp) (by simp) (by simp)
theorem ztv {α:Type} {P:α→Prop} {c:List α} {f:Nat} {x:α} (h : ∀ l∈c,P l) (hx:P x) : ∀ l∈c.set f x,P l:=fun l hl=>by
 rcases List.mem_or_eq_of_mem_set hl with hl | hl
 ·exact h l hl
 ·subst hl; exact hx
theorem z4s {α:Type} {P:α→Prop} {c:List α} {x:α} (h : ∀ l∈c,P l) (hx:P x) : ∀ l∈c++[x],P l:=fun l hl=>by
 rcases List.mem_append.mp hl with hl | hl
 ·exact h l hl
 ·simp at hl; subst hl; exact hx
def zed:List Sl→Int
 | []=>0
 | x::xs=>x.n+zed xs
def zeb:List Sl→Int
 | []=>0
 | x::xs=>x.g+zeb xs
theorem z4l : ∀ {l:List Sl} {i:Nat} {s t:Sl},l[i]?=some s→zed (l.set i t)=zed l-s.n+t.n∧zeb (l.set i t)=zeb l-s.g+t.g
 | [],i,s,t,h=>by simp at h
 | x::xs,0,s,t,h=>by
  simp at h; subst h
  simp only [List.set_cons_zero,zed,zeb]; omega
 | x::xs,i+1,s,t,h=>by
  have h':xs[i]?=some s:=by simpa using h
  have:=z4l (t:=t) h'
  simp only [List.set_cons_succ,zed,zeb]; omega
theorem yd3 (n:Nat):zed (List.replicate n ⟨0,0⟩)=0∧zeb (List.replicate n ⟨0,0⟩)=0:=by
 induction n with
 | zero=>exact ⟨rfl,rfl⟩
 | succ n ih=>simp only [List.replicate_succ,zed,zeb]; omega
theorem z94 {a b:Int} (h:(adi a b).2=true):(adi a b).1=a+b:=by
 unfold adi at h ⊢
 split
 ·rfl
 ·rename_i hc; rw [if_neg hc] at h; cases h
theorem zzt {a b:Sl} (h:(zb5 a b).2=true):(zb5 a b).1.n=a.n+b.n∧(zb5 a b).1.g=a.g+b.g:=by
 unfold zb5 at h ⊢
 split
 ·rename_i hc
  simp only [Bool.and_eq_true] at hc
  exact ⟨z94 hc.1,z94 hc.2⟩
 ·rename_i hc; rw [if_neg hc] at h; cases h
def zgd (g rows:List Int):Int:=(rows.map fun r=>(atI g r).getD 0).sum
theorem zzg (g:List Int) (r:Int) (rs:List Int):zgd g (r::rs)=(atI g r).getD 0+zgd g rs:=by simp [zgd]
theorem yfv {b g:List Int} : ∀ (rows:List Int) (h h':List Sl),zco b g rows h=some h'→zed h'=zed h+rows.length∧zeb h'=zeb h+zgd g rows
 | [],h,h',e=>by
  simp only [zco,Option.some.injEq] at e
  subst e
  simp [zgd]
 | r::rs,h,h',e=>by
  unfold zco at e
  cases hx:atI b r with
  | none=>rw [hx] at e; cases e
  | some x =>
   cases hy:atI g r with
   | none=>rw [hx,hy] at e; cases e
   | some y =>
    rw [hx,hy] at e
    simp only at e
    cases hs:atI h x with
    | none=>rw [hs] at e; cases e
    | some s =>
     rw [hs] at e
     simp only at e
     split at e
     ·rename_i hp
      obtain ⟨p1,p2⟩:=zzt hp
      obtain ⟨e1,e2⟩:=yfv rs _ _ e
      obtain ⟨j,rfl,hjs,_⟩:=zkh hs
      rw [Int.toNat_natCast] at e1 e2
      obtain ⟨q1,q2⟩:=z4l (t:=(zb5 s ⟨1,y⟩).1) hjs
      simp only [zzg,hy,Option.getD_some,List.length_cons]
      simp only at p1 p2
      omega
     ·cases e
theorem yaz : ∀ (h:List Sl) (s:Sl) (l:List Sl),zdm s h=some l→(l.getLast?.getD s).n=s.n+zed h∧(l.getLast?.getD s).g=s.g+zeb h
 | [],s,l,e=>by
  simp only [zdm,Option.some.injEq] at e
  subst e
  simp [zed,zeb]
 | x::xs,s,l,e=>by
  unfold zdm at e
  split at e
  ·rename_i hp
   obtain ⟨p1,p2⟩:=zzt hp
   simp only [Option.map_eq_some_iff] at e
   obtain ⟨l',h1,rfl⟩:=e
   obtain ⟨q1,q2⟩:=yaz xs _ _ h1
   rw [List.getLast?_cons,Option.getD_some]
   simp only [zed,zeb]
   omega
  ·cases e
theorem ysb {b g rows:List Int} {k:Int} (h:(zcu b g rows k).2=true):zed (zcu b g rows k).1=rows.length∧zeb (zcu b g rows k).1=zgd g rows:=by
 unfold zcu at h ⊢
 split at h
 ·rename_i hc
  rw [if_pos hc]
  cases e:zco b g rows (List.replicate k.toNat ⟨0,0⟩) with
  | none=>rw [e] at h; cases h
  | some h' =>
   obtain ⟨h1,h2⟩:=yfv rows _ _ e
   obtain ⟨h3,h4⟩:=yd3 k.toNat
   simp only
   omega
 ·cases h
theorem yau : ∀ (h:List Sl) (s:Sl) (l:List Sl),zdm s h=some l→∀ (b:Nat) (x:Sl),l[b]?=some x→x.n=s.n+zed (h.take (b+1))∧x.g=s.g+zeb (h.take (b+1))
 | [],s,l,e,b,x,hx=>by simp only [zdm,Option.some.injEq] at e; subst e; simp at hx
 | y::ys,s,l,e,b,x,hx=>by
  unfold zdm at e
  split at e
  ·rename_i hp
   obtain ⟨p1,p2⟩:=zzt hp
   simp only [Option.map_eq_some_iff] at e
   obtain ⟨l',h1,rfl⟩:=e
   cases b with
   | zero =>
    simp at hx
    subst hx
    simp [zed,zeb,p1,p2]
   | succ b =>
    have hx':l'[b]?=some x:=by simpa using hx
    obtain ⟨q1,q2⟩:=yau ys _ _ h1 b x hx'
    rw [List.take_succ_cons]
    simp only [zed,zeb]
    omega
  ·cases e
theorem z9x {bins g:List Int} : ∀ (rows:List Int) (h h':List Sl),zco bins g rows h=some h'→∀ b:Nat,zed (h'.take (b+1))=zed (h.take (b+1))+(zcz bins rows b).length∧zeb (h'.take (b+1))=zeb (h.take (b+1))+zgd g (zcz bins rows b)
 | [],h,h',e,b=>by
  simp only [zco,Option.some.injEq] at e
  subst e
  simp [zgd,zcz]
 | r::rs,h,h',e,b=>by
  unfold zco at e
  cases hx:atI bins r with
  | none=>rw [hx] at e; cases e
  | some x =>
   cases hy:atI g r with
   | none=>rw [hx,hy] at e; cases e
   | some y =>
    rw [hx,hy] at e
    simp only at e
    cases hs:atI h x with
    | none=>rw [hs] at e; cases e
    | some s =>
     rw [hs] at e
     simp only at e
     split at e
     ·rename_i hp
      obtain ⟨p1,p2⟩:=zzt hp
      obtain ⟨e1,e2⟩:=z9x rs _ _ e b
      obtain ⟨j,rfl,hjs,_⟩:=zkh hs
      rw [Int.toNat_natCast,List.take_set] at e1 e2
      simp only at p1 p2
      have hB:zjv bins b r=decide ((j:Int)≤b):=by unfold zjv; rw [hx]
      by_cases hjb:j≤b
      ·have hB':zjv bins b r=true:=by rw [hB]; simpa using hjb
       have hk:(h.take (b+1))[j]?=some s:=by rw [List.getElem?_take_of_lt (by omega)]; exact hjs
       obtain ⟨q1,q2⟩:=z4l (t:=(zb5 s ⟨1,y⟩).1) hk
       have hf:zcz bins (r::rs) b=r::zcz bins rs b:=by unfold zcz; rw [List.filter_cons,if_pos hB']
       rw [hf,zzg,hy,Option.getD_some,List.length_cons]
       omega
      ·have hB' : ¬ zjv bins b r=true:=by rw [hB]; simpa using hjb
       have hf:zcz bins (r::rs) b=zcz bins rs b:=by unfold zcz; rw [List.filter_cons,if_neg hB']
       rw [List.set_eq_of_length_le (by simp; omega)] at e1 e2
       rw [hf]
       exact ⟨e1,e2⟩
     ·cases e
theorem yem {bins g:List Int} : ∀ (rows:List Int) (h h':List Sl),zco bins g rows h=some h'→∀ r∈rows,∃ x,atI bins r=some x
 | [],h,h',e,r,hr=>by cases hr
 | r0::rs,h,h',e,r,hr=>by
  unfold zco at e
  split at e
  ·rename_i x y hx hy
   split at e
   ·split at e
    ·rcases List.mem_cons.mp hr with rfl | hr
     ·exact ⟨x,hx⟩
     ·exact yem rs _ _ e r hr
    ·cases e
   ·cases e
  ·cases e
theorem ygj {bins g:List Int} {b:Int} : ∀ rows:List Int,(∀ r∈rows,∃ x,atI bins r=some x)→(zcz bins rows b).length+(zfm bins rows b).length=rows.length∧zgd g (zcz bins rows b)+zgd g (zfm bins rows b)=zgd g rows
 | [],_=>by simp [zcz,zfm,zgd]
 | r::rs,h=>by
  obtain ⟨x,hx⟩:=h r (by simp)
  obtain ⟨h1,h2⟩:=ygj (b:=b) (g:=g) rs (fun r hr=>h r (by simp [hr]))
  have hB:zjv bins b r=decide (x≤b):=by unfold zjv; rw [hx]
  have hC:zs5 bins b r = !decide (x≤b):=by unfold zs5; rw [hx]
  unfold zcz zfm at *
  rw [List.filter_cons,List.filter_cons,hB,hC]
  by_cases hxb:x≤b
  ·simp only [decide_eq_true hxb,Bool.not_true,Bool.false_eq_true,if_true,if_false,zzg,List.length_cons]
   omega
  ·simp only [decide_eq_false hxb,Bool.not_false,Bool.false_eq_true,if_true,if_false,zzg,List.length_cons]
   omega
theorem z2p {f:Int} {all:Sl} {least:Int} {p:Cnd→Prop} {l:List Sl} (hp : ∀ (b:Nat) (x:Sl),l[b]?=some x→(zdq all x).2=true→p ⟨f,b,x,(zdq all x).1⟩) : ∀ (k i:Nat) (acc a:List Cnd),i+k=l.length→(∀ x∈acc,p x)→zfh f all least i (l.drop i) acc=some a→∀ x∈a,p x
 | 0,i,acc,a,hk,ha,h=>by
  rw [ztz acc (by omega)] at h
  cases h
  exact ha
 | k+1,i,acc,a,hk,ha,h=>by
  by_cases hi:i+1<l.length
  ·obtain ⟨x,hx⟩ : ∃ x,l[i]?=some x:=⟨_,List.getElem?_eq_getElem (by omega)⟩
   rw [z2k acc hx hi] at h
   split at h
   ·rename_i hm
    split at h
    ·exact z2p hp k (i+1) _ _ (by omega) (fun y hy=>by
      rcases List.mem_append.mp hy with e | e
      ·exact ha y e
      ·simp only [List.mem_singleton] at e; subst e; exact hp i x hx hm) h
    ·exact z2p hp k (i+1) _ _ (by omega) ha h
   ·cases h
  ·rw [ztz acc hi] at h
   cases h
   exact ha
def zz0 (H:List (List Sl)) (x:Cnd):Prop := ∃ (f b:Nat) (h:List Sl),x.f=f∧x.b=b∧H[f]?=some h∧(zcp h).2=true∧(zcp h).1[b]?=some x.a∧(zdq (zhy (zcp h).1) x.a).2=true∧x.z=(zdq (zhy (zcp h).1) x.a).1
theorem ydo {least:Int} {H:List (List Sl)} : ∀ (k i:Nat) (acc a:List Cnd),i+k=H.length→(∀ x∈acc,zz0 H x)→zeq least i (H.drop i) acc=some a→∀ x∈a,zz0 H x
 | 0,i,acc,a,hk,ha,h=>by
  rw [List.drop_eq_nil_of_le (by omega),zeq] at h
  cases h
  exact ha
 | k+1,i,acc,a,hk,ha,h=>by
  obtain ⟨l,hx⟩ : ∃ x,H[i]?=some x:=⟨_,List.getElem?_eq_getElem (by omega)⟩
  rw [z4v acc hx] at h
  split at h
  ·rename_i hp
   split at h
   ·rename_i a' h'
    have h'':zfh i (zhy (zcp l).1) least ((0:Nat):Int) ((zcp l).1.drop 0) acc=some a':=by simpa using h'
    exact ydo k (i+1) a' a (by omega) (z2p (p:=zz0 H) (fun b x hb hm=>⟨i,b,l,rfl,rfl,hx,hp,hb,hm,rfl⟩) (zcp l).1.length 0 acc a' (by omega) ha h'') h
   ·cases h
  ·cases h
theorem yqi {least:Int} {H:List (List Sl)} : ∀ x∈zfs H least,zz0 H x:=by
 unfold zfs
 cases h:zeq least 0 H [] with
 | none=>simp
 | some a =>
  have h':zeq least ((0:Nat):Int) (H.drop 0) []=some a:=by simpa using h
  exact ydo H.length 0 [] a (by omega) (fun x hx=>by cases hx) h'
theorem yew {a b:Int} (h:(sbi a b).2=true):(sbi a b).1=a-b:=by
 unfold sbi at h ⊢
 split
 ·rfl
 ·rename_i hc; rw [if_neg hc] at h; cases h
theorem yvx {a b:Sl} (h:(zdq a b).2=true):(zdq a b).1.n=a.n-b.n∧(zdq a b).1.g=a.g-b.g:=by
 unfold zdq at h ⊢
 split
 ·rename_i hc
  simp only [Bool.and_eq_true] at hc
  exact ⟨yew hc.1,yew hc.2⟩
 ·rename_i hc; rw [if_neg hc] at h; cases h
theorem ygx {g rows:List Int} : ∀ (c v:List (List Int)) (H:List (List Sl)) (f:Nat) (h:List Sl),zb3 g rows c v=some H→H[f]?=some h→∃ x y:List Int,v[f]?=some y∧(zcu y g rows (x.length+1:Nat)).2=true∧h=(zcu y g rows (x.length+1:Nat)).1
 | [],v,H,f,h,e,hf=>by simp [zb3] at e; subst e; simp at hf
 | x::c,[],H,f,h,e,hf=>by simp [zb3] at e; subst e; simp at hf
 | x::c,y::v,H,f,h,e,hf=>by
  simp only [zb3] at e
  split at e
  ·rename_i hp
   simp only [Option.map_eq_some_iff] at e
   obtain ⟨H',h1,rfl⟩:=e
   cases f with
   | zero =>
    simp at hf
    exact ⟨x,y,rfl,by simpa using hp,by rw [← hf]; simp⟩
   | succ f =>
    simp at hf
    obtain ⟨x',y',h2,h3⟩:=ygx c v H' f h h1 hf
    exact ⟨x',y',by simpa using h2,h3⟩
  ·cases e
theorem yrf {c v:List (List Int)} {g:List Int} {cfg:Cfg} {rows:List Int} {b:Bd} (h:(zbc c v g cfg rows b).2=true) : ∃ (f k:Nat) (y:List Int),(zbc c v g cfg rows b).1.f=f∧(zbc c v g cfg rows b).1.b=k∧v[f]?=some y∧zem g (zcz y rows k)=(zbc c v g cfg rows b).1.a∧zem g (zfm y rows k)=(zbc c v g cfg rows b).1.z:=by
 obtain ⟨h1,h2⟩:=yfc h
 have hc:(zbc c v g cfg rows b).1∈zfs (zcc c v g rows).1 cfg.rw:=by
  unfold zbc at h ⊢
  split
  ·rename_i e1
   rw [if_pos e1,if_pos h2] at h
   exact (yeo h).1
  ·rename_i e1
   rw [if_neg e1] at h; cases h
 obtain ⟨f,k,l,e1,e2,e3,e4,e5,e6,e7⟩:=yqi _ hc
 have hN : ∃ H,zb3 g rows c v=some H∧(zcc c v g rows).1=H:=by
  unfold zcc at h2 ⊢
  split at h2
  ·rename_i hg
   rw [if_pos hg]
   cases e:zb3 g rows c v with
   | none=>rw [e] at h2; cases h2
   | some H=>exact ⟨H,rfl,rfl⟩
  ·cases h2
 obtain ⟨H,hH,hH2⟩:=hN
 rw [hH2] at e3
 obtain ⟨x,y,hy,hok,rfl⟩:=ygx c v H f l hH e3
 generalize (zbc c v g cfg rows b).1=C at *
 obtain ⟨Cf,Cb,Ca,Cz⟩:=C
 simp only at e1 e2 e5 e6 e7 ⊢
 refine ⟨f,k,y,e1,e2,hy,?_⟩
 have ⟨hs1,hs2⟩:=ysb hok
 unfold zcu at hok e4 e5 e6 e7 hs1 hs2
 split at hok
 ·rename_i hw
  rw [if_pos hw] at e4 e5 e6 e7 hs1 hs2
  cases eh:zco y g rows (List.replicate (((x.length+1:Nat):Int)).toNat ⟨0,0⟩) with
  | none=>rw [eh] at hok; cases hok
  | some hh =>
   rw [eh] at e4 e5 e6 e7 hs1 hs2
   simp only at e4 e5 e6 e7 hs1 hs2
   obtain ⟨t1,t2⟩:=z9x rows _ _ eh k
   rw [List.take_replicate] at t1 t2
   obtain ⟨z1,z2⟩:=yd3 (min (k+1) (((x.length+1:Nat):Int)).toNat)
   rw [z1] at t1
   rw [z2] at t2
   have hval:=yem rows _ _ eh
   obtain ⟨a1,a2⟩:=ygj (g:=g) (b:=(k:Int)) rows hval
   unfold zcp at e4 e5 e6 e7
   cases ep:zdm ⟨0,0⟩ hh with
   | none=>rw [ep] at e4; cases e4
   | some pl =>
    rw [ep] at e5 e6 e7
    simp only at e5 e6 e7
    obtain ⟨p1,p2⟩:=yau hh _ _ ep k Ca e5
    obtain ⟨m1,m2⟩:=yvx e6
    obtain ⟨q1,q2⟩:=yaz hh _ _ ep
    rw [← e7] at m1 m2
    simp only [zhy] at m1 m2
    obtain ⟨an,ag⟩:=Ca
    obtain ⟨zn,zg⟩:=Cz
    simp only at p1 p2 q1 q2 m1 m2
    unfold zem
    have g1 : ∀ r:List Int,(r.map fun r=>(atI g r).getD 0).sum=zgd g r:=fun r=>rfl
    rw [g1,g1]
    simp only [Sl.mk.injEq]
    omega
 ·cases hok
structure zk9 (a b:Cfg):Prop where
 la:a.la=b.la
 rw:a.rw=b.rw
 de:a.de=b.de
 ok:za1 a=za1 b
 sg : ∀ f,zfu a f=zfu b f
theorem z4t {a b:Cfg} (h:zk9 a b) (bd:Bd) (x:Cnd):zcg a bd x=zcg b bd x:=by
 unfold zcg; rw [h.la]
theorem yvk {a b:Cfg} (h:zk9 a b) (bd:Bd) (x:Cnd):zd4 a bd x=zd4 b bd x:=by
 unfold zd4; rw [z4t h,h.ok,h.la,h.rw,h.sg]
theorem yxx {a b:Cfg} (h:zk9 a b) (bd:Bd) (l:List Cnd):zfg a bd l=zfg b bd l:=by
 have e1:zd4 a bd=zd4 b bd:=funext fun x=>yvk h bd x
 have e2:zle a bd l=zle b bd l:=by
  funext x
  unfold zle
  have e3:noB a bd x=noB b bd x:=by
   funext y
   unfold noB; rw [e1,h.la]
  rw [e1,e3]
 unfold zfg
 rw [e2]
theorem yek {a b:Cfg} (h:zk9 a b) (c v:List (List Int)) (g:List Int):zfw c v g a=zfw c v g b:=by
 unfold zfw; rw [h.ok]
theorem ycr {a b:Cfg} (h:zk9 a b) (c v:List (List Int)) (g rows:List Int) (bd:Bd):zbc c v g a rows bd=zbc c v g b rows bd:=by
 unfold zbc; rw [yek h,yxx h,h.rw]
theorem yf9 {a b:Cfg} (h:zk9 a b) (c v:List (List Int)) (g:List Int) : ∀ (n:Nat) (q:List Pnd) (i:Nat) (out:List Nd),zc9 c v g a n q i out=zc9 c v g b n q i out
 | 0,q,i,out=>rfl
 | n+1,q,i,out=>by
  unfold zc9
  cases q[i]? with
  | none=>rfl
  | some x =>
   have e1:goes c v g a x=goes c v g b x:=by unfold goes; rw [h.de,ycr h]
   have e2 : ∀ k,zif c v a x k=zif c v b x k:=fun k=>by unfold zif; rw [z4t h,h.sg]
   have e3 : ∀ k,zhx c v a x k=zhx c v b x k:=fun k=>by unfold zhx; rw [z4t h,h.sg]
   have e4:zen g a x=zen g b x:=by unfold zen; rw [h.la]
   simp only [e1,e2,e3,e4,ycr h,yf9 h c v g n]
theorem yu6 {a b:Cfg} (h:zk9 a b) (c v:List (List Int)) (g:List Int):zb7 c v g a=zb7 c v g b:=by
 unfold zb7; rw [yek h,yf9 h]
theorem yxa (cs:List PV) (h:zbz [.int .u8] cs) : ∃ n:Int,[PV.v (.int .u8 n)]=cs∧True:=by
 simp only [zbz,Shp] at h
 obtain ⟨_,_,rfl,⟨a,rfl,h1⟩,rfl⟩:=h
 exact ⟨a,rfl,trivial⟩
theorem yzx {c:PV} (h:zlg false [.sl [.int .u8]] c) : ∃ B:List Int,c = .sl 1 (zbl B)∧B.length≤9223372036854775807:=by
 simp only [zlg,Bool.false_eq_true,if_false,zbz,Shp] at h
 obtain ⟨c',r,e,⟨es,he,h1,h2⟩,hr⟩:=h
 simp only [List.cons.injEq] at e
 obtain ⟨l,hl,hp⟩:=yc4 (f:=fun n:Int=>[PV.v (.int .u8 n)]) (tys:=[.int .u8]) yxa h2
 subst hl
 simp [maxLen] at h1
 exact ⟨l,e.1.trans he,by omega⟩
inductive SN where
 | mk (f c v:Int) (ks:List SN)
def z26 (q:Bool) (es:List (List PV)):PV:=if q then .own 4 es else .sl 4 es
mutual
def snC (q:Bool):SN→List PV
 | .mk f c v ks=>[iv f,iv c,iv v,z26 q (snL q ks)]
def snL (q:Bool):List SN→List (List PV)
 | []=>[]
 | s::ss=>snC q s::snL q ss
end
theorem ybi (q:Bool) : ∀ ks:List SN,snL q ks=ks.map (snC q)
 | []=>by simp [snL]
 | k::ks=>by simp [snL,ybi q ks]
@[simp] theorem qj2 (q:Bool) (ks:List SN):(snL q ks).length=ks.length:=by rw [ybi]; simp
@[simp] theorem y4d (q:Bool) (es:List (List PV)):fz (z26 q es) = .sl 4 es:=by cases q <;> simp [z26]
theorem ywu {c:Cfg} (h:za1 c=true):1≤c.la∧c.la≤100∧0≤c.de∧c.de≤4:=by
 unfold za1 at h
 simp only [Bool.and_eq_true,za2] at h
 omega
def yfj (v:List (List Int)) (g rows:List Int) (f k:Nat):Cnd:=⟨f,k,zem g (zcz (v.getD f []) rows k),zem g (zfm (v.getD f []) rows k)⟩
def NI (S:Nat→Option Ob) (nx k:Nat) (m:List Int) (x:PV):Prop:=(x = .e0∧m=[])∨∃ o e,x = .ref o none e 0 m.length∧k<o∧o<nx∧S o=some (.row 1 (zac m))
theorem NI.up {S S':Nat→Option Ob} {nx nx' k:Nat} {l:List Int} {Y:PV} (h:NI S nx k l Y) (hn:nx≤nx') (hS : ∀ o e n,Y = .ref o none e 0 n→k<o→o<nx→S' o=S o):NI S' nx' k l Y:=by
 rcases h with h | ⟨o,e,h1,h2,h3,h4⟩
 ·exact .inl h
 ·exact .inr ⟨o,e,h1,h2,by omega,by rw [hS o e _ h1 h2 h3]; exact h4⟩
structure GH (c v:List (List Int)) (g:List Int) (cfg:Cfg):Prop where
 tk:zfw c v g cfg=true
 sg:cfg.sg.length≤1048576
theorem GH.la {c v:List (List Int)} {g:List Int} {cfg:Cfg} (h:GH c v g cfg):1≤cfg.la∧cfg.la≤100∧0≤cfg.de∧cfg.de≤4:=ywu (z0t h.tk).2.1
def WB (v:List (List Int)) (g rows:List Int) (la:Int) (S:Nat→Option Ob) (nx:Nat) (acc:Option Cnd) (B:List PV) (fd:PV):Prop:=(acc=none∧B=[iv 0,iv 0,.e0,.e0,bv false,uv 0,uv 0,iv 0]∧fd=bv false)∨∃ (f k o e p e':Nat),acc=some (yfj v g rows f k)∧B=[iv f,iv k,.ref o none e 0 (zcz (v.getD f []) rows k).length,.ref p none e' 0 (zfm (v.getD f []) rows k).length]++frc (zcy (yfj v g rows f k) la).1∧fd=bv true∧4<o∧o<nx∧4<p∧p<nx∧¬ o=p∧S o=some (.row 1 (zac (zcz (v.getD f []) rows k)))∧S p=some (.row 1 (zac (zfm (v.getD f []) rows k)))
theorem WB.up {v:List (List Int)} {g rows:List Int} {la:Int} {S S':Nat→Option Ob} {nx nx':Nat} {acc:Option Cnd} {B:List PV} {fd:PV} (h:WB v g rows la S nx acc B fd) (hn:nx≤nx') (hS : ∀ o,4<o→o<nx→S' o=S o):WB v g rows la S' nx' acc B fd:=by
 rcases h with h | ⟨f,k,o,e,p,e',h1,h2,h3,h4,h5,h6,h7,h8,h9,h10⟩
 ·exact .inl h
 ·exact .inr ⟨f,k,o,e,p,e',h1,h2,h3,h4,by omega,h6,by omega,h8,by rw [hS o h4 h5]; exact h9,by rw [hS p h6 h7]; exact h10⟩
theorem NC.up {S S':Nat→Option Ob} {nx nx' oq oq':Nat} {m:List Nd} {x:PV} (h:NC S nx oq m x) (hn:nx≤nx') (ho:oq'=oq∨nx≤oq') (hS : ∀ p,5<p→p<nx→¬ p=oq→S' p=S p):NC S' nx' oq' m x:=by
 rcases h with h | ⟨p,e,h1,h2,h3,h4,h5⟩
 ·exact .inl h
 ·exact .inr ⟨p,e,h1,h2,by omega,by omega,by rw [hS p h2 h3 h4]; exact h5⟩
def okP (g:List Int) (cfg:Cfg) (x:Pnd):Prop:=zty g.length cfg.de x∧zkg x.b=true
def Str (c v:List (List Int)) (g:List Int) (cfg:Cfg) (Q:List Pnd) (F:List Nd) (j:Nat):Prop := ∃ (x:Pnd) (L:Nat),Q[j]?=some x∧okP g cfg x∧F[j]?=some (if goes c v g cfg x=true then zrc c (zbc c v g cfg x.r x.b).1 L else zen g cfg x)∧(goes c v g cfg x=true→j<L∧Q[L]?=some (zif c v cfg x (zbc c v g cfg x.r x.b).1)∧Q[L+1]?=some (zhx c v cfg x (zbc c v g cfg x.r x.b).1))
theorem z0j {α:Type} {l m:List α} {i:Nat} {x:α} (h:l[i]?=some x):(l++m)[i]?=some x:=by
 rw [List.getElem?_append_left (List.getElem?_eq_some_iff.mp h).1]; exact h
theorem Str.up {c v:List (List Int)} {g:List Int} {cfg:Cfg} {Q R:List Pnd} {F E:List Nd} {j:Nat} (h:Str c v g cfg Q F j):Str c v g cfg (Q++R) (F++E) j:=by
 obtain ⟨x,L,h1,h2,h3,h4⟩:=h
 exact ⟨x,L,z0j h1,h2,z0j h3,fun hg=>⟨(h4 hg).1,z0j (h4 hg).2.1,z0j (h4 hg).2.2⟩⟩
def inR (R x:Int):Prop := -R≤x∧x≤R
def bdR (R:Int) (b:Bd):Prop:=b.lo≤R ∧ -R≤b.hi
theorem z1x {a m R:Int} (hm:0<m) (h1 : -(R*m)≤a) (h2:a≤R*m):inR R (a.fdiv m):=by
 rw [Int.fdiv_eq_ediv_of_nonneg _ (by omega)]
 exact ⟨(Int.le_ediv_iff_mul_le hm).mpr (by rw [Int.neg_mul]; exact h1),Int.ediv_le_of_le_mul hm h2⟩
theorem zgw {R:Int} (h:0≤R):inR R 0:=⟨by omega,h⟩
theorem yeu {R x:Int} {b:Bd} (h:inR R x) (hb:bdR R b):inR R (zfz x b.lo b.hi):=by
 unfold zfz inR bdR at *
 split
 ·omega
 ·split <;> omega
theorem ytf {R:Int} {g:List Int} (hR:0≤R) (hg : ∀ x∈g,inR R x) (r:Int):inR R ((atI g r).getD 0):=by
 unfold atI
 split
 ·cases h:g[r.toNat]? with
  | none=>exact zgw hR
  | some x=>exact hg x (List.mem_of_getElem? h)
 ·exact zgw hR
theorem ydx {R:Int} {g:List Int} (hR:0≤R) (hg : ∀ x∈g,inR R x) : ∀ rows:List Int,-(R*rows.length)≤(zem g rows).g∧(zem g rows).g≤R*rows.length
 | []=>by simp [zem]
 | r::rs=>by
  have ih:=ydx hR hg rs
  have h1:=ytf hR hg r
  have e:R*((r::rs).length:Int)=R*rs.length+R:=by
   simp only [List.length_cons]; push_cast; rw [Int.mul_add,Int.mul_one]
  rw [e]
  unfold inR at h1
  simp only [zem,List.map_cons,List.sum_cons] at *
  omega
theorem z3t {R:Int} {g:List Int} (hR:0≤R) (hg : ∀ x∈g,inR R x) (rows:List Int) (l:Int) {b:Bd} (hb:bdR R b):inR R (zfk (zem g rows) l b).1:=by
 unfold zfk
 split
 ·rename_i hc
  simp only [Bool.and_eq_true] at hc
  have h1:=hc.1
  unfold zke at h1
  simp only [Bool.and_eq_true] at h1
  have hn:=za2.mp h1.1
  have hl:=za2.mp h1.2
  refine yeu ?_ hb
  unfold fdv
  split
  ·exact zgw hR
  ·obtain ⟨s1,s2⟩:=ydx hR hg rows
   have e:(zem g rows).n=rows.length:=rfl
   rw [e]
   have hm:R*rows.length≤R*(rows.length+l):=Int.mul_le_mul_of_nonneg_left (by omega) hR
   exact z1x (by omega) (by omega) (by omega)
 ·exact zgw hR
theorem yrk {R:Int} {c v:List (List Int)} {g rows:List Int} {cfg:Cfg} {b:Bd} (hR:0≤R) (hg : ∀ x∈g,inR R x) (hb:bdR R b) (h:(zbc c v g cfg rows b).2=true):inR R (zcg cfg b (zbc c v g cfg rows b).1).1∧inR R (zcg cfg b (zbc c v g cfg rows b).1).2.1:=by
 obtain ⟨f,k,y,_,_,_,ha,hz⟩:=yrf h
 unfold zcg
 rw [← ha,← hz]
 split
 ·exact ⟨z3t hR hg _ _ hb,z3t hR hg _ _ hb⟩
 ·exact ⟨zgw hR,zgw hR⟩
theorem yum {R s l r:Int} {b:Bd} (hb:bdR R b) (hl:inR R l) (hr:inR R r):bdR R (zie s b l r).1∧bdR R (zie s b l r).2:=by
 have hh:inR R (zhv l r):=by unfold zhv inR at *; omega
 have hm:=yeu hh hb
 unfold zie
 generalize zfz (zhv l r) b.lo b.hi=m at *
 unfold inR bdR at *
 split
 ·split
  ·simp only; omega
  ·split <;> simp only <;> omega
 ·simp only; omega
theorem z4g {R:Int} {c v:List (List Int)} {g:List Int} {cfg:Cfg} (hR:0≤R) (hg : ∀ x∈g,inR R x) : ∀ (n:Nat) (q:List Pnd) (i:Nat) (out:List Nd),(∀ x∈q,bdR R x.b)→(∀ x∈out,inR R x.v)→∀ x∈zc9 c v g cfg n q i out,inR R x.v
 | 0,q,i,out,_,ho=>ho
 | n+1,q,i,out,hq,ho=>by
  cases hx:q[i]? with
  | none=>rw [ybd hx]; exact ho
  | some x =>
   have hb:=hq x (List.mem_of_getElem? hx)
   cases hgo:goes c v g cfg x with
   | false =>
    rw [z9t hx hgo]
    refine z4g hR hg n _ _ _ hq fun y hy => ?_
    rcases List.mem_append.mp hy with hy | hy
    ·exact ho y hy
    ·simp only [List.mem_singleton] at hy
     subst hy
     exact z3t hR hg _ _ hb
   | true =>
    rw [ydk hx hgo]
    have hp:(zbc c v g cfg x.r x.b).2=true:=by
     unfold goes at hgo
     simp only [Bool.and_eq_true] at hgo
     exact hgo.2
    obtain ⟨s1,s2⟩:=yrk hR hg hb hp
    obtain ⟨k1,k2⟩:=yum (s:=zfu cfg (zbc c v g cfg x.r x.b).1.f) hb s1 s2
    refine z4g hR hg n _ _ _ (fun y hy => ?_) fun y hy => ?_
    ·rcases List.mem_append.mp hy with hy | hy
     ·exact hq y hy
     ·simp only [List.mem_cons,List.not_mem_nil,or_false] at hy
      rcases hy with rfl | rfl
      ·exact k1
      ·exact k2
    ·rcases List.mem_append.mp hy with hy | hy
     ·exact ho y hy
     ·simp only [List.mem_singleton] at hy
      subst hy
      exact zgw hR
theorem yae {R:Int} {c v:List (List Int)} {g:List Int} {cfg:Cfg} (hR:0≤R) (hg : ∀ x∈g,inR R x) : ∀ x∈(zb7 c v g cfg).1,inR R x.v:=by
 unfold zb7
 split
 ·show ∀ x∈zc9 c v g cfg 32 [zf8 g] 0 [],inR R x.v
  refine z4g hR hg 32 _ _ _ (fun x hx => ?_) (fun x hx=>by cases hx)
  simp only [List.mem_singleton] at hx
  subst hx
  exact ⟨by show -1099511627776≤R; omega,by show -R≤1099511627776; omega⟩
 ·simp
theorem yyt {R v:Int} {c:Cfg} (hR:0≤R) (h:inR R v):inR R (shr v c).1:=by
 unfold shr
 split
 ·rename_i hc
  simp only [Bool.and_eq_true] at hc
  obtain ⟨_,_,_,_,_,hd,hn,_⟩:=zir hc.1
  obtain ⟨h1,h2⟩:=h
  have a1:v*c.nu≤R*c.nu:=Int.mul_le_mul_of_nonneg_right h2 (by omega)
  have a2:R*c.nu≤R*c.dn:=Int.mul_le_mul_of_nonneg_left (by omega) hR
  have a3 : -R*c.nu≤v*c.nu:=Int.mul_le_mul_of_nonneg_right h1 (by omega)
  rw [Int.neg_mul] at a3
  exact z1x (by omega) (by omega) (by omega)
 ·exact zgw hR
theorem yb2 {R:Int} {c:Cfg} {t:List Nd} (hR:0≤R) (h : ∀ x∈t,inR R x.v) : ∀ x∈(zf1 c t).1,inR R x.v:=by
 unfold zf1
 split
 ·intro x hx
  obtain ⟨y,hy,rfl⟩:=List.mem_map.mp hx
  unfold zf9
  split
  ·exact yyt hR (h y hy)
  ·exact h y hy
 ·simp
theorem z92 {R:Int} {t:List Nd} (hR:0≤R) (h : ∀ x∈t,inR R x.v) (row:List Int):inR R (evt t row):=by
 unfold evt
 split
 ·exact zgw hR
 ·cases e:t[(rto t row).toNat]? with
  | none=>exact zgw hR
  | some x=>exact h x (List.mem_of_getElem? e)
def noS:Sta:=⟨[],[]⟩
def zhb (tr:List Nd):List Int→List (List Int)→Option (List Int)
 | p::ps,r::rs=>if (adi p (evt tr r)).2=true then (zhb tr ps rs).map ((adi p (evt tr r)).1 :: ·) else none
 | _,_=>some []
def zlb (t:Ta) (c v:List (List Int)) (cfg:Cfg) (s:Sta):List Nd×Bool:=if ((zdn t.lb s.sm).2 && (zb7 c v (zdn t.lb s.sm).1 cfg).2)=true then zf1 cfg (zb7 c v (zdn t.lb s.sm).1 cfg).1 else ([],false)
def zqr (t:Ta) (tr:List Nd) (s:Sta):Sta×Bool:=match zhb tr s.sm t.rw with
 | some p=>(⟨p,s.ts++[tr]⟩,true)
 | none=>(noS,false)
def zni (t:Ta) (c v:List (List Int)) (cfg:Cfg) (s:Sta):Sta×Bool:=if (zlb t c v cfg s).2=true then zqr t (zlb t c v cfg s).1 s else (noS,false)
def zhc (t:Ta) (c v:List (List Int)) (cfg:Cfg) (s:Sta):Sta×Bool:=if za9 t=true∧c=zbx t cfg.bi∧v=zbt t cfg.bi then zni t c v cfg s else (noS,false)
def rnd (t:Ta) (cfg:Cfg) (s:Sta):Sta×Bool:=zhc t (zbx t cfg.bi) (zbt t cfg.bi) cfg s
def zfa (t:Ta) (cfg:Cfg):Nat→Option Sta
 | 0=>some (zfn t).1
 | n+1=>(zfa t cfg n).bind fun s=>if (rnd t cfg s).2=true then some (rnd t cfg s).1 else none
def zd3 (t:Ta) (cfg:Cfg):Sta×Bool:=if (za9 t && za1 cfg)=true then match zfa t cfg cfg.ro.toNat with
 | some s=>(s,true)
 | none=>(noS,false)
 else (noS,false)
theorem z9p {tr:List Nd} : ∀ {ps:List Int} {rs:List (List Int)},ps.length=rs.length→(∀ p∈ps,∀ r∈rs,(adi p (evt tr r)).2=true)→∃ q,zhb tr ps rs=some q∧q.length=ps.length∧∀ (i:Nat) (p:Int) (r:List Int),ps[i]?=some p→rs[i]?=some r→q[i]?=some (p+evt tr r)
 | [],[],_,_=>⟨[],rfl,rfl,by simp⟩
 | p::ps,r::rs,hl,h=>by
  have h1:=h p (by simp) r (by simp)
  obtain ⟨q,h2,h3,h4⟩:=z9p (ps:=ps) (rs:=rs) (by simpa using hl) (fun p hp r hr=>h p (by simp [hp]) r (by simp [hr]))
  refine ⟨(adi p (evt tr r)).1::q,by rw [zhb,if_pos h1,h2]; rfl,by simp [h3],fun i p' r' e1 e2 => ?_⟩
  cases i with
  | zero =>
   simp at e1 e2
   subst e1 e2
   unfold adi at h1 ⊢
   split at h1
   ·rename_i hc; rw [if_pos hc]; rfl
   ·cases h1
  | succ i=>simpa using h4 i p' r' (by simpa using e1) (by simpa using e2)
structure StI (t:Ta) (n:Nat) (s:Sta):Prop where
 l:s.sm.length=t.lb.length
 k:s.ts.length=n
 r : ∀ (i:Nat) (y p:Int),t.lb[i]?=some y→s.sm[i]?=some p→inR (4294967296*2 ^ n) (y-p)
theorem zzj {t:Ta} (h:za9 t=true) : ∀ y∈t.lb,inR 2147483647 y:=by
 unfold za9 at h
 simp only [Bool.and_eq_true,List.all_eq_true] at h
 intro y hy
 have:=h.1.2 y hy
 unfold zbg at this
 exact za2.mp this
theorem ybs {R:Int} : ∀ {l:List Int} {a b:Int},(∀ y∈l,inR R y)→zi5 a l=some b→a-R*l.length≤b∧b≤a+R*l.length
 | [],a,b,_,h=>by simp [zi5] at h; simp; omega
 | x::xs,a,b,hl,h=>by
  rw [zi5] at h
  split at h
  ·rename_i hc
   have h1:=ybs (fun y hy=>hl y (by simp [hy])) h
   have h2:=hl x (by simp)
   have e:R*((x::xs).length:Int)=R*xs.length+R:=by
    simp only [List.length_cons]; push_cast; rw [Int.mul_add,Int.mul_one]
   rw [e]
   have e2:(adi a x).1=a+x:=by
    unfold adi at hc ⊢
    split at hc
    ·rename_i hd; rw [if_pos hd]
    ·cases hc
   rw [e2] at h1
   unfold inR at h2
   omega
  ·cases h
theorem yyc {t:Ta} (h:za9 t=true):inR 2147483647 (zct t.lb).1:=by
 obtain ⟨t1,t2,t3,t4,t5,t6⟩:=zhl h
 unfold zct
 cases e:zi5 0 t.lb with
 | none=>exact zgw (by omega)
 | some b =>
  have:=ybs (zzj h) e
  simp only
  unfold fdv
  split
  ·exact zgw (by omega)
  ·exact z1x (by omega) (by omega) (by omega)
theorem StI.new {t:Ta} (h:za9 t=true):StI t 0 (zfn t).1:=by
 have hb:=yyc h
 unfold zfn
 rw [if_pos h]
 refine ⟨by simp,rfl,fun i y p h1 h2 => ?_⟩
 simp only at h2
 have hy:=zzj h y (List.mem_of_getElem? h1)
 have hp:p=(zct t.lb).1:=by
  have:=List.mem_of_getElem? h2
  exact (List.mem_replicate.mp this).2
 subst hp
 unfold inR at *
 omega
theorem yxu {t:Ta} {n:Nat} {s:Sta} (H:StI t n s) (hn:n≤8):(zdn t.lb s.sm).2=true∧(zdn t.lb s.sm).1.length=t.lb.length∧∀ x∈(zdn t.lb s.sm).1,inR (4294967296*2 ^ n) x:=by
 have hp:(2:Int) ^ n≤256:=by
  have h1:=Nat.pow_le_pow_right (n:=2) (by omega) hn
  have h2:(2:Int) ^ n=((2 ^ n:Nat):Int):=by push_cast; rfl
  omega
 have key : ∀ (l m:List Int),l.length=m.length→(∀ (i:Nat) (y p:Int),l[i]?=some y→m[i]?=some p→inR (4294967296*2 ^ n) (y-p))→∃ r,res l m=some r∧r.length=l.length∧∀ x∈r,inR (4294967296*2 ^ n) x:=by
  intro l
  induction l with
  | nil=>intro m hl _; exact ⟨[],yd8 m,rfl,by simp⟩
  | cons y l ih =>
   intro m hl hr
   cases m with
   | nil=>simp at hl
   | cons p m =>
    obtain ⟨r,h1,h2,h3⟩:=ih m (by simpa using hl) (fun i y p e1 e2=>hr (i+1) y p (by simpa using e1) (by simpa using e2))
    have h0:=hr 0 y p rfl rfl
    have hs:sbi y p=(y-p,true):=by
     unfold sbi
     rw [if_pos]
     unfold inR at h0
     omega
    refine ⟨(y-p)::r,by rw [res,hs]; simp [h1],by simp [h2],fun x hx => ?_⟩
    rcases List.mem_cons.mp hx with rfl | hx
    ·exact h0
    ·exact h3 x hx
 obtain ⟨r,h1,h2,h3⟩:=key t.lb s.sm H.l.symm H.r
 unfold zdn
 rw [if_pos H.l.symm,h1]
 exact ⟨rfl,h2,h3⟩
theorem ybv {t:Ta} {cfg:Cfg} {n:Nat} {s:Sta} (h:za9 t=true) (hc:za1 cfg=true) (H:StI t n s) (hn:n≤7):(rnd t cfg s).2=true∧StI t (n+1) (rnd t cfg s).1∧∃ tr,(rnd t cfg s).1.ts=s.ts++[tr]∧(∀ x∈tr,inR 1099511627776 x.v)∧tr.length≤32∧∀ (i:Nat) (p:Int) (r:List Int),s.sm[i]?=some p→t.rw[i]?=some r→(rnd t cfg s).1.sm[i]?=some (p+evt tr r):=by
 obtain ⟨t1,t2,t3,t4,t5,t6⟩:=zhl h
 obtain ⟨_,_,hb,_⟩:=zir hc
 have hbi:zal cfg.bi 2 8=true:=za2.mpr (by omega)
 have hg:=yr6 h hbi
 have hrw:=ybl h hbi
 obtain ⟨r1,r2,r3⟩:=yxu H (by omega)
 have hp:(2:Int) ^ n≤128:=by
  have h1:=Nat.pow_le_pow_right (n:=2) (by omega) hn
  have h2:(2:Int) ^ n=((2 ^ n:Nat):Int):=by push_cast; rfl
  omega
 have hp0:(0:Int)≤2 ^ n:=Int.pow_nonneg (by omega)
 have hs:(2:Int) ^ (n+1)=2*2 ^ n:=by rw [Int.pow_succ]; omega
 obtain ⟨R,hR⟩ : ∃ R:Int,R=4294967296*2 ^ n:=⟨_,rfl⟩
 rw [← hR] at r3
 have hR0:0≤R:=by omega
 have hR1:R≤549755813888:=by omega
 have hgr:(zb7 (zbx t cfg.bi) (zbt t cfg.bi) (zdn t.lb s.sm).1 cfg).2=true:=by
  unfold zb7
  rw [if_pos]
  unfold zfw
  rw [hg,hc,decide_eq_true (by rw [r2,hrw]; omega),List.all_eq_true.mpr fun x hx => ?_]
  ·rfl
  ·have:=r3 x hx
   unfold inR at this
   exact za2.mpr (by omega)
 have hv:=yae (c:=zbx t cfg.bi) (v:=zbt t cfg.bi) (cfg:=cfg) hR0 r3
 have hk:(zb7 (zbx t cfg.bi) (zbt t cfg.bi) (zdn t.lb s.sm).1 cfg).1.all (zgy cfg)=true:=by
  rw [List.all_eq_true]
  intro x hx
  have:=hv x hx
  unfold inR at this
  unfold zgy shr
  rw [if_pos (by rw [hc]; exact za2.mpr (by omega))]
  simp
 have hT:zlb t (zbx t cfg.bi) (zbt t cfg.bi) cfg s=((zb7 (zbx t cfg.bi) (zbt t cfg.bi) (zdn t.lb s.sm).1 cfg).1.map (zf9 cfg),true):=by
  unfold zlb
  rw [if_pos (by rw [r1,hgr]; rfl)]
  unfold zf1
  rw [if_pos hk]
 have htl:((zb7 (zbx t cfg.bi) (zbt t cfg.bi) (zdn t.lb s.sm).1 cfg).1.map (zf9 cfg)).length≤32:=by rw [List.length_map]; exact yd1 _ _ _ _
 have hv2:=yb2 (c:=cfg) hR0 hv
 unfold zf1 at hv2
 rw [if_pos hk] at hv2
 simp only at hv2
 generalize (zb7 (zbx t cfg.bi) (zbt t cfg.bi) (zdn t.lb s.sm).1 cfg).1.map (zf9 cfg)=tr at *
 have he:=z92 hR0 hv2
 have hsm : ∀ p∈s.sm,inR 551903297535 p:=by
  intro p hp'
  obtain ⟨i,hi⟩:=List.getElem?_of_mem hp'
  have hlt:=(List.getElem?_eq_some_iff.mp hi).1
  have hl:=H.l
  obtain ⟨y,hy⟩ : ∃ y,t.lb[i]?=some y:=⟨_,List.getElem?_eq_getElem (by omega)⟩
  have a1:=H.r i y p hy hi
  have a2:=zzj h y (List.mem_of_getElem? hy)
  rw [← hR] at a1
  unfold inR at *
  omega
 have hlr:s.sm.length=t.rw.length:=by have:=H.l; omega
 obtain ⟨q,q1,q2,q3⟩:=z9p (tr:=tr) hlr (fun p hp' r hr=>by
  have a1:=hsm p hp'
  have a2:=he r
  unfold inR at *
  unfold adi
  rw [if_pos (by omega)])
 have hrnd:rnd t cfg s=(⟨q,s.ts++[tr]⟩,true):=by
  unfold rnd zhc
  rw [if_pos ⟨h,rfl,rfl⟩]
  unfold zni
  rw [hT,if_pos rfl]
  unfold zqr
  simp only [q1]
 rw [hrnd]
 refine ⟨rfl,⟨by rw [q2]; exact H.l,by simp [H.k],fun i y p' e1 e2 => ?_⟩,tr,rfl,fun x hx => ?_,htl,q3⟩
 ·have hlt:=(List.getElem?_eq_some_iff.mp e1).1
  have hl:=H.l
  obtain ⟨p,hp'⟩ : ∃ p,s.sm[i]?=some p:=⟨_,List.getElem?_eq_getElem (by omega)⟩
  obtain ⟨r,hr⟩ : ∃ r,t.rw[i]?=some r:=⟨_,List.getElem?_eq_getElem (by omega)⟩
  have a1:=q3 i p r hp' hr
  simp only at e2
  rw [a1] at e2
  cases e2
  have a2:=H.r i y p e1 hp'
  have a3:=he r
  rw [← hR] at a2
  rw [hs]
  unfold inR at *
  omega
 ·have:=hv2 x hx
  unfold inR at *
  omega
theorem yp6 (c:List Int) (v:Int) (hc:c.length≤1048576):RUN T zoz [.sl 1 (zac c),iv v]=some ([iv (zf6 c v)],[]):=by
 refine zag z6z rfl ?_
 simp [-getElem?_pos,zwe,zwf]
 refine za3 (fun n st => ∃ i m:Nat,i+n=c.length∧m≤i∧m=zf6 (c.take i) v∧st.V 8 = .sl 1 (zac c)∧st.V 1=iv v∧st.V 5=iv m∧st.V 10=iv i∧st.V 9=iv c.length) ?_ c.length _ ⟨0,0,by omega,by omega,by simp [zf6],by simp,by simp,by simp,by simp,by simp⟩
 rintro n st ⟨i,m,hi,hm,hmv,v8,v1,v5,v10,v9⟩
 by_cases h:i<c.length
 ·obtain ⟨x,hx⟩ : ∃ x,c[i]?=some x:=⟨_,List.getElem?_eq_getElem h⟩
  have hx':=zbp hx
  have hw:=wS h (by omega:c.length≤9223372036854775807)
  have hw2:=w64 (x:=(m:Int)+1) (by omega) (by omega)
  have hs:=yw7 (c.take i) v x
  rw [← z3w hx,← hmv] at hs
  by_cases hl:x<v
  ·rw [if_pos hl] at hs
   simp [-getElem?_pos,zwd,v8,v1,v5,v10,v9,h,hx',hw,hw2,hl]
   exact zaq (n-1) (by omega) ⟨i+1,m+1,by omega,by omega,hs.symm,by simp [v8],by simp [v1],by simp,by simp,by simp [v9]⟩
  ·rw [if_neg hl] at hs
   simp [-getElem?_pos,zwd,v8,v1,v5,v10,v9,h,hx',hw,hl]
   exact zaq (n-1) (by omega) ⟨i+1,m,by omega,by omega,hs.symm,by simp [v8],by simp [v1],by simp [v5],by simp,by simp [v9]⟩
 ·rw [List.take_of_length_le (by omega)] at hmv
  rw [← hmv]
  simp [-getElem?_pos,zwd,v8,v5,v10,v9,h]
set_option maxHeartbeats 1000000 in
theorem yp7 (l:List Int) (b:Int) (hl:l.length≤1048576):RUN T zoy [.sl 1 (zac l),iv b]=some ([.own 1 (zac (zc5 l b))],[]):=by
 have e1:=yp5 l hl
 have hsl:=ybo l
 have hss:=ygs l
 have hr0:zam 8 0=true:=by decide
 have hr1:zam 8 1=true:=by decide
 have g1:=zcb b 2 8
 have g2:=zcb l.length 1 40
 cases c1:zal b 2 8 with
 | false =>
  have hv:zc5 l b=[]:=by unfold zc5; rw [c1]; rfl
  rw [hv]
  rw [c1] at g1
  refine zag zy2 rfl ?_
  simp [-getElem?_pos,-zbd,zp9,zqa,g1,hr0]
 | true =>
 cases c2:zal l.length 1 40 with
 | false =>
  have hv:zc5 l b=[]:=by unfold zc5; rw [c1,c2]; rfl
  rw [hv]
  rw [c1] at g1
  rw [c2] at g2
  refine zag zy2 rfl ?_
  simp [-getElem?_pos,-zbd,zp9,zqa,g1,g2,hr0]
 | true =>
 have hv:zc5 l b=Lib.compact (ze5 (zfq l) b.toNat (b.toNat-1)):=by unfold zc5; rw [c1,c2]; rfl
 rw [hv]
 rw [c1] at g1
 rw [c2] at g2
 have hb:=za2.mp c1
 have h12:=za2.mp c2
 have h1:1≤l.length:=by omega
 have h2:l.length≤40:=by omega
 clear c1 c2 h12 hv
 generalize zfq l=a at *
 obtain ⟨bn,rfl⟩ : ∃ n:Nat,b=n:=⟨b.toNat,by omega⟩
 rw [Int.toNat_natCast]
 refine zag zy2 rfl ?_
 simp [-getElem?_pos,-zbd,zp9,zqa,g1,g2,hr0,e1]
 refine za3 (fun n st => ∃ (i o e:Nat) (m:List Int),1≤i∧i+n=bn∧m.length<i∧m=ze5 a bn (i-1)∧st.V 1=iv bn∧st.V 0 = .sl 1 (zac l)∧st.V 6 = .ref 1 none 0 0 a.length∧st.V 5 = .ref o none e 0 m.length∧st.V 7=iv i∧¬ o=1∧o<st.nx∧1<st.nx∧st.S o=some (.row 1 (zac m))∧st.S 1=some (.row 1 (zac a))) ?_ (bn-1) _ ⟨1,0,0,[],by omega,by omega,by simp,rfl,by simp,by simp,by simp,by simp,by simp,by omega,by simp,by simp,by simp [zac],by simp⟩
 rintro n st ⟨i,o,e,m,hi1,hi,hm,hmp,v1,v0,v6,v5,v7,ho,hox,h1x,hSo,hS1⟩
 obtain ⟨x1,x2,x3,x4⟩:=fr hox
 have g1:(o=1)=False:=eq_false ho
 have g2:(1=o)=False:=eq_false (fun e=>ho e.symm)
 obtain ⟨z1,z2,z3,z4⟩:=fr h1x
 by_cases h:i<bn
 ·have hw:=wS h (by omega:bn≤9223372036854775807)
  have hb0 : ¬ bn=0:=by omega
  have hq:(l.length:Int)*i≤40*8:=Int.mul_le_mul (by omega) (by omega) (by omega) (by omega)
  have hq0:0≤(l.length:Int)*i:=Int.mul_nonneg (by omega) (by omega)
  have w1:=w64 (x:=(l.length:Int)*i) (by omega) (by omega)
  obtain ⟨k,hkk⟩ : ∃ k:Nat,k=l.length*i / bn:=⟨_,rfl⟩
  have hk:((l.length:Int)*i).tdiv bn=k:=by
   rw [Int.tdiv_eq_ediv_of_nonneg hq0,hkk]
   push_cast
   rfl
  have hcs:ze5 a bn i=m++zla a bn i:=by
   obtain ⟨j,rfl⟩ : ∃ j,i=j+1:=⟨i-1,by omega⟩
   rw [hmp]; rfl
  unfold zla zhr at hcs
  rw [hsl,← hkk] at hcs
  have hkl:k≤l.length:=by
   have h3:((l.length:Int)*i).tdiv bn≤l.length:=by
    rw [Int.tdiv_eq_ediv_of_nonneg hq0]
    refine Int.ediv_le_of_le_mul (by omega) ?_
    exact Int.mul_le_mul_of_nonneg_left (by omega) (by omega)
   omega
  have w2:=w64 (x:=(k:Int)) (by omega) (by omega)
  by_cases hk1:1≤k
  ·obtain ⟨x,hx⟩ : ∃ x,a[k-1]?=some x:=⟨_,List.getElem?_eq_getElem (by omega)⟩
   obtain ⟨y,hy⟩ : ∃ x,a[a.length-1]?=some x:=⟨_,List.getElem?_eq_getElem (by omega)⟩
   have hx':=zbp hx
   have hy':=zbp hy
   rw [hsl] at hy'
   have w3:IntKind.i64.wrap ((k:Int)-1)=((k-1:Nat):Int):=by rw [w64 (by omega) (by omega)]; omega
   have w4:IntKind.i64.wrap ((l.length:Int)-1)=((l.length-1:Nat):Int):=by rw [w64 (by omega) (by omega)]; omega
   have c1:k-1<l.length:=by omega
   have c2:l.length-1<l.length:=by omega
   have hk1':(1:Int)≤k:=by omega
   have hr8:=zd8 (n:=m.length+1) (by omega)
   have hsn:=zdd m x
   have gx:a.getD (k-1) 0=x:=by rw [List.getD_eq_getElem?_getD,hx]; rfl
   have gy:a.getD (l.length-1) 0=y:=by rw [← hsl,List.getD_eq_getElem?_getD,hy]; rfl
   rw [gx,gy] at hcs
   have hle:=zrd hss (by omega:k-1≤a.length-1) hx hy
   by_cases hxy:x=y
   ·have hxy2 : ¬ ¬ x=y:=fun h=>h hxy
    rw [if_neg (fun h=>h.2 hxy),List.append_nil] at hcs
    subst hxy
    simp [-getElem?_pos,zsa,v1,v0,v6,v5,v7,hSo,hS1,h,hw,hb0,w1,w2,w3,w4,hk,hk1,hk1',hx',hy',hsl,c1,c2,hxy2,g1,g2,x1,x2,x3,x4,z1,z2,z3,z4]
    exact zaq (n-1) (by omega) ⟨i+1,o,e,m,by omega,by omega,by omega,hcs.symm,by simp [v1],by simp [v0],by simp [v6,hsl],by simp [v5],by simp,ho,by simp [hox],by simp [h1x],by simp [hSo],by simp [hS1]⟩
   ·rw [if_pos ⟨hk1,hxy⟩] at hcs
    simp [-getElem?_pos,zsa,v1,v0,v6,v5,v7,hSo,hS1,h,hw,hb0,w1,w2,w3,w4,hk,hk1,hk1',hx',hy',hsl,c1,c2,hxy,hr1,hr8,hsn,g1,g2,x1,x2,x3,x4,z1,z2,z3,z4]
    exact zaq (n-1) (by omega) ⟨i+1,st.nx+1,st.ep,m++[x],by omega,by omega,by simp; omega,hcs.symm,by simp [v1],by simp [v0],by simp [v6,hsl],by simp,by simp,by simp; omega,by simp,by first | (simp; done) | (simp; omega),by first | (simp; done) | (simp; omega),by simp [g1,g2,x1,x2,x3,x4,z1,z2,z3,z4,hS1,show ¬ st.nx=0 by omega]⟩
  ·have hk0:k=0:=by omega
   rw [if_neg (by omega),List.append_nil] at hcs
   rw [hk0] at hk w2
   clear hkk hkl
   subst hk0
   simp [-getElem?_pos,zsa,v1,v0,v6,v5,v7,hSo,hS1,h,hw,hb0,w1,w2,hk]
   exact zaq (n-1) (by omega) ⟨i+1,o,e,m,by omega,by omega,by omega,hcs.symm,by simp [v1],by simp [v0],by simp [v6],by simp [v5],by simp,ho,by simp [hox],by simp [h1x],by simp [hSo],by simp [hS1]⟩
 ·have hib:i=bn:=by omega
  have hm2:m=ze5 a bn (bn-1):=by rw [hmp,hib]
  have h3:=yp4 m (by omega)
  rw [← hm2]
  generalize Lib.compact m=z at *
  simp [-getElem?_pos,zsa,v1,v5,v7,hSo,h,h3]
set_option maxHeartbeats 1000000 in
theorem yp8 (q:Bool) (t:Ta) (f:Nat) (ht:TaL 1048576 t) (hf:f<t.ns.length) (h40:t.rw.length≤40) (hr : ∀ r∈t.rw,r.length=t.ns.length):RUN T zox [taS q t,iv f]=some ([.own 1 (zac (zcm t f))],[]):=by
 have hr0:zam 8 0=true:=by decide
 have hr1:zam 8 1=true:=by decide
 have hns:=ht.ns
 have g1:=zcb f 0 ((t.ns.length:Int)-1)
 rw [za2.mpr (by omega)] at g1
 have w1:=w64 (x:=(t.ns.length:Int)-1) (by omega) (by omega)
 refine zag z6y rfl ?_
 simp [-getElem?_pos,-zbd,zwb,zwc,hr0,g1,w1]
 refine za3 (fun n st => ∃ (i o e:Nat) (m:List Int),i+n=t.rw.length∧m=(t.rw.take i).map (fun r=>r.getD f 0)∧m.length=i∧st.V 1=iv f∧st.V 19 = .sl 1 (rws q t.rw)∧st.V 20=iv t.rw.length∧st.V 5 = .ref o none e 0 m.length∧st.V 21=iv i∧0<o∧o<st.nx∧st.S o=some (.row 1 (zac m))) ?_ t.rw.length _ ⟨0,1,0,[],by omega,rfl,rfl,by simp,by simp,by simp,by simp,by simp,by simp,by simp,by simp [zac]⟩
 rintro n st ⟨i,o,e,m,hi,hmv,hm,v1,v19,v20,v5,v21,ho,hox,hSo⟩
 obtain ⟨x1,x2,x3,x4⟩:=fr hox
 by_cases h:i<t.rw.length
 ·obtain ⟨r,hx⟩ : ∃ x,t.rw[i]?=some x:=⟨_,List.getElem?_eq_getElem h⟩
  have hx':=zfi (q:=q) hx
  have hrl:=hr r (List.mem_of_getElem? hx)
  obtain ⟨y,hy⟩ : ∃ x,r[f]?=some x:=⟨_,List.getElem?_eq_getElem (by omega)⟩
  have hy':=zbp hy
  have hfr:f<r.length:=by omega
  have hw:=wS h (by omega:t.rw.length≤9223372036854775807)
  have hr8:=zd8 (n:=m.length+1) (by omega)
  have hsn:=zdd m y
  have hmn:m++[y]=(t.rw.take (i+1)).map (fun r=>r.getD f 0):=by
   rw [z3w hx,List.map_append,← hmv,List.map_singleton,List.getD_eq_getElem?_getD,hy]; rfl
  simp [-getElem?_pos,z01,v1,v19,v20,v5,v21,hSo,h,hx',hy',hfr,hw,hr1,hr8,hsn,x1,x2,x3,x4]
  exact zaq (n-1) (by omega) ⟨i+1,st.nx+1,st.ep,m++[y],by omega,hmn,by simp [hm],by simp [v1],by simp [v19],by simp [v20],by simp,by simp,by omega,by simp,by simp⟩
 ·rw [List.take_of_length_le (by omega)] at hmv
  have hcv:zcm t f=m:=hmv.symm
  rw [hcv]
  simp [-getElem?_pos,z01,v1,v20,v5,v21,hSo,h]
open Classical in
theorem yp9 (l m:List Int) (hl:l.length≤9223372036854775807):RUN T zko [.sl 1 (zac l),.sl 1 (zac m)]=some ([bv (decide (l=m))],[]):=by
 have h:=yoz l m hl
 refine zag z7l rfl ?_
 simp [-getElem?_pos,zw4,zw5,h]
open Classical in
theorem yqa (p q:Bool) (L M:List (List Int)) (hl:L.length≤9223372036854775807) (hll : ∀ l∈L,l.length≤9223372036854775807):RUN T zpb [.sl 1 (rws p L),.sl 1 (rws q M),.fn zko []]=some ([bv (decide (L=M))],[]):=by
 refine zag z7k rfl ?_
 rcases Classical.propComplete ((L.length:Int)=M.length) with hlm | hlm
 case inr =>
  simp [-getElem?_pos,zsi,zsj,hlm,yck hlm]
 simp [-getElem?_pos,zsi,zsj,hlm]
 have hlen:L.length=M.length:=by simp at hlm; omega
 refine za3 (fun n st => ∃ i:Nat,i+n=L.length∧(∀ j,j<i→L[j]?=M[j]?)∧st.V 1 = .sl 1 (rws q M)∧st.V 2 = .fn zko []∧st.V 15 = .sl 1 (rws p L)∧st.V 16=iv L.length∧st.V 17=iv i) ?_ L.length _ ⟨0,by simp [hlen]⟩
 rintro n st ⟨i,hi,hj,v1,v2,v15,v16,v17⟩
 simp [z5c,v16,v17]
 refine zb0 (fun h => ?_) (fun h => ?_)
 ·simp at h
  obtain ⟨x,hx⟩ : ∃ x,L[i]?=some x:=⟨_,List.getElem?_eq_getElem h⟩
  obtain ⟨y,hy⟩ : ∃ y,M[i]?=some y:=⟨_,List.getElem?_eq_getElem (by omega)⟩
  have hx':=zfi (q:=p) hx
  have hy':=zfi (q:=q) hy
  have hw:=wS h hl
  have him:i<M.length:=by omega
  have hs:=yp9 x y (hll x (List.mem_of_getElem? hx))
  have z:=fr (by omega:st.nx<st.nx+1)
  by_cases e:x=y
  ·rw [decide_eq_true e] at hs
   simp [-getElem?_pos,v1,v2,v15,v16,v17,hx',hy',h,him,hw,hs,z]
   exact zaq (n-1) (by omega) ⟨i+1,by omega,zj3 hj (by rw [hx,hy,e]),by simp [v1],by simp [v2],by simp [v15],by simp [v16],by simp⟩
  ·rw [decide_eq_false e] at hs
   simp [-getElem?_pos,v1,v2,v15,v16,v17,hx',hy',h,him,hw,hs,z,yfl hx hy e]
 ·simp at h
  simp [ycl hlen h hj]
open Classical in
theorem z9m (p q:Bool) (L M:List (List Int)) (hl:L.length≤9223372036854775807) (hll : ∀ l∈L,l.length≤9223372036854775807):RUN T zlw [.sl 1 (rws p L),.sl 1 (rws q M)]=some ([bv (decide (L=M))],[]):=by
 have h:=yqa p q L M hl hll
 refine zag z6x rfl ?_
 simp [-getElem?_pos,zv9,zwa,h]
open Classical in
theorem yqb (p q:Bool) (c v c' v':List (List Int)) (hc:c.length≤9223372036854775807) (hcl : ∀ l∈c,l.length≤9223372036854775807) (hv:v.length≤9223372036854775807) (hvl : ∀ l∈v,l.length≤9223372036854775807):RUN T zol [.agg [.sl 1 (rws p c),.sl 1 (rws p v)],.agg [.sl 1 (rws q c'),.sl 1 (rws q v')]]=some ([bv (decide (c=c') && decide (v=v'))],[]):=by
 have h1:=z9m p q c c' hc hcl
 have h2:=z9m p q v v' hv hvl
 generalize decide (c=c')=b1 at *
 generalize decide (v=v')=b2 at *
 refine zag z6c rfl ?_
 cases b1 <;> simp [-getElem?_pos,zvf,zvg,h1,h2]
theorem yq8 (cuts col:List Int) (hcu:cuts.length≤8) (hco:col.length≤40) {st:St} {q1 e1 q2 e2 q3 e3:Nat} {Q:Ex→St→Prop} (v35:st.V 35 = .ref q1 none e1 0 col.length) (v36:st.V 36=iv col.length) (v37:st.V 37=iv (0:Nat)) (v9:st.V 9 = .ref q2 none e2 0 cuts.length) (v8:st.V 8 = .ref q3 none e3 0 0) (h13:q1≠q3) (h23:q2≠q3) (h1:q1<st.nx) (h2:q2<st.nx) (h3:q3<st.nx) (hS1:st.S q1=some (.row 1 (zac col))) (hS2:st.S q2=some (.row 1 (zac cuts))) (hS3:st.S q3=some (.row 1 []))
  (hQ : ∀ (s':St) (q' e':Nat) (bins:List Int),bins=col.map (fun v=>(zf6 cuts v:Int))→(∀ k,k≠8→k≠11→k≠37→s'.V k=st.V k)→s'.V 8 = .ref q' none e' 0 bins.length→(q'=q3∨st.nx≤q')→q'<s'.nx→st.nx≤s'.nx→s'.S q'=some (.row 1 (zac bins))→(∀ k,k<st.nx→k≠q3→s'.S k=st.S k)→Q (.exit 2) s') :
  W (zad T) (RUN T) (.loop zvh) st Q:=by
 refine za3 (fun m s' => ∃ (i q' e':Nat) (bins:List Int),i+m=col.length∧bins.length=i∧bins=(col.take i).map (fun v=>(zf6 cuts v:Int))∧(∀ k,k≠8→k≠11→k≠37→s'.V k=st.V k)∧s'.V 8 = .ref q' none e' 0 bins.length∧s'.V 37=iv i∧(q'=q3∨st.nx≤q')∧q'<s'.nx∧st.nx≤s'.nx∧s'.S q'=some (.row 1 (zac bins))∧(∀ k,k<st.nx→k≠q3→s'.S k=st.S k)) ?_ col.length _ ⟨0,q3,e3,[],by omega,rfl,rfl,fun _ _ _ _=>rfl,by simpa using v8,by simpa using v37,.inl rfl,h3,Nat.le_refl _,by simpa [zac] using hS3,fun _ _ _=>rfl⟩
 rintro m s' ⟨i,q',e',bins,hi,hb,hbb,hV,v8',v37',hq,hqx,hnx,hSq,hfr⟩
 have v35':s'.V 35 = .ref q1 none e1 0 col.length:=by rw [hV 35 (by decide) (by decide) (by decide)]; exact v35
 have v36':s'.V 36=iv col.length:=by rw [hV 36 (by decide) (by decide) (by decide)]; exact v36
 have v9':s'.V 9 = .ref q2 none e2 0 cuts.length:=by rw [hV 9 (by decide) (by decide) (by decide)]; exact v9
 have hS1':s'.S q1=some (.row 1 (zac col)):=by rw [hfr q1 h1 h13]; exact hS1
 have hS2':s'.S q2=some (.row 1 (zac cuts)):=by rw [hfr q2 h2 h23]; exact hS2
 by_cases h:i<col.length
 ·obtain ⟨x,hx⟩ : ∃ x,col[i]?=some x:=⟨_,List.getElem?_eq_getElem h⟩
  have hx':=zbp hx
  have hw:=wS h (by omega:col.length≤9223372036854775807)
  have hr1:zam 8 1=true:=by decide
  have hr8:=zd8 (n:=bins.length+1) (by omega)
  have h4:=yp6 cuts x (by omega)
  have hbn:bins++[(zf6 cuts x:Int)]=(col.take (i+1)).map (fun v=>(zf6 cuts v:Int)):=by rw [z3w hx,List.map_append,← hbb]; rfl
  generalize zf6 cuts x=y at *
  have hsn:=zdd bins (y:Int)
  have a1:=fr hqx
  have a2:(q1=q')=False∧(q'=q1)=False∧(q2=q')=False∧(q'=q2)=False:=⟨eq_false (by omega),eq_false (by omega),eq_false (by omega),eq_false (by omega)⟩
  have a4:=fr (show q1<s'.nx by omega)
  have a5:=fr (show q2<s'.nx by omega)
  simp [-getElem?_pos,zvh,v35',v36',v37',v9',v8',hS1',hS2',hSq,h,hx',h4,hw,hr1,hr8,hsn,a1,a2,a4,a5]
  refine zaq (m-1) (by omega) ⟨i+1,s'.nx+1,s'.ep,bins++[(y:Int)],by omega,by simp [hb],hbn,fun k k1 k2 k3 => ?_,by simp,by simp,.inr (by omega),by simp,by simp; omega,by simp,fun k k1 k2 => ?_⟩
  ·simp [k1,k2,k3]; exact hV k k1 k2 k3
  ·have b1:(k=s'.nx)=False:=eq_false (by omega)
   have b2:(k=s'.nx+1)=False:=eq_false (by omega)
   have b3:(k=q')=False:=eq_false (by omega)
   simp [b1,b2,b3]
   exact hfr k k1 k2
 ·have hin:i=col.length:=by omega
  simp [-getElem?_pos,zvh,v36',v37',h]
  exact hQ _ q' e' bins (by rw [hbb,List.take_of_length_le (by omega)]) (fun k k1 k2 k3=>by simp; exact hV k k1 k2 k3) (by simp [v8']) hq (by simp [hqx]) (by simp [hnx]) (by simp [hSq]) (fun k k1 k2=>by simp; exact hfr k k1 k2)
set_option maxHeartbeats 4000000 in
theorem z9n (q:Bool) (t:Ta) (b:Int) (ht:TaL 1048576 t):RUN T zlm [taS q t,iv b]=some ([.agg [.own 1 (rws true (zbx t b)),.own 1 (rws true (zbt t b))]],[]):=by
 have e1:=z1n q t ht
 have g1:=zcb b 2 8
 cases hok:za9 t with
 | false =>
  have hC:zbx t b=[]:=by unfold zbx; rw [hok]; rfl
  have hW:zbt t b=[]:=by unfold zbt; rw [hok]; rfl
  rw [hC,hW]
  rw [hok] at e1
  simp only [taS] at *
  refine zag zy1 rfl ?_
  simp [-getElem?_pos,-zbd,zp5,zp6,e1,show rws true []=[] from rfl]
 | true =>
 cases hbi:zal b 2 8 with
 | false =>
  have hC:zbx t b=[]:=by unfold zbx; rw [hbi,Bool.and_false]; rfl
  have hW:zbt t b=[]:=by unfold zbt; rw [hbi,Bool.and_false]; rfl
  rw [hC,hW]
  rw [hok] at e1
  rw [hbi] at g1
  simp only [taS] at *
  refine zag zy1 rfl ?_
  simp [-getElem?_pos,-zbd,zp5,zp6,e1,g1,show rws true []=[] from rfl]
 | true =>
 have hb:=za2.mp hbi
 rw [hok] at e1
 rw [hbi] at g1
 obtain ⟨t1,t2,t3,t4,t5,t6⟩:=zhl hok
 have hgC:zbx t b=(List.range t.ns.length).map fun f=>zc5 (zcm t f) b:=by unfold zbx; rw [hok,hbi]; rfl
 have hgW:zbt t b=(List.range t.ns.length).map (zk6 t b):=by unfold zbt; rw [hok,hbi]; rfl
 rw [hgC,hgW]
 have hr1:zam 24 1=true:=by decide
 have hr0:zam 8 0=true:=by decide
 have cl:=yp8 q t
 simp only [taS] at *
 refine zag zy1 rfl ?_
 simp [-getElem?_pos,-zbd,zp5,zp6,e1,g1]
 refine za3 (fun n st => ∃ (i:Nat) (C D:List (List Int)) (x y:PV),i+n=t.ns.length∧C.length=i∧D.length=i∧C=(List.range i).map (fun f=>zc5 (zcm t f) b)∧D=(List.range i).map (zk6 t b)∧st.V 1=iv b∧st.V 2 = .ptr 0 none 0 0 0∧st.V 4 = .ptr 1 none 0 0 0∧st.V 5 = .ptr 2 none 0 0 0∧st.V 25=iv i∧st.V 24=iv t.ns.length∧2<st.nx∧LG st.S st.nx C D x y∧st.S 0=some (.box [.sl 1 (za5 t.ns),.v (.string t.nm),.sl 1 (rws q t.rw),.sl 1 (zac t.lb)])∧st.S 1=some (.box [.e0,.e0])∧st.S 2=some (.box [x,y])) ?_ t.ns.length _ ⟨0,[],[],.e0,.e0,by omega,rfl,rfl,rfl,rfl,by simp,by simp,by simp,by simp,by simp,by simp,by simp,.inl ⟨rfl,rfl,rfl,rfl⟩,by simp,by simp,by simp⟩
 rintro n st ⟨i,C,D,x,y,hi,hC,hD,hC8,hD8,v1,v2,v4,v5,v25,v24,hnx,hx,hS0,hS1,hS2⟩
 have z1:=fr hnx
 have z2:=fr (show 1<st.nx by omega)
 have z3:=fr (show 0<st.nx by omega)
 by_cases h:i<t.ns.length
 ·have hw:=wS h (by omega:t.ns.length≤9223372036854775807)
  have h1:=cl i ht h t4 t6
  have hcol:(zcm t i).length=t.rw.length:=by simp [zcm]
  have h2:=yp7 (zcm t i) b (by omega)
  have hcu:(zc5 (zcm t i) b).length≤8:=Nat.le_trans (z1v (zcm t i) b).2.2 (by omega)
  have hCn:C++[zc5 (zcm t i) b]=(List.range (i+1)).map (fun f=>zc5 (zcm t f) b):=by rw [List.range_succ,List.map_append,← hC8]; rfl
  have hDn:D++[(zcm t i).map fun v=>(zf6 (zc5 (zcm t i) b) v:Int)]=(List.range (i+1)).map (zk6 t b):=by rw [List.range_succ,List.map_append,← hD8]; rfl
  generalize zc5 (zcm t i) b=cuts at *
  generalize zcm t i=col at *
  simp [-getElem?_pos,z0x,v1,v2,v4,v5,v25,v24,hS0,hS1,hS2,h,h1,h2,hr0,z1,z2,z3]
  refine yq8 cuts col hcu (by omega) (q1:=st.nx) (q2:=st.nx+2) (q3:=st.nx+1) (by simp; rfl) (by simp) (by simp) (by simp; rfl) (by simp; rfl) (by omega) (by omega) (by first | (simp; done) | (simp; omega)) (by first | (simp; done) | (simp; omega)) (by first | (simp; done) | (simp; omega)) (by simp) (by simp) (by simp) ?_
  intro s' q' e' bins hbb hV w8 hq hqx hnx' hSq hfr
  simp only at hq hnx'
  have hbl:bins.length=col.length:=by rw [hbb]; simp
  have w1:s'.V 1=iv b:=by rw [hV 1 (by decide) (by decide) (by decide)]; simp [v1]
  have w2:s'.V 2 = .ptr 0 none 0 0 0:=by rw [hV 2 (by decide) (by decide) (by decide)]; simp [v2]
  have w4:s'.V 4 = .ptr 1 none 0 0 0:=by rw [hV 4 (by decide) (by decide) (by decide)]; simp [v4]
  have w5:s'.V 5 = .ptr 2 none 0 0 0:=by rw [hV 5 (by decide) (by decide) (by decide)]; simp [v5]
  have w25:s'.V 25=iv i:=by rw [hV 25 (by decide) (by decide) (by decide)]; simp [v25]
  have w24:s'.V 24=iv t.ns.length:=by rw [hV 24 (by decide) (by decide) (by decide)]; simp [v24]
  obtain ⟨e9,w9⟩ : ∃ e,s'.V 9 = .ref (st.nx+2) none e 0 cuts.length:=⟨_,by rw [hV 9 (by decide) (by decide) (by decide)]; simp; rfl⟩
  have hT0:s'.S 0=some (.box [.sl 1 (za5 t.ns),.v (.string t.nm),.sl 1 (rws q t.rw),.sl 1 (zac t.lb)]):=by rw [hfr 0 (by first | (simp; done) | (simp; omega)) (by omega)]; simp [z1,z2,z3,hS0]
  have hT1:s'.S 1=some (.box [.e0,.e0]):=by rw [hfr 1 (by first | (simp; done) | (simp; omega)) (by omega)]; simp [z1,z2,z3,hS1]
  have hT2:s'.S 2=some (.box [x,y]):=by rw [hfr 2 (by first | (simp; done) | (simp; omega)) (by omega)]; simp [z1,z2,z3,hS2]
  have hT8:s'.S (st.nx+2)=some (.row 1 (zac cuts)):=by rw [hfr _ (by first | (simp; done) | (simp; omega)) (by omega)]; simp
  have hL:LG s'.S s'.nx C D x y:=hx.mono (by omega) (fun k k1 k2=>by
   rw [hfr k (by first | (simp; done) | (simp; omega)) (by omega)]
   have b1:(k=st.nx)=False:=eq_false (by omega)
   have b2:(k=st.nx+1)=False:=eq_false (by omega)
   have b3:(k=st.nx+2)=False:=eq_false (by omega)
   simp [b1,b2,b3])
  have hr24:zam 24 (C.length+1)=true:=by simp [zam]; omega
  have hr24':zam 24 (D.length+1)=true:=by simp [zam]; omega
  have s1:=z0k C cuts
  have s2:=z0k D bins
  obtain ⟨p8,hp8⟩ : ∃ p8,p8=st.nx+2:=⟨_,rfl⟩
  rw [← hp8] at w9 hT8
  have hp8x:p8<s'.nx:=by first | omega | (simp at hnx'; omega)
  have hp8q : ¬ p8=q':=by first | omega | (simp at hq; omega)
  have hq2:2<q':=by first | omega | (simp at hq; omega)
  have hp82:2<p8:=by omega
  obtain ⟨P,hP⟩ : ∃ P,P=st.nx:=⟨_,rfl⟩
  have hPp:P<p8:=by omega
  have hPq:P<q':=by first | omega | (simp at hq; omega)
  have hL':LG s'.S P C D x y:=by
   rcases hx with hx | ⟨o,e,o',e',k1,k2,k3,k4,k5,k6,k7,k8,k9⟩
   ·exact .inl hx
   ·rcases hL with ⟨l1,_⟩ | ⟨o2,e2,o2',e2',l1,l2,l3,l4,l5,l6,l7,l8,l9⟩
    ·rw [k1] at l1; cases l1
    ·rw [k1] at l1; cases l1
     rw [k2] at l2; cases l2
     exact .inr ⟨o,e,o',e',k1,k2,k3,by omega,k5,by omega,k7,l8,l9⟩
  clear hL hx hfr hV hp8 hP hq hS0 hS1 hS2 v1 v2 v4 v5 v25 v24 z1 z2 z3 h1 h2
  have a1:=fr hqx
  have a2:(p8=q')=False∧(q'=p8)=False:=⟨eq_false hp8q,eq_false fun e=>hp8q e.symm⟩
  have a3:=fr (show p8<s'.nx by omega)
  have a4:=fr hp82
  have a5:=fr (show 2<q' by omega)
  have a6:=fr (show 2<s'.nx by omega)
  have b1:=fr (show 1<p8 by omega)
  have b2:=fr (show 1<q' by omega)
  have b3:=fr (show 1<s'.nx by omega)
  have b4:=fr (show 0<p8 by omega)
  have b5:=fr (show 0<q' by omega)
  have b6:=fr (show 0<s'.nx by omega)
  have nn1 : ¬ s'.nx=1:=by omega
  have nn2 : ¬ s'.nx+1=q':=by omega
  have na : ∀ a b:Nat,s'.nx+a+b=s'.nx+(a+b):=fun a b=>Nat.add_assoc _ _ _
  rw [← hbb] at hDn
  rcases hL' with ⟨rfl,rfl,hC0,hD0⟩ | ⟨o,e,o',e',rfl,rfl,ho,hox,ho',hox',hoo,hSo,hSo'⟩
  ·subst hC0 hD0
   simp only [List.nil_append] at hCn hDn
   simp [-getElem?_pos,w1,w2,w4,w5,w25,w24,w8,w9,hT0,hT1,hT2,hT8,hSq,hw,hr1,na,a1,a2,a3,a4,a5,a6,b1,b2,b3,b4,b5,b6]
   exact zaq (n-1) (by omega) ⟨i+1,[cuts],[bins],.ref (s'.nx+1) none s'.ep 0 1,.ref (s'.nx+3) none s'.ep 0 1,by omega,by simp at hC; simp; omega,by simp at hC; simp; omega,hCn,hDn,by simp [w1],by simp [w2],by simp [w4],by simp [w5],by simp,by simp [w24],by first | (simp; done) | (simp; omega),.inr ⟨s'.nx+1,s'.ep,s'.nx+3,s'.ep,rfl,rfl,by omega,by simp,by omega,by simp,by omega,by simp [nn1,nn2,rws,cel],by simp [rws,cel]⟩,by simp [a1,a2,a3,a4,a5,a6,b1,b2,b3,b4,b5,b6,hT0],by simp [a1,a2,a3,a4,a5,a6,b1,b2,b3,b4,b5,b6,hT1],by simp⟩
  ·have c1:=fr ho
   have c2:=fr (show o<p8 by omega)
   have c3:=fr ho'
   have c4:=fr (show o'<p8 by omega)
   have c5:=fr (show o<q' by omega)
   have c6:=fr (show o'<q' by omega)
   have d1:=fr (show o<s'.nx by omega)
   have d2:=fr (show o'<s'.nx by omega)
   have d3:=fr (show 1<o by omega)
   have d4:=fr (show 1<o' by omega)
   have d5:=fr (show 0<o by omega)
   have d6:=fr (show 0<o' by omega)
   have hoo2 : ¬ o'=o:=fun e=>hoo e.symm
   have nn3 : ¬ s'.nx+1=o':=by omega
   simp [-getElem?_pos,w1,w2,w4,w5,w25,w24,w8,w9,hT0,hT1,hT2,hT8,hSq,hSo,hSo',hoo,hoo2,hw,hr1,hr24,hr24',s1,s2,na,a1,a2,a3,a4,a5,a6,b1,b2,b3,b4,b5,b6,c1,c2,c3,c4,c5,c6,d1,d2,d3,d4,d5,d6]
   exact zaq (n-1) (by omega) ⟨i+1,C++[cuts],D++[bins],.ref (s'.nx+1) none s'.ep 0 (C.length+1),.ref (s'.nx+3) none s'.ep 0 (D.length+1),by omega,by simp [hC],by simp [hD],hCn,hDn,by simp [w1],by simp [w2],by simp [w4],by simp [w5],by simp,by simp [w24],by first | (simp; done) | (simp; omega),.inr ⟨s'.nx+1,s'.ep,s'.nx+3,s'.ep,by simp,by simp,by omega,by simp,by omega,by simp,by omega,by simp [nn1,nn2,nn3],by simp⟩,by simp [a1,a2,a3,a4,a5,a6,b1,b2,b3,b4,b5,b6,c1,c2,c3,c4,c5,c6,d1,d2,d3,d4,d5,d6,hT0],by simp [a1,a2,a3,a4,a5,a6,b1,b2,b3,b4,b5,b6,c1,c2,c3,c4,c5,c6,d1,d2,d3,d4,d5,d6,hT1],by simp⟩
 ·have hin:i=t.ns.length:=by omega
  rcases hx with ⟨rfl,rfl,hC0,hD0⟩ | ⟨o,e,o',e',rfl,rfl,ho,hox,ho',hox',hoo,hSo,hSo'⟩
  ·subst hC0
   simp at hC; omega
  ·have c1:=fr ho
   have c3:=fr ho'
   have d3:=fr (show 1<o by omega)
   have d4:=fr (show 1<o' by omega)
   have d5:=fr (show 0<o by omega)
   have d6:=fr (show 0<o' by omega)
   have hoo2 : ¬ o'=o:=fun e=>hoo e.symm
   simp [-getElem?_pos,z0x,v1,v2,v4,v5,v25,v24,hS0,hS1,hS2,h,hSo,hSo',hoo,hoo2,c1,c3,d3,d4,d5,d6]
   rw [hC8,hD8,hin]
   exact ⟨rfl,rfl⟩
theorem ytp {l m:List Int} : ∀ x∈(zdn l m).1,inI x:=by
 unfold zdn
 split
 ·rename_i hl
  cases e:res l m with
  | none=>intro x hx; cases hx
  | some r =>
   obtain ⟨h1,h2⟩:=z2h hl e
   intro x hx
   replace hx:x∈r:=hx
   obtain ⟨i,hi⟩:=List.getElem?_of_mem hx
   have hlt:=(List.getElem?_eq_some_iff.mp hi).1
   obtain ⟨a,ha⟩ : ∃ a,l[i]?=some a:=⟨_,List.getElem?_eq_getElem (by omega)⟩
   obtain ⟨b,hb⟩ : ∃ b,m[i]?=some b:=⟨_,List.getElem?_eq_getElem (by omega)⟩
   obtain ⟨rfl,h4,h5⟩:=h2 i a b x ha hb hi
   exact ⟨h4,h5⟩
 ·intro x hx; cases hx
theorem yrq {l m:List Int}:(zdn l m).1.length≤l.length∧((zdn l m).2=true→l.length=m.length):=by
 unfold zdn
 split
 ·rename_i hl
  cases e:res l m with
  | none=>simp
  | some r=>exact ⟨Nat.le_of_eq (z2h hl e).1,fun _=>hl⟩
 ·simp
theorem yt1 {c v:List (List Int)} {g:List Int} {cfg:Cfg} (h:(zb7 c v g cfg).2=true) : ∀ x∈(zb7 c v g cfg).1,inR 2199023255552 x.v:=by
 refine yae (by omega) fun x hx => ?_
 unfold zb7 at h
 split at h
 ·rename_i ht
  exact (z0t ht).2.2.2 x hx
 ·cases h
theorem yx1 {tr:List Nd} {ps:List Int} {rs:List (List Int)} {i:Nat} {p:Int} {r:List Int} (hp:ps[i]?=some p) (hr:rs[i]?=some r):zhb tr (ps.drop i) (rs.drop i)=if (adi p (evt tr r)).2=true then (zhb tr (ps.drop (i+1)) (rs.drop (i+1))).map ((adi p (evt tr r)).1 :: ·) else none:=by
 rw [zd7 hp,zd7 hr,zhb]
theorem yzt (M:List (List Nd)) (t:List Nd):trs true M++[[.own 5 (t.map nd)]]=trs true (M++[t]):=by simp [trs,znr]
theorem TaL.up {t:Ta} (ht:TaL 1048576 t):TaL 9223372036854775807 t:=⟨Nat.le_trans ht.ns (by omega),fun x hx=>Nat.le_trans (ht.ss x hx) (by omega),Nat.le_trans ht.nm (by omega),Nat.le_trans ht.rw (by omega),fun x hx=>Nat.le_trans (ht.rr x hx) (by omega),Nat.le_trans ht.lb (by omega)⟩
open Classical in
set_option maxHeartbeats 8000000 in
set_option maxRecDepth 8000 in
theorem yqc (p q r:Bool) (t:Ta) (c v:List (List Int)) (cfg:Cfg) (s:Sta) (ht:TaL 1048576 t) (hti : ∀ y∈t.lb,inI y) (hcl:c.length≤1048576) (hc : ∀ l∈c,l.length≤1048576) (hvl:v.length≤1048576) (hv : ∀ l∈v,l.length≤1048576) (hg:cfg.sg.length≤1048576) (hs:ye0 1048576 s) (hsi : ∀ x∈s.sm,inI x):RUN T zn6 [taS p t,.agg [.sl 1 (rws q c),.sl 1 (rws q v)],cfS cfg,stS r s]=some ([stO (zhc t c v cfg s).1,bv (zhc t c v cfg s).2],[]):=by
 have e1:=z1n p t ht
 have e2:=z9n p t cfg.bi ht
 have e3:=yqb q true c v (zbx t cfg.bi) (zbt t cfg.bi) (by omega) (fun l hl=>Nat.le_trans (hc l hl) (by omega)) (by omega) (fun l hl=>Nat.le_trans (hv l hl) (by omega))
 have r1:=yoy t.lb s.sm ht.lb hs.sm hti hsi
 have hrl:=yrq (l:=t.lb) (m:=s.sm)
 have hri:=ytp (l:=t.lb) (m:=s.sm)
 have hrw:=ht.rw
 have hsm:=hs.sm
 have hlb:=ht.lb
 have hz:stO noS = .agg [.own 1 [],.own 1 []]:=rfl
 simp only [taS,stS] at *
 cases ht1:za9 t with
 | false =>
  have hR:zhc t c v cfg s=(noS,false):=by unfold zhc; rw [if_neg (by rw [ht1]; simp)]
  rw [hR,hz]
  rw [ht1] at e1
  refine zag zmz rfl ?_
  simp [-getElem?_pos,zjg,zjh,e1]
 | true =>
 rw [ht1] at e1
 have htr:=zhl ht1
 by_cases hcg:c=zbx t cfg.bi∧v=zbt t cfg.bi
 case neg =>
  have hR:zhc t c v cfg s=(noS,false):=by unfold zhc; rw [if_neg fun h=>hcg h.2]
  have hd:(decide (c=zbx t cfg.bi) && decide (v=zbt t cfg.bi))=false:=by
   cases h1:decide (c=zbx t cfg.bi) with
   | false=>rfl
   | true=>exact decide_eq_false fun h=>hcg ⟨of_decide_eq_true h1,h⟩
  rw [hR,hz]
  rw [hd] at e3
  generalize zbx t cfg.bi=GC at *
  generalize zbt t cfg.bi=GW at *
  refine zag zmz rfl ?_
  simp [-getElem?_pos,zjg,zjh,e1,e2,e3]
 case pos =>
 have hR:zhc t c v cfg s=zni t c v cfg s:=by unfold zhc; rw [if_pos ⟨ht1,hcg⟩]
 have hd:(decide (c=zbx t cfg.bi) && decide (v=zbt t cfg.bi))=true:=by rw [decide_eq_true hcg.1,decide_eq_true hcg.2]; rfl
 rw [hR]
 rw [hd] at e3
 generalize zbx t cfg.bi=GC at *
 generalize zbt t cfg.bi=GW at *
 clear hR hd hcg ht1
 unfold zni zlb
 generalize zdn t.lb s.sm=QQ at *
 obtain ⟨RS,rb⟩:=QQ
 simp only at r1 hrl hri
 have g1:=yps q c v RS cfg hc hv (by omega) hg hri
 have hgl:=yd1 (c:=c) (v:=v) (g:=RS) (cfg:=cfg)
 have hgv:=yt1 (c:=c) (v:=v) (g:=RS) (cfg:=cfg)
 have s1:=yp1 (zb7 c v RS cfg).1 cfg (by omega) hg
 have hsl:=yvq (c:=cfg) (t:=(zb7 c v RS cfg).1)
 have hsv:=fun h=>yb2 (c:=cfg) (t:=(zb7 c v RS cfg).1) (R:=2199023255552) (by omega) (hgv h)
 have t1:=yp0 r s.ts hs.ts hs.tl
 generalize zb7 c v RS cfg=QQ at *
 obtain ⟨G,gb⟩:=QQ
 simp only at g1 hgl s1 hsl hsv
 generalize zf1 cfg G=QQ at *
 obtain ⟨tr,sb⟩:=QQ
 simp only at s1 hsl hsv
 cases rb with
 | false =>
  simp only [Bool.false_and,Bool.false_eq_true,if_false]
  rw [hz]
  refine zag zmz rfl ?_
  simp [-getElem?_pos,zjg,zjh,e1,e2,e3,r1]
 | true =>
 cases gb with
 | false =>
  simp only [Bool.and_false,Bool.false_eq_true,if_false]
  rw [hz]
  refine zag zmz rfl ?_
  simp [-getElem?_pos,zjg,zjh,e1,e2,e3,r1,g1,s1]
 | true =>
 cases sb with
 | false =>
  simp only [Bool.and_true,if_true,Bool.false_eq_true,if_false]
  rw [hz]
  refine zag zmz rfl ?_
  simp [-getElem?_pos,zjg,zjh,e1,e2,e3,r1,g1,s1]
 | true =>
 simp only [Bool.and_true,if_true]
 have hev:=z92 (t:=tr) (by omega) (hsv rfl)
 have hlr:s.sm.length=t.rw.length:=by have:=hrl.2 rfl; omega
 have hts:=yzt s.ts tr
 have hrt:zam 24 (s.ts.length+1)=true:=by have:=hs.ts; simp [zam]; omega
 have hr24:zam 24 1=true:=by decide
 clear hsv hgv
 refine zag zmz rfl ?_
 simp [-getElem?_pos,zjg,zjh,e1,e2,e3,r1,g1,s1,t1,hts,hrt,hr24]
 refine za3 (fun n st => ∃ (i:Nat) (m:List Int) (x:PV),i+n=s.sm.length∧m.length=i∧zhb tr s.sm t.rw=(zhb tr (s.sm.drop i) (t.rw.drop i)).map (m ++ ·)∧st.V 4 = .ptr 0 none 0 0 0∧st.V 70 = .sl 1 (zac s.sm)∧st.V 71=iv s.sm.length∧st.V 8 = .ptr 4 none 0 0 0∧st.V 13 = .ptr 11 none 0 0 0∧st.V 14 = .ptr 15 none 0 0 0∧st.V 72=iv i∧st.ep=0∧15<st.nx∧LC st.S st.nx 15 m x∧st.S 0=some (.box [.sl 1 (za5 t.ns),.v (.string t.nm),.sl 1 (rws p t.rw),.sl 1 (zac t.lb)])∧st.S 4=some (.box [.e0,.e0])∧st.S 10=some (.shadow 5 (tr.map nd) 0)∧st.S 11=some (.box [.ref 10 none 0 0 tr.length])∧st.S 14=some (.row 1 (trs true (s.ts++[tr])))∧st.S 15=some (.box [x,.ref 14 none 0 0 (s.ts.length+1)])) ?_ s.sm.length _ ⟨0,[],.e0,by omega,rfl,by simp,by simp,by simp,by simp,by simp,by simp,by simp,by simp,by simp,by simp,.inl ⟨rfl,rfl⟩,by simp,by simp,by simp,by simp,by simp,by simp⟩
 rintro n st ⟨i,m,x,hi,hm,hE,v4,v70,v71,v8,v13,v14,v72,hep,hnx,hx,hS0,hS4,hS10,hS11,hS14,hS15⟩
 have z0:=fr (show 0<st.nx by omega)
 have z3:=fr (show 3<st.nx by omega)
 have z4:=fr (show 4<st.nx by omega)
 have z10:=fr (show 10<st.nx by omega)
 have z11:=fr (show 11<st.nx by omega)
 have z14:=fr (show 14<st.nx by omega)
 have z15:=fr hnx
 have n14 : ¬ st.nx=14:=by omega
 by_cases h:i<s.sm.length
 ·obtain ⟨y,hy⟩ : ∃ x,s.sm[i]?=some x:=⟨_,List.getElem?_eq_getElem h⟩
  obtain ⟨w,hw⟩ : ∃ x,t.rw[i]?=some x:=⟨_,List.getElem?_eq_getElem (by omega)⟩
  have hy':=zbp hy
  have hw':=zfi (q:=p) hw
  have hir:i<t.rw.length:=by omega
  have hwS:=wS h (by omega:s.sm.length≤9223372036854775807)
  have v1:=yoj tr w (by omega) (ht.rr w (List.mem_of_getElem? hw))
  have hei:=hev w
  have a1:=zy4 y (evt tr w) (hsi y (List.mem_of_getElem? hy)) (by unfold inR at hei; unfold inI; omega)
  rw [yx1 hy hw] at hE
  generalize evt tr w=ew at *
  generalize adi y ew=QQ at *
  obtain ⟨ad,ab⟩:=QQ
  simp only at a1 hE
  cases ab with
  | false =>
   have hA:zqr t tr s=(noS,false):=by unfold zqr; rw [hE]; rfl
   rw [hA,hz]
   simp [-getElem?_pos,zpy,v4,v70,v71,v8,v13,v14,v72,hep,hS0,hS4,hS10,hS11,hS14,hS15,h,hy',hw',hir,v1,a1]
  | true =>
   rw [if_pos rfl] at hE
   have hE2:zhb tr s.sm t.rw=(zhb tr (s.sm.drop (i+1)) (t.rw.drop (i+1))).map ((m++[ad]) ++ ·):=by
    rw [hE,Option.map_map]; congr 1; funext l; simp
   have hr8:zam 8 1=true:=by decide
   have hr8':=zd8 (n:=m.length+1) (by omega)
   have hsn:=zdd m ad
   rcases hx with ⟨rfl,rfl⟩ | ⟨o,e,rfl,ho,hox,hSo⟩
   ·simp [-getElem?_pos,zpy,v4,v70,v71,v8,v13,v14,v72,hep,hS0,hS4,hS10,hS11,hS14,hS15,h,hy',hw',hir,v1,a1,hwS,hr8,z0,z3,z4,z10,z11,z14,z15]
    exact zaq (n-1) (by omega) ⟨i+1,[ad],.ref (st.nx+1) none 0 0 1,by omega,by simp at hm; simp; omega,by simpa using hE2,by simp [v4],by simp [v70],by simp [v71],by simp [v8],by simp [v13],by simp [v14],by simp,by simp [hep],by simp; omega,.inr ⟨st.nx+1,0,by simp,by omega,by simp,by simp [zac,n14]⟩,by simp [z0,hS0],by simp [z4,hS4],by simp [z10,hS10],by simp [z11,hS11],by simp [z14,hS14,n14],by simp [n14]⟩
   ·have y1:=fr hox
    have y2:=fr (show 0<o by omega)
    have y3:=fr (show 3<o by omega)
    have y4:=fr (show 4<o by omega)
    have y5:=fr (show 10<o by omega)
    have y6:=fr (show 11<o by omega)
    have y7:=fr (show 14<o by omega)
    have y8:=fr ho
    simp [-getElem?_pos,zpy,v4,v70,v71,v8,v13,v14,v72,hep,hS0,hS4,hS10,hS11,hS14,hS15,hSo,h,hy',hw',hir,v1,a1,hwS,hr8,hr8',hsn,z0,z3,z4,z10,z11,z14,z15,y1,y2,y3,y4,y5,y6,y7,y8]
    exact zaq (n-1) (by omega) ⟨i+1,m++[ad],.ref (st.nx+1) none 0 0 (m.length+1),by omega,by simp [hm],hE2,by simp [v4],by simp [v70],by simp [v71],by simp [v8],by simp [v13],by simp [v14],by simp,by simp [hep],by simp; omega,.inr ⟨st.nx+1,0,by simp,by omega,by simp,by simp [n14]⟩,by simp [z0,y2,hS0],by simp [z4,y4,hS4],by simp [z10,y5,hS10],by simp [z11,y6,hS11],by simp [z14,y7,hS14,n14],by simp [n14]⟩
 ·have hA:zqr t tr s=(⟨m,s.ts++[tr]⟩,true):=by
   unfold zqr
   rw [hE,List.drop_eq_nil_of_le (by omega),List.drop_eq_nil_of_le (by omega)]
   simp [zhb]
  rw [hA]
  rcases hx with ⟨rfl,rfl⟩ | ⟨o,e,rfl,ho,hox,hSo⟩
  ·simp [-getElem?_pos,zpy,v4,v70,v71,v8,v13,v14,v72,hep,hS0,hS4,hS10,hS11,hS14,hS15,h,z0,z3,z4,z10,z11,z14,z15]
  ·have y4:=fr (show 4<o by omega)
   have y7:=fr (show 14<o by omega)
   have y8:=fr ho
   simp [-getElem?_pos,zpy,v4,v70,v71,v8,v13,v14,v72,hep,hS0,hS4,hS10,hS11,hS14,hS15,hSo,h,z0,z3,z4,z10,z11,z14,z15,y4,y7,y8]
theorem z97 {r:List Int} {tr:List Nd} : ∀ (ts:List (List Nd)) (a:Int),zzp r (ts++[tr]) a=IntKind.i64.wrap (zzp r ts a+evt tr r)
 | [],a=>rfl
 | x::ts,a=>z97 ts _
structure BI (t:Ta) (n:Nat) (s:Sta):Prop where
 st:StI t n s
 tl : ∀ x∈s.ts,x.length≤32
 sum : ∀ (i:Nat) (p:Int) (r:List Int),s.sm[i]?=some p→t.rw[i]?=some r→zzp r s.ts (zct t.lb).1=p
theorem StI.inI {t:Ta} (h:za9 t=true) {n:Nat} {s:Sta} (H:StI t n s) (hn:n≤8) : ∀ x∈s.sm,inI x:=by
 intro p hp
 have hp2:(2:Int) ^ n≤256:=by
  have h1:=Nat.pow_le_pow_right (n:=2) (by omega) hn
  have h2:(2:Int) ^ n=((2 ^ n:Nat):Int):=by push_cast; rfl
  omega
 obtain ⟨i,hi⟩:=List.getElem?_of_mem hp
 have hlt:=(List.getElem?_eq_some_iff.mp hi).1
 have hl:=H.l
 obtain ⟨y,hy⟩ : ∃ y,t.lb[i]?=some y:=⟨_,List.getElem?_eq_getElem (by omega)⟩
 have a1:=H.r i y p hy hi
 have a2:=zzj h y (List.mem_of_getElem? hy)
 unfold inR at a1 a2
 unfold Go.Pe.inI
 omega
theorem BI.new {t:Ta} (h:za9 t=true):BI t 0 (zfn t).1:=by
 refine ⟨StI.new h,?_,fun i p r hp hr => ?_⟩
 ·unfold zfn; rw [if_pos h]; intro x hx; cases hx
 ·unfold zfn at hp ⊢
  rw [if_pos h] at hp ⊢
  exact ((List.mem_replicate.mp (List.mem_of_getElem? hp)).2).symm
theorem BI.next {t:Ta} {cfg:Cfg} (h:za9 t=true) (hc:za1 cfg=true) {n:Nat} (hn:n≤7) {s:Sta} (H:BI t n s):(rnd t cfg s).2=true∧BI t (n+1) (rnd t cfg s).1:=by
 obtain ⟨r1,r2,tr,r3,r4,r5,r6⟩:=ybv h hc H.st hn
 refine ⟨r1,r2,fun x hx => ?_,fun i p r hp hr => ?_⟩
 ·rw [r3] at hx
  rcases List.mem_append.mp hx with hx | hx
  ·exact H.tl x hx
  ·simp at hx; subst hx; exact r5
 ·have hi:=r2.inI h (by omega) p (List.mem_of_getElem? hp)
  have hlt:=(List.getElem?_eq_some_iff.mp hr).1
  have hl:=H.st.l
  have:=zhl h
  obtain ⟨p0,hp0⟩ : ∃ y,s.sm[i]?=some y:=⟨_,List.getElem?_eq_getElem (by omega)⟩
  have e:=r6 i p0 r hp0 hr
  rw [hp] at e
  cases e
  rw [r3,z97,H.sum i p0 r hp0 hr]
  unfold Go.Pe.inI at hi
  exact w64 hi.1 hi.2
theorem znd {t:Ta} {cfg:Cfg} (h:za9 t=true) (hc:za1 cfg=true) : ∀ n:Nat,n≤8→∃ s,zfa t cfg n=some s∧BI t n s
 | 0,_=>⟨_,rfl,BI.new h⟩
 | n+1,hn=>by
  obtain ⟨s,h1,h2⟩:=znd h hc n (by omega)
  obtain ⟨h3,h4⟩:=BI.next h hc (by omega) h2
  exact ⟨_,by rw [zfa,h1]; simp only [Option.bind_some,h3,if_true],h4⟩
theorem BI.lens {t:Ta} {n:Nat} {s:Sta} (h:za9 t=true) (H:BI t n s) (hn:n≤8):ye0 1048576 s:=by
 obtain ⟨t1,t2,t3,t4,t5,t6⟩:=zhl h
 have:=H.st.l
 have:=H.st.k
 exact ⟨by omega,by omega,fun x hx=>Nat.le_trans (H.tl x hx) (by omega)⟩
def PTb (v:PV):Prop := ∃ t:Ta,v=taO t∧TaL 128 t∧∀ x∈t.lb,inI x
theorem yb4 {t:Ta} (h:za9 t=true) : ∀ y∈t.lb,inI y:=by
 unfold za9 at h
 simp only [Bool.and_eq_true,List.all_eq_true] at h
 intro y hy
 have:=za2.mp (h.1.2 y hy)
 unfold inI
 omega
set_option maxHeartbeats 8000000 in
set_option maxRecDepth 8000 in
theorem yqd (B:List Int) (p:Nat) (s:Int) (hp:p≤B.length) (hB:B.length≤9223372036854775807) : ∃ r,RUN T zoq [.bx [.sl 1 (zbl B),iv p,iv s]]=some r∧zgp B PTb r:=by
 refine zgz z6i rfl ?_
 obtain ⟨r1,h1,v1,p1,s1,⟨t,rfl,ht,hok⟩,hp1,rfl⟩:=z9l B p s hp hB
 obtain ⟨t1,t2,t3,t4,t5,t6⟩:=zhl hok
 have hlI:=yb4 hok
 clear hok
 obtain ⟨ns,nm,rw,lb⟩:=t
 have c1:=ht.ns
 have c2:=ht.ss
 have c3:=ht.nm
 have c4:=ht.rw
 have c5:=ht.rr
 have c6:=ht.lb
 simp only at t1 t2 t3 t4 t5 t6 hlI c1 c2 c3 c4 c5 c6
 clear ht
 simp only [taO] at h1
 obtain ⟨r2,h2,v2,p2,s2,⟨a2,rfl,a20,a21⟩,hp2,rfl⟩:=zbv B p1 s1 hp1 hB rw.length (by omega)
 have a22:=a21 (by omega)
 obtain ⟨f,rfl⟩ : ∃ f:Nat,a2=f:=⟨a2.toNat,by omega⟩
 obtain ⟨r3,h3,v3,p3,s3,⟨d,rfl,d0,d1⟩,hp3,rfl⟩:=zbv B p2 s2 hp2 hB 14 (by omega)
 have hf:f<rw.length:=by omega
 have hfy:f<lb.length:=by omega
 obtain ⟨l,hl⟩ : ∃ l,rw[f]?=some l:=⟨_,List.getElem?_eq_getElem hf⟩
 have hln:=t6 l (List.mem_of_getElem? hl)
 have hl':=zfi (q:=true) hl
 simp only [cel,if_true] at hl'
 have hr1:zam 8 1=true:=by decide
 have hr0:zam 8 0=true:=by decide
 have hr3:zam 8 3=true:=by decide
 have hr7:zam 16 7=true:=by decide
 have hr13:zam 16 3=true:=by decide
 have hrl:=zd8 (n:=l.length+1) (by omega)
 have hrb:=zd8 (n:=lb.length+1) (by omega)
 have mk : ∀ {ns:List ByteArray} {nm:ByteArray} {rw:List (List Int)} {lb:List Int},ns.length≤128→(∀ x∈ns,x.size≤128)→nm.size≤128→rw.length≤128→(∀ l∈rw,l.length≤128)→lb.length≤128→(∀ x∈lb,inI x)→PTb (taO ⟨ns,nm,rw,lb⟩):=fun a b c d e f g=>⟨_,rfl,⟨a,b,c,d,e,f⟩,g⟩
 have nsA : ∀ x∈ns,x.size≤128:=fun x hx=>Nat.le_trans (c2 x hx) (by omega)
 have rwA : ∀ l∈rw,l.length≤128:=fun l hl=>Nat.le_trans (c5 l hl) (by omega)
 by_cases e0:d=0
 ·subst e0
  obtain ⟨x0,hx0⟩ : ∃ x,ns[0]?=some x:=⟨_,List.getElem?_eq_getElem (by omega)⟩
  have hx0':=zq0 hx0
  have hn0:0<ns.length:=by omega
  obtain ⟨r4,h4,y,p4,s4,hy,hp4,rfl⟩:=z88 B p3 s3 hp3 hB [bs [],bs [65],bs [49,97],bs [121],bs [97,98,99,100,101,102,103,104,105,106,107,108],bs [97,98,99,100,101,102,103,104,105,106,107,108,109],bs [98]] (by simp)
  have hys:y.size≤128:=by
   simp only [List.mem_cons,List.not_mem_nil,or_false] at hy
   rcases hy with rfl | rfl | rfl | rfl | rfl | rfl | rfl <;> decide
  simp only [za5,List.map] at h4
  have hset:=ysc ns 0 y
  simp [-getElem?_pos,zgs,zgt,h1,h2,h3,h4,hr7,hx0',hset,hn0]
  exact ⟨_,p4,s4,mk (by simp; omega) (ztv nsA hys) (by omega) (by omega) rwA (by omega) hlI,hp4,rfl⟩
 by_cases e1:d=1
 ·subst e1
  obtain ⟨r4,h4,y,p4,s4,hy,hp4,rfl⟩:=z88 B p3 s3 hp3 hB [bs [],bs [97],bs [121,45]] (by simp)
  have hys:y.size≤128:=by
   simp only [List.mem_cons,List.not_mem_nil,or_false] at hy
   rcases hy with rfl | rfl | rfl <;> decide
  simp only [za5,List.map] at h4
  simp [-getElem?_pos,zgs,zgt,h1,h2,h3,h4,hr13]
  exact ⟨_,p4,s4,mk (by omega) nsA hys (by omega) rwA (by omega) hlI,hp4,rfl⟩
 by_cases e2:d=2
 ·subst e2
  have hsn:=zdd l 0
  have hset:=z4f rw f (l++[0])
  simp [-getElem?_pos,zgs,zgt,za8,zbr,h1,h2,h3,hf,hl',hr1,hrl,hsn,hset]
  exact ⟨_,p3,s3,mk (by omega) nsA (by omega) (by simp; omega) (ztv rwA (by simp; omega)) (by omega) hlI,hp3,rfl⟩
 by_cases e3:d=3
 ·subst e3
  obtain ⟨r4,h4,v4,p4,s4,⟨x,rfl,hx⟩,hp4,rfl⟩:=zij B p3 s3 hp3 hB [2147483647,2147483648,-2147483648] (by simp)
  simp only [zac,List.map] at h4
  obtain ⟨y,hy⟩ : ∃ y,l[0]?=some y:=⟨_,List.getElem?_eq_getElem (by omega)⟩
  have hy':=zbp hy
  have hu0:0<l.length:=by omega
  have hset0:=yfm l 0 x
  have hset:=z4f rw f (l.set 0 x)
  simp [-getElem?_pos,zgs,zgt,za8,zbr,h1,h2,h3,h4,hf,hl',hy',hu0,hr3,hset0,hset]
  exact ⟨_,p4,s4,mk (by omega) nsA (by omega) (by simp; omega) (ztv rwA (by simp; omega)) (by omega) hlI,hp4,rfl⟩
 by_cases e4:d=4
 ·subst e4
  obtain ⟨r4,h4,v4,p4,s4,⟨x,rfl,hx⟩,hp4,rfl⟩:=yos B p3 s3 hp3 hB
  obtain ⟨y,hy⟩ : ∃ y,lb[f]?=some y:=⟨_,List.getElem?_eq_getElem hfy⟩
  have hy':=zbp hy
  have hset:=yfm lb f x
  simp [-getElem?_pos,zgs,zgt,h1,h2,h3,h4,hfy,hy',hset]
  exact ⟨_,p4,s4,mk (by omega) nsA (by omega) (by omega) rwA (by simp; omega) (ztv hlI hx),hp4,rfl⟩
 by_cases e5:d=5
 ·subst e5
  have hsn:=zdd lb 1
  simp [-getElem?_pos,zgs,zgt,h1,h2,h3,hr1,hrb,hsn]
  exact ⟨_,p3,s3,mk (by omega) nsA (by omega) (by omega) rwA (by simp; omega) (z4s hlI (by unfold inI; omega)),hp3,rfl⟩
 by_cases e6:d=6
 ·subst e6
  have hset:=z4f rw f []
  simp only [zac,List.map] at hset
  simp [-getElem?_pos,zgs,zgt,za8,zbr,h1,h2,h3,hf,hl',hr0,hset]
  exact ⟨_,p3,s3,mk (by omega) nsA (by omega) (by simp; omega) (ztv rwA (by simp)) (by omega) hlI,hp3,rfl⟩
 by_cases e7:d=7
 ·subst e7
  simp [-getElem?_pos,zgs,zgt,h1,h2,h3]
  refine za3 (fun n st => ∃ (p o1 o2 a1 a2:Nat) (s:Int) (L:List (List Int)) (Y:List Int),L.length+n=50∧1≤L.length∧L.length≤41∧(∀ l∈L,l.length≤64)∧Y.length≤64+L.length∧(∀ x∈Y,inI x)∧p≤B.length∧st.V 0 = .ptr 0 none 0 0 0∧st.V 2 = .ptr 1 none 0 0 0∧st.V 3 = .ptr 5 none 0 0 0∧2<o1∧o1≠5∧o1<st.nx∧2<o2∧o2≠5∧o2<st.nx∧o1≠o2∧5<st.nx∧st.S 0=some (.box [.sl 1 (zbl B),iv p,iv s])∧st.S 1=some (.box [.e0,.v (.string (bs [])),.e0,.e0])∧st.S 2=some (.row 1 (za5 ns))∧st.S o1=some (.row 1 (rws true L))∧st.S o2=some (.row 1 (zac Y))∧st.S 5=some (.box [.ref 2 none 0 0 ns.length,.v (.string nm),.ref o1 none a1 0 L.length,.ref o2 none a2 0 Y.length])) ?_ (50-rw.length) _ ⟨p3,3,4,0,0,s3,rw,lb,by omega,by omega,by omega,c5,by omega,hlI,hp3,by simp,by simp,by simp,by omega,by omega,by simp,by omega,by omega,by simp,by omega,by simp,by simp,by simp,by simp,by simp,by simp,by simp⟩
  clear h1 h2 h3 hp1 hp2 hp3 hp e0 e1 e2 e3 e4 e5 e6 hl' hln hl hf hfy a20 a21 a22 d0 d1 hrl hrb
  rintro n st ⟨p,o1,o2,a1,a2,s,L,Y,hi,hL1,hL,hLl,hY,hYi,hp,v0,v2,v3,ho1,ho15,ho1x,ho2,ho25,ho2x,ho12,hnx,hS0,hS1,hS2,hSo1,hSo2,hS5⟩
  obtain ⟨r1,h1,v1,p1,s1,⟨b,rfl,b0,b1⟩,hp1,rfl⟩:=zbv B p s hp hB 2 (by omega)
  have b2:=b1 (by omega)
  have w1:=w64 (x:=40+b) (by omega) (by omega)
  have z0:=fr (show 0<st.nx by omega)
  have z1:=fr (show 1<st.nx by omega)
  have z2:=fr (show 2<st.nx by omega)
  have z5:=fr hnx
  have y1:=fr ho1x
  have y2:=fr ho2x
  have u:(o1=5)=False∧(5=o1)=False∧(o2=5)=False∧(5=o2)=False∧(o1=o2)=False∧(o2=o1)=False∧(o1=0)=False∧(0=o1)=False∧(o2=0)=False∧(0=o2)=False∧(o1=1)=False∧(1=o1)=False∧(o2=1)=False∧(1=o2)=False∧(o1=2)=False∧(2=o1)=False∧(o2=2)=False∧(2=o2)=False:=by
   refine ⟨?_,?_,?_,?_,?_,?_,?_,?_,?_,?_,?_,?_,?_,?_,?_,?_,?_,?_⟩ <;> exact eq_false (by omega)
  by_cases h:(L.length:Int)<40+b
  ·obtain ⟨l,hl⟩ : ∃ l,L[0]?=some l:=⟨_,List.getElem?_eq_getElem (by omega)⟩
   have hl':=zfi (q:=true) hl
   simp only [cel,if_true] at hl'
   have hl64:=hLl l (List.mem_of_getElem? hl)
   have hrl:=zd8 (n:=l.length) (by omega)
   have hrw:zam 24 (L.length+1)=true:=by simp [zam]; omega
   have hr24:zam 24 1=true:=by decide
   have hry:=zd8 (n:=Y.length+1) (by omega)
   have hsn:=z0k L l
   have hsy:=zdd Y 0
   have hL0:0<L.length:=by omega
   have nz : ¬ st.nx=0:=by omega
   have n53 : ¬ st.nx+3=o2∧¬ st.nx+3=5∧¬ st.nx+5=5∧¬ st.nx=2:=⟨by omega,by omega,by omega,by omega⟩
   have na : ∀ a b:Nat,st.nx+a+b=st.nx+(a+b):=fun a b=>Nat.add_assoc _ _ _
   simp [-getElem?_pos,z0z,za8,zbr,v0,v2,v3,hS0,hS1,hS2,hSo1,hSo2,hS5,h1,w1,h,hl',hr0,hr1,hrl,hrw,hr24,hry,hsn,hsy,hL0,z0,z1,z2,z5,y1,y2,u,z9u,na]
   exact zaq (n-1) (by omega) ⟨p1,st.nx+3,st.nx+5,st.ep,st.ep,s1,L++[l],Y++[0],by simp; omega,by simp,by simp; omega,z4s hLl hl64,by simp; omega,z4s hYi (by unfold inI; omega),hp1,by simp [v0],by simp [v2],by simp [v3],by omega,by omega,by simp,by omega,by omega,by simp,by omega,by first | (simp; done) | (simp; omega),by simp [z0,u,nz],by simp [z1,u,hS1,nz],by simp [z2,u,hS2,nz],by simp [y1,y2,z5,u,n53,nz],by simp [z5,n53,nz],by simp⟩
  ·simp [-getElem?_pos,z0z,v0,v2,v3,hS0,hS1,hS2,hSo1,hSo2,hS5,h1,w1,h,z0,z1,z2,z5,y1,y2,u,show 1≤o1 by omega,show 1≤o2 by omega]
   exact ⟨_,p1,s1,mk (by omega) nsA (by omega) (by omega) (fun l hl=>Nat.le_trans (hLl l hl) (by omega)) (by omega) hYi,hp1,rfl⟩
 ·simp [-getElem?_pos,zgs,zgt,h1,h2,h3,e0,e1,e2,e3,e4,e5,e6,e7]
  exact ⟨_,p3,s3,mk (by omega) nsA (by omega) (by omega) rwA (by omega) hlI,hp3,rfl⟩
theorem yqe (B:List Int) (hB:B.length≤9223372036854775807) : ∃ (t:Ta) (c:Cfg) (p:Nat) (s:Int),TaL 128 t∧(∀ x∈t.lb,inI x)∧c.sg.length≤64∧p≤B.length∧RUN T zn7 [.sl 1 (zbl B)]=some ([.bx [.sl 1 (zbl B),iv p,iv s],taO t,zld c],[]):=by
 obtain ⟨r,h,s,rfl⟩:=yot B hB
 simp only [Int.natCast_zero] at h
 obtain ⟨r1,h1,v1,p1,s1,⟨t,rfl,ht,hok⟩,hp1,rfl⟩:=z9l B 0 s (by omega) hB
 simp only [Int.natCast_zero] at h1
 have hlI:=yb4 hok
 have ht':TaL 128 t:=⟨Nat.le_trans ht.ns (by omega),fun x hx=>Nat.le_trans (ht.ss x hx) (by omega),Nat.le_trans ht.nm (by omega),Nat.le_trans ht.rw (by omega),fun x hx=>Nat.le_trans (ht.rr x hx) (by omega),Nat.le_trans ht.lb (by omega)⟩
 obtain ⟨r2,h2,v2,p2,s2,⟨c,rfl,hc⟩,hp2,rfl⟩:=z80 B p1 s1 hp1 hB
 obtain ⟨r3,h3,v3,p3,s3,⟨b3,rfl⟩,hp3,rfl⟩:=zga B p2 s2 hp2 hB 16 (by omega)
 simp only [taO,zld] at h1 h2
 cases b3 with
 | false =>
  obtain ⟨r5,h5,v5,p5,s5,⟨b5,rfl⟩,hp5,rfl⟩:=zga B p3 s3 hp3 hB 16 (by omega)
  cases b5 with
  | false =>
   refine ⟨t,c,p5,s5,ht',hlI,by omega,hp5,zag zsw rfl ?_⟩
   simp [-getElem?_pos,zmk,zml,h,h1,h2,h3,h5]
  | true =>
   obtain ⟨r6,h6,v6,p6,s6,⟨c',rfl,hc'⟩,hp6,rfl⟩:=z81 B p5 s5 hp5 hB
   simp only [zld] at h6
   refine ⟨t,c',p6,s6,ht',hlI,hc',hp6,zag zsw rfl ?_⟩
   simp [-getElem?_pos,zmk,zml,h,h1,h2,h3,h5,h6]
 | true =>
  obtain ⟨r4,h4,v4,p4,s4,⟨t',rfl,ht2,hl2⟩,hp4,rfl⟩:=yqd B p3 s3 hp3 hB
  obtain ⟨r5,h5,v5,p5,s5,⟨b5,rfl⟩,hp5,rfl⟩:=zga B p4 s4 hp4 hB 16 (by omega)
  simp only [taO] at h4
  cases b5 with
  | false =>
   refine ⟨t',c,p5,s5,ht2,hl2,by omega,hp5,zag zsw rfl ?_⟩
   simp [-getElem?_pos,zmk,zml,h,h1,h2,h3,h4,h5]
  | true =>
   obtain ⟨r6,h6,v6,p6,s6,⟨c',rfl,hc'⟩,hp6,rfl⟩:=z81 B p5 s5 hp5 hB
   simp only [zld] at h6
   refine ⟨t',c',p6,s6,ht2,hl2,hc',hp6,zag zsw rfl ?_⟩
   simp [-getElem?_pos,zmk,zml,h,h1,h2,h3,h4,h5,h6]
def stC (s:Sta):List PV:=[.own 1 (zac s.sm),.own 1 (trs true s.ts)]
def zeg (t:Ta) (cfg:Cfg) (n:Nat):List Sta:=(List.range (n+1)).map fun k=>(zfa t cfg k).getD noS
theorem z2g {t:Ta} {cfg:Cfg} {n:Nat}:(zeg t cfg n).length=n+1:=by simp [zeg]
theorem yxn {t:Ta} {cfg:Cfg} {n:Nat} {s:Sta} (h:zfa t cfg (n+1)=some s):zeg t cfg n++[s]=zeg t cfg (n+1):=by
 unfold zeg
 rw [List.range_succ (n:=n+1),List.map_append,List.map_singleton,h]
 rfl
def zg4 (t:Ta) (cfg:Cfg):List Sta×Bool:=if (za9 t && za1 cfg)=true then (zeg t cfg cfg.ro.toNat,true) else ([],false)
set_option maxHeartbeats 4000000 in
set_option maxRecDepth 8000 in
theorem yqf (p:Bool) (t:Ta) (cfg:Cfg) (ht:TaL 1048576 t) (hti : ∀ y∈t.lb,inI y) (hg:cfg.sg.length≤1048576):RUN T zn8 [taS p t,cfS cfg]=some ([.own 2 ((zg4 t cfg).1.map stC),bv (zg4 t cfg).2],[]):=by
 have e1:=yp2 p t ht hti
 have e2:=zy3 cfg (by omega)
 have e3:=z9n p t cfg.bi ht
 have rn:=fun s=>yqc p true true t (zbx t cfg.bi) (zbt t cfg.bi) cfg s ht hti
 simp only [taS,stO,cfS] at *
 cases ht1:za9 t with
 | false =>
  have hR:zg4 t cfg=([],false):=by unfold zg4; rw [ht1]; rfl
  have hN:zfn t=(noS,false):=by unfold zfn; rw [if_neg (by rw [ht1]; simp)]; rfl
  rw [hR]
  rw [hN] at e1
  have hz1:zac noS.sm=[]:=rfl
  have hz2:trs true noS.ts=[]:=rfl
  rw [hz1,hz2] at e1
  refine zag zy0 rfl ?_
  simp [-getElem?_pos,zpz,zp0,e1]
 | true =>
 have hN:(zfn t).2=true:=by unfold zfn; rw [if_pos ht1]
 rw [hN] at e1
 cases hc:za1 cfg with
 | false =>
  have hR:zg4 t cfg=([],false):=by unfold zg4; rw [ht1,hc]; rfl
  rw [hR]
  rw [hc] at e2
  generalize (zfn t).1=s0 at *
  refine zag zy0 rfl ?_
  simp [-getElem?_pos,zpz,zp0,e1,e2]
 | true =>
 rw [hc] at e2
 obtain ⟨t1,t2,t3,t4,t5,t6⟩:=zhl ht1
 obtain ⟨⟨ro1,ro8⟩,_,hbi,_⟩:=zir hc
 obtain ⟨N,hN8⟩ : ∃ N:Nat,cfg.ro=N:=⟨cfg.ro.toNat,by omega⟩
 obtain ⟨sN,hsN,_⟩:=znd ht1 hc N (by omega)
 have hR:zg4 t cfg=(zeg t cfg N,true):=by unfold zg4; rw [ht1,hc,hN8]; rfl
 rw [hR]
 have hwi:zal cfg.bi 2 8=true:=za2.mpr (by omega)
 obtain ⟨l1,l2⟩:=ybu ht1 hwi
 obtain ⟨l3,l4⟩:=yy1 (t:=t) (b:=cfg.bi)
 have rn:=fun s=>rn s (by omega) (fun l hl=>Nat.le_trans (l3 l hl) (by omega)) (by omega) (fun l hl=>by rw [l4 l hl]; omega) hg
 have hnx:=fun (i:Nat) (hn:i≤7) (s:Sta) => @BI.next t cfg ht1 hc i hn s
 have hrd : ∀ s,zhc t (zbx t cfg.bi) (zbt t cfg.bi) cfg s=rnd t cfg s:=fun _=>rfl
 simp only [hrd] at rn
 have hst:=fun i=>znd ht1 hc i
 obtain ⟨s0,hs0⟩ : ∃ s0,s0=(zfn t).1:=⟨_,rfl⟩
 rw [← hs0] at e1
 have hb0:zfa t cfg 0=some s0:=by rw [hs0]; rfl
 generalize zbx t cfg.bi=GC at *
 generalize zbt t cfg.bi=GW at *
 refine zag zy0 rfl ?_
 simp [-getElem?_pos,zpz,zp0,e1,e2,e3]
 refine za3 (fun n st => ∃ (i o e o1 o2:Nat) (s:Sta),i+n=N∧zfa t cfg i=some s∧st.V 2 = .ptr 0 none 0 0 0∧st.V 3 = .ptr 1 none 0 0 0∧st.V 6 = .ptr 4 none 0 0 0∧st.V 9 = .ptr 7 none 0 0 0∧st.V 8 = .ref o none e 0 (i+1)∧st.V 31=iv cfg.ro∧st.V 32=iv i∧st.ep=0∧1<o1∧o1<st.nx∧1<o2∧o2<st.nx∧7<o∧o<st.nx∧¬ o1=o2∧¬ o1=o∧¬ o2=o∧¬ o1=4∧¬ o1=5∧¬ o1=6∧¬ o1=7∧¬ o2=4∧¬ o2=5∧¬ o2=6∧¬ o2=7∧st.S 0=some (.box [.sl 1 (za5 t.ns),.v (.string t.nm),.sl 1 (rws p t.rw),.sl 1 (zac t.lb)])∧st.S 1=some (.box [iv cfg.ro,iv cfg.de,iv cfg.bi,iv cfg.la,iv cfg.rw,iv cfg.nu,iv cfg.dn,.sl 1 (zac cfg.sg)])∧st.S 4=some (.box [.ref o1 none 0 0 s.sm.length,.ref o2 none 0 0 s.ts.length])∧st.S 5=some (.row 1 (rws true GC))∧st.S 6=some (.row 1 (rws true GW))∧st.S 7=some (.box [.ref 5 none 0 0 GC.length,.ref 6 none 0 0 GW.length])∧st.S o1=some (.shadow 1 (zac s.sm) 0)∧st.S o2=some (.shadow 1 (trs true s.ts) 0)∧st.S o=some (.row 2 ((zeg t cfg i).map stC))) ?_ N _ ⟨0,8,0,2,3,s0,by omega,hb0,by simp,by simp,by simp,by simp,by simp,by simp,by simp,by simp,by omega,by simp,by omega,by simp,by omega,by simp,by omega,by omega,by omega,by omega,by omega,by omega,by omega,by omega,by omega,by omega,by omega,by simp,by simp,by simp,by simp,by simp,by simp,by simp,by simp,by simp [zeg,hb0,stC]⟩
 rintro n st ⟨i,o,e,o1,o2,s,hi,hbs,v2,v3,v6,v9,v8,v31,v32,hep,ho1,ho1x,ho2,ho2x,ho,hox,h12,h1o,h2o,h14,h15,h16,h17,h24,h25,h26,h27,hS0,hS1,hS4,hS5,hS6,hS7,hSa,hSb,hSo⟩
 have nz : ¬ st.nx=0∧¬ st.nx=1∧¬ st.nx=2∧¬ st.nx=3∧¬ st.nx=4∧¬ st.nx=5∧¬ st.nx=6∧¬ st.nx=7:=by omega
 have z0:=fr (show 0<st.nx by omega)
 have z1:=fr (show 1<st.nx by omega)
 have z4:=fr (show 4<st.nx by omega)
 have z5:=fr (show 5<st.nx by omega)
 have z6:=fr (show 6<st.nx by omega)
 have z7:=fr (show 7<st.nx by omega)
 have y1:=fr ho1x
 have y2:=fr ho2x
 have yo:=fr hox
 have u : ¬ o2=o1∧¬ o=o1∧¬ o=o2∧¬ 4=o∧¬ o=4∧¬ 0=o∧¬ o=0∧¬ 1=o∧¬ o=1∧¬ 5=o∧¬ 6=o∧¬ 7=o∧¬ o=5∧¬ o=6∧¬ o=7:=by omega
 have na : ∀ a b:Nat,st.nx+a+b=st.nx+(a+b):=fun a b=>Nat.add_assoc _ _ _
 have hlen:((zeg t cfg i).map stC).length=i+1:=by rw [List.length_map,z2g]
 by_cases h:i<N
 ·obtain ⟨s',hs',HB⟩:=hst i (by omega)
  rw [hbs] at hs'
  cases hs'
  obtain ⟨k1,k2⟩:=hnx i (by omega) s HB
  have rr:=rn s (HB.lens ht1 (by omega)) (HB.st.inI ht1 (by omega))
  rw [k1] at rr
  have hb':zfa t cfg (i+1)=some (rnd t cfg s).1:=by rw [zfa,hbs]; simp only [Option.bind_some,k1,if_true]
  generalize (rnd t cfg s).1=s2 at *
  have hap:(zeg t cfg i).map stC++[[.own 1 (zac s2.sm),.own 1 (trs true s2.ts)]]=(zeg t cfg (i+1)).map stC:=by rw [← yxn hb',List.map_append]; rfl
  have hro:zam 48 (i+1+1)=true:=by simp [zam]; omega
  generalize (zeg t cfg i).map stC=L at *
  simp only [stS] at rr
  have hw:=wS h (by omega:N≤9223372036854775807)
  have hlt:(i:Int)<cfg.ro:=by omega
  simp [-getElem?_pos,z0v,v2,v3,v6,v9,v8,v31,v32,hep,hS0,hS1,hS4,hS5,hS6,hS7,hSa,hSb,hSo,hlt,rr,hw,hlen,hap,hro,na,nz,z0,z1,z4,z5,z6,z7,y1,y2,yo,u,h12,h1o,h2o,h14,h15,h16,h17,h24,h25,h26,h27]
  exact zaq (n-1) (by omega) ⟨i+1,st.nx+4,0,st.nx,st.nx+1,s2,by omega,hb',by simp [v2],by simp [v3],by simp [v6],by simp [v9],by simp [z2g],by simp [v31],by simp,by simp,by omega,by simp,by omega,by simp,by omega,by simp,by omega,by omega,by omega,by omega,by omega,by omega,by omega,by omega,by omega,by omega,by omega,by simp [z0,z1,z4,z5,z6,z7,yo,u,nz,hS0],by simp [z0,z1,z4,z5,z6,z7,yo,u,nz,hS1],by simp [z0,z1,z4,z5,z6,z7,yo,u,nz,hS4],by simp [z0,z1,z4,z5,z6,z7,yo,u,nz,hS5],by simp [z0,z1,z4,z5,z6,z7,yo,u,nz,hS6],by simp [z0,z1,z4,z5,z6,z7,yo,u,nz,hS7],by simp [z0,z1,z4,z5,z6,z7,yo,u,nz,h12],by simp [z0,z1,z4,z5,z6,z7,yo,u,nz,h12],by simp [z0,z1,z4,z5,z6,z7,yo,u,nz,h12]⟩
 ·have hiN:i=N:=by omega
  subst hiN
  have hge : ¬ ((i:Int)<cfg.ro):=by omega
  simp [-getElem?_pos,z0v,v2,v3,v6,v9,v8,v31,v32,hep,hS0,hS1,hS4,hS5,hS6,hS7,hSa,hSb,hSo,hge,hlen,nz,u,h12,h1o,h2o]
set_option maxHeartbeats 4000000 in
set_option maxRecDepth 8000 in
theorem z9o (p:Bool) (t:Ta) (cfg:Cfg) (ht:TaL 1048576 t) (hti : ∀ y∈t.lb,inI y) (hg:cfg.sg.length≤1048576):RUN T zli [taS p t,cfS cfg]=some ([stO (zd3 t cfg).1,bv (zd3 t cfg).2],[]):=by
 have e1:=yqf p t cfg ht hti hg
 have hz:stO noS = .agg [.own 1 [],.own 1 []]:=rfl
 cases hok:(za9 t && za1 cfg) with
 | false =>
  have hs:zg4 t cfg=([],false):=by unfold zg4; rw [hok]; rfl
  have hR:zd3 t cfg=(noS,false):=by unfold zd3; rw [hok]; rfl
  rw [hR,hz]
  rw [hs] at e1
  simp only [taS,stO,cfS] at *
  refine zag z05 rfl ?_
  simp [-getElem?_pos,zro,zrp,e1]
 | true =>
 have hb:=hok
 simp only [Bool.and_eq_true] at hb
 obtain ⟨ht1,hc⟩:=hb
 obtain ⟨⟨ro1,ro8⟩,_⟩:=zir hc
 obtain ⟨N,hN8⟩ : ∃ N:Nat,cfg.ro=N:=⟨cfg.ro.toNat,by omega⟩
 obtain ⟨sN,hsN,_⟩:=znd ht1 hc N (by omega)
 have hs:zg4 t cfg=(zeg t cfg N,true):=by unfold zg4; rw [hok,hN8]; rfl
 have hR:zd3 t cfg=(sN,true):=by unfold zd3; rw [hok,hN8]; simp [hsN]
 rw [hR]
 rw [hs] at e1
 have hl:((zeg t cfg N).map stC).length=N+1:=by rw [List.length_map,z2g]
 have hg:((zeg t cfg N).map stC)[N]?=some [.own 1 (zac sN.sm),.own 1 (trs true sN.ts)]:=by
  unfold zeg
  rw [List.getElem?_map,List.getElem?_map,List.getElem?_range (by omega)]
  simp [hsN,stC]
 simp only [taS,stO,cfS] at *
 generalize (zeg t cfg N).map stC=L at *
 have hw:=w64 (x:=(N:Int)) (by omega) (by omega)
 have hLN:N<L.length:=by omega
 have s0:za8 L N 0=some (1,zac sN.sm):=by simp [za8,hg]
 have s1:za8 L N 1=some (1,trs true sN.ts):=by simp [za8,hg]
 have s2:za8 (zbr L N 0 .undef) N 1=some (1,trs true sN.ts):=by
  unfold zbr
  rw [hg]
  unfold za8
  rw [List.getElem?_set_self hLN]
  rfl
 refine zag z05 rfl ?_
 simp [-getElem?_pos,zro,zrp,e1,hl,hg,hw,s0,s1,s2]
theorem TaL.of128 {t:Ta} (h:TaL 128 t):TaL 1048576 t:=⟨Nat.le_trans h.ns (by omega),fun x hx=>Nat.le_trans (h.ss x hx) (by omega),Nat.le_trans h.nm (by omega),Nat.le_trans h.rw (by omega),fun x hx=>Nat.le_trans (h.rr x hx) (by omega),Nat.le_trans h.lb (by omega)⟩
theorem yqs (t:Ta) (c:Cfg):(zd3 t c).1.sm.length≤40∧(zd3 t c).1.ts.length≤8∧∀ x∈(zd3 t c).1.ts,x.length≤32:=by
 unfold zd3
 split
 ·rename_i h
  simp only [Bool.and_eq_true] at h
  obtain ⟨⟨ro1,ro8⟩,_⟩:=zir h.2
  obtain ⟨s,h1,h2⟩:=znd h.1 h.2 c.ro.toNat (by omega)
  rw [h1]
  have:=zhl h.1
  have:=h2.st.l
  have:=h2.st.k
  exact ⟨by simp only; omega,by simp only; omega,h2.tl⟩
 ·simp [noS]
theorem yqg (B:List Int) (hB:B.length≤9223372036854775807) : ∃ (t:Ta) (c:Cfg),TaL 128 t∧(∀ x∈t.lb,inI x)∧c.sg.length≤64∧RUN T zn0 [.sl 1 (zbl B)]=some ([taO t,zld c],[]):=by
 obtain ⟨t,c,p,s,ht,hl,hc,hp,h⟩:=yqe B hB
 refine ⟨t,c,ht,hl,hc,zag z5h rfl ?_⟩
 simp only [taO,zld] at *
 simp [-getElem?_pos,zud,zue,h]
def wro (c:Cfg) (r:Int):Cfg := { c with ro:=r }
theorem ytw {c:Cfg} {r:Int} (h:za1 c=true) (h':za1 (wro c r)=true):zk9 (wro c r) c:=⟨rfl,rfl,rfl,by rw [h,h'],fun _=>rfl⟩
theorem yww {t:Ta} {c:Cfg} {r:Int} (h:za1 c=true) (h':za1 (wro c r)=true) (s:Sta):rnd t (wro c r) s=rnd t c s:=by
 have e1 : ∀ gc gv g,zb7 gc gv g (wro c r)=zb7 gc gv g c:=fun gc gv g=>yu6 (ytw h h') gc gv g
 have e0 : ∀ v,shr v (wro c r)=shr v c:=fun v=>by unfold shr; rw [h,h']; rfl
 have e2 : ∀ l,zf1 (wro c r) l=zf1 c l:=fun l=>by
  have k1:zgy (wro c r)=zgy c:=funext fun x=>by unfold zgy; rw [e0]
  have k2:zf9 (wro c r)=zf9 c:=funext fun x=>by unfold zf9; rw [e0]
  unfold zf1; rw [k1,k2]
 have e3 : ∀ gc gv,zlb t gc gv (wro c r) s=zlb t gc gv c s:=fun gc gv=>by unfold zlb; simp only [e1,e2]
 have e4 : ∀ gc gv,zni t gc gv (wro c r) s=zni t gc gv c s:=fun gc gv=>by unfold zni; simp only [e3]
 unfold rnd zhc
 rw [e4]
 rfl
theorem ycz {t:Ta} {c:Cfg} {r:Int} (h:za1 c=true) (h':za1 (wro c r)=true) : ∀ n,zfa t (wro c r) n=zfa t c n
 | 0=>rfl
 | n+1=>by
  rw [zfa,zfa,ycz h h' n]
  congr 1
  funext s
  rw [yww h h']
theorem yus {t:Ta} {c:Cfg} (ht:za9 t=true) (hc:za1 c=true) (h2:2≤c.ro) : ∃ (u s:Sta) (tr:List Nd),zd3 t (wro c (c.ro-1))=(u,true)∧zd3 t c=(s,true)∧s.ts=u.ts++[tr]:=by
 have hc':za1 (wro c (c.ro-1))=true:=by
  obtain ⟨⟨r1,r8⟩,_⟩:=zir hc
  unfold za1 at hc ⊢
  simp only [Bool.and_eq_true] at hc ⊢
  obtain ⟨⟨⟨⟨⟨⟨⟨⟨b1,b2⟩,b3⟩,b4⟩,b5⟩,b6⟩,b7⟩,b8⟩,b9⟩:=hc
  exact ⟨⟨⟨⟨⟨⟨⟨⟨za2.mpr (by show 1≤c.ro-1∧c.ro-1≤8; omega),b2⟩,b3⟩,b4⟩,b5⟩,b6⟩,b7⟩,b8⟩,b9⟩
 obtain ⟨⟨r1,r8⟩,_⟩:=zir hc
 obtain ⟨N,hN⟩ : ∃ N:Nat,c.ro=N+1:=⟨(c.ro-1).toNat,by omega⟩
 obtain ⟨u,e1,H⟩:=znd ht hc N (by omega)
 obtain ⟨k1,k2,tr,k3,_⟩:=ybv ht hc H.st (by omega)
 refine ⟨u,(rnd t c u).1,tr,?_,?_,k3⟩
 ·unfold zd3
  rw [if_pos (by rw [ht,hc']; rfl),ycz hc hc']
  have:(wro c (c.ro-1)).ro.toNat=N:=by show (c.ro-1).toNat=N; omega
  rw [this,e1]
 ·unfold zd3
  rw [if_pos (by rw [ht,hc]; rfl)]
  have:c.ro.toNat=N+1:=by omega
  rw [this,zfa,e1]
  simp only [Option.bind_some,k1,if_true]
theorem yt4 {t:Ta} {c:Cfg}:(zd3 t c).2=(za9 t && za1 c):=by
 unfold zd3
 cases h:(za9 t && za1 c) with
 | false=>rfl
 | true =>
  simp only [Bool.and_eq_true] at h
  obtain ⟨⟨r1,r8⟩,_⟩:=zir h.2
  obtain ⟨u,e1,_⟩:=znd h.1 h.2 c.ro.toNat (by omega)
  simp only [if_true,e1]
set_option maxHeartbeats 4000000 in
set_option maxRecDepth 8000 in
theorem yyi (B:List Int) (hB:B.length≤9223372036854775807):RUN T zrn [.sl 1 (zbl B)]=some ([bv true],[]):=by
 have hb:=yow (zbl B)
 rw [yre] at hb
 by_cases c0:(1048576:Int)<B.length
 ·refine zag zmy rfl ?_
  simp [-getElem?_pos,zkx,zky,hb,c0]
 obtain ⟨t,c,ht,hl,hc,hd⟩:=yqg B hB
 have ht1:=ht.of128
 have b1:=z9o true t c ht1 hl (by omega)
 have b2:=z9o true t (wro c (c.ro-1)) ht1 hl (by show c.sg.length≤1048576; omega)
 have e1:=ypz true t ht1.up
 have e2:=yon c (by omega)
 have hok:=yt4 (t:=t) (c:=c)
 have hpre:=yus (t:=t) (c:=c)
 obtain ⟨u1,u2,u3⟩:=yqs t c
 obtain ⟨ro,de,bi,la,rw,nu,dn,sg⟩:=c
 simp only [wro] at b2 hpre
 simp only [taO,taS,zld,cfS,stO] at *
 cases h1:za9 t with
 | false =>
  rw [h1] at e1 hok
  rw [hok] at b1
  generalize zd3 t _=g at *
  obtain ⟨s,gb⟩:=g
  refine zag zmy rfl ?_
  simp [-getElem?_pos,zkx,zky,hb,c0,hd,b1,e1]
 | true =>
 cases h2:za1 ⟨ro,de,bi,la,rw,nu,dn,sg⟩ with
 | false =>
  rw [h1] at e1 hok
  rw [h2] at e2 hok
  rw [hok] at b1
  generalize zd3 t _=g at *
  obtain ⟨s,gb⟩:=g
  refine zag zmy rfl ?_
  simp [-getElem?_pos,zkx,zky,hb,c0,hd,b1,e1,e2]
 | true =>
 rw [h1] at e1 hok
 rw [h2] at e2 hok
 by_cases h3:ro<2
 ·rw [hok] at b1
  generalize zd3 t _=g at *
  obtain ⟨s,gb⟩:=g
  refine zag zmy rfl ?_
  simp [-getElem?_pos,zkx,zky,hb,c0,hd,b1,e1,e2,h3]
 obtain ⟨u,s,tr,k1,k2,k3⟩:=hpre h1 h2 (by omega)
 rw [k2] at b1 u1 u2 u3
 rw [k1] at b2
 obtain ⟨⟨r1,r8⟩,_⟩:=zir h2
 simp only at r1 r8 u1 u2 u3
 have hlen:s.ts.length=u.ts.length+1:=by rw [k3]; simp
 have hw1:=w64 (x:=ro-1) (by omega) (by omega)
 have hw2:=w64 (x:=(u.ts.length:Int)+1) (by omega) (by omega)
 have hcast:((s.ts.length:Nat):Int)=(u.ts.length:Int)+1:=by omega
 clear hpre hok
 refine zag zmy rfl ?_
 simp [-getElem?_pos,zkx,zky,hb,c0,hd,b1,b2,e1,e2,h3,hw1,hw2,hlen]
 refine za3 (fun n st => ∃ i:Nat,i+n=u.ts.length∧st.V 5 = .ptr 8 none 0 0 0∧st.V 7 = .ptr 11 none 0 0 0∧st.V 9=iv i∧st.ep=0∧11<st.nx∧st.S 8=some (.box [.ref 6 none 0 0 s.sm.length,.ref 7 none 0 0 (u.ts.length+1)])∧st.S 11=some (.box [.ref 9 none 0 0 u.sm.length,.ref 10 none 0 0 u.ts.length])∧st.S 7=some (.row 1 (trs true s.ts))∧st.S 10=some (.row 1 (trs true u.ts))) ?_ u.ts.length _ ⟨0,by omega,by simp,by simp,by simp,by simp,by simp,by simp,by simp,by simp,by simp⟩
 clear hd b1 b2 e1 e2 hb
 rintro n s0 ⟨i,hi,v5,v7,v9,hep,hnx,hS8,hS11,hS7,hS10⟩
 by_cases h:i<u.ts.length
 ·obtain ⟨x,hx⟩ : ∃ x,u.ts[i]?=some x:=⟨_,List.getElem?_eq_getElem h⟩
  have hx2:s.ts[i]?=some x:=by rw [k3,List.getElem?_append_left h]; exact hx
  have g1:=z3p (q:=true) hx
  have g2:=z3p (q:=true) hx2
  have hxl:=u3 x (List.mem_of_getElem? hx2)
  have r1:=yox x x (by omega) (by omega)
  rw [decide_eq_true rfl] at r1
  have hw:=wS h (by omega:u.ts.length≤9223372036854775807)
  have hi2:i<u.ts.length+1:=by omega
  simp [-getElem?_pos,z0u,za8,v5,v7,v9,hep,hS8,hS11,hS7,hS10,h,hi2,g1,g2,znr,r1,hw]
  exact zaq (n-1) (by omega) ⟨i+1,by omega,by simp [v5],by simp [v7],by simp,by simp [hep],by simp [hnx],by simp [hS8],by simp [hS11],by simp [hS7],by simp [hS10]⟩
 ·simp [-getElem?_pos,z0u,v5,v7,v9,hep,hS8,hS11,hS7,hS10,h]
end Go.Pe
