/- What the evaluator answers,the function answers in the model,wherever it is called (z73),if each compact text is its function (zlg); no other condition. -/
import Derived.Below
import Derived.ArgAppend
import Derived.Laws.Tables
import Derived.Laws.StructEq
import Derived.Laws.BytesString
import Derived.Laws.CopyRow
import Derived.Laws.MakeOwn
import Derived.Orders
import Derived.WalkKit
import Derived.ProofKit
import Derived.OpenShut
import Derived.ChangeOld
import Derived.Carry
import Derived.SizedLaws
import Derived.Laws.Externs
import Derived.Lib.SliceRun
import Derived.Sort.Grow
import Derived.Lib.SlicesCompact
import Derived.Test.YtpcphbbcnmhcnaaGreatEvA0
set_option linter.all false
namespace Go.Pe
open Go
variable {w:World} {Z F:Nat->Prop} {u:Value}
theorem zhz {α:Type} {sz:Nat} : ∀ {es:List (List α)} (_ : ∀ e∈es,e.length=sz) {i j:Nat} {cs:List α} {c:α},es[i]?=some cs->cs[j]?=some c->es.flatten[i*sz+j]?=some c
 | [],_,i,j,cs,c,h,_=>by simp at h
 | e::es,hs,0,j,cs,c,h,hc=>by
  simp only [List.getElem?_cons_zero,bC] at h;subst h;have hj:j<e.length:=(bD hc).1;simp only [Nat.zero_mul,Nat.zero_add,List.flatten_cons];rw [List.getElem?_append_left hj]; exact hc
 | e::es,hs,i+1,j,cs,c,h,hc=>by
  simp only [List.getElem?_cons_succ] at h;have he:e.length=sz:=hs e (by simp);have ih:=zhz (fun e h=>hs e (by simp [h])) h hc;simp only [List.flatten_cons];rw [bO (by rw [he,Nat.add_mul]; omega)];rw [he,show (i+1)*sz+j-sz=i*sz+j by rw [Nat.add_mul]; omega];exact ih
theorem zcz {α:Type} {sz:Nat} : ∀ {es:List (List α)} (_ : ∀ e∈es,e.length=sz),es.flatten.length=es.length*sz
 | [],_=>by simp
 | e::es,hs=>by
  have:=zcz (fun e h=>hs e (by simp [h]) : ∀ e∈es,e.length=sz);simp only [List.flatten_cons,List.length_append,List.length_cons,this,hs e (by simp),Nat.add_mul]; omega
theorem z8g {α:Type} {sz:Nat} : ∀ {es:List (List α)} (_ : ∀ e∈es,e.length=sz) {k:Nat} {c:α},es.flatten[k]?=some c->∃ i j cs,es[i]?=some cs/\cs[j]?=some c/\k=i*sz+j/\j<sz/\i<es.length
 | [],_,k,c,h=>by simp at h
 | e::es,hs,k,c,h=>by
  have he:e.length=sz:=hs e (by simp);simp only [List.flatten_cons] at h
  by_cases hk:k<e.length
  ·rw [List.getElem?_append_left hk] at h;exact ⟨0,k,e,by simp,h,by simp,by omega,by simp⟩
  ·rw [bO (by omega)] at h;obtain ⟨i,j,cs,h1,h2,h3,h4,h5⟩:=z8g (fun e h=>hs e (by simp [h])) h;refine ⟨i+1,j,cs,by simpa using h1,h2,?_,h4,by simp; omega⟩;rw [Nat.add_mul]; omega
def z85:PV->Option (Nat×List (List PV))
 | .sl sz es=>some (sz,es)
 | .own sz es=>some (sz,es)
 | _=>none
inductive zam (w:World) (Z:Nat->Prop):PV->Value->Prop
 | v {x:Value} (h:okV x=true):zam w Z (.v x) x
 | undef {x:Value}:zam w Z .undef x
 | nil {c:PV} {sz cap:Nat} {a:Option Addr} (h:z85 c=some (sz,[])):zam w Z c (.slice a 0 cap)
 | row {c:PV} {sz:Nat} {es:List (List PV)} {b off cap n:Nat} {us:Nat->Value} (h:z85 c=some (sz,es)) (hn:n=es.length) (hZ:Z b) (hs : ∀ e∈es,e.length=sz) (hcap:n<=cap)
   (hc : ∀ (k:Nat) (d:PV),es.flatten[k]?=some d->w.cell? ⟨b,off+k,none⟩=some (us k))
   (hr : ∀ (k:Nat) (d:PV),es.flatten[k]?=some d->zam w Z d (us k)):zam w Z c (.slice (some ⟨b,off,none⟩) n cap)
inductive zal (w:World):(Nat->Prop)->PV->Value->Prop
 | v {F:Nat->Prop} {x:Value} (h:okV x=true):zal w F (.v x) x
 | undef {F:Nat->Prop} {x:Value} (h:x.oneCell'=true):zal w F .undef x
 | nil {F:Nat->Prop} {sz:Nat} {a:Option Addr}:zal w F (.own sz []) (.slice a 0 0)
 | row {F:Nat->Prop} {sz:Nat} {es:List (List PV)} {b off cap n:Nat} {cur:Array Value} {t:TypeId} {us:Nat->Value} {G:Nat->Nat->Prop} (hn:n=es.length) (hF:F b) (hG : ∀ k x,G k x->F x/\x≠b) (hd : ∀ k k' x,G k x->G k' x->k=k')
   (hs : ∀ e∈es,e.length=sz) (hcap:n<=cap) (hb:w.heap[b]?=some (.cells cur t (0,0))) (hsz:off+cap*sz<=cur.size)
   (hc : ∀ (k:Nat) (d:PV),es.flatten[k]?=some d->cur[off+k]?=some (us k))
   (hr : ∀ (k:Nat) (d:PV),es.flatten[k]?=some d->zal w (G k) d (us k)):zal w F (.own sz es) (.slice (some ⟨b,off,none⟩) n cap)
theorem zx9 {x:Value} (h:okV x=true):x.oneCell'=true:=by cases x <;> first | rfl | cases h
theorem zam.mono {Z Z':Nat->Prop} (hZ : ∀ x,Z x->Z' x) {c:PV} (h:zam w Z c u):zam w Z' c u:=by
 induction h with
 | v h=>exact .v h
 | undef=>exact .undef
 | nil h=>exact .nil h
 | row h hn hz hs hcap hc _ ih=>exact .row h hn (hZ _ hz) hs hcap hc ih
theorem zam.congr {w w':World} {Z:Nat->Prop} (hw : ∀ x,Z x->w'.heap[x]?=w.heap[x]?) {c:PV} {u:Value} (h:zam w Z c u):zam w' Z c u:=by
 induction h with
 | v h=>exact .v h
 | undef=>exact .undef
 | nil h=>exact .nil h
 | row h hn hz hs hcap hc _ ih=>exact .row h hn hz hs hcap (fun k d hd=>by rw [World.cell?_of_block (w:=w) (hw _ hz)]; exact hc k d hd) ih
theorem zal.mono {F F':Nat->Prop} (hF : ∀ x,F x->F' x) {c:PV} (h:zal w F c u):zal w F' c u:=by
 cases h with
 | v h=>exact .v h
 | undef h=>exact .undef h
 | nil=>exact .nil
 | row hn hf hG hd hs hcap hb hsz hc hr=>exact .row hn (hF _ hf) (fun k x h=>⟨hF _ (hG k x h).1,(hG k x h).2⟩) hd hs hcap hb hsz hc hr
theorem zal.congr {w w':World} {c:PV} (h:zal w F c u):(∀ x,F x->w'.heap[x]?=w.heap[x]?)->zal w' F c u:=by
 induction h with
 | v h=>exact fun _ => .v h
 | undef h=>exact fun _ => .undef h
 | nil=>exact fun _ => .nil
 | row hn hf hG hd hs hcap hb hsz hc _ ih=>exact fun hw => .row hn hf hG hd hs hcap (by rw [hw _ hf]; exact hb) hsz hc (fun k d h=>ih k d h (fun x hx=>hw x (hG k x hx).1))
theorem zal.toZ {c:PV} (h:zal w F c u):zam w F c u:=by
 induction h with
 | v h=>exact .v h
 | undef h=>exact .undef
 | nil=>exact .nil rfl
 | row hn hf hG hd hs hcap hb hsz hc _ ih =>
  refine .row rfl hn hf hs hcap (fun k d h => ?_) (fun k d h=>(ih k d h).mono (fun x hx=>(hG k x hx).1));rw [cell_of_row _ _ _ _ _ _ hb]; exact hc k d h
theorem zam.sl_own {sz:Nat} {es:List (List PV)} (h:zam w Z (.own sz es) u):zam w Z (.sl sz es) u:=by
 cases h with
 | nil h=>cases h; exact .nil rfl
 | row h hn hz hs hcap hc hr=>cases h; exact .row rfl hn hz hs hcap hc hr
theorem zam.frz {c:PV} (h:zam w Z c u):zam w Z (Pe.fz c) u:=by
 cases c with
 | own sz es=>exact h.sl_own
 | _=>exact h
theorem zal.one {c:PV} (h:zal w F c u):u.oneCell'=true:=by
 cases h with
 | v h=>exact zx9 h
 | undef h=>exact h
 | nil=>rfl
 | row=>rfl
theorem zam.cell {w:World} {Z:Nat->Prop} {c:PV} {sz:Nat} {es:List (List PV)} {a:Option Addr} {n cap:Nat} (h:zam w Z c (.slice a n cap)) (hc:z85 c=some (sz,es)) {i:Nat} {cs:List PV} (hi:es[i]?=some cs) :
  n=es.length/\∃ (b off:Nat) (us:Nat->Value),a=some ⟨b,off,none⟩/\Z b/\cs.length=sz/\∀ (j:Nat) (d:PV),cs[j]?=some d->w.cell? ⟨b,off+(i*sz+j),none⟩=some (us j)/\zam w Z d (us j):=by
 cases h with
 | v h=>cases hc
 | undef=>cases hc
 | nil h=>rw [h] at hc; cases hc; simp at hi
 | row h hn hz hs hcap hcl hr =>
  rename_i sz' es' b off us;rw [h] at hc; cases hc;refine ⟨hn,b,off,fun j=>us (i*sz+j),rfl,hz,hs cs (bF hi),fun j d hd => ?_⟩;have:=zhz hs hi hd;exact ⟨hcl _ _ this,hr _ _ this⟩
theorem zam.len {c:PV} {sz:Nat} {es:List (List PV)} (h:zam w Z c u) (hc:z85 c=some (sz,es)) : ∃ a cap,u = .slice a es.length cap/\es.length<=cap:=by
 cases h with
 | v h=>cases hc
 | undef=>cases hc
 | nil h=>rw [h] at hc; cases hc; exact ⟨_,_,rfl,Nat.zero_le _⟩
 | row h hn hz hs hcap hcl hr=>rw [h] at hc; cases hc; subst hn; exact ⟨_,_,rfl,hcap⟩
end Go.Pe
namespace Go.Pe
open Go
variable {w w':World} {st st':St}
def za0 (w:World) (S:Nat->Option Ob) (hv:Nat->Value) (o:Nat):Option (Nat×Nat)->Option Value
 | none=>some (hv o)
 | some (i,j)=>match S o,hv o with
  | some (.row sz _),.slice (some a) _ _=>w.cell? ⟨a.block,a.off+(i*sz+j),none⟩
  | _,_=>none
def zdw (h:Value) (sz lo len:Nat) (u:Value):Prop :=
 ∃ a n cap a',h = .slice a n cap/\lo+len<=n/\n<=cap/\u = .slice a' len (cap-lo)/\(cap-lo=0\/∃ b off,a=some ⟨b,off,none⟩/\a'=some ⟨b,off+lo*sz,none⟩)
structure Gh where
 Z:Nat->Prop
 K:Nat->Prop
 F:Nat->Nat->Prop
 hv:Nat->Value
def zyt (w:World) (hv:Nat->Value) (st:St) (o:Nat) (p:Option (Nat×Nat)) (e lo len:Nat) (u:Value):Prop :=
 (∃ a n c,u = .slice a n c)/\o<st.nx/\e<=st.ep/\∀ sz es,zax st.ep (st.S o) p e=some (sz,es)->(∃ h,za0 w st.S hv o p=some h/\zdw h sz lo len u/\lo+len<=es.length)
def zu0 (w:World) (hv:Nat->Value) (st:St) (o:Nat) (p:Option (Nat×Nat)) (e i j:Nat) (u:Value):Prop :=
 o<st.nx/\e<=st.ep/\(∀ cs,st.S o=some (.box cs)->p=none->i=0->∃ b,hv o = .pointer (some ⟨b,0,none⟩)/\u = .pointer (some ⟨b,j,none⟩)) /\
  ∀ sz es,zax st.ep (st.S o) p e=some (sz,es)->∃ b off n cap,za0 w st.S hv o p=some (.slice (some ⟨b,off,none⟩) n cap)/\u = .pointer (some ⟨b,off+(i*sz+j),none⟩)
def zux (w:World) (Z:Nat->Prop) (cs:List PV) (j:Nat) (u:Value):Prop :=
 ∃ (b off:Nat) (us:Nat->Value),Z b/\u = .pointer (some ⟨b,off+j,none⟩)/\∀ (k:Nat) (d:PV),cs[k]?=some d->w.cell? ⟨b,off+k,none⟩=some (us k)/\zam w Z d (us k)
def zbc (w:World) (g:Gh) (st:St):PV->Value->Prop
 | .undef,_=>True
 | .v x,u=>u=x
 | .e0,u => ∃ a,u = .slice a 0 0
 | .sl sz es,u=>zam w g.Z (.sl sz es) u
 | .ref o p e lo len,u=>zyt w g.hv st o p e lo len u
 | .ptr o p e i j,u=>zu0 w g.hv st o p e i j u
 | .fptr cs j,u=>zux w g.Z cs j u
 | _,_=>False
def zb1 (w:World) (g:Gh) (st:St) (cs:List PV) (us:List Value):Prop:=us.length=cs.length/\∀ (k:Nat) (c:PV),cs[k]?=some c->∃ u,us[k]?=some u/\zbc w g st c u
def zei (w:World) (g:Gh) (st:St):PV->Value->Prop
 | .agg cs,u => ∃ us:Array Value,u = .agg us/\zb1 w g st cs us.toList
 | .fn f caps,u => ∃ us:Array Value,u = .func (.func f) #[] us/\zb1 w g st caps us.toList
 | c,u=>zbc w g st c u
def zap (w:World) (g:Gh) (st:St):PV->Value->Prop
 | .tup vs,u => ∃ us:Array Value,u = .tuple us/\us.size=vs.length/\∀ (k:Nat) (c:PV),vs[k]?=some c->∃ x,us[k]?=some x/\zei w g st c x
 | c,u=>zei w g st c u
structure zcj (w:World) (Z F:Nat->Prop) (sz:Nat) (es:List (List PV)) (h:Value):Prop where
 ok:(∃ a,h = .slice a 0 0)/\es=[]\/∃ (b off cap:Nat) (cur:Array Value) (t:TypeId) (us:Nat->Value),h = .slice (some ⟨b,off,none⟩) es.length cap/\F b/\(∀ e∈es,e.length=sz)/\es.length<=cap/\w.heap[b]?=some (.cells cur t (0,0))/\off+cap*sz<=cur.size /\
  ∀ (k:Nat) (d:PV),es.flatten[k]?=some d->cur[off+k]?=some (us k)/\zam w Z d (us k)/\(us k).oneCell'=true
def zy1 (w:World) (g:Gh) (st:St) (F:Nat->Prop) (cs:List PV) (h:Value):Prop :=
 ∃ b cur t,h = .pointer (some ⟨b,0,none⟩)/\F b/\w.heap[b]?=some (.cells cur t (0,0))/\zb1 w g st cs cur.toList/\∀ u∈cur.toList,u.oneCell'=true
def zm5 (w:World) (g:Gh) (st:St) (F:Nat->Prop) (h:Value):Ob->Prop
 | .row sz es=>zal w F (.own sz es) h
 | .rowF sz es=>zcj w g.Z F sz es h
 | .box cs=>zy1 w g st F cs h
 | .shadow _ _ _=>True
def live:Option Ob->Bool
 | some (.row _ _)=>true
 | some (.rowF _ _)=>true
 | some (.box _)=>true
 | _=>false
def za5:Value->Option Nat
 | .slice (some a) _ cap=>if cap=0 then none else some a.block
 | .pointer (some a)=>some a.block
 | _=>none
structure Rel (w:World) (g:Gh) (st:St):Prop where
 ob : ∀ o b,st.S o=some b->zm5 w g st (g.F o) (g.hv o) b
 sep : ∀ o o' x,live (st.S o)=true->live (st.S o')=true->g.F o x->g.F o' x->o=o'
 nz : ∀ o x,live (st.S o)=true->g.F o x->¬ g.Z x
 lt : ∀ o x,live (st.S o)=true->g.F o x->x<w.heap.size
 zlt : ∀ x,g.Z x->x<w.heap.size
 nxt : ∀ o,st.nx<=o->st.S o=none
 shd : ∀ o sz es e,st.S o=some (.shadow sz es e)->e<=st.ep/\(e=st.ep->∃ Y:Nat->Prop,zam w Y (.sl sz es) (g.hv o)/\(∀ x,Y x->x<w.heap.size)/\(∀ o' x,live (st.S o')=true->za5 (g.hv o')=some x->¬ Y x)/\∀ x,Y x->g.K x)
structure zaq (w:World) (g:Gh) (st:St) (w':World) (g':Gh) (st':St):Prop where
 nx:st.nx<=st'.nx
 ep:st.ep<=st'.ep
 row : ∀ o,o<st.nx->∀ p e,e<=st.ep->∀ sz es',zax st'.ep (st'.S o) p e=some (sz,es')->∃ es,zax st.ep (st.S o) p e=some (sz,es)/\es.length=es'.length/\za0 w' st'.S g'.hv o p=za0 w st.S g.hv o p
 box : ∀ o,o<st.nx->∀ cs',st'.S o=some (.box cs')->(∃ cs,st.S o=some (.box cs))/\g'.hv o=g.hv o
 z : ∀ x,g.Z x->g'.Z x
 zw : ∀ x,g.Z x->w'.heap[x]?=w.heap[x]?
theorem zbc.goes {g g':Gh} (hg:zaq w g st w' g' st') {c:PV} {u:Value} (h:zbc w g st c u):zbc w' g' st' c u:=by
 cases c with
 | undef=>trivial
 | v x=>exact h
 | e0=>exact h
 | sl sz es=>exact (zam.congr hg.zw h).mono hg.z
 | own=>exact h
 | bx=>exact h
 | ref o p e lo len =>
  obtain ⟨h0,h1,h2,h3⟩:=h;refine ⟨h0,Nat.lt_of_lt_of_le h1 hg.nx,bJ h2 hg.ep,fun sz es' hr => ?_⟩;obtain ⟨es,hes,hl,hh⟩:=hg.row o h1 p e h2 sz es' hr;obtain ⟨v,hv,hs,hb⟩:=h3 sz es hes;exact ⟨v,by rw [hh]; exact hv,hs,by omega⟩
 | ptr o p e i j =>
  obtain ⟨h1,h2,h3,h4⟩:=h;refine ⟨Nat.lt_of_lt_of_le h1 hg.nx,bJ h2 hg.ep,fun cs' hcs hp hi => ?_,fun sz es' hr => ?_⟩
  ·obtain ⟨⟨cs,hc⟩,hh⟩:=hg.box o h1 cs' hcs;rw [hh]; exact h3 cs hc hp hi
  ·obtain ⟨es,hes,hl,hh⟩:=hg.row o h1 p e h2 sz es' hr;obtain ⟨b,off,n,cap,hv,hu⟩:=h4 sz es hes;exact ⟨b,off,n,cap,by rw [hh]; exact hv,hu⟩
 | fptr cs j =>
  obtain ⟨b,off,us,hz,hu,hc⟩:=h;refine ⟨b,off,us,hg.z _ hz,hu,fun k d hd => ?_⟩;obtain ⟨h1,h2⟩:=hc k d hd;exact ⟨by rw [World.cell?_of_block (w:=w) (hg.zw _ hz)]; exact h1,(zam.congr hg.zw h2).mono hg.z⟩
 | fn=>exact h
 | agg=>exact h
 | tup=>exact h
theorem zb1.goes {g g':Gh} (hg:zaq w g st w' g' st') {cs:List PV} {us:List Value} (h:zb1 w g st cs us):zb1 w' g' st' cs us :=
 ⟨h.1,fun k c hc=>let ⟨u,hu,hr⟩:=h.2 k c hc; ⟨u,hu,hr.goes hg⟩⟩
theorem zei.goes {g g':Gh} (hg:zaq w g st w' g' st') {c:PV} {u:Value} (h:zei w g st c u):zei w' g' st' c u:=by
 cases c with
 | agg cs=>obtain ⟨us,hu,hr⟩:=h; exact ⟨us,hu,hr.goes hg⟩
 | fn f cs=>obtain ⟨us,hu,hr⟩:=h; exact ⟨us,hu,hr.goes hg⟩
 | _=>simp only [zei] at h ⊢; exact zbc.goes hg h
theorem zap.goes {g g':Gh} (hg:zaq w g st w' g' st') {c:PV} {u:Value} (h:zap w g st c u):zap w' g' st' c u:=by
 cases c with
 | tup vs=>obtain ⟨us,hu,hs,hr⟩:=h; exact ⟨us,hu,hs,fun k c hc=>let ⟨x,hx,hr⟩:=hr k c hc; ⟨x,hx,hr.goes hg⟩⟩
 | _=>simp only [zap] at h ⊢; exact zei.goes hg h
theorem zaq.refl (w:World) (g:Gh) (st:St):zaq w g st w g st :=
 ⟨Nat.le_refl _,Nat.le_refl _,fun _ _ _ _ _ _ es' h=>⟨es',h,rfl,rfl⟩,fun _ _ cs' h=>⟨⟨cs',h⟩,rfl⟩,fun _ h=>h,fun _ _=>rfl⟩
theorem zaq.trans {w w1 w2:World} {g g1 g2:Gh} {st st1 st2:St} (h:zaq w g st w1 g1 st1) (k:zaq w1 g1 st1 w2 g2 st2):zaq w g st w2 g2 st2 where
 nx:=bJ h.nx k.nx
 ep:=bJ h.ep k.ep
 row:=fun o ho p e he sz es' hr=>by
  obtain ⟨es1,h1,l1,e1⟩:=k.row o (Nat.lt_of_lt_of_le ho h.nx) p e (bJ he h.ep) sz es' hr;obtain ⟨es,h2,l2,e2⟩:=h.row o ho p e he sz es1 h1;exact ⟨es,h2,by omega,by rw [e1,e2]⟩
 box:=fun o ho cs' hb=>by
  obtain ⟨⟨cs1,h1⟩,e1⟩:=k.box o (Nat.lt_of_lt_of_le ho h.nx) cs' hb;obtain ⟨hc,e2⟩:=h.box o ho cs1 h1;exact ⟨hc,by rw [e1,e2]⟩
 z:=fun x hx=>k.z x (h.z x hx)
 zw:=fun x hx=>by rw [k.zw x (h.z x hx),h.zw x hx]
theorem zaq.of_eq (w:World) (g:Gh) (h1:st'.S=st.S) (h2:st'.nx=st.nx) (h3:st'.ep=st.ep):zaq w g st w g st' :=
 ⟨by omega,by omega,fun o _ p e _ sz es' hr=>⟨es',by rw [<- h1,<- h3]; exact hr,rfl,by rw [h1]⟩,fun o _ cs' hb=>⟨⟨cs',by rw [<- h1]; exact hb⟩,rfl⟩,fun _ h=>h,fun _ _=>rfl⟩
end Go.Pe
namespace Go.Pe
open Go
variable {w:World} {g:Gh} {st:St} {u:Value} {sz i:Nat} {es:List (List PV)}
structure Ctx where
 P:Program
 vars:List Nat
 nt:Nat
 w0:World
 Z0:Nat->Prop
 io:Nat->Prop
 n0:Nat
 hv0:Nat->Value
structure SR (C:Ctx) (a:Act) (w:World) (g:Gh) (st:St):Prop where
 rel:Rel w g st
 tv : ∀ k,C.vars.contains k=true->zap w g st (st.V k) (a.tmps.getD k Go.undef)
 te : ∀ k,C.vars.contains k=false->zap w g st (st.E k) (a.tmps.getD k Go.undef)
 nt:C.nt<=a.tmps.size
 df:a.defers=[]
 os:w.os=C.w0.os
 tape:w.tape=C.w0.tape
 output:w.output=C.w0.output
 size:C.w0.heap.size<=w.heap.size
 old : ∀ k,k<C.w0.heap.size->¬ C.io k->w.heap[k]?=C.w0.heap[k]?
 own : ∀ o x,live (st.S o)=true->g.F o x->C.w0.heap.size<=x\/C.io x
 zin : ∀ x,g.Z x->C.Z0 x\/C.w0.heap.size<=x\/C.io x
 z0 : ∀ x,C.Z0 x->g.Z x
 hv : ∀ o,o<C.n0->g.hv o=C.hv0 o
 n0:C.n0<=st.nx
 kk : ∀ x,g.K x↔(C.w0.heap.size<=x\/C.io x)
theorem SR.put {C:Ctx} {a:Act} (h:SR C a w g st) {x:PV} (hx:zap w g st x u) {dst:Option Tmp} {d:Option Dst} (hd:zi5 C.vars C.nt dst=some d):SR C (a.put dst u) w g (st.put d x):=by
 cases dst with
 | none =>
  simp only [zi5,bC] at hd;subst hd;exact h
 | some k =>
  simp only [zi5] at hd;split at hd
  ·rename_i hk;cases hd;have hg : ∀ i:Nat,(a.put (some k) u).tmps.getD i Go.undef=if i=k then u else a.tmps.getD i Go.undef:=by
    intro i;simp only [Act.put,Array.getD_eq_getD_getElem?,Array.getElem?_setIfInBounds]
    by_cases e:k=i
    ·subst e; simp [Nat.lt_of_lt_of_le hk h.nt]
    ·rw [if_neg e,if_neg (fun x=>e x.symm)]
   have hE : ∀ {d:Option Dst},zaq w g st w g (st.put d x):=by
    intro d;refine zaq.of_eq w g ?_ ?_ ?_ <;> cases d <;> first | rfl | (rename_i d; cases d <;> rfl)
   have hS : ∀ {d:Option Dst},(st.put d x).S=st.S/\(st.put d x).nx=st.nx/\(st.put d x).ep=st.ep:=by
    intro d; cases d <;> first | exact ⟨rfl,rfl,rfl⟩ | (rename_i d; cases d <;> exact ⟨rfl,rfl,rfl⟩)
   have hrel : ∀ {d:Option Dst},Rel w g (st.put d x):=by
    intro d;have r:=h.rel;refine ⟨fun o b hb => ?_,?_,?_,?_,r.zlt,?_,?_⟩
    ·rw [hS.1] at hb;have:=r.ob o b hb;cases b with
     | row=>exact this
     | rowF=>exact this
     | box cs=>obtain ⟨b,cur,t,h1,h2,h3,h4,h5⟩:=this; exact ⟨b,cur,t,h1,h2,h3,h4.goes hE,h5⟩
     | shadow=>exact this
    ·rw [hS.1]; exact r.sep
    ·rw [hS.1]; exact r.nz
    ·rw [hS.1]; exact r.lt
    ·rw [hS.1,hS.2.1]; exact r.nxt
    ·rw [hS.1,hS.2.2]; exact r.shd
   refine ⟨hrel,?_,?_,by simp [Act.put,h.nt],h.df,h.os,h.tape,h.output,h.size,h.old,by rw [hS.1]; exact h.own,h.zin,h.z0,h.hv,by rw [hS.2.1]; exact h.n0,h.kk⟩
   ·intro i hi;rw [hg]
    by_cases e:i=k
    ·subst e;rw [if_pos rfl,if_pos hi];have:(st.put (some (.V i)) x).V i=x:=by simp
     rw [this]; exact hx.goes hE
    ·rw [if_neg e];have : ∀ d:Option Dst,d=some (if C.vars.contains k then .V k else .E k)->(st.put d x).V i=st.V i:=by
      intro d hd; subst hd; split <;> simp [e]
     rw [this _ rfl]; exact (h.tv i hi).goes hE
   ·intro i hi;rw [hg]
    by_cases e:i=k
    ·subst e;rw [if_pos rfl,if_neg (by rw [hi]; simp)];have:(st.put (some (.E i)) x).E i=x:=by simp
     rw [this]; exact hx.goes hE
    ·rw [if_neg e];have : ∀ d:Option Dst,d=some (if C.vars.contains k then .V k else .E k)->(st.put d x).E i=st.E i:=by
      intro d hd; subst hd; split <;> simp [e]
     rw [this _ rfl]; exact (h.te i hi).goes hE
  ·cases hd
theorem SR.clear {C:Ctx} {a:Act} (h:SR C a w g st):SR C a w g { st with E:=fun _ => .undef }:=by
 have hE:zaq w g st w g { st with E:=fun _ => .undef }:=zaq.of_eq w g rfl rfl rfl;have r:=h.rel;refine ⟨⟨fun o b hb => ?_,r.sep,r.nz,r.lt,r.zlt,r.nxt,r.shd⟩,fun k hk=>(h.tv k hk).goes hE,fun _ _ => ?_,h.nt,h.df,h.os,h.tape,h.output,h.size,h.old,h.own,h.zin,h.z0,h.hv,h.n0,h.kk⟩
 ·have:=r.ob o b hb;cases b with
  | row=>exact this
  | rowF=>exact this
  | box cs=>obtain ⟨b,cur,t,h1,h2,h3,h4,h5⟩:=this; exact ⟨b,cur,t,h1,h2,h3,h4.goes hE,h5⟩
  | shadow=>exact this
 ·simp only [zap,zei,zbc]
theorem SR.opd {C:Ctx} {a:Act} (h:SR C a w g st) {x:Operand} {y:Opd} (hy:zan C.vars x=some y):zap w g st (y.get st) (a.eval x):=by
 cases x with
 | tmp k =>
  simp only [zan,bC] at hy;subst hy;simp only [Act.eval]
  by_cases c:C.vars.contains k=true
  ·rw [if_pos c]; exact h.tv k c
  ·rw [if_neg c]; exact h.te k (by simpa using c)
 | const v =>
  cases v with
  | slice a len cap =>
   cases a with
   | none =>
    cases len with
    | zero=>cases cap with
     | zero=>simp only [zan,bC] at hy; subst hy; exact ⟨none,rfl⟩
     | succ n=>simp [zan,okV] at hy
    | succ n=>simp [zan,okV] at hy
   | some a=>simp [zan,okV] at hy
  | _ =>
   simp only [zan] at hy;split at hy
   ·cases hy; simp only [Opd.get,Act.eval,zap,zei,zbc]
   ·cases hy
 | global g=>simp [zan] at hy
 | func f =>
  simp only [zan,bC] at hy;subst hy;exact ⟨#[],rfl,rfl,fun k c hc=>by simp at hc⟩
theorem zam.toC {c:PV} (h:zam w g.Z c u):zbc w g st (fz c) u:=by
 cases c with
 | v x=>cases h with
  | v=>exact rfl
  | nil h=>cases h
  | row h=>cases h
 | undef=>trivial
 | sl sz es=>exact h
 | own sz es=>exact h.sl_own
 | _=>cases h with
  | nil h=>cases h
  | row h=>cases h
theorem zam.toV {Z:Nat->Prop} {c:PV} (h:zam w Z c u):zbc w g st (rdV c) u:=by
 cases c with
 | v x=>cases h with
  | v=>exact rfl
  | nil h=>cases h
  | row h=>cases h
 | _=>trivial
theorem zal.is_slice {F:Nat->Prop} (h:zal w F (.own sz es) u) : ∃ a n c,u = .slice a n c:=by
 cases h with
 | nil=>exact ⟨_,_,_,rfl⟩
 | row=>exact ⟨_,_,_,rfl⟩
theorem zdw.self {F:Nat->Prop} (h:zal w F (.own sz es) u):zdw u sz 0 es.length u:=by
 cases h with
 | nil=>exact ⟨_,0,0,_,rfl,by simp,by simp,rfl,.inl rfl⟩
 | row hn hf hG hd hs hcap hb hsz hc hr=>subst hn; exact ⟨_,_,_,_,rfl,by simp,hcap,rfl,.inr ⟨_,_,rfl,by simp⟩⟩
theorem zal.at {F:Nat->Prop} {a:Option Addr} {n cap:Nat} (h:zal w F (.own sz es) (.slice a n cap)) {cs:List PV} (hi:es[i]?=some cs) :
  n=es.length/\n<=cap/\cs.length=sz/\∃ b off cur t,a=some ⟨b,off,none⟩/\F b/\w.heap[b]?=some (.cells cur t (0,0))/\off+cap*sz<=cur.size/\∀ (j:Nat) (d:PV),cs[j]?=some d->∃ (u:Value) (G:Nat->Prop),cur[off+(i*sz+j)]?=some u/\zal w G d u/\∀ x,G x->F x/\x≠b:=by
 cases h with
 | nil=>simp at hi
 | row hn hf hG hd hs hcap hb hsz hc hr =>
  refine ⟨hn,hcap,hs cs (bF hi),_,_,_,_,rfl,hf,hb,hsz,fun j d hd' => ?_⟩;have:=zhz hs hi hd';exact ⟨_,_,hc _ _ this,hr _ _ this,fun x hx=>hG _ x hx⟩
theorem zjd {i j:Nat} {r:Nat×List (List PV)} (h:zbe es i j=some r) : ∃ cs,es[i]?=some cs/\cs[j]?=some (.own r.1 r.2):=by
 unfold zbe at h;split at h
 ·rename_i cs hcs;split at h
  ·rename_i sz es' hc; cases h; exact ⟨cs,hcs,hc⟩
  ·cases h
 ·cases h
theorem zve {cs:List PV} {j sz:Nat} {ds:List PV} (h:seg cs j sz=some ds):j+sz<=cs.length/\ds=(cs.drop j).take sz:=by
 unfold seg at h;split at h
 ·rename_i c; cases h; exact ⟨c,rfl⟩
 ·cases h
theorem zvg {cs:List PV} {j sz k:Nat} {c:PV} (h:((cs.drop j).take sz)[k]?=some c):k<sz/\cs[j+k]?=some c:=by
 rw [List.getElem?_take] at h;split at h
 ·rename_i hk; rw [List.getElem?_drop] at h; exact ⟨hk,h⟩
 ·cases h
theorem yqv {o ep i:Nat} : ∀ {cs:List PV} {j k:Nat} {d:PV},(zh3 o ep i j cs)[k]?=some d->∃ c,cs[k]?=some c/\d=rd o ep i (j+k) c
 | [],j,k,d,h=>by simp [zh3] at h
 | c::cs,j,0,d,h=>by simp [zh3] at h; exact ⟨c,by simp,h.symm⟩
 | c::cs,j,k+1,d,h=>by
  simp only [zh3,List.getElem?_cons_succ] at h;obtain ⟨c',h1,h2⟩:=yqv h;exact ⟨c',by simpa using h1,by rw [h2]; congr 1; omega⟩
theorem ysb {o ep i:Nat} : ∀ {cs:List PV} {j:Nat},(zh3 o ep i j cs).length=cs.length
 | [],_=>rfl
 | c::cs,j=>by simp [zh3,ysb]
theorem yu3 {ds:List PV} {b off:Nat} (h : ∀ (k:Nat) (d:PV),ds[k]?=some d->∃ u,w.cell? ⟨b,off+k,none⟩=some u/\zbc w g st d u) :
  ∃ us:List Value,us.length=ds.length/\(∀ k v,us[k]?=some v->w.cell? ⟨b,off+k,none⟩=some v)/\zb1 w g st ds us:=by
 induction ds generalizing off with
 | nil=>exact ⟨[],rfl,by simp,rfl,by simp⟩
 | cons d ds ih =>
  obtain ⟨u,hu,hr⟩:=h 0 d (by simp);obtain ⟨us,hl,hc,hrs⟩:=ih (off:=off+1) (fun k e he=>by
   obtain ⟨u,hu,hr⟩:=h (k+1) e (by simpa using he);exact ⟨u,by rw [show off+1+k=off+(k+1) by omega]; exact hu,hr⟩)
  refine ⟨u::us,by simp [hl],fun k v hk => ?_,by simp [hl],fun k c hk => ?_⟩
  ·cases k with
   | zero=>simp at hk; subst hk; exact hu
   | succ k=>simp at hk; rw [show off+(k+1)=off+1+k by omega]; exact hc k v hk
  ·cases k with
   | zero=>simp at hk; subst hk; exact ⟨u,by simp,hr⟩
   | succ k=>simp at hk; obtain ⟨v,hv,hr⟩:=hrs.2 k c hk; exact ⟨v,by simpa using hv,hr⟩
theorem ypb (hR:Rel w g st) {p:PV} (hp:zbc w g st p u) {ds:List PV} (h:loadCells st sz p=some ds) :
  ds.length=sz/\∃ b off,u = .pointer (some ⟨b,off,none⟩)/\∀ (k:Nat) (d:PV),ds[k]?=some d->∃ v,w.cell? ⟨b,off+k,none⟩=some v/\zbc w g st d v:=by
 cases p with
 | fptr cs j =>
  obtain ⟨b,off,us,hz,hu,hc⟩:=hp;simp only [qcp,bB] at h;obtain ⟨l,hl,rfl⟩:=h;obtain ⟨hle,rfl⟩:=zve hl;refine ⟨by simp; omega,b,off+j,hu,fun k d hd => ?_⟩;simp only [List.getElem?_map,bB] at hd;obtain ⟨c,hc',rfl⟩:=hd;obtain ⟨_,hcs⟩:=zvg hc';obtain ⟨h1,h2⟩:=hc _ _ hcs;exact ⟨_,by rw [show off+j+k=off+(j+k) by omega]; exact h1,h2.toC⟩
 | ptr o p e i j =>
  obtain ⟨hlt,hep,hbox,hrow⟩:=hp;simp only [qdq] at h;cases hS:st.S o with
  | none=>rw [hS] at h; simp [zi1] at h
  | some ob =>
   rw [hS] at h;have hob:=hR.ob o ob hS;cases ob with
   | box cs =>
    cases p with
    | some q=>simp [zi1] at h
    | none =>
     simp only [qhn] at h;split at h
     ·rename_i hi;obtain ⟨hle,rfl⟩:=zve h;obtain ⟨b,hb,hu⟩:=hbox cs hS rfl hi;obtain ⟨b',cur,t,h1,h2,h3,h4,h5⟩:=hob;rw [hb] at h1; cases h1;refine ⟨by simp; omega,b,j,hu,fun k d hd => ?_⟩;obtain ⟨_,hcs⟩:=zvg hd;obtain ⟨v,hv,hr⟩:=h4.2 _ _ hcs;exact ⟨v,by rw [cell_of_row _ _ _ _ _ _ h3]; simpa using hv,hr⟩
     ·cases h
   | row s es =>
    cases p with
    | none =>
     simp only [qiv] at h;obtain ⟨cs,hcs,h⟩:=bA h;simp only [bB] at h;obtain ⟨l,hl,rfl⟩:=h;obtain ⟨hle,rfl⟩:=zve hl;obtain ⟨b,off,n,cap,hh,hu⟩:=hrow s es (by rw [hS]; rfl);simp only [za0,bC] at hh;have hob':zal w (g.F o) (.own s es) (g.hv o):=hob;rw [hh] at hob';obtain ⟨_,_,hcl,b',off',cur,t,ha,hF,hb,_,hcell⟩:=hob'.at hcs;cases ha;refine ⟨by rw [ysb]; simp; omega,b,off+(i*s+j),hu,fun k d hd => ?_⟩;obtain ⟨c,hc,rfl⟩:=yqv hd;obtain ⟨_,hc'⟩:=zvg hc;obtain ⟨v,G,hv,hr,hG⟩:=hcell _ _ hc';have hvc:w.cell? ⟨b,off+(i*s+(j+k)),none⟩=some v:=by rw [cell_of_row _ _ _ _ _ _ hb]; exact hv
     refine ⟨v,by rw [show off+(i*s+j)+k=off+(i*s+(j+k)) by omega]; exact hvc,?_⟩;cases c with
     | v x=>cases hr; exact rfl
     | undef=>trivial
     | own s' es' =>
      refine ⟨hr.is_slice,hlt,Nat.le_refl _,fun sz'' es'' hr'' => ?_⟩;rw [hS] at hr'';simp only [zfo,if_true] at hr'';obtain ⟨cs2,hcs2,hc2⟩:=zjd hr'';rw [hcs] at hcs2; cases hcs2;rw [hc'] at hc2;cases hc2;refine ⟨v,by simp only [za0,hS,hh]; exact hvc,zdw.self hr,by simp⟩
     | e0=>cases hr
     | sl=>cases hr
     | bx=>cases hr
     | ref=>cases hr
     | ptr=>cases hr
     | fptr=>cases hr
     | fn=>cases hr
     | agg=>cases hr
     | tup=>cases hr
    | some q =>
     obtain ⟨qa,qb⟩:=q;simp only [qga] at h;split at h
     ·rename_i he;obtain ⟨r,hr,h⟩:=bA h;obtain ⟨cs,hcs,h⟩:=bA h;simp only [bB] at h;obtain ⟨l,hl,rfl⟩:=h;obtain ⟨hle,rfl⟩:=zve hl;obtain ⟨b,off,n,cap,hh,hu⟩:=hrow r.1 r.2 (by rw [hS]; simp only [zfo,he,if_true]; exact hr);obtain ⟨cs1,hcs1,hc1⟩:=zjd hr;simp only [za0,hS] at hh;have hob':zal w (g.F o) (.own s es) (g.hv o):=hob;split at hh
      ·rename_i sz2 es2 a2 n2 cap2 e2 hv2;cases e2;rw [hv2] at hob';obtain ⟨_,_,hcl1,b1,off1,cur1,t1,ha1,hF1,hb1,_,hcell1⟩:=hob'.at hcs1;cases ha1;obtain ⟨v1,G1,hv1,hr1,hG1⟩:=hcell1 _ _ hc1;rw [cell_of_row _ _ _ _ _ _ hb1] at hh;rw [hv1] at hh; cases hh;obtain ⟨_,_,hcl,b',off',cur,t,ha,hF,hb,_,hcell⟩:=hr1.at hcs;cases ha;refine ⟨by simp; omega,b,off+(i*r.1+j),hu,fun k d hd => ?_⟩;simp only [List.getElem?_map,bB] at hd;obtain ⟨c,hc',rfl⟩:=hd;obtain ⟨_,hcs'⟩:=zvg hc';obtain ⟨v,G,hv,hrv,hG⟩:=hcell _ _ hcs';exact ⟨v,by rw [cell_of_row _ _ _ _ _ _ hb,show off+(i*r.1+j)+k=off+(i*r.1+(j+k)) by omega]; exact hv,hrv.toZ.toV⟩
      ·cases hh
     ·cases h
   | rowF s es =>
    cases p with
    | some q=>simp [zi1] at h
    | none =>
     simp only [qh7] at h;obtain ⟨cs,hcs,h⟩:=bA h;simp only [bB] at h;obtain ⟨l,hl,rfl⟩:=h;obtain ⟨hle,rfl⟩:=zve hl;obtain ⟨b,off,n,cap,hh,hu⟩:=hrow s es (by rw [hS]; rfl);simp only [za0,bC] at hh;have hob':zcj w g.Z (g.F o) s es (g.hv o):=hob;rcases hob'.ok with ⟨h1,h2⟩ | ⟨b',off',cap',cur,t,us,h1,hF,hs,hcap,hb,hsz,hc⟩
     ·subst h2; simp at hcs
     ·rw [hh] at h1; cases h1;refine ⟨by simp; omega,b,off+(i*s+j),hu,fun k d hd => ?_⟩;simp only [List.getElem?_map,bB] at hd;obtain ⟨c,hc',rfl⟩:=hd;obtain ⟨_,hcs'⟩:=zvg hc';obtain ⟨hx,hy,_⟩:=hc _ _ (zhz hs hcs hcs');exact ⟨_,by rw [cell_of_row _ _ _ _ _ _ hb,show off+(i*s+j)+k=off+(i*s+(j+k)) by omega]; exact hx,hy.toC⟩
   | shadow s es ee =>
    cases p with
    | some q=>simp [zi1] at h
    | none =>
     simp only [qgq] at h;split at h
     ·rename_i he;subst he;obtain ⟨cs,hcs,h⟩:=bA h;simp only [bB] at h;obtain ⟨l,hl,rfl⟩:=h;obtain ⟨hle,rfl⟩:=zve hl;obtain ⟨b,off,n,cap,hh,hu⟩:=hrow s es (by rw [hS]; simp);simp only [za0,bC] at hh;obtain ⟨Y,hY,_⟩:=(hR.shd o s es _ hS).2 rfl;rw [hh] at hY;obtain ⟨_,b',off',us,ha,_,hcl,hc⟩:=hY.cell rfl hcs;cases ha;refine ⟨by simp; omega,b,off+(i*s+j),hu,fun k d hd => ?_⟩;simp only [List.getElem?_map,bB] at hd;obtain ⟨c,hc',rfl⟩:=hd;obtain ⟨_,hcs'⟩:=zvg hc';obtain ⟨hx,hy⟩:=hc _ _ hcs';exact ⟨_,by rw [show off+(i*s+j)+k=off+(i*s+(j+k)) by omega]; exact hx,hy.toV⟩
     ·cases h
 | _=>simp [loadCells] at h
end Go.Pe
namespace Go.Pe
open Go
variable {C:Ctx} {o:Oper} {w:World} {t:TypeId} {g:Gh} {st:St} {x:Operand} {u:Value} {p r:PV} {x':Opd}
def zat (C:Ctx) (o:Oper) (a:Act) (w:World) (x:PV) (st':St):Prop :=
 ∀ (K:Act->World->Prop) (Q:Exit->Act->World->Prop),(∀ u w' g',SR C a w' g' st'->zap w' g' st' x u->K (a.put o.dst u) w')->o.wp C.P a w K Q
theorem zat.value {C:Ctx} {o:Oper} {a:Act} {w w':World} {g':Gh} {x:PV} {st':St} {u:Value} (hrun:(execOp a.eval o).run C.P w = .ok (.value u) w') (h:SR C a w' g' st') (hx:zap w' g' st' x u):zat C o a w x st':=by
 intro K Q hK;unfold Oper.wp;rw [hrun,Oper.upon_value];exact hK u w' g' h hx
theorem zat.skip {a:Act} {w w':World} {g':Gh} {st':St} (hrun:(execOp a.eval o).run C.P w = .ok .skip w') (h:SR C a w' g' st'):zat C o a w .undef st':=by
 intro K Q hK;unfold Oper.wp;rw [hrun,Oper.upon_skip];exact hK _ w' g' h trivial
theorem zje (b off n:Nat):(⟨b,off,none⟩:Addr).add n=⟨b,off+n,none⟩:=by
 unfold Addr.add;split
 ·rename_i h; subst h; rfl
 ·rfl
section
variable {P:Program} {w:World}
theorem z8b {ag:Bool} (h:zft P t=some ag):(isAgg t).run P w = .ok ag w:=by
 unfold zft at h;simp only [bB] at h;obtain ⟨d,hd,hag⟩:=h;simp only [isAgg,Sem.run_bind,run_underlying hd,Result.andThen_ok];subst hag;cases d <;> rfl
theorem zm0 {s:Nat} (h:zds P t=some s):(sizeOf t).run P w = .ok s w:=by
 unfold zds at h;simp only [bB] at h;obtain ⟨i,hi,rfl⟩:=h;simp [sizeOf,typeInfo,hi]
theorem yuv {t:TypeId} {us:List Value} {b off:Nat} (hs:zds P t=some us.length) (ha:zft P t=some true) (hc : ∀ k v,us[k]?=some v->w.cell? ⟨b,off+k,none⟩=some v) :
  (loadVar t ⟨b,off,none⟩).run P w = .ok (.agg us.toArray) w:=by
 have h1:=run_loadCells_list (P:=P) w ⟨b,off,none⟩ us (fun j v hj=>by rw [zje]; exact hc j v hj);simp [loadVar,z8b ha,zm0 hs,h1]
theorem ytz {t:TypeId} {u:Value} {b off:Nat} (ha:zft P t=some false) (hc:w.cell? ⟨b,off,none⟩=some u) :
  (loadVar t ⟨b,off,none⟩).run P w = .ok u w:=by
 simp [loadVar,z8b ha,load,Sem.run,hc]
end
theorem yn5 {a:Act} (h:SR C a w g st) (ho:o.op = .move x\/o.op = .assign x) {y:Opd} (hy:zan C.vars x=some y):zat C o a w (y.get st) st:=by
 refine zat.value (u:=a.eval x) ?_ h (h.opd hy);rcases ho with ho | ho <;> simp [execOp,ho]
theorem zap.v {x u:Value} (h:zap w g st (.v x) u):u=x:=h
theorem ytm {t:Bool} (h:zg8 p=some t):p = .v (.bool t):=by
 unfold zg8 at h; split at h
 ·cases h; rfl
 ·cases h
theorem yr3 {n:Int} (h:zhy p=some n) : ∃ k,p = .v (.int k n):=by
 unfold zhy at h; split at h
 ·cases h; exact ⟨_,rfl⟩
 ·cases h
theorem z8h {s:ByteArray} (h:zc5 p=some s):p = .v (.string s):=by
 unfold zc5 at h; split at h
 ·cases h; rfl
 ·cases h
theorem zya {n:Nat} (h:zb2 p=some n) : ∃ (k:IntKind) (i:Int),p = .v (.int k i)/\0<=i/\i.toNat=n:=by
 unfold zb2 at h;obtain ⟨i,hi,h2⟩:=bA h;obtain ⟨k,rfl⟩:=yr3 hi
 by_cases c:0<=i
 ·rw [if_pos c] at h2; cases h2; exact ⟨k,i,rfl,c,rfl⟩
 ·rw [if_neg c] at h2; cases h2
theorem qa1 {a:Act} (h:SR C a w g st) {c x y:Operand} (ho:o.op = .pick c x y) {c' x' y':Opd} (hc:zan C.vars c=some c') (hx:zan C.vars x=some x') (hy:zan C.vars y=some y') {t:Bool} (ht:zg8 (c'.get st)=some t):zat C o a w (if t then x'.get st else y'.get st) st:=by
 have h1:=h.opd hc;rw [ytm ht] at h1;have h2:a.eval c = .bool t:=h1.v;refine zat.value (u:=if t then a.eval x else a.eval y) ?_ h ?_
 ·simp [execOp,ho,h2,asBool]
 ·cases t
  ·exact h.opd hy
  ·exact h.opd hx
theorem zap.c {c:PV} (h:zbc w g st c u):zap w g st c u:=by
 cases c <;> first | exact h | exact h.elim
theorem zap.toC {c:PV} (h:zap w g st c u) (h1 : ∀ cs,c ≠ .agg cs) (h2 : ∀ f cs,c ≠ .fn f cs) (h3 : ∀ cs,c ≠ .tup cs):zbc w g st c u:=by
 cases c with
 | agg cs=>exact absurd rfl (h1 cs)
 | fn f cs=>exact absurd rfl (h2 f cs)
 | tup cs=>exact absurd rfl (h3 cs)
 | _=>exact h
theorem yn0 {sz:Nat} {ds:List PV} (h:loadCells st sz p=some ds):(∀ cs,p ≠ .agg cs)/\(∀ f cs,p ≠ .fn f cs)/\(∀ cs,p ≠ .tup cs):=by
 cases p <;> first | exact ⟨fun _=>PV.noConfusion,fun _ _=>PV.noConfusion,fun _=>PV.noConfusion⟩ | (simp [loadCells] at h)
theorem qbz {a:Act} (h:SR C a w g st) (ho:o.op = .load t x) {ag:Bool} {s:Nat} {y:Opd} (hag:zft C.P t=some ag) (hs:zds C.P t=some s) (hy:zan C.vars x=some y)
  {ds:List PV} (hl:loadCells st s (y.get st)=some ds) (hr:zlf ag ds=some r):zat C o a w r st:=by
 obtain ⟨n1,n2,n3⟩:=yn0 hl;obtain ⟨hlen,b,off,hu,hc⟩:=ypb h.rel ((h.opd hy).toC n1 n2 n3) hl;obtain ⟨us,hul,hus,hrs⟩:=yu3 hc;cases ag with
 | true =>
  simp only [ypf,bC] at hr;subst hr;have:=yuv (P:=C.P) (w:=w) (t:=t) (us:=us) (b:=b) (off:=off) (by rw [hs,hul,hlen]) hag hus;refine zat.value (u := .agg us.toArray) ?_ h ⟨us.toArray,rfl,hrs⟩;simp [execOp,ho,hu,Instr.loadAt,Instr.sureAddr,this]
 | false =>
  match ds,hr,hc with
  | [d],hr,hc =>
   simp only [ysm,bC] at hr;subst hr;obtain ⟨v,hv,hrv⟩:=hc 0 d (by simp);have:=ytz (P:=C.P) (w:=w) (t:=t) hag hv;refine zat.value (u:=v) ?_ h (zap.c hrv);simp only [Nat.add_zero] at this;simp [execOp,ho,hu,Instr.loadAt,Instr.sureAddr,this]
theorem qir {P:Program} {w:World} {op:BinOp} {t:TypeId} {x y:Operand} {a b r:Value} (h:zbd op a b=some r):((do eqGuard op t x y a b; binOp op t a b:Sem Value)).run P w = .ok r w:=by
 unfold zbd at h;split at h <;> first
  | (
   split at h
   ·rename_i c; cases h; first | (obtain ⟨rfl,c2⟩:=c; simp [eqGuard,binOp,Op.intDiv,c2]; done) | (subst c; simp [eqGuard,binOp,Op.intArith,Op.intBits,Op.intCmp]; done) | (have c':=Int.not_lt.mpr c; simp [eqGuard,binOp,Op.shift,c']; done) | (have c':=Int.not_lt.mpr c; simp only [eqGuard,binOp,Op.stringOp,gt_iff_lt,if_neg c']; simp; done)
   ·cases h)
  | (cases h; simp [eqGuard,binOp,Op.stringOp]; done)
  | cases h
theorem qcd {a:Act} (h:SR C a w g st) {op:BinOp} {t yt:TypeId} {x y:Operand} (ho:o.op = .binOp op t x y yt) {x' y':Opd} (hx:zan C.vars x=some x') (hy:zan C.vars y=some y') (hr:zm3 op (x'.get st) (y'.get st)=some r):zat C o a w r st:=by
 have h1:=h.opd hx;have h2:=h.opd hy;unfold zm3 at hr;split at hr
 ·rename_i p q hp hq;rw [hp] at h1; rw [hq] at h2;simp only [bB] at hr;obtain ⟨v,hv,rfl⟩:=hr;refine zat.value (u:=v) ?_ h (show zap w g st (.v v) v from rfl);have:=qir (P:=C.P) (w:=w) (t:=t) (x:=x) (y:=y) hv;rw [<- h1.v,<- h2.v] at this;simp only [execOp,ho];rw [Sem.run_bind,this]; rfl
 ·cases hr
theorem qaf {a:Act} (h:SR C a w g st) {op:UnOp} (ho:o.op = .unOp op t x) (hx:zan C.vars x=some x') (hr:unP op (x'.get st)=some r):zat C o a w r st:=by
 have h1:=h.opd hx;unfold unP at hr;split at hr
 ·rename_i p hp;rw [hp] at h1;simp only [bB] at hr;obtain ⟨v,hv,rfl⟩:=hr;refine zat.value (u:=v) ?_ h (show zap w g st (.v v) v from rfl);simp only [execOp,ho,h1.v];unfold unV at hv;split at hv
  ·cases hv; simp [Op.unary,Op.intArith]
  ·cases hv; simp [Op.unary]
  ·cases hv
 ·cases hr
theorem qau {a:Act} (h:SR C a w g st) {src dst:TypeId} (ho:o.op = .convert src dst x) {k0 k:IntKind} (h0:C.P.underlying src=some (.int k0)) (h1:C.P.underlying dst=some (.int k)) (hx:zan C.vars x=some x') {n:Int} (hn:zhy (x'.get st)=some n):zat C o a w (.v (.int k (k.wrap n))) st:=by
 have h2:=h.opd hx;obtain ⟨k',hk⟩:=yr3 hn;rw [hk] at h2;refine zat.value (u := .int k (k.wrap n)) ?_ h rfl;simp [execOp,ho,h2.v,convert,run_underlying h0,run_underlying h1,Conv.intToInt]
theorem yna {a:Act} (h:SR C a w g st) : ∀ {xs:List Operand} {ys:List Opd},xs.mapM (zan C.vars)=some ys->∀ (k:Nat) (c:PV),(ys.map (Opd.get st))[k]?=some c->∃ u,(xs.map a.eval)[k]?=some u/\zap w g st c u
 | [],ys,hm,k,c,hc=>by simp at hm; subst hm; simp at hc
 | x::xs,ys,hm,k,c,hc=>by
  simp only [List.mapM_cons,bind,pure,Option.bind_eq_some_iff] at hm;obtain ⟨y,hy,ys',hys,rfl'⟩:=hm;cases rfl';cases k with
  | zero=>simp at hc; subst hc; exact ⟨_,by simp,h.opd hy⟩
  | succ k=>simp at hc; obtain ⟨u,hu,hr⟩:=yna h hys k c (by simpa using hc); exact ⟨u,by simpa using hu,hr⟩
theorem ynd {α β:Type} {f:α->Option β} : ∀ {xs:List α} {ys:List β},xs.mapM f=some ys->ys.length=xs.length
 | [],ys,h=>by simp at h; subst h; rfl
 | x::xs,ys,h=>by
  simp only [List.mapM_cons,bind,pure,Option.bind_eq_some_iff] at h;obtain ⟨y,hy,ys',hys,rfl'⟩:=h;cases rfl';simp [ynd hys]
theorem yqm {o:Nat} {p:Option (Nat×Nat)} {ep i j:Nat} (h:zu0 w g.hv st o p ep i j u) (hl:zir st.ep (st.S o) p ep i=true) : ∃ b off,u = .pointer (some ⟨b,off,none⟩):=by
 obtain ⟨h1,h2,h3,h4⟩:=h;have row:(zax st.ep (st.S o) p ep).isSome=true->∃ b off,u = .pointer (some ⟨b,off,none⟩):=by
  intro hs;obtain ⟨⟨sz,es⟩,hr⟩:=Option.isSome_iff_exists.mp hs;obtain ⟨b,off,n,cap,_,hu⟩:=h4 sz es hr;exact ⟨_,_,hu⟩
 cases hS:st.S o with
 | none=>rw [hS] at hl; simp [zir] at hl
 | some ob =>
  rw [hS] at hl;cases ob with
  | box cs =>
   cases p with
   | none =>
    simp only [qd6,beq_iff_eq] at hl;obtain ⟨b,_,hu⟩:=h3 cs hS rfl hl;exact ⟨_,_,hu⟩
   | some q=>simp [zir] at hl
  | row sz es=>rw [qhp,<- hS] at hl; exact row hl
  | rowF sz es=>rw [qa0,<- hS] at hl; exact row hl
  | shadow sz es e=>rw [qep,<- hS] at hl; exact row hl
theorem qfj {off:Nat} (h:zap w g st p u) (hr:zjf st off p=some r) : ∃ b o,u = .pointer (some ⟨b,o,none⟩)/\zap w g st r (.pointer (some ⟨b,o+off,none⟩)):=by
 unfold zjf at hr;split at hr
 ·rename_i o' p' ep i j;split at hr
  ·rename_i hl;cases hr;have h':zu0 w g.hv st o' p' ep i j u:=h;obtain ⟨b,o,hu⟩:=yqm h' hl;refine ⟨b,o,hu,?_⟩;obtain ⟨h1,h2,h3,h4⟩:=h';refine ⟨h1,h2,fun cs hcs hp hi => ?_,fun sz es hes => ?_⟩
   ·obtain ⟨b',hb,hu'⟩:=h3 cs hcs hp hi;rw [hu] at hu'; cases hu';exact ⟨b,hb,rfl⟩
   ·obtain ⟨b',off',n,cap,hh,hu'⟩:=h4 sz es hes;rw [hu] at hu'; cases hu';exact ⟨b,off',n,cap,hh,by rw [show off'+(i*sz+(j+off))=off'+(i*sz+j)+off by omega]⟩
  ·cases hr
 ·rename_i cs j;cases hr;obtain ⟨b',off',us,hz,hu',hc⟩:=h;exact ⟨b',off'+j,hu',b',off',us,hz,by rw [show off'+(j+off)=off'+j+off by omega],hc⟩
 ·cases hr
theorem qcj {a:Act} (h:SR C a w g st) {s:TypeId} {f:Nat} (ho:o.op = .fieldAddr s x f) {fs:Array Field} {fd:Field} {z:Nat} (hs:C.P.underlying s=some (.struct fs)) (hf:fs[f]?=some fd) (hz:zds C.P fd.type=some z) (hz0:z≠0) (hx:zan C.vars x=some x') (hr:zjf st fd.offset (x'.get st)=some r):zat C o a w r st:=by
 obtain ⟨b,off,hu,hrep⟩:=qfj (h.opd hx) hr;refine zat.value (u := .pointer (some ⟨b,off+fd.offset,none⟩)) ?_ h hrep;simp [execOp,ho,hu,Instr.fieldAt,run_underlying hs,hf,Instr.sureAddr,fieldPlace,zm0 hz,hz0,zje]
theorem qe1 {a:Act} (h:SR C a w g st) (ho:o.op = .nilCheck x) (hx:zan C.vars x=some x') (hr:zi3 st (x'.get st)=some r):zat C o a w r st:=by
 have h1:=h.opd hx;unfold zi3 at hr;split at hr
 ·rename_i o' p' ep i j hp;split at hr
  ·rename_i hl;cases hr;rw [hp] at h1;obtain ⟨b,off,hu⟩:=yqm (show zu0 w g.hv st o' p' ep i j _ from h1) hl;refine zat.value (u:=a.eval x) ?_ h h1;simp [execOp,ho,hu]
  ·cases hr
 ·rename_i cs j hp;cases hr;rw [hp] at h1;obtain ⟨b,off,us,hz,hu,hc⟩:=h1;refine zat.value (u:=a.eval x) ?_ h ⟨b,off,us,hz,hu,hc⟩;simp [execOp,ho,hu]
 ·rename_i f caps hp;cases hr;rw [hp] at h1;obtain ⟨us,hu,hc⟩:=h1;refine zat.value (u:=a.eval x) ?_ h ⟨us,hu,hc⟩;simp [execOp,ho,hu]
 ·cases hr
theorem zyv {o:Nat} {p:Option (Nat×Nat)} {ep lo len:Nat} (h:zap w g st (.ref o p ep lo len) u) {r:Nat×List (List PV)} (hr:zfx st o p ep=some r) : ∃ hd,za0 w st.S g.hv o p=some hd/\zdw hd r.1 lo len u/\lo+len<=r.2.length:=by
 obtain ⟨_,h1,h2,h3⟩:=h;exact h3 r.1 r.2 hr
theorem ydd {n:Nat} (h:zap w g st p u) (hn:lenOf st p=some n) : ∃ a cap,u = .slice a n cap/\n<=cap:=by
 unfold lenOf at hn;split at hn
 ·cases hn; obtain ⟨a,rfl⟩:=h; exact ⟨a,0,rfl,Nat.le_refl _⟩
 ·rename_i sz es;cases hn;have h':zam w g.Z (.sl sz es) u:=h;obtain ⟨a,cap,hu,hc⟩:=h'.len rfl;exact ⟨a,cap,hu,hc⟩
 ·rename_i o p' ep lo len;split at hn
  ·rename_i hs;cases hn;obtain ⟨r,hr⟩:=Option.isSome_iff_exists.mp hs;obtain ⟨hd,_,⟨a,m,cap,a',_,h1,h2,hu,_⟩,_⟩:=zyv h hr;exact ⟨a',_,hu,by omega⟩
  ·cases hn
 ·cases hn
theorem yp0 {c:Call} (hx:c.args.toList=[x]) (ht:c.argTypes.toList=[t]):c.args = #[x]/\c.argTypes = #[t] :=
 ⟨by rw [<- Array.toArray_toList (xs:=c.args),hx],by rw [<- Array.toArray_toList (xs:=c.argTypes),ht]⟩
theorem qgw {a:Act} (h:SR C a w g st) {c:Call} (ho:o.op = .call c) (hc:c.callee = .builtin .len) {t e:TypeId} (hx:c.args.toList=[x]) (ht:c.argTypes.toList=[t]) (hty:C.P.underlying t=some (.slice e)) (hx':zan C.vars x=some x') {n:Nat} (hn:lenOf st (x'.get st)=some n):zat C o a w (.v (.int .i64 (n:Int))) st:=by
 obtain ⟨e1,e2⟩:=yp0 hx ht;refine zat.value (u := .int .i64 n) ?_ h rfl;obtain ⟨q,cap,hu,_⟩:=ydd (h.opd hx') hn;simp [execOp,ho,resolve,hc,e1,e2,invoke,builtin,Builtin.len_,run_underlying hty,hu,goInt]
theorem qgs {a:Act} (h:SR C a w g st) {c:Call} (ho:o.op = .call c) (hc:c.callee = .builtin .len) (hx:c.args.toList=[x]) (ht:c.argTypes.toList=[t]) (hty:C.P.underlying t=some .string) (hx':zan C.vars x=some x') {s:ByteArray} (hn:zc5 (x'.get st)=some s):zat C o a w (.v (.int .i64 (s.size:Int))) st:=by
 obtain ⟨e1,e2⟩:=yp0 hx ht;refine zat.value (u := .int .i64 s.size) ?_ h rfl;have h1:=h.opd hx';rw [z8h hn] at h1;simp [execOp,ho,resolve,hc,e1,e2,invoke,builtin,Builtin.len_,run_underlying hty,h1.v,goInt]
theorem qct {a:Act} (h:SR C a w g st) {x i:Operand} (ho:o.op = .index t x i) (hty:C.P.underlying t=some .string) {x' i':Opd} (hx:zan C.vars x=some x') (hi:zan C.vars i=some i') {s:ByteArray} {k:Nat} {b:UInt8} (hs:zc5 (x'.get st)=some s) (hk:zb2 (i'.get st)=some k) (hb:s[k]?=some b):zat C o a w (.v (.int .u8 (b.toNat:Int))) st:=by
 have h1:=h.opd hx;have h2:=h.opd hi;rw [z8h hs] at h1;obtain ⟨kd,n,hn,h0,rfl⟩:=zya hk;rw [hn] at h2;refine zat.value (u := .int .u8 b.toNat) ?_ h rfl;simp [execOp,ho,Instr.index,run_underlying hty,h1.v,h2.v,asIntOf,h0,hb]
theorem qd7 {a:Act} (h:SR C a w g st) {i:Nat} (ho:o.op = .extract x i) (hx:zan C.vars x=some x') (hr:zmv i (x'.get st)=some r):zat C o a w r st:=by
 have h1:=h.opd hx;unfold zmv at hr;split at hr
 ·rename_i vs hp;rw [hp] at h1;obtain ⟨us,hu,hs,hc⟩:=h1;obtain ⟨v,hv,hrv⟩:=hc i r hr;have hrv':zap w g st r v:=by
   cases r with
   | tup=>exact hrv.elim
   | _=>exact hrv
  refine zat.value (u:=v) ?_ h hrv';simp [execOp,ho,Instr.extract,hu,hv]
 ·cases hr
theorem yov {C:Ctx} {a:Act} {w:World} {g:Gh} {st:St} (h:SR C a w g st) {o:Oper} {c:Call} (ho:o.op = .call c) {big:Bool} (hc:c.callee = .builtin (if big then .max else .min)) {x y:Operand} (hx:c.args.toList=[x,y]) {x' y':Opd} (hx':zan C.vars x=some x') (hy':zan C.vars y=some y') {r:PV} (hr:mxP big (x'.get st) (y'.get st)=some r):zat C o a w r st:=by
 have e1:c.args = #[x,y]:=by rw [<- Array.toArray_toList (xs:=c.args),hx]
 have h1:=h.opd hx';have h2:=h.opd hy';unfold mxP at hr;split at hr
 ·rename_i k p k' q hp hq;split at hr
  ·rename_i hk;subst hk;cases hr;rw [hp] at h1; rw [hq] at h2;refine zat.value (u:=_) ?_ h rfl;cases big
   ·simp only [Bool.false_eq_true,if_false] at hc;simp [execOp,ho,resolve,hc,e1,invoke,builtin,Builtin.min_,Builtin.min2,h1.v,h2.v]
   ·simp only [if_true] at hc;simp [execOp,ho,resolve,hc,e1,invoke,builtin,Builtin.max_,Builtin.max2,h1.v,h2.v]
  ·cases hr
 ·cases hr
end Go.Pe
namespace Go.Pe
open Go
variable {w:World} {g:Gh} {st:St} {r:PV} {sz:Nat} {C:Ctx} {o:Oper}
theorem qeh (hR:Rel w g st) {p r:PV} {u:Value} {sz i:Nat} (h:zap w g st p u) (hr:iaddr st sz i p=some r) :
  ∃ b off n cap,u = .slice (some ⟨b,off,none⟩) n cap/\i<n/\zap w g st r (.pointer (some ⟨b,off+i*sz,none⟩)):=by
 unfold iaddr at hr;split at hr
 ·rename_i s es;split at hr
  ·rename_i hs;subst hs;simp only [bB] at hr;obtain ⟨cs,hcs,rfl⟩:=hr;have h':zam w g.Z (.sl s es) u:=h;obtain ⟨a,cap,rfl,hcap⟩:=h'.len rfl;obtain ⟨_,b,off,us,ha,hz,hl,hc⟩:=h'.cell rfl hcs;subst ha;have hi:i<es.length:=(bD hcs).1;exact ⟨b,off,_,cap,rfl,hi,b,off+i*s,us,hz,rfl,fun k d hd=>by
    obtain ⟨h1,h2⟩:=hc k d hd;exact ⟨by rw [show off+i*s+k=off+(i*s+k) by omega]; exact h1,h2⟩⟩
  ·cases hr
 ·rename_i o p' ep lo len;obtain ⟨rr,hrr,hr⟩:=bA hr;split at hr
  ·rename_i hc;obtain ⟨hsz,hi⟩:=hc;cases hr;have hrow:zax st.ep (st.S o) p' ep=some rr:=hrr;obtain ⟨hd,hh,⟨a,m,cap,a',e1,e2,e3,hu,e4⟩,e5⟩:=zyv h hrr;obtain ⟨_,q1,q2,q3⟩:=(h:zyt w g.hv st o p' ep lo len u);rcases e4 with e4 | ⟨b,off,ha,ha'⟩
   ·omega
   ·subst ha ha';rw [hsz] at hu;refine ⟨b,off+lo*sz,len,cap-lo,hu,hi,q1,q2,fun cs hcs hp hi0 => ?_,fun sz' es' hes' => ?_⟩
    ·exfalso
     rw [hcs] at hrow;subst hp;simp [zax] at hrow
    ·rw [hrow] at hes';obtain ⟨rfl,rfl⟩:rr.1=sz'/\rr.2=es':=by cases hes'; exact ⟨rfl,rfl⟩
     refine ⟨b,off,m,cap,?_,?_⟩
     ·rw [hh,e1]
     ·rw [<- hsz,show off+lo*rr.1+i*rr.1=off+((lo+i)*rr.1+0) by rw [Nat.add_mul]; omega]
  ·cases hr
 ·cases hr
theorem qh6 {a:Act} (h:SR C a w g st) {t e:TypeId} {x i:Operand} (ho:o.op = .indexAddr t x i) (hty:C.P.underlying t=some (.slice e)) {s:Nat} (hs:zds C.P e=some s) {x' i':Opd} (hx:zan C.vars x=some x') (hi:zan C.vars i=some i') {k:Nat} (hk:zb2 (i'.get st)=some k) (hr:iaddr st s k (x'.get st)=some r):zat C o a w r st:=by
 have h2:=h.opd hi;obtain ⟨kd,n,hn,h0,rfl⟩:=zya hk;rw [hn] at h2;obtain ⟨b,off,m,cap,hu,hlt,hrep⟩:=qeh h.rel (h.opd hx) hr;refine zat.value (u := .pointer (some ⟨b,off+n.toNat*s,none⟩)) ?_ h hrep;have hlt':0<=n/\n<(m:Int):=⟨h0,by omega⟩;simp [execOp,ho,Instr.indexAt,run_underlying hty,hu,h2.v,asIntOf,hlt',zm0 hs,zje]
theorem zvt {α:Type} : ∀ {es:List (List α)} (_ : ∀ e∈es,e.length=sz) (l:Nat) (k:Nat),l<=es.length->((es.drop l).flatten)[k]?=es.flatten[l*sz+k]?
 | es,_,0,k,_=>by simp
 | [],_,l+1,k,h=>by simp at h
 | e::es,hs,l+1,k,h=>by
  simp only [List.drop_succ_cons];rw [zvt (fun e h=>hs e (by simp [h])) l k (by simpa using h)];simp only [List.flatten_cons];have he:e.length=sz:=hs e (by simp);rw [bO (by rw [he,Nat.add_mul]; omega),he]
  congr 1
  rw [Nat.add_mul]; omega
theorem z74 {α:Type} {sz:Nat} : ∀ {es:List (List α)} (_ : ∀ e∈es,e.length=sz) (n k:Nat) {c:α},((es.take n).flatten)[k]?=some c->es.flatten[k]?=some c
 | es,_,0,k,c,h=>by simp at h
 | [],_,n+1,k,c,h=>by simp at h
 | e::es,hs,n+1,k,c,h=>by
  simp only [List.take_succ_cons,List.flatten_cons] at h ⊢
  by_cases hk:k<e.length
  ·rw [List.getElem?_append_left hk] at h ⊢; exact h
  ·rw [bO (by omega)] at h ⊢;exact z74 (fun e h=>hs e (by simp [h])) n _ h
def zk1 (sz l m:Nat):Value->Value
 | .slice a _ cap => .slice (if cap=l then a else a.map (·.add (l*sz))) (m-l) (cap-l)
 | u=>u
theorem zam.part {Z:Nat->Prop} {es:List (List PV)} {u:Value} (h:zam w Z (.sl sz es) u) {l m:Nat} (hl:l<=m) (hm:m<=es.length):zam w Z (.sl sz ((es.drop l).take (m-l))) (zk1 sz l m u):=by
 have hlen:((es.drop l).take (m-l)).length=m-l:=by simp; omega
 by_cases e0:m-l=0
 ·obtain ⟨a,cap,rfl,_⟩:=h.len rfl;simp only [zk1,e0,List.take_zero];exact .nil rfl
 ·cases h with
  | nil h=>cases h; simp at hm; omega
  | row h hn hz hs hcap hcl hr =>
   cases h;rename_i b off cap n us;have get : ∀ (k:Nat) (d:PV),((es.drop l).take (m-l)).flatten[k]?=some d->es.flatten[l*sz+k]?=some d:=by
    intro k d hk;have:=z74 (fun e he=>hs e (List.mem_of_mem_drop he)) (m-l) k hk
    rwa [zvt hs l k (by omega)] at this
   simp only [zk1,show ¬ cap=l by omega,if_false,Option.map_some,zje];refine .row (us:=fun k=>us (l*sz+k)) rfl hlen.symm hz (fun e he=>hs e (List.mem_of_mem_drop (List.mem_of_mem_take he))) (by omega) (fun k d hk => ?_) (fun k d hk=>hr _ d (get k d hk));rw [show off+l*sz+k=off+(l*sz+k) by omega];exact hcl _ d (get k d hk)
theorem qdu {p r:PV} {u:Value} {sz n l m:Nat} (h:zap w g st p u) (hn:lenOf st p=some n) (hr:zvj st sz l m p=some r) (hl:l<=m) (hm:m<=n):zap w g st r (zk1 sz l m u):=by
 cases p with
 | e0 =>
  cases hr;obtain ⟨a',rfl⟩:=h;simp only [lenOf,bC] at hn;have e1:m=0:=by omega
  have e2:l=0:=by omega
  subst e1; subst e2;exact ⟨a',by simp [zk1]⟩
 | sl s es =>
  simp only [qbk] at hr;split at hr
  ·rename_i hs;subst hs;cases hr;simp only [lenOf,bC] at hn;exact zam.part (h:zam w g.Z (.sl s es) u) hl (by omega)
  ·cases hr
 | ref o q ep lo len =>
  simp only [qin] at hr;obtain ⟨rr,hrr,hr⟩:=bA hr;split at hr
  ·rename_i hs;cases hr;obtain ⟨hd,hh,⟨a,k,cap,a',e1,e2,e3,hu,e4⟩,e5⟩:=zyv h hrr;obtain ⟨_,q1,q2,q3⟩:=(h:zyt w g.hv st o q ep lo len u);have hlen:n=len:=by
    simp only [qd8] at hn;rw [hrr] at hn;simpa using hn.symm
   refine ⟨⟨_,_,_,by rw [hu]; rfl⟩,q1,q2,fun sz' es' hes' => ?_⟩;have hes'':zfx st o q ep=some (sz',es'):=hes';rw [hrr] at hes'';obtain ⟨e6,e7⟩:rr.1=sz'/\rr.2=es':=by cases hes''; exact ⟨rfl,rfl⟩
   subst e6; subst e7;refine ⟨hd,hh,⟨a,k,cap,_,e1,by omega,e3,by rw [hu]; simp only [zk1]; rw [show cap-lo-l=cap-(lo+l) by omega],?_⟩,by omega⟩
   by_cases c:cap-(lo+l)=0
   ·exact .inl c
   ·rcases e4 with e4 | ⟨b,off,ha,ha'⟩
    ·omega
    ·refine .inr ⟨b,off,ha,?_⟩;rw [ha',if_neg (by omega),hs];simp only [Option.map_some,zje];rw [<- hs,show off+lo*rr.1+l*rr.1=off+(lo+l)*rr.1 by rw [Nat.add_mul]; omega]
  ·cases hr
 | _=>cases hr
theorem znb {P:Program} {k:IntKind} {i:Int} {y:Nat} {c:BoundsCode} (h0:0<=i) (h:i.toNat<=y):(Instr.sliceBound (.int k i) y c).run P w = .ok i.toNat w:=by
 have:0<=i/\i<=(y:Int):=⟨h0,by omega⟩;simp [Instr.sliceBound,asIntOf,this]
theorem zzh {a:Act} (h:SR C a w g st) {x:Option Operand} {y:Option Opd} (hy:zho C.vars x=some y) {n:Option Nat} (hn:zbs st y=some n) :
  (x=none/\n=none)\/∃ z k i,x=some z/\a.eval z = .int k i/\0<=i/\n=some i.toNat:=by
 cases x with
 | none=>simp only [zho,bC] at hy; subst hy; simp at hn; exact .inl ⟨rfl,hn.symm⟩
 | some z =>
  simp only [zho,bB] at hy;obtain ⟨y',hy',rfl⟩:=hy;simp only [qib,bB] at hn;obtain ⟨m,hm,rfl⟩:=hn;obtain ⟨k,i,hp,h0,rfl⟩:=zya hm;have:=h.opd hy';rw [hp] at this;exact .inr ⟨z,k,i,rfl,this.v,h0,rfl⟩
theorem ynl {P:Program} {w:World} {isS:Bool} {n cap:Nat} {ev:Operand->Value} {lo hi:Option Operand} {l h:Option Nat}
  (hl:(lo=none/\l=none)\/∃ z k i,lo=some z/\ev z = .int k i/\0<=i/\l=some i.toNat) (hh:(hi=none/\h=none)\/∃ z k i,hi=some z/\ev z = .int k i/\0<=i/\h=some i.toNat)
  (h1:l.getD 0<=h.getD n) (h2:h.getD n<=n) (h3:n<=cap):(Instr.sliceBounds isS n cap (lo.map ev) (hi.map ev) none).run P w = .ok (l.getD 0,h.getD n,cap) w:=by
 rcases hl with ⟨rfl,rfl⟩ | ⟨z,k,i,rfl,hz,h0,rfl⟩ <;> rcases hh with ⟨rfl,rfl⟩ | ⟨z',k',i',rfl,hz',h0',rfl⟩
 ·simp [Instr.sliceBounds]
 ·simp only [Option.getD_some,Option.getD_none] at h1 h2 ⊢;simp [Instr.sliceBounds,hz',znb h0' (show i'.toNat<=cap by omega)]
 ·simp only [Option.getD_some,Option.getD_none] at h1 h2 ⊢;simp [Instr.sliceBounds,hz,znb h0 h1]
 ·simp only [Option.getD_some] at h1 h2 ⊢;simp [Instr.sliceBounds,hz,hz',znb h0 h1,znb h0' (show i'.toNat<=cap by omega)]
theorem qe8 {a:Act} (h:SR C a w g st) {t e:TypeId} {x:Operand} {lo hi mx:Option Operand} (ho:o.op = .slice t x lo hi mx) (hty:C.P.underlying t=some (.slice e)) {s:Nat} (hs:zds C.P e=some s) {x':Opd} (hx:zan C.vars x=some x') {lo' hi' mx':Option Opd} (hlo:zho C.vars lo=some lo') (hhi:zho C.vars hi=some hi') (hmx:zho C.vars mx=some mx')
  {l hh m:Option Nat} (hl:zbs st lo'=some l) (hh':zbs st hi'=some hh) (hm:zbs st mx'=some m) (hr:zlm st s (x'.get st) l hh m=some r):zat C o a w r st:=by
 have hx1:=h.opd hx;have hl1:=zzh h hlo hl;have hh1:=zzh h hhi hh';have hm1:=zzh h hmx hm;cases m with
 | none =>
  simp only [qgn] at hr;obtain ⟨n,hn,hr⟩:=bA hr;split at hr
  ·rename_i c;obtain ⟨q,cap,hu,hcap⟩:=ydd hx1 hn;have hrep:=qdu hx1 hn hr c.1 c.2;have hmx0:mx=none:=by rcases hm1 with ⟨h,_⟩ | ⟨_,_,_,_,_,_,h⟩ <;> first | exact h | cases h
   subst hmx0;refine zat.value (u:=zk1 s (l.getD 0) (hh.getD n) (a.eval x)) ?_ h hrep;have hb:=ynl (P:=C.P) (w:=w) (isS:=true) (ev:=a.eval) hl1 hh1 c.1 c.2 hcap;simp only [execOp,ho,Instr.sliceAt,Instr.slice,Sem.run_bind,run_underlying hty,Result.andThen_ok,hu,Option.map_none,hb,zm0 hs,zk1];rfl
  ·cases hr
 | some m =>
  simp only [qfu] at hr;obtain ⟨n,hn,hr⟩:=bA hr;split at hr
  ·rename_i c;cases hr;obtain ⟨q,cap,hu,hcap⟩:=ydd hx1 hn;obtain ⟨rfl,rfl,c3,_⟩:=c;rcases hm1 with ⟨_,h⟩ | ⟨zm,km,im,rfl,hzm,h0m,em⟩
   ·cases h
   rcases hh1 with ⟨_,h⟩ | ⟨zh,kh,ih,rfl,hzh,h0h,eh⟩
   ·cases h
   have em':im=0:=by simp at em; omega
   have eh':ih=0:=by simp at eh; omega
   subst em'; subst eh';refine zat.value (u := .slice q 0 0) ?_ h ⟨q,rfl⟩;rcases hl1 with ⟨rfl,rfl⟩ | ⟨zl,kl,il,rfl,hzl,h0l,rfl⟩
   ·simp [execOp,ho,Instr.sliceAt,Instr.slice,run_underlying hty,hu,Instr.sliceBounds,hzm,hzh,znb (show (0:Int)<=0 by omega) (show (0:Int).toNat<=cap by simp),znb (show (0:Int)<=0 by omega) (show (0:Int).toNat<=0 by simp),zm0 hs]
   ·simp only [Option.getD_some] at c3;have el:il=0:=by omega
    subst el;simp [execOp,ho,Instr.sliceAt,Instr.slice,run_underlying hty,hu,Instr.sliceBounds,hzm,hzh,hzl,znb (show (0:Int)<=0 by omega) (show (0:Int).toNat<=cap by simp),znb (show (0:Int)<=0 by omega) (show (0:Int).toNat<=0 by simp),zm0 hs]
  ·cases hr
theorem qgg {a:Act} (h:SR C a w g st) {t:TypeId} {x:Operand} {lo hi:Option Operand} (ho:o.op = .slice t x lo hi none) (hty:C.P.underlying t=some .string) {x':Opd} (hx:zan C.vars x=some x') {lo' hi':Option Opd} (hlo:zho C.vars lo=some lo') (hhi:zho C.vars hi=some hi')
  {l hh:Option Nat} (hl:zbs st lo'=some l) (hh':zbs st hi'=some hh) {q:ByteArray} (hq:zc5 (x'.get st)=some q) (hr:sliceS q l hh=some r):zat C o a w r st:=by
 have hx1:=h.opd hx;rw [z8h hq] at hx1;have hl1:=zzh h hlo hl;have hh1:=zzh h hhi hh';simp only [qak] at hr;split at hr
 ·rename_i c;cases hr;refine zat.value (u := .string (q.extract (l.getD 0) (hh.getD q.size))) ?_ h rfl;have hb:=ynl (P:=C.P) (w:=w) (isS:=false) (ev:=a.eval) hl1 hh1 c.1 c.2 (Nat.le_refl _);simp only [execOp,ho,Instr.sliceAt,Instr.slice,Sem.run_bind,run_underlying hty,Result.andThen_ok,hx1.v,Option.map_none,Option.isSome_none,Bool.false_eq_true,if_false,hb];rfl
 ·cases hr
theorem qgr {a:Act} (h:SR C a w g st) {f:FuncId} {first caps:Array Operand} (ho:o.op = .makeFunc (.func f) first caps) (hf:first.size=0) {cs:List Opd} (hc:caps.toList.mapM (zan C.vars)=some cs) (hcell:(cs.map (Opd.get st)).all zpu=true):zat C o a w (.fn f (cs.map (Opd.get st))) st:=by
 have e:first = #[]:=by simpa using hf
 subst e;refine zat.value (u := .func (.func f) #[] (caps.map a.eval)) ?_ h ⟨caps.map a.eval,rfl,?_,fun k c hk => ?_⟩
 ·simp [execOp,ho,Instr.makeFunc]
 ·simp [ynd hc]
 ·obtain ⟨u,hu,hr⟩:=yna h hc k c hk;have hcp:zpu c=true:=List.all_eq_true.mp hcell c (bF hk);exact ⟨u,by simpa using hu,hr.toC (fun _ e=>by subst e; cases hcp) (fun _ _ e=>by subst e; cases hcp) (fun _ e=>by subst e; cases hcp)⟩
end Go.Pe
namespace Go.Pe
open Go
variable {w:World} {g:Gh} {st:St}
structure zaz (C:Ctx) (w:World) (g:Gh) (st:St) (X:Nat->Prop):Prop where
 sep : ∀ o x,live (st.S o)=true->g.F o x->¬ X x
 nz : ∀ x,X x->¬ g.Z x
 lt : ∀ x,X x->x<w.heap.size
 own : ∀ x,X x->C.w0.heap.size<=x\/C.io x
theorem zaz.none (C:Ctx) (w:World) (g:Gh) (st:St):zaz C w g st (fun _=>False) :=
 ⟨fun _ _ _ _ h=>h,fun _ h=>h.elim,fun _ h=>h.elim,fun _ h=>h.elim⟩
theorem SR.stepI {C:Ctx} {a:Act} {w w':World} {g g':Gh} {st st':St} (h:SR C a w g st) (hg:zaq w g st w' g' st') (hr:Rel w' g' st') (hV:st'.V=st.V) (hE:st'.E=st.E)
  (os:w'.os=w.os) (tape:w'.tape=w.tape) (output:w'.output=w.output) (size:w.heap.size<=w'.heap.size)
  (old : ∀ k,k<C.w0.heap.size->¬ C.io k->w'.heap[k]?=w.heap[k]?) (own : ∀ o x,live (st'.S o)=true->g'.F o x->C.w0.heap.size<=x\/C.io x) (zin : ∀ x,g'.Z x->g.Z x\/C.w0.heap.size<=x\/C.io x) (hv : ∀ o,o<st.nx->g'.hv o=g.hv o) (hK:g'.K=g.K:=by rfl):SR C a w' g' st' where
 kk:=by rw [hK]; exact h.kk
 rel:=hr
 tv:=fun k hk=>by rw [hV]; exact (h.tv k hk).goes hg
 te:=fun k hk=>by rw [hE]; exact (h.te k hk).goes hg
 nt:=h.nt
 df:=h.df
 os:=os.trans h.os
 tape:=tape.trans h.tape
 output:=output.trans h.output
 size:=bJ h.size size
 old:=fun k hk hio=>(old k hk hio).trans (h.old k hk hio)
 own:=own
 zin:=fun x hx=>by rcases zin x hx with h' | h'; exact h.zin x h'; exact .inr h'
 z0:=fun x hx=>hg.z x (h.z0 x hx)
 hv:=fun o ho=>by rw [hv o (Nat.lt_of_lt_of_le ho h.n0)]; exact h.hv o ho
 n0:=bJ h.n0 hg.nx
theorem SR.step {C:Ctx} {a:Act} {w w':World} {g g':Gh} {st st':St} (h:SR C a w g st) (hg:zaq w g st w' g' st') (hr:Rel w' g' st') (hV:st'.V=st.V) (hE:st'.E=st.E)
  (os:w'.os=w.os) (tape:w'.tape=w.tape) (output:w'.output=w.output) (size:w.heap.size<=w'.heap.size)
  (old : ∀ k,k<C.w0.heap.size->¬ C.io k->w'.heap[k]?=w.heap[k]?) (own : ∀ o x,live (st'.S o)=true->g'.F o x->C.w0.heap.size<=x\/C.io x) (zin : ∀ x,g'.Z x->g.Z x\/C.w0.heap.size<=x) (hv : ∀ o,o<st.nx->g'.hv o=g.hv o) (hK:g'.K=g.K:=by rfl):SR C a w' g' st' :=
 h.stepI hg hr hV hE os tape output size old own (fun x hx=>(zin x hx).imp id .inl) hv hK
theorem qiu (h:Rel w g st) {o x:Nat} {ob:Ob} (hS:st.S o=some ob) (hl:live (st.S o)=true) (hb:za5 (g.hv o)=some x):g.F o x:=by
 have hob:=h.ob o ob hS;cases ob with
 | row sz es =>
  have hob':zal w (g.F o) (.own sz es) (g.hv o):=hob;generalize g.hv o=v at hb hob';cases hob' with
  | nil=>rename_i a; cases a <;> simp [za5] at hb
  | row hn hf hG hd hs hcap hbk hsz hc hr =>
   simp only [za5] at hb;split at hb
   ·cases hb
   ·cases hb; exact hf
 | rowF sz es =>
  have hob':zcj w g.Z (g.F o) sz es (g.hv o):=hob;rcases hob'.ok with ⟨⟨q,h1⟩,_⟩ | ⟨b,off,cap,cur,t,us,h1,hF,_⟩
  ·rw [h1] at hb; cases q <;> simp [za5] at hb
  ·rw [h1] at hb;simp only [za5] at hb;split at hb
   ·cases hb
   ·cases hb; exact hF
 | box cs =>
  obtain ⟨b,cur,t,h1,hF,_⟩:=hob;rw [h1] at hb; simp only [za5,bC] at hb; subst hb; exact hF
 | shadow sz es e=>rw [hS] at hl; cases hl
theorem ybk {F:Nat->Prop} {s:Nat} {es:List (List PV)} {hd u:Value} (h:zal w F (.own s es) hd) (hs:zdw hd s 0 es.length u):zal w F (.own s es) u:=by
 obtain ⟨a,n,cap,a',e1,e2,e3,e4,e5⟩:=hs;subst e1;cases h with
 | nil =>
  subst e4;exact .nil
 | row hn hf hG hd hss hcap hb hsz hc hr =>
  subst hn;subst e4;simp only [Nat.sub_zero];rcases e5 with e5 | ⟨b,off,ha,ha'⟩
  ·have e6:es.length=0:=by omega
   have e7:es=[]:=List.eq_nil_of_length_eq_zero e6;have e8:cap=0:=by omega
   subst e7; subst e8;exact .nil
  ·cases ha;subst ha';simp only [Nat.zero_mul,Nat.add_zero];exact .row rfl hf hG hd hss hcap hb hsz hc hr
theorem qh1 {C:Ctx} {a:Act} {X:Nat->Prop} (h:SR C a w g st) (hX:zaz C w g st X) {c c':PV} {u:Value} {sz:Nat} {st':St} (hc:zbc w g st c u) (ht:zfp st sz c=some (c',st')) :
  ∃ G:Nat->Prop,SR C a w g st'/\zaz C w g st' (fun x=>X x\/G x)/\zal w G c' u/\(∀ x,G x->¬ X x)/\zaq w g st w g st':=by
 cases c with
 | v x =>
  simp only [ycl] at ht;split at ht
  ·rename_i hx;cases ht;refine ⟨fun _=>False,h,?_,?_,fun _ h=>h.elim,zaq.refl _ _ _⟩
   ·exact ⟨fun o x hl hf hx=>by rcases hx with hx | hx; exact hX.sep o x hl hf hx; exact hx,fun x hx=>by rcases hx with hx | hx; exact hX.nz x hx; exact hx.elim,fun x hx=>by rcases hx with hx | hx; exact hX.lt x hx; exact hx.elim,fun x hx=>by rcases hx with hx | hx; exact hX.own x hx; exact hx.elim⟩
   ·have:u=x:=hc;subst this; exact .v hx
  ·cases ht
 | e0 =>
  simp only [qa9] at ht;cases ht;obtain ⟨q,rfl⟩:=hc;refine ⟨fun _=>False,h,?_,.nil,fun _ h=>h.elim,zaq.refl _ _ _⟩;exact ⟨fun o x hl hf hx=>by rcases hx with hx | hx; exact hX.sep o x hl hf hx; exact hx,fun x hx=>by rcases hx with hx | hx; exact hX.nz x hx; exact hx.elim,fun x hx=>by rcases hx with hx | hx; exact hX.lt x hx; exact hx.elim,fun x hx=>by rcases hx with hx | hx; exact hX.own x hx; exact hx.elim⟩
 | ref o p e lo len =>
  simp only [qdo] at ht;cases hS:st.S o with
  | none=>rw [hS] at ht; simp [zgd] at ht
  | some ob =>
   rw [hS] at ht;cases ob with
   | row s es =>
    cases p with
    | some q=>simp [zgd] at ht
    | none =>
     simp only [qb2] at ht;split at ht
     ·rename_i hlo;obtain ⟨rfl,rfl⟩:=hlo;cases ht;obtain ⟨_,q1,q2,q3⟩:=hc;obtain ⟨hd,hh,hsub,_⟩:=q3 s es (by rw [hS]; rfl);simp only [za0,bC] at hh;subst hh;have hob:zal w (g.F o) (.own s es) (g.hv o):=h.rel.ob o _ hS;have hlo:live (st.S o)=true:=by rw [hS]; rfl
      have liv : ∀ o',live (upd st.S o (some (.shadow s es st.ep)) o')=true->live (st.S o')=true/\o'≠o:=by
       intro o' hl;simp only [zas] at hl;split at hl
       ·cases hl
       ·rename_i hne; exact ⟨hl,hne⟩
      have hgo:zaq w g st w g { st with S:=upd st.S o (some (.shadow s es st.ep)) }:=by
       refine ⟨Nat.le_refl _,Nat.le_refl _,fun o' ho' p' e' he' sz' es' hr' => ?_,fun o' ho' cs' hb' => ?_,fun _ h=>h,fun _ _=>rfl⟩
       ·simp only [zas] at hr';split at hr'
        ·rename_i heq;subst heq;cases p' with
         | none =>
          simp only [zyq,if_true] at hr';refine ⟨es',by rw [hS]; exact hr',rfl,?_⟩;simp [za0]
         | some q=>simp [zax] at hr'
        ·rename_i hne;refine ⟨es',hr',rfl,?_⟩;cases p' with
         | none=>rfl
         | some q=>simp [za0,hne]
       ·simp only [zas] at hb';split at hb'
        ·cases hb'
        ·exact ⟨⟨cs',hb'⟩,rfl⟩
      have hrel:Rel w g { st with S:=upd st.S o (some (.shadow s es st.ep)) }:=by
       have r:=h.rel;refine ⟨fun o' b hb => ?_,fun o1 o2 x h1 h2=>r.sep o1 o2 x (liv o1 h1).1 (liv o2 h2).1,fun o' x hl=>r.nz o' x (liv o' hl).1,fun o' x hl=>r.lt o' x (liv o' hl).1,r.zlt,fun o' ho' => ?_,fun o' sz' es' e' hs' => ?_⟩
       ·simp only [zas] at hb;split at hb
        ·cases hb; trivial
        ·have:=r.ob o' b hb;cases b with
         | row=>exact this
         | rowF=>exact this
         | box cs=>obtain ⟨b,cur,t,h1,h2,h3,h4,h5⟩:=this; exact ⟨b,cur,t,h1,h2,h3,h4.goes hgo,h5⟩
         | shadow=>exact this
       ·simp only [zas];split
        ·rename_i heq; subst heq; have:=r.nxt o' ho'; rw [hS] at this; cases this
        ·exact r.nxt o' ho'
       ·simp only [zas] at hs';split at hs'
        ·rename_i heq;subst heq;cases hs';refine ⟨Nat.le_refl _,fun _=>⟨g.F o',hob.toZ.sl_own,fun x hx=>r.lt o' x hlo hx,fun o2 x hl2 hb2 hx => ?_,fun x hx=>(h.kk x).mpr (h.own o' x hlo hx)⟩⟩;obtain ⟨hl2',hne⟩:=liv o2 hl2;cases hS2:st.S o2 with
         | none=>rw [hS2] at hl2'; cases hl2'
         | some ob2=>exact hne (r.sep o2 o' x hl2' hlo (qiu r hS2 hl2' hb2) hx)
        ·refine ⟨(r.shd o' sz' es' e' hs').1,fun he => ?_⟩;obtain ⟨Y,h1,h2,h3,h4⟩:=(r.shd o' sz' es' e' hs').2 he;exact ⟨Y,h1,h2,fun o2 x hl2=>h3 o2 x (liv o2 hl2).1,h4⟩
      refine ⟨g.F o,?_,?_,ybk hob hsub,fun x hx=>hX.sep o x hlo hx,hgo⟩
      ·exact h.step hgo hrel rfl rfl rfl rfl rfl (Nat.le_refl _) (fun _ _ _=>rfl) (fun o' x hl=>h.own o' x (liv o' hl).1) (fun x hx => .inl hx) (fun _ _=>rfl)
      ·refine ⟨fun o' x hl hf hx => ?_,fun x hx => ?_,fun x hx => ?_,fun x hx => ?_⟩
       ·obtain ⟨hl',hne⟩:=liv o' hl;rcases hx with hx | hx
        ·exact hX.sep o' x hl' hf hx
        ·exact hne (h.rel.sep o' o x hl' hlo hf hx)
       ·rcases hx with hx | hx
        ·exact hX.nz x hx
        ·exact h.rel.nz o x hlo hx
       ·rcases hx with hx | hx
        ·exact hX.lt x hx
        ·exact h.rel.lt o x hlo hx
       ·rcases hx with hx | hx
        ·exact hX.own x hx
        ·exact h.own o x hlo hx
     ·cases ht
   | rowF s es=>simp [zgd] at ht
   | box cs=>simp [zgd] at ht
   | shadow s es e=>simp [zgd] at ht
 | _=>simp [zfp] at ht
end Go.Pe
namespace Go.Pe
open Go
variable {w:World} {X:Nat->Prop} {cs:List PV} {us:List Value} {G:Nat->Nat->Prop}
structure zbi (w:World) (X:Nat->Prop) (cs:List PV) (us:List Value) (G:Nat->Nat->Prop):Prop where
 len:us.length=cs.length
 rep : ∀ (k:Nat) (c:PV),cs[k]?=some c->∃ u,us[k]?=some u/\zal w (G k) c u
 inX : ∀ k x,G k x->X x
 dis : ∀ k k' x,G k x->G k' x->k=k'
theorem zbi.nil (w:World) (X:Nat->Prop):zbi w X [] [] (fun _ _=>False):=⟨rfl,by simp,fun _ _ h=>h.elim,fun _ _ _ h=>h.elim⟩
theorem zbi.one (h:zbi w X cs us G) : ∀ u∈us,u.oneCell'=true:=by
 intro u hu;obtain ⟨k,hk⟩:=bH hu;have hlt:k<cs.length:=by rw [<- h.len]; exact (bD hk).1
 obtain ⟨v,hv,hr⟩:=h.rep k cs[k] (bG hlt);rw [hk] at hv; cases hv;exact hr.one
theorem zbi.mono {X Y:Nat->Prop} (h:zbi w X cs us G) (hX : ∀ x,X x->Y x):zbi w Y cs us G :=
 ⟨h.len,h.rep,fun k x hx=>hX x (h.inX k x hx),h.dis⟩
theorem zbi.congr {w w':World} (h:zbi w X cs us G) (hw : ∀ x,X x->w'.heap[x]?=w.heap[x]?):zbi w' X cs us G :=
 ⟨h.len,fun k c hc=>let ⟨u,hu,hr⟩:=h.rep k c hc; ⟨u,hu,hr.congr fun x hx=>hw x (h.inX k x hx)⟩,h.inX,h.dis⟩
theorem zbi.app {X Y:Nat->Prop} {cs ds:List PV} {us vs:List Value} {G H:Nat->Nat->Prop} (h:zbi w X cs us G) (k:zbi w Y ds vs H) (hd : ∀ x,X x->¬ Y x):zbi w (fun x=>X x\/Y x) (cs++ds) (us++vs) (fun i x=>if i<cs.length then G i x else H (i-cs.length) x) where
 len:=by simp [h.len,k.len]
 rep:=fun i c hc=>by
  by_cases e:i<cs.length
  ·rw [List.getElem?_append_left e] at hc;rw [List.getElem?_append_left (by rw [h.len]; exact e)];simp only [if_pos e];exact h.rep i c hc
  ·rw [bO (by omega)] at hc;rw [bO (by rw [h.len]; omega),h.len];simp only [if_neg e];exact k.rep _ c hc
 inX:=fun i x hx=>by
  split at hx
  ·exact .inl (h.inX i x hx)
  ·exact .inr (k.inX _ x hx)
 dis:=fun i j x hi hj=>by
  split at hi <;> split at hj
  ·exact h.dis i j x hi hj
  ·exact (hd x (h.inX i x hi) (k.inX _ x hj)).elim
  ·exact (hd x (h.inX j x hj) (k.inX _ x hi)).elim
  ·have:=k.dis _ _ x hi hj; omega
theorem zbi.single {G:Nat->Prop} {c:PV} {u:Value} (h:zal w G c u):zbi w G [c] [u] (fun k x=>k=0/\G x) where
 len:=rfl
 rep:=fun k d hd=>by
  cases k with
  | zero=>simp at hd; subst hd; exact ⟨u,by simp,h.mono fun x hx=>⟨rfl,hx⟩⟩
  | succ k=>simp at hd
 inX:=fun k x hx=>hx.2
 dis:=fun k k' x h1 h2=>by rw [h1.1,h2.1]
theorem z79 {C:Ctx} {a:Act} {g:Gh} : ∀ {szs:List Nat} {cs cs':List PV} {us:List Value} {st st':St} {X:Nat->Prop},SR C a w g st->zaz C w g st X->zb1 w g st cs us->zdt st szs cs=some (cs',st') ->
  ∃ (Y:Nat->Prop) (G:Nat->Nat->Prop),SR C a w g st'/\zaz C w g st' (fun x=>X x\/Y x)/\zbi w Y cs' us G/\(∀ x,Y x->¬ X x)/\zaq w g st w g st'/\cs'.length=szs.length
 | [],[],cs',us,st,st',X,h,hX,hr,ht=>by
  simp at ht;obtain ⟨rfl,rfl⟩:=ht;have:us=[]:=List.eq_nil_of_length_eq_zero hr.1;subst this;exact ⟨fun _=>False,_,h,⟨fun o x hl hf hx=>by rcases hx with hx | hx; exact hX.sep o x hl hf hx; exact hx,fun x hx=>by rcases hx with hx | hx; exact hX.nz x hx; exact hx.elim,fun x hx=>by rcases hx with hx | hx; exact hX.lt x hx; exact hx.elim,fun x hx=>by rcases hx with hx | hx; exact hX.own x hx; exact hx.elim⟩,zbi.nil w _,fun _ h=>h.elim,zaq.refl _ _ _,rfl⟩
 | sz::szs,c::cs,cs',us,st,st',X,h,hX,hr,ht=>by
  simp only [ybz] at ht;obtain ⟨⟨d,st1⟩,h1,ht⟩:=bA ht;obtain ⟨⟨ds,st2⟩,h2,ht⟩:=bA ht;simp only [bC,Prod.mk.injEq] at ht;obtain ⟨rfl,rfl⟩:=ht;obtain ⟨u,hu,hc⟩:=hr.2 0 c (by simp);obtain ⟨u',us',rfl⟩ : ∃ u' us',us=u'::us':=by
   cases us with
   | nil=>simp at hu
   | cons u' us'=>exact ⟨u',us',rfl⟩
  simp at hu;subst hu;obtain ⟨G,s1,l1,r1,d1,go1⟩:=qh1 h hX hc h1;have hr':zb1 w g st1 cs us':=zb1.goes go1 ⟨by simpa using hr.1,fun k c hc=>by simpa using hr.2 (k+1) c (by simpa using hc)⟩;obtain ⟨Y,H,s2,l2,c2,d2,go2,e2⟩:=z79 s1 l1 hr' h2;have ca:=(zbi.single r1).app c2 (fun x hx hy=>d2 x hy (.inr hx));refine ⟨_,_,s2,?_,ca,?_,go1.trans go2,by simp [e2]⟩
  ·refine ⟨fun o x hl hf hx=>l2.sep o x hl hf ?_,fun x hx=>l2.nz x ?_,fun x hx=>l2.lt x ?_,fun x hx=>l2.own x ?_⟩ <;>
    (rcases hx with hx | hx | hx; exact .inl (.inl hx); exact .inl (.inr hx); exact .inr hx)
  ·intro x hx;rcases hx with hx | hx
   ·exact d1 x hx
   ·exact fun hX'=>d2 x hx (.inl hX')
 | [],c::cs,_,_,_,_,_,_,_,_,ht=>by simp [zdt] at ht
 | sz::szs,[],_,_,_,_,_,_,_,_,ht=>by simp [zdt] at ht
def za3 (g:Gh) (o:Nat) (F:Nat->Prop) (v:Value):Gh := { Z:=g.Z,K:=g.K,F:=upd g.F o F,hv:=upd g.hv o v }
def zav (st:St) (ob:Ob):St := { st with S:=upd st.S st.nx (some ob),nx:=st.nx+1 }
theorem yr0 {w w':World} {g:Gh} {st:St} (hR:Rel w g st) (hw : ∀ x,x<w.heap.size->w'.heap[x]?=w.heap[x]?) (ob:Ob) (F:Nat->Prop) (v:Value):zaq w g st w' (za3 g st.nx F v) (zav st ob) where
 nx:=Nat.le_succ _
 ep:=Nat.le_refl _
 row:=fun o ho p e he sz es' hr=>by
  have hne:o≠st.nx:=Nat.ne_of_lt ho;simp only [zav,zas,if_neg hne] at hr;refine ⟨es',hr,rfl,?_⟩;cases p with
  | none=>simp [za0,za3,hne]
  | some q =>
   simp only [za0,zav,za3,zas,if_neg hne];split
   ·rename_i sz2 es2 a2 n2 cap2 hs2 hv2;have hob:zal w (g.F o) (.own sz2 es2) (g.hv o):=hR.ob o _ hs2;rw [hv2] at hob;have hlt:a2.block<w.heap.size:=by
     cases es2 with
     | nil =>
      rw [hs2] at hr;simp [zax,zbe] at hr
     | cons e es2 =>
      obtain ⟨_,_,_,b,off,cur,t,ha,hF,_⟩:=hob.at (i:=0) (cs:=e) (by simp);cases ha;exact hR.lt o b (by rw [hs2]; rfl) hF
    exact World.cell?_of_block (w:=w) (hw _ hlt)
   ·rfl
 box:=fun o ho cs' hb=>by
  have hne:o≠st.nx:=Nat.ne_of_lt ho;simp only [zav,zas,if_neg hne] at hb;exact ⟨⟨cs',hb⟩,by simp [za3,hne]⟩
 z:=fun _ h=>h
 zw:=fun x hx=>hw x (hR.zlt x hx)
theorem SR.new {C:Ctx} {a:Act} {w w':World} {g:Gh} {st:St} (h:SR C a w g st) {X:Nat->Prop} (hX:zaz C w g st X) {ob:Obj} (hheap:w'.heap=w.heap.push ob) (os:w'.os=w.os) (tape:w'.tape=w.tape) (output:w'.output=w.output)
  {o:Ob} {v:Value} (hl:live (some o)=true) (hb : ∀ x,za5 v=some x->x=w.heap.size) (hob:zm5 w' (za3 g st.nx (fun x=>x=w.heap.size\/X x) v) (zav st o) (fun x=>x=w.heap.size\/X x) v o) :
  SR C a w' (za3 g st.nx (fun x=>x=w.heap.size\/X x) v) (zav st o)/\zaq w g st w' (za3 g st.nx (fun x=>x=w.heap.size\/X x) v) (zav st o):=by
 have hw : ∀ x,x<w.heap.size->w'.heap[x]?=w.heap[x]?:=by
  intro x hx; rw [hheap,Array.getElem?_push]; simp [Nat.ne_of_lt hx]
 have hsz:w'.heap.size=w.heap.size+1:=by rw [hheap]; simp
 have r:=h.rel;have go:=yr0 r hw o (fun x=>x=w.heap.size\/X x) v;have liv : ∀ o',live ((zav st o).S o')=true->o'=st.nx\/(o'≠st.nx/\live (st.S o')=true):=by
  intro o' hl';simp only [zav,zas] at hl'
  by_cases e:o'=st.nx
  ·exact .inl e
  ·rw [if_neg e] at hl'; exact .inr ⟨e,hl'⟩
 have hF : ∀ o' x,o'≠st.nx->(za3 g st.nx (fun x=>x=w.heap.size\/X x) v).F o' x->g.F o' x:=by
  intro o' x hne hf; simpa [za3,hne] using hf
 have hF0 : ∀ x,(za3 g st.nx (fun x=>x=w.heap.size\/X x) v).F st.nx x->x=w.heap.size\/X x:=by
  intro x hf; simpa [za3] using hf
 have notOld : ∀ o' x,live (st.S o')=true->g.F o' x->¬ (x=w.heap.size\/X x):=by
  intro o' x hl' hf hx;rcases hx with hx | hx
  ·have:=r.lt o' x hl' hf; omega
  ·exact hX.sep o' x hl' hf hx
 have hrel:Rel w' (za3 g st.nx (fun x=>x=w.heap.size\/X x) v) (zav st o):=by
  refine ⟨fun o' b hb' => ?_,fun o1 o2 x h1 h2 f1 f2 => ?_,fun o' x hl' hf => ?_,fun o' x hl' hf => ?_,fun x hx=>by have:=r.zlt x hx; omega,fun o' ho' => ?_,fun o' sz es e hs => ?_⟩
  ·simp only [zav,zas] at hb'
   by_cases e:o'=st.nx
   ·subst e;rw [if_pos rfl] at hb';cases hb';simpa [za3] using hob
   ·rw [if_neg e] at hb';have old:=r.ob o' b hb';have hlt : ∀ x,live (st.S o')=true->g.F o' x->x<w.heap.size:=fun x hl hf=>r.lt o' x hl hf;simp only [za3,zas,if_neg e];cases b with
    | row sz es=>exact zal.congr old (fun x hx=>hw x (hlt x (by rw [hb']; rfl) hx))
    | rowF sz es =>
     have old':zcj w g.Z (g.F o') sz es (g.hv o'):=old;refine ⟨?_⟩;rcases old'.ok with h1 | ⟨b,off,cap,cur,t,us,h1,h2,h3,h4,h5,h6,h7⟩
     ·exact .inl h1
     ·exact .inr ⟨b,off,cap,cur,t,us,h1,h2,h3,h4,by rw [hw b (hlt b (by rw [hb']; rfl) h2)]; exact h5,h6,fun k d hd=>⟨(h7 k d hd).1,zam.congr (fun x hx=>hw x (r.zlt x hx)) (h7 k d hd).2.1,(h7 k d hd).2.2⟩⟩
    | box cs =>
     obtain ⟨b,cur,t,h1,h2,h3,h4,h5⟩:=old;exact ⟨b,cur,t,h1,h2,by rw [hw b (hlt b (by rw [hb']; rfl) h2)]; exact h3,h4.goes go,h5⟩
    | shadow=>trivial
  ·rcases liv o1 h1 with e1 | ⟨e1,l1⟩ <;> rcases liv o2 h2 with e2 | ⟨e2,l2⟩
   ·rw [e1,e2]
   ·subst e1; exact (notOld o2 x l2 (hF o2 x e2 f2) (hF0 x f1)).elim
   ·subst e2; exact (notOld o1 x l1 (hF o1 x e1 f1) (hF0 x f2)).elim
   ·exact r.sep o1 o2 x l1 l2 (hF o1 x e1 f1) (hF o2 x e2 f2)
  ·rcases liv o' hl' with e | ⟨e,l⟩
   ·subst e;rcases hF0 x hf with hx | hx
    ·intro hz; have:=r.zlt x hz; omega
    ·exact hX.nz x hx
   ·exact r.nz o' x l (hF o' x e hf)
  ·rcases liv o' hl' with e | ⟨e,l⟩
   ·subst e;rcases hF0 x hf with hx | hx
    ·omega
    ·have:=hX.lt x hx; omega
   ·have:=r.lt o' x l (hF o' x e hf); omega
  ·simp only [zav] at ho' ⊢;simp only [zas,if_neg (show ¬ o'=st.nx by omega)];exact r.nxt o' (by omega)
  ·simp only [zav,zas] at hs
   by_cases e1:o'=st.nx
   ·rw [if_pos e1] at hs;cases hs;cases hl
   ·rw [if_neg e1] at hs;refine ⟨(r.shd o' sz es e hs).1,fun he => ?_⟩;obtain ⟨Y,y1,y2,y3,y4⟩:=(r.shd o' sz es e hs).2 he;simp only [za3,zas,if_neg e1];refine ⟨Y,zam.congr (fun x hx=>hw x (y2 x hx)) y1,fun x hx=>by have:=y2 x hx; omega,fun o2 x hl2 hb2 hx => ?_,y4⟩;rcases liv o2 hl2 with e2 | ⟨e2,l2⟩
    ·rw [if_pos e2] at hb2;have:=hb x hb2;have:=y2 x hx;omega
    ·rw [if_neg e2] at hb2;exact y3 o2 x l2 hb2 hx
 refine ⟨h.step go hrel rfl rfl os tape output (by omega) (fun k hk _=>hw k (Nat.lt_of_lt_of_le hk h.size)) (fun o' x hl' hf => ?_) (fun x hx => .inl hx) (fun o' ho'=>by simp [za3,Nat.ne_of_lt ho']),go⟩;rcases liv o' hl' with e | ⟨e,l⟩
 ·subst e;rcases hF0 x hf with hx | hx
  ·exact .inl (by rw [hx]; exact h.size)
  ·exact hX.own x hx
 ·exact h.own o' x l (hF o' x e hf)
end Go.Pe
namespace Go.Pe
open Go
theorem ybl {C:Ctx} {a:Act} {w w':World} {g:Gh} {st:St} (h:SR C a w g st) {X:Nat->Prop} (hX:zaz C w g st X) {es:List (List PV)} {us:List Value} {G:Nat->Nat->Prop} (hc:zbi w X es.flatten us G) {sz cap:Nat} (hs : ∀ e∈es,e.length=sz) (hcap:es.length<=cap)
  {cells:Array Value} {t:TypeId} (hsz:cap*sz<=cells.size) (hus : ∀ (k:Nat) (u:Value),us[k]?=some u->cells[k]?=some u) (hheap:w'.heap=w.heap.push (.cells cells t (0,0))) (os:w'.os=w.os) (tape:w'.tape=w.tape) (output:w'.output=w.output) :
  ∃ g',SR C a w' g' (newRow st sz es).2/\zbc w' g' (newRow st sz es).2 (newRow st sz es).1 (.slice (some ⟨w.heap.size,0,none⟩) es.length cap):=by
 have hb:w'.heap[w.heap.size]?=some (.cells cells t (0,0)):=by rw [hheap]; simp
 have hw : ∀ x,x<w.heap.size->w'.heap[x]?=w.heap[x]?:=by
  intro x hx; rw [hheap,Array.getElem?_push]; simp [Nat.ne_of_lt hx]
 have hc':=hc.congr (fun x hx=>hw x (hX.lt x hx));have hO:zal w' (fun x=>x=w.heap.size\/X x) (.own sz es) (.slice (some ⟨w.heap.size,0,none⟩) es.length cap):=by
  refine .row (us:=fun k=>us.getD k default) (G:=G) rfl (.inl rfl) (fun k x hx=>⟨.inr (hc.inX k x hx),?_⟩) hc.dis hs hcap hb (by simpa using hsz) (fun k d hd => ?_) (fun k d hd => ?_)
  ·intro e; have:=hX.lt x (hc.inX k x hx); omega
  ·obtain ⟨u,hu,_⟩:=hc'.rep k d hd;rw [Nat.zero_add,hus k u hu];simp [List.getD_eq_getElem?_getD,hu]
  ·obtain ⟨u,hu,hr⟩:=hc'.rep k d hd;simpa [List.getD_eq_getElem?_getD,hu] using hr
 have:=SR.new (o := .row sz es) (v := .slice (some ⟨w.heap.size,0,none⟩) es.length cap) h hX hheap os tape output rfl (fun x hx=>by simp only [za5] at hx; split at hx; cases hx; cases hx; rfl) hO;refine ⟨_,this.1,⟨_,_,_,rfl⟩,Nat.lt_succ_self _,Nat.le_refl _,fun sz' es' hr => ?_⟩;simp at hr;obtain ⟨rfl,rfl⟩:=hr;exact ⟨_,by simp [za0,za3],zdw.self hO,by simp⟩
theorem yom {C:Ctx} {a:Act} {w w':World} {g:Gh} {st:St} (h:SR C a w g st) {es:List (List PV)} {us:Nat->Value} {sz cap:Nat} (hs : ∀ e∈es,e.length=sz) (hcap:es.length<=cap)
  {cells:Array Value} {t:TypeId} (hsz:cap*sz<=cells.size) (hus : ∀ (k:Nat) (d:PV),es.flatten[k]?=some d->cells[k]?=some (us k)/\zam w g.Z d (us k)/\(us k).oneCell'=true) (hheap:w'.heap=w.heap.push (.cells cells t (0,0))) (os:w'.os=w.os) (tape:w'.tape=w.tape) (output:w'.output=w.output) :
  ∃ g',SR C a w' g' (zia st sz es).2/\zbc w' g' (zia st sz es).2 (zia st sz es).1 (.slice (some ⟨w.heap.size,0,none⟩) es.length cap):=by
 have hb:w'.heap[w.heap.size]?=some (.cells cells t (0,0)):=by rw [hheap]; simp
 have hw : ∀ x,x<w.heap.size->w'.heap[x]?=w.heap[x]?:=by
  intro x hx; rw [hheap,Array.getElem?_push]; simp [Nat.ne_of_lt hx]
 have hO:zcj w' g.Z (fun x=>x=w.heap.size\/False) sz es (.slice (some ⟨w.heap.size,0,none⟩) es.length cap) :=
  ⟨.inr ⟨_,0,cap,cells,t,us,rfl,.inl rfl,hs,hcap,hb,by simpa using hsz,fun k d hd=>⟨by rw [Nat.zero_add]; exact (hus k d hd).1,zam.congr (fun x hx=>hw x (h.rel.zlt x hx)) (hus k d hd).2.1,(hus k d hd).2.2⟩⟩⟩
 have:=SR.new (o := .rowF sz es) (v := .slice (some ⟨w.heap.size,0,none⟩) es.length cap) h (zaz.none C w g st) hheap os tape output rfl (fun x hx=>by simp only [za5] at hx; split at hx; cases hx; cases hx; rfl) hO;refine ⟨_,this.1,⟨_,_,_,rfl⟩,Nat.lt_succ_self _,Nat.le_refl _,fun sz' es' hr => ?_⟩;simp at hr;obtain ⟨rfl,rfl⟩:=hr;exact ⟨.slice (some ⟨w.heap.size,0,none⟩) es.length cap,by simp [za0,za3],⟨some ⟨w.heap.size,0,none⟩,es.length,cap,some ⟨w.heap.size,0,none⟩,rfl,by simp,hcap,rfl,.inr ⟨w.heap.size,0,rfl,by simp⟩⟩,by simp⟩
theorem yrj {C:Ctx} {a:Act} {w w':World} {g:Gh} {st:St} (h:SR C a w g st) {cs:List PV} {us:List Value} (hc:zb1 w g st cs us) (h1 : ∀ u∈us,u.oneCell'=true)
  {t:TypeId} (hheap:w'.heap=w.heap.push (.cells us.toArray t (0,0))) (os:w'.os=w.os) (tape:w'.tape=w.tape) (output:w'.output=w.output) :
  ∃ g',SR C a w' g' (zca st cs).2/\zbc w' g' (zca st cs).2 (zca st cs).1 (.pointer (some ⟨w.heap.size,0,none⟩)):=by
 have hb:w'.heap[w.heap.size]?=some (.cells us.toArray t (0,0)):=by rw [hheap]; simp
 have hw : ∀ x,x<w.heap.size->w'.heap[x]?=w.heap[x]?:=by
  intro x hx; rw [hheap,Array.getElem?_push]; simp [Nat.ne_of_lt hx]
 have go:=yr0 h.rel hw (.box cs) (fun x=>x=w.heap.size\/False) (.pointer (some ⟨w.heap.size,0,none⟩));have:=SR.new (o := .box cs) (v := .pointer (some ⟨w.heap.size,0,none⟩)) h (zaz.none C w g st) hheap os tape output rfl (fun x hx=>by simp only [za5,bC] at hx; exact hx.symm) ⟨_,_,_,rfl,.inl rfl,hb,hc.goes go,by simpa using h1⟩;refine ⟨_,this.1,Nat.lt_succ_self _,Nat.le_refl _,fun cs' hcs hp hi => ?_,fun sz es hr => ?_⟩
 ·exact ⟨w.heap.size,by simp [za3],rfl⟩
 ·simp [zax] at hr
theorem z9b {w:World} {g:Gh} {st:St} {c:PV} {u:Value} (h:zbc w g st c u) (hb:zc2 c=true):u.oneCell'=true:=by
 cases c with
 | v x=>have:u=x:=h; subst this; exact zx9 (by simpa using hb)
 | e0=>obtain ⟨a,rfl⟩:=h; rfl
 | sl sz es=>obtain ⟨a,cap,rfl,_⟩:=(h:zam w g.Z (.sl sz es) u).len rfl; rfl
 | ref o p e lo len=>obtain ⟨⟨a,n,c,rfl⟩,_⟩:=h; rfl
 | _=>cases hb
theorem zjg {w:World} {g:Gh} {st:St} {x:PV} {u:Value} (h:zap w g st x u) (hb:(cellsOf x).all zc2=true):zb1 w g st (cellsOf x) u.cells.toList/\∀ v∈u.cells.toList,v.oneCell'=true:=by
 have one : ∀ {cs:List PV} {us:List Value},zb1 w g st cs us->cs.all zc2=true->∀ v∈us,v.oneCell'=true:=by
  intro cs us hr hb v hv;obtain ⟨k,hk⟩:=bH hv;have hlt:k<cs.length:=by rw [<- hr.1]; exact (bD hk).1
  obtain ⟨v',hv',hrc⟩:=hr.2 k cs[k] (bG hlt);rw [hk] at hv'; cases hv';exact z9b hrc (List.all_eq_true.mp hb _ (List.getElem_mem hlt))
 have single : ∀ {c:PV},cellsOf c=[c]->zbc w g st c u->zc2 c=true->zb1 w g st (cellsOf c) u.cells.toList:=by
  intro c hc hr hb;have h1:=z9b hr hb;have e:u.cells = #[u]:=by cases u <;> first | rfl | cases h1
  rw [hc,e];exact ⟨rfl,fun k d hd=>by cases k with | zero=>simp at hd; subst hd; exact ⟨u,by simp,hr⟩ | succ k=>simp at hd⟩
 cases x with
 | agg cs =>
  obtain ⟨us,rfl,hr⟩:=h;exact ⟨hr,one hr hb⟩
 | v x=>have:=single (c := .v x) rfl h (by simpa using hb); exact ⟨this,one this hb⟩
 | e0=>have:=single (c := .e0) rfl h rfl; exact ⟨this,one this hb⟩
 | sl sz es=>have:=single (c := .sl sz es) rfl h rfl; exact ⟨this,one this hb⟩
 | ref o p e lo len=>have:=single (c := .ref o p e lo len) rfl h rfl; exact ⟨this,one this hb⟩
 | _=>simp [cellsOf,zc2] at hb
theorem qdz {C:Ctx} {a:Act} {w:World} {g:Gh} {st:St} (h:SR C a w g st) {o:Oper} {t:TypeId} {x:Operand} (ho:o.op = .box t x) {x':Opd} (hx:zan C.vars x=some x') (hb:(cellsOf (x'.get st)).all zc2=true):zat C o a w (zca st (cellsOf (x'.get st))).1 (zca st (cellsOf (x'.get st))).2:=by
 obtain ⟨hc,h1⟩:=zjg (h.opd hx) hb;obtain ⟨g',s',r'⟩:=yrj (w':=w.alloc (.cells (a.eval x).cells t (0,0))) h hc h1 (t:=t) (by first | rfl | (simp only [World.alloc,Array.toArray_toList])) rfl rfl rfl;refine zat.value (u := .pointer (some ⟨w.heap.size,0,none⟩)) ?_ s' (zap.c r');simp [execOp,ho,Instr.box,newVar]; try rfl
theorem qer {w:World} {g:Gh} {st:St} {x:Value} {c:PV} (h:zqg x=some c):zbc w g st c x/\zc2 c=true:=by
 unfold zqg at h;split at h
 ·cases h; exact ⟨⟨_,rfl⟩,rfl⟩
 ·split at h
  ·rename_i hx; cases h; exact ⟨rfl,hx⟩
  ·cases h
theorem yen {w:World} {g:Gh} {st:St} : ∀ {xs:List Value} {cs:List PV},xs.mapM zqg=some cs->zb1 w g st cs xs/\∀ u∈xs,u.oneCell'=true
 | [],cs,h=>by simp at h; subst h; exact ⟨⟨rfl,by simp⟩,by simp⟩
 | x::xs,cs,h=>by
  simp only [List.mapM_cons,bind,pure,Option.bind_eq_some_iff] at h;obtain ⟨c,hc,cs',hcs,e⟩:=h;cases e;obtain ⟨h1,h2⟩:=yen (w:=w) (g:=g) (st:=st) hcs;obtain ⟨h3,h4⟩:=qer (w:=w) (g:=g) (st:=st) hc;refine ⟨⟨by simp [h1.1],fun k d hd => ?_⟩,fun u hu => ?_⟩
  ·cases k with
   | zero=>simp at hd; subst hd; exact ⟨x,by simp,h3⟩
   | succ k=>simp at hd; obtain ⟨u,hu,hr⟩:=h1.2 k d hd; exact ⟨u,by simpa using hu,hr⟩
  ·rcases List.mem_cons.mp hu with e | e
   ·subst e; exact z9b h3 h4
   ·exact h2 u e
theorem yc6 {P:Program} {t:TypeId} {cs:List PV} (h:zpw P t=some cs) : ∃ i z,P.info? t=some i/\i.zero=some z/\z.cells.toList.mapM zqg=some cs:=by
 unfold zpw at h;obtain ⟨z,hz,h⟩:=bA h;obtain ⟨i,hi,hz⟩:=bA hz;exact ⟨i,z,hi,hz,h⟩
theorem qgd {C:Ctx} {a:Act} {w:World} {g:Gh} {st:St} (h:SR C a w g st) {o:Oper} {t:TypeId} (ho:o.op = .alloc t) {z:List PV} (hz:zpw C.P t=some z):zat C o a w (zca st z).1 (zca st z).2:=by
 obtain ⟨i,zv,hi,hzv,hm⟩:=yc6 hz;obtain ⟨hc,h1⟩:=yen (w:=w) (g:=g) (st:=st) hm;obtain ⟨g',s',r'⟩:=yrj (w':=w.alloc (.cells zv.cells t (0,0))) h hc h1 (t:=t) (by first | rfl | (simp only [World.alloc,Array.toArray_toList])) rfl rfl rfl;refine zat.value (u := .pointer (some ⟨w.heap.size,0,none⟩)) ?_ s' (zap.c r');simp [execOp,ho,Instr.alloc,zeroValue,typeInfo,hi,hzv,newVar]; try rfl
end Go.Pe
namespace Go.Pe
open Go
def zbf {α:Type} (cs:List α) (j:Nat) (xs:List α):List α:=cs.take j++xs++cs.drop (j+xs.length)
theorem zvd (cs:List PV) (j:Nat) (xs:List PV):over cs j xs=zbf cs j xs:=rfl
theorem zj7 {α:Type} {cs:List α} {j:Nat} {xs:List α} (h:j+xs.length<=cs.length):(zbf cs j xs).length=cs.length:=by
 simp [zbf]; omega
theorem zdh {α:Type} {cs:List α} {j:Nat} {xs:List α} (h:j+xs.length<=cs.length) (k:Nat):(zbf cs j xs)[k]?=if k<j then cs[k]? else if k<j+xs.length then xs[k-j]? else cs[k]?:=by
 unfold zbf;have hl:(cs.take j).length=j:=by simp; omega
 by_cases h1:k<j
 ·rw [if_pos h1,List.append_assoc,List.getElem?_append_left (by omega),List.getElem?_take,if_pos h1]
 ·rw [if_neg h1]
  by_cases h2:k<j+xs.length
  ·rw [if_pos h2,List.getElem?_append_left (by simp; omega),bO (by omega),hl]
  ·rw [if_neg h2,bO (by simp; omega),List.getElem?_drop];simp only [List.length_append,hl]
   congr 1; omega
theorem yry : ∀ (v:List Value) (n off:Nat) (cells:Array Value),off+n+v.length<=cells.size->((v.zipIdx n).foldl (fun cs (p:Value×Nat)=>cs.setIfInBounds (off+p.2) p.1) cells).toList=zbf cells.toList (off+n) v
 | [],n,off,cells,h=>by simp [zbf]
 | c::v,n,off,cells,h=>by
  simp only [List.zipIdx_cons,List.foldl_cons];simp only [List.length_cons] at h;rw [yry v (n+1) off _ (by simp; omega)];apply List.ext_getElem?;intro k;rw [zdh (by simp; omega),zdh (by simp; omega)];simp only [Array.toList_setIfInBounds,List.getElem?_set,List.length_cons,Array.length_toList]
  by_cases h1:k<off+n
  ·simp [h1,show k<off+(n+1) by omega,show ¬ off+n=k by omega]
  ·by_cases h2:k=off+n
   ·subst h2; simp [show off+n<cells.size by omega]
   ·simp only [h1,if_false,show ¬ k<off+(n+1) by omega]
    by_cases h3:k<off+(n+1)+v.length
    ·rw [if_pos h3,if_pos (by omega),show k-(off+n)=(k-(off+(n+1)))+1 by omega,List.getElem?_cons_succ]
    ·rw [if_neg h3,if_neg (by omega),if_neg (by omega)]
theorem zx6 {place:Nat->Option (Nat×Nat)} {cells:Array Value} {i off s:Nat} {v:Value} {rest:List (Nat×Value)} (hp:place i=some (off,s)) (hs:v.cells.size=s) (hl:off+s<=cells.size) :
  Instr.fill place cells ((i,v)::rest)=Instr.fill place (zbf cells.toList off v.cells.toList).toArray rest:=by
 have:=yry v.cells.toList 0 off cells (by simp; omega);simp only [Instr.fill,hp,hs,ne_eq,not_true,decide_false,Bool.false_or,gt_iff_lt,Nat.not_lt.mpr hl];rw [if_neg (by simp)]
 congr 1
 simp only [Nat.add_zero] at this;rw [<- this,<- Array.foldl_toList];simp [Array.toList_zipIdx]
def PW (R:Nat->PV->Value->Prop) (cs:List PV) (us:List Value):Prop:=us.length=cs.length/\∀ (k:Nat) (c:PV),cs[k]?=some c->∃ u,us[k]?=some u/\R k c u
theorem PW.over {R S:Nat->PV->Value->Prop} {cs ds:List PV} {us vs:List Value} (h:PW R cs us) (k:PW S ds vs) {j:Nat} (hj:j+ds.length<=cs.length) :
  PW (fun i c u=>if j<=i/\i<j+ds.length then S (i-j) c u else R i c u) (zbf cs j ds) (zbf us j vs):=by
 have hv:=k.1;have hu:=h.1;refine ⟨by rw [zj7 (by omega),zj7 hj,h.1],fun i c hc => ?_⟩;rw [zdh hj] at hc;rw [zdh (by omega)]
 by_cases h1:i<j
 ·rw [if_pos h1] at hc ⊢;simp only [show ¬ (j<=i/\i<j+ds.length) by omega,if_false];exact h.2 i c hc
 ·rw [if_neg h1] at hc ⊢
  by_cases h2:i<j+ds.length
  ·rw [if_pos h2] at hc;rw [if_pos (by omega)];simp only [show j<=i/\i<j+ds.length by omega,and_self,if_true];exact k.2 _ c hc
  ·rw [if_neg h2] at hc;rw [if_neg (by omega)];simp only [show ¬ (j<=i/\i<j+ds.length) by omega,if_false];exact h.2 i c hc
theorem PW.mono {R S:Nat->PV->Value->Prop} {cs:List PV} {us:List Value} (h:PW R cs us) (hR : ∀ k c u,R k c u->S k c u):PW S cs us :=
 ⟨h.1,fun k c hc=>let ⟨u,hu,hr⟩:=h.2 k c hc; ⟨u,hu,hR k c u hr⟩⟩
theorem zb1.over {w:World} {g:Gh} {st:St} {cs ds:List PV} {us vs:List Value} (h:zb1 w g st cs us) (k:zb1 w g st ds vs) {j:Nat} (hj:j+ds.length<=cs.length):zb1 w g st (over cs j ds) (zbf us j vs) :=
 (PW.over (R:=fun _=>zbc w g st) (S:=fun _=>zbc w g st) h k hj).mono fun i c u hu=>by split at hu <;> exact hu
theorem zbi.over {w:World} {X Y:Nat->Prop} {cs ds:List PV} {us vs:List Value} {G H:Nat->Nat->Prop} (h:zbi w X cs us G) (k:zbi w Y ds vs H) (hd : ∀ x,Y x->¬ X x) {j:Nat} (hj:j+ds.length<=cs.length) :
  zbi w (fun x=>X x\/Y x) (zbf cs j ds) (zbf us j vs) (fun i x=>if j<=i/\i<j+ds.length then H (i-j) x else G i x):=by
 have:=PW.over (R:=fun i=>zal w (G i)) (S:=fun i=>zal w (H i)) ⟨h.len,h.rep⟩ ⟨k.len,k.rep⟩ hj;refine ⟨this.1,fun i c hc => ?_,fun i x hx => ?_,fun a b x ha hb => ?_⟩
 ·obtain ⟨u,hu,hr⟩:=this.2 i c hc;refine ⟨u,hu,?_⟩
  by_cases e:j<=i/\i<j+ds.length
  ·rw [if_pos e] at hr; simp only [if_pos e]; exact hr
  ·rw [if_neg e] at hr; simp only [if_neg e]; exact hr
 ·split at hx
  ·exact .inr (k.inX _ x hx)
  ·exact .inl (h.inX _ x hx)
 ·split at ha <;> split at hb
  ·have:=k.dis _ _ x ha hb; omega
  ·exact (hd x (k.inX _ x ha) (h.inX _ x hb)).elim
  ·exact (hd x (k.inX _ x hb) (h.inX _ x ha)).elim
  ·exact h.dis a b x ha hb
theorem z8f {α:Type} {sz:Nat} {es:List (List α)} (hs : ∀ e∈es,e.length=sz) {i:Nat} (hi:i<es.length) {y:List α} (hy:y.length=sz):(es.set i y).flatten=zbf es.flatten (i*sz) y:=by
 induction es generalizing i with
 | nil=>simp at hi
 | cons e es ih =>
  have he:e.length=sz:=hs e (by simp);cases i with
  | zero=>simp [zbf,hy,he]
  | succ i =>
   rw [List.set_cons_succ,List.flatten_cons,ih (fun e h=>hs e (by simp [h])) (by simpa using hi),List.flatten_cons];unfold zbf;have e1:(i+1)*sz=e.length+i*sz:=by rw [Nat.add_mul,he]; omega
   rw [e1,List.take_length_add_append,Nat.add_assoc,List.drop_length_add_append];simp [List.append_assoc]
theorem z89 {α:Type} {sz:Nat} {es:List (List α)} (hs : ∀ e∈es,e.length=sz) {i:Nat} {y:List α} (hy:y.length=sz) : ∀ e∈es.set i y,e.length=sz:=by
 intro e he;rcases List.mem_or_eq_of_mem_set he with h | h
 ·exact hs e h
 ·rw [h]; exact hy
theorem yqh {C:Ctx} {a:Act} {w:World} {g:Gh} {st:St} (h:SR C a w g st) {places:List (Nat×Nat)} : ∀ {parts:List (Nat×Operand)} {ps:List (Nat×Nat×Opd)} {zs r:List PV} {cells:Array Value},zvl C.vars places parts=some ps->zb1 w g st zs cells.toList->zhl zs (ps.map fun q=>(q.1,q.2.1,q.2.2.get st))=some r ->
  ∃ cells':Array Value,Instr.fill (places[·]?) cells (parts.map fun q=>(q.1,a.eval q.2))=some cells'/\zb1 w g st r cells'.toList
 | [],ps,zs,r,cells,hp,hr,hf=>by
  simp only [zvl,bC] at hp;subst hp;simp only [List.map_nil,zhl,bC] at hf;subst hf;exact ⟨cells,rfl,hr⟩
 | q::qs,ps,zs,r,cells,hp,hr,hf=>by
  simp only [zvl] at hp;obtain ⟨p,hpl,hp⟩:=bA hp;obtain ⟨y,hy,hp⟩:=bA hp;simp only [bB] at hp;obtain ⟨ps',hps,rfl⟩:=hp;simp only [List.map_cons,zhl] at hf;split at hf
  ·rename_i c;obtain ⟨c1,c2,c3⟩:=c;obtain ⟨hc,h1⟩:=zjg (h.opd hy) c3;have hl:=hc.1;have hz:=hr.1;have e:=zx6 (place:=(places[·]?)) (cells:=cells) (i:=q.1) (off:=p.1) (s:=p.2) (v:=a.eval q.2) (rest:=qs.map fun q=>(q.1,a.eval q.2)) hpl (by simp at hl; omega) (by simp at hz; omega);obtain ⟨cells',h2,h3⟩:=yqh h (cells:=(zbf cells.toList p.1 (a.eval q.2).cells.toList).toArray) hps (by simpa using hr.over hc (by omega)) hf;exact ⟨cells',by rw [List.map_cons,e]; exact h2,h3⟩
  ·cases hf
theorem qgj {C:Ctx} {a:Act} {w:World} {g:Gh} {st:St} (h:SR C a w g st) {o:Oper} {t:TypeId} {parts:Array (Nat×Operand)} (ho:o.op = .build t parts) {fs:Array Field} (hu:C.P.underlying t=some (.struct fs)) {z:List PV} (hz:zpw C.P t=some z) {places:List (Nat×Nat)} (hpl:(fs.toList.mapM fun f=>(C.P.info? f.type).map fun i=>(f.offset,i.size))=some places)
  {ps:List (Nat×Nat×Opd)} (hp:zvl C.vars places parts.toList=some ps) {r:List PV} (hr:zhl z (ps.map fun q=>(q.1,q.2.1,q.2.2.get st))=some r):zat C o a w (.agg r) st:=by
 obtain ⟨i,zv,hi,hzv,hm⟩:=yc6 hz;obtain ⟨hc,h1⟩:=yen (w:=w) (g:=g) (st:=st) hm;obtain ⟨cells,h2,h3⟩:=yqh h hp hc hr;refine zat.value (u := .agg cells) ?_ h ⟨cells,rfl,h3⟩;have hb:C.P.built t (parts.map fun (i,x)=>(i,a.eval x)).toList=some cells:=by
  simp only [Program.built,hi,hu,hzv,hpl];simpa using h2
 simp only [execOp,ho,Sem.run_bind,run_build w t _ cells hb,Result.andThen_ok,Sem.run_pure]
end Go.Pe
namespace Go.Pe
open Go
theorem qeq {w:World} {x:Value} {s:Nat} {c:PV} (h:ycq x s=some c):zal w (fun _=>False) c x/\(c = .own s []\/∃ v,c = .v v):=by
 unfold ycq at h;split at h
 ·cases h; exact ⟨.nil,.inl rfl⟩
 ·split at h
  ·rename_i hx; cases h; exact ⟨.v hx,.inr ⟨_,rfl⟩⟩
  ·cases h
theorem yo4 {w:World} : ∀ {xs:List Value} {ss:List Nat} {cs:List PV},zqc xs ss=some cs->PW (fun _=>zal w (fun _=>False)) cs xs
 | [],[],cs,h=>by simp only [zqc,bC] at h; subst h; exact ⟨rfl,by simp⟩
 | x::xs,s::ss,cs,h=>by
  simp only [zqc] at h;obtain ⟨c,hc,h⟩:=bA h;simp only [bB] at h;obtain ⟨cs',hcs,rfl⟩:=h;have ih:=yo4 (w:=w) hcs;refine ⟨by simp [ih.1],fun k d hd => ?_⟩;cases k with
  | zero=>simp at hd; subst hd; exact ⟨x,by simp,(qeq hc).1⟩
  | succ k=>simp at hd; obtain ⟨u,hu,hr⟩:=ih.2 k d hd; exact ⟨u,by simpa using hu,hr⟩
 | [],s::ss,_,h=>by simp [zqc] at h
 | x::xs,[],_,h=>by simp [zqc] at h
theorem yeh {P:Program} {t:TypeId} {z:List PV} (h:zqj P t=some z) : ∃ i zv,P.info? t=some i/\i.zero=some zv/\∀ w:World,PW (fun _=>zal w (fun _=>False)) z zv.cells.toList:=by
 unfold zqj at h;obtain ⟨zv,hz,h⟩:=bA h;obtain ⟨i,hi,hz⟩:=bA hz;obtain ⟨l,hl,h⟩:=bA h;exact ⟨i,zv,hi,hz,fun w=>yo4 h⟩
theorem zjm {z:List PV} {n sz:Nat} (h:z.length=sz) : ∀ e∈List.replicate n z,e.length=sz:=by
 intro e he; rw [List.eq_of_mem_replicate he]; exact h
theorem qav {z:Array Value} {n k:Nat} (h:k<n):(madeCells z n)[k]?=some (z[k % z.size]!):=by
 simp [madeCells,h]
theorem yb9 {w:World} {z:List PV} {zc:Array Value} (h:PW (fun _=>zal w (fun _=>False)) z zc.toList) {sz n m:Nat} (hz:z.length=sz) (hnm:n<=m) :
  zbi w (fun _=>False) (List.replicate n z).flatten ((madeCells zc (m*sz)).toList.take (n*sz)) (fun _ _=>False):=by
 have hl:=zcz (zjm (n:=n) hz);have hmul:n*sz<=m*sz:=Nat.mul_le_mul_right _ hnm;refine ⟨?_,fun k c hc => ?_,fun _ _ h=>h,fun _ _ _ h=>h.elim⟩
 ·rw [hl,List.length_take,Array.length_toList,size_madeCells,List.length_replicate,Nat.min_eq_left hmul]
 ·obtain ⟨i,j,cs,h1,h2,h3,h4,h5⟩:=z8g (zjm hz) hc;have e:cs=z:=List.eq_of_mem_replicate (bF h1);subst e;obtain ⟨u,hu,hr⟩:=h.2 j c h2;have hsz:zc.size=sz:=by have:=h.1; simp at this; omega
  have hk:k<n*sz:=by
   have:=(bD hc).1;rw [hl] at this; simpa using this
  refine ⟨u,?_,hr⟩;rw [List.getElem?_take,if_pos hk,Array.getElem?_toList,qav (by omega),h3,hsz,Nat.add_comm,Nat.add_mul_mod_self_right,Nat.mod_eq_of_lt h4];rw [Array.getElem?_toList] at hu;simp [getElem!_def,hu]
theorem qf9 {C:Ctx} {a:Act} {w:World} {g:Gh} {st:St} (h:SR C a w g st) {o:Oper} {t e:TypeId} {l c:Operand} (ho:o.op = .makeSlice t l c) (ht:C.P.underlying t=some (.slice e)) {i:TypeInfo} (hi:C.P.info? e=some i) {z:List PV} (hz:zqj C.P e=some z) (hzl:z.length=i.size)
  {l' c':Opd} (hl:zan C.vars l=some l') (hc:zan C.vars c=some c') {n m:Nat} (hn:zb2 (l'.get st)=some n) (hm:zb2 (c'.get st)=some m) (hnm:n<=m) (hroom:zag i.bytes m=true) :
  zat C o a w (Pe.newRow st i.size (List.replicate n z)).1 (Pe.newRow st i.size (List.replicate n z)).2:=by
 obtain ⟨i',zv,hi',hzv,hrep⟩:=yeh hz;rw [hi] at hi'; cases hi';have h1:=h.opd hl;have h2:=h.opd hc;obtain ⟨kl,il,el,il0,iln⟩:=zya hn;obtain ⟨kc,ic,ec,ic0,icn⟩:=zya hm;rw [el] at h1; rw [ec] at h2;simp only [zag,Bool.and_eq_true,decide_eq_true_eq] at hroom;have e1:(il:Int)=(n:Int):=by omega
 have e2:(ic:Int)=(m:Int):=by omega
 subst e1; subst e2;have hb:(i.bytes:Int)*(m:Int)<=281474976710656:=by
  have:((i.bytes*m:Nat):Int)<=281474976710656:=by
   have:=hroom.1; rw [Nat.mul_comm] at this; omega
  rwa [Int.natCast_mul] at this
 have hr:=run_make (P:=C.P) w t e i zv ht hi hzv kl kc (n:Int) (m:Int) (by omega) (by omega) hb (by omega);simp only [Int.toNat_natCast] at hr;have hcl:=yb9 (hrep w) hzl hnm;obtain ⟨g',s',r'⟩:=ybl (cap:=m) (cells:=madeCells zv.cells (m*i.size)) (w':=w.alloc (.cells (madeCells zv.cells (m*i.size)) e)) (t:=e) h (zaz.none C w g st) hcl (zjm hzl) (by simpa using hnm) (by simp [size_madeCells]) (fun k u hu=>by
  rw [List.getElem?_take] at hu;split at hu
  ·simpa using hu
  ·cases hu) rfl rfl rfl rfl
 refine zat.value (u := .slice (some ⟨w.heap.size,0,none⟩) n m) ?_ s' (zap.c (by simpa using r'));simp only [execOp,ho,h1.v,h2.v,Sem.run_bind,hr,Result.andThen_ok,Sem.run_pure]
theorem qdj {st:St} {sz:Nat} {c:PV} {r:PV×St} (h:zfp st sz c=some r):zc2 c=true:=by
 cases c with
 | v x=>simp only [ycl] at h; split at h; assumption; cases h
 | e0=>rfl
 | ref=>rfl
 | _=>simp [zfp] at h
theorem zyh : ∀ {szs:List Nat} {cs:List PV} {st:St} {r:List PV×St},zdt st szs cs=some r->cs.all zc2=true
 | [],[],_,_,_=>rfl
 | sz::szs,c::cs,st,r,h=>by
  simp only [ybz] at h;obtain ⟨q,h1,h⟩:=bA h;obtain ⟨q2,h2,h⟩:=bA h;simp only [List.all_cons,Bool.and_eq_true];exact ⟨qdj h1,zyh h2⟩
 | [],c::cs,_,_,h=>by simp [zdt] at h
 | sz::szs,[],_,_,h=>by simp [zdt] at h
inductive Two {α β:Type} (R:α->β->Prop):List α->List β->Prop
 | nil:Two R [] []
 | cons {x:α} {y:β} {xs:List α} {ys:List β} (h:R x y) (t:Two R xs ys):Two R (x::xs) (y::ys)
theorem Two.mono {α β:Type} {R S:α->β->Prop} (hR : ∀ x y,R x y->S x y) {xs:List α} {ys:List β} (h:Two R xs ys):Two S xs ys:=by
 induction h with
 | nil=>exact .nil
 | cons h t ih=>exact .cons (hR _ _ h) ih
def zj1 (w:World) (g:Gh) (st:St) (q:Nat×PV) (r:Nat×Value):Prop:=q.1=r.1/\zap w g st q.2 r.2
theorem z7z {C:Ctx} {a:Act} {w:World} {g:Gh} {st:St} (h:SR C a w g st) : ∀ {parts:List (Nat×Operand)} {ps:List (Nat×Opd)},zjr C.vars parts=some ps->Two (zj1 w g st) (zb8 st ps) (parts.map fun q=>(q.1,a.eval q.2))
 | [],ps,hp=>by simp only [zjr,bC] at hp; subst hp; exact .nil
 | q::qs,ps,hp=>by
  simp only [zjr] at hp;obtain ⟨y,hy,hp⟩:=bA hp;simp only [bB] at hp;obtain ⟨ps',hps,rfl⟩:=hp;exact .cons ⟨rfl,h.opd hy⟩ (z7z h hps)
theorem yrk {C:Ctx} {a:Act} {w:World} {g:Gh} {z:List PV} {sz:Nat} (hz:z.length=sz) : ∀ {xs:List (Nat×PV)} {vs:List (Nat×Value)} {st st':St} {es es':List (List PV)} {cells:Array Value} {X:Nat->Prop} {G:Nat->Nat->Prop},
  SR C a w g st->zaz C w g st X->zbi w X es.flatten cells.toList G->(∀ e∈es,e.length=sz)->Two (zj1 w g st) xs vs->zdj st z es xs=some (es',st') ->
  ∃ (Y:Nat->Prop) (H:Nat->Nat->Prop) (cells':Array Value),SR C a w g st'/\zaz C w g st' Y/\zbi w Y es'.flatten cells'.toList H/\(∀ e∈es',e.length=sz)/\es'.length=es.length/\Instr.fill (fun i=>some (i*sz,sz)) cells vs=some cells'
 | [],vs,st,st',es,es',cells,X,G,h,hX,hc,hs,ht,hf=>by
  cases ht;simp only [zdj,bC,Prod.mk.injEq] at hf;obtain ⟨rfl,rfl⟩:=hf;exact ⟨X,G,cells,h,hX,hc,hs,rfl,rfl⟩
 | (i,x)::xs,vs,st,st',es,es',cells,X,G,h,hX,hc,hs,ht,hf=>by
  cases ht with
  | cons hq ht =>
   rename_i r vs;obtain ⟨i',u⟩:=r;obtain ⟨rfl,hx⟩:=hq;simp only [zdj] at hf;obtain ⟨⟨ds,st1⟩,h1,hf⟩:=bA hf;split at hf
   ·rename_i hi;obtain ⟨hrc,_⟩:=zjg hx (zyh h1);obtain ⟨Y,H,s1,l1,c1,d1,go1,e1⟩:=z79 h hX hrc h1;have e1':ds.length=sz:=by simpa [hz] using e1
    have hfl:=zcz hs;have hle:i*sz+ds.length<=es.flatten.length:=by
     rw [hfl,e1'];have:(i+1)*sz<=es.length*sz:=Nat.mul_le_mul_right _ hi;rw [Nat.add_mul] at this; omega
    have ca:=hc.over c1 d1 hle;rw [<- z8f hs hi e1'] at ca;have ht':Two (zj1 w g st1) xs vs:=ht.mono fun p q hpq=>⟨hpq.1,hpq.2.goes go1⟩;obtain ⟨Y2,H2,cells2,s2,l2,c2,hs2,hl2,hf2⟩:=yrk hz (cells:=(zbf cells.toList (i*sz) u.cells.toList).toArray) s1 l1 (by simpa using ca) (z89 hs e1') ht' hf;refine ⟨Y2,H2,cells2,s2,l2,c2,hs2,by simpa using hl2,?_⟩;have hul:=c1.len;have hcl:=hc.len;rw [zx6 (off:=i*sz) (s:=sz) rfl (by simp at hul; omega) (by rw [Array.length_toList] at hcl; omega)];exact hf2
   ·cases hf
theorem yby {w:World} {g:Gh} {st:St} : ∀ {szs:List Nat} {cs ds:List PV} {us:List Value},zb1 w g st cs us->zfd szs cs=some ds->PW (fun _ c u=>zam w g.Z c u/\u.oneCell'=true) ds us/\ds.length=szs.length/\cs.all zc2=true
 | [],[],ds,us,hr,h=>by
  simp only [zfd,bC] at h;subst h;exact ⟨⟨hr.1,by simp⟩,rfl,rfl⟩
 | sz::szs,c::cs,ds,us,hr,h=>by
  simp only [zfd] at h;obtain ⟨d,h1,h⟩:=bA h;obtain ⟨ds',h2,h⟩:=bA h;cases h;obtain ⟨u,hu,hc⟩:=hr.2 0 c (by simp);obtain ⟨u',us',rfl⟩ : ∃ u' us',us=u'::us':=by
   cases us with
   | nil=>simp at hu
   | cons u' us'=>exact ⟨u',us',rfl⟩
  simp at hu;subst hu;have hr':zb1 w g st cs us':=⟨by simpa using hr.1,fun k c hc=>by simpa using hr.2 (k+1) c (by simpa using hc)⟩;obtain ⟨h3,h4,h5⟩:=yby hr' h2;have key:(zam w g.Z d u'/\u'.oneCell'=true)/\zc2 c=true:=by
   cases c with
   | v x =>
    simp only [toF] at h1;split at h1
    ·rename_i hx; cases h1;have:u'=x:=hc;subst this;exact ⟨⟨.v hx,zx9 hx⟩,hx⟩
    ·cases h1
   | e0 =>
    simp only [toF,bC] at h1;subst h1;obtain ⟨q,rfl⟩:=hc;exact ⟨⟨.nil rfl,rfl⟩,rfl⟩
   | sl s es =>
    simp only [toF,bC] at h1;subst h1;exact ⟨⟨hc,z9b (c := .sl s es) hc rfl⟩,rfl⟩
   | _=>simp [toF] at h1
  refine ⟨⟨by simp [h3.1],fun k e he => ?_⟩,by simp [h4],by simp [key.2,h5]⟩;cases k with
  | zero=>simp at he; subst he; exact ⟨u',by simp,key.1⟩
  | succ k=>simp at he; obtain ⟨v,hv,hr⟩:=h3.2 k e he; exact ⟨v,by simpa using hv,hr⟩
 | [],c::cs,_,_,_,h=>by simp [zfd] at h
 | sz::szs,[],_,_,_,h=>by simp [zfd] at h
theorem ybw : ∀ {szs:List Nat} {cs ds:List PV},zfd szs cs=some ds->cs.all zc2=true
 | [],[],_,_=>rfl
 | sz::szs,c::cs,ds,h=>by
  simp only [zfd] at h;obtain ⟨d,h1,h⟩:=bA h;obtain ⟨ds',h2,h⟩:=bA h;have:zc2 c=true:=by
   cases c with
   | v x=>simp only [toF] at h1; split at h1; assumption; cases h1
   | e0=>rfl
   | sl=>rfl
   | _=>simp [toF] at h1
  simp [this,ybw h2]
 | [],c::cs,_,h=>by simp [zfd] at h
 | sz::szs,[],_,h=>by simp [zfd] at h
theorem yum {w:World} {g:Gh} {st:St} {z:List PV} {sz:Nat} (hz:z.length=sz) : ∀ {xs:List (Nat×PV)} {vs:List (Nat×Value)} {es es':List (List PV)} {cells:Array Value},
  PW (fun _ c u=>zam w g.Z c u/\u.oneCell'=true) es.flatten cells.toList->(∀ e∈es,e.length=sz)->Two (zj1 w g st) xs vs->zi4 z es xs=some es' ->
  ∃ cells':Array Value,PW (fun _ c u=>zam w g.Z c u/\u.oneCell'=true) es'.flatten cells'.toList/\(∀ e∈es',e.length=sz)/\es'.length=es.length/\Instr.fill (fun i=>some (i*sz,sz)) cells vs=some cells'
 | [],vs,es,es',cells,hc,hs,ht,hf=>by
  cases ht;simp only [zi4,bC] at hf;subst hf;exact ⟨cells,hc,hs,rfl,rfl⟩
 | (i,x)::xs,vs,es,es',cells,hc,hs,ht,hf=>by
  cases ht with
  | cons hq ht =>
   rename_i r vs;obtain ⟨i',u⟩:=r;obtain ⟨rfl,hx⟩:=hq;simp only [zi4] at hf;obtain ⟨ds,h1,hf⟩:=bA hf;split at hf
   ·rename_i hi;obtain ⟨hrc,_⟩:=zjg hx (ybw h1);obtain ⟨c1,e1,_⟩:=yby hrc h1;have e1':ds.length=sz:=by simpa [hz] using e1
    have hfl:=zcz hs;have hle:i*sz+ds.length<=es.flatten.length:=by
     rw [hfl,e1'];have:(i+1)*sz<=es.length*sz:=Nat.mul_le_mul_right _ hi;rw [Nat.add_mul] at this; omega
    have ca:=(hc.over c1 hle).mono (S:=fun _ c u=>zam w g.Z c u/\u.oneCell'=true) (fun i c u hu=>by split at hu <;> exact hu);rw [<- z8f hs hi e1'] at ca;obtain ⟨cells2,c2,hs2,hl2,hf2⟩:=yum hz (cells:=(zbf cells.toList (i*sz) u.cells.toList).toArray) (by simpa using ca) (z89 hs e1') ht hf;refine ⟨cells2,c2,hs2,by simpa using hl2,?_⟩;have hul:=c1.1;have hcl:=hc.1;rw [zx6 (off:=i*sz) (s:=sz) rfl (by simp at hul; omega) (by rw [Array.length_toList] at hcl; omega)];exact hf2
   ·cases hf
theorem yqy {P:Program} (w:World) {t e:TypeId} {len:Nat} {parts:Array (Nat×Value)} {cells:Array Value} {ie:TypeInfo} {z:Value} (hu:P.underlying t=some (.slice e)) (hie:P.info? e=some ie) (hz:ie.zero=some z) (hsmall:len*ie.size<=16777216)
  (h:Instr.fill (fun i=>some (i*ie.size,ie.size)) (if len*ie.size=0 then #[] else madeCells z.cells (len*ie.size)) parts.toList=some cells) :
  (Instr.buildSlice t len parts).run P w = .ok (.slice (some ⟨w.heap.size,0,none⟩) len len) (w.alloc (.cells cells e)):=by
 by_cases hp:len*ie.size=0
 ·rw [if_pos hp] at h;have e0:Array.range 0 = #[]:=Array.eq_empty_of_size_eq_zero (by simp);simp [Instr.buildSlice,run_underlying hu,sizeOf,typeInfo,hie,hp,e0,h,Go.newRow]
 ·rw [if_neg hp] at h;have hn : ¬ (16777216<len*ie.size):=by omega
  simp only [madeCells] at h;simp [Instr.buildSlice,run_underlying hu,sizeOf,typeInfo,zeroValue,hie,hz,hn,hp,h,Go.newRow]
end Go.Pe
namespace Go.Pe
open Go
variable {w:World} {es:List (List PV)} {u:Value} {g:Gh} {st:St} {C:Ctx} {t:TypeId}
theorem ydk (es:List (List PV)) (lo len:Nat):cut es lo len=(es.drop lo).take len:=by
 unfold cut;split
 ·rename_i h; obtain ⟨rfl,rfl⟩:=h; simp
 ·rfl
theorem zam.sub {Y:Nat->Prop} {sz:Nat} {hd u:Value} (h:zam w Y (.sl sz es) hd) {lo len:Nat} (hs:zdw hd sz lo len u) (hl:lo+len<=es.length):zam w Y (.sl sz (cut es lo len)) u:=by
 obtain ⟨a,n,cap,a',rfl,e2,e3,rfl,e5⟩:=hs;rw [ydk];have hlen:((es.drop lo).take len).length=len:=by simp; omega
 by_cases e0:len=0
 ·subst e0; rw [List.take_zero]; exact .nil rfl
 ·have:=h.part (l:=lo) (m:=lo+len) (by omega) hl;rw [show lo+len-lo=len by omega] at this;rcases e5 with e5 | ⟨b,off,rfl,rfl⟩
  ·omega
  ·simp only [zk1,show ¬ cap=lo by omega,if_false,Option.map_some,zje] at this;rw [show lo+len-lo=len by omega] at this;exact this
def zpt (g:Gh) (st:St) (o x:Nat):Prop:=(live (st.S o)=true/\g.F o x)\/g.Z x\/zk5 (st.S o)=true
theorem qig (hR:Rel w g st) {o:Nat} {p:Option (Nat×Nat)} {e sz:Nat} {hd:Value} (hr:zax st.ep (st.S o) p e=some (sz,es)) (hh:za0 w st.S g.hv o p=some hd) :
  ∃ Y:Nat->Prop,zam w Y (.sl sz es) hd/\(∀ x,Y x->x<w.heap.size)/\∀ x,Y x->zpt g st o x:=by
 cases hS:st.S o with
 | none=>rw [hS] at hr; simp [zax] at hr
 | some ob =>
  have hob:=hR.ob o ob hS;have hlt:=hR.lt o;rw [hS] at hr;cases ob with
  | box cs=>simp [zax] at hr
  | row s es' =>
   have hl:live (st.S o)=true:=by rw [hS]; rfl
   have hob':zal w (g.F o) (.own s es') (g.hv o):=hob;cases p with
   | none =>
    simp only [zjt,bC,Prod.mk.injEq] at hr;obtain ⟨rfl,rfl⟩:=hr;simp only [za0,bC] at hh;subst hh;exact ⟨g.F o,hob'.toZ.sl_own,fun x hx=>hlt x hl hx,fun x hx => .inl ⟨hl,hx⟩⟩
   | some q =>
    obtain ⟨i,j⟩:=q;simp only [zfo] at hr;split at hr
    ·obtain ⟨cs,hcs,hc⟩:=zjd hr;simp only [za0,hS] at hh;split at hh
     ·rename_i sz2 es2 a2 n2 cap2 e2 hv2;cases e2;rw [hv2] at hob';obtain ⟨_,_,_,b,off,cur,t,ha,hF,hb,_,hcell⟩:=hob'.at hcs;cases ha;obtain ⟨v,G,hv,hrv,hG⟩:=hcell _ _ hc;rw [cell_of_row _ _ _ _ _ _ hb] at hh;rw [hv] at hh; cases hh;exact ⟨G,hrv.toZ.sl_own,fun x hx=>hlt x hl (hG x hx).1,fun x hx => .inl ⟨hl,(hG x hx).1⟩⟩
     ·cases hh
    ·cases hr
  | rowF s es' =>
   have hl:live (st.S o)=true:=by rw [hS]; rfl
   have hob':zcj w g.Z (g.F o) s es' (g.hv o):=hob;cases p with
   | some q=>simp [zax] at hr
   | none =>
    simp only [ybf,bC,Prod.mk.injEq] at hr;obtain ⟨rfl,rfl⟩:=hr;simp only [za0,bC] at hh;subst hh;rcases hob'.ok with ⟨⟨q,h1⟩,h2⟩ | ⟨b,off,cap,cur,t,us,h1,hF,hs,hcap,hb,hsz,hc⟩
    ·rw [h1,h2]; exact ⟨fun _=>False,.nil rfl,fun _ h=>h.elim,fun _ h=>h.elim⟩
    ·rw [h1];refine ⟨fun x=>g.F o x\/g.Z x,.row rfl rfl (.inl hF) hs hcap (fun k d hd=>by rw [cell_of_row _ _ _ _ _ _ hb]; exact (hc k d hd).1) (fun k d hd=>(hc k d hd).2.1.mono fun x hx => .inr hx),fun x hx => ?_,fun x hx => ?_⟩
     ·rcases hx with hx | hx
      ·exact hlt x hl hx
      ·exact hR.zlt x hx
     ·rcases hx with hx | hx
      ·exact .inl ⟨hl,hx⟩
      ·exact .inr (.inl hx)
  | shadow s es' e' =>
   cases p with
   | some q=>simp [zax] at hr
   | none =>
    simp only [zyq] at hr;split at hr
    ·rename_i he;subst he;cases hr;simp only [za0,bC] at hh;subst hh;obtain ⟨Y,h1,h2,_⟩:=(hR.shd o _ _ _ hS).2 rfl;exact ⟨Y,h1,h2,fun x _ => .inr (.inr (by rw [hS]; rfl))⟩
    ·cases hr
theorem ycc (hR:Rel w g st) {x:PV} (h:zap w g st x u) {sz:Nat} (hv:zfw st x=some (sz,es)) :
  ∃ Y:Nat->Prop,zam w Y (.sl sz es) u/\(∀ x,Y x->x<w.heap.size)/\∀ y,Y y->g.Z y\/∃ o,zd2 x=[o]/\zpt g st o y:=by
 cases x with
 | sl s es' =>
  simp only [zfw,bC,Prod.mk.injEq] at hv;obtain ⟨rfl,rfl⟩:=hv;exact ⟨g.Z,h,fun x hx=>hR.zlt x hx,fun x hx => .inl hx⟩
 | ref o p ep lo len =>
  simp only [zfw,bB,Prod.mk.injEq] at hv;obtain ⟨r,hr,rfl,rfl⟩:=hv;obtain ⟨hd,hh,hsub,hl⟩:=zyv h hr;obtain ⟨Y,h1,h2,h3⟩:=qig hR hr hh;exact ⟨Y,h1.sub hsub hl,h2,fun x hx => .inr ⟨o,rfl,h3 x hx⟩⟩
 | _=>simp [zfw] at hv
theorem yt0 : ∀ {es:List (List PV)} {l:List UInt8},zk6 es=some l->∃ ns:List Int,es.flatten=ns.map (fun n => .v (.int .u8 n))/\l=ns.map (fun n=>UInt8.ofNat n.toNat)/\ns.length=es.length
 | [],l,h=>by simp only [zk6,bC] at h; subst h; exact ⟨[],rfl,rfl,rfl⟩
 | e::es,l,h=>by
  unfold zk6 at h;split at h
  ·rename_i h'; cases h'
  ·rename_i n r h';cases h';simp only [bB] at h;obtain ⟨l',hl',rfl⟩:=h;obtain ⟨ns,h1,h2,h3⟩:=yt0 hl';exact ⟨n::ns,by simp [h1],by simp [h2],by simp [h3]⟩
  ·cases h
theorem yrm : ∀ (ns:List Int) (r:ByteArray),ns.foldl (fun r n=>r.push (UInt8.ofNat n.toNat)) r=⟨(r.data.toList++ns.map fun n=>UInt8.ofNat n.toNat).toArray⟩
 | [],r=>by simp
 | n::ns,r=>by
  rw [List.foldl_cons,yrm ns]
  congr 1
  simp [ByteArray.push]
theorem zam.v_eq {Z:Nat->Prop} {x u:Value} (h:zam w Z (.v x) u):u=x:=by
 cases h with
 | v=>rfl
 | nil h=>cases h
 | row h=>cases h
theorem qf0 {a:Act} (h:SR C a w g st) {o:Oper} {src dst e:TypeId} {x:Operand} (ho:o.op = .convert src dst x) (h0:C.P.underlying src=some (.slice e)) (h1:C.P.underlying dst=some .string) (he:C.P.underlying e=some (.int .u8)) {x':Opd} (hx:zan C.vars x=some x')
  {r:Nat×List (List PV)} (hv:zfw st (x'.get st)=some r) {l:List UInt8} (hl:zk6 r.2=some l):zat C o a w (.v (.string ⟨l.toArray⟩)) st:=by
 obtain ⟨s,es⟩:=r;obtain ⟨Y,hz,_,_⟩:=ycc h.rel (h.opd hx) hv;obtain ⟨ns,e1,e2,e3⟩:=yt0 hl;refine zat.value (u := .string ⟨l.toArray⟩) ?_ h rfl;generalize hu:a.eval x=u at hz;have run:(Conv.bytesToString u).run C.P w = .ok (.string ⟨l.toArray⟩) w:=by
  cases hz with
  | nil hr =>
   rename_i s cap q;cases hr;have:l=[]:=by simp at e3; subst e3; simpa using e2
   subst this;cases q with
   | none=>rfl
   | some q =>
    have:=run_bytesToString (P:=C.P) w q 0 cap [] (by simp [Go.loadCells,Go.loadCellsFrom]);rw [this]; rfl
  | row hr hn hZ hs hcap hc hrr =>
   rename_i s1 es1 b off cap n us;cases hr;have hns:n=ns.length:=by rw [hn,e3]
   have:=run_bytesToString (P:=C.P) w ⟨b,off,none⟩ n cap ns (by
    have:=run_loadCells_list (P:=C.P) w ⟨b,off,none⟩ (ns.map (Value.int .u8)) (fun j v hj=>by
     rw [zje];simp only [List.getElem?_map,bB] at hj;obtain ⟨n,hn,rfl⟩:=hj;have hd:es.flatten[j]?=some (.v (.int .u8 n)):=by rw [e1]; simp [hn]
     rw [hc j _ hd,(hrr j _ hd).v_eq])
    simpa [hns] using this)
   rw [this,yrm,e2]; rfl
 obtain ⟨q,cap,rfl,_⟩:=hz.len rfl;simp only [execOp,ho,hu,convert,Sem.run_bind,run_underlying h0,run_underlying h1,Result.andThen_ok,run_underlying he,run,Sem.run_pure]
def zd7:List Kd->List Value->List Value->Option Bool
 | [],_,_=>some true
 | k::ks,x::xs,y::ys=>(eqV k x y).bind fun b=>if b then zd7 ks xs ys else some false
 | _,_,_=>none
theorem yoj : ∀ (l m:List Kd) (xs ys:List Value),zd7 (l++m) xs ys=(zd7 l xs ys).bind fun b=>if b then zd7 m (xs.drop l.length) (ys.drop l.length) else some false
 | [],m,xs,ys=>by simp [zd7]
 | k::l,m,[],ys=>by simp [zd7]
 | k::l,m,x::xs,[]=>by simp [zd7]
 | k::l,m,x::xs,y::ys=>by
  simp only [List.cons_append,zd7,List.length_cons,List.drop_succ_cons];cases eqV k x y with
  | none=>rfl
  | some b =>
   cases b
   ·simp
   ·simp [yoj l m xs ys]
theorem ym9 : ∀ (l:List Kd) (n:Nat) (xs ys:List Value),l.length<=n->zd7 l (xs.take n) (ys.take n)=zd7 l xs ys
 | [],n,xs,ys,_=>by simp [zd7]
 | k::l,0,xs,ys,h=>by simp at h
 | k::l,n+1,[],ys,h=>by simp [zd7]
 | k::l,n+1,x::xs,[],h=>by simp [zd7]
 | k::l,n+1,x::xs,y::ys,h=>by
  simp only [List.take_succ_cons,zd7];rw [ym9 l n xs ys (by simpa using h)]
theorem ynz {P:Program} (ha:zft P t=some false) {xs:Array Value} {off:Nat} {x:Value} {l:List Value} (h:xs.toList.drop off=x::l):(part t xs off).run P w = .ok x w:=by
 have hx:xs[off]?=some x:=by
  have:=congrArg (fun l=>l[0]?) h;simpa [List.getElem?_drop] using this
 simp [part,z8b ha,hx]
theorem yu0 {P:Program} (ha:zft P t=some true) {s:Nat} (hs:zds P t=some s) (xs:Array Value) (off:Nat):(part t xs off).run P w = .ok (.agg (xs.extract off (off+s))) w:=by
 simp [part,z8b ha,zm0 hs]
def EqT (P:Program) (w:World) (n:Nat):Prop := ∀ t ks,zi8 P n t=some ks->∀ d,n<=d->∀ (xs ys:Array Value) (off:Nat) (r:Bool),zds P t=some ks.length->zd7 ks (xs.toList.drop off) (ys.toList.drop off)=some r ->
 ∃ a b,(part t xs off).run P w = .ok a w/\(part t ys off).run P w = .ok b w/\(Op.equalIn d t a b).run P w = .ok r w
theorem ydt {P:Program} {w:World} {n d:Nat} (hn:n<=d) (ih:EqT P w n) (xs ys:Array Value) : ∀ (fs:List Field) (o:Nat) (ks:List Kd) (r:Bool),zi8.kindsFs (fun t=>zi8 P n t) P o fs=some ks->zd7 ks (xs.toList.drop o) (ys.toList.drop o)=some r->(Op.eqFields d xs ys fs).run P w = .ok r w
 | [],o,ks,r,hk,he=>by
  simp only [zi8.kindsFs,bC] at hk;subst hk;simp only [zd7,bC] at he;subst he; rfl
 | f::fs,o,ks,r,hk,he=>by
  simp only [zi8.kindsFs] at hk;split at hk
  ·rename_i c;simp only [Bool.and_eq_true,bne_iff_ne,ne_eq,beq_iff_eq] at c;obtain ⟨l,hl,hk⟩:=bA hk;split at hk
   ·rename_i hsz;simp only [bB] at hk;obtain ⟨m,hm,rfl⟩:=hk;rw [yoj] at he;obtain ⟨b,hb,he⟩:=bA he;obtain ⟨p,q,hp,hq,hpq⟩:=ih f.type l hl d hn xs ys o b hsz hb;rw [<- c.2] at hp hq;cases b with
    | true =>
     simp only [if_true,List.drop_drop] at he;have:=ydt hn ih xs ys fs (o+l.length) m r hm (by simpa [Nat.add_comm] using he);simp [Op.eqFields,c.1,hp,hq,hpq,this]
    | false =>
     simp only [Bool.false_eq_true,if_false,bC] at he;subst he;simp [Op.eqFields,c.1,hp,hq,hpq]
   ·cases hk
  ·cases hk
theorem ytd {k:Kd} {x y:Value} {r:Bool} (h:eqV k x y=some r):(∃ c a b,k = .i c/\x = .int c a/\y = .int c b/\r=(a == b))\/(∃ a b,k = .b/\x = .bool a/\y = .bool b/\r=(a == b))\/(∃ a b,k = .s/\x = .string a/\y = .string b/\r=(a == b)):=by
 unfold eqV at h;split at h
 ·split at h
  ·rename_i c; obtain ⟨rfl,rfl⟩:=c; cases h; exact .inl ⟨_,_,_,rfl,rfl,rfl,rfl⟩
  ·cases h
 ·cases h; exact .inr (.inl ⟨_,_,rfl,rfl,rfl,rfl⟩)
 ·cases h; exact .inr (.inr ⟨_,_,rfl,rfl,rfl,rfl⟩)
 ·cases h
theorem yur {P:Program} {w:World} {k:Kd} {t:TypeId} {d:Nat} {x y:Value} {r:Bool} (h:eqV k x y=some r) (ht:(∃ c,k = .i c/\P.underlying t=some (.int c))\/(k = .b/\P.underlying t=some .bool)\/(k = .s/\P.underlying t=some .string)):(Op.equalIn (d+1) t x y).run P w = .ok r w:=by
 rcases ytd h with ⟨c,a,b,rfl,rfl,rfl,rfl⟩ | ⟨a,b,rfl,rfl,rfl,rfl⟩ | ⟨a,b,rfl,rfl,rfl,rfl⟩
 ·rcases ht with ⟨c',e,ht⟩ | ⟨e,_⟩ | ⟨e,_⟩
  ·cases e; simp [Op.equalIn,run_underlying ht]
  ·cases e
  ·cases e
 ·rcases ht with ⟨c',e,ht⟩ | ⟨e,ht⟩ | ⟨e,_⟩
  ·cases e
  ·simp [Op.equalIn,run_underlying ht]
  ·cases e
 ·rcases ht with ⟨c',e,ht⟩ | ⟨e,ht⟩ | ⟨e,ht⟩
  ·cases e
  ·cases e
  ·simp [Op.equalIn,run_underlying ht]
theorem yqs {P:Program} : ∀ n,EqT P w n
 | 0=>fun t ks h=>by simp [zi8] at h
 | n+1=>fun t ks h d hd xs ys off r hsz he=>by
  obtain ⟨d',rfl⟩ : ∃ d',d=d'+1:=⟨d-1,by omega⟩;have one : ∀ k,ks=[k]->zft P t=some false->((∃ c,k = .i c/\P.underlying t=some (.int c))\/(k = .b/\P.underlying t=some .bool)\/(k = .s/\P.underlying t=some .string)) ->
    ∃ a b,(part t xs off).run P w = .ok a w/\(part t ys off).run P w = .ok b w/\(Op.equalIn (d'+1) t a b).run P w = .ok r w:=by
   intro k e ha ht;subst e;generalize hx:xs.toList.drop off=l1 at he;generalize hy:ys.toList.drop off=l2 at he;cases l1 with
   | nil=>simp [zd7] at he
   | cons x l1 =>
    cases l2 with
    | nil=>simp [zd7] at he
    | cons y l2 =>
     simp only [zd7] at he;obtain ⟨b,hb,he⟩:=bA he;have:b=r:=by cases b <;> simpa using he
     subst this;exact ⟨x,y,ynz ha hx,ynz ha hy,yur hb ht⟩
  simp only [zi8] at h;split at h
  ·rename_i hu; cases h; exact one .b rfl (by simp [zft,hu]) (.inr (.inl ⟨rfl,hu⟩))
  ·rename_i k hu; cases h; exact one (.i k) rfl (by simp [zft,hu]) (.inl ⟨k,rfl,hu⟩)
  ·rename_i hu; cases h; exact one .s rfl (by simp [zft,hu]) (.inr (.inr ⟨rfl,hu⟩))
  ·rename_i fs hu;split at h
   ·cases h
   ·rename_i hst;have ha:zft P t=some true:=by simp [zft,hu]
    refine ⟨_,_,yu0 ha hsz xs off,yu0 ha hsz ys off,?_⟩;have hf:P.fieldsOf t=fs:=by simp [Program.fieldsOf,hu]
    rw [run_equalIn_struct (P:=P) w d' t _ _ (by rw [hf]; exact hu) (by simpa using hst),hf];refine ydt (by omega) (yqs n) _ _ fs.toList 0 ks r h ?_;have tk : ∀ zs:Array Value,((zs.extract off (off+ks.length)).toList.drop 0)=(zs.toList.drop off).take ks.length:=by
     intro zs; simp [List.extract_eq_take_drop]
    rw [tk,tk,ym9 _ _ _ _ (Nat.le_refl _)];exact he
  ·cases h
theorem yud : ∀ {ks:List Kd} {xs ys:List PV} {us vs:List Value} {r:Bool},zb1 w g st xs us->zb1 w g st ys vs->zcb ks xs ys=some r->zd7 ks us vs=some r
 | [],[],[],us,vs,r,_,_,h=>h
 | k::ks,.v x::xs,.v y::ys,us,vs,r,h1,h2,h=>by
  simp only [zcb] at h;obtain ⟨b,hb,h⟩:=bA h;obtain ⟨u,hu,hx⟩:=h1.2 0 (.v x) (by simp);obtain ⟨v,hv,hy⟩:=h2.2 0 (.v y) (by simp);cases us with
  | nil=>simp at hu
  | cons u' us =>
   cases vs with
   | nil=>simp at hv
   | cons v' vs =>
    simp at hu hv;subst hu; subst hv;have ex:u'=x:=hx;have ey:v'=y:=hy;subst ex; subst ey;simp only [zd7,hb,Option.bind_some];cases b with
    | false=>exact h
    | true =>
     exact yud ⟨by simpa using h1.1,fun k c hc=>by simpa using h1.2 (k+1) c (by simpa using hc)⟩ ⟨by simpa using h2.1,fun k c hc=>by simpa using h2.2 (k+1) c (by simpa using hc)⟩ h
 | [],_::_,_,_,_,_,_,_,h=>by simp [zcb] at h
 | [],[],_::_,_,_,_,_,_,h=>by simp [zcb] at h
 | _::_,[],_,_,_,_,_,_,h=>by simp [zcb] at h
 | k::ks,x::xs,[],_,_,_,_,_,h=>by cases x <;> simp [zcb] at h
 | k::ks,.undef::xs,y::ys,_,_,_,_,_,h=>by simp [zcb] at h
 | k::ks,.e0::xs,y::ys,_,_,_,_,_,h=>by simp [zcb] at h
 | k::ks,.sl _ _::xs,y::ys,_,_,_,_,_,h=>by simp [zcb] at h
 | k::ks,.own _ _::xs,y::ys,_,_,_,_,_,h=>by simp [zcb] at h
 | k::ks,.bx _::xs,y::ys,_,_,_,_,_,h=>by simp [zcb] at h
 | k::ks,.ref _ _ _ _ _::xs,y::ys,_,_,_,_,_,h=>by simp [zcb] at h
 | k::ks,.ptr _ _ _ _ _::xs,y::ys,_,_,_,_,_,h=>by simp [zcb] at h
 | k::ks,.fptr _ _::xs,y::ys,_,_,_,_,_,h=>by simp [zcb] at h
 | k::ks,.fn _ _::xs,y::ys,_,_,_,_,_,h=>by simp [zcb] at h
 | k::ks,.agg _::xs,y::ys,_,_,_,_,_,h=>by simp [zcb] at h
 | k::ks,.tup _::xs,y::ys,_,_,_,_,_,h=>by simp [zcb] at h
 | k::ks,.v x::xs,.undef::ys,_,_,_,_,_,h=>by simp [zcb] at h
 | k::ks,.v x::xs,.e0::ys,_,_,_,_,_,h=>by simp [zcb] at h
 | k::ks,.v x::xs,.sl _ _::ys,_,_,_,_,_,h=>by simp [zcb] at h
 | k::ks,.v x::xs,.own _ _::ys,_,_,_,_,_,h=>by simp [zcb] at h
 | k::ks,.v x::xs,.bx _::ys,_,_,_,_,_,h=>by simp [zcb] at h
 | k::ks,.v x::xs,.ref _ _ _ _ _::ys,_,_,_,_,_,h=>by simp [zcb] at h
 | k::ks,.v x::xs,.ptr _ _ _ _ _::ys,_,_,_,_,_,h=>by simp [zcb] at h
 | k::ks,.v x::xs,.fptr _ _::ys,_,_,_,_,_,h=>by simp [zcb] at h
 | k::ks,.v x::xs,.fn _ _::ys,_,_,_,_,_,h=>by simp [zcb] at h
 | k::ks,.v x::xs,.agg _::ys,_,_,_,_,_,h=>by simp [zcb] at h
 | k::ks,.v x::xs,.tup _::ys,_,_,_,_,_,h=>by simp [zcb] at h
theorem yr9 {a:Act} (h:SR C a w g st) {o:Oper} {op:BinOp} {t yt:TypeId} {x y:Operand} (ho:o.op = .binOp op t x y yt) {x' y':Opd} (hx:zan C.vars x=some x') (hy:zan C.vars y=some y') (hop:ydy op=true) {ks:List Kd}
  (hk:(C.P.underlying t=some .bool/\ks=[.b])\/(∃ fs,C.P.underlying t=some (.struct fs))/\C.P.eqGuardType C.P.depth t=false/\zi8 C.P 4 t=some ks/\2<=ks.length) {r:Bool} (hr:eqP ks (x'.get st) (y'.get st)=some r):zat C o a w (.v (.bool (r != zuv op))) st:=by
 have h1:=h.opd hx;have h2:=h.opd hy;refine zat.value (u := .bool (r != zuv op)) ?_ h rfl;unfold eqP at hr;split at hr
 ·rename_i k p q hp hq;rw [hp] at h1; rw [hq] at h2;rcases hk with ⟨hu,hks⟩ | ⟨_,_,_,hl⟩
  ·cases hks;rcases ytd hr with ⟨c,a,b,e,_⟩ | ⟨u,v,_,rfl,rfl,rfl⟩ | ⟨a,b,e,_⟩
   ·cases e
   ·have e:=yur (P:=C.P) (w:=w) (k := .b) (t:=t) (d:=9999) (x := .bool u) (y := .bool v) rfl (.inr (.inl ⟨rfl,hu⟩));cases op <;> first | (cases hop; done) | (simp [execOp,ho,h1.v,h2.v,eqGuard,binOp,Op.equal,Op.maxDepth,e,zuv])
   ·cases e
  ·simp at hl
 ·rename_i k l ks' xs ys hp hq;rw [hp] at h1; rw [hq] at h2;obtain ⟨us,e1,r1⟩:=h1;obtain ⟨vs,e2,r2⟩:=h2;rcases hk with ⟨_,hks⟩ | ⟨⟨fs,hu⟩,hg,hkt,_⟩
  ·cases hks
  ·have hpre:=yud r1 r2 hr;have hf:C.P.fieldsOf t=fs:=by simp [Program.fieldsOf,hu]
   simp only [zi8,hu] at hkt;split at hkt
   ·cases hkt
   ·rename_i hst;have e:=ydt (P:=C.P) (w:=w) (n:=3) (d:=9999) (by omega) (yqs 3) us vs fs.toList 0 _ r hkt (by simpa using hpre);have e3:(Op.equalIn 10000 t (.agg us) (.agg vs)).run C.P w = .ok r w:=by
     rw [run_equalIn_struct (P:=C.P) w 9999 t us vs (by rw [hf]; exact hu) (by simpa using hst),hf]; exact e
    have e4:=run_eqGuard_agg (P:=C.P) w op t x y us vs hg;cases op <;> first
     | (cases hop; done)
     | (simp only [execOp,ho,e1,e2,Sem.run_bind,e4,Result.andThen_ok,run_eql_struct,run_neq_struct,e3,Sem.run_pure,zuv]; cases r <;> rfl)
 ·cases hr
theorem qg4 {a:Act} (h:SR C a w g st) {o i j ep lo len s s2:Nat} {es es2:List (List PV)} (hS:st.S o=some (.row s es)) (hs:zbe es i j=some (s2,es2)) (he:ep=st.ep) (hu:zbc w g st (.ref o (some (i,j)) ep lo len) u) :
  ∃ g',SR C a w g' { st with S:=upd st.S o (some (.rowF s (es.map fun e=>e.map fz))),ep:=st.ep+1 }/\zam w g'.Z (.sl s2 (cut es2 lo len)) u:=by
 have r:=h.rel;have hlo:live (st.S o)=true:=by rw [hS]; rfl
 obtain ⟨cs,hi,hj⟩:=zjd hs;have hrow:zax st.ep (st.S o) (some (i,j)) ep=some (s2,es2):=by rw [hS]; simp only [zax]; rw [if_pos he]; exact hs
 obtain ⟨_,_,_,h3⟩:=hu;obtain ⟨hd,hh,hsub,hl⟩:=h3 _ _ hrow;have hob:zal w (g.F o) (.own s es) (g.hv o):=r.ob o _ hS;obtain ⟨b,off,cap,cur,t,us,G,hv,hF,hG,hdd,hsz,hcap,hb,hbs,hc,hr⟩ : ∃ (b off cap:Nat) (cur:Array Value) (t:TypeId) (us:Nat->Value) (G:Nat->Nat->Prop),g.hv o = .slice (some ⟨b,off,none⟩) es.length cap/\g.F o b/\(∀ k x,G k x->g.F o x/\x≠b)/\(∀ k k' x,G k x->G k' x->k=k') /\
   (∀ e∈es,e.length=s)/\es.length<=cap/\w.heap[b]?=some (.cells cur t (0,0))/\off+cap*s<=cur.size/\(∀ (k:Nat) (d:PV),es.flatten[k]?=some d->cur[off+k]?=some (us k))/\∀ (k:Nat) (d:PV),es.flatten[k]?=some d->zal w (G k) d (us k):=by
  generalize g.hv o=v at hob;cases hob with
  | nil=>simp at hi
  | row hn hF hG hd hs hcap hb hsz hc hr=>subst hn; exact ⟨_,_,_,_,_,_,_,rfl,hF,hG,hd,hs,hcap,hb,hsz,hc,hr⟩
 let g':Gh := { Z:=fun x=>g.Z x\/(g.F o x/\x≠b),K:=g.K,F:=fun o'=>if o'=o then fun x=>x=b else g.F o',hv:=g.hv }
 have gF : ∀ o' x,g'.F o' x->g.F o' x:=by
  intro o' x hx
  by_cases e:o'=o
  ·subst e;have hx:(if o'=o' then fun x=>x=b else g.F o') x:=hx;rw [if_pos rfl] at hx;rw [hx]; exact hF
  ·have hx:(if o'=o then fun x=>x=b else g.F o') x:=hx;rw [if_neg e] at hx; exact hx
 let st':St := { st with S:=upd st.S o (some (.rowF s (es.map fun e=>e.map fz))),ep:=st.ep+1 }
 have hS' : ∀ o',st'.S o'=if o'=o then some (.rowF s (es.map fun e=>e.map fz)) else st.S o':=fun o'=>rfl
 have liv : ∀ o',live (st'.S o')=true->live (st.S o')=true:=by
  intro o' hlv
  by_cases e:o'=o
  ·subst e; exact hlo
  ·rw [hS',if_neg e] at hlv; exact hlv
 have go:zaq w g st w g' st':=by
  refine ⟨Nat.le_refl _,Nat.le_succ _,fun o' ho' p e' he' sz es' hrw => ?_,fun o' ho' cs' hbx => ?_,fun x hx => .inl hx,fun _ _=>rfl⟩
  ·by_cases eo:o'=o
   ·subst eo;rw [hS',if_pos rfl] at hrw;cases p with
    | none =>
     simp only [zax,bC,Prod.mk.injEq] at hrw;obtain ⟨rfl,rfl⟩:=hrw;exact ⟨es,by rw [hS]; rfl,by simp,rfl⟩
    | some q=>simp [zax] at hrw
   ·have hS3:st'.S o'=st.S o':=by rw [hS',if_neg eo]
    have hh' : ∀ p,za0 w st'.S g.hv o' p=za0 w st.S g.hv o' p:=fun p=>by cases p with
     | none=>rfl
     | some q=>obtain ⟨i',j'⟩:=q; simp only [za0,hS3]
    rw [hS3] at hrw;cases hS2:st.S o' with
    | none=>rw [hS2] at hrw; simp [zax] at hrw
    | some ob2 =>
     rw [hS2] at hrw;cases p with
     | none =>
      cases ob2 with
      | box=>simp [zax] at hrw
      | row s' es3=>exact ⟨es',by simpa [zax] using hrw,rfl,hh' _⟩
      | rowF s' es3=>exact ⟨es',by simpa [zax] using hrw,rfl,hh' _⟩
      | shadow s' es3 e3 =>
       simp only [zax] at hrw;split at hrw
       ·rename_i e4;have:=(r.shd o' _ _ _ hS2).1;have e4:e3=st.ep+1:=e4;omega
       ·cases hrw
     | some q =>
      obtain ⟨i',j'⟩:=q;cases ob2 with
      | row s' es3 =>
       simp only [zax] at hrw;split at hrw
       ·rename_i e4;have e4:e'=st.ep+1:=e4;omega
       ·cases hrw
      | _=>simp [zax] at hrw
  ·by_cases eo:o'=o
   ·subst eo; rw [hS',if_pos rfl] at hbx; cases hbx
   ·rw [hS',if_neg eo] at hbx; exact ⟨⟨cs',hbx⟩,rfl⟩
 have hrel:Rel w g' st':=by
  refine ⟨fun o' ob hob' => ?_,fun o1 o2 x h1 h2 f1 f2=>r.sep o1 o2 x (liv o1 h1) (liv o2 h2) (gF o1 x f1) (gF o2 x f2),fun o' x hlv hf hz => ?_,fun o' x hlv hf=>r.lt o' x (liv o' hlv) (gF o' x hf),fun x hx => ?_,fun o' ho' => ?_,fun o' sz' es' e' hs' => ?_⟩
  ·by_cases eo:o'=o
   ·subst eo;rw [hS',if_pos rfl] at hob';cases hob';show zcj w g'.Z (if o'=o' then fun x=>x=b else g.F o') s (es.map fun e=>e.map fz) (g.hv o');rw [if_pos rfl];refine ⟨.inr ⟨b,off,cap,cur,t,us,by rw [hv]; simp,rfl,fun e he => ?_,by simpa using hcap,hb,hbs,fun k d hd => ?_⟩⟩
    ·obtain ⟨e0,he0,rfl⟩:=List.mem_map.mp he;rw [List.length_map]; exact hsz e0 he0
    ·rw [<- List.map_flatten,List.getElem?_map,bB] at hd;obtain ⟨d0,hd0,rfl⟩:=hd;have hr0:=hr k d0 hd0;exact ⟨hc k d0 hd0,((hr0.toZ.mono (fun x hx => .inr (hG k x hx))).frz:zam w g'.Z _ _),hr0.one⟩
   ·rw [hS',if_neg eo] at hob';have old:=r.ob o' ob hob';have eF:g'.F o'=g.F o':=if_neg eo;rw [eF];cases ob with
    | row=>exact old
    | rowF sz es' =>
     have old:zcj w g.Z (g.F o') sz es' (g.hv o'):=old;refine ⟨?_⟩;rcases old.ok with h1 | ⟨b2,off2,cap2,cur2,t2,us2,k1,k2,k3,k4,k5,k6,k7⟩
     ·exact .inl h1
     ·exact .inr ⟨b2,off2,cap2,cur2,t2,us2,k1,k2,k3,k4,k5,k6,fun k d hd=>⟨(k7 k d hd).1,(k7 k d hd).2.1.mono (fun x hx => .inl hx),(k7 k d hd).2.2⟩⟩
    | box cs' =>
     obtain ⟨b2,cur2,t2,k1,k2,k3,k4,k5⟩:=old;exact ⟨b2,cur2,t2,k1,k2,k3,k4.goes go,k5⟩
    | shadow=>trivial
  ·have hf':=gF o' x hf;rcases hz with hz | ⟨hz1,hz2⟩
   ·exact r.nz o' x (liv o' hlv) hf' hz
   ·have eo:=r.sep o' o x (liv o' hlv) hlo hf' hz1;subst eo;have hf:(if o'=o' then fun x=>x=b else g.F o') x:=hf;rw [if_pos rfl] at hf;exact hz2 hf
  ·rcases hx with hx | ⟨hx,_⟩
   ·exact r.zlt x hx
   ·exact r.lt o x hlo hx
  ·have ho':st.nx<=o':=ho';rw [hS',if_neg (fun e=>by subst e; rw [r.nxt o' ho'] at hS; cases hS)];exact r.nxt o' ho'
  ·by_cases eo:o'=o
   ·subst eo; rw [hS',if_pos rfl] at hs'; cases hs'
   ·rw [hS',if_neg eo] at hs';have:=(r.shd o' _ _ _ hs').1;exact ⟨Nat.le_succ_of_le this,fun e=>by have e:e'=st.ep+1:=e; omega⟩
 refine ⟨g',h.stepI go hrel rfl rfl rfl rfl rfl (Nat.le_refl _) (fun _ _ _=>rfl) (fun o' x hlv hf=>h.own o' x (liv o' hlv) (gF o' x hf)) (fun x hx => ?_) (fun _ _=>rfl),?_⟩
 ·rcases hx with hx | ⟨hx,_⟩
  ·exact .inl hx
  ·exact .inr (h.own o x hlo hx)
 ·have hk:=zhz hsz hi hj;have hdv:hd=us (i*s+j):=by
   simp only [za0,hS,hv] at hh;rw [cell_of_row _ _ _ _ _ _ hb,hc _ _ hk] at hh;exact (Option.some.inj hh).symm
  have hz:=(hr _ _ hk).toZ.mono (Z':=g'.Z) (fun x hx => .inr (hG _ x hx));rw [<- hdv] at hz;exact hz.sl_own.sub hsub hl
theorem qdi {a:Act} (h:SR C a w g st) {l:List (Nat×PV)} {vs:List (Nat×Value)} (ht:Two (zj1 w g st) l vs) : ∃ g',SR C a w g' (zdi st l)/\Two (zj1 w g' (zdi st l)) (zdd st l) vs:=by
 by_cases hp : ∃ i o a b ep lo len,l=[(i,.ref o (some (a,b)) ep lo len)]
 ·obtain ⟨i,o,a',b,ep,lo,len,rfl⟩:=hp;simp only [zdd,zdi];cases hf:zlk st.ep a' b ep lo len (st.S o) with
  | none=>exact ⟨g,h,ht⟩
  | some q =>
   simp only [Option.elim_some];unfold zlk at hf;split at hf
   ·rename_i s es hS;split at hf
    ·rename_i he;simp only [bB] at hf;obtain ⟨⟨s2,es2⟩,hs,rfl⟩:=hf;cases ht with
     | cons h1 t =>
      cases t;obtain ⟨e1,h1⟩:=h1;obtain ⟨g',k1,k2⟩:=qg4 h hS hs he h1;exact ⟨g',k1,.cons ⟨e1,k2⟩ .nil⟩
    ·cases hf
   ·cases hf
 ·have e1:zdd st l=l:=by
   unfold zdd;split
   ·rename_i i o a' b ep lo len;exact (hp ⟨_,_,_,_,_,_,_,rfl⟩).elim
   ·rfl
  have e2:zdi st l=st:=by
   unfold zdi;split
   ·rename_i i o a' b ep lo len;exact (hp ⟨_,_,_,_,_,_,_,rfl⟩).elim
   ·rfl
  rw [e1,e2];exact ⟨g,h,ht⟩
theorem qb9 {a:Act} (h:SR C a w g st) {o:Oper} {t e:TypeId} {n:Nat} {parts:Array (Nat×Operand)} (ho:o.op = .buildSlice t n parts) (ht:C.P.underlying t=some (.slice e)) {s:Nat} (hs:zds C.P e=some s) {z:List PV} (hz:zqj C.P e=some z) {ps:List (Nat×Opd)} (hp:zjr C.vars parts.toList=some ps) (hsm:n*s<=16777216) (hzl:z.length=s)
  {r:PV×St} (hr:zaj (fun _=>[]) (fun _ _=>none) st (.bslice n s z ps)=some r):zat C o a w r.1 r.2:=by
 simp only [zaj] at hr;obtain ⟨i,zv,hi,hzv,hrep⟩:=yeh hz;have hsi:i.size=s:=by simpa [zds,hi] using hs
 subst hsi;obtain ⟨g1,h,ht2⟩:=qdi h (z7z h hp);generalize zdd st (zb8 st ps)=fl at *;generalize zdi st (zb8 st ps)=st1 at *;have hcl:=yb9 (n:=n) (m:=n) (hrep w) hzl (Nat.le_refl _);have hmk:(madeCells zv.cells (n*i.size)).toList.take (n*i.size)=(madeCells zv.cells (n*i.size)).toList:=by
  apply List.take_of_length_le; simp [size_madeCells]
 rw [hmk] at hcl;have hif:(if n*i.size=0 then #[] else madeCells zv.cells (n*i.size))=madeCells zv.cells (n*i.size):=by
  split
  ·rename_i e; rw [e]; exact (Array.eq_empty_of_size_eq_zero (size_madeCells _ _)).symm
  ·rfl
 have run:=fun cells hcells=>yqy (P:=C.P) w (t:=t) (e:=e) (len:=n) (parts:=parts.map fun (i,x)=>(i,a.eval x)) (cells:=cells) ht hi hzv hsm (by rw [hif]; simpa using hcells);split at hr
 ·simp only [bB] at hr;obtain ⟨es,hf,rfl⟩:=hr;have h0:PW (fun _ c u=>zam w g1.Z c u/\u.oneCell'=true) (List.replicate n (z.map fz)).flatten (madeCells zv.cells (n*i.size)).toList:=by
   refine ⟨by rw [hcl.len,zcz (zjm hzl),zcz (zjm (by simpa using hzl))]; simp,fun k c hc => ?_⟩;obtain ⟨i1,j,cs,h1,h2,h3,h4,h5⟩:=z8g (zjm (sz:=i.size) (by simpa using hzl)) hc;have e1:cs=z.map fz:=List.eq_of_mem_replicate (bF h1);subst e1;simp only [List.getElem?_map,bB] at h2;obtain ⟨c0,hc0,rfl⟩:=h2;have h6:(List.replicate n z)[i1]?=some z:=by
    simp at h5; simp [h5]
   obtain ⟨u,hu,hr⟩:=hcl.rep k c0 (by rw [h3]; exact zhz (zjm hzl) h6 hc0);exact ⟨u,hu,(hr.toZ.mono (fun _ h=>h.elim)).frz,hr.one⟩
  obtain ⟨cells,c2,hs2,hl2,hf2⟩:=yum hzl h0 (zjm (by simpa using hzl)) ht2 hf;have hn:es.length=n:=by simpa using hl2
  obtain ⟨g',s',r'⟩:=yom (cap:=n) (cells:=cells) (us:=fun k=>cells.toList.getD k default) (w':=w.alloc (.cells cells e)) (t:=e) h hs2 (by omega) (by have:=c2.1; rw [zcz hs2,hn] at this; simp at this; omega) (fun k d hd=>by
   obtain ⟨u,hu,h1,h2⟩:=c2.2 k d hd;simp only [List.getD_eq_getElem?_getD,hu,Option.getD_some];exact ⟨by simpa using hu,h1,h2⟩) rfl rfl rfl rfl
  refine zat.value (u := .slice (some ⟨w.heap.size,0,none⟩) n n) ?_ s' (zap.c (by rw [hn] at r'; exact r'));simp only [execOp,ho,Sem.run_bind,run cells hf2,Result.andThen_ok,Sem.run_pure]
 ·simp only [bB] at hr;obtain ⟨⟨es,st2⟩,hf,rfl⟩:=hr;obtain ⟨Y,H,cells,s1,l1,c1,hs1,hl1,hf1⟩:=yrk hzl h (zaz.none C w g1 st1) hcl (zjm hzl) ht2 hf;have hn:es.length=n:=by simpa using hl1
  obtain ⟨g',s',r'⟩:=ybl (cap:=n) (cells:=cells) (w':=w.alloc (.cells cells e)) (t:=e) s1 l1 c1 hs1 (by omega) (by have:=c1.len; rw [zcz hs1,hn] at this; simp at this; omega) (fun k u hu=>by simpa using hu) rfl rfl rfl rfl;refine zat.value (u := .slice (some ⟨w.heap.size,0,none⟩) n n) ?_ s' (zap.c (by rw [hn] at r'; exact r'));simp only [execOp,ho,Sem.run_bind,run cells hf1,Result.andThen_ok,Sem.run_pure]
end Go.Pe
namespace Go.Pe
open Go
theorem zpj {sz:Nat} {es:List (List PV)} (hs : ∀ e∈es,e.length=sz) {i j:Nat} {cs ys:List PV} (hi:es[i]?=some cs) (hj:j+ys.length<=cs.length):(es.set i (over cs j ys)).flatten=zbf es.flatten (i*sz+j) ys:=by
 have hlt:i<es.length:=(bD hi).1;have hcs:cs.length=sz:=hs cs (bF hi);have hol:(zbf cs j ys).length=cs.length:=zj7 hj;have hfl:=zcz hs;have hmul:(i+1)*sz<=es.length*sz:=Nat.mul_le_mul_right _ hlt;rw [Nat.add_mul] at hmul;rw [zvd,z8f hs hlt (by rw [hol,hcs])];apply List.ext_getElem?;intro k;rw [zdh (by rw [hol]; omega),zdh (cs:=es.flatten) (j:=i*sz+j) (xs:=ys) (by omega) k,hol]
 by_cases h1:k<i*sz
 ·rw [if_pos h1,if_pos (by omega)]
 ·rw [if_neg h1]
  by_cases h2:k<i*sz+cs.length
  ·rw [if_pos h2,zdh hj];have get : ∀ q,q<sz->es.flatten[i*sz+q]?=cs[q]?:=by
    intro q hq;rw [zhz hs hi (bG (by omega)),bG (by omega)]
   by_cases h3:k-i*sz<j
   ·rw [if_pos h3,if_pos (by omega),<- get _ (by omega)]; congr 1; omega
   ·rw [if_neg h3,if_neg (show ¬ k<i*sz+j by omega)]
    by_cases h4:k-i*sz<j+ys.length
    ·rw [if_pos h4,if_pos (show k<i*sz+j+ys.length by omega)]; congr 1; omega
    ·rw [if_neg h4,if_neg (show ¬ k<i*sz+j+ys.length by omega),<- get _ (by omega)]; congr 1; omega
  ·rw [if_neg h2,if_neg (by omega),if_neg (by omega)]
theorem zp8 {sz:Nat} {es:List (List PV)} (hs : ∀ e∈es,e.length=sz) {i j:Nat} {cs ys:List PV} (hi:es[i]?=some cs) (hj:j+ys.length<=cs.length) : ∀ e∈es.set i (over cs j ys),e.length=sz :=
 z89 hs (by rw [zvd,zj7 hj]; exact hs cs (bF hi))
theorem zal.write {w w':World} {F:Nat->Prop} {sz:Nat} {es:List (List PV)} {b off n cap:Nat} (h:zal w F (.own sz es) (.slice (some ⟨b,off,none⟩) n cap)) {i j:Nat} {cs ys:List PV} {vs:List Value} (hi:es[i]?=some cs) (hj:j+ys.length<=cs.length) {Y:Nat->Prop} {H:Nat->Nat->Prop} (hc:zbi w Y ys vs H) (hY : ∀ x,F x->¬ Y x)
  {cur:Array Value} {t:TypeId} (hb:w.heap[b]?=some (.cells cur t (0,0))) (hb':w'.heap[b]?=some (.cells (zbf cur.toList (off+(i*sz+j)) vs).toArray t (0,0))) (hw : ∀ x,x≠b->w'.heap[x]?=w.heap[x]?) :
  zal w' (fun x=>F x\/Y x) (.own sz (es.set i (over cs j ys))) (.slice (some ⟨b,off,none⟩) n cap):=by
 cases h with
 | nil=>simp at hi
 | row hn hF hG hd hs hcap hbk hsz hcl hr =>
  rename_i cur0 t0 us G;rw [hb] at hbk;cases hbk;have hlt:i<es.length:=(bD hi).1;have hcs:cs.length=sz:=hs cs (bF hi);have hfl:=zcz hs;have hmul:(i+1)*sz<=es.length*sz:=Nat.mul_le_mul_right _ hlt;rw [Nat.add_mul] at hmul;have hmul2:es.length*sz<=cap*sz:=Nat.mul_le_mul_right _ (by omega);have hvl:=hc.len;have hle:off+(i*sz+j)+vs.length<=cur.toList.length:=by simp; omega
  have hYb : ¬ Y b:=hY b hF;refine .row (us:=fun k=>if i*sz+j<=k/\k<i*sz+j+ys.length then vs.getD (k-(i*sz+j)) default else us k) (G:=fun k x=>if i*sz+j<=k/\k<i*sz+j+ys.length then H (k-(i*sz+j)) x else G k x)
   (by rw [List.length_set]; exact hn) (.inl hF) (fun k x hx => ?_) (fun k k' x h1 h2 => ?_) (zp8 hs hi hj) hcap hb' (by rw [List.size_toArray,zj7 hle]; simpa using hsz) (fun k d hk => ?_) (fun k d hk => ?_)
  ·split at hx
   ·have:=hc.inX _ x hx; exact ⟨.inr this,fun e=>hYb (e ▸ this)⟩
   ·exact ⟨.inl (hG k x hx).1,(hG k x hx).2⟩
  ·split at h1 <;> split at h2
   ·have:=hc.dis _ _ x h1 h2; omega
   ·exact (hY x (hG _ x h2).1 (hc.inX _ x h1)).elim
   ·exact (hY x (hG _ x h1).1 (hc.inX _ x h2)).elim
   ·exact hd k k' x h1 h2
  ·rw [zpj hs hi hj,zdh (by omega)] at hk;rw [List.getElem?_toArray,zdh hle]
   by_cases e:i*sz+j<=k/\k<i*sz+j+ys.length
   ·simp only [if_pos e];rw [if_neg (by omega),if_pos (by omega)] at hk;obtain ⟨v,hv,_⟩:=hc.rep _ d hk;rw [if_neg (by omega),if_pos (by omega),show off+k-(off+(i*sz+j))=k-(i*sz+j) by omega,hv];simp [List.getD_eq_getElem?_getD,hv]
   ·simp only [if_neg e];have hk':es.flatten[k]?=some d:=by
     by_cases e1:k<i*sz+j
     ·rw [if_pos e1] at hk; exact hk
     ·rw [if_neg e1,if_neg (by omega)] at hk; exact hk
    have:=hcl k d hk'
    by_cases e1:off+k<off+(i*sz+j)
    ·rw [if_pos e1]; simpa using this
    ·rw [if_neg e1,if_neg (by omega)]; simpa using this
  ·rw [zpj hs hi hj,zdh (by omega)] at hk
   by_cases e:i*sz+j<=k/\k<i*sz+j+ys.length
   ·simp only [if_pos e];rw [if_neg (by omega),if_pos (by omega)] at hk;obtain ⟨v,hv,hrv⟩:=hc.rep _ d hk;simp only [List.getD_eq_getElem?_getD,hv,Option.getD_some];exact hrv.congr fun x hx=>hw x fun e=>hYb (e ▸ hc.inX _ x hx)
   ·simp only [if_neg e];have hk':es.flatten[k]?=some d:=by
     by_cases e1:k<i*sz+j
     ·rw [if_pos e1] at hk; exact hk
     ·rw [if_neg e1,if_neg (by omega)] at hk; exact hk
    exact (hr k d hk').congr fun x hx=>hw x (hG k x hx).2
theorem zal.sub_set {w w':World} {F:Nat->Prop} {sz:Nat} {es:List (List PV)} {u:Value} (h:zal w F (.own sz es) u) {i j s2:Nat} {cs:List PV} {es2 es2':List (List PV)} (hi:es[i]?=some cs) (hj:cs[j]?=some (.own s2 es2)) :
  ∃ (b off n cap:Nat) (v:Value) (G:Nat->Prop),u = .slice (some ⟨b,off,none⟩) n cap/\F b/\w.cell? ⟨b,off+(i*sz+j),none⟩=some v/\zal w G (.own s2 es2) v/\(∀ x,G x->F x/\x≠b) /\
   (∀ c':PV,(∀ x,¬ G x->w'.heap[x]?=w.heap[x]?)->zal w' G c' v->zal w' F (.own sz (es.set i (cs.set j c'))) u):=by
 cases h with
 | nil=>simp at hi
 | row hn hF hG hd hs hcap hb hsz hcl hr =>
  rename_i b off cap n cur t us G;have hjl:j<cs.length:=(bD hj).1;have hk:=zhz hs hi hj;refine ⟨b,off,n,cap,us (i*sz+j),G (i*sz+j),rfl,hF,by rw [cell_of_row _ _ _ _ _ _ hb]; exact hcl _ _ hk,hr _ _ hk,fun x hx=>hG _ x hx,fun c' hw hc' => ?_⟩;have eo:cs.set j c'=over cs j [c']:=by
   apply List.ext_getElem?;intro k;rw [zvd,zdh (by simp; omega),List.getElem?_set]
   by_cases e1:j=k
   ·subst e1; simp [hjl]
   ·rw [if_neg e1]
    by_cases e2:k<j
    ·rw [if_pos e2]
    ·rw [if_neg e2,if_neg (by simp; omega)]
  have hjj:j+[c'].length<=cs.length:=by simp; omega
  have hlt:i<es.length:=(bD hi).1;have hcs:cs.length=sz:=hs cs (bF hi);have hfl:=zcz hs;have hmul:(i+1)*sz<=es.length*sz:=Nat.mul_le_mul_right _ hlt;rw [Nat.add_mul] at hmul;have hbk:w'.heap[b]?=some (.cells cur t (0,0)):=by rw [hw b (fun e=>(hG _ b e).2 rfl)]; exact hb
  rw [eo];have get : ∀ (k:Nat) (d:PV),(es.set i (over cs j [c'])).flatten[k]?=some d->(k=i*sz+j/\d=c')\/(k≠i*sz+j/\es.flatten[k]?=some d):=by
   intro k d hk;rw [zpj hs hi hjj,zdh (by rw [hfl]; omega)] at hk
   by_cases e1:k<i*sz+j
   ·rw [if_pos e1] at hk; exact .inr ⟨by omega,hk⟩
   ·rw [if_neg e1] at hk
    by_cases e2:k<i*sz+j+[c'].length
    ·rw [if_pos e2] at hk;have e3:k=i*sz+j:=by simp at e2; omega
     subst e3;simp at hk;exact .inl ⟨rfl,hk.symm⟩
    ·rw [if_neg e2] at hk; simp at e2; exact .inr ⟨by omega,hk⟩
  refine .row (us:=us) (G:=G) (by rw [List.length_set]; exact hn) hF hG hd (zp8 hs hi hjj) hcap hbk hsz (fun k d hk' => ?_) (fun k d hk' => ?_)
  ·rcases get k d hk' with ⟨rfl,_⟩ | ⟨_,h'⟩
   ·exact hcl _ _ hk
   ·exact hcl _ _ h'
  ·rcases get k d hk' with ⟨rfl,rfl⟩ | ⟨hne,h'⟩
   ·exact hc'
   ·exact (hr _ _ h').congr fun x hx=>hw x fun hg=>hne (hd _ _ x hx hg)
theorem SR.upd1 {C:Ctx} {a:Act} {w w':World} {g:Gh} {st:St} (h:SR C a w g st) {X:Nat->Prop} (hX:zaz C w g st X) {o b ep':Nat} {ob ob':Ob} (hS:st.S o=some ob) (hlv:live (some ob)=true) (hlv':live (some ob')=true) (hF:g.F o b)
  (hw : ∀ x,x≠b->w'.heap[x]?=w.heap[x]?) (size:w'.heap.size=w.heap.size) (os:w'.os=w.os) (tape:w'.tape=w.tape) (output:w'.output=w.output) (hep:(ep'=st.ep/\za5 (g.hv o)=some b)\/ep'=st.ep+1)
  (hrow : ∀ p e,e<=st.ep->∀ sz es',zax ep' (some ob') p e=some (sz,es')->∃ es,zax st.ep (some ob) p e=some (sz,es)/\es.length=es'.length/\za0 w' (upd st.S o (some ob')) g.hv o p=za0 w st.S g.hv o p) (hbox : ∀ cs',ob' = .box cs'->∃ cs,ob = .box cs)
  (hob:zaq w g st w' { g with F:=upd g.F o fun x=>g.F o x\/X x } { st with S:=upd st.S o (some ob'),ep:=ep' }->zm5 w' { g with F:=upd g.F o fun x=>g.F o x\/X x } { st with S:=upd st.S o (some ob'),ep:=ep' } (fun x=>g.F o x\/X x) (g.hv o) ob') :
  SR C a w' { g with F:=upd g.F o fun x=>g.F o x\/X x } { st with S:=upd st.S o (some ob'),ep:=ep' }/\zaq w g st w' { g with F:=upd g.F o fun x=>g.F o x\/X x } { st with S:=upd st.S o (some ob'),ep:=ep' }:=by
 have r:=h.rel;have hlo:live (st.S o)=true:=by rw [hS]; exact hlv
 have hzb : ∀ x,g.Z x->x≠b:=fun x hx e=>r.nz o b hlo hF (e ▸ hx);have hne : ∀ o2,o2≠o->live (st.S o2)=true->∀ x,g.F o2 x->x≠b:=fun o2 ho hl x hx e=>ho (r.sep o2 o b hl hlo (e ▸ hx) hF);have hepl:st.ep<=ep':=by rcases hep with ⟨e,_⟩ | e <;> omega
 have go:zaq w g st w' { g with F:=upd g.F o fun x=>g.F o x\/X x } { st with S:=upd st.S o (some ob'),ep:=ep' }:=by
  refine ⟨Nat.le_refl _,hepl,fun o2 ho2 p e he sz es' hr => ?_,fun o2 ho2 cs' hb => ?_,fun _ h=>h,fun x hx=>hw x (hzb x hx)⟩
  ·by_cases e1:o2=o
   ·subst e1;simp only [zas,if_true] at hr;rw [hS];exact hrow p e he sz es' hr
   ·simp only [zas,if_neg e1] at hr;have hr':zax st.ep (st.S o2) p e=some (sz,es'):=by
     rcases hep with ⟨e2,_⟩ | e2
     ·rw [<- e2]; exact hr
     ·cases hS2:st.S o2 with
      | none=>rw [hS2] at hr; simp [zax] at hr
      | some ob2 =>
       rw [hS2] at hr;cases ob2 with
       | box=>simp [zax] at hr
       | row s es2 =>
        cases p with
        | none=>simpa using hr
        | some q=>obtain ⟨i,j⟩:=q; simp only [zfo] at hr; rw [if_neg (by omega)] at hr; cases hr
       | rowF s es2 =>
        cases p with
        | none=>simpa using hr
        | some q=>simp [zax] at hr
       | shadow s es2 e3 =>
        cases p with
        | none =>
         have:=(r.shd o2 _ _ _ hS2).1;simp only [zyq] at hr;rw [if_neg (by omega)] at hr; cases hr
        | some q=>simp [zax] at hr
    refine ⟨es',hr',rfl,?_⟩;cases p with
    | none=>rfl
    | some q =>
     simp only [za0,zas,if_neg e1];split
     ·rename_i sz2 es2 a2 n2 cap2 hs2 hv2;have hob2:zal w (g.F o2) (.own sz2 es2) (g.hv o2):=r.ob o2 _ hs2;rw [hv2] at hob2;have hnb:a2.block≠b:=by
       cases es2 with
       | nil =>
        rw [hs2] at hr';simp [zax,zbe] at hr'
       | cons e es2 =>
        obtain ⟨_,_,_,b2,off,cur,t,ha,hF2,_⟩:=hob2.at (i:=0) (cs:=e) (by simp);cases ha;exact hne o2 e1 (by rw [hs2]; rfl) b2 hF2
      exact World.cell?_of_block (w:=w) (hw _ hnb)
     ·rfl
  ·by_cases e1:o2=o
   ·subst e1;simp only [zas,if_true,bC] at hb;obtain ⟨cs,hcs⟩:=hbox cs' hb;exact ⟨⟨cs,by rw [hS,hcs]⟩,rfl⟩
   ·simp only [zas,if_neg e1] at hb;exact ⟨⟨cs',hb⟩,rfl⟩
 have liv : ∀ o2,live (upd st.S o (some ob') o2)=true->live (st.S o2)=true:=by
  intro o2 hl;simp only [zas] at hl
  by_cases e:o2=o
  ·subst e; exact hlo
  ·rw [if_neg e] at hl; exact hl
 have fx : ∀ o2 x,(upd g.F o fun x=>g.F o x\/X x) o2 x->g.F o2 x\/(o2=o/\X x):=by
  intro o2 x hf;simp only [zas] at hf
  by_cases e:o2=o
  ·subst e; rw [if_pos rfl] at hf; rcases hf with hf | hf; exact .inl hf; exact .inr ⟨rfl,hf⟩
  ·rw [if_neg e] at hf; exact .inl hf
 have hrel:Rel w' { g with F:=upd g.F o fun x=>g.F o x\/X x } { st with S:=upd st.S o (some ob'),ep:=ep' }:=by
  refine ⟨fun o2 bb hb => ?_,fun o1 o2 x h1 h2 f1 f2 => ?_,fun o2 x hl hf => ?_,fun o2 x hl hf => ?_,fun x hx=>by rw [size]; exact r.zlt x hx,fun o2 ho2 => ?_,fun o2 sz es e hs => ?_⟩
  ·simp only [zas] at hb
   by_cases e1:o2=o
   ·subst e1;rw [if_pos rfl] at hb;cases hb;simpa using hob go
   ·rw [if_neg e1] at hb;have old:=r.ob o2 bb hb;have hl2:live (st.S o2)=true->∀ x,g.F o2 x->x≠b:=hne o2 e1;simp only [zas,if_neg e1];cases bb with
    | row sz es=>exact zal.congr old (fun x hx=>hw x (hl2 (by rw [hb]; rfl) x hx))
    | rowF sz es =>
     have old':zcj w g.Z (g.F o2) sz es (g.hv o2):=old;refine ⟨?_⟩;rcases old'.ok with h1 | ⟨b2,off,cap,cur,t,us,h1,h2,h3,h4,h5,h6,h7⟩
     ·exact .inl h1
     ·exact .inr ⟨b2,off,cap,cur,t,us,h1,h2,h3,h4,by rw [hw b2 (hl2 (by rw [hb]; rfl) b2 h2)]; exact h5,h6,fun k d hd=>⟨(h7 k d hd).1,zam.congr (fun x hx=>hw x (hzb x hx)) (h7 k d hd).2.1,(h7 k d hd).2.2⟩⟩
    | box cs =>
     obtain ⟨b2,cur,t,h1,h2,h3,h4,h5⟩:=old;exact ⟨b2,cur,t,h1,h2,by rw [hw b2 (hl2 (by rw [hb]; rfl) b2 h2)]; exact h3,h4.goes go,h5⟩
    | shadow=>trivial
  ·rcases fx o1 x f1 with g1 | ⟨e1,g1⟩ <;> rcases fx o2 x f2 with g2 | ⟨e2,g2⟩
   ·exact r.sep o1 o2 x (liv o1 h1) (liv o2 h2) g1 g2
   ·exact (hX.sep o1 x (liv o1 h1) g1 g2).elim
   ·exact (hX.sep o2 x (liv o2 h2) g2 g1).elim
   ·rw [e1,e2]
  ·rcases fx o2 x hf with g1 | ⟨e1,g1⟩
   ·exact r.nz o2 x (liv o2 hl) g1
   ·exact hX.nz x g1
  ·rw [size];rcases fx o2 x hf with g1 | ⟨e1,g1⟩
   ·exact r.lt o2 x (liv o2 hl) g1
   ·exact hX.lt x g1
  ·simp only [zas]
   by_cases e1:o2=o
   ·subst e1; have:=r.nxt o2 ho2; rw [hS] at this; cases this
   ·rw [if_neg e1]; exact r.nxt o2 ho2
  ·simp only [zas] at hs
   by_cases e1:o2=o
   ·rw [if_pos e1] at hs;cases hs;cases hlv'
   ·rw [if_neg e1] at hs;obtain ⟨he,hy⟩:=r.shd o2 sz es e hs;refine ⟨bJ he hepl,fun ee => ?_⟩;rcases hep with ⟨e2,e3⟩ | e2
    ·obtain ⟨Y,y1,y2,y3,y4⟩:=hy (by rw [ee]; exact e2);refine ⟨Y,zam.congr (fun x hx=>hw x (fun e=>y3 o b hlo e3 (e ▸ hx))) y1,fun x hx=>by rw [size]; exact y2 x hx,fun o3 x hl3 hb3=>y3 o3 x (liv o3 hl3) hb3,y4⟩
    ·exfalso; simp only at ee; omega
 refine ⟨h.step go hrel rfl rfl os tape output (by omega) (fun k hk hio=>hw k ?_) (fun o2 x hl hf => ?_) (fun x hx => .inl hx) (fun _ _=>rfl),go⟩
 ·intro e;subst e;rcases h.own o k hlo hF with h' | h'
  ·omega
  ·exact hio h'
 ·rcases fx o2 x hf with g1 | ⟨e1,g1⟩
  ·exact h.own o2 x (liv o2 hl) g1
  ·exact hX.own x g1
end Go.Pe
namespace Go.Pe
open Go
variable {w:World}
theorem qdd {P:Program} {w:World} {t:TypeId} {b off:Nat} {u:Value} {cur:Array Value} {tt:TypeId} (hs:zds P t=some u.cells.size) (hb:w.heap[b]?=some (.cells cur tt (0,0))) (hl:off+u.cells.size<=cur.size) (h1 : ∀ v∈u.cells.toList,v.oneCell'=true) :
  (Instr.storeAt t (.pointer (some ⟨b,off,none⟩)) u).run P w = .ok () (w.setRow b (zbf cur.toList off u.cells.toList).toArray):=by
 have:=run_storeCells_at (P:=P) b off tt u.cells.toList 0 cur w hb (by simpa using hl) h1;simp only [Nat.add_zero] at this;simp [Instr.storeAt,Instr.sureAddr,storeVar,zm0 hs,this,zbf]
theorem qc2 {α:Type} {cs xs:List α} {j:Nat} {x:α} (h:x∈zbf cs j xs):x∈cs\/x∈xs:=by
 simp only [zbf,List.mem_append] at h;rcases h with (h | h) | h
 ·exact .inl (List.mem_of_mem_take h)
 ·exact .inr h
 ·exact .inl (List.mem_of_mem_drop h)
theorem qes {g:Gh} {st:St} {xs:List PV} {us:List Value} (h:zb1 w g st xs us) (hp:xs.all ze1=true):zbi w (fun _=>False) xs us (fun _ _=>False):=by
 refine ⟨h.1,fun k c hc => ?_,fun _ _ h=>h,fun _ _ _ h=>h.elim⟩;obtain ⟨u,hu,hr⟩:=h.2 k c hc;have hpc:ze1 c=true:=List.all_eq_true.mp hp c (bF hc);refine ⟨u,hu,?_⟩;cases c with
 | v x =>
  have:u=x:=hr;subst this;exact .v hpc
 | _=>cases hpc
theorem qeo {xs:List PV} (hp:xs.all ze1=true):xs.all zc2=true:=by
 rw [List.all_eq_true] at hp ⊢;intro x hx;have:=hp x hx;cases x <;> first | exact this | cases this
theorem qfq {es:List (List PV)} {i j:Nat} {cs:List PV} {r:Nat×List (List PV)} (h1:es[i]?=some cs) (h2:cs[j]?=some (.own r.1 r.2)):zbe es i j=some r:=by
 simp [zbe,h1,h2]
theorem zal.part {F:Nat->Prop} {sz:Nat} {es:List (List PV)} {hd u:Value} (h:zal w F (.own sz es) hd) {lo len:Nat} (hs:zdw hd sz lo len u) (hl:lo+len<=es.length):zal w F (.own sz (cut es lo len)) u:=by
 obtain ⟨a,n,cap,a',rfl,e2,e3,rfl,e5⟩:=hs;rw [ydk]
 by_cases e0:cap-lo=0
 ·have e1:len=0:=by omega
  rw [e0,e1,List.take_zero]; exact .nil
 ·rcases e5 with e5 | ⟨b,off,rfl,rfl⟩
  ·exact (e0 e5).elim
  ·cases h with
   | nil=>simp at e0
   | row hn hF hG hd hss hcap hb hsz hc hr =>
    rename_i cur t us G;have get : ∀ (k:Nat) (d:PV),((es.drop lo).take len).flatten[k]?=some d->es.flatten[lo*sz+k]?=some d:=by
     intro k d hk;have:=z74 (fun e he=>hss e (List.mem_of_mem_drop he)) len k hk
     rwa [zvt hss lo k (by omega)] at this
    have hm:lo*sz+(cap-lo)*sz=cap*sz:=by rw [<- Nat.add_mul]; congr 1; omega
    refine .row (us:=fun k=>us (lo*sz+k)) (G:=fun k=>G (lo*sz+k)) (by simp; omega) hF (fun k x hx=>hG _ x hx) (fun k k' x h1 h2=>by have:=hd _ _ x h1 h2; omega) (fun e he=>hss e (List.mem_of_mem_drop (List.mem_of_mem_take he))) (by omega) hb (by omega) (fun k d hk => ?_) (fun k d hk=>hr _ d (get k d hk));rw [show off+lo*sz+k=off+(lo*sz+k) by omega]; exact hc _ d (get k d hk)
theorem zal.sub_put {w w':World} {F:Nat->Prop} {sz:Nat} {es:List (List PV)} {b off n cap:Nat} (h:zal w F (.own sz es) (.slice (some ⟨b,off,none⟩) n cap)) {i j s2:Nat} {cs:List PV} {es2:List (List PV)} (hi:es[i]?=some cs) (hj:cs[j]?=some (.own s2 es2)) {cur:Array Value} {tt:TypeId} (hbk:w.heap[b]?=some (.cells cur tt (0,0))) {u:Value} {c':PV}
  (hle:off+(i*sz+j)+1<=cur.size) (hw : ∀ x,x≠b->w'.heap[x]?=w.heap[x]?) (hbk':w'.heap[b]?=some (.cells (zbf cur.toList (off+(i*sz+j)) [u]).toArray tt (0,0)))
  (hc' : ∀ (G:Nat->Prop) (v:Value),w.cell? ⟨b,off+(i*sz+j),none⟩=some v->(∀ x,G x->x≠b)->zal w G (.own s2 es2) v->zal w G c' u):zal w' F (.own sz (es.set i (cs.set j c'))) (.slice (some ⟨b,off,none⟩) n cap):=by
 cases h with
 | nil=>simp at hi
 | row hn hF hG hd hs hcap hb hsz hcl hr =>
  rename_i cur2 t us G;rw [hbk] at hb;cases hb;have hjl:j<cs.length:=(bD hj).1;have hk:=zhz hs hi hj;have hnew:=hc' (G (i*sz+j)) (us (i*sz+j)) (by rw [cell_of_row _ _ _ _ _ _ hbk]; exact hcl _ _ hk) (fun x hx=>(hG _ x hx).2) (hr _ _ hk);have eo:cs.set j c'=over cs j [c']:=by
   apply List.ext_getElem?;intro k;rw [zvd,zdh (by simp; omega),List.getElem?_set]
   by_cases e1:j=k
   ·subst e1; simp [hjl]
   ·rw [if_neg e1]
    by_cases e2:k<j
    ·rw [if_pos e2]
    ·rw [if_neg e2,if_neg (by simp; omega)]
  have hjj:j+[c'].length<=cs.length:=by simp; omega
  have hlt:i<es.length:=(bD hi).1;have hcs:cs.length=sz:=hs cs (bF hi);have hfl:=zcz hs;have hmul:(i+1)*sz<=es.length*sz:=Nat.mul_le_mul_right _ hlt;rw [Nat.add_mul] at hmul;rw [eo];have get : ∀ (k:Nat) (d:PV),(es.set i (over cs j [c'])).flatten[k]?=some d->(k=i*sz+j/\d=c')\/(k≠i*sz+j/\es.flatten[k]?=some d):=by
   intro k d hk;rw [zpj hs hi hjj,zdh (by rw [hfl]; omega)] at hk
   by_cases e1:k<i*sz+j
   ·rw [if_pos e1] at hk; exact .inr ⟨by omega,hk⟩
   ·rw [if_neg e1] at hk
    by_cases e2:k<i*sz+j+[c'].length
    ·rw [if_pos e2] at hk;have e3:k=i*sz+j:=by simp at e2; omega
     subst e3;simp at hk;exact .inl ⟨rfl,hk.symm⟩
    ·rw [if_neg e2] at hk; simp at e2; exact .inr ⟨by omega,hk⟩
  have hcl' : ∀ m,(zbf cur.toList (off+(i*sz+j)) [u]).toArray[m]?=if m=off+(i*sz+j) then some u else cur[m]?:=by
   intro m;rw [List.getElem?_toArray,zdh (by rw [Array.length_toList]; simpa using hle)]
   by_cases e1:m<off+(i*sz+j)
   ·rw [if_pos e1,if_neg (by omega)]; simp
   ·rw [if_neg e1]
    by_cases e2:m=off+(i*sz+j)
    ·subst e2; rw [if_pos (by simp)]; simp
    ·rw [if_neg (by simp; omega),if_neg e2]; simp
  have hszn:off+cap*sz<=(zbf cur.toList (off+(i*sz+j)) [u]).toArray.size:=by
   rw [List.size_toArray,zj7 (by rw [Array.length_toList]; simpa using hle),Array.length_toList];exact hsz
  refine .row (us:=fun k=>if k=i*sz+j then u else us k) (G:=G) (by rw [List.length_set]; exact hn) hF hG hd (zp8 hs hi hjj) hcap hbk' hszn (fun k d hk' => ?_) (fun k d hk' => ?_)
  ·rw [hcl'];rcases get k d hk' with ⟨rfl,_⟩ | ⟨hne,h'⟩
   ·rw [if_pos rfl,if_pos rfl]
   ·rw [if_neg (by omega),if_neg hne]; exact hcl _ _ h'
  ·rcases get k d hk' with ⟨rfl,rfl⟩ | ⟨hne,h'⟩
   ·simp only [if_true];exact hnew.congr fun x hx=>hw x (hG _ x hx).2
   ·simp only [if_neg hne];exact (hr _ _ h').congr fun x hx=>hw x (hG _ x hx).2
theorem qh0 {C:Ctx} {a:Act} {g:Gh} {st:St} (h:SR C a w g st) {o:Oper} {t:TypeId} {x y:Operand} (ho:o.op = .store t x y) {szs:List Nat} (hsz:zds C.P t=some szs.length) {x' y':Opd} (hx:zan C.vars x=some x') (hy:zan C.vars y=some y') {st':St} (hst:storeAt st szs (x'.get st) (y'.get st)=some st'):zat C o a w .undef st':=by
 have hp:=h.opd hx;have hv:=h.opd hy;generalize hA:x'.get st=A at hp hst;generalize hX:y'.get st=X at hv hst;generalize hua:a.eval x=ua at hp;generalize huv:a.eval y=u at hv;have fin : ∀ {b off:Nat} {cur:Array Value} {tt:TypeId} {g':Gh},ua = .pointer (some ⟨b,off,none⟩)->u.cells.size=szs.length->w.heap[b]?=some (.cells cur tt (0,0))->off+u.cells.size<=cur.size->(∀ v∈u.cells.toList,v.oneCell'=true)->SR C a (w.setRow b (zbf cur.toList off u.cells.toList).toArray) g' st'->zat C o a w .undef st':=by
  intro b off cur tt g' hu hl hb hle h1 hsr;refine zat.skip ?_ hsr;simp only [execOp,ho,hua,huv,hu,Sem.run_bind,qdd (P:=C.P) (by rw [hsz,hl]) hb hle h1,Result.andThen_ok,Sem.run_pure]
 simp only [storeAt] at hst;cases A with
 | ptr o' p ep i j =>
  simp only [zvk] at hst;split at hst
  ·rename_i hlen;have hp0:=hp;obtain ⟨q1,q2,q3,q4⟩:=(hp:zu0 w g.hv st o' p ep i j ua);cases hS:st.S o' with
   | none=>rw [hS] at hst; simp [zfs] at hst
   | some ob =>
    rw [hS] at hst;have hob:=h.rel.ob o' ob hS;cases ob with
    | box cs =>
     cases p with
     | some q=>simp [zfs] at hst
     | none =>
      simp only [zfs] at hst;split at hst
      ·rename_i c;obtain ⟨c1,c2,c3⟩:=c;cases hst;obtain ⟨b,hb,hu⟩:=q3 cs hS rfl c1;obtain ⟨b',cur,tt,h1,hF,hbk,hrc,hone⟩:=hob;rw [hb] at h1; cases h1;obtain ⟨hc,hc1⟩:=zjg hv c3;have e1:=hrc.1;have e2:=hc.1;rw [Array.length_toList] at e1 e2;have hF':=hF;refine fin hu (by omega) hbk (by omega) hc1 (SR.upd1 (ep':=st.ep) h (zaz.none C w g st) hS rfl rfl hF (fun x hx=>setRow_other w b x _ hx) (by simp) rfl rfl rfl (.inl ⟨rfl,by rw [hb]; rfl⟩) (fun p e he sz es' hr=>by simp [zax] at hr) (fun cs' _=>⟨cs,rfl⟩) (fun go => ?_)).1;refine ⟨b,_,tt,hb,.inl hF,setRow_heap w b cur _ tt _ hbk,by simpa using (hrc.goes go).over (hc.goes go) c2,fun v hv => ?_⟩;rcases qc2 (by simpa using hv) with hv | hv
       ·exact hone v hv
       ·exact hc1 v hv
      ·cases hst
    | row sz0 es0 =>
     cases p with
     | none =>
      simp only [zfs] at hst;cases hsub:zju (cellsOf X) with
      | some d =>
       rw [hsub] at hst;simp only [zym] at hst;split at hst
       case isFalse=>cases hst
       rename_i hd;obtain ⟨r,hr,hst⟩:=bA hst;split at hst
       case isFalse=>cases hst
       rename_i hll;cases hst;obtain ⟨o2,q2,ep2,lo,len⟩:=d;obtain ⟨hd1,hd2,hd3⟩:=hd;simp only at hd1 hd2 hd3 hll;subst hd1 hd2 hd3;have hX:cellsOf X=[.ref o2 (some (i,j)) st.ep lo len]:=by
        unfold zju at hsub;split at hsub
        ·rename_i e1;cases hsub;exact e1
        ·cases hsub
       obtain ⟨hc,hc1⟩:=zjg hv (by rw [hX]; rfl);rw [hX] at hc;have hul:u.cells.toList.length=1:=hc.1;obtain ⟨u',hu',hru⟩:=hc.2 0 _ rfl;have hul2:u.cells.toList=[u']:=by
        match hq:u.cells.toList with
        | []=>rw [hq] at hul; cases hul
        | [v]=>rw [hq] at hu'; simp at hu'; rw [hu']
        | _::_::_=>rw [hq] at hul; simp at hul
       obtain ⟨_,_,_,hru⟩:=(hru:zyt w g.hv st o2 (some (i,j)) st.ep lo len u');obtain ⟨cs,hi,hj⟩:=zjd hr;obtain ⟨hd',hh',hsv,_⟩:=hru r.1 r.2 (by rw [hS]; simp only [zfo,if_true]; exact hr);obtain ⟨b,off,n,cap,hh,hu⟩:=q4 sz0 es0 (by rw [hS]; rfl);simp only [za0,bC] at hh;have hob1:zal w (g.F o2) (.own sz0 es0) (g.hv o2):=hob;rw [hh] at hob1;have hob2:=hob1;obtain ⟨hn,hcap,hcs,b',off',cur,tt,ha,hF,hbk,hsize,_⟩:=hob2.at hi;cases ha;have hlt:i<es0.length:=(bD hi).1;have hjl:j<cs.length:=(bD hj).1;have hm1:(i+1)*sz0<=cap*sz0:=Nat.mul_le_mul_right _ (by omega);rw [Nat.add_mul] at hm1;have hle:off+(i*sz0+j)+1<=cur.size:=by omega
       have husz:u.cells.size=1:=by rw [<- Array.length_toList]; exact hul
       have hcell:w.cell? ⟨b,off+(i*sz0+j),none⟩=some hd':=by
        have:=hh';simp only [za0,hS,hh] at this;exact this
       have hbk':=setRow_heap w b cur (zbf cur.toList (off+(i*sz0+j)) u.cells.toList).toArray tt _ hbk;have hset:zb4 es0 i j (.own r.1 (cut r.2 lo len))=es0.set i (cs.set j (.own r.1 (cut r.2 lo len))):=by simp [zb4,hi]
       have hls:live (st.S o2)=true:=by rw [hS]; rfl
       refine fin hu (by rw [husz]; simpa [hX] using hlen) hbk (by omega) hc1 (SR.upd1 h (zaz.none C w g st) (ob' := .row sz0 (zb4 es0 i j (.own r.1 (cut r.2 lo len)))) hS rfl rfl hF (fun x hx=>setRow_other w b x _ hx) (by simp) rfl rfl rfl (.inr rfl) (fun p e he sz' es' hr2 => ?_) (fun cs' e=>by cases e) (fun go => ?_)).1
       ·cases p with
        | none =>
         simp only [zjt,bC,Prod.mk.injEq] at hr2;obtain ⟨rfl,rfl⟩:=hr2;exact ⟨es0,rfl,by rw [hset]; simp,rfl⟩
        | some q =>
         obtain ⟨i2,j2⟩:=q;simp only [zfo] at hr2;rw [if_neg (by omega)] at hr2; cases hr2
       ·show zal _ _ _ _;rw [hh,hset];rw [hul2] at hbk' ⊢;refine zal.mono (fun x hx => .inl hx) (hob1.sub_put hi hj hbk hle (fun x hx=>setRow_other w b x _ hx) hbk' fun G v hv1 _ hv2 => ?_);rw [hcell] at hv1;cases hv1;exact hv2.part hsv hll
      | none =>
      rw [hsub] at hst;simp only at hst;obtain ⟨⟨ys,st1⟩,ht,hst⟩:=bA hst;obtain ⟨hc,hc1⟩:=zjg hv (zyh ht);obtain ⟨Y,G,s1,l1,c1,d1,go1,e1⟩:=z79 h (zaz.none C w g st) hc ht;obtain ⟨_,_,_,q4'⟩:=(zbc.goes go1 (show zbc w g st (.ptr o' none ep i j) ua from hp0):zu0 w g.hv st1 o' none ep i j ua);simp only at hst;cases hS1:st1.S o' with
      | none=>rw [hS1] at hst; simp [zi7] at hst
      | some ob1 =>
       rw [hS1] at hst;cases ob1 with
       | row sz es =>
        simp only [zi7] at hst;obtain ⟨cs,hi,hst⟩:=bA hst;split at hst
        ·rename_i hj;cases hst;obtain ⟨b,off,n,cap,hh,hu⟩:=q4' sz es (by rw [hS1]; rfl);simp only [za0,bC] at hh;have hob1:zal w (g.F o') (.own sz es) (g.hv o'):=s1.rel.ob o' _ hS1;have hob2:=hob1;rw [hh] at hob2;obtain ⟨hn,hcap,hcs,b',off',cur,tt,ha,hF,hbk,hsize,_⟩:=hob2.at hi;cases ha;have c1':zbi w (fun x=>False\/Y x) ys u.cells.toList G:=c1.mono fun x hx => .inr hx;have hyl:=c1.len;rw [Array.length_toList] at hyl;have hlt:i<es.length:=(bD hi).1;have hm1:(i+1)*sz<=cap*sz:=Nat.mul_le_mul_right _ (by omega);rw [Nat.add_mul] at hm1;have hle:off+(i*sz+j)+u.cells.size<=cur.size:=by omega
         have hs : ∀ e∈es,e.length=sz:=by
          cases hob2 with
          | nil=>simp at hi
          | row _ _ _ _ hs=>exact hs
         have hbk':=setRow_heap w b cur (zbf cur.toList (off+(i*sz+j)) u.cells.toList).toArray tt _ hbk;have hwr:=hob2.write hi hj c1' (fun x hx=>l1.sep o' x (by rw [hS1]; rfl) hx) hbk hbk' (fun x hx=>setRow_other w b x _ hx);have hFo:live (st1.S o')=true:=by rw [hS1]; rfl
         refine fin hu (by omega) hbk hle hc1 (SR.upd1 s1 l1 hS1 rfl rfl hF (fun x hx=>setRow_other w b x _ hx) (by simp) rfl rfl rfl ?_ (fun p e he sz' es' hr => ?_) (fun cs' e=>by cases e) (fun go=>by rw [hh]; exact hwr)).1
         ·split
          ·refine .inl ⟨rfl,?_⟩;rw [hh];simp only [za5];rw [if_neg (by omega)]
          ·exact .inr rfl
         ·cases p with
          | none =>
           simp only [zjt,bC,Prod.mk.injEq] at hr;obtain ⟨rfl,rfl⟩:=hr;exact ⟨es,rfl,by simp,rfl⟩
          | some q =>
           obtain ⟨i2,j2⟩:=q;simp only [zfo] at hr ⊢;split at hr
           ·rename_i hflag;split at hr
            ·rename_i hee;simp only [Bool.and_eq_true] at hflag;obtain ⟨cs2,hcs2,hc2⟩:=zjd hr;have hcs2l:=zp8 hs hi hj cs2 (bF hcs2);have hj2:j2<cs2.length:=(bD hc2).1;have hi2:i2<es.length:=by have:=(bD hcs2).1; simpa using this
             have hfl:=zcz hs;have hm2:(i+1)*sz<=es.length*sz:=Nat.mul_le_mul_right _ hlt;rw [Nat.add_mul] at hm2;have hf:=zhz (zp8 hs hi hj) hcs2 hc2;rw [zpj hs hi hj,zdh (by omega)] at hf;have hout:i2*sz+j2<i*sz+j\/i*sz+j+ys.length<=i2*sz+j2:=by
              by_cases e1:i2*sz+j2<i*sz+j
              ·exact .inl e1
              ·rw [if_neg e1] at hf
               by_cases e2:i2*sz+j2<i*sz+j+ys.length
               ·rw [if_pos e2] at hf;have:=List.all_eq_true.mp hflag.1 _ (bF hf);cases this
               ·exact .inr (by omega)
             have hf':es.flatten[i2*sz+j2]?=some (.own sz' es'):=by
              rcases hout with e1 | e1
              ·rw [if_pos e1] at hf; exact hf
              ·rw [if_neg (by omega),if_neg (by omega)] at hf; exact hf
             have h3:es[i2]?=some es[i2]:=bG hi2;have h4:(es[i2]).length=sz:=hs _ (List.getElem_mem hi2);have h5:(es[i2])[j2]?=some (es[i2])[j2]:=bG (by omega);have h6:=zhz hs h3 h5;rw [hf'] at h6;refine ⟨es',?_,rfl,?_⟩
             ·rw [if_pos hee];exact qfq (r:=(sz',es')) h3 (by rw [h5,<- h6])
             ·have hS1':=hS1;simp only [za0,zas,if_true,hh,hS1];rw [cell_of_row _ _ _ _ _ _ hbk',cell_of_row _ _ _ _ _ _ hbk,List.getElem?_toArray,zdh (by simpa using hle)];rw [Array.length_toList];rcases hout with e1 | e1
              ·rw [if_pos (by omega)]; simp
              ·rw [if_neg (by omega),if_neg (by omega)]; simp
            ·cases hr
           ·rw [if_neg (by omega)] at hr; cases hr
        ·cases hst
       | box cs=>simp [zi7] at hst
       | rowF s es=>simp [zi7] at hst
       | shadow s es e=>simp [zi7] at hst
     | some q =>
      obtain ⟨qa,qb⟩:=q;simp only [zfs] at hst;split at hst
      ·rename_i c;obtain ⟨c1,c2⟩:=c;obtain ⟨⟨s2,es2⟩,hq,hst⟩:=bA hst;obtain ⟨cs2,hi,hst⟩:=bA hst;simp only at hi hst;split at hst
       ·rename_i hj;cases hst;obtain ⟨b2,off2,n2,cap2,hh,hu⟩:=q4 s2 es2 (by rw [hS]; simp only [zfo,c1,if_true]; exact hq);obtain ⟨cs1,hcs1,hc1⟩:=zjd hq;simp only at hc1;have hob':zal w (g.F o') (.own sz0 es0) (g.hv o'):=hob;obtain ⟨b1,off1,n1,cap1,v,G,eu,hF1,hcell,hrv,hG,K⟩:=hob'.sub_set (w':=w.setRow b2 #[]) (es2':=es2) hcs1 hc1;simp only [za0,hS,eu] at hh;rw [hcell] at hh;simp only [bC] at hh;subst hh;obtain ⟨hn,hcap,hcs,b',off',cur,tt,ha,hF,hbk,hsize,_⟩:=hrv.at hi;cases ha;obtain ⟨hc,hcc1⟩:=zjg hv (qeo c2);have hpc:=qes hc c2;have hxl:=hc.1;rw [Array.length_toList] at hxl;have hlt:i<es2.length:=(bD hi).1;have hm1:(i+1)*s2<=cap2*s2:=Nat.mul_le_mul_right _ (by omega);rw [Nat.add_mul] at hm1;have hle:off2+(i*s2+j)+u.cells.size<=cur.size:=by omega
        have hbk':=setRow_heap w b2 cur (zbf cur.toList (off2+(i*s2+j)) u.cells.toList).toArray tt _ hbk;have hwr:=hrv.write hi hj hpc (fun x _ h=>h) hbk hbk' (fun x hx=>setRow_other w b2 x _ hx);have hwr':=hwr.mono (F':=G) (fun x hx=>by rcases hx with hx | hx; exact hx; exact hx.elim);obtain ⟨_,_,_,_,v',G',eu',_,hcell',hrv',hG',K'⟩:=hob'.sub_set (w':=w.setRow b2 (zbf cur.toList (off2+(i*s2+j)) u.cells.toList).toArray) (es2':=es2) hcs1 hc1;rw [eu] at eu'; cases eu';rw [hcell] at hcell'; cases hcell';obtain ⟨_,_,_,b'',_,_,_,ha,hF',_⟩:=hrv'.at hi;cases ha;have hwr2:=(hrv'.write hi hj hpc (fun x _ h=>h) hbk hbk' (fun x hx=>setRow_other w b2 x _ hx)).mono (F':=G') (fun x hx=>by rcases hx with hx | hx; exact hx; exact hx.elim);have hnew:=K' _ (fun x hx=>setRow_other w b2 x _ (fun e=>hx (e ▸ hF'))) hwr2;have eset:zb4 es0 qa qb (.own s2 (es2.set i (over cs2 j (cellsOf X))))=es0.set qa (cs1.set qb (.own s2 (es2.set i (over cs2 j (cellsOf X))))):=by
         simp [zb4,hcs1]
        refine fin hu (by omega) hbk hle hcc1 (SR.upd1 (ep':=st.ep+1) h (zaz.none C w g st) hS rfl rfl (hG' b2 hF').1 (fun x hx=>setRow_other w b2 x _ hx) (by simp) rfl rfl rfl (.inr rfl) (fun p e he sz' es' hr => ?_) (fun cs' e=>by cases e) (fun go=>by rw [eset]; exact hnew.mono fun x hx => .inl hx)).1;cases p with
        | none =>
         simp only [zjt,bC,Prod.mk.injEq] at hr;obtain ⟨rfl,rfl⟩:=hr;exact ⟨es0,rfl,by rw [eset]; simp,rfl⟩
        | some q =>
         obtain ⟨i2,j2⟩:=q;simp only [zfo] at hr;rw [if_neg (by omega)] at hr; cases hr
       ·cases hst
      ·cases hst
    | rowF sz es =>
     cases p with
     | some q=>simp [zfs] at hst
     | none =>
      simp only [zfs] at hst;obtain ⟨ys,ht,hst⟩:=bA hst;obtain ⟨cs,hi,hst⟩:=bA hst;split at hst
      ·rename_i hj;cases hst;obtain ⟨hc,hc1⟩:=zjg hv (ybw ht);obtain ⟨hpw,e1,_⟩:=yby hc ht;obtain ⟨b,off,n,cap,hh,hu⟩:=q4 sz es (by rw [hS]; rfl);simp only [za0,bC] at hh;have hob':zcj w g.Z (g.F o') sz es (g.hv o'):=hob;have hlt:i<es.length:=(bD hi).1;rcases hob'.ok with ⟨h1,h2⟩ | ⟨b',off',cap',cur,tt,us,h1,hF,hs,hcap,hbk,hsize,hcl⟩
       ·subst h2; simp at hlt
       ·rw [hh] at h1; cases h1;have hyl:=hpw.1;rw [Array.length_toList] at hyl;have hcs:cs.length=sz:=hs cs (bF hi);have hm1:(i+1)*sz<=cap*sz:=Nat.mul_le_mul_right _ (by omega);rw [Nat.add_mul] at hm1;have hfl:=zcz hs;have hm2:(i+1)*sz<=es.length*sz:=Nat.mul_le_mul_right _ hlt;rw [Nat.add_mul] at hm2;have hle:off+(i*sz+j)+u.cells.size<=cur.size:=by omega
        have hbk':=setRow_heap w b cur (zbf cur.toList (off+(i*sz+j)) u.cells.toList).toArray tt _ hbk;have hlo:live (st.S o')=true:=by rw [hS]; rfl
        have hzb : ∀ x,g.Z x->x≠b:=fun x hx e=>h.rel.nz o' b hlo hF (e ▸ hx);refine fin hu (by omega) hbk hle hc1 (SR.upd1 (ep':=st.ep) h (zaz.none C w g st) hS rfl rfl hF (fun x hx=>setRow_other w b x _ hx) (by simp) rfl rfl rfl (.inl ⟨rfl,by rw [hh]; simp only [za5]; rw [if_neg (by omega)]⟩) (fun p e he sz' es' hr => ?_) (fun cs' e=>by cases e) (fun go => ?_)).1
        ·cases p with
         | none =>
          simp only [ybf,bC,Prod.mk.injEq] at hr;obtain ⟨rfl,rfl⟩:=hr;exact ⟨es,rfl,by simp,rfl⟩
         | some q=>simp [zax] at hr
        ·refine ⟨.inr ⟨b,off,cap,_,tt,fun k=>if i*sz+j<=k/\k<i*sz+j+ys.length then u.cells.toList.getD (k-(i*sz+j)) default else us k,by rw [hh]; simp,.inl hF,zp8 hs hi hj,by simpa using hcap,hbk',by rw [List.size_toArray,zj7 (by simpa using hle)]; simpa using hsize,fun k d hk => ?_⟩⟩;rw [zpj hs hi hj,zdh (by omega)] at hk;rw [List.getElem?_toArray,zdh (by simpa using hle),Array.length_toList]
         by_cases e2:i*sz+j<=k/\k<i*sz+j+ys.length
         ·simp only [if_pos e2];rw [if_neg (by omega),if_pos (by omega)] at hk;obtain ⟨v,hv,hz,h1⟩:=hpw.2 _ d hk;rw [if_neg (by omega),if_pos (by omega),show off+k-(off+(i*sz+j))=k-(i*sz+j) by omega,hv];simp only [List.getD_eq_getElem?_getD,hv,Option.getD_some];exact ⟨trivial,zam.congr (fun x hx=>setRow_other w b x _ (hzb x hx)) hz,h1⟩
         ·simp only [if_neg e2];have hk':es.flatten[k]?=some d:=by
           by_cases e3:k<i*sz+j
           ·rw [if_pos e3] at hk; exact hk
           ·rw [if_neg e3,if_neg (by omega)] at hk; exact hk
          obtain ⟨h1,h2,h3⟩:=hcl k d hk';refine ⟨?_,zam.congr (fun x hx=>setRow_other w b x _ (hzb x hx)) h2,h3⟩
          by_cases e3:off+k<off+(i*sz+j)
          ·rw [if_pos e3]; simpa using h1
          ·rw [if_neg e3,if_neg (by omega)]; simpa using h1
      ·cases hst
    | shadow s es e=>cases p <;> simp [zfs] at hst
  ·cases hst
 | _=>simp [zvk] at hst
end Go.Pe
namespace Go.Pe
open Go
variable {w:World}
theorem qhc {C:Ctx} {w w':World} {g:Gh} {st:St} (hR:Rel w g st) {X:Nat->Prop} (hX:zaz C w g st X) (hw : ∀ x,x<w.heap.size->¬ X x->w'.heap[x]?=w.heap[x]?) (ob:Ob) (F:Nat->Prop) (v:Value):zaq w g st w' (za3 g st.nx F v) (zav st ob) where
 nx:=Nat.le_succ _
 ep:=Nat.le_refl _
 row:=fun o ho p e he sz es' hr=>by
  have hne:o≠st.nx:=Nat.ne_of_lt ho;simp only [zav,zas,if_neg hne] at hr;refine ⟨es',hr,rfl,?_⟩;cases p with
  | none=>simp [za0,za3,hne]
  | some q =>
   simp only [za0,zav,za3,zas,if_neg hne];split
   ·rename_i sz2 es2 a2 n2 cap2 hs2 hv2;have hob:zal w (g.F o) (.own sz2 es2) (g.hv o):=hR.ob o _ hs2;rw [hv2] at hob;have hlt:a2.block<w.heap.size/\¬ X a2.block:=by
     cases es2 with
     | nil =>
      rw [hs2] at hr;simp [zax,zbe] at hr
     | cons e es2 =>
      obtain ⟨_,_,_,b,off,cur,t,ha,hF,_⟩:=hob.at (i:=0) (cs:=e) (by simp);cases ha;exact ⟨hR.lt o b (by rw [hs2]; rfl) hF,hX.sep o b (by rw [hs2]; rfl) hF⟩
    exact World.cell?_of_block (w:=w) (hw _ hlt.1 hlt.2)
   ·rfl
 box:=fun o ho cs' hb=>by
  have hne:o≠st.nx:=Nat.ne_of_lt ho;simp only [zav,zas,if_neg hne] at hb;exact ⟨⟨cs',hb⟩,by simp [za3,hne]⟩
 z:=fun _ h=>h
 zw:=fun x hx=>hw x (hR.zlt x hx) fun hx'=>hX.nz x hx' hx
def ShB (w:World) (g:Gh) (st:St) (bo:Option Nat):Prop := ∀ o sz es,st.S o=some (.shadow sz es st.ep)->∃ Y:Nat->Prop,zam w Y (.sl sz es) (g.hv o)/\(∀ x,Y x->g.K x)/\(∀ x,Y x->x<w.heap.size)/\(∀ o' x,live (st.S o')=true->za5 (g.hv o')=some x->¬ Y x)/\∀ x,bo=some x->¬ Y x
theorem SR.add {C:Ctx} {a:Act} {w w':World} {g:Gh} {st:St} (h:SR C a w g st) {X F0:Nat->Prop} (hX:zaz C w g st X) (hw : ∀ x,x<w.heap.size->¬ X x->w'.heap[x]?=w.heap[x]?) (hsz:w.heap.size<=w'.heap.size) (os:w'.os=w.os) (tape:w'.tape=w.tape) (output:w'.output=w.output)
  (hF0 : ∀ x,F0 x->X x\/(w.heap.size<=x/\x<w'.heap.size)) {o:Ob} {v:Value} (hl:live (some o)=true) {bo:Option Nat} (hsh:ShB w g st bo) (hb1 : ∀ x,za5 v=some x->bo=some x\/w.heap.size<=x) (hb2 : ∀ x,x<w.heap.size->bo≠some x->w'.heap[x]?=w.heap[x]?)
  (hob:zaq w g st w' (za3 g st.nx F0 v) (zav st o)->zm5 w' (za3 g st.nx F0 v) (zav st o) F0 v o) :
  SR C a w' (za3 g st.nx F0 v) (zav st o)/\zaq w g st w' (za3 g st.nx F0 v) (zav st o):=by
 have r:=h.rel;have go:=qhc r hX hw o F0 v;have liv : ∀ o',live ((zav st o).S o')=true->o'=st.nx\/(o'≠st.nx/\live (st.S o')=true):=by
  intro o' hl';simp only [zav,zas] at hl'
  by_cases e:o'=st.nx
  ·exact .inl e
  ·rw [if_neg e] at hl'; exact .inr ⟨e,hl'⟩
 have hF : ∀ o' x,o'≠st.nx->(za3 g st.nx F0 v).F o' x->g.F o' x:=by
  intro o' x hne hf; simpa [za3,hne] using hf
 have hF0' : ∀ x,(za3 g st.nx F0 v).F st.nx x->X x\/(w.heap.size<=x/\x<w'.heap.size):=by
  intro x hf; exact hF0 x (by simpa [za3] using hf)
 have notOld : ∀ o' x,live (st.S o')=true->g.F o' x->¬ (X x\/(w.heap.size<=x/\x<w'.heap.size)):=by
  intro o' x hl' hf hx;rcases hx with hx | hx
  ·exact hX.sep o' x hl' hf hx
  ·have:=r.lt o' x hl' hf; omega
 have oldw : ∀ o' x,live (st.S o')=true->g.F o' x->w'.heap[x]?=w.heap[x]?:=fun o' x hl' hf=>hw x (r.lt o' x hl' hf) (hX.sep o' x hl' hf);have zw : ∀ x,g.Z x->w'.heap[x]?=w.heap[x]?:=go.zw;have hrel:Rel w' (za3 g st.nx F0 v) (zav st o):=by
  refine ⟨fun o' b hb' => ?_,fun o1 o2 x h1 h2 f1 f2 => ?_,fun o' x hl' hf => ?_,fun o' x hl' hf => ?_,fun x hx=>by have:=r.zlt x hx; omega,fun o' ho' => ?_,fun o' sz es e hs => ?_⟩
  ·simp only [zav,zas] at hb'
   by_cases e:o'=st.nx
   ·subst e;rw [if_pos rfl] at hb';cases hb';simpa [za3] using hob go
   ·rw [if_neg e] at hb';have old:=r.ob o' b hb';simp only [za3,zas,if_neg e];cases b with
    | row sz es=>exact zal.congr old (fun x hx=>oldw o' x (by rw [hb']; rfl) hx)
    | rowF sz es =>
     have old':zcj w g.Z (g.F o') sz es (g.hv o'):=old;refine ⟨?_⟩;rcases old'.ok with h1 | ⟨b,off,cap,cur,t,us,h1,h2,h3,h4,h5,h6,h7⟩
     ·exact .inl h1
     ·exact .inr ⟨b,off,cap,cur,t,us,h1,h2,h3,h4,by rw [oldw o' b (by rw [hb']; rfl) h2]; exact h5,h6,fun k d hd=>⟨(h7 k d hd).1,zam.congr zw (h7 k d hd).2.1,(h7 k d hd).2.2⟩⟩
    | box cs =>
     obtain ⟨b,cur,t,h1,h2,h3,h4,h5⟩:=old;exact ⟨b,cur,t,h1,h2,by rw [oldw o' b (by rw [hb']; rfl) h2]; exact h3,h4.goes go,h5⟩
    | shadow=>trivial
  ·rcases liv o1 h1 with e1 | ⟨e1,l1⟩ <;> rcases liv o2 h2 with e2 | ⟨e2,l2⟩
   ·rw [e1,e2]
   ·subst e1; exact (notOld o2 x l2 (hF o2 x e2 f2) (hF0' x f1)).elim
   ·subst e2; exact (notOld o1 x l1 (hF o1 x e1 f1) (hF0' x f2)).elim
   ·exact r.sep o1 o2 x l1 l2 (hF o1 x e1 f1) (hF o2 x e2 f2)
  ·rcases liv o' hl' with e | ⟨e,l⟩
   ·subst e;rcases hF0' x hf with hx | hx
    ·exact hX.nz x hx
    ·intro hz; have:=r.zlt x hz; omega
   ·exact r.nz o' x l (hF o' x e hf)
  ·rcases liv o' hl' with e | ⟨e,l⟩
   ·subst e;rcases hF0' x hf with hx | hx
    ·have:=hX.lt x hx; omega
    ·exact hx.2
   ·have:=r.lt o' x l (hF o' x e hf); omega
  ·simp only [zav] at ho' ⊢;simp only [zas,if_neg (show ¬ o'=st.nx by omega)];exact r.nxt o' (by omega)
  ·simp only [zav,zas] at hs
   by_cases e1:o'=st.nx
   ·rw [if_pos e1] at hs;cases hs;cases hl
   ·rw [if_neg e1] at hs;refine ⟨(r.shd o' sz es e hs).1,fun he => ?_⟩;have he':e=st.ep:=he;subst he';obtain ⟨Y,y1,yk,y2,y3,y4⟩:=hsh o' sz es hs;simp only [za3,zas,if_neg e1];refine ⟨Y,zam.congr (fun x hx=>hb2 x (y2 x hx) fun e=>y4 x e hx) y1,fun x hx=>by have:=y2 x hx; omega,fun o2 x hl2 hb2 hx => ?_,yk⟩;rcases liv o2 hl2 with e2 | ⟨e2,l2⟩
    ·rw [if_pos e2] at hb2;rcases hb1 x hb2 with h' | h'
     ·exact y4 x h' hx
     ·have:=y2 x hx; omega
    ·rw [if_neg e2] at hb2;exact y3 o2 x l2 hb2 hx
 refine ⟨h.step go hrel rfl rfl os tape output hsz (fun k hk hio=>hw k (Nat.lt_of_lt_of_le hk h.size) fun hx => ?_) (fun o' x hl' hf => ?_) (fun x hx => .inl hx) (fun o' ho'=>by simp [za3,Nat.ne_of_lt ho']),go⟩
 ·rcases hX.own k hx with h' | h'
  ·omega
  ·exact hio h'
 ·rcases liv o' hl' with e | ⟨e,l⟩
  ·subst e;rcases hF0' x hf with hx | hx
   ·exact hX.own x hx
   ·exact .inl (by have:=h.size; omega)
  ·exact h.own o' x l (hF o' x e hf)
theorem SR.drop {C:Ctx} {a:Act} {g:Gh} {st:St} (h:SR C a w g st) {X:Nat->Prop} (hX:zaz C w g st X) {o:Nat} (hl:live (st.S o)=true) (hnb : ∀ cs,st.S o≠some (.box cs)) :
  SR C a w g { st with S:=upd st.S o none }/\zaz C w g { st with S:=upd st.S o none } (fun x=>X x\/g.F o x)/\zaq w g st w g { st with S:=upd st.S o none }/\ShB w g { st with S:=upd st.S o none } (za5 (g.hv o)):=by
 have r:=h.rel;have liv : ∀ o',live (upd st.S o none o')=true->live (st.S o')=true/\o'≠o:=by
  intro o' hl';simp only [zas] at hl'
  by_cases e:o'=o
  ·rw [if_pos e] at hl'; cases hl'
  ·rw [if_neg e] at hl'; exact ⟨hl',e⟩
 have go:zaq w g st w g { st with S:=upd st.S o none }:=by
  refine ⟨Nat.le_refl _,Nat.le_refl _,fun o' ho' p e he sz es' hr => ?_,fun o' ho' cs' hb => ?_,fun _ h=>h,fun _ _=>rfl⟩
  ·simp only [zas] at hr
   by_cases e1:o'=o
   ·rw [if_pos e1] at hr; simp [zax] at hr
   ·rw [if_neg e1] at hr;refine ⟨es',hr,rfl,?_⟩;cases p with
    | none=>rfl
    | some q=>simp [za0,e1]
  ·simp only [zas] at hb
   by_cases e1:o'=o
   ·rw [if_pos e1] at hb; cases hb
   ·rw [if_neg e1] at hb; exact ⟨⟨cs',hb⟩,rfl⟩
 have hrel:Rel w g { st with S:=upd st.S o none }:=by
  refine ⟨fun o' b hb => ?_,fun o1 o2 x h1 h2=>r.sep o1 o2 x (liv o1 h1).1 (liv o2 h2).1,fun o' x hl'=>r.nz o' x (liv o' hl').1,fun o' x hl'=>r.lt o' x (liv o' hl').1,r.zlt,fun o' ho' => ?_,fun o' sz es e hs => ?_⟩
  ·simp only [zas] at hb
   by_cases e1:o'=o
   ·rw [if_pos e1] at hb; cases hb
   ·rw [if_neg e1] at hb;have:=r.ob o' b hb;cases b with
    | row=>exact this
    | rowF=>exact this
    | box cs=>obtain ⟨b,cur,t,h1,h2,h3,h4,h5⟩:=this; exact ⟨b,cur,t,h1,h2,h3,h4.goes go,h5⟩
    | shadow=>exact this
  ·simp only [zas];split
   ·rfl
   ·exact r.nxt o' ho'
  ·simp only [zas] at hs
   by_cases e1:o'=o
   ·rw [if_pos e1] at hs; cases hs
   ·rw [if_neg e1] at hs;refine ⟨(r.shd o' sz es e hs).1,fun he => ?_⟩;obtain ⟨Y,h1,h2,h3,h4⟩:=(r.shd o' sz es e hs).2 he;exact ⟨Y,h1,h2,fun o2 x hl2=>h3 o2 x (liv o2 hl2).1,h4⟩
 refine ⟨h.step go hrel rfl rfl rfl rfl rfl (Nat.le_refl _) (fun _ _ _=>rfl) (fun o' x hl'=>h.own o' x (liv o' hl').1) (fun x hx => .inl hx) (fun _ _=>rfl),⟨fun o' x hl' hf hx => ?_,fun x hx => ?_,fun x hx => ?_,fun x hx => ?_⟩,go,fun o' sz es hs => ?_⟩
 ·obtain ⟨hl2,hne⟩:=liv o' hl';rcases hx with hx | hx
  ·exact hX.sep o' x hl2 hf hx
  ·exact hne (r.sep o' o x hl2 hl hf hx)
 ·rcases hx with hx | hx
  ·exact hX.nz x hx
  ·exact r.nz o x hl hx
 ·rcases hx with hx | hx
  ·exact hX.lt x hx
  ·exact r.lt o x hl hx
 ·rcases hx with hx | hx
  ·exact hX.own x hx
  ·exact h.own o x hl hx
 ·simp only [zas] at hs
  by_cases e1:o'=o
  ·rw [if_pos e1] at hs; cases hs
  ·rw [if_neg e1] at hs;obtain ⟨Y,h1,h2,h3,h4⟩:=(r.shd o' sz es _ hs).2 rfl;exact ⟨Y,h1,h4,h2,fun o2 x hl2=>h3 o2 x (liv o2 hl2).1,fun x hx=>h3 o x hl hx⟩
theorem zal.take {F:Nat->Prop} {sz:Nat} {es:List (List PV)} {u:Value} (h:zal w F (.own sz es) u) {i j s2:Nat} {cs:List PV} {es2:List (List PV)} (hi:es[i]?=some cs) (hj:cs[j]?=some (.own s2 es2)) :
  ∃ (b off n cap:Nat) (v:Value) (G:Nat->Prop),u = .slice (some ⟨b,off,none⟩) n cap/\w.cell? ⟨b,off+(i*sz+j),none⟩=some v/\zal w G (.own s2 es2) v/\(∀ x,G x->F x)/\zal w (fun x=>F x/\¬ G x) (.own sz (es.set i (cs.set j .undef))) u:=by
 cases h with
 | nil=>simp at hi
 | row hn hF hG hd hs hcap hb hsz hcl hr =>
  rename_i b off cap n cur t us G;have hjl:j<cs.length:=(bD hj).1;have hk:=zhz hs hi hj;refine ⟨b,off,n,cap,us (i*sz+j),G (i*sz+j),rfl,by rw [cell_of_row _ _ _ _ _ _ hb]; exact hcl _ _ hk,hr _ _ hk,fun x hx=>(hG _ x hx).1,?_⟩;have eo:cs.set j .undef=over cs j [.undef]:=by
   apply List.ext_getElem?;intro k;rw [zvd,zdh (by simp; omega),List.getElem?_set]
   by_cases e1:j=k
   ·subst e1; simp [hjl]
   ·rw [if_neg e1]
    by_cases e2:k<j
    ·rw [if_pos e2]
    ·rw [if_neg e2,if_neg (by simp; omega)]
  have hjj:j+[PV.undef].length<=cs.length:=by simp; omega
  have hlt:i<es.length:=(bD hi).1;have hcs:cs.length=sz:=hs cs (bF hi);have hfl:=zcz hs;have hmul:(i+1)*sz<=es.length*sz:=Nat.mul_le_mul_right _ hlt;rw [Nat.add_mul] at hmul;rw [eo];have get : ∀ (k:Nat) (d:PV),(es.set i (over cs j [.undef])).flatten[k]?=some d->(k=i*sz+j/\d = .undef)\/(k≠i*sz+j/\es.flatten[k]?=some d):=by
   intro k d hk;rw [zpj hs hi hjj,zdh (by rw [hfl]; omega)] at hk
   by_cases e1:k<i*sz+j
   ·rw [if_pos e1] at hk; exact .inr ⟨by omega,hk⟩
   ·rw [if_neg e1] at hk
    by_cases e2:k<i*sz+j+[PV.undef].length
    ·rw [if_pos e2] at hk;have e3:k=i*sz+j:=by simp at e2; omega
     subst e3;simp at hk;exact .inl ⟨rfl,hk.symm⟩
    ·rw [if_neg e2] at hk; simp at e2; exact .inr ⟨by omega,hk⟩
  refine .row (us:=us) (G:=fun k x=>G k x/\k≠i*sz+j) (by rw [List.length_set]; exact hn) ⟨hF,fun e=>(hG _ b e).2 rfl⟩ (fun k x hx=>⟨⟨(hG k x hx.1).1,fun e=>hx.2 (hd _ _ x hx.1 e)⟩,(hG k x hx.1).2⟩) (fun k k' x h1 h2=>hd k k' x h1.1 h2.1) (zp8 hs hi hjj) hcap hb hsz (fun k d hk' => ?_) (fun k d hk' => ?_)
  ·rcases get k d hk' with ⟨rfl,_⟩ | ⟨_,h'⟩
   ·exact hcl _ _ hk
   ·exact hcl _ _ h'
  ·rcases get k d hk' with ⟨rfl,rfl⟩ | ⟨hne,h'⟩
   ·exact .undef (hr _ _ hk).one
   ·exact (hr _ _ h').mono fun x hx=>⟨hx,hne⟩
theorem SR.takeSub {C:Ctx} {a:Act} {g:Gh} {st:St} (h:SR C a w g st) {X:Nat->Prop} (hX:zaz C w g st X) {o sz i j s2:Nat} {es es2:List (List PV)} {cs:List PV} (hS:st.S o=some (.row sz es)) (hi:es[i]?=some cs) (hj:cs[j]?=some (.own s2 es2)) :
  ∃ (g':Gh) (G:Nat->Prop) (v:Value),za0 w st.S g.hv o (some (i,j))=some v/\zal w G (.own s2 es2) v/\(∀ x,G x->¬ X x) /\
   SR C a w g' { st with S:=upd st.S o (some (.row sz (es.set i (cs.set j .undef)))),ep:=st.ep+1 }/\zaz C w g' { st with S:=upd st.S o (some (.row sz (es.set i (cs.set j .undef)))),ep:=st.ep+1 } (fun x=>X x\/G x)/\zaq w g st w g' { st with S:=upd st.S o (some (.row sz (es.set i (cs.set j .undef)))),ep:=st.ep+1 } /\
   (∀ bo,ShB w g' { st with S:=upd st.S o (some (.row sz (es.set i (cs.set j .undef)))),ep:=st.ep+1 } bo)/\g'.Z=g.Z:=by
 have r:=h.rel;have hl:live (st.S o)=true:=by rw [hS]; rfl
 have hob:zal w (g.F o) (.own sz es) (g.hv o):=r.ob o _ hS;obtain ⟨b,off,n,cap,v,G,hu,hcell,hv,hG,hnew⟩:=hob.take hi hj;have liv : ∀ o' ob',live (upd st.S o (some (.row sz ob')) o')=true->live (st.S o')=true:=by
  intro o' ob' hl';simp only [zas] at hl'
  by_cases e:o'=o
  ·subst e; exact hl
  ·rw [if_neg e] at hl'; exact hl'
 have fx : ∀ o' x,(upd g.F o fun x=>g.F o x/\¬ G x) o' x->g.F o' x/\(o'=o->¬ G x):=by
  intro o' x hf;simp only [zas] at hf
  by_cases e:o'=o
  ·subst e; rw [if_pos rfl] at hf; exact ⟨hf.1,fun _=>hf.2⟩
  ·rw [if_neg e] at hf; exact ⟨hf,fun e'=>(e e').elim⟩
 have go:zaq w g st w { g with F:=upd g.F o fun x=>g.F o x/\¬ G x } { st with S:=upd st.S o (some (.row sz (es.set i (cs.set j .undef)))),ep:=st.ep+1 }:=by
  refine ⟨Nat.le_refl _,Nat.le_succ _,fun o' ho' p e he sz' es' hr => ?_,fun o' ho' cs' hb => ?_,fun _ h=>h,fun _ _=>rfl⟩
  ·simp only [zas] at hr
   by_cases e1:o'=o
   ·subst e1;rw [if_pos rfl] at hr;cases p with
    | none =>
     simp only [zjt,bC,Prod.mk.injEq] at hr;obtain ⟨rfl,rfl⟩:=hr;exact ⟨es,by rw [hS]; rfl,by simp,rfl⟩
    | some q =>
     obtain ⟨i2,j2⟩:=q;simp only [zfo] at hr;rw [if_neg (by omega)] at hr; cases hr
   ·rw [if_neg e1] at hr;refine ⟨es',?_,rfl,?_⟩
    ·cases hS2:st.S o' with
     | none=>rw [hS2] at hr; simp [zax] at hr
     | some ob2 =>
      rw [hS2] at hr;cases ob2 with
      | box=>simp [zax] at hr
      | row s es2 =>
       cases p with
       | none=>simpa using hr
       | some q=>obtain ⟨i,j⟩:=q; simp only [zfo] at hr; rw [if_neg (by omega)] at hr; cases hr
      | rowF s es2 =>
       cases p with
       | none=>simpa using hr
       | some q=>simp [zax] at hr
      | shadow s es2 e3 =>
       cases p with
       | none =>
        have:=(r.shd o' _ _ _ hS2).1;simp only [zyq] at hr;rw [if_neg (by omega)] at hr; cases hr
       | some q=>simp [zax] at hr
    ·cases p with
     | none=>rfl
     | some q=>simp [za0,e1]
  ·simp only [zas] at hb
   by_cases e1:o'=o
   ·rw [if_pos e1] at hb; cases hb
   ·rw [if_neg e1] at hb; exact ⟨⟨cs',hb⟩,rfl⟩
 have hrel:Rel w { g with F:=upd g.F o fun x=>g.F o x/\¬ G x } { st with S:=upd st.S o (some (.row sz (es.set i (cs.set j .undef)))),ep:=st.ep+1 }:=by
  refine ⟨fun o' b hb => ?_,fun o1 o2 x h1 h2 f1 f2=>r.sep o1 o2 x (liv o1 _ h1) (liv o2 _ h2) (fx o1 x f1).1 (fx o2 x f2).1,fun o' x hl' hf=>r.nz o' x (liv o' _ hl') (fx o' x hf).1,fun o' x hl' hf=>r.lt o' x (liv o' _ hl') (fx o' x hf).1,r.zlt,fun o' ho' => ?_,fun o' sz es e hs => ?_⟩
  ·simp only [zas] at hb
   by_cases e1:o'=o
   ·subst e1;rw [if_pos rfl] at hb;cases hb;simpa [zm5] using hnew
   ·rw [if_neg e1] at hb;have:=r.ob o' b hb;simp only [zas,if_neg e1];cases b with
    | row=>exact this
    | rowF=>exact this
    | box cs=>obtain ⟨b,cur,t,h1,h2,h3,h4,h5⟩:=this; exact ⟨b,cur,t,h1,h2,h3,h4.goes go,h5⟩
    | shadow=>exact this
  ·simp only [zas]
   by_cases e1:o'=o
   ·subst e1; have:=r.nxt o' ho'; rw [hS] at this; cases this
   ·rw [if_neg e1]; exact r.nxt o' ho'
  ·simp only [zas] at hs
   by_cases e1:o'=o
   ·rw [if_pos e1] at hs; cases hs
   ·rw [if_neg e1] at hs;have:=(r.shd o' _ _ _ hs).1;exact ⟨by simp only; omega,fun he=>by simp only at he; omega⟩
 refine ⟨{ g with F:=upd g.F o fun x=>g.F o x/\¬ G x },G,v,by simp only [za0,hS,hu]; exact hcell,hv,fun x hx=>hX.sep o x hl (hG x hx),h.step go hrel rfl rfl rfl rfl rfl (Nat.le_refl _) (fun _ _ _=>rfl) (fun o' x hl' hf=>h.own o' x (liv o' _ hl') (fx o' x hf).1) (fun x hx => .inl hx) (fun _ _=>rfl),⟨fun o' x hl' hf hx => ?_,fun x hx => ?_,fun x hx => ?_,fun x hx => ?_⟩,go,fun bo o' sz es hs => ?_,rfl⟩
 ·obtain ⟨f1,f2⟩:=fx o' x hf;rcases hx with hx | hx
  ·exact hX.sep o' x (liv o' _ hl') f1 hx
  ·exact f2 (r.sep o' o x (liv o' _ hl') hl f1 (hG x hx)) hx
 ·rcases hx with hx | hx
  ·exact hX.nz x hx
  ·exact r.nz o x hl (hG x hx)
 ·rcases hx with hx | hx
  ·exact hX.lt x hx
  ·exact r.lt o x hl (hG x hx)
 ·rcases hx with hx | hx
  ·exact hX.own x hx
  ·exact h.own o x hl (hG x hx)
 ·simp only [zas] at hs
  by_cases e1:o'=o
  ·rw [if_pos e1] at hs; cases hs
  ·rw [if_neg e1] at hs;have:=(r.shd o' _ _ _ hs).1;omega
end Go.Pe
namespace Go.Pe
open Go
variable {w:World} {sz:Nat} {es:List (List PV)} {u:Value} {g:Gh} {st:St}
theorem zam.list {Y:Nat->Prop} (h:zam w Y (.sl sz es) u) : ∃ vs a c,u = .slice a es.length c/\PW (fun _=>zam w Y) es.flatten vs/\(∀ e∈es,e.length=sz)/\(vs=[]\/∃ ad:Addr,a=some ad/\∀ j v,vs[j]?=some v->w.cell? (ad.add j)=some v):=by
 cases h with
 | nil h=>cases h; exact ⟨[],_,_,rfl,⟨rfl,by simp⟩,by simp,.inl rfl⟩
 | row h hn hZ hs hcap hc hr =>
  cases h;rename_i b off cap n us;refine ⟨(List.range es.flatten.length).map us,_,_,by rw [hn],⟨by simp,fun k c hk => ?_⟩,hs,.inr ⟨_,rfl,fun j v hj => ?_⟩⟩
  ·have hlt:k<es.flatten.length:=(bD hk).1;exact ⟨us k,by rw [List.getElem?_map,List.getElem?_range hlt]; rfl,hr k c hk⟩
  ·have hlt:j<es.flatten.length:=by have:=(bD hj).1; simpa using this
   rw [List.getElem?_map,List.getElem?_range hlt] at hj;simp only [Option.map_some,bC] at hj;rw [zje,<- hj];exact hc j _ (bG hlt)
theorem zal.list {F:Nat->Prop} (h:zal w F (.own sz es) u) : ∃ vs a c G,u = .slice a es.length c/\zbi w F es.flatten vs G/\(∀ e∈es,e.length=sz)/\(vs=[]\/∃ ad:Addr,a=some ad/\∀ j v,vs[j]?=some v->w.cell? (ad.add j)=some v):=by
 cases h with
 | nil=>exact ⟨[],_,_,fun _ _=>False,rfl,⟨rfl,by simp,fun _ _ h=>h.elim,fun _ _ _ h=>h.elim⟩,by simp,.inl rfl⟩
 | row hn hF hG hd hs hcap hb hsz hc hr =>
  rename_i b off cap n cur t us G;refine ⟨(List.range es.flatten.length).map us,_,_,fun k x=>G k x,by rw [hn],⟨by simp,fun k c hk => ?_,fun k x hx=>(hG k x hx).1,hd⟩,hs,.inr ⟨_,rfl,fun j v hj => ?_⟩⟩
  ·have hlt:k<es.flatten.length:=(bD hk).1;exact ⟨us k,by rw [List.getElem?_map,List.getElem?_range hlt]; rfl,hr k c hk⟩
  ·have hlt:j<es.flatten.length:=by have:=(bD hj).1; simpa using this
   rw [List.getElem?_map,List.getElem?_range hlt] at hj;simp only [Option.map_some,bC] at hj;rw [zje,cell_of_row _ _ _ _ _ _ hb,<- hj];exact hc j _ (bG hlt)
structure zyo (w:World) (g:Gh) (sz:Nat) (es:List (List PV)) (fr:Option Bool) (Y:Nat->Prop) (vs:List Value):Prop where
 len:vs.length=es.length*sz
 hs : ∀ e∈es,e.length=sz
 own:fr≠some true->∃ H,zbi w Y es.flatten vs H
 frz:fr≠some false->PW (fun _ c u=>zam w g.Z c u/\u.oneCell'=true) es.flatten vs
theorem z8a {w:World} {g:Gh} {Y:Nat->Prop} {sz:Nat} {es:List (List PV)} {vs:List Value} (hp:PW (fun _=>zam w Y) es.flatten vs) (hs : ∀ e∈es,e.length=sz) (hv:zch es=true):zyo w g sz es none (fun _=>False) vs:=by
 have key : ∀ (k:Nat) (c:PV),es.flatten[k]?=some c->∃ x,c = .v x/\vs[k]?=some x/\okV x=true:=by
  intro k c hc;obtain ⟨u,hu,hr⟩:=hp.2 k c hc;have hm:=bF hc;obtain ⟨e,he,hce⟩:=List.mem_flatten.mp hm;have h1:=List.all_eq_true.mp (List.all_eq_true.mp hv e he) c hce;cases c with
  | v x =>
   cases hr with
   | v h=>exact ⟨u,rfl,hu,h⟩
   | nil h=>cases h
   | row h=>cases h
  | _=>cases h1
 refine ⟨by rw [hp.1,zcz hs],hs,fun _=>⟨fun _ _=>False,hp.1,fun k c hc => ?_,fun _ _ h=>h,fun _ _ _ h=>h.elim⟩,fun _=>⟨hp.1,fun k c hc => ?_⟩⟩
 ·obtain ⟨x,rfl,h1,h2⟩:=key k c hc; exact ⟨x,h1,.v h2⟩
 ·obtain ⟨x,rfl,h1,h2⟩:=key k c hc; exact ⟨x,h1,.v h2,zx9 h2⟩
def z70 (w:World) (xv:Value) (n:Nat) (vs:List Value):Prop := ∃ a c,xv = .slice a n c/\(vs=[]\/∃ ad:Addr,a=some ad/\∀ j v,vs[j]?=some v->w.cell? (ad.add j)=some v)
theorem zcj.sub {w:World} {Z F:Nat->Prop} {sz:Nat} {es:List (List PV)} {hd u:Value} (h:zcj w Z F sz es hd) {lo len:Nat} (hs:zdw hd sz lo len u) (hl:lo+len<=es.length) :
  ∃ vs,PW (fun _ c u=>zam w Z c u/\u.oneCell'=true) (cut es lo len).flatten vs/\(∀ e∈cut es lo len,e.length=sz)/\(cut es lo len).length=len/\z70 w u len vs:=by
 obtain ⟨a,n,cap,a',rfl,e2,e3,rfl,e5⟩:=hs;rw [ydk];have hlen:((es.drop lo).take len).length=len:=by simp; omega
 by_cases e0:len=0
 ·subst e0; exact ⟨[],⟨rfl,by simp⟩,by simp,rfl,_,_,rfl,.inl rfl⟩
 ·rcases h.ok with ⟨_,h2⟩ | ⟨b,off,cap',cur,t,us,h1,hF,hss,hcap,hb,hsz,hc⟩
  ·subst h2; simp at hl; omega
  ·cases h1;rcases e5 with e5 | ⟨b',off',e5,rfl⟩
   ·omega
   ·cases e5;have get : ∀ (k:Nat) (d:PV),((es.drop lo).take len).flatten[k]?=some d->es.flatten[lo*sz+k]?=some d:=by
     intro k d hk;have:=z74 (fun e he=>hss e (List.mem_of_mem_drop he)) len k hk
     rwa [zvt hss lo k (by omega)] at this
    refine ⟨(List.range ((es.drop lo).take len).flatten.length).map fun k=>us (lo*sz+k),⟨by simp,fun k c hk => ?_⟩,fun e he=>hss e (List.mem_of_mem_drop (List.mem_of_mem_take he)),hlen,_,_,rfl,.inr ⟨_,rfl,fun j v hj => ?_⟩⟩
    ·have hlt:k<((es.drop lo).take len).flatten.length:=(bD hk).1;exact ⟨us (lo*sz+k),by rw [List.getElem?_map,List.getElem?_range hlt]; rfl,(hc _ _ (get k c hk)).2⟩
    ·have hlt:j<((es.drop lo).take len).flatten.length:=by have:=(bD hj).1; simpa using this
     rw [List.getElem?_map,List.getElem?_range hlt] at hj;simp only [Option.map_some,bC] at hj;rw [zje,cell_of_row _ _ _ _ _ _ hb,<- hj,show off+lo*sz+j=off+(lo*sz+j) by omega];exact (hc _ _ (get j _ (bG hlt))).1
theorem qfc {C:Ctx} {a:Act} (h:SR C a w g st) {x:PV} {xv:Value} (hx:zap w g st x xv) {fr:Option Bool} {st1:St} (hm:zgh st sz x=some (es,fr,st1)) :
  ∃ Y vs,SR C a w g st1/\zaz C w g st1 Y/\zaq w g st w g st1/\zyo w g sz es fr Y vs/\z70 w xv es.length vs:=by
 cases x with
 | e0 =>
  simp only [zgh,bC,Prod.mk.injEq] at hm;obtain ⟨rfl,rfl,rfl⟩:=hm;obtain ⟨q,rfl⟩:=hx;exact ⟨_,[],h,zaz.none C w g st,zaq.refl _ _ _,z8a (Y:=fun _=>False) ⟨rfl,by simp⟩ (by simp) rfl,_,_,rfl,.inl rfl⟩
 | sl s es' =>
  simp only [zgh] at hm;split at hm
  ·rename_i c;simp only [bC,Prod.mk.injEq] at hm;obtain ⟨rfl,rfl,rfl⟩:=hm;obtain ⟨rfl,c2⟩:=c;obtain ⟨vs,q,cc,e1,e2,e3,e4⟩:=(hx:zam w g.Z (.sl s es') xv).list;exact ⟨_,vs,h,zaz.none C w g st,zaq.refl _ _ _,z8a e2 e3 c2,_,_,e1,e4⟩
  ·cases hm
 | ref o p ep lo len =>
  simp only [zgh] at hm;obtain ⟨r,hr,hm⟩:=bA hm;split at hm
  ·rename_i hsz;split at hm
   ·rename_i hv;simp only [bC,Prod.mk.injEq] at hm;obtain ⟨rfl,rfl,rfl⟩:=hm;obtain ⟨Y,h1,_,_⟩:=ycc h.rel hx (show zfw st (.ref o p ep lo len)=some (r.1,cut r.2 lo len) by simp only [zfw,hr,Option.map_some]);obtain ⟨vs,q,cc,e1,e2,e3,e4⟩:=h1.list;rw [hsz] at e3;exact ⟨_,vs,h,zaz.none C w g st,zaq.refl _ _ _,z8a e2 e3 hv,_,_,e1,e4⟩
   ·obtain ⟨hd,hh,hsub,hl⟩:=zyv hx hr;cases hS:st.S o with
    | none=>rw [hS] at hm; simp [zhm] at hm
    | some ob =>
     rw [hS] at hm;have hob:=h.rel.ob o ob hS;cases ob with
     | row s es' =>
      cases p with
      | some q=>simp [zhm] at hm
      | none =>
       simp only [zhm] at hm;split at hm
       ·rename_i c;simp only [bC,Prod.mk.injEq] at hm;obtain ⟨rfl,rfl,rfl⟩:=hm;obtain ⟨rfl,rfl⟩:=c;have hr':zax st.ep (st.S o) none ep=some r:=hr;rw [hS] at hr';simp only [zjt,bC] at hr';subst hr';simp only at hsz hsub hl;subst hsz;simp only [za0,bC] at hh;subst hh;have hlo:live (st.S o)=true:=by rw [hS]; rfl
        obtain ⟨s1,l1,g1,_⟩:=h.drop (zaz.none C w g st) hlo (by rw [hS]; simp);have hw:=ybk (hob:zal w (g.F o) (.own s es') (g.hv o)) hsub;obtain ⟨vs,q,cc,H,e1,e2,e3,e4⟩:=hw.list;refine ⟨_,vs,s1,l1,g1,⟨by rw [e2.len,zcz e3],e3,fun _=>⟨H,e2.mono fun x hx => .inr hx⟩,fun h=>(h rfl).elim⟩,_,_,e1,e4⟩
       ·cases hm
     | rowF s es' =>
      cases p with
      | some q=>simp [zhm] at hm
      | none =>
       simp only [zhm,bC,Prod.mk.injEq] at hm;obtain ⟨rfl,rfl,rfl⟩:=hm;have hr':zax st.ep (st.S o) none ep=some r:=hr;rw [hS] at hr';simp only [ybf,bC] at hr';subst hr';simp only at hsz hsub hl;subst hsz;simp only [za0,bC] at hh;subst hh;obtain ⟨vs,e1,e2,e3,e4⟩:=zcj.sub (hob:zcj w g.Z (g.F o) s es' (g.hv o)) hsub hl;exact ⟨_,vs,h,zaz.none C w g st,zaq.refl _ _ _,⟨by rw [e1.1,zcz e2],e2,fun h=>(h rfl).elim,fun _=>e1⟩,by rw [e3]; exact e4⟩
     | box cs=>simp [zhm] at hm
     | shadow s es' e=>simp [zhm] at hm
  ·cases hm
 | _=>simp [zgh] at hm
theorem zdw.blk {hd u:Value} {sz lo len:Nat} (h:zdw hd sz lo len u) {x:Nat} (hx:za5 u=some x):za5 hd=some x:=by
 obtain ⟨a,n,cap,a',rfl,e2,e3,rfl,e5⟩:=h;cases a' with
 | none=>simp [za5] at hx
 | some a' =>
  simp only [za5] at hx;split at hx
  ·cases hx
  ·rename_i hc;rcases e5 with e5 | ⟨b,off,rfl,e6⟩
   ·exact (hc e5).elim
   ·cases e6;cases hx;simp only [za5];rw [if_neg (by omega)]
theorem zal.drop {F:Nat->Prop} {hd u:Value} (h:zal w F (.own sz es) hd) {lo len:Nat} (hs:zdw hd sz lo len u) (hl:lo+len=es.length):zal w F (.own sz (es.drop lo)) u:=by
 obtain ⟨a,n,cap,a',rfl,e2,e3,rfl,e5⟩:=hs
 by_cases e0:cap-lo=0
 ·have e1:len=0:=by omega
  have e2:es.drop lo=[]:=List.drop_of_length_le (by omega);rw [e0,e1,e2]; exact .nil
 ·rcases e5 with e5 | ⟨b,off,rfl,rfl⟩
  ·exact (e0 e5).elim
  ·cases h with
   | nil=>simp at e0
   | row hn hF hG hd hss hcap hb hsz hc hr =>
    rename_i cur t us G;have get : ∀ (k:Nat) (d:PV),(es.drop lo).flatten[k]?=some d->es.flatten[lo*sz+k]?=some d:=by
     intro k d hk; rwa [zvt hss lo k (by omega)] at hk
    have hm:lo*sz+(cap-lo)*sz=cap*sz:=by rw [<- Nat.add_mul]; congr 1; omega
    refine .row (us:=fun k=>us (lo*sz+k)) (G:=fun k=>G (lo*sz+k)) (by simp; omega) hF (fun k x hx=>hG _ x hx) (fun k k' x h1 h2=>by have:=hd _ _ x h1 h2; omega) (fun e he=>hss e (List.mem_of_mem_drop he)) (by omega) hb (by omega) (fun k d hk => ?_) (fun k d hk=>hr _ d (get k d hk));rw [show off+lo*sz+k=off+(lo*sz+k) by omega]; exact hc _ d (get k d hk)
theorem zcj.drop {Z F:Nat->Prop} {hd u:Value} (h:zcj w Z F sz es hd) {lo len:Nat} (hs:zdw hd sz lo len u) (hl:lo+len=es.length):zcj w Z F sz (es.drop lo) u:=by
 obtain ⟨a,n,cap,a',rfl,e2,e3,rfl,e5⟩:=hs
 by_cases e0:cap-lo=0
 ·have e1:len=0:=by omega
  have e2:es.drop lo=[]:=List.drop_of_length_le (by omega);rw [e0,e1,e2]; exact ⟨.inl ⟨⟨_,rfl⟩,rfl⟩⟩
 ·rcases e5 with e5 | ⟨b,off,rfl,rfl⟩
  ·exact (e0 e5).elim
  ·rcases h.ok with ⟨⟨q,h1⟩,_⟩ | ⟨b',off',cap',cur,t,us,h1,hF,hss,hcap,hb,hsz,hc⟩
   ·cases h1; simp at e0
   ·cases h1;have get : ∀ (k:Nat) (d:PV),(es.drop lo).flatten[k]?=some d->es.flatten[lo*sz+k]?=some d:=by
     intro k d hk; rwa [zvt hss lo k (by omega)] at hk
    have hm:lo*sz+(cap-lo)*sz=cap*sz:=by rw [<- Nat.add_mul]; congr 1; omega
    refine ⟨.inr ⟨b,off+lo*sz,cap-lo,cur,t,fun k=>us (lo*sz+k),?_,hF,fun e he=>hss e (List.mem_of_mem_drop he),by simp; omega,hb,by omega,fun k d hk => ?_⟩⟩
    ·rw [List.length_drop]; congr 1; omega
    ·rw [show off+lo*sz+k=off+(lo*sz+k) by omega]; exact hc _ d (get k d hk)
theorem ShB.mono {bo bo':Option Nat} (h:ShB w g st bo) (hb : ∀ x,bo'=some x->bo=some x):ShB w g st bo' :=
 fun o sz es hs=>let ⟨Y,h1,hk,h2,h3,h4⟩:=h o sz es hs; ⟨Y,h1,hk,h2,h3,fun x hx=>h4 x (hb x hx)⟩
theorem Rel.shB (h:Rel w g st):ShB w g st none :=
 fun o sz es hs=>let ⟨Y,h1,h2,h3,h4⟩:=(h.shd o sz es _ hs).2 rfl; ⟨Y,h1,h4,h2,h3,fun x hx=>by cases hx⟩
theorem yog {C:Ctx} {a:Act} (h:SR C a w g st) {Y:Nat->Prop} (hY:zaz C w g st Y) {x:PV} {bv:Value} (hx:zap w g st x bv) {fr:Bool} {st2:St} (hb:zgl st sz x=some (es,fr,st2)) :
  ∃ (g2:Gh) (X:Nat->Prop),SR C a w g2 st2/\zaz C w g2 st2 (fun x=>Y x\/X x)/\(∀ x,X x->¬ Y x)/\zaq w g st w g2 st2/\ShB w g2 st2 (za5 bv)/\g2.Z=g.Z/\(fr=false->zal w X (.own sz es) bv)/\(fr=true->zcj w g.Z X sz es bv):=by
 cases x with
 | e0 =>
  simp only [zgl,bC,Prod.mk.injEq] at hb;obtain ⟨rfl,rfl,rfl⟩:=hb;obtain ⟨q,rfl⟩:=hx;refine ⟨g,fun _=>False,h,?_,fun _ h=>h.elim,zaq.refl _ _ _,h.rel.shB.mono (fun x hx=>by cases q <;> simp [za5] at hx),rfl,fun _ => .nil,fun h=>by cases h⟩;exact ⟨fun o x hl hf hx=>by rcases hx with hx | hx; exact hY.sep o x hl hf hx; exact hx,fun x hx=>by rcases hx with hx | hx; exact hY.nz x hx; exact hx.elim,fun x hx=>by rcases hx with hx | hx; exact hY.lt x hx; exact hx.elim,fun x hx=>by rcases hx with hx | hx; exact hY.own x hx; exact hx.elim⟩
 | ref o p ep lo len =>
  simp only [zgl] at hb;obtain ⟨_,q1,q2,q3⟩:=(hx:zyt w g.hv st o p ep lo len bv);cases hS:st.S o with
  | none=>rw [hS] at hb; simp [zgr] at hb
  | some ob =>
   rw [hS] at hb;have hob:=h.rel.ob o ob hS;cases ob with
   | row s es' =>
    have hlo:live (st.S o)=true:=by rw [hS]; rfl
    cases p with
    | none =>
     simp only [zgr] at hb;split at hb
     ·rename_i c;simp only [bC,Prod.mk.injEq] at hb;obtain ⟨rfl,rfl,rfl⟩:=hb;obtain ⟨rfl,c2⟩:=c;obtain ⟨hd,hh,hsub,_⟩:=q3 s es' (by rw [hS]; rfl);simp only [za0,bC] at hh;subst hh;obtain ⟨s1,l1,g1,sh1⟩:=h.drop hY hlo (by rw [hS]; simp);exact ⟨g,g.F o,s1,l1,fun x hx=>hY.sep o x hlo hx,g1,sh1.mono fun x hx=>hsub.blk hx,rfl,fun _=>zal.drop (hob:zal w (g.F o) (.own s es') (g.hv o)) hsub c2,fun h=>by cases h⟩
     ·cases hb
    | some q =>
     obtain ⟨i,j⟩:=q;simp only [zgr] at hb;split at hb
     ·rename_i ce;obtain ⟨r,hr,hb⟩:=bA hb;split at hb
      ·rename_i c;simp only [bC,Prod.mk.injEq] at hb;obtain ⟨rfl,rfl,rfl⟩:=hb;obtain ⟨cs,hcs,hc⟩:=zjd hr;obtain ⟨hd,hh,hsub,_⟩:=q3 r.1 r.2 (by rw [hS]; simp only [zfo,ce,if_true]; exact hr);obtain ⟨g',G,v,h1,h2,h3,h4,h5,h6,h7,h8⟩:=h.takeSub hY hS hcs hc;rw [hh] at h1; cases h1;have eset:zb4 es' i j .undef=es'.set i (cs.set j .undef):=by simp [zb4,hcs]
       obtain ⟨c1,c2⟩:=c;rw [eset];exact ⟨g',G,h4,h5,h3,h6,h7 _,h8,fun _=>by rw [<- c1]; exact h2.drop hsub c2,fun h=>by cases h⟩
      ·cases hb
     ·cases hb
   | rowF s es' =>
    have hlo:live (st.S o)=true:=by rw [hS]; rfl
    cases p with
    | some q=>simp [zgr] at hb
    | none =>
     simp only [zgr] at hb;split at hb
     ·rename_i c;simp only [bC,Prod.mk.injEq] at hb;obtain ⟨rfl,rfl,rfl⟩:=hb;obtain ⟨rfl,c2⟩:=c;obtain ⟨hd,hh,hsub,_⟩:=q3 s es' (by rw [hS]; rfl);simp only [za0,bC] at hh;subst hh;obtain ⟨s1,l1,g1,sh1⟩:=h.drop hY hlo (by rw [hS]; simp);exact ⟨g,g.F o,s1,l1,fun x hx=>hY.sep o x hlo hx,g1,sh1.mono fun x hx=>hsub.blk hx,rfl,(fun e=>Bool.noConfusion e),fun _=>zcj.drop (hob:zcj w g.Z (g.F o) s es' (g.hv o)) hsub c2⟩
     ·cases hb
   | box cs=>simp [zgr] at hb
   | shadow s es' e=>simp [zgr] at hb
 | _=>simp [zgl] at hb
end Go.Pe
namespace Go.Pe
open Go
variable {w:World}
section
variable {P:Program} {w:World} {t u ty e:TypeId} {ud:TypeDesc} {i:TypeInfo} {zdc:Option Addr} {n cap m:Nat} {xv:Value} {news:List Value}
theorem yn1 (ht:P.underlying t=some (.slice e)) (hu:P.underlying u=some ud) (hud:(∃ ue,ud = .slice ue)\/ud = .string) (hi:P.info? e=some i) (hlen : ∀ w',(Builtin.lenOf xv).run P w' = .ok m w') (hf : ∀ w':World,w'.heap=w.heap->(Builtin.firstCells i.size m xv).run P w' = .ok news.toArray w')
  (hroom:n+m<=cap) (hn:news=[]):(Builtin.append_ #[t,u] ty #[.slice zdc n cap,xv]).run P w = .ok (.slice zdc (n+m) cap) w:=by
 subst hn;have hf':=hf w rfl;rcases hud with ⟨ue,rfl⟩ | rfl <;> cases zdc <;> simp [Builtin.append_,run_underlying ht,run_underlying hu,sizeOf,typeInfo,hi,hlen,hroom,hf',storeCells]
theorem ymz (ht:P.underlying t=some (.slice e)) (hu:P.underlying u=some ud) (hud:(∃ ue,ud = .slice ue)\/ud = .string) (hi:P.info? e=some i) (hlen : ∀ w',(Builtin.lenOf xv).run P w' = .ok m w') (hf : ∀ w':World,w'.heap=w.heap->(Builtin.firstCells i.size m xv).run P w' = .ok news.toArray w')
  (hroom:n+m<=cap) {b off:Nat} {cur:Array Value} {tt:TypeId} (hb:w.heap[b]?=some (.cells cur tt (0,0))) (hle:off+n*i.size+news.length<=cur.size) (h1 : ∀ v∈news,v.oneCell'=true) :
  (Builtin.append_ #[t,u] ty #[.slice (some ⟨b,off,none⟩) n cap,xv]).run P w = .ok (.slice (some ⟨b,off,none⟩) (n+m) cap) (w.setRow b (zbf cur.toList (off+n*i.size) news).toArray):=by
 have hf':=hf w rfl;have hst:=run_storeCells_at P b (off+n*i.size) tt news 0 cur w hb (by simpa using hle) h1;simp only [Nat.add_zero] at hst;rcases hud with ⟨ue,rfl⟩ | rfl <;> simp [Builtin.append_,run_underlying ht,run_underlying hu,sizeOf,typeInfo,hi,hlen,hroom,hf',zje,hst,zbf]
theorem yn6 {z:Value} {olds:List Value} (ht:P.underlying t=some (.slice e)) (hu:P.underlying u=some ud) (hud:(∃ ue,ud = .slice ue)\/ud = .string) (hi:P.info? e=some i) (hz:i.zero=some z) (hlen : ∀ w',(Builtin.lenOf xv).run P w' = .ok m w') (hf : ∀ w':World,w'.heap=w.heap->(Builtin.firstCells i.size m xv).run P w' = .ok news.toArray w')
  (hfo : ∀ w':World,w'.heap=w.heap->(Builtin.firstCells i.size n (.slice zdc n cap)).run P w' = .ok olds.toArray w') (hg:cap<n+m) (h63:((n+m:Nat):Int)<=9223372036854775807) (hfit:Builtin.nextslicecap (n+m) cap*i.bytes<=281474976710656) :
  (Builtin.append_ #[t,u] ty #[.slice zdc n cap,xv]).run P w = .ok (.slice (some ⟨w.heap.size,0,none⟩) (n+m) (grownCap w (n+m) cap e)) (w.drew.alloc (.cells (olds.toArray++news.toArray++Builtin.zeroCells z.cells (grownCap w (n+m) cap e-(n+m))) e)):=by
 have hn : ¬ (n+m<=cap):=by omega
 have h63' : ¬ (9223372036854775807<((n:Int)+(m:Int))):=by omega
 have h48' : ¬ (281474976710656<Builtin.nextslicecap (n+m) cap*i.bytes):=by omega
 have hf':=hf w.drew rfl;have hfo':=hfo w.drew rfl;rcases hud with ⟨ue,rfl⟩ | rfl <;>
 ·simp [Builtin.append_,run_underlying ht,run_underlying hu,sizeOf,typeInfo,zeroValue,hi,hz,hlen,hn,h63',h48',Question.forced,hf',hfo',Go.newRow,grownCap]
  try (congr 2; apply Array.ext'; simp [List.append_assoc])
end
theorem qdl {i:TypeInfo} (h:zqb i=true) : ∃ z,i.zero=some z/\z.cells.size=i.size:=by
 unfold zqb at h;split at h
 ·rename_i z hz; exact ⟨z,hz,by simpa using h⟩
 ·cases h
theorem yee {P:Program} {w:World} {xv:Value} {n sz:Nat} {vs:List Value} (h:z70 w xv n vs) (hl:vs.length=n*sz) : ∀ w':World,w'.heap=w.heap->(Builtin.firstCells sz n xv).run P w' = .ok vs.toArray w':=by
 obtain ⟨a,c,rfl,h⟩:=h;intro w' hw;have hc : ∀ ad:Addr,w'.cell? ad=w.cell? ad:=fun ad=>World.cell?_of_block (w:=w) (by rw [hw]);rcases h with rfl | ⟨ad,rfl,h⟩
 ·cases a with
  | none=>exact run_firstCells_none _ _ _ _ _
  | some ad=>exact run_firstCells_some w' sz n ad n c [] hl (by simp)
 ·exact run_firstCells_some w' sz n ad n c vs hl (fun j v hj=>by rw [hc]; exact h j v hj)
theorem qa7 {P:Program} {xv:Value} {n:Nat} {vs:List Value} (h:z70 w xv n vs) : ∀ w',(Builtin.lenOf xv).run P w' = .ok n w':=by
 obtain ⟨a,c,rfl,h⟩:=h;intro w'; simp [Builtin.lenOf]
theorem zal.more {w w':World} {F:Nat->Prop} {sz:Nat} {es em:List (List PV)} {b off n cap:Nat} (h:zal w F (.own sz es) (.slice (some ⟨b,off,none⟩) n cap)) {vs:List Value} {Y:Nat->Prop} {H:Nat->Nat->Prop} (hc:zbi w Y em.flatten vs H) (hm : ∀ e∈em,e.length=sz) (hY : ∀ x,F x->¬ Y x) (hroom:es.length+em.length<=cap) (h0:cap≠0)
  {cur:Array Value} {t:TypeId} (hb:w.heap[b]?=some (.cells cur t (0,0))) (hb':w'.heap[b]?=some (.cells (zbf cur.toList (off+es.length*sz) vs).toArray t (0,0))) (hw : ∀ x,x≠b->w'.heap[x]?=w.heap[x]?) :
  zal w' (fun x=>F x\/Y x) (.own sz (es++em)) (.slice (some ⟨b,off,none⟩) (es.length+em.length) cap):=by
 cases h with
 | nil=>exact (h0 rfl).elim
 | row hn hF hG hd hs hcap hbk hsz hcl hr =>
  rename_i cur0 t0 us G;rw [hb] at hbk;cases hbk;have hfl:=zcz hs;have hfm:=zcz hm;have hvl:=hc.len;have hmul:(es.length+em.length)*sz<=cap*sz:=Nat.mul_le_mul_right _ hroom;rw [Nat.add_mul] at hmul;have hle:off+es.length*sz+vs.length<=cur.toList.length:=by simp only [Array.length_toList]; omega
  have hYb : ¬ Y b:=hY b hF;have get : ∀ (k:Nat) (d:PV),(es++em).flatten[k]?=some d->(k<es.length*sz/\es.flatten[k]?=some d)\/(es.length*sz<=k/\em.flatten[k-es.length*sz]?=some d):=by
   intro k d hk;rw [List.flatten_append] at hk
   by_cases e:k<es.length*sz
   ·rw [List.getElem?_append_left (by omega)] at hk; exact .inl ⟨e,hk⟩
   ·rw [bO (by omega),hfl] at hk; exact .inr ⟨by omega,hk⟩
  refine .row (us:=fun k=>if k<es.length*sz then us k else vs.getD (k-es.length*sz) default) (G:=fun k x=>if k<es.length*sz then G k x else H (k-es.length*sz) x) (by simp) (.inl hF) (fun k x hx => ?_) (fun k k' x h1 h2 => ?_) (fun e he=>by rcases bM he with he | he; exact hs e he; exact hm e he) hroom hb' (by rw [List.size_toArray,zj7 hle]; simpa using hsz) (fun k d hk => ?_) (fun k d hk => ?_)
  ·split at hx
   ·exact ⟨.inl (hG k x hx).1,(hG k x hx).2⟩
   ·have:=hc.inX _ x hx; exact ⟨.inr this,fun e=>hYb (e ▸ this)⟩
  ·split at h1 <;> split at h2
   ·exact hd k k' x h1 h2
   ·exact (hY x (hG _ x h1).1 (hc.inX _ x h2)).elim
   ·exact (hY x (hG _ x h2).1 (hc.inX _ x h1)).elim
   ·have:=hc.dis _ _ x h1 h2; omega
  ·rw [List.getElem?_toArray,zdh hle];rcases get k d hk with ⟨e1,h'⟩ | ⟨e1,h'⟩
   ·simp only [if_pos e1];rw [if_pos (by omega)];simpa using hcl k d h'
   ·simp only [if_neg (show ¬ k<es.length*sz by omega)];obtain ⟨v,hv,_⟩:=hc.rep _ d h';have hlt:k-es.length*sz<em.flatten.length:=(bD h').1;rw [if_neg (by omega),if_pos (by omega),show off+k-(off+es.length*sz)=k-es.length*sz by omega,hv];simp [List.getD_eq_getElem?_getD,hv]
  ·rcases get k d hk with ⟨e1,h'⟩ | ⟨e1,h'⟩
   ·simp only [if_pos e1];exact (hr k d h').congr fun x hx=>hw x (hG k x hx).2
   ·simp only [if_neg (show ¬ k<es.length*sz by omega)];obtain ⟨v,hv,hrv⟩:=hc.rep _ d h';simp only [List.getD_eq_getElem?_getD,hv,Option.getD_some];exact hrv.congr fun x hx=>hw x fun e=>hYb (e ▸ hc.inX _ x hx)
theorem zvo {g:Gh} {st:St} {F0:Nat->Prop} {sz:Nat} {es:List (List PV)} {v:Value} {ob:Ob} (hob:ob = .row sz es\/ob = .rowF sz es) (hs:zdw v sz 0 es.length v):zbc w (za3 g st.nx F0 v) (zav st ob) (.ref st.nx none st.ep 0 es.length) v:=by
 obtain ⟨a,n,cap,a',e1,e2,e3,e4,e5⟩:=hs;refine ⟨⟨_,_,_,e1⟩,Nat.lt_succ_self _,Nat.le_refl _,fun sz' es' hr => ?_⟩;have:sz'=sz/\es'=es:=by rcases hob with rfl | rfl <;> · simp [zav] at hr; exact ⟨hr.1.symm,hr.2.symm⟩
 obtain ⟨rfl,rfl⟩:=this;exact ⟨v,by simp [za0,za3],⟨a,n,cap,a',e1,e2,e3,e4,e5⟩,by simp⟩
theorem zcj.self {Z F:Nat->Prop} {sz:Nat} {es:List (List PV)} {v:Value} (h:zcj w Z F sz es v):zdw v sz 0 es.length v:=by
 rcases h.ok with ⟨⟨q,rfl⟩,rfl⟩ | ⟨b,off,cap,cur,t,us,rfl,_,_,hcap,_⟩
 ·exact ⟨_,0,0,_,rfl,by simp,by simp,rfl,.inl rfl⟩
 ·exact ⟨_,_,_,_,rfl,by simp,hcap,rfl,.inr ⟨_,_,rfl,by simp⟩⟩
theorem ypy {C:Ctx} {a:Act} {w:World} {g:Gh} {st:St} (h:SR C a w g st) {X Y:Nat->Prop} (hL:zaz C w g st (fun x=>Y x\/X x)) (hXY : ∀ x,X x->¬ Y x) {bv xv:Value} (hsh:ShB w g st (za5 bv)) {sz:Nat} (hsz0:0<sz) {eb em:List (List PV)} {fb:Bool} {fm:Option Bool} {vs:List Value}
  (hbo:fb=false->zal w X (.own sz eb) bv) (hbf:fb=true->zcj w g.Z X sz eb bv) (hm:zyo w g sz em fm Y vs) {t u ty e:TypeId} {ud:TypeDesc} {i:TypeInfo} (ht:C.P.underlying t=some (.slice e)) (hu:C.P.underlying u=some ud) (hud:(∃ ue,ud = .slice ue)\/ud = .string) (hi:C.P.info? e=some i) (hsz:i.size=sz) (hfit:zqb i=true)
  (hlen : ∀ w',(Builtin.lenOf xv).run C.P w' = .ok em.length w') (hf : ∀ w':World,w'.heap=w.heap->(Builtin.firstCells i.size em.length xv).run C.P w' = .ok vs.toArray w') (hroom:zag i.bytes (eb.length+em.length)=true) {r:PV} {st':St} (hout:zhh st sz (eb++em) fb fm=some (r,st')) :
  ∃ v w' g',(Builtin.append_ #[t,u] ty #[bv,xv]).run C.P w = .ok v w'/\SR C a w' g' st'/\zbc w' g' st' r v:=by
 subst hsz;obtain ⟨z,hz,hzs⟩:=qdl hfit;simp only [zag,Bool.and_eq_true,decide_eq_true_eq] at hroom;have hvs:vs=[]↔em=[]:=by
  have:=hm.len;constructor
  ·intro h0;rw [h0] at this;have h1:em.length*i.size=0:=this.symm;rcases Nat.mul_eq_zero.mp h1 with h' | h'
   ·exact List.eq_nil_of_length_eq_zero h'
   ·omega
  ·intro h0;rw [h0] at this;exact List.eq_nil_of_length_eq_zero (by rw [this]; simp)
 have hge:=fun cap=>grownCap_ge w (eb.length+em.length) cap e;cases fb with
 | false =>
  have hb:=hbo rfl;have hfm:fm≠some true:=by rintro rfl; simp [zhh] at hout
  have hout':(r,st')=Pe.newRow st i.size (eb++em):=by
   cases fm with
   | none=>exact (Option.some.inj hout).symm
   | some b=>cases b with
    | false=>exact (Option.some.inj hout).symm
    | true=>exact (hfm rfl).elim
  obtain ⟨H,hcm⟩:=hm.own hfm;obtain ⟨olds,ba,cap,G,rfl,hco,hse,hsh0⟩:=hb.list
  by_cases hr:eb.length+em.length<=cap
  ·by_cases hv:vs=[]
   ·have hem:=hvs.mp hv;subst hem;have run:=yn1 (P:=C.P) (w:=w) (ty:=ty) (zdc:=ba) ht hu hud hi hlen hf hr hv;simp only [List.length_nil,Nat.add_zero,List.append_nil] at run hout';have ad:=SR.add (F0:=X) (v := .slice ba eb.length cap) (o := .row i.size eb) h hL (fun _ _ _=>rfl) (Nat.le_refl _) rfl rfl rfl (fun x hx => .inl (.inr hx)) rfl hsh (fun x hx => .inl hx) (fun _ _ _=>rfl) (fun _=>hb);cases hout';exact ⟨_,w,_,run,ad.1,zvo (.inl rfl) (zdw.self hb)⟩
   ·have hem:em.length≠0:=fun h=>hv (hvs.mpr (List.eq_nil_of_length_eq_zero h));obtain ⟨b,off,cur,tt,rfl,hF,hbk,hsize⟩ : ∃ b off cur tt,ba=some ⟨b,off,none⟩/\X b/\w.heap[b]?=some (.cells cur tt (0,0))/\off+cap*i.size<=cur.size:=by
     generalize hn:eb.length=n at hb;cases hb with
     | nil=>exfalso; simp only [List.length_nil] at hr; omega
     | row hn hF hG hd hs hcap hbk hsz hcl hr=>exact ⟨_,_,_,_,rfl,hF,hbk,hsz⟩
    have hm1:(eb.length+em.length)*i.size<=cap*i.size:=Nat.mul_le_mul_right _ hr;rw [Nat.add_mul] at hm1;have hl:=hm.len;have run:=ymz (P:=C.P) (w:=w) (ty:=ty) ht hu hud hi hlen hf hr hbk (off:=off) (by omega) hcm.one;have hbk':=setRow_heap w b cur (zbf cur.toList (off+eb.length*i.size) vs).toArray tt _ hbk;have hmo:=hb.more hcm hm.hs hXY hr (by omega) hbk hbk' (fun x hx=>setRow_other w b x _ hx);have hbl:za5 (.slice (some ⟨b,off,none⟩) eb.length cap)=some b:=by simp only [za5]; rw [if_neg (by omega)]
    have ad:=SR.add (w':=w.setRow b (zbf cur.toList (off+eb.length*i.size) vs).toArray) (F0:=fun x=>X x\/Y x) (v := .slice (some ⟨b,off,none⟩) (eb.length+em.length) cap) (o := .row i.size (eb++em)) h hL (fun x _ hx=>setRow_other w b x _ fun e=>hx (.inr (e ▸ hF))) (by simp) rfl rfl rfl (fun x hx => .inl hx.symm) rfl hsh (fun x hx => .inl (by rw [hbl]; simp only [za5] at hx; split at hx; cases hx; exact hx)) (fun x _ hx=>setRow_other w b x _ fun e=>hx (by rw [hbl,e])) (fun _=>hmo);cases hout';exact ⟨_,_,_,run,ad.1,zvo (.inl rfl) (zdw.self hmo)⟩
  ·have hfo:=yee (P:=C.P) (sz:=i.size) (n:=eb.length) (xv := .slice ba eb.length cap) ⟨ba,cap,rfl,hsh0⟩ (by rw [hco.len,zcz hse]);have hm2:(eb.length+em.length)*i.bytes<=140737488355328:=hroom.1;have run:=yn6 (P:=C.P) (w:=w) (ty:=ty) ht hu hud hi hz hlen hf hfo (by omega) (by omega) (growslice_fits (by omega) hm2);have hca:=(hco.app hcm hXY).mono (Y:=fun x=>Y x\/X x) fun x hx=>hx.symm;rw [<- List.flatten_append] at hca;have hm3:(eb.length+em.length)*i.size<=grownCap w (eb.length+em.length) cap e*i.size:=Nat.mul_le_mul_right _ (hge cap);obtain ⟨g',s',r'⟩:=ybl (w':=w.drew.alloc (.cells (olds.toArray++vs.toArray++Builtin.zeroCells z.cells (grownCap w (eb.length+em.length) cap e-(eb.length+em.length))) e)) (cap:=grownCap w (eb.length+em.length) cap e) (cells:=olds.toArray++vs.toArray++Builtin.zeroCells z.cells (grownCap w (eb.length+em.length) cap e-(eb.length+em.length))) (t:=e) h hL hca (fun e he=>by rcases bM he with he | he; exact hse e he; exact hm.hs e he) (by simpa using hge cap)
    (by simp only [Array.size_append,List.size_toArray,size_zeroCells,hzs,hm.len,hco.len,zcz hse,Nat.sub_mul]; rw [Nat.add_mul] at hm3 ⊢; omega)
    (fun k v hk=>by
     have hlt:k<(olds++vs).length:=(bD hk).1;rw [show olds.toArray++vs.toArray=(olds++vs).toArray by simp,Array.getElem?_append_left (by simpa using hlt),List.getElem?_toArray]; exact hk) rfl rfl rfl rfl
   rw [<- hout'] at s' r';exact ⟨_,_,_,run,s',by simpa using r'⟩
 | true =>
  have hb:=hbf rfl;have hfm:fm≠some false:=by rintro rfl; simp [zhh] at hout
  have hout':(r,st')=zia st i.size (eb++em):=by
   cases fm with
   | none=>exact (Option.some.inj hout).symm
   | some b=>cases b with
    | true=>exact (Option.some.inj hout).symm
    | false=>exact (hfm rfl).elim
  have hpm:=hm.frz hfm;obtain ⟨olds,hpo,hse,_,ba,cap,rfl,hsh0⟩:=zcj.sub (lo:=0) (len:=eb.length) hb hb.self (by simp);have ecut:cut eb 0 eb.length=eb:=by simp [cut]
  rw [ecut] at hpo hse
  by_cases hr:eb.length+em.length<=cap
  ·by_cases hv:vs=[]
   ·have hem:=hvs.mp hv;subst hem;have run:=yn1 (P:=C.P) (w:=w) (ty:=ty) (zdc:=ba) ht hu hud hi hlen hf hr hv;simp only [List.length_nil,Nat.add_zero,List.append_nil] at run hout';have ad:=SR.add (F0:=X) (v := .slice ba eb.length cap) (o := .rowF i.size eb) h hL (fun _ _ _=>rfl) (Nat.le_refl _) rfl rfl rfl (fun x hx => .inl (.inr hx)) rfl hsh (fun x hx => .inl hx) (fun _ _ _=>rfl) (fun _=>hb);cases hout';exact ⟨_,w,_,run,ad.1,zvo (.inr rfl) hb.self⟩
   ·have hem:em.length≠0:=fun h=>hv (hvs.mpr (List.eq_nil_of_length_eq_zero h));rcases hb.ok with ⟨⟨q,h1⟩,h2⟩ | ⟨b,off,cap',cur,tt,us,h1,hF,hs,hcap,hbk,hsize,hcl⟩
    ·simp only [Value.slice.injEq] at h1; omega
    ·cases h1;have hm1:(eb.length+em.length)*i.size<=cap*i.size:=Nat.mul_le_mul_right _ hr;rw [Nat.add_mul] at hm1;have hl:=hm.len;have hfl:=zcz hse;have hfm':=zcz hm.hs;have hle:off+eb.length*i.size+vs.length<=cur.toList.length:=by simp only [Array.length_toList]; omega
     have one : ∀ v∈vs,v.oneCell'=true:=by
      intro v hv';obtain ⟨k,hk⟩:=bH hv';have hlt:k<em.flatten.length:=by rw [<- hpm.1]; exact (bD hk).1
      obtain ⟨v',h1,h2,h3⟩:=hpm.2 k _ (bG hlt);rw [hk] at h1; cases h1; exact h3
     have run:=ymz (P:=C.P) (w:=w) (ty:=ty) ht hu hud hi hlen hf hr hbk (off:=off) (by omega) one;have hbk':=setRow_heap w b cur (zbf cur.toList (off+eb.length*i.size) vs).toArray tt _ hbk;have hzb : ∀ x,g.Z x->x≠b:=fun x hx e=>hL.nz b (.inr hF) (e ▸ hx);have hmo:zcj (w.setRow b (zbf cur.toList (off+eb.length*i.size) vs).toArray) g.Z (fun x=>X x\/Y x) i.size (eb++em) (.slice (some ⟨b,off,none⟩) (eb.length+em.length) cap):=by
      refine ⟨.inr ⟨b,off,cap,_,tt,fun k=>if k<eb.length*i.size then us k else vs.getD (k-eb.length*i.size) default,by simp,.inl hF,fun e he=>by rcases bM he with he | he; exact hse e he; exact hm.hs e he,by simpa using hr,hbk',by rw [List.size_toArray,zj7 hle]; simpa using hsize,fun k d hk => ?_⟩⟩;rw [List.getElem?_toArray,zdh hle];rw [List.flatten_append] at hk
      by_cases e1:k<eb.length*i.size
      ·rw [List.getElem?_append_left (by omega)] at hk;simp only [if_pos e1];rw [if_pos (by omega)];obtain ⟨h1,h2,h3⟩:=hcl k d hk;exact ⟨by simpa using h1,zam.congr (fun x hx=>setRow_other w b x _ (hzb x hx)) h2,h3⟩
      ·rw [bO (by omega),hfl] at hk;simp only [if_neg e1];obtain ⟨v,hv',h2,h3⟩:=hpm.2 _ d hk;have hlt:k-eb.length*i.size<em.flatten.length:=(bD hk).1;rw [if_neg (by omega),if_pos (by omega),show off+k-(off+eb.length*i.size)=k-eb.length*i.size by omega,hv'];simp only [List.getD_eq_getElem?_getD,hv',Option.getD_some];exact ⟨trivial,zam.congr (fun x hx=>setRow_other w b x _ (hzb x hx)) h2,h3⟩
     have hbl:za5 (.slice (some ⟨b,off,none⟩) eb.length cap)=some b:=by simp only [za5]; rw [if_neg (by omega)]
     have ad:=SR.add (w':=w.setRow b (zbf cur.toList (off+eb.length*i.size) vs).toArray) (F0:=fun x=>X x\/Y x) (v := .slice (some ⟨b,off,none⟩) (eb.length+em.length) cap) (o := .rowF i.size (eb++em)) h hL (fun x _ hx=>setRow_other w b x _ fun e=>hx (.inr (e ▸ hF))) (by simp) rfl rfl rfl (fun x hx => .inl hx.symm) rfl hsh (fun x hx => .inl (by rw [hbl]; simp only [za5] at hx; split at hx; cases hx; exact hx)) (fun x _ hx=>setRow_other w b x _ fun e=>hx (by rw [hbl,e])) (fun _=>hmo);cases hout';exact ⟨_,_,_,run,ad.1,zvo (.inr rfl) hmo.self⟩
  ·have hfo:=yee (P:=C.P) (sz:=i.size) (n:=eb.length) (xv := .slice ba eb.length cap) ⟨ba,cap,rfl,hsh0⟩ (by rw [hpo.1,zcz hse]);have hm2:(eb.length+em.length)*i.bytes<=140737488355328:=hroom.1;have run:=yn6 (P:=C.P) (w:=w) (ty:=ty) ht hu hud hi hz hlen hf hfo (by omega) (by omega) (growslice_fits (by omega) hm2);have hm3:(eb.length+em.length)*i.size<=grownCap w (eb.length+em.length) cap e*i.size:=Nat.mul_le_mul_right _ (hge cap);have hfl:=zcz hse;obtain ⟨g',s',r'⟩:=yom (es:=eb++em) (us:=fun k=>(olds++vs).getD k default) (w':=w.drew.alloc (.cells (olds.toArray++vs.toArray++Builtin.zeroCells z.cells (grownCap w (eb.length+em.length) cap e-(eb.length+em.length))) e)) (cap:=grownCap w (eb.length+em.length) cap e) (cells:=olds.toArray++vs.toArray++Builtin.zeroCells z.cells (grownCap w (eb.length+em.length) cap e-(eb.length+em.length))) (t:=e) h (fun e he=>by rcases bM he with he | he; exact hse e he; exact hm.hs e he) (by simpa using hge cap)
    (by simp only [Array.size_append,List.size_toArray,size_zeroCells,hzs,hm.len,hpo.1,zcz hse,Nat.sub_mul]; rw [Nat.add_mul] at hm3 ⊢; omega)
    (fun k d hk=>by
     have hol:=hpo.1;have hvl:=hpm.1;have key : ∃ v,(olds++vs)[k]?=some v/\zam w g.Z d v/\v.oneCell'=true:=by
      rw [List.flatten_append] at hk
      by_cases e1:k<eb.flatten.length
      ·rw [List.getElem?_append_left e1] at hk;rw [List.getElem?_append_left (by omega)];exact hpo.2 k d hk
      ·rw [bO (by omega)] at hk;rw [bO (by omega),hol];exact hpm.2 _ d hk
     obtain ⟨v,hv,h1,h2⟩:=key;have hlt:k<(olds++vs).length:=(bD hv).1;simp only [List.getD_eq_getElem?_getD,hv,Option.getD_some];refine ⟨?_,h1,h2⟩;rw [show olds.toArray++vs.toArray=(olds++vs).toArray by simp,Array.getElem?_append_left (by simpa using hlt),List.getElem?_toArray]; exact hv) rfl rfl rfl rfl
   rw [<- hout'] at s' r';exact ⟨_,_,_,run,s',by simpa using r'⟩
end Go.Pe
namespace Go.Pe
open Go
theorem yqz {c:Call} {x y:Operand} {t u:TypeId} (hx:c.args.toList=[x,y]) (ht:c.argTypes.toList=[t,u]):c.args = #[x,y]/\c.argTypes = #[t,u] :=
 ⟨by rw [<- Array.toArray_toList (xs:=c.args),hx],by rw [<- Array.toArray_toList (xs:=c.argTypes),ht]⟩
theorem qgm {C:Ctx} {a:Act} {w:World} {g:Gh} {st:St} (h:SR C a w g st) {o:Oper} {c:Call} (ho:o.op = .call c) (hc:c.callee = .builtin .append) {x y:Operand} {t u e ue:TypeId} (hx:c.args.toList=[x,y]) (ht:c.argTypes.toList=[t,u]) (hty:C.P.underlying t=some (.slice e)) (huy:C.P.underlying u=some (.slice ue)) {i:TypeInfo} (hi:C.P.info? e=some i) (h0:0<i.size) (hz:zqb i=true)
  {x' y':Opd} (hx':zan C.vars x=some x') (hy':zan C.vars y=some y') {r:PV×St} (hr:zll st i.bytes i.size (x'.get st) (y'.get st)=some r):zat C o a w r.1 r.2:=by
 obtain ⟨e1,e2⟩:=yqz hx ht;have hs:=h.opd hx';have hv:=h.opd hy';simp only [zll] at hr;obtain ⟨⟨em,fm,st1⟩,hm,hr⟩:=bA hr;obtain ⟨⟨eb,fb,st2⟩,hb,hr⟩:=bA hr;simp only at hr hb;split at hr
 ·rename_i hroom;obtain ⟨r1,r2⟩:=r;obtain ⟨Y,vs,s1,l1,g1,m1,sh1⟩:=qfc h hv hm;obtain ⟨g2,X,s2,l2,d2,go2,shb,hZ,hbo,hbf⟩:=yog s1 l1 (hs.goes g1) hb;have m2:zyo w g2 i.size em fm Y vs:=⟨m1.len,m1.hs,m1.own,fun h=>by rw [hZ]; exact m1.frz h⟩;obtain ⟨v,w',g',run,s3,r3⟩:=ypy (ty:=o.type) s2 l2 d2 shb h0 hbo (fun h=>by rw [hZ]; exact hbf h) m2 hty huy (.inl ⟨ue,rfl⟩) hi rfl hz (qa7 sh1) (yee sh1 m1.len) hroom hr;refine zat.value (u:=v) ?_ s3 (zap.c r3);simp [execOp,ho,resolve,hc,e1,e2,invoke,builtin,run]
 ·cases hr
theorem qbm (s:ByteArray):(zjb s).length=s.size:=by simp only [zjb,List.length_map,Array.length_toList]; rfl
theorem ytp (s:ByteArray):(zjb s).flatten=s.data.toList.map fun b => .v (.int .u8 (b.toNat:Int)):=by
 unfold zjb
 induction s.data.toList with
 | nil=>rfl
 | cons b l ih=>simp [ih]
theorem qip {C:Ctx} {a:Act} {w:World} {g:Gh} {st:St} (h:SR C a w g st) {o:Oper} {c:Call} (ho:o.op = .call c) (hc:c.callee = .builtin .append) {x y:Operand} {t u e:TypeId} (hx:c.args.toList=[x,y]) (ht:c.argTypes.toList=[t,u]) (hty:C.P.underlying t=some (.slice e)) (huy:C.P.underlying u=some .string) {i:TypeInfo} (hi:C.P.info? e=some i) (h1:i.size=1) (hby:i.bytes=1) (hz:zqb i=true)
  {x' y':Opd} (hx':zan C.vars x=some x') (hy':zan C.vars y=some y') {q:ByteArray} (hq:zc5 (y'.get st)=some q) {r:PV×St} (hr:appS st (x'.get st) q=some r):zat C o a w r.1 r.2:=by
 obtain ⟨e1,e2⟩:=yqz hx ht;have hs:=h.opd hx';have hv:=h.opd hy';rw [z8h hq] at hv;have hv':a.eval y = .string q:=hv.v;simp only [appS] at hr;obtain ⟨⟨eb,fb,st2⟩,hb,hr⟩:=bA hr;simp only at hr hb;split at hr
 ·rename_i hroom;obtain ⟨r1,r2⟩:=r;obtain ⟨g2,X,s2,l2,d2,go2,shb,hZ,hbo,hbf⟩:=yog h (zaz.none C w g st) hs hb;have hlen:(zjb q).length=q.size:=qbm q;have m2:zyo w g2 1 (zjb q) none (fun _=>False) (q.data.toList.map fun b => .int .u8 (b.toNat:Int)):=by
   refine z8a (Y:=fun _=>False) ⟨by rw [ytp]; simp,fun k c hk => ?_⟩ ?_ ?_
   ·rw [ytp] at hk;simp only [List.getElem?_map,bB] at hk ⊢;obtain ⟨b,hb,rfl⟩:=hk;exact ⟨_,⟨b,hb,rfl⟩,.v rfl⟩
   ·intro e he;simp only [zjb,List.mem_map] at he;obtain ⟨b,_,rfl⟩:=he; rfl
   ·simp only [zch,List.all_eq_true];intro e he;simp only [zjb,List.mem_map] at he;obtain ⟨b,_,rfl⟩:=he;simp [isV]
  have hfc : ∀ w':World,w'.heap=w.heap->(Builtin.firstCells i.size (zjb q).length (.string q)).run C.P w' = .ok (q.data.toList.map fun b=>Value.int .u8 (b.toNat:Int)).toArray w':=by
   intro w' _;rw [hlen];simp [Builtin.firstCells]
   try (rw [<- Array.toList_map,Array.toArray_toList])
  obtain ⟨v,w',g',run,s3,r3⟩:=ypy (ty:=o.type) (xv := .string q) s2 l2 d2 shb (Nat.zero_lt_one) hbo (fun h=>by rw [hZ]; exact hbf h) m2 hty huy (.inr rfl) hi h1 hz (fun w'=>by rw [hlen]; simp [Builtin.lenOf]) hfc (by rw [hby,hlen]; exact hroom) hr;refine zat.value (u:=v) ?_ s3 (zap.c r3);simp [execOp,ho,resolve,hc,e1,e2,invoke,builtin,hv',run]
 ·cases hr
end Go.Pe
