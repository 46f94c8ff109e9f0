/- What the evaluator answers,the function answers in the model,wherever it is called (z73),if each compact text is its function (zlg); no other condition. -/
import Derived.Below
import Derived.ArgAppend
import Derived.Laws.Tables
import Derived.Laws.StructEq
import Derived.Laws.BytesString
import Derived.Laws.CopyRow
import Derived.Laws.MakeOwn
import Derived.Orders
import Derived.WalkKit
import Derived.ProofKit
import Derived.OpenShut
import Derived.ChangeOld
import Derived.Carry
import Derived.SizedLaws
import Derived.Laws.Externs
import Derived.Lib.SliceRun
import Derived.Sort.Grow
import Derived.Lib.SlicesCompact
import Derived.Test.YtpcphbbcnmhcnaaGreatEvB0
set_option linter.all false
namespace Go.Pe
open Go
def zi2 (w:World) (Z F:Nat->Prop) (cs:List PV) (h:Value):Prop :=
 ∃ b cur t,h = .pointer (some ⟨b,0,none⟩)/\F b/\w.heap[b]?=some (.cells cur t (0,0))/\cs.all zdv=true/\PW (fun _ c u=>zam w Z c u/\u.oneCell'=true) cs cur.toList
abbrev Hd:=(Nat->Prop)×Value
def InC (w:World) (Z:Nat->Prop):PV->Value->List Hd->Prop
 | .v x,u,l=>u=x/\l=[]
 | .sl sz es,u,l=>zam w Z (.sl sz es) u/\l=[]
 | .fptr cs j,u,l=>zux w Z cs j u/\l=[]
 | .own sz es,u,l => ∃ F,l=[(F,u)]/\zal w F (.own sz es) u
 | .bx cs,u,l => ∃ F,l=[(F,u)]/\zi2 w Z F cs u
 | _,_,_=>False
inductive zdz (R:PV->Value->List Hd->Prop):List PV->List Value->List Hd->Prop
 | nil:zdz R [] [] []
 | cons {c:PV} {u:Value} {l:List Hd} {cs:List PV} {us:List Value} {m:List Hd} (h:R c u l) (t:zdz R cs us m):zdz R (c::cs) (u::us) (l++m)
def InA (w:World) (Z:Nat->Prop):PV->Value->List Hd->Prop
 | .agg cs,u,l => ∃ us:Array Value,u = .agg us/\zdz (InC w Z) cs us.toList l
 | .fn f caps,u,l => ∃ us:Array Value,u = .func (.func f) #[] us/\zdz (InC w Z) caps us.toList []/\l=[]
 | c,u,l=>InC w Z c u l
structure Sep (w:World) (Z:Nat->Prop) (l:List Hd):Prop where
 zlt : ∀ x,Z x->x<w.heap.size
 lt : ∀ (k:Nat) (p:Hd) (x:Nat),l[k]?=some p->p.1 x->x<w.heap.size
 nz : ∀ (k:Nat) (p:Hd) (x:Nat),l[k]?=some p->p.1 x->¬ Z x
 dis : ∀ (i j:Nat) (p q:Hd) (x:Nat),l[i]?=some p->l[j]?=some q->p.1 x->q.1 x->i=j
def zzi (w:World) (Z:Nat->Prop) (F:Nat->Prop) (h:Value):PV->Prop
 | .own sz es=>zal w F (.own sz es) h
 | .bx cs=>zi2 w Z F cs h
 | .undef => ∀ x,¬ F x
 | _=>False
def zja:List Value->Value
 | [u]=>u
 | us => .tuple us.toArray
structure zp9 (w:World) (Z:Nat->Prop) (l:List Hd) (rets outs:List PV) (v:Value) (w':World) (Z':Nat->Prop) (l' lr:List Hd) (us:List Value):Prop where
 os:w'.os=w.os
 tape:w'.tape=w.tape
 output:w'.output=w.output
 size:w.heap.size<=w'.heap.size
 old : ∀ k,k<w.heap.size->(∀ p∈l,¬ p.1 k)->w'.heap[k]?=w.heap[k]?
 len:l'.length=l.length
 hd : ∀ (k:Nat) (p p':Hd),l[k]?=some p->l'[k]?=some p'->p'.2=p.2
 olen:outs.length=l.length
 outs : ∀ (k:Nat) (c:PV) (p':Hd),outs[k]?=some c->l'[k]?=some p'->zzi w' Z' p'.1 p'.2 c
 val:v=zja us
 rets:zdz (InA w' Z') rets us lr
 sep:Sep w' Z' (l'++lr)
 fro : ∀ p∈l'++lr,∀ x,p.1 x->(∃ q∈l,q.1 x)\/w.heap.size<=x
 zfro : ∀ x,Z' x->Z x\/w.heap.size<=x\/∃ q∈l,q.1 x
 zkeep : ∀ x,Z x->Z' x
def z8l (P:Program) (f:Nat) (args rets outs:List PV):Prop :=
 ∀ (w:World) (Z:Nat->Prop) (vals:Array Value) (l:List Hd),zdz (InA w Z) args vals.toList l->Sep w Z l ->
  Calls P f vals w fun e w'=>match e with
   | .returned v => ∃ Z' l' lr us,zp9 w Z l rets outs v w' Z' l' lr us
   | _=>False
theorem yc0 {w:World} {g:Gh} {st:St} {cs:List PV} {us:List Value} (hb:cs.all zdv=true) (h:PW (fun _ c u=>zam w g.Z c u/\u.oneCell'=true) cs us):zb1 w g st cs us/\∀ u∈us,u.oneCell'=true:=by
 refine ⟨⟨h.1,fun k c hc => ?_⟩,fun u hu => ?_⟩
 ·obtain ⟨u,hu,hr,_⟩:=h.2 k c hc;have hcb:=List.all_eq_true.mp hb c (bF hc);refine ⟨u,hu,?_⟩;cases c with
  | v x=>exact hr.v_eq
  | sl sz es=>exact hr
  | _=>simp [zdv,ze1,isF] at hcb
 ·obtain ⟨k,hk⟩:=bH hu;have hlt:k<cs.length:=by rw [<- h.1]; exact (bD hk).1
  obtain ⟨u',hu',_,h1⟩:=h.2 k _ (bG hlt);rw [hk] at hu'; cases hu'; exact h1
structure zhi (w:World) (g:Gh) (st:St):Prop where
 rel:Rel w g st
 ns : ∀ o sz es e,st.S o≠some (.shadow sz es e)
theorem zhi.bring {w:World} {g:Gh} {st:St} (h:zhi w g st) {ob:Ob} (hl:live (some ob)=true) (hob:zm5 w g (zav st ob) (g.F st.nx) (g.hv st.nx) ob) (hd : ∀ o x,g.F o x->g.F st.nx x->o=st.nx) (hz : ∀ x,g.F st.nx x->¬ g.Z x) (hlt : ∀ x,g.F st.nx x->x<w.heap.size) :
  zhi w g (zav st ob)/\zaq w g st w g (zav st ob):=by
 have r:=h.rel;have go:zaq w g st w g (zav st ob):=by
  refine ⟨Nat.le_succ _,Nat.le_refl _,fun o ho p e he sz es' hr => ?_,fun o ho cs' hb => ?_,fun _ h=>h,fun _ _=>rfl⟩
  ·have hne:o≠st.nx:=Nat.ne_of_lt ho;simp only [zav,zas,if_neg hne] at hr;refine ⟨es',hr,rfl,?_⟩;cases p with
   | none=>rfl
   | some q=>simp [za0,zav,hne]
  ·have hne:o≠st.nx:=Nat.ne_of_lt ho;simp only [zav,zas,if_neg hne] at hb;exact ⟨⟨cs',hb⟩,rfl⟩
 have liv : ∀ o',live ((zav st ob).S o')=true->o'=st.nx\/(o'≠st.nx/\live (st.S o')=true):=by
  intro o' hl';simp only [zav,zas] at hl'
  by_cases e:o'=st.nx
  ·exact .inl e
  ·rw [if_neg e] at hl'; exact .inr ⟨e,hl'⟩
 refine ⟨⟨⟨fun o b hb => ?_,fun o1 o2 x h1 h2 f1 f2 => ?_,fun o x hl' hf => ?_,fun o x hl' hf => ?_,r.zlt,fun o ho => ?_,fun o sz es e hs => ?_⟩,fun o sz es e hs => ?_⟩,go⟩
 ·simp only [zav,zas] at hb
  by_cases e:o=st.nx
  ·subst e; rw [if_pos rfl] at hb; cases hb; exact hob
  ·rw [if_neg e] at hb;have:=r.ob o b hb;cases b with
   | row=>exact this
   | rowF=>exact this
   | box cs=>obtain ⟨b,cur,t,h1,h2,h3,h4,h5⟩:=this; exact ⟨b,cur,t,h1,h2,h3,h4.goes go,h5⟩
   | shadow=>exact this
 ·rcases liv o1 h1 with e1 | ⟨e1,l1⟩ <;> rcases liv o2 h2 with e2 | ⟨e2,l2⟩
  ·rw [e1,e2]
  ·subst e1; exact (hd o2 x f2 f1).symm
  ·subst e2; exact hd o1 x f1 f2
  ·exact r.sep o1 o2 x l1 l2 f1 f2
 ·rcases liv o hl' with e | ⟨e,l⟩
  ·subst e; exact hz x hf
  ·exact r.nz o x l hf
 ·rcases liv o hl' with e | ⟨e,l⟩
  ·subst e; exact hlt x hf
  ·exact r.lt o x l hf
 ·simp only [zav] at ho ⊢;simp only [zas,if_neg (show ¬ o=st.nx by omega)];exact r.nxt o (by omega)
 ·simp only [zav,zas] at hs
  by_cases e1:o=st.nx
  ·rw [if_pos e1] at hs; cases hs; cases hl
  ·rw [if_neg e1] at hs; exact (h.ns _ _ _ _ hs).elim
 ·simp only [zav,zas] at hs
  by_cases e1:o=st.nx
  ·rw [if_pos e1] at hs; cases hs; cases hl
  ·rw [if_neg e1] at hs; exact h.ns _ _ _ _ hs
def zbp (w:World) (Z:Nat->Prop) (L:List Hd):Gh := { Z:=Z,K:=fun x=>w.heap.size<=x\/∃ p∈L,p.1 x,F:=fun k x => ∃ p,L[k]?=some p/\p.1 x,hv:=fun k=>((L[k]?).map (·.2)).getD default }
theorem yrp {w:World} {Z:Nat->Prop} {L:List Hd} (hS:Sep w Z L) {st st':St} (h:zhi w (zbp w Z L) st) {c c':PV} {u:Value} {l:List Hd} (hb:zc4 st c=some (c',st')) (hc:InC w Z c u l) (hL : ∀ (k:Nat) (p:Hd),l[k]?=some p->L[st.nx+k]?=some p) :
  zhi w (zbp w Z L) st'/\zaq w (zbp w Z L) st w (zbp w Z L) st'/\zbc w (zbp w Z L) st' c' u/\st'.nx=st.nx+l.length/\st'.V=st.V/\st'.E=st.E:=by
 have one : ∀ {F:Nat->Prop} {ob:Ob} {r:PV},l=[(F,u)]->live (some ob)=true->zm5 w (zbp w Z L) (zav st ob) F u ob->(zbc w (zbp w Z L) (zav st ob) r u)->zhi w (zbp w Z L) (zav st ob)/\zaq w (zbp w Z L) st w (zbp w Z L) (zav st ob)/\zbc w (zbp w Z L) (zav st ob) r u/\(zav st ob).nx=st.nx+l.length/\(zav st ob).V=st.V/\(zav st ob).E=st.E:=by
  intro F ob r hl hlv hob hr;have hp:L[st.nx]?=some (F,u):=by simpa using hL 0 (F,u) (by rw [hl]; rfl)
  have hF:(zbp w Z L).F st.nx=F:=by
   funext x
   simp only [zbp,hp,bC];exact propext ⟨fun ⟨p,e,hx⟩=>by rw [<- e] at hx; exact hx,fun hx=>⟨_,rfl,hx⟩⟩
  have hv:(zbp w Z L).hv st.nx=u:=by simp [zbp,hp]
  obtain ⟨f1,g1⟩:=h.bring hlv (by rw [hF,hv]; exact hob) (fun o x ho hx=>by
   obtain ⟨p,h1,h2⟩:=ho;obtain ⟨q,h3,h4⟩:=hx;exact hS.dis _ _ p q x h1 h3 h2 h4) (fun x hx=>by
   obtain ⟨q,h3,h4⟩:=hx;exact hS.nz _ q x h3 h4) (fun x hx=>by
   obtain ⟨q,h3,h4⟩:=hx;exact hS.lt _ q x h3 h4)
  exact ⟨f1,g1,hr,by rw [hl]; rfl,rfl,rfl⟩
 cases c with
 | v x =>
  simp only [zc4,bC,Prod.mk.injEq] at hb;obtain ⟨rfl,rfl⟩:=hb;obtain ⟨rfl,rfl⟩:=hc;exact ⟨h,zaq.refl _ _ _,rfl,rfl,rfl,rfl⟩
 | sl sz es =>
  simp only [zc4,bC,Prod.mk.injEq] at hb;obtain ⟨rfl,rfl⟩:=hb;obtain ⟨hr,rfl⟩:=hc;exact ⟨h,zaq.refl _ _ _,hr,rfl,rfl,rfl⟩
 | fptr cs j =>
  simp only [zc4,bC,Prod.mk.injEq] at hb;obtain ⟨rfl,rfl⟩:=hb;obtain ⟨hr,rfl⟩:=hc;exact ⟨h,zaq.refl _ _ _,hr,rfl,rfl,rfl⟩
 | own sz es =>
  simp only [zc4,Pe.newRow,bC,Prod.mk.injEq] at hb;obtain ⟨rfl,rfl⟩:=hb;obtain ⟨F,hl,hr⟩:=hc;have hp:L[st.nx]?=some (F,u):=by simpa using hL 0 (F,u) (by rw [hl]; rfl)
  refine one (ob := .row sz es) hl rfl hr ?_;obtain ⟨a,n,cap,a',e1,e2,e3,e4,e5⟩:=zdw.self hr;refine ⟨⟨_,_,_,e1⟩,Nat.lt_succ_self _,Nat.le_refl _,fun sz' es' hr' => ?_⟩;simp [zav] at hr';obtain ⟨rfl,rfl⟩:=hr';exact ⟨u,by simp [za0,zbp,hp],⟨a,n,cap,a',e1,e2,e3,e4,e5⟩,by simp⟩
 | bx cs =>
  simp only [zc4,zca,bC,Prod.mk.injEq] at hb;obtain ⟨rfl,rfl⟩:=hb;obtain ⟨F,hl,b,cur,t,hu,hF,hbk,hbx,hpw⟩:=hc;have hp:L[st.nx]?=some (F,u):=by simpa using hL 0 (F,u) (by rw [hl]; rfl)
  obtain ⟨hrc,h1⟩:=yc0 (g:=zbp w Z L) (st:=zav st (.box cs)) hbx hpw;refine one (ob := .box cs) hl rfl ⟨b,cur,t,hu,hF,hbk,hrc,h1⟩ ?_;refine ⟨Nat.lt_succ_self _,Nat.le_refl _,fun cs' hcs _ _=>⟨b,by simp [zbp,hp,hu],hu⟩,fun sz es hr=>by simp [zav,zax] at hr⟩
 | undef=>simp [zc4] at hb
 | e0=>simp [zc4] at hb
 | ref=>simp [zc4] at hb
 | ptr=>simp [zc4] at hb
 | fn=>exact hc.elim
 | agg=>simp [zc4] at hb
 | tup=>simp [zc4] at hb
theorem yql {w:World} {Z:Nat->Prop} {L:List Hd} (hS:Sep w Z L) : ∀ {cs cs':List PV} {us:List Value} {l:List Hd} {st st':St},zhi w (zbp w Z L) st->zlc st cs=some (cs',st')->zdz (InC w Z) cs us l->(∀ (k:Nat) (p:Hd),l[k]?=some p->L[st.nx+k]?=some p) ->
  zhi w (zbp w Z L) st'/\zaq w (zbp w Z L) st w (zbp w Z L) st'/\zb1 w (zbp w Z L) st' cs' us/\st'.nx=st.nx+l.length/\st'.V=st.V/\st'.E=st.E
 | [],cs',us,l,st,st',h,hb,hm,hL=>by
  cases hm;simp only [zlc,bC,Prod.mk.injEq] at hb;obtain ⟨rfl,rfl⟩:=hb;exact ⟨h,zaq.refl _ _ _,⟨rfl,by simp⟩,rfl,rfl,rfl⟩
 | c::cs,cs',us,l,st,st',h,hb,hm,hL=>by
  cases hm with
  | cons hc ht =>
   rename_i u l1 us m;simp only [zlc] at hb;obtain ⟨⟨d,st1⟩,h1,hb⟩:=bA hb;obtain ⟨⟨ds,st2⟩,h2,hb⟩:=bA hb;simp only [bC,Prod.mk.injEq] at hb;obtain ⟨rfl,rfl⟩:=hb;obtain ⟨f1,g1,r1,n1,v1,e1⟩:=yrp hS h h1 hc (fun k p hk=>hL k p (by rw [List.getElem?_append_left (bD hk).1]; exact hk));obtain ⟨f2,g2,r2,n2,v2,e2⟩:=yql hS f1 h2 ht (fun k p hk=>by
    rw [n1,Nat.add_assoc];exact hL _ p (by rw [bO (by omega)]; rw [show l1.length+k-l1.length=k by omega]; exact hk))
   refine ⟨f2,g1.trans g2,⟨by simp [r2.1],fun k c' hk => ?_⟩,by rw [n2,n1]; simp; omega,v2.trans v1,e2.trans e1⟩;cases k with
   | zero=>simp at hk; subst hk; exact ⟨u,by simp,r1.goes g2⟩
   | succ k=>simp at hk; obtain ⟨x,hx,hr⟩:=r2.2 k c' hk; exact ⟨x,by simpa using hx,hr⟩
end Go.Pe
namespace Go.Pe
open Go
variable {w:World} {g:Gh} {st:St} {u:Value} {l:List Hd} {io:Nat}
theorem qe3 {w:World} {g:Gh} {st:St} {cs:List PV} {us:List Value} {l:List Hd} (h:zdz (InC w g.Z) cs us l):l=[]->zb1 w g st cs us:=by
 induction h with
 | nil=>exact fun _=>⟨rfl,by simp⟩
 | cons hc ht ih =>
  rename_i c u l cs us m;intro hl;obtain ⟨rfl,rfl⟩:=List.append_eq_nil_iff.mp hl;have ih:=ih rfl;have hr:zbc w g st c u:=by
   cases c with
   | v x=>exact hc.1
   | sl sz es=>exact hc.1
   | fptr cs j=>exact hc.1
   | own sz es=>obtain ⟨F,h,_⟩:=hc; cases h
   | bx cs=>obtain ⟨F,h,_⟩:=hc; cases h
   | _=>exact hc.elim
  refine ⟨by simp [ih.1],fun k c' hk => ?_⟩;cases k with
  | zero=>simp at hk; subst hk; exact ⟨u,by simp,hr⟩
  | succ k=>simp at hk; obtain ⟨x,hx,hr⟩:=ih.2 k c' hk; exact ⟨x,by simpa using hx,hr⟩
theorem zei.c {c:PV} (h:zbc w g st c u):zei w g st c u:=by
 cases c <;> first | exact h | exact h.elim
theorem qhv {Z:Nat->Prop} {L:List Hd} (hS:Sep w Z L) {st st':St} (h:zhi w (zbp w Z L) st) {c c':PV} (hb:zg7 st c=some (c',st')) (hc:InA w Z c u l) (hL : ∀ (k:Nat) (p:Hd),l[k]?=some p->L[st.nx+k]?=some p) :
  zhi w (zbp w Z L) st'/\zaq w (zbp w Z L) st w (zbp w Z L) st'/\zei w (zbp w Z L) st' c' u/\st'.nx=st.nx+l.length/\st'.V=st.V/\st'.E=st.E:=by
 cases c with
 | agg cs =>
  simp only [zg7,bB,Prod.mk.injEq] at hb;obtain ⟨⟨ds,st1⟩,h1,rfl,rfl⟩:=hb;obtain ⟨us,rfl,hm⟩:=hc;obtain ⟨a1,a2,a3,a4⟩:=yql hS h h1 hm hL;exact ⟨a1,a2,⟨us,rfl,a3⟩,a4⟩
 | fn f caps =>
  simp only [zg7,zc4,bC,Prod.mk.injEq] at hb;obtain ⟨rfl,rfl⟩:=hb;obtain ⟨us,rfl,hm,rfl⟩:=hc;exact ⟨h,zaq.refl _ _ _,⟨us,rfl,qe3 (g:=zbp w Z L) hm rfl⟩,rfl,rfl,rfl⟩
 | _ =>
  simp only [zg7] at hb;obtain ⟨a1,a2,a3,a4⟩:=yrp hS h hb hc hL;exact ⟨a1,a2,zei.c a3,a4⟩
theorem ym5 {Z:Nat->Prop} {L:List Hd} (hS:Sep w Z L) : ∀ {cs cs':List PV} {us:List Value} {l:List Hd} {st st':St},zhi w (zbp w Z L) st->zlj st cs=some (cs',st')->zdz (InA w Z) cs us l->(∀ (k:Nat) (p:Hd),l[k]?=some p->L[st.nx+k]?=some p) ->
  zhi w (zbp w Z L) st'/\zaq w (zbp w Z L) st w (zbp w Z L) st'/\(cs'.length=us.length/\∀ (k:Nat) (c:PV),cs'[k]?=some c->∃ u,us[k]?=some u/\zei w (zbp w Z L) st' c u)/\st'.nx=st.nx+l.length/\st'.V=st.V/\st'.E=st.E
 | [],cs',us,l,st,st',h,hb,hm,hL=>by
  cases hm;simp only [zlj,bC,Prod.mk.injEq] at hb;obtain ⟨rfl,rfl⟩:=hb;exact ⟨h,zaq.refl _ _ _,⟨rfl,by simp⟩,rfl,rfl,rfl⟩
 | c::cs,cs',us,l,st,st',h,hb,hm,hL=>by
  cases hm with
  | cons hc ht =>
   rename_i u l1 us m;simp only [zlj] at hb;obtain ⟨⟨d,st1⟩,h1,hb⟩:=bA hb;obtain ⟨⟨ds,st2⟩,h2,hb⟩:=bA hb;simp only [bC,Prod.mk.injEq] at hb;obtain ⟨rfl,rfl⟩:=hb;obtain ⟨f1,g1,r1,n1,v1,e1⟩:=qhv hS h h1 hc (fun k p hk=>hL k p (by rw [List.getElem?_append_left (bD hk).1]; exact hk));obtain ⟨f2,g2,r2,n2,v2,e2⟩:=ym5 hS f1 h2 ht (fun k p hk=>by
    rw [n1,Nat.add_assoc];exact hL _ p (by rw [bO (by omega)]; rw [show l1.length+k-l1.length=k by omega]; exact hk))
   refine ⟨f2,g1.trans g2,⟨by simp [r2.1],fun k c' hk => ?_⟩,by rw [n2,n1]; simp; omega,v2.trans v1,e2.trans e1⟩;cases k with
   | zero=>simp at hk; subst hk; exact ⟨u,by simp,r1.goes g2⟩
   | succ k=>simp at hk; obtain ⟨x,hx,hr⟩:=r2.2 k c' hk; exact ⟨x,by simpa using hx,hr⟩
theorem zap.a {c:PV} (h:zei w g st c u):zap w g st c u:=by
 cases c <;> first | exact h | exact h.elim
def zgn (P:Program) (vars:List Nat) (nt:Nat) (w:World) (Z:Nat->Prop) (l:List Hd):Ctx := { P:=P,vars:=vars,nt:=nt,w0:=w,Z0:=Z,io:=fun x => ∃ p∈l,p.1 x,n0:=l.length,hv0:=(zbp w Z l).hv }
theorem yri {P:Program} {vars:List Nat} {nt:Nat} {w:World} {Z:Nat->Prop} {l:List Hd} {args:List PV} {vals:Array Value} (hm:zdz (InA w Z) args vals.toList l) (hS:Sep w Z l) {st:St} (hi:zkz args=some st) :
  SR (zgn P vars nt w Z l) { tmps:=vals++Array.replicate (nt-vals.size) undef,defers:=[] } w (zbp w Z l) st/\st.nx=l.length:=by
 simp only [zkz,bB] at hi;obtain ⟨⟨pvs,st1⟩,hb,rfl⟩:=hi;have h0:zhi w (zbp w Z l) st0:=⟨⟨(fun o b hb=>by cases hb),(fun o _ _ hl=>by cases hl),(fun o _ hl=>by cases hl),(fun o _ hl=>by cases hl),hS.zlt,(fun _ _=>rfl),(fun o _ _ _ h=>by cases h)⟩,(fun o sz es e h=>by cases h)⟩;obtain ⟨f1,g1,⟨rl,r1⟩,n1,v1,e1⟩:=ym5 hS h0 hb hm (fun k p hk=>by simpa [st0] using hk);have hn:st1.nx=l.length:=by rw [n1]; simp [st0]
 have go:zaq w (zbp w Z l) st1 w (zbp w Z l) { st1 with V:=fun k=>pvs.getD k .undef }:=zaq.of_eq _ _ rfl rfl rfl;have r:=f1.rel;refine ⟨⟨⟨fun o b hb => ?_,r.sep,r.nz,r.lt,r.zlt,r.nxt,r.shd⟩,fun k _ => ?_,fun k _ => ?_,?_,rfl,rfl,rfl,rfl,Nat.le_refl _,fun _ _ _=>rfl,fun o x hl hf => ?_,fun x hx => .inl hx,fun x hx=>hx,fun o ho=>rfl,?_,fun _=>Iff.rfl⟩,hn⟩
 ·have:=r.ob o b hb;cases b with
  | row=>exact this
  | rowF=>exact this
  | box cs=>obtain ⟨b,cur,t,h1,h2,h3,h4,h5⟩:=this; exact ⟨b,cur,t,h1,h2,h3,h4.goes go,h5⟩
  | shadow=>exact this
 ·simp only;rw [List.getD_eq_getElem?_getD];cases hk:pvs[k]? with
  | none=>trivial
  | some c =>
   obtain ⟨u,hu,hr⟩:=r1 k c hk;have hlt:k<vals.size:=by have:=(bD hu).1; simpa using this
   have e:(vals++Array.replicate (nt-vals.size) undef).getD k undef=u:=by
    rw [Array.getD_eq_getD_getElem?,Array.getElem?_append_left hlt];rw [Array.getElem?_toList] at hu; rw [hu]; rfl
   rw [e];exact zap.a (hr.goes go)
 ·have e:st1.E k = .undef:=by rw [e1]; rfl
  simp only [e]; trivial
 ·simp [zgn]; omega
 ·obtain ⟨p,h1,h2⟩:=hf;exact .inr ⟨p,bF h1,h2⟩
 ·simp only [zgn]; omega
inductive zfg (g:Gh) (st:St) (io:Nat):List Hd->List Nat->Prop
 | nil:zfg g st io [] []
 | root {o:Nat} {F:Nat->Prop} {v:Value} {l:List Hd} {rs:List Nat} (ho:io<=o) (hl:live (st.S o)=true) (hF : ∀ x,F x->g.F o x) (t:zfg g st io l rs):zfg g st io ((F,v)::l) (o::rs)
 | free {F:Nat->Prop} {v:Value} {l:List Hd} {rs:List Nat} (hF : ∀ x,¬ F x) (t:zfg g st io l rs):zfg g st io ((F,v)::l) rs
theorem zfg.app {l m:List Hd} {rs qs:List Nat} (h:zfg g st io l rs) (k:zfg g st io m qs):zfg g st io (l++m) (rs++qs):=by
 induction h with
 | nil=>exact k
 | root ho hl hF t ih=>exact .root ho hl hF ih
 | free hF t ih=>exact .free hF ih
theorem zfg.mem {rs:List Nat} (h:zfg g st io l rs) : ∀ p∈l,∀ x,p.1 x->∃ o∈rs,io<=o/\live (st.S o)=true/\g.F o x:=by
 induction h with
 | nil=>intro p hp; cases hp
 | root ho hl hF t ih =>
  intro p hp x hx;rcases List.mem_cons.mp hp with e | e
  ·subst e; exact ⟨_,List.mem_cons_self,ho,hl,hF x hx⟩
  ·obtain ⟨o,h1,h2⟩:=ih p e x hx; exact ⟨o,List.mem_cons_of_mem _ h1,h2⟩
 | free hF t ih =>
  intro p hp x hx;rcases List.mem_cons.mp hp with e | e
  ·subst e; exact (hF x hx).elim
  ·exact ih p e x hx
theorem yse {x:Nat} {xs:List Nat} (h:zev (x::xs)=true):x ∉ xs/\zev xs=true:=by
 simp only [zev,Bool.and_eq_true,Bool.not_eq_true'] at h;refine ⟨fun hm => ?_,h.2⟩;have:=List.any_eq_false.mp h.1 x hm;simp at this
theorem zfg.dis (hR:Rel w g st) {rs:List Nat} (h:zfg g st io l rs):zev rs=true->∀ (i j:Nat) (p q:Hd) (x:Nat),l[i]?=some p->l[j]?=some q->p.1 x->q.1 x->i=j:=by
 induction h with
 | nil=>intro _ i j p q x hp; simp at hp
 | root ho hl hF t ih =>
  rename_i o F v l rs;intro hn i j p q x hp hq hpx hqx;obtain ⟨hn1,hn2⟩:=yse hn;cases i with
  | zero =>
   cases j with
   | zero=>rfl
   | succ j =>
    simp at hp hq;subst hp;obtain ⟨o',h1,_,h3,h4⟩:=t.mem q (bF hq) x hqx;have:=hR.sep o o' x hl h3 (hF x hpx) h4;subst this; exact (hn1 h1).elim
  | succ i =>
   cases j with
   | zero =>
    simp at hp hq;subst hq;obtain ⟨o',h1,_,h3,h4⟩:=t.mem p (bF hp) x hpx;have:=hR.sep o o' x hl h3 (hF x hqx) h4;subst this; exact (hn1 h1).elim
   | succ j =>
    simp at hp hq;rw [ih hn2 i j p q x hp hq hpx hqx]
 | free hF t ih =>
  rename_i F v l rs;intro hn i j p q x hp hq hpx hqx;cases i with
  | zero=>simp at hp; subst hp; exact (hF x hpx).elim
  | succ i =>
   cases j with
   | zero=>simp at hq; subst hq; exact (hF x hqx).elim
   | succ j =>
    simp at hp hq;rw [ih hn i j p q x hp hq hpx hqx]
theorem ydg {F:Nat->Prop} {cs:List PV} {h:Value} (hb:zy1 w g st F cs h) (hc:cs.all zdv=true):zi2 w g.Z F cs h:=by
 obtain ⟨b,cur,t,h1,h2,h3,h4,h5⟩:=hb;refine ⟨b,cur,t,h1,h2,h3,hc,h4.1,fun k c hk => ?_⟩;obtain ⟨u,hu,hr⟩:=h4.2 k c hk;have hcb:=List.all_eq_true.mp hc c (bF hk);refine ⟨u,hu,?_,h5 u (bF hu)⟩;cases c with
 | v x =>
  have:u=x:=hr;subst this;exact .v (by simpa [zdv,ze1,isF] using hcb)
 | sl sz es=>exact hr
 | _=>simp [zdv,ze1,isF] at hcb
theorem yoi (hR:Rel w g st) {io sz:Nat} {c y:PV} (hs:zdp st io sz c=some y) (hc:zbc w g st c u) : ∃ l,InC w g.Z y u l/\zfg g st io l (root c):=by
 cases c with
 | v x =>
  simp only [zdp,bC] at hs;subst hs;exact ⟨[],⟨hc,rfl⟩,.nil⟩
 | e0 =>
  simp only [zdp,bC] at hs;subst hs;obtain ⟨q,rfl⟩:=hc;exact ⟨[(fun _=>False,_)],⟨_,rfl,.nil⟩,.free (fun _ h=>h) .nil⟩
 | sl s es =>
  simp only [zdp,bC] at hs;subst hs;exact ⟨[],⟨hc,rfl⟩,.nil⟩
 | ref o p ep lo len =>
  simp only [zdp] at hs;obtain ⟨_,_,_,q3⟩:=hc;cases hS:st.S o with
  | none=>rw [hS] at hs; simp [zld] at hs
  | some ob =>
   rw [hS] at hs;cases ob with
   | row s es =>
    cases p with
    | some q=>simp [zld] at hs
    | none =>
     simp only [zld] at hs;split at hs
     ·rename_i hio;simp only [bC] at hs;subst hs;obtain ⟨hd,hh,hsub,hl⟩:=q3 s es (by rw [hS]; rfl);simp only [za0,bC] at hh;subst hh;have hob:zal w (g.F o) (.own s es) (g.hv o):=hR.ob o _ hS;exact ⟨[(g.F o,u)],⟨_,rfl,hob.part hsub hl⟩,.root hio (by rw [hS]; rfl) (fun _ h=>h) .nil⟩
     ·cases hs
   | rowF=>simp [zld] at hs
   | box=>simp [zld] at hs
   | shadow=>simp [zld] at hs
 | ptr o p ep i j =>
  simp only [zdp] at hs;obtain ⟨_,_,q3,_⟩:=hc;cases hS:st.S o with
  | none=>rw [hS] at hs; simp [zk0] at hs
  | some ob =>
   rw [hS] at hs;cases ob with
   | box cs =>
    cases p with
    | some q=>simp [zk0] at hs
    | none =>
     simp only [zk0] at hs;split at hs
     ·rename_i hio;simp only [bC] at hs;subst hs;obtain ⟨h1,h2,h3,h4⟩:=hio;obtain ⟨b,hb,hu⟩:=q3 cs hS rfl h2;have hob:zy1 w g st (g.F o) cs (g.hv o):=hR.ob o _ hS;have hbx:=ydg hob h4;rw [hb] at hbx;subst h3;rw [<- hu] at hbx;exact ⟨[(g.F o,u)],⟨_,rfl,hbx⟩,.root h1 (by rw [hS]; rfl) (fun _ h=>h) .nil⟩
     ·cases hs
   | rowF=>simp [zk0] at hs
   | row=>simp [zk0] at hs
   | shadow=>simp [zk0] at hs
 | _=>simp [zdp] at hs
theorem yu1 (hR:Rel w g st) : ∀ {szs:List Nat} {cs ys:List PV} {us:List Value},zj3 st io szs cs=some ys->zb1 w g st cs us->∃ l,zdz (InC w g.Z) ys us l/\zfg g st io l (cs.flatMap root)
 | szs,[],ys,us,hs,hr=>by
  have:ys=[]:=by cases szs <;> simpa [zj3] using hs.symm
  subst this;have:us=[]:=List.eq_nil_of_length_eq_zero hr.1;subst this;exact ⟨[],.nil,.nil⟩
 | szs,c::cs,ys,us,hs,hr=>by
  have hs' : ∃ sz szs',(zdp st io sz c).bind (fun x=>(zj3 st io szs' cs).bind fun xs=>some (x::xs))=some ys:=by
   cases szs with
   | nil=>exact ⟨0,[],hs⟩
   | cons sz szs=>exact ⟨sz,szs,hs⟩
  obtain ⟨sz,szs',hs⟩:=hs';obtain ⟨y,h1,hs⟩:=bA hs;obtain ⟨ys',h2,hs⟩:=bA hs;cases hs;obtain ⟨u,hu,hc⟩:=hr.2 0 c (by simp);cases us with
  | nil=>simp at hu
  | cons u' us =>
   simp at hu;subst hu;obtain ⟨l1,i1,r1⟩:=yoi hR h1 hc;obtain ⟨l2,i2,r2⟩:=yu1 hR h2 (⟨by simpa using hr.1,fun k c hc=>by simpa using hr.2 (k+1) c (by simpa using hc)⟩:zb1 w g st cs us);exact ⟨l1++l2,.cons i1 i2,by rw [List.flatMap_cons]; exact r1.app r2⟩
theorem qhy (hR:Rel w g st) {szs:List Nat} {c y:PV} (hs:zhg st io szs c=some y) (hc:zap w g st c u) : ∃ l,InA w g.Z y u l/\zfg g st io l (zd2 c):=by
 have inA : ∀ {y:PV} {l:List Hd},InC w g.Z y u l->InA w g.Z y u l:=by
  intro y l h; cases y <;> first | exact h | exact h.elim
 cases c with
 | agg cs =>
  simp only [zhg,bB] at hs;obtain ⟨ys,h1,rfl⟩:=hs;obtain ⟨us,rfl,hr⟩:=hc;obtain ⟨l,h2,h3⟩:=yu1 hR h1 hr;exact ⟨l,⟨us,rfl,h2⟩,h3⟩
 | fn f caps=>simp [zhg,zdp] at hs
 | tup vs=>simp [zhg,zdp] at hs
 | _ =>
  simp only [zhg] at hs;obtain ⟨l,h1,h2⟩:=yoi hR hs hc;exact ⟨l,inA h1,h2⟩
end Go.Pe
namespace Go.Pe
open Go
variable {w:World} {g:Gh} {st:St}
theorem ysk {P:Program} {t:TypeId} {l:List Nat} (h:zp3 P t=some l):zds P t=some l.length:=by
 unfold zp3 at h;obtain ⟨m,hm,h⟩:=bA h;split at h
 ·rename_i hs; cases h; exact hs
 ·cases h
def zzd (tmps:Array Value):ResultVar->Sem Value
 | .tmp t=>pure (tmps.getD t undef)
 | .cell a t=>do loadVar t (<- asAddr (tmps.getD a undef))
theorem qbx {C:Ctx} {a:Act} (h:SR C a w g st) {r:ResultVar} {t:TypeId} {rv:RV} (hc:z9k C.P C.vars r t=some rv) {x:PV} (hx:zpy st rv=some x) : ∃ u,(zzd a.tmps r).run C.P w = .ok u w/\zap w g st x u:=by
 cases r with
 | tmp k =>
  simp only [z9k] at hc;obtain ⟨l,hl,hc⟩:=bA hc;split at hc
  ·rename_i hk;cases hc;simp only [zpy,bC] at hx;subst hx;exact ⟨_,rfl,h.tv k hk⟩
  ·cases hc
 | cell k u =>
  simp only [z9k] at hc;obtain ⟨l,hl,hc⟩:=bA hc;obtain ⟨ag,hag,hc⟩:=bA hc;split at hc
  ·rename_i hk;cases hc;simp only [Bool.and_eq_true] at hk;simp only [zpy] at hx;obtain ⟨ds,hds,hx⟩:=bA hx;obtain ⟨n1,n2,n3⟩:=yn0 hds;obtain ⟨hlen,b,off,hu,hcell⟩:=ypb h.rel ((h.tv k hk.1).toC n1 n2 n3) hds;obtain ⟨us,hul,hus,hrs⟩:=yu3 hcell;cases ag with
   | true =>
    simp only [ypf,bC] at hx;subst hx;have:=yuv (P:=C.P) (w:=w) (t:=u) (us:=us) (b:=b) (off:=off) (by rw [ysk hl,hul,hlen]) hag hus;exact ⟨.agg us.toArray,by simp [zzd,hu,asAddr,this],⟨us.toArray,rfl,hrs⟩⟩
   | false =>
    match ds,hx,hcell with
    | [d],hx,hcell =>
     simp only [ysm,bC] at hx;subst hx;obtain ⟨v,hv,hrv⟩:=hcell 0 d (by simp);have:=ytz (P:=C.P) (w:=w) (t:=u) hag hv;simp only [Nat.add_zero] at this;exact ⟨v,by simp [zzd,hu,asAddr,this],zap.c hrv⟩
  ·cases hc
def ze6 (w:World) (g:Gh) (st:St) (xs:List (List Nat×PV)) (us:List Value):Prop:=us.length=xs.length/\∀ (k:Nat) (q:List Nat×PV),xs[k]?=some q->∃ u,us[k]?=some u/\zap w g st q.2 u
theorem ypt {C:Ctx} {a:Act} (h:SR C a w g st) : ∀ {rs:List ResultVar} {ts:List TypeId} {rvs:List RV} {xs:List (List Nat×PV)},zjq C.P C.vars rs ts=some rvs->zjx st rvs=some xs->∃ us,(rs.mapM (zzd a.tmps)).run C.P w = .ok us w/\ze6 w g st xs us
 | [],[],rvs,xs,hc,hx=>by
  simp only [zjq,bC] at hc;subst hc;simp only [zjx,bC] at hx;subst hx;exact ⟨[],rfl,rfl,by simp⟩
 | r::rs,t::ts,rvs,xs,hc,hx=>by
  simp only [zjq] at hc;obtain ⟨rv,h1,hc⟩:=bA hc;simp only [bB] at hc;obtain ⟨rvs',h2,rfl⟩:=hc;simp only [zjx] at hx;obtain ⟨x,h3,hx⟩:=bA hx;obtain ⟨xs',h4,hx⟩:=bA hx;cases hx;obtain ⟨u,e1,r1⟩:=qbx h h1 h3;obtain ⟨us,e2,r2⟩:=ypt h h2 h4;refine ⟨u::us,by simp [List.mapM_cons,e1,e2],by simp [r2.1],fun k q hk => ?_⟩;cases k with
  | zero=>simp at hk; subst hk; exact ⟨u,by simp,r1⟩
  | succ k=>simp at hk; obtain ⟨v,hv,hr⟩:=r2.2 k q hk; exact ⟨v,by simpa using hv,hr⟩
 | [],t::ts,_,_,hc,_=>by simp [zjq] at hc
 | r::rs,[],_,_,hc,_=>by simp [zjq] at hc
theorem qf4 {C:Ctx} {a:Act} {w:World} {g:Gh} {st:St} (h:SR C a w g st) {fn:Func} {rvs:List RV} {xs:List (List Nat×PV)} (hc:zjq C.P C.vars fn.results.toList fn.resultTypes.toList=some rvs) (hx:zjx st rvs=some xs) : ∃ us,(results fn a.tmps).run C.P w = .ok (zja us) w/\ze6 w g st xs us:=by
 obtain ⟨us,e1,r1⟩:=ypt h hc hx;refine ⟨us,?_,r1⟩;have e:results fn a.tmps=(fn.results.mapM (zzd a.tmps) >>= fun vs=>pure (if h:vs.size=1 then vs[0] else Value.tuple vs)):=by
  unfold results;refine congrArg (fun f:ResultVar->Sem Value=>fn.results.mapM f >>= fun vs=>pure (if h:vs.size=1 then vs[0] else Value.tuple vs)) (funext fun r => ?_);cases r <;> rfl
 rw [e,Array.mapM_eq_mapM_toList];simp only [Sem.run_bind,Sem.run_map,e1,Result.andThen_ok,Sem.run_pure];cases us with
 | nil=>rfl
 | cons u us=>cases us with
  | nil=>rfl
  | cons v us=>simp [zja]
theorem yng (hR:Rel w g st) {io:Nat} : ∀ {xs:List (List Nat×PV)} {ys:List PV} {us:List Value},zlb st io xs=some ys->ze6 w g st xs us->∃ l,zdz (InA w g.Z) ys us l/\zfg g st io l (xs.flatMap fun x=>zd2 x.2)
 | [],ys,us,hs,hr=>by
  simp only [zlb,bC] at hs;subst hs;have:us=[]:=List.eq_nil_of_length_eq_zero hr.1;subst this;exact ⟨[],.nil,.nil⟩
 | (szs,x)::xs,ys,us,hs,hr=>by
  simp only [zlb] at hs;obtain ⟨y,h1,hs⟩:=bA hs;obtain ⟨ys',h2,hs⟩:=bA hs;cases hs;obtain ⟨u,hu,hc⟩:=hr.2 0 (szs,x) (by simp);cases us with
  | nil=>simp at hu
  | cons u' us =>
   simp at hu;subst hu;obtain ⟨l1,i1,r1⟩:=qhy hR h1 hc;obtain ⟨l2,i2,r2⟩:=yng hR h2 (⟨by simpa using hr.1,fun k c hc=>by simpa using hr.2 (k+1) c (by simpa using hc)⟩:ze6 w g st xs us);exact ⟨l1++l2,.cons i1 i2,by rw [List.flatMap_cons]; exact r1.app r2⟩
theorem ysl (hR:Rel w g st) : ∀ {n:Nat} {os:List PV},zle st n=some os->os.length=n/\∀ (k:Nat) (c:PV),os[k]?=some c->zzi w g.Z (g.F k) (g.hv k) c/\live (st.S k)=true
 | 0,os,h=>by simp only [zle,bC] at h; subst h; exact ⟨rfl,by simp⟩
 | n+1,os,h=>by
  simp only [zle] at h;obtain ⟨l,hl,h⟩:=bA h;simp only [bB] at h;obtain ⟨x,hx,rfl⟩:=h;obtain ⟨e1,e2⟩:=ysl hR hl;refine ⟨by simp [e1],fun k c hk => ?_⟩
  by_cases e:k<l.length
  ·rw [List.getElem?_append_left e] at hk; exact e2 k c hk
  ·rw [bO (by omega)] at hk;have hk0:k=n:=by
    have:=(bD hk).1;simp at this; omega
   subst hk0;simp [e1] at hk;subst hk;cases hS:st.S k with
   | none=>rw [hS] at hx; simp [ziu] at hx
   | some ob =>
    rw [hS] at hx;have hob:=hR.ob k ob hS;cases ob with
    | row sz es =>
     simp only [ziu,bC] at hx;subst hx;exact ⟨hob,rfl⟩
    | box cs =>
     simp only [ziu] at hx;split at hx
     ·rename_i hc;simp only [bC] at hx;subst hx;exact ⟨ydg hob hc,rfl⟩
     ·cases hx
    | rowF=>simp [ziu] at hx
    | shadow=>simp [ziu] at hx
theorem yst {P:Program} {vars:List Nat} {nt:Nat} {Z:Nat->Prop} {l:List Hd} {a:Act} {w':World} (h:SR (zgn P vars nt w Z l) a w' g st) {xs:List (List Nat×PV)} {us:List Value} (rl:ze6 w' g st xs us) {ys os:List PV} (hf:zx7 l.length (st,xs)=some (ys,os)) :
  ∃ lr,zp9 w Z l ys os (zja us) w' g.Z ((List.range l.length).map fun k=>(g.F k,g.hv k)) lr us:=by
 simp only [zx7] at hf;split at hf
 ·rename_i hn;obtain ⟨ys',h2,hf⟩:=bA hf;simp only [bB,Prod.mk.injEq] at hf;obtain ⟨os',h3,rfl,rfl⟩:=hf;obtain ⟨lr,m1,i1⟩:=yng h.rel h2 rl;obtain ⟨e1,e2⟩:=ysl h.rel h3;have r:=h.rel;have hget : ∀ k,k<l.length->((List.range l.length).map fun k=>(g.F k,g.hv k))[k]?=some (g.F k,g.hv k):=by
   intro k hk; rw [List.getElem?_map,List.getElem?_range hk]; rfl
  have hlive : ∀ k,k<l.length->live (st.S k)=true:=fun k hk=>(e2 k _ (bG (by omega))).2;have hl':((List.range l.length).map fun k=>(g.F k,g.hv k)).length=l.length:=by simp
  have item : ∀ (i:Nat) (p:Hd) (x:Nat),(((List.range l.length).map fun k=>(g.F k,g.hv k))++lr)[i]?=some p->p.1 x->(i<l.length/\live (st.S i)=true/\g.F i x)\/(l.length<=i/\lr[i-l.length]?=some p/\∃ o,l.length<=o/\live (st.S o)=true/\g.F o x):=by
   intro i p x hp hx
   by_cases e:i<l.length
   ·rw [List.getElem?_append_left (by rw [hl']; exact e),hget i e] at hp;cases hp;exact .inl ⟨e,hlive i e,hx⟩
   ·rw [bO (by rw [hl']; omega),hl'] at hp;obtain ⟨o,_,h4,h5,h6⟩:=i1.mem p (bF hp) x hx;exact .inr ⟨by omega,hp,o,h4,h5,h6⟩
  have any : ∀ (i:Nat) (p:Hd) (x:Nat),(((List.range l.length).map fun k=>(g.F k,g.hv k))++lr)[i]?=some p->p.1 x->∃ o,live (st.S o)=true/\g.F o x:=by
   intro i p x hp hx;rcases item i p x hp hx with ⟨_,h4,h5⟩ | ⟨_,_,o,_,h5,h6⟩
   ·exact ⟨_,h4,h5⟩
   ·exact ⟨_,h5,h6⟩
  refine ⟨lr,h.os,h.tape,h.output,h.size,fun k hk hp=>h.old k hk (fun ⟨p,h4,h5⟩=>hp p h4 h5),hl',fun k p p' hp hp' => ?_,e1,fun k c p' hk hp' => ?_,rfl,m1,⟨r.zlt,fun k p x hp hx => ?_,fun k p x hp hx => ?_,fun i j p q x hp hq hx hy => ?_⟩,fun p hp x hx => ?_,h.zin,h.z0⟩
  ·have hlt:k<l.length:=(bD hp).1;rw [hget k hlt] at hp';cases hp';rw [h.hv k hlt];simp [zgn,zbp,hp]
  ·have hlt:k<l.length:=by have:=(bD hk).1; omega
   rw [hget k hlt] at hp';cases hp';exact (e2 k c hk).1
  ·obtain ⟨o,h4,h5⟩:=any k p x hp hx; exact r.lt o x h4 h5
  ·obtain ⟨o,h4,h5⟩:=any k p x hp hx; exact r.nz o x h4 h5
  ·rcases item i p x hp hx with ⟨a1,a2,a3⟩ | ⟨a1,a2,o,a3,a4,a5⟩ <;> rcases item j q x hq hy with ⟨b1,b2,b3⟩ | ⟨b1,b2,o',b3,b4,b5⟩
   ·exact r.sep i j x a2 b2 a3 b3
   ·have:=r.sep i o' x a2 b4 a3 b5; omega
   ·have:=r.sep o j x a4 b2 a5 b3; omega
   ·have:=i1.dis r hn _ _ p q x a2 b2 hx hy; omega
  ·obtain ⟨k,hk⟩:=bH hp;obtain ⟨o,h4,h5⟩:=any k p x hk hx;rcases h.own o x h4 h5 with h6 | h6
   ·exact .inr h6
   ·exact .inl h6
 ·cases hf
end Go.Pe
namespace Go.Pe
open Go
variable {w:World} {u:Value} {g:Gh} {st:St} {Zc:Nat->Prop} {y:PV}
def qie (g:Gh) (st:St):PV->Hd->Prop
 | .e0,p => ∀ x,¬ p.1 x
 | .ref o none _ lo len,p=>lo=0/\p.1=g.F o/\∃ s es,st.S o=some (.row s es)/\len=es.length/\zdw (g.hv o) s 0 len p.2/\∃ a cap,g.hv o = .slice a len cap
 | .ptr o none _ _ _,p => ∃ cs b,st.S o=some (.box cs)/\p.2=g.hv o/\g.hv o = .pointer (some ⟨b,0,none⟩)/\g.F o b/\p.1=fun x=>x=b
 | _,_=>False
def zli (g:Gh) (st:St) (hs:List PV) (l:List Hd):Prop:=Two (qie g st) hs l
theorem Two.app {α β:Type} {R:α->β->Prop} {xs xs':List α} {ys ys':List β} (h:Two R xs ys) (k:Two R xs' ys'):Two R (xs++xs') (ys++ys'):=by
 induction h with
 | nil=>exact k
 | cons h t ih=>exact .cons h ih
theorem zux.mono {Z Z':Nat->Prop} (hZ : ∀ x,Z x->Z' x) {cs:List PV} {j:Nat} (h:zux w Z cs j u):zux w Z' cs j u:=by
 obtain ⟨b,off,us,h1,h2,h3⟩:=h;exact ⟨b,off,us,hZ b h1,h2,fun k d hd=>⟨(h3 k d hd).1,(h3 k d hd).2.mono hZ⟩⟩
theorem yq8 (hR:Rel w g st) (hZ : ∀ x,g.Z x->Zc x) {sz:Nat} {c y:PV} (hs:zcg st sz c=some y) (hc:zbc w g st c u) (hr : ∀ o∈root c,∀ x,zpt g st o x->x<w.heap.size->Zc x):InC w Zc y u []:=by
 cases c with
 | v x=>simp only [zcg,bC] at hs; subst hs; exact ⟨hc,rfl⟩
 | e0 =>
  simp only [zcg,bC] at hs; subst hs;obtain ⟨q,rfl⟩:=hc;exact ⟨.nil rfl,rfl⟩
 | sl s es=>simp only [zcg,bC] at hs; subst hs; exact ⟨zam.mono hZ hc,rfl⟩
 | ref o p ep lo len =>
  simp only [zcg,bB] at hs;obtain ⟨r,h1,rfl⟩:=hs;obtain ⟨Y,h2,h3,h4⟩:=ycc hR (zap.c hc) (show zfw st (.ref o p ep lo len)=some (r.1,cut r.2 lo len) by simp only [zfw,h1,Option.map_some]);refine ⟨h2.mono fun x hx => ?_,rfl⟩;rcases h4 x hx with h5 | ⟨o',h5,h6⟩
  ·exact hZ x h5
  ·simp only [zd2,root,List.cons.injEq,and_true] at h5;subst h5;exact hr o (by simp [root]) x h6 (h3 x hx)
 | fptr cs j=>simp only [zcg,bC] at hs; subst hs; exact ⟨zux.mono hZ hc,rfl⟩
 | ptr o p ep i j =>
  simp only [zcg] at hs;obtain ⟨_,_,q3,_⟩:=hc;cases hS:st.S o with
  | none=>rw [hS] at hs; simp [zjz] at hs
  | some ob =>
   rw [hS] at hs;cases ob with
   | box cs =>
    cases p with
    | some q=>simp [zjz] at hs
    | none =>
     simp only [zjz] at hs;split at hs
     ·rename_i hi;simp only [bC] at hs;subst hs;obtain ⟨b,hb,hu⟩:=q3 cs hS rfl hi.1;obtain ⟨b',cur,t,h1,h2,h3,h4,h5⟩:=(hR.ob o _ hS:zy1 w g st (g.F o) cs (g.hv o));rw [hb] at h1; cases h1;have hl:live (st.S o)=true:=by rw [hS]; rfl
      refine ⟨⟨b,0,fun k=>cur.toList.getD k default,hr o (by simp [root]) b (.inl ⟨hl,h2⟩) (hR.lt o b hl h2),by rw [hu,Nat.zero_add],fun k d hd => ?_⟩,rfl⟩;obtain ⟨v,hv,hrv⟩:=h4.2 k d hd;have hp:=List.all_eq_true.mp hi.2 d (bF hd);simp only [List.getD_eq_getElem?_getD,hv,Option.getD_some];refine ⟨by rw [cell_of_row _ _ _ _ _ _ h3,Nat.zero_add]; simpa using hv,?_⟩;cases d with
      | v x =>
       have:v=x:=hrv;subst this;exact .v (by simpa [zdv,ze1,isF] using hp)
      | sl sz es=>exact zam.mono hZ hrv
      | _=>simp [zdv,ze1,isF] at hp
     ·cases hs
   | rowF=>simp [zjz] at hs
   | row=>simp [zjz] at hs
   | shadow=>simp [zjz] at hs
 | _=>simp [zcg] at hs
theorem yc8 (hR:Rel w g st) (hZ : ∀ x,g.Z x->Zc x) : ∀ {szs:List Nat} {cs ys:List PV} {us:List Value},ze7 st szs cs=some ys->zb1 w g st cs us->(∀ o∈cs.flatMap root,∀ x,zpt g st o x->x<w.heap.size->Zc x)->zdz (InC w Zc) ys us []
 | szs,[],ys,us,hs,hr,_=>by
  have:ys=[]:=by cases szs <;> simpa [ze7] using hs.symm
  subst this;have:us=[]:=List.eq_nil_of_length_eq_zero hr.1;subst this;exact .nil
 | szs,c::cs,ys,us,hs,hr,hn=>by
  have hs' : ∃ sz szs',(zcg st sz c).bind (fun x=>(ze7 st szs' cs).bind fun xs=>some (x::xs))=some ys:=by
   cases szs with
   | nil=>exact ⟨0,[],hs⟩
   | cons sz szs=>exact ⟨sz,szs,hs⟩
  obtain ⟨sz,szs',hs⟩:=hs';obtain ⟨y,h1,hs⟩:=bA hs;obtain ⟨ys',h2,hs⟩:=bA hs;cases hs;obtain ⟨u,hu,hc⟩:=hr.2 0 c (by simp);cases us with
  | nil=>simp at hu
  | cons u' us =>
   simp at hu;subst hu;have m1:=yq8 hR hZ h1 hc (fun o ho=>hn o (by rw [List.flatMap_cons]; exact List.mem_append_left _ ho));have m2:=yc8 hR hZ h2 (⟨by simpa using hr.1,fun k c hc=>by simpa using hr.2 (k+1) c (by simpa using hc)⟩:zb1 w g st cs us) (fun o ho=>hn o (by rw [List.flatMap_cons]; exact List.mem_append_right _ ho));exact zdz.cons m1 m2
theorem InA.c {Z:Nat->Prop} {l:List Hd} (h:InC w Z y u l):InA w Z y u l:=by
 cases y <;> first | exact h | exact h.elim
theorem yoo (hR:Rel w g st) (hZ : ∀ x,g.Z x->Zc x) {szs:List Nat} {c y:PV} (hs:zcx st szs c=some y) (hc:zap w g st c u) (hr : ∀ o∈zd2 c,∀ x,zpt g st o x->x<w.heap.size->Zc x):InA w Zc y u []:=by
 cases c with
 | agg cs =>
  simp only [zcx,bB] at hs;obtain ⟨ys,h1,rfl⟩:=hs;obtain ⟨us,rfl,h2⟩:=hc;exact ⟨us,rfl,yc8 hR hZ h1 h2 hr⟩
 | fn f caps =>
  simp only [zcx,bB] at hs;obtain ⟨ys,h1,rfl⟩:=hs;obtain ⟨us,rfl,h2⟩:=hc;exact ⟨us,rfl,yc8 hR hZ h1 h2 hr,rfl⟩
 | tup vs=>simp [zcx,zcg] at hs
 | _ =>
  simp only [zcx] at hs;exact InA.c (yq8 hR hZ hs hc hr)
theorem ysi (hR:Rel w g st) (hZ : ∀ x,g.Z x->Zc x) {sz:Nat} {c y:PV} {ts:List PV} (hs:zdr st sz c=some (y,ts)) (hc:zbc w g st c u) : ∃ l,InC w Zc y u l/\zli g st ts l/\ts.flatMap root=root c:=by
 cases c with
 | v x =>
  simp only [zdr,bC,Prod.mk.injEq] at hs;obtain ⟨rfl,rfl⟩:=hs;exact ⟨[],⟨hc,rfl⟩,.nil,rfl⟩
 | e0 =>
  simp only [zdr,bC,Prod.mk.injEq] at hs;obtain ⟨rfl,rfl⟩:=hs;obtain ⟨q,rfl⟩:=hc;exact ⟨[(fun _=>False,_)],⟨_,rfl,.nil⟩,.cons (fun _ h=>h) .nil,rfl⟩
 | ref o p ep lo len =>
  cases p with
  | some q=>simp [zdr] at hs
  | none =>
   simp only [zdr] at hs;obtain ⟨_,_,_,q3⟩:=hc;cases hS:st.S o with
   | none=>rw [hS] at hs; simp [zm2] at hs
   | some ob =>
    rw [hS] at hs;cases ob with
    | row s es =>
     simp only [zm2] at hs;split at hs
     ·rename_i hl;obtain ⟨rfl,rfl⟩:=hl;simp only [bC,Prod.mk.injEq] at hs;obtain ⟨rfl,rfl⟩:=hs;obtain ⟨hd,hh,hsub,_⟩:=q3 s es (by rw [hS]; rfl);simp only [za0,bC] at hh;subst hh;have hob:zal w (g.F o) (.own s es) (g.hv o):=hR.ob o _ hS;obtain ⟨_,qa,qc,_,e1,_⟩:=hob.list;exact ⟨[(g.F o,u)],⟨_,rfl,ybk hob hsub⟩,.cons ⟨rfl,rfl,s,es,hS,rfl,hsub,qa,qc,e1⟩ .nil,rfl⟩
     ·cases hs
    | rowF=>simp [zm2] at hs
    | box=>simp [zm2] at hs
    | shadow=>simp [zm2] at hs
 | ptr o p ep i j =>
  simp only [zdr] at hs;obtain ⟨_,_,q3,_⟩:=hc;cases hS:st.S o with
  | none=>rw [hS] at hs; simp [zln] at hs
  | some ob =>
   rw [hS] at hs;cases ob with
   | box cs =>
    cases p with
    | some q=>simp [zln] at hs
    | none =>
     simp only [zln] at hs;split at hs
     ·rename_i hi;obtain ⟨h1,h2,h3⟩:=hi;simp only [bC,Prod.mk.injEq] at hs;obtain ⟨rfl,rfl⟩:=hs;obtain ⟨b,hb,hu⟩:=q3 cs hS rfl h1;subst h2;obtain ⟨b',cur,t,e1,e2,e3,e4,e5⟩:=ydg (hR.ob o _ hS:zy1 w g st (g.F o) cs (g.hv o)) h3;rw [hb] at e1; cases e1;refine ⟨[(fun x=>x=b,u)],⟨_,rfl,b,cur,t,hu,rfl,e3,e4,e5.1,fun k c hk => ?_⟩,.cons ⟨cs,b,hS,by rw [hu,hb],hb,e2,rfl⟩ .nil,rfl⟩;obtain ⟨v,hv,hz,h1⟩:=e5.2 k c hk;exact ⟨v,hv,hz.mono hZ,h1⟩
     ·cases hs
   | rowF=>simp [zln] at hs
   | row=>simp [zln] at hs
   | shadow=>simp [zln] at hs
 | _=>simp [zdr] at hs
theorem yos (hR:Rel w g st) (hZ : ∀ x,g.Z x->Zc x) : ∀ {szs:List Nat} {cs ys ts:List PV} {us:List Value},zg0 st szs cs=some (ys,ts)->zb1 w g st cs us->∃ l,zdz (InC w Zc) ys us l/\zli g st ts l/\ts.flatMap root=cs.flatMap root
 | szs,[],ys,ts,us,hs,hr=>by
  have:ys=[]/\ts=[]:=by cases szs <;> · simp [zg0] at hs; exact ⟨hs.1,hs.2⟩
  obtain ⟨rfl,rfl⟩:=this;have:us=[]:=List.eq_nil_of_length_eq_zero hr.1;subst this;exact ⟨[],.nil,.nil,rfl⟩
 | szs,c::cs,ys,ts,us,hs,hr=>by
  have hs' : ∃ sz szs',(zdr st sz c).bind (fun r=>(zg0 st szs' cs).bind fun q=>some (r.1::q.1,r.2++q.2))=some (ys,ts):=by
   cases szs with
   | nil=>exact ⟨0,[],hs⟩
   | cons sz szs=>exact ⟨sz,szs,hs⟩
  obtain ⟨sz,szs',hs⟩:=hs';obtain ⟨⟨y,t1⟩,h1,hs⟩:=bA hs;obtain ⟨⟨ys',t2⟩,h2,hs⟩:=bA hs;simp only [bC,Prod.mk.injEq] at hs;obtain ⟨rfl,rfl⟩:=hs;obtain ⟨u,hu,hc⟩:=hr.2 0 c (by simp);cases us with
  | nil=>simp at hu
  | cons u' us =>
   simp at hu;subst hu;obtain ⟨l1,m1,k1,r1⟩:=ysi hR hZ h1 hc;obtain ⟨l2,m2,k2,r2⟩:=yos hR hZ h2 (⟨by simpa using hr.1,fun k c hc=>by simpa using hr.2 (k+1) c (by simpa using hc)⟩:zb1 w g st cs us);exact ⟨l1++l2,.cons m1 m2,k1.app k2,by rw [List.flatMap_append,List.flatMap_cons,r1,r2]⟩
theorem yoy {w:World} {g:Gh} {st:St} (hR:Rel w g st) {Zc:Nat->Prop} (hZ : ∀ x,g.Z x->Zc x) {szs:List Nat} {c y:PV} {ts:List PV} {u:Value} (hs:zf4 st szs c=some (y,ts)) (hc:zap w g st c u) : ∃ l,InA w Zc y u l/\zli g st ts l/\ts.flatMap root=zd2 c:=by
 cases c with
 | agg cs =>
  simp only [zf4,bB,Prod.mk.injEq] at hs;obtain ⟨⟨ys,ts'⟩,h1,rfl,rfl⟩:=hs;obtain ⟨us,rfl,h2⟩:=hc;obtain ⟨l,m,k,r⟩:=yos hR hZ h1 h2;exact ⟨l,⟨us,rfl,m⟩,k,r⟩
 | fn f caps=>simp [zf4,zdr] at hs
 | tup vs=>simp [zf4,zdr] at hs
 | _ =>
  simp only [zf4] at hs;obtain ⟨l,m,k,r⟩:=ysi hR hZ hs hc;exact ⟨l,InA.c m,k,r⟩
def zfa:List Bool->List (List Nat×PV)->List Nat
 | _,[]=>[]
 | m::ms,(_,x)::xs=>(if m then [] else zd2 x)++zfa ms xs
 | [],(_,x)::xs=>zd2 x++zfa [] xs
theorem z9p {w:World} {g:Gh} {st:St} (hR:Rel w g st) {Zc:Nat->Prop} (hZ : ∀ x,g.Z x->Zc x) : ∀ {ms:List Bool} {args:List (List Nat×PV)} {ys ts:List PV} {us:List Value},zc1 st ms args=some (ys,ts)->ze6 w g st args us->(∀ o∈zfa ms args,∀ x,zpt g st o x->x<w.heap.size->Zc x) ->
  ∃ l,zdz (InA w Zc) ys us l/\zli g st ts l
 | ms,[],ys,ts,us,hs,hr,_=>by
  have:ys=[]/\ts=[]:=by cases ms <;> · simp [zc1] at hs; exact ⟨hs.1,hs.2⟩
  obtain ⟨rfl,rfl⟩:=this;have:us=[]:=List.eq_nil_of_length_eq_zero hr.1;subst this;exact ⟨[],.nil,.nil⟩
 | ms,(szs,x)::xs,ys,ts,us,hs,hr,hn=>by
  obtain ⟨u,hu,hc⟩:=hr.2 0 (szs,x) (by simp);cases us with
  | nil=>simp at hu
  | cons u' us =>
   simp at hu;subst hu;have hr':ze6 w g st xs us:=⟨by simpa using hr.1,fun k c hc=>by simpa using hr.2 (k+1) c (by simpa using hc)⟩;cases ms with
   | nil =>
    simp only [zc1] at hs;obtain ⟨y,h1,hs⟩:=bA hs;obtain ⟨⟨ys',t2⟩,h2,hs⟩:=bA hs;simp only [bC,Prod.mk.injEq] at hs;obtain ⟨rfl,rfl⟩:=hs;have m1:=yoo hR hZ h1 hc (fun o ho=>hn o (by simp only [zfa]; exact List.mem_append_left _ ho));obtain ⟨l2,m2,k2⟩:=z9p hR hZ h2 hr' (fun o ho=>hn o (by simp only [zfa]; exact List.mem_append_right _ ho));exact ⟨[]++l2,.cons m1 m2,k2⟩
   | cons m ms =>
    simp only [zc1] at hs;obtain ⟨⟨y,t1⟩,h1,hs⟩:=bA hs;obtain ⟨⟨ys',t2⟩,h2,hs⟩:=bA hs;simp only [bC,Prod.mk.injEq] at hs;obtain ⟨rfl,rfl⟩:=hs;obtain ⟨l2,m2,k2⟩:=z9p hR hZ h2 hr' (fun o ho=>hn o (by simp only [zfa]; exact List.mem_append_right _ ho));cases m with
    | true =>
     simp only [if_true] at h1;obtain ⟨l1,m1,k1,_⟩:=yoy hR hZ h1 hc;exact ⟨l1++l2,.cons m1 m2,k1.app k2⟩
    | false =>
     simp only [Bool.false_eq_true,if_false,bB,Prod.mk.injEq] at h1;obtain ⟨y',h1,rfl,rfl⟩:=h1;have m1:=yoo hR hZ h1 hc (fun o ho=>hn o (by simp only [zfa,Bool.false_eq_true,if_false]; exact List.mem_append_left _ ho));exact ⟨[]++l2,.cons m1 m2,k2⟩
theorem ybo (hR:Rel w g st) : ∀ {ms:List Bool} {args:List (List Nat×PV)} {ys ts:List PV} {us:List Value},zc1 st ms args=some (ys,ts)->ze6 w g st args us->∀ q:Nat->Bool,((zep args).filter q).length=((zfa ms args).filter q).length+((ts.flatMap root).filter q).length
 | ms,[],ys,ts,us,hs,hr,q=>by
  have:ts=[]:=by cases ms <;> · simp [zc1] at hs; exact hs.2
  subst this;cases ms <;> rfl
 | ms,(szs,x)::xs,ys,ts,us,hs,hr,q=>by
  obtain ⟨u,hu,hc⟩:=hr.2 0 (szs,x) (by simp);cases us with
  | nil=>simp at hu
  | cons u' us =>
   simp at hu;subst hu;have hr':ze6 w g st xs us:=⟨by simpa using hr.1,fun k c hc=>by simpa using hr.2 (k+1) c (by simpa using hc)⟩;have ha:zep ((szs,x)::xs)=zd2 x++zep xs:=rfl;rw [ha];cases ms with
   | nil =>
    simp only [zc1] at hs;obtain ⟨y,h1,hs⟩:=bA hs;obtain ⟨⟨ys',t2⟩,h2,hs⟩:=bA hs;simp only [bC,Prod.mk.injEq] at hs;obtain ⟨rfl,rfl⟩:=hs;have ih:=ybo hR h2 hr' q;simp only [zfa,List.filter_append,List.length_append];omega
   | cons m ms =>
    simp only [zc1] at hs;obtain ⟨⟨y,t1⟩,h1,hs⟩:=bA hs;obtain ⟨⟨ys',t2⟩,h2,hs⟩:=bA hs;simp only [bC,Prod.mk.injEq] at hs;obtain ⟨rfl,rfl⟩:=hs;have ih:=ybo hR h2 hr' q;cases m with
    | true =>
     simp only [if_true] at h1;obtain ⟨_,_,_,e⟩:=yoy (Zc:=g.Z) hR (fun _ h=>h) h1 hc;simp only [zfa,if_true,List.nil_append,List.filter_append,List.length_append,List.flatMap_append,e];omega
    | false =>
     simp only [Bool.false_eq_true,if_false,bB,Prod.mk.injEq] at h1;obtain ⟨y',h1,rfl,rfl⟩:=h1;simp only [zfa,Bool.false_eq_true,if_false,List.filter_append,List.length_append,List.flatMap_append,List.flatMap_nil,List.filter_nil,List.length_nil];omega
end Go.Pe
namespace Go.Pe
open Go
def ShX (w:World) (g:Gh) (st:St) (X:Nat->Prop):Prop := ∀ o sz es,st.S o=some (.shadow sz es st.ep)->∃ Y:Nat->Prop,zam w Y (.sl sz es) (g.hv o)/\(∀ x,Y x->g.K x)/\(∀ x,Y x->x<w.heap.size)/\(∀ o' x,live (st.S o')=true->za5 (g.hv o')=some x->¬ Y x)/\∀ x,X x->¬ Y x
theorem SR.back {C:Ctx} {a:Act} {w w':World} {g:Gh} {st st1:St} (h:SR C a w g st) (os:w'.os=w.os) (tape:w'.tape=w.tape) (output:w'.output=w.output) (size:w.heap.size<=w'.heap.size)
  {new:Nat->Option (Nat->Prop)} {old:Nat->Nat->Prop} {X Z1:Nat->Prop} (hV:st1.V=st.V) (hE:st1.E=st.E) (hnx:st1.nx=st.nx) (hoth : ∀ o,new o=none->st1.S o=st.S o\/(st1.S o=none/\live (st.S o)=false))
  (hnew : ∀ o F',new o=some F'->(∃ sz es es',st.S o=some (.row sz es)/\st1.S o=some (.row sz es')/\es'.length=es.length/\zal w' F' (.own sz es') (g.hv o))\/(∃ cs cs',st.S o=some (.box cs)/\st1.S o=some (.box cs')/\zi2 w' Z1 F' cs' (g.hv o))\/((∃ sz es,st.S o=some (.row sz es))/\st1.S o=none/\∀ x,¬ F' x))
  (hFo : ∀ o x,(new o).isSome=true->old o x->g.F o x) (hold : ∀ k,k<w.heap.size->(∀ o,(new o).isSome=true->¬ old o k)->w'.heap[k]?=w.heap[k]?)
  (hfro : ∀ o F' x,new o=some F'->F' x->(∃ o',(new o').isSome=true/\old o' x)\/w.heap.size<=x) (hXfro : ∀ x,X x->(∃ o',(new o').isSome=true/\old o' x)\/w.heap.size<=x)
  (hdis : ∀ o o' F F' x,new o=some F->new o'=some F'->F x->F' x->o=o') (hdisX : ∀ o F x,new o=some F->F x->¬ X x) (hnz : ∀ o F x,new o=some F->F x->¬ Z1 x) (hXz : ∀ x,X x->¬ Z1 x) (hlt : ∀ o F x,new o=some F->F x->x<w'.heap.size) (hXlt : ∀ x,X x->x<w'.heap.size)
  (hZ1 : ∀ x,g.Z x->Z1 x) (hZf : ∀ x,Z1 x->g.Z x\/w.heap.size<=x\/∃ o',(new o').isSome=true/\old o' x) (hZlt : ∀ x,Z1 x->x<w'.heap.size)
  (hep:st1.ep=st.ep+1\/(st1.ep=st.ep/\∀ o,(new o).isSome=true->(∃ cs,st.S o=some (.box cs))/\∀ x,old o x->za5 (g.hv o)=some x)\/(st1.ep=st.ep/\(∀ o sz es e,¬ st1.S o=some (.shadow sz es e))/\∀ o,(new o).isSome=true->∀ sz es,st1.S o=some (.row sz es)->zch es=true)) :
  SR C a w' { g with Z:=Z1,F:=fun o=>(new o).getD (g.F o) } st1/\zaz C w' { g with Z:=Z1,F:=fun o=>(new o).getD (g.F o) } st1 X/\zaq w g st w' { g with Z:=Z1,F:=fun o=>(new o).getD (g.F o) } st1/\ShX w' { g with Z:=Z1,F:=fun o=>(new o).getD (g.F o) } st1 X:=by
 have r:=h.rel;have hl : ∀ o,(new o).isSome=true->live (st.S o)=true:=by
  intro o ho;obtain ⟨F',e⟩:=Option.isSome_iff_exists.mp ho;rcases hnew o F' e with ⟨sz,es,es',h1,_⟩ | ⟨cs,cs',h1,_⟩ | ⟨⟨sz,es,h1⟩,_⟩ <;> rw [h1] <;> rfl
 have hepl:st.ep<=st1.ep:=by rcases hep with e | ⟨e,_⟩ | ⟨e,_⟩ <;> omega
 have keep : ∀ o x,new o=none->live (st.S o)=true->g.F o x->w'.heap[x]?=w.heap[x]?:=by
  intro o x hn hlo hf;refine hold x (r.lt o x hlo hf) fun o' ho' hx => ?_;have:=r.sep o o' x hlo (hl o' ho') hf (hFo o' x ho' hx);subst this;rw [hn] at ho'; cases ho'
 have zw : ∀ x,g.Z x->w'.heap[x]?=w.heap[x]?:=fun x hx=>hold x (r.zlt x hx) fun o ho hx'=>r.nz o x (hl o ho) (hFo o x ho hx') hx;have go:zaq w g st w' { g with Z:=Z1,F:=fun o=>(new o).getD (g.F o) } st1:=by
  refine ⟨by omega,hepl,fun o ho p e he sz es' hr => ?_,fun o ho cs' hb => ?_,hZ1,zw⟩
  ·cases hn:new o with
   | some F' =>
    rcases hnew o F' hn with ⟨sz2,es,es2,h1,h2,h3,h4⟩ | ⟨cs,cs2,h1,h2,h3⟩ | ⟨_,h2,_⟩
    rotate_left 2
    ·rw [h2] at hr; simp [zax] at hr
    ·rw [h2] at hr;cases p with
     | none =>
      simp only [zjt,bC,Prod.mk.injEq] at hr;obtain ⟨rfl,rfl⟩:=hr;exact ⟨es,by rw [h1]; rfl,h3.symm,rfl⟩
     | some q =>
      obtain ⟨i,j⟩:=q;simp only [zfo] at hr;rcases hep with e1 | ⟨e1,e2⟩ | ⟨_,_,e2⟩
      ·rw [if_neg (by omega)] at hr; cases hr
      ·obtain ⟨⟨cs,e3⟩,_⟩:=e2 o (by rw [hn]; rfl);rw [h1] at e3; cases e3
      ·have e3:=e2 o (by rw [hn]; rfl) sz2 es2 h2;split at hr
       ·obtain ⟨cs,k1,k2⟩:=zjd hr;have:=List.all_eq_true.mp (List.all_eq_true.mp e3 cs (bF k1)) _ (bF k2);cases this
       ·cases hr
    ·rw [h2] at hr; simp [zax] at hr
   | none =>
    have hoth':st1.S o=st.S o:=by
     rcases hoth o hn with e2 | ⟨e2,_⟩
     ·exact e2
     ·rw [e2] at hr; simp [zax] at hr
    rw [hoth'] at hr;have hr':zax st.ep (st.S o) p e=some (sz,es'):=by
     rcases hep with e2 | ⟨e2,_⟩ | ⟨e2,_⟩
     ·cases hS2:st.S o with
      | none=>rw [hS2] at hr; simp [zax] at hr
      | some ob2 =>
       rw [hS2] at hr;cases ob2 with
       | box=>simp [zax] at hr
       | row s es2 =>
        cases p with
        | none=>simpa using hr
        | some q=>obtain ⟨i,j⟩:=q; simp only [zfo] at hr; rw [if_neg (by omega)] at hr; cases hr
       | rowF s es2 =>
        cases p with
        | none=>simpa using hr
        | some q=>simp [zax] at hr
       | shadow s es2 e3 =>
        cases p with
        | none =>
         have:=(r.shd o _ _ _ hS2).1;simp only [zyq] at hr;rw [if_neg (by omega)] at hr; cases hr
        | some q=>simp [zax] at hr
     ·rw [<- e2]; exact hr
     ·rw [<- e2]; exact hr
    refine ⟨es',hr',rfl,?_⟩;cases p with
    | none=>rfl
    | some q =>
     simp only [za0,hoth'];split
     ·rename_i sz2 es2 a2 n2 cap2 hs2 hv2;have hob2:zal w (g.F o) (.own sz2 es2) (g.hv o):=r.ob o _ hs2;rw [hv2] at hob2;have hkeep:w'.heap[a2.block]?=w.heap[a2.block]?:=by
       cases es2 with
       | nil =>
        rw [hs2] at hr';simp [zax,zbe] at hr'
       | cons e es2 =>
        obtain ⟨_,_,_,b2,off,cur,t,ha,hF2,_⟩:=hob2.at (i:=0) (cs:=e) (by simp);cases ha;exact keep o b2 hn (by rw [hs2]; rfl) hF2
      exact World.cell?_of_block (w:=w) hkeep
     ·rfl
  ·cases hn:new o with
   | some F' =>
    rcases hnew o F' hn with ⟨sz2,es,es2,h1,h2,h3,h4⟩ | ⟨cs,cs2,h1,h2,h3⟩ | ⟨_,h2,_⟩
    rotate_left 2
    ·rw [h2] at hb; cases hb
    ·rw [h2] at hb; cases hb
    ·exact ⟨⟨cs,h1⟩,rfl⟩
   | none =>
    rcases hoth o hn with e2 | ⟨e2,_⟩
    ·rw [e2] at hb; exact ⟨⟨cs',hb⟩,rfl⟩
    ·rw [e2] at hb; cases hb
 have liv : ∀ o,live (st1.S o)=true->live (st.S o)=true:=by
  intro o hlo;cases hn:new o with
  | some F'=>exact hl o (by rw [hn]; rfl)
  | none =>
   rcases hoth o hn with e2 | ⟨e2,_⟩
   ·rw [e2] at hlo; exact hlo
   ·rw [e2] at hlo; cases hlo
 have fx : ∀ o x,((new o).getD (g.F o)) x->(∃ F',new o=some F'/\F' x)\/(new o=none/\g.F o x):=by
  intro o x hf;cases hn:new o with
  | some F'=>rw [hn] at hf; exact .inl ⟨F',rfl,hf⟩
  | none=>rw [hn] at hf; exact .inr ⟨rfl,hf⟩
 have apart : ∀ o x,new o=none->live (st.S o)=true->g.F o x->¬ ((∃ o',(new o').isSome=true/\old o' x)\/w.heap.size<=x):=by
  intro o x hn hlo hf hx;rcases hx with ⟨o',h1,h2⟩ | hx
  ·have:=r.sep o o' x hlo (hl o' h1) hf (hFo o' x h1 h2);subst this; rw [hn] at h1; cases h1
  ·have:=r.lt o x hlo hf; omega
 have hshd : ∀ o sz es e,st1.S o=some (.shadow sz es e)->e<=st1.ep/\(e=st1.ep->∃ Y:Nat->Prop,zam w' Y (.sl sz es) (g.hv o)/\(∀ x,Y x->g.K x)/\(∀ x,Y x->x<w'.heap.size)/\(∀ o' x,live (st1.S o')=true->za5 (g.hv o')=some x->¬ Y x)/\∀ x,X x->¬ Y x):=by
  intro o sz es e hs;have hn:new o=none:=by
   cases hn:new o with
   | none=>rfl
   | some F'=>rcases hnew o F' hn with ⟨sz2,es2,es3,h1,h2,_⟩ | ⟨cs,cs2,h1,h2,_⟩ | ⟨_,h2,_⟩ <;> · rw [h2] at hs; cases hs
  have hs0:=hs;have hs:st.S o=some (.shadow sz es e):=by
   rcases hoth o hn with e2 | ⟨e2,_⟩
   ·rw [<- e2]; exact hs
   ·rw [e2] at hs; cases hs
  obtain ⟨he,hy⟩:=r.shd o sz es e hs;refine ⟨by omega,fun ee => ?_⟩;rcases hep with e2 | ⟨e2,e3⟩ | ⟨_,e3,_⟩
  ·omega
  ·obtain ⟨Y,y1,y2,y3,yk⟩:=hy (by omega);have off : ∀ x,Y x->∀ o',(new o').isSome=true->¬ old o' x:=fun x hx o' ho' hox=>y3 o' x (hl o' ho') ((e3 o' ho').2 x hox) hx;refine ⟨Y,zam.congr (fun x hx=>hold x (y2 x hx) (off x hx)) y1,yk,fun x hx=>by have:=y2 x hx; omega,fun o' x hlo=>y3 o' x (liv o' hlo),fun x hx hyx => ?_⟩;rcases hXfro x hx with ⟨o',h1,h2⟩ | h1
   ·exact off x hyx o' h1 h2
   ·have:=y2 x hyx; omega
  ·exact (e3 o sz es e hs0).elim
 have hrel:Rel w' { g with Z:=Z1,F:=fun o=>(new o).getD (g.F o) } st1:=by
  refine ⟨fun o b hb => ?_,fun o1 o2 x h1 h2 f1 f2 => ?_,fun o x hlo hf => ?_,fun o x hlo hf => ?_,hZlt,fun o ho => ?_,fun o sz es e hs=>⟨(hshd o sz es e hs).1,fun he=>let ⟨Y,y1,yk,y2,y3,_⟩:=(hshd o sz es e hs).2 he; ⟨Y,y1,y2,y3,yk⟩⟩⟩
  ·cases hn:new o with
   | some F' =>
    simp only [hn,Option.getD_some];rcases hnew o F' hn with ⟨sz2,es,es2,h1,h2,h3,h4⟩ | ⟨cs,cs2,h1,h2,h3⟩ | ⟨_,h2,_⟩
    rotate_left 2
    ·rw [h2] at hb; cases hb
    ·rw [h2] at hb; cases hb; exact h4
    ·rw [h2] at hb; cases hb;obtain ⟨b,cur,t,e1,e2,e3,e4,e5⟩:=h3;obtain ⟨c1,c2⟩:=yc0 (g := { g with Z:=Z1,F:=fun o=>(new o).getD (g.F o) }) (st:=st1) e4 e5;exact ⟨b,cur,t,e1,e2,e3,c1,c2⟩
   | none =>
    simp only [hn,Option.getD_none];have hb:st.S o=some b:=by
     rcases hoth o hn with e2 | ⟨e2,_⟩
     ·rw [<- e2]; exact hb
     ·rw [e2] at hb; cases hb
    have old':=r.ob o b hb;cases b with
    | row sz es=>exact zal.congr old' (fun x hx=>keep o x hn (by rw [hb]; rfl) hx)
    | rowF sz es =>
     have old':zcj w g.Z (g.F o) sz es (g.hv o):=old';refine ⟨?_⟩;rcases old'.ok with h1 | ⟨b2,off,cap,cur,t,us,h1,h2,h3,h4,h5,h6,h7⟩
     ·exact .inl h1
     ·exact .inr ⟨b2,off,cap,cur,t,us,h1,h2,h3,h4,by rw [keep o b2 hn (by rw [hb]; rfl) h2]; exact h5,h6,fun k d hd=>⟨(h7 k d hd).1,(zam.congr zw (h7 k d hd).2.1).mono hZ1,(h7 k d hd).2.2⟩⟩
    | box cs =>
     obtain ⟨b2,cur,t,h1,h2,h3,h4,h5⟩:=old';exact ⟨b2,cur,t,h1,h2,by rw [keep o b2 hn (by rw [hb]; rfl) h2]; exact h3,h4.goes go,h5⟩
    | shadow=>trivial
  ·rcases fx o1 x f1 with ⟨F1,n1,g1⟩ | ⟨n1,g1⟩ <;> rcases fx o2 x f2 with ⟨F2,n2,g2⟩ | ⟨n2,g2⟩
   ·exact hdis o1 o2 F1 F2 x n1 n2 g1 g2
   ·exact (apart o2 x n2 (liv o2 h2) g2 (hfro o1 F1 x n1 g1)).elim
   ·exact (apart o1 x n1 (liv o1 h1) g1 (hfro o2 F2 x n2 g2)).elim
   ·exact r.sep o1 o2 x (liv o1 h1) (liv o2 h2) g1 g2
  ·rcases fx o x hf with ⟨F1,n1,g1⟩ | ⟨n1,g1⟩
   ·exact hnz o F1 x n1 g1
   ·intro hz;rcases hZf x hz with h' | h' | h'
    ·exact r.nz o x (liv o hlo) g1 h'
    ·have:=r.lt o x (liv o hlo) g1; omega
    ·exact apart o x n1 (liv o hlo) g1 (.inl h')
  ·rcases fx o x hf with ⟨F1,n1,g1⟩ | ⟨n1,g1⟩
   ·exact hlt o F1 x n1 g1
   ·have:=r.lt o x (liv o hlo) g1; omega
  ·cases hn:new o with
   | none =>
    rcases hoth o hn with e2 | ⟨e2,_⟩
    ·rw [e2]; exact r.nxt o (by omega)
    ·exact e2
   | some F' =>
    have:=hl o (by rw [hn]; rfl);rw [r.nxt o (by omega)] at this; cases this
 have hown : ∀ x,((∃ o',(new o').isSome=true/\old o' x)\/w.heap.size<=x)->C.w0.heap.size<=x\/C.io x:=by
  intro x hx;rcases hx with ⟨o',h1,h2⟩ | hx
  ·exact h.own o' x (hl o' h1) (hFo o' x h1 h2)
  ·exact .inl (by have:=h.size; omega)
 refine ⟨h.stepI go hrel hV hE os tape output size (fun k hk hio=>hold k (by have:=h.size; omega) fun o ho hx => ?_) (fun o x hlo hf => ?_) (fun x hx => ?_) (fun _ _=>rfl),⟨fun o x hlo hf hx => ?_,hXz,hXlt,fun x hx=>hown x (hXfro x hx)⟩,go,fun o sz es hs=>(hshd o sz es _ hs).2 rfl⟩
 ·rcases h.own o k (hl o ho) (hFo o k ho hx) with h' | h'
  ·omega
  ·exact hio h'
 ·rcases fx o x hf with ⟨F1,n1,g1⟩ | ⟨n1,g1⟩
  ·exact hown x (hfro o F1 x n1 g1)
  ·exact h.own o x (liv o hlo) g1
 ·rcases hZf x hx with h' | h' | h'
  ·exact .inl h'
  ·exact .inr (.inl (by have:=h.size; omega))
  ·exact .inr (hown x (.inl h'))
 ·rcases fx o x hf with ⟨F1,n1,g1⟩ | ⟨n1,g1⟩
  ·exact hdisX o F1 x n1 g1 hx
  ·exact apart o x n1 (liv o hlo) g1 (hXfro x hx)
end Go.Pe
namespace Go.Pe
open Go
inductive zyg (w':World) (Z1:Nat->Prop):List Hd->List Hd->List PV->Prop
 | nil:zyg w' Z1 [] [] []
 | cons {p p':Hd} {c:PV} {l l':List Hd} {cs:List PV} (e:p'.2=p.2) (h:zzi w' Z1 p'.1 p'.2 c) (t:zyg w' Z1 l l' cs):zyg w' Z1 (p::l) (p'::l') (c::cs)
theorem yrb {w':World} {Z1:Nat->Prop} : ∀ {l l':List Hd} {outs:List PV},l'.length=l.length->outs.length=l.length->(∀ (k:Nat) (p p':Hd),l[k]?=some p->l'[k]?=some p'->p'.2=p.2)->(∀ (k:Nat) (c:PV) (p':Hd),outs[k]?=some c->l'[k]?=some p'->zzi w' Z1 p'.1 p'.2 c)->zyg w' Z1 l l' outs
 | [],[],[],_,_,_,_ => .nil
 | p::l,p'::l',c::cs,h1,h2,h3,h4 => .cons (h3 0 p p' rfl rfl) (h4 0 c p' rfl rfl) (yrb (by simpa using h1) (by simpa using h2) (fun k q q' hq hq'=>h3 (k+1) q q' (by simpa using hq) (by simpa using hq')) (fun k d q' hd hq'=>h4 (k+1) d q' (by simpa using hd) (by simpa using hq')))
 | [],_::_,_,h1,_,_,_=>by simp at h1
 | [],[],_::_,_,h2,_,_=>by simp at h2
 | _::_,[],_,h1,_,_,_=>by simp at h1
 | _::_,_::_,[],_,h2,_,_=>by simp at h2
theorem qio {w:World} {F:Nat->Prop} {s len cap:Nat} {es:List (List PV)} {a:Option Addr} {u:Value} (hs:zdw (.slice a len cap) s 0 len u) (h:zal w F (.own s es) u) (hl:es.length=len):zal w F (.own s es) (.slice a len cap):=by
 obtain ⟨a0,n,cap0,a',e1,e2,e3,rfl,e5⟩:=hs;cases e1
 by_cases e0:cap=0
 ·have e6:len=0:=by omega
  have e7:es=[]:=List.eq_nil_of_length_eq_zero (by omega);rw [e0,e6,e7]; exact .nil
 ·rcases e5 with e5 | ⟨b,off,rfl,rfl⟩
  ·omega
  ·simpa using h
theorem yct {w':World} {Z1:Nat->Prop} {g:Gh} {st0:St} : ∀ {hs:List PV} {l l':List Hd} {outs:List PV} {st st1:St},zli g st0 hs l->(∀ o∈hs.flatMap root,st.S o=st0.S o)->zev (hs.flatMap root)=true->zyg w' Z1 l l' outs->ze2 st hs outs=some st1 ->
  st1.V=st.V/\st1.E=st.E/\st1.nx=st.nx/\st1.ep=st.ep/\(∀ o,o ∉ hs.flatMap root->st1.S o=st.S o) /\
  ∃ (new:Nat->Option (Nat->Prop)) (old:Nat->Nat->Prop),(∀ o,(new o).isSome=true↔o∈hs.flatMap root) /\
   (∀ o F',new o=some F'->∃ (k:Nat) (p p':Hd) (t:PV),hs[k]?=some t/\root t=[o]/\l[k]?=some p/\l'[k]?=some p'/\p'.1=F'/\(∀ x,old o x↔p.1 x)/\(∀ x,p.1 x->g.F o x) /\
    ((∃ sz es es',st0.S o=some (.row sz es)/\st1.S o=some (.row sz es')/\es'.length=es.length/\zal w' F' (.own sz es') (g.hv o)/\∃ s e,outs[k]?=some (.own s e))\/(∃ cs cs',st0.S o=some (.box cs)/\st1.S o=some (.box cs')/\zi2 w' Z1 F' cs' (g.hv o)/\outs[k]?=some (.bx cs')/\∀ x,p.1 x->za5 (g.hv o)=some x)\/(∃ sz es,st0.S o=some (.row sz es)/\st1.S o=none/\(∀ x,¬ F' x)/\outs[k]?=some .undef))) /\
   (∀ (k:Nat) (p:Hd) (x:Nat),l[k]?=some p->p.1 x->∃ o,(new o).isSome=true/\old o x)
 | [],l,l',outs,st,st1,hh,hsame,hn,hb,hp=>by
  cases hh;cases hb;simp only [ze2,bC] at hp;subst hp;exact ⟨rfl,rfl,rfl,rfl,fun _ _=>rfl,fun _=>none,fun _ _=>False,fun o=>by simp,fun o F' h=>by simp at h,fun k p x hk=>by simp at hk⟩
 | t::hs,l,l',outs,st,st1,hh,hsame,hn,hb,hp=>by
  cases hh with
  | cons hc ht =>
   cases hb with
   | cons he ho hbt =>
    rename_i q l q' c l' cs;simp only [ze2] at hp;obtain ⟨st2,h1,hp⟩:=bA hp;have shift : ∀ {o:Nat} {F':Nat->Prop} {old:Nat->Nat->Prop},(∃ (k:Nat) (p p':Hd) (t':PV),hs[k]?=some t'/\root t'=[o]/\l[k]?=some p/\l'[k]?=some p'/\p'.1=F'/\(∀ x,old o x↔p.1 x)/\(∀ x,p.1 x->g.F o x) /\
      ((∃ sz es es',st0.S o=some (.row sz es)/\st1.S o=some (.row sz es')/\es'.length=es.length/\zal w' F' (.own sz es') (g.hv o)/\∃ s e,cs[k]?=some (.own s e))\/(∃ cs0 cs',st0.S o=some (.box cs0)/\st1.S o=some (.box cs')/\zi2 w' Z1 F' cs' (g.hv o)/\cs[k]?=some (.bx cs')/\∀ x,p.1 x->za5 (g.hv o)=some x)\/(∃ sz es,st0.S o=some (.row sz es)/\st1.S o=none/\(∀ x,¬ F' x)/\cs[k]?=some .undef))) ->
      (∃ (k:Nat) (p p':Hd) (t':PV),(t::hs)[k]?=some t'/\root t'=[o]/\(q::l)[k]?=some p/\(q'::l')[k]?=some p'/\p'.1=F'/\(∀ x,old o x↔p.1 x)/\(∀ x,p.1 x->g.F o x) /\
      ((∃ sz es es',st0.S o=some (.row sz es)/\st1.S o=some (.row sz es')/\es'.length=es.length/\zal w' F' (.own sz es') (g.hv o)/\∃ s e,(c::cs)[k]?=some (.own s e))\/(∃ cs0 cs',st0.S o=some (.box cs0)/\st1.S o=some (.box cs')/\zi2 w' Z1 F' cs' (g.hv o)/\(c::cs)[k]?=some (.bx cs')/\∀ x,p.1 x->za5 (g.hv o)=some x)\/(∃ sz es,st0.S o=some (.row sz es)/\st1.S o=none/\(∀ x,¬ F' x)/\(c::cs)[k]?=some .undef))):=by
     rintro o F' old ⟨k,p,p',t',a1,a2,a3,a4,a5,a6,a7,a8⟩;exact ⟨k+1,p,p',t',by simpa using a1,a2,by simpa using a3,by simpa using a4,a5,a6,a7,by simpa using a8⟩
    have one : ∀ {o:Nat} {ob':Option Ob},root t=[o]->st2 = { st with S:=upd st.S o ob' }->(∀ x,q.1 x->g.F o x) ->
      ((∃ sz es es',st0.S o=some (.row sz es)/\ob'=some (.row sz es')/\es'.length=es.length/\zal w' q'.1 (.own sz es') (g.hv o)/\∃ s e,c = .own s e)\/(∃ cs0 cs',st0.S o=some (.box cs0)/\ob'=some (.box cs')/\zi2 w' Z1 q'.1 cs' (g.hv o)/\c = .bx cs'/\∀ x,q.1 x->za5 (g.hv o)=some x)\/(∃ sz es,st0.S o=some (.row sz es)/\ob'=none/\(∀ x,¬ q'.1 x)/\c = .undef)) ->
      st1.V=st.V/\st1.E=st.E/\st1.nx=st.nx/\st1.ep=st.ep/\(∀ o,o ∉ (t::hs).flatMap root->st1.S o=st.S o) /\
      ∃ (new:Nat->Option (Nat->Prop)) (old:Nat->Nat->Prop),(∀ o,(new o).isSome=true↔o∈(t::hs).flatMap root) /\
       (∀ o F',new o=some F'->∃ (k:Nat) (p p':Hd) (t':PV),(t::hs)[k]?=some t'/\root t'=[o]/\(q::l)[k]?=some p/\(q'::l')[k]?=some p'/\p'.1=F'/\(∀ x,old o x↔p.1 x)/\(∀ x,p.1 x->g.F o x) /\
        ((∃ sz es es',st0.S o=some (.row sz es)/\st1.S o=some (.row sz es')/\es'.length=es.length/\zal w' F' (.own sz es') (g.hv o)/\∃ s e,(c::cs)[k]?=some (.own s e))\/(∃ cs0 cs',st0.S o=some (.box cs0)/\st1.S o=some (.box cs')/\zi2 w' Z1 F' cs' (g.hv o)/\(c::cs)[k]?=some (.bx cs')/\∀ x,p.1 x->za5 (g.hv o)=some x)\/(∃ sz es,st0.S o=some (.row sz es)/\st1.S o=none/\(∀ x,¬ F' x)/\(c::cs)[k]?=some .undef))) /\
       (∀ (k:Nat) (p:Hd) (x:Nat),(q::l)[k]?=some p->p.1 x->∃ o,(new o).isSome=true/\old o x):=by
     intro o ob' hr h2 hsub hfact;subst h2;rw [List.flatMap_cons,hr] at hn;obtain ⟨hn1,hn2⟩:=yse hn;obtain ⟨a1,a2,a3,a4,a5,new,old,a6,a7,a8⟩:=yct ht (fun o' ho'=>by
      have hne:o'≠o:=fun e=>hn1 (e ▸ ho');simp only [zas,if_neg hne];exact hsame o' (by rw [List.flatMap_cons]; exact List.mem_append_right _ ho')) hn2 hbt hp
     have eS:st1.S o=ob':=by rw [a5 o hn1]; simp
     refine ⟨a1,a2,a3,a4,fun o' ho' => ?_,fun o'=>if o'=o then some q'.1 else new o',fun o' x=>if o'=o then q.1 x else old o' x,fun o' => ?_,fun o' F' hF => ?_,fun k p x hk hx => ?_⟩
     ·rw [List.flatMap_cons,hr] at ho';have h1':o'≠o:=fun e=>ho' (by rw [e]; simp);rw [a5 o' (fun h=>ho' (List.mem_append_right _ h))];simp [h1']
     ·rw [List.flatMap_cons,hr]
      by_cases e:o'=o
      ·subst e; simp
      ·simp only [if_neg e];rw [a6 o'];simp [e]
     ·by_cases e:o'=o
      ·subst e;simp only [if_true,bC] at hF;subst hF;refine ⟨0,q,q',t,rfl,hr,rfl,rfl,rfl,fun x=>by simp,hsub,?_⟩;rcases hfact with ⟨sz,es,es',f1,f2,f3,f4,s,e,f5⟩ | ⟨cs0,cs',f1,f2,f3,f4,f5⟩ | ⟨sz,es,f1,f2,f3,f4⟩
       ·exact .inl ⟨sz,es,es',f1,by rw [eS]; exact f2,f3,f4,s,e,by rw [f5]; rfl⟩
       ·exact .inr (.inl ⟨cs0,cs',f1,by rw [eS]; exact f2,f3,by rw [f4]; rfl,f5⟩)
       ·exact .inr (.inr ⟨sz,es,f1,by rw [eS]; exact f2,f3,by rw [f4]; rfl⟩)
      ·simp only [if_neg e] at hF;have:=shift (a7 o' F' hF);obtain ⟨k,p,p',t',b1,b2,b3,b4,b5,b6,b7⟩:=this;exact ⟨k,p,p',t',b1,b2,b3,b4,b5,fun x=>by simp only [if_neg e]; exact b6 x,b7⟩
     ·cases k with
      | zero =>
       simp at hk; subst hk;exact ⟨o,by simp,by simpa using hx⟩
      | succ k =>
       simp at hk;obtain ⟨o',b1,b2⟩:=a8 k p x hk hx;have hne:o'≠o:=fun e=>hn1 (by rw [<- e]; exact (a6 o').mp b1);exact ⟨o',by simp only [if_neg hne]; exact b1,by simp only [if_neg hne]; exact b2⟩
    cases t with
    | e0 =>
     have h1:some st=some st2:=by
      cases c <;> first
       | (simp only [zc6] at h1; split at h1; exact h1; cases h1)
       | (simp only [zc6] at h1; exact h1)
       | (simp [zc6] at h1)
     ·simp only [bC] at h1;subst h1;have er:(PV.e0::hs).flatMap root=hs.flatMap root:=by rw [List.flatMap_cons]; rfl
      rw [er] at hsame hn ⊢;obtain ⟨a1,a2,a3,a4,a5,new,old,a6,a7,a8⟩:=yct ht hsame hn hbt hp;refine ⟨a1,a2,a3,a4,a5,new,old,a6,fun o F' hF=>shift (a7 o F' hF),fun k p x hk hx => ?_⟩;cases k with
      | zero=>simp at hk; subst hk; exact (hc x hx).elim
      | succ k=>simp at hk; exact a8 k p x hk hx
    | ref o p ep lo len =>
     cases p with
     | some r=>exact hc.elim
     | none =>
      obtain ⟨rfl,hF,s0,es0,hS,rfl,hsub,a0,cap0,hhv⟩:=hc;have hSt:st.S o=some (.row s0 es0):=by rw [hsame o (by rw [List.flatMap_cons]; exact List.mem_append_left _ (by simp [root]))]; exact hS
      have hout:(∃ s es',c = .own s es')\/c = .undef:=by
       cases c <;> first | exact .inl ⟨_,_,rfl⟩ | exact .inr rfl | simp [zc6] at h1
      rcases hout with ⟨s,es',rfl⟩ | rfl
      rotate_left
      ·simp only [zc6,hSt,zpk,bC] at h1;exact one (o:=o) (ob':=none) rfl h1.symm (fun x hx=>by rw [hF] at hx; exact hx) (.inr (.inr ⟨s0,es0,hS,rfl,ho,rfl⟩))
      simp only [zc6,hSt,putRow] at h1;split at h1
      ·rename_i hl;obtain ⟨h2,h3,h4⟩:=hl;simp only [bC] at h1;subst h3;refine one (o:=o) (ob':=some (.row s es')) rfl h1.symm (fun x hx=>by rw [hF] at hx; exact hx) (.inl ⟨s,es0,es',hS,rfl,h2,?_,_,_,rfl⟩);have ho':zal w' q'.1 (.own s es') q'.2:=ho;rw [he] at ho';rw [hhv] at hsub ⊢;exact qio hsub ho' h2
      ·cases h1
    | ptr o p ep i j =>
     cases p with
     | some r=>exact hc.elim
     | none =>
      obtain ⟨cs0,b,hS,hq,hhv,hFb,hF⟩:=hc;have hout : ∃ cs',c = .bx cs':=by
       cases c <;> first | exact ⟨_,rfl⟩ | simp [zc6] at h1
      obtain ⟨cs',rfl⟩:=hout;have hSt:st.S o=some (.box cs0):=by rw [hsame o (by rw [List.flatMap_cons]; exact List.mem_append_left _ (by simp [root]))]; exact hS
      simp only [zc6,hSt,zpx] at h1;split at h1
      ·simp only [bC] at h1;refine one (o:=o) (ob':=some (.box cs')) rfl h1.symm (fun x hx=>by rw [hF] at hx; rw [hx]; exact hFb) (.inr (.inl ⟨cs0,cs',hS,rfl,?_,rfl,fun x hx => ?_⟩))
       ·have ho':zi2 w' Z1 q'.1 cs' q'.2:=ho;rw [he,hq] at ho';exact ho'
       ·rw [hF] at hx;rw [hhv,hx]; rfl
      ·cases h1
    | _=>exact hc.elim
end Go.Pe
namespace Go.Pe
open Go
variable {w:World} {g:Gh} {st:St} {l:List Hd}
def Un (m:List Hd) (x:Nat):Prop := ∃ p∈m,p.1 x
def Dis (m:List Hd):Prop := ∀ (i j:Nat) (p q:Hd) (x:Nat),m[i]?=some p->m[j]?=some q->p.1 x->q.1 x->i=j
theorem ypx {F:Nat->Prop} {sz:Nat} {es:List (List PV)} {u:Value} (h:zal w F (.own sz es) u) {x:Nat} (hb:za5 u=some x):F x:=by
 cases h with
 | nil=>rename_i a; cases a <;> simp [za5] at hb
 | row hn hf hG hd hs hcap hbk hsz hc hr =>
  simp only [za5] at hb;split at hb
  ·cases hb
  ·cases hb; exact hf
theorem ys2 {C:Ctx} {a:Act} {w:World} {g:Gh} {st:St} (h:SR C a w g st) {F:Nat->Prop} {u:Value} {m:List Hd} (hL:zaz C w g st (Un ((F,u)::m))) (hS:ShX w g st (Un ((F,u)::m))) (hd:Dis ((F,u)::m)) {ob:Ob} (hl:live (some ob)=true) (hb : ∀ x,za5 u=some x->F x)
  (hob:zaq w g st w (za3 g st.nx F u) (zav st ob)->zm5 w (za3 g st.nx F u) (zav st ob) F u ob) :
  SR C a w (za3 g st.nx F u) (zav st ob)/\zaz C w (za3 g st.nx F u) (zav st ob) (Un m)/\ShX w (za3 g st.nx F u) (zav st ob) (Un m)/\zaq w g st w (za3 g st.nx F u) (zav st ob):=by
 have hF : ∀ x,F x->Un ((F,u)::m) x:=fun x hx=>⟨_,List.mem_cons_self,hx⟩;have hm : ∀ x,Un m x->Un ((F,u)::m) x:=fun x ⟨p,hp,hx⟩=>⟨p,List.mem_cons_of_mem _ hp,hx⟩;have hFm : ∀ x,F x->¬ Un m x:=by
  rintro x hx ⟨p,hp,hpx⟩;obtain ⟨k,hk⟩:=bH hp;have:=hd 0 (k+1) (F,u) p x rfl (by simpa using hk) hx hpx;omega
 obtain ⟨s,go⟩:=SR.add (F0:=F) (v:=u) (o:=ob) h hL (fun _ _ _=>rfl) (Nat.le_refl _) rfl rfl rfl (fun x hx => .inl (hF x hx)) hl (bo:=za5 u) (fun o sz es hs=>let ⟨Y,y1,yk,y2,y3,y4⟩:=hS o sz es hs; ⟨Y,y1,yk,y2,y3,fun x hx=>y4 x (hF x (hb x hx))⟩) (fun x hx => .inl hx) (fun _ _ _=>rfl) hob;refine ⟨s,⟨fun o x hlo hf hx => ?_,fun x hx=>hL.nz x (hm x hx),fun x hx=>hL.lt x (hm x hx),fun x hx=>hL.own x (hm x hx)⟩,fun o sz es hs => ?_,go⟩
 ·by_cases e:o=st.nx
  ·subst e;exact hFm x (by simpa [za3] using hf) hx
  ·simp only [zav,zas,if_neg e] at hlo;exact hL.sep o x hlo (by simpa [za3,e] using hf) (hm x hx)
 ·by_cases e:o=st.nx
  ·subst e;simp only [zav,zas,if_true,bC] at hs;subst hs; cases hl
  ·simp only [zav,zas,if_neg e] at hs;obtain ⟨Y,y1,yk,y2,y3,y4⟩:=hS o sz es hs;refine ⟨Y,by simpa [za3,e] using y1,yk,y2,fun o' x hlo hbl => ?_,fun x hx=>y4 x (hm x hx)⟩
   by_cases e1:o'=st.nx
   ·subst e1;exact y4 x (hF x (hb x (by simpa [za3] using hbl)))
   ·simp only [zav,zas,if_neg e1] at hlo;exact y3 o' x hlo (by simpa [za3,e1] using hbl)
theorem yr1 {C:Ctx} {a:Act} {st st':St} (h:SR C a w g st) {l m:List Hd} (hL:zaz C w g st (Un (l++m))) (hS:ShX w g st (Un (l++m))) (hd:Dis (l++m)) {Zc:Nat->Prop} {nofz:Bool} (hz:nofz=false->∀ x,Zc x->g.Z x) {c c':PV} {u:Value} (ht:zdo st nofz c=some (c',st')) (hc:InC w Zc c u l) :
  ∃ g',SR C a w g' st'/\zaz C w g' st' (Un m)/\ShX w g' st' (Un m)/\zbc w g' st' c' u/\zaq w g st w g' st'/\g'.Z=g.Z:=by
 cases c with
 | v x =>
  simp only [zdo,bC,Prod.mk.injEq] at ht;obtain ⟨rfl,rfl⟩:=ht;obtain ⟨rfl,rfl⟩:=hc;exact ⟨g,h,hL,hS,rfl,zaq.refl _ _ _,rfl⟩
 | sl sz es =>
  simp only [zdo] at ht;split at ht
  ·cases ht
  ·rename_i hn;simp only [bC,Prod.mk.injEq] at ht;obtain ⟨rfl,rfl⟩:=ht;obtain ⟨hr,rfl⟩:=hc;exact ⟨g,h,hL,hS,zam.mono (hz (by simpa using hn)) hr,zaq.refl _ _ _,rfl⟩
 | own sz es =>
  simp only [zdo,Pe.newRow,bC,Prod.mk.injEq] at ht;obtain ⟨rfl,rfl⟩:=ht;obtain ⟨F,rfl,hr⟩:=hc;obtain ⟨s,l1,s1,go⟩:=ys2 (ob := .row sz es) h hL hS hd rfl (fun x hx=>ypx hr hx) (fun _=>hr);exact ⟨_,s,l1,s1,zvo (.inl rfl) (zdw.self hr),go,rfl⟩
 | bx cs =>
  simp only [zdo] at ht;split at ht
  ·cases ht
  ·rename_i hn;simp only [zca,bC,Prod.mk.injEq] at ht;obtain ⟨rfl,rfl⟩:=ht;obtain ⟨F,rfl,b,cur,t,hu,hF,hbk,hbx,hpw⟩:=hc;have hpw':PW (fun _ c u=>zam w g.Z c u/\u.oneCell'=true) cs cur.toList:=by
    refine ⟨hpw.1,fun k c hk => ?_⟩;obtain ⟨v,hv,hr,h1⟩:=hpw.2 k c hk;refine ⟨v,hv,?_,h1⟩;have hcb:=List.all_eq_true.mp hbx c (bF hk);cases c with
    | v x =>
     have:=hr.v_eq;subst this;exact .v (by simpa [zdv,ze1,isF] using hcb)
    | sl sz es =>
     have:nofz=false:=by
      cases nofz with
      | false=>rfl
      | true =>
       exfalso
       apply hn;simp only [Bool.true_and,List.any_eq_true];exact ⟨_,bF hk,rfl⟩
     exact hr.mono (hz this)
    | _=>simp [zdv,ze1,isF] at hcb
   obtain ⟨s,l1,s1,go⟩:=ys2 (ob := .box cs) h hL hS hd rfl (fun x hx=>by rw [hu] at hx; simp only [za5,bC] at hx; rw [<- hx]; exact hF) (fun _=>by
    obtain ⟨hrc,h1⟩:=yc0 (g:=za3 g st.nx F u) (st:=zav st (.box cs)) hbx hpw';exact ⟨b,cur,t,hu,hF,hbk,hrc,h1⟩)
   refine ⟨_,s,l1,s1,⟨Nat.lt_succ_self _,Nat.le_refl _,fun cs' hcs _ _=>⟨b,by simp [za3,hu],hu⟩,fun sz es hr=>by simp [zav,zax] at hr⟩,go,rfl⟩
 | _=>simp [zdo] at ht
theorem Dis.tail {l m:List Hd} (h:Dis (l++m)):Dis m:=fun i j p q x hp hq hpx hqx=>by
 have:=h (l.length+i) (l.length+j) p q x (by rw [bO (by omega)]; simpa using hp) (by rw [bO (by omega)]; simpa using hq) hpx hqx;omega
theorem yo9 {C:Ctx} {a:Act} {Zc:Nat->Prop} {nofz:Bool} : ∀ {cs cs':List PV} {us:List Value} {l m:List Hd} {g:Gh} {st st':St},SR C a w g st->zaz C w g st (Un (l++m))->ShX w g st (Un (l++m))->Dis (l++m)->(nofz=false->∀ x,Zc x->g.Z x)->zgz st nofz cs=some (cs',st')->zdz (InC w Zc) cs us l ->
  ∃ g',SR C a w g' st'/\zaz C w g' st' (Un m)/\ShX w g' st' (Un m)/\zb1 w g' st' cs' us/\zaq w g st w g' st'/\g'.Z=g.Z
 | [],cs',us,l,m,g,st,st',h,hL,hS,hd,hz,ht,hm=>by
  cases hm;simp only [zgz,bC,Prod.mk.injEq] at ht;obtain ⟨rfl,rfl⟩:=ht;exact ⟨g,h,hL,hS,⟨rfl,by simp⟩,zaq.refl _ _ _,rfl⟩
 | c::cs,cs',us,l,m,g,st,st',h,hL,hS,hd,hz,ht,hm=>by
  cases hm with
  | cons hc htl =>
   rename_i u l1 us l2;simp only [zgz] at ht;obtain ⟨⟨d,st1⟩,h1,ht⟩:=bA ht;obtain ⟨⟨ds,st2⟩,h2,ht⟩:=bA ht;simp only [bC,Prod.mk.injEq] at ht;obtain ⟨rfl,rfl⟩:=ht;rw [List.append_assoc] at hL hS hd;obtain ⟨g1,s1,L1,S1,r1,go1,z1⟩:=yr1 h hL hS hd hz h1 hc;obtain ⟨g2,s2,L2,S2,r2,go2,z2⟩:=yo9 s1 L1 S1 hd.tail (by rw [z1]; exact hz) h2 htl;refine ⟨g2,s2,L2,S2,⟨by simp [r2.1],fun k c' hk => ?_⟩,go1.trans go2,by rw [z2,z1]⟩;cases k with
   | zero=>simp at hk; subst hk; exact ⟨u,by simp,r1.goes go2⟩
   | succ k=>simp at hk; obtain ⟨x,hx,hr⟩:=r2.2 k c' hk; exact ⟨x,by simpa using hx,hr⟩
theorem qbe {C:Ctx} {a:Act} {st st':St} (h:SR C a w g st) {l m:List Hd} (hL:zaz C w g st (Un (l++m))) (hS:ShX w g st (Un (l++m))) (hd:Dis (l++m)) {Zc:Nat->Prop} {nofz:Bool} (hz:nofz=false->∀ x,Zc x->g.Z x) {c c':PV} {u:Value} (ht:zfu st nofz c=some (c',st')) (hc:InA w Zc c u l) :
  ∃ g',SR C a w g' st'/\zaz C w g' st' (Un m)/\ShX w g' st' (Un m)/\zei w g' st' c' u/\zaq w g st w g' st'/\g'.Z=g.Z:=by
 cases c with
 | agg cs =>
  simp only [zfu,bB,Prod.mk.injEq] at ht;obtain ⟨⟨ds,st1⟩,h1,rfl,rfl⟩:=ht;obtain ⟨us,rfl,hm⟩:=hc;obtain ⟨g',a1,a2,a3,a4,a5,a6⟩:=yo9 h hL hS hd hz h1 hm;exact ⟨g',a1,a2,a3,⟨us,rfl,a4⟩,a5,a6⟩
 | fn f caps=>simp [zfu,zdo] at ht
 | _ =>
  simp only [zfu] at ht;obtain ⟨g',a1,a2,a3,a4,a5,a6⟩:=yr1 h hL hS hd hz ht hc;exact ⟨g',a1,a2,a3,zei.c a4,a5,a6⟩
theorem yo8 {C:Ctx} {a:Act} {w:World} {Zc:Nat->Prop} {nofz:Bool} : ∀ {cs cs':List PV} {us:List Value} {l m:List Hd} {g:Gh} {st st':St},SR C a w g st->zaz C w g st (Un (l++m))->ShX w g st (Un (l++m))->Dis (l++m)->(nofz=false->∀ x,Zc x->g.Z x)->zf3 st nofz cs=some (cs',st')->zdz (InA w Zc) cs us l ->
  ∃ g',SR C a w g' st'/\(cs'.length=us.length/\∀ (k:Nat) (c:PV),cs'[k]?=some c->∃ u,us[k]?=some u/\zei w g' st' c u)/\zaq w g st w g' st'/\g'.Z=g.Z
 | [],cs',us,l,m,g,st,st',h,hL,hS,hd,hz,ht,hm=>by
  cases hm;simp only [zf3,bC,Prod.mk.injEq] at ht;obtain ⟨rfl,rfl⟩:=ht;exact ⟨g,h,⟨rfl,by simp⟩,zaq.refl _ _ _,rfl⟩
 | c::cs,cs',us,l,m,g,st,st',h,hL,hS,hd,hz,ht,hm=>by
  cases hm with
  | cons hc htl =>
   rename_i u l1 us l2;simp only [zf3] at ht;obtain ⟨⟨d,st1⟩,h1,ht⟩:=bA ht;obtain ⟨⟨ds,st2⟩,h2,ht⟩:=bA ht;simp only [bC,Prod.mk.injEq] at ht;obtain ⟨rfl,rfl⟩:=ht;rw [List.append_assoc] at hL hS hd;obtain ⟨g1,s1,L1,S1,r1,go1,z1⟩:=qbe h hL hS hd hz h1 hc;obtain ⟨g2,s2,r2,go2,z2⟩:=yo8 s1 L1 S1 hd.tail (by rw [z1]; exact hz) h2 htl;refine ⟨g2,s2,⟨by simp [r2.1],fun k c' hk => ?_⟩,go1.trans go2,by rw [z2,z1]⟩;cases k with
   | zero=>simp at hk; subst hk; exact ⟨u,by simp,r1.goes go2⟩
   | succ k=>simp at hk; obtain ⟨x,hx,hr⟩:=r2.2 k c' hk; exact ⟨x,by simpa using hx,hr⟩
theorem qez {cs:List PV} {us:List Value} (hl:cs.length=us.length) (h : ∀ (k:Nat) (c:PV),cs[k]?=some c->∃ u,us[k]?=some u/\zei w g st c u):zap w g st (zpz cs) (zja us):=by
 have gen : ∀ {cs:List PV} {us:List Value},cs.length=us.length->(∀ (k:Nat) (c:PV),cs[k]?=some c->∃ u,us[k]?=some u/\zei w g st c u)->zap w g st (.tup cs) (.tuple us.toArray):=by
  intro cs us hl h;exact ⟨us.toArray,rfl,by simpa using hl.symm,fun k c hk=>by simpa using h k c hk⟩
 match cs,us,hl with
 | [],[],hl=>exact gen (cs:=[]) (us:=[]) hl h
 | [c],[u],_ =>
  obtain ⟨u',hu,hr⟩:=h 0 c rfl;simp at hu; subst hu;exact zap.a hr
 | c::d::cs,u::v::us,hl=>exact gen (cs:=c::d::cs) (us:=u::v::us) hl h
theorem zli.items {hs:List PV} (h:zli g st hs l):zfg g st 0 l (hs.flatMap root):=by
 induction h with
 | nil=>exact .nil
 | cons hc ht ih =>
  rename_i t p hs l;obtain ⟨F,v⟩:=p;cases t with
  | e0=>exact .free hc ih
  | ref o p ep lo len =>
   cases p with
   | some q=>exact hc.elim
   | none =>
    obtain ⟨_,hF,s,es,hS,_⟩:=hc;simp only at hF;subst hF;exact .root (Nat.zero_le _) (by rw [hS]; rfl) (fun _ h=>h) ih
  | ptr o p ep i j =>
   cases p with
   | some q=>exact hc.elim
   | none =>
    obtain ⟨cs,b,hS,_,_,hFb,hF⟩:=hc;simp only at hF;subst hF;exact .root (Nat.zero_le _) (by rw [hS]; rfl) (fun x hx=>by rw [hx]; exact hFb) ih
  | _=>exact hc.elim
theorem zli.live {hs:List PV} (h:zli g st hs l) : ∀ o∈hs.flatMap root,Pe.live (st.S o)=true:=by
 induction h with
 | nil=>intro o ho; simp at ho
 | cons hc ht ih =>
  rename_i t p hs l;intro o ho;rw [List.flatMap_cons,List.mem_append] at ho;rcases ho with ho | ho
  ·cases t with
   | e0=>simp [root] at ho
   | ref o' p ep lo len =>
    cases p with
    | some q=>exact hc.elim
    | none =>
     obtain ⟨_,hF,s,es,hS,_⟩:=hc;simp [root] at ho; subst ho; rw [hS]; rfl
   | ptr o' p ep i j =>
    cases p with
    | some q=>exact hc.elim
    | none =>
     obtain ⟨cs,b,hS,_⟩:=hc;simp [root] at ho; subst ho; rw [hS]; rfl
   | _=>exact hc.elim
  ·exact ih o ho
theorem yp3 : ∀ {rs:List Nat},(∀ o∈rs,(rs.filter fun y=>decide (y=o)).length<=1)->zev rs=true
 | [],_=>rfl
 | x::xs,h=>by
  simp only [zev,Bool.and_eq_true,Bool.not_eq_true'];refine ⟨?_,yp3 fun o ho => ?_⟩
  ·have:=h x (by simp);simp only [List.filter_cons,decide_true,if_true,List.length_cons] at this;have h0:(xs.filter fun y=>decide (y=x))=[]:=List.eq_nil_of_length_eq_zero (by omega);rw [List.any_eq_false];intro y hy e;have:=List.filter_eq_nil_iff.mp h0 y hy;exact this e
  ·have:=h o (List.mem_cons_of_mem _ ho);simp only [List.filter_cons] at this;split at this
   ·simp only [List.length_cons] at this; omega
   ·exact this
end Go.Pe
namespace Go.Pe
open Go
def zva (P:Program) (f:Nat):Prop := ∀ (vals:Array Value) (w:World),(callFunc f vals).run P w = .ok (.enter f vals) w
def Imm (P:Program) (f:Nat) (args:List PV) (r:List PV×List PV):Prop := ∃ xs ys:List Value,args=xs.map PV.v/\r=(ys.map PV.v,[])/\∀ w,(callFunc f xs.toArray).run P w = .ok (.value (zja ys)) w
def zyk (P:Program) (R:zak) (f:Nat):Prop := ∀ args r,R f args=some r->zva P f/\z8l P f args r.1 r.2
def zhk (P:Program) (modes:Nat->List Bool) (R:zak):Prop := ∀ f,zyk P R f\/(modes f=[]/\∀ args r,R f args=some r->Imm P f args r)
theorem qd9 {l:List PV} (h:zy0 l=true):l=[]:=by
 cases l with
 | nil=>rfl
 | cons=>cases h
theorem ysr {st:St} : ∀ {os:List Nat},ziv st os=true->∀ o∈os,zk5 (st.S o)=false
 | [],_,o,ho=>by cases ho
 | x::xs,h,o,ho=>by
  simp only [ziv,Bool.and_eq_true,Bool.not_eq_true'] at h;rcases List.mem_cons.mp ho with e | e
  ·rw [e]; exact h.1
  ·exact ysr h.2 o e
theorem ysg {o:Nat} {l:List Nat} (h:o∈l):1<=(l.filter fun y=>decide (y=o)).length:=by
 have:o∈l.filter fun y=>decide (y=o):=List.mem_filter.mpr ⟨h,by simp⟩;exact List.length_pos_of_mem this
theorem qa4 {ms:List Bool} : ∀ {args:List (List Nat×PV)} {o:Nat},o∈zfa ms args->o∈zep args:=by
 intro args
 induction args generalizing ms with
 | nil=>intro o h; cases ms <;> simp [zfa] at h
 | cons q args ih =>
  intro o h;obtain ⟨szs,x⟩:=q;have ha:zep ((szs,x)::args)=zd2 x++zep args:=rfl;rw [ha,List.mem_append];cases ms with
  | nil =>
   simp only [zfa,List.mem_append] at h;rcases h with h | h
   ·exact .inl h
   ·exact .inr (ih h)
  | cons m ms =>
   simp only [zfa,List.mem_append] at h;rcases h with h | h
   ·cases m with
    | true=>simp at h
    | false=>exact .inl (by simpa using h)
   ·exact .inr (ih h)
theorem yp8 {x:Option Ob} {b:Ob} (h:zgb x=some b):x=some b:=by
 unfold zgb at h;split at h
 ·cases h
 ·exact h
theorem qcy {x:Option Ob} {sz:Nat} {es:List (List PV)} {e:Nat} : ¬ zgb x=some (.shadow sz es e):=by
 intro h;have:=yp8 h;subst this;cases h
theorem yub : ∀ {hs outs:List PV} {st st1:St},ze2 st hs outs=some st1->outs.all zzg=true->∀ {o:Nat},(o∈hs.flatMap root\/∀ sz es,st.S o=some (.row sz es)->zch es=true)->∀ sz es,st1.S o=some (.row sz es)->zch es=true
 | [],[],st,st1,h,_,o,ho,sz,es,hs=>by
  simp only [ze2,bC] at h;subst h;rcases ho with ho | ho
  ·simp at ho
  ·exact ho sz es hs
 | [],_::_,_,_,h,_,_,_,_,_,_=>by simp [ze2] at h
 | _::_,[],_,_,h,_,_,_,_,_,_=>by simp [ze2] at h
 | t::ts,c::cs,st,st1,h,hf,o,ho,sz,es,hs=>by
  simp only [ze2] at h;obtain ⟨st2,h1,h2⟩:=bA h;simp only [List.all_cons,Bool.and_eq_true] at hf;refine yub h2 hf.2 ?_ sz es hs
  by_cases hm:o∈ts.flatMap root
  ·exact .inl hm
  refine .inr fun sz' es' hs' => ?_;have hst:o∈root t\/∀ sz es,st.S o=some (.row sz es)->zch es=true:=by
   rcases ho with ho | ho
   ·rw [List.flatMap_cons] at ho;rcases bM ho with ho | ho
    ·exact .inl ho
    ·exact absurd ho hm
   ·exact .inr ho
  cases t with
  | e0 =>
   rcases hst with hst | hst
   ·simp [root] at hst
   ·cases c with
    | own s e =>
     simp only [zc6] at h1;split at h1
     ·cases h1; exact hst _ _ hs'
     ·cases h1
    | undef=>simp only [zc6,bC] at h1; cases h1; exact hst _ _ hs'
    | _=>simp [zc6] at h1
  | ref o2 p ep lo len =>
   cases c with
   | own s e =>
    simp only [zc6] at h1;unfold putRow at h1;split at h1
    ·split at h1
     ·cases h1
      by_cases e1:o=o2
      ·subst e1;simp only [zas,if_true,bC,Ob.row.injEq] at hs';rw [<- hs'.2]; exact hf.1
      ·simp only [zas,if_neg e1] at hs';rcases hst with hst | hst
       ·simp [root] at hst; exact absurd hst e1
       ·exact hst _ _ hs'
     ·cases h1
    ·cases h1
   | undef =>
    simp only [zc6] at h1;unfold zpk at h1;split at h1
    ·cases h1
     by_cases e1:o=o2
     ·subst e1;simp at hs'
     ·simp only [zas,if_neg e1] at hs';rcases hst with hst | hst
      ·simp [root] at hst; exact absurd hst e1
      ·exact hst _ _ hs'
    ·cases h1
   | _=>simp [zc6] at h1
  | ptr o2 p ep i j =>
   cases c with
   | bx cs' =>
    simp only [zc6] at h1;unfold zpx at h1;split at h1
    ·split at h1
     ·cases h1
      by_cases e1:o=o2
      ·subst e1;simp only [zas,if_true,bC] at hs';cases hs'
      ·simp only [zas,if_neg e1] at hs';rcases hst with hst | hst
       ·simp [root] at hst; exact absurd hst e1
       ·exact hst _ _ hs'
     ·cases h1
    ·cases h1
   | _=>simp [zc6] at h1
  | _=>simp [zc6] at h1
theorem yqn {C:Ctx} {a:Act} {w:World} {g:Gh} {st:St} (h:SR C a w g st) {modes:Nat->List Bool} {R:zak} {f:Nat} (hR:zyk C.P R f) {args:List (List Nat×PV)} {us:List Value} (hrep:ze6 w g st args us) {r:PV×St} (hc:zfm modes R st f args=some r) :
  Calls C.P f us.toArray w fun e w'=>match e with
   | .returned v => ∃ g',SR C a w' g' r.2/\zap w' g' r.2 r.1 v/\zaq w g st w' g' r.2/\∀ k,k<w.heap.size->(∀ o∈zep args,live (st.S o)=true->¬ g.F o k)->w'.heap[k]?=w.heap[k]?
   | _=>False:=by
 have rel:=h.rel;simp only [zfm] at hc;obtain ⟨⟨ys,hs⟩,ha,hc⟩:=bA hc;generalize decide (args.length<(modes f).length)=fl at hc;simp only [zhb] at hc;split at hc
 case isFalse=>cases hc
 rename_i hcond;simp only [Bool.and_eq_true,Bool.or_eq_true] at hcond;obtain ⟨honce,hshade⟩:=hcond;obtain ⟨⟨rets,outs⟩,hRf,hc⟩:=bA hc;simp only at hc;split at hc
 case isTrue=>cases hc
 rename_i hout;obtain ⟨st1,hpb,hc⟩:=bA hc;simp only [bB] at hc;obtain ⟨⟨cs,st2⟩,htk,rfl⟩:=hc;have hcount:=ybo rel ha hrep;have hone : ∀ o∈hs.flatMap root,((zep args).filter fun y=>decide (y=o)).length=1:=by
  intro o ho;have:=List.all_eq_true.mp honce o ho;simpa using this
 have hnd:zev (hs.flatMap root)=true:=yp3 fun o ho=>by
  have h1:=hone o ho;have h2:=hcount fun y=>decide (y=o);omega
 have hapart : ∀ o∈zfa (modes f) args,o ∉ hs.flatMap root:=by
  intro o ho hm;have h1:=hone o hm;have h2:=hcount fun y=>decide (y=o);have h3:=ysg ho;have h4:=ysg hm;omega
 obtain ⟨l0,_,hand0⟩:=z9p (Zc:=fun _=>True) rel (fun _ _=>trivial) ha hrep (fun _ _ _ _ _=>trivial);have hlive:=hand0.live;obtain ⟨Zc,hZ,hRd,hnzc,hzlt,hcase⟩ : ∃ Zc:Nat->Prop,(∀ x,g.Z x->Zc x)/\(∀ o∈zfa (modes f) args,∀ x,zpt g st o x->x<w.heap.size->Zc x)/\(∀ o∈hs.flatMap root,∀ x,g.F o x->¬ Zc x)/\(∀ x,Zc x->x<w.heap.size)/\(zhw args hs=false->Zc=g.Z):=by
  cases hle:zhw args hs with
  | false =>
   refine ⟨g.Z,fun _ h=>h,fun o ho => ?_,fun o ho x hf=>rel.nz o x (hlive o ho) hf,rel.zlt,fun _=>rfl⟩;have h2:=hcount fun _=>true;simp only [zhw,bne_eq_false_iff_eq] at hle;have e : ∀ l:List Nat,l.filter (fun _=>true)=l:=fun l=>List.filter_eq_self.mpr fun _ _=>rfl;rw [e,e,e] at h2;have h3:(zfa (modes f) args)=[]:=List.eq_nil_of_length_eq_zero (by omega);rw [h3] at ho; cases ho
  | true =>
   refine ⟨fun x=>x<w.heap.size/\∀ o∈hs.flatMap root,¬ g.F o x,fun x hx=>⟨rel.zlt x hx,fun o ho hf=>rel.nz o x (hlive o ho) hf hx⟩,fun o ho x hx hlt=>⟨hlt,fun o' ho' hf => ?_⟩,fun o ho x hf hx=>hx.2 o ho hf,fun x hx=>hx.1,fun e=>by cases e⟩;rcases hx with ⟨h1,h2⟩ | h1 | h1
   ·have:=rel.sep o o' x h1 (hlive o' ho') h2 hf;subst this;exact hapart o ho ho'
   ·exact rel.nz o' x (hlive o' ho') hf h1
   ·rcases hshade with h2 | h2
    ·rw [qd9 h2] at ho'; cases ho'
    ·rw [ysr h2 o (qa4 ho)] at h1; cases h1
 obtain ⟨l,hmany,hand⟩:=z9p rel hZ ha hrep hRd;have hit:=hand.items;have hpf : ∀ (k:Nat) (p:Hd) (x:Nat),l[k]?=some p->p.1 x->∃ o∈hs.flatMap root,live (st.S o)=true/\g.F o x:=by
  intro k p x hk hx;obtain ⟨o,h1,_,h2,h3⟩:=hit.mem p (bF hk) x hx;exact ⟨o,h1,h2,h3⟩
 have hsep:Sep w Zc l:=⟨hzlt,fun k p x hk hx=>let ⟨o,_,h2,h3⟩:=hpf k p x hk hx; rel.lt o x h2 h3,fun k p x hk hx=>let ⟨o,h1,_,h3⟩:=hpf k p x hk hx; hnzc o h1 x h3,hit.dis rel hnd⟩;refine ((hR ys (rets,outs) hRf).2 w Zc us.toArray l hmany hsep).mono fun e w' he => ?_;cases e with
 | panicked=>exact he.elim
 | outgrown=>exact he.elim
 | returned v =>
  obtain ⟨Z',l',lr,us',P⟩:=he;simp only at P;obtain ⟨Z1,hZ1,hZf,hZlt,hoc,hZ1',hnzl⟩ : ∃ Z1:Nat->Prop,(∀ x,g.Z x->Z1 x)/\(∀ x,Z1 x->g.Z x\/w.heap.size<=x\/∃ q∈l,q.1 x)/\(∀ x,Z1 x->x<w'.heap.size)/\(∀ (k:Nat) (c:PV) (p':Hd),outs[k]?=some c->l'[k]?=some p'->zzi w' Z1 p'.1 p'.2 c)/\(zhw args hs=false->∀ x,Z' x->Z1 x)/\(∀ p∈l'++lr,∀ x,p.1 x->¬ Z1 x):=by
   cases hle:zhw args hs with
   | false =>
    have hcs:=hcase hle;refine ⟨Z',fun x hx=>P.zkeep x (by rw [hcs]; exact hx),fun x hx=>by have:=P.zfro x hx; rw [hcs] at this; exact this,P.sep.zlt,P.outs,fun _ _ h=>h,fun p hp x hx => ?_⟩;obtain ⟨k,hk⟩:=bH hp;exact P.sep.nz k p x hk hx
   | true =>
    refine ⟨g.Z,fun _ h=>h,fun x hx => .inl hx,fun x hx=>Nat.lt_of_lt_of_le (rel.zlt x hx) P.size,fun k c p' hk hk' => ?_,fun e=>(by cases e),fun p hp x hx hz => ?_⟩
    ·have ho:=P.outs k c p' hk hk';cases c with
     | own=>exact ho
     | bx cs' =>
      obtain ⟨b,cur,t,e1,e2,e3,e4,e5⟩:=(ho:zi2 w' Z' p'.1 cs' p'.2);refine ⟨b,cur,t,e1,e2,e3,e4,e5.1,fun j d hj => ?_⟩;obtain ⟨u,hu,hr,h1⟩:=e5.2 j d hj;refine ⟨u,hu,?_,h1⟩;have hcb:=List.all_eq_true.mp e4 d (bF hj);cases d with
      | v x =>
       have:=hr.v_eq;subst this;exact .v (by simpa [zdv,ze1,isF] using hcb)
      | sl sz es =>
       exfalso
       apply hout;simp only [hle,Bool.true_and,Bool.or_eq_true,List.any_eq_true];exact .inl ⟨_,bF hk,List.any_eq_true.mpr ⟨_,bF hj,rfl⟩⟩
      | _=>simp [zdv,ze1,isF] at hcb
     | _=>exact ho
    ·rcases P.fro p hp x hx with ⟨q,hq,hqx⟩ | h1
     ·obtain ⟨k,hk⟩:=bH hq;obtain ⟨o,_,h2,h3⟩:=hpf k q x hk hqx;exact rel.nz o x h2 h3 hz
     ·have:=rel.zlt x hz; omega
  obtain ⟨b1,b2,b3,b4,b5,new,old,n1,n2,n3⟩:=yct hand (fun _ _=>rfl) hnd (yrb P.len P.olen P.hd hoc) hpb;have fro : ∀ p∈l'++lr,∀ x,p.1 x->(∃ o',(new o').isSome=true/\old o' x)\/w.heap.size<=x:=by
   intro p hp x hx;rcases P.fro p hp x hx with ⟨q,hq,hqx⟩ | h1
   ·obtain ⟨k,hk⟩:=bH hq;exact .inl (n3 k q x hk hqx)
   ·exact .inr h1
  have inl' : ∀ o F',new o=some F'->∃ (k:Nat) (p':Hd),l'[k]?=some p'/\(l'++lr)[k]?=some p'/\p'.1=F'/\∃ t,hs[k]?=some t/\root t=[o]:=by
   intro o F' hn;obtain ⟨k,p,p',t,c1,c2,c3,c4,c5,_⟩:=n2 o F' hn;exact ⟨k,p',c4,by rw [List.getElem?_append_left (bD c4).1]; exact c4,c5,t,c1,c2⟩
  have lrAt : ∀ q∈lr,∃ j,(l'++lr)[l'.length+j]?=some q:=by
   intro q hq;obtain ⟨j,hj⟩:=bH hq;exact ⟨j,by rw [bO (by omega)]; simpa using hj⟩
  obtain ⟨s1,L1,go1,S1⟩:=SR.back (st1:=zhd fl (outs.any zfk) st1) (new:=new) (old:=old) (X:=Un (lr++[])) (Z1:=Z1) h P.os P.tape P.output P.size (by cases outs.any zfk <;> cases fl <;> exact b1) (by cases outs.any zfk <;> cases fl <;> exact b2) (by cases outs.any zfk <;> cases fl <;> exact b3)
   (fun o hn=>by
    have:o ∉ hs.flatMap root:=fun hm=>by have:=(n1 o).mpr hm; rw [hn] at this; cases this
    have:=b5 o this;cases outs.any zfk <;> cases fl <;> first
     | exact .inl this
     | (
      show zgb (st1.S o)=st.S o\/_;rw [this];cases hso:st.S o with
      | none=>exact .inl rfl
      | some ob=>cases ob <;> first | exact .inl rfl | exact .inr ⟨by show zgb (st1.S o)=none; rw [this,hso]; rfl,rfl⟩))
   (fun o F' hn=>by
    obtain ⟨k,p,p',t,_,_,_,_,_,_,_,hf⟩:=n2 o F' hn;have eS : ∀ b,st1.S o=some b->live (some b)=true->(zhd fl (outs.any zfk) st1).S o=some b:=fun b hb hl=>by
     cases outs.any zfk <;> cases fl <;> first
      | exact hb
      | (
       show zgb (st1.S o)=some b;rw [hb]; cases b <;> first | rfl | cases hl)
    rcases hf with ⟨sz,es,es',f1,f2,f3,f4,_⟩ | ⟨cs0,cs',f1,f2,f3,_⟩ | ⟨sz,es,f1,f2,f3,_⟩
    ·exact .inl ⟨sz,es,es',f1,eS _ f2 rfl,f3,f4⟩
    ·exact .inr (.inl ⟨cs0,cs',f1,eS _ f2 rfl,f3⟩)
    ·refine .inr (.inr ⟨⟨sz,es,f1⟩,?_,f3⟩);cases outs.any zfk <;> cases fl <;> first
      | exact f2
      | (show zgb (st1.S o)=none; rw [f2]; rfl))
   (fun o x hn hx=>by
    obtain ⟨F',hF⟩:=Option.isSome_iff_exists.mp hn;obtain ⟨k,p,p',t,_,_,_,_,_,c6,c7,_⟩:=n2 o F' hF;exact c7 x ((c6 x).mp hx))
   (fun k hk hno=>P.old k hk fun p hp hpx=>by
    obtain ⟨i,hi⟩:=bH hp;obtain ⟨o,c1,c2⟩:=n3 i p k hi hpx;exact hno o c1 c2)
   (fun o F' x hn hx=>by
    obtain ⟨k,p',c1,_,rfl,_⟩:=inl' o F' hn;exact fro p' (List.mem_append_left _ (bF c1)) x hx)
   (fun x hx=>by
    obtain ⟨p,hp,hpx⟩:=hx;rw [List.append_nil] at hp;exact fro p (List.mem_append_right _ hp) x hpx)
   (fun o o' F F' x hn hn' hx hx'=>by
    obtain ⟨k,p,_,c2,rfl,t,c4,c5⟩:=inl' o F hn;obtain ⟨k',p',_,c2',rfl,t',c4',c5'⟩:=inl' o' F' hn';have:=P.sep.dis k k' p p' x c2 c2' hx hx';subst this;rw [c4] at c4'; cases c4';rw [c5] at c5'; cases c5'; rfl)
   (fun o F x hn hx hX=>by
    obtain ⟨k,p,c1,c2,rfl,_⟩:=inl' o F hn;obtain ⟨q,hq,hqx⟩:=hX;rw [List.append_nil] at hq;obtain ⟨j,hj⟩:=lrAt q hq;have:=P.sep.dis k _ p q x c2 hj hx hqx;have:=(bD c1).1;omega)
   (fun o F x hn hx=>by
    obtain ⟨k,p,c1,c2,rfl,_⟩:=inl' o F hn;exact hnzl p (List.mem_append_left _ (bF c1)) x hx)
   (fun x hx=>by
    obtain ⟨p,hp,hpx⟩:=hx;rw [List.append_nil] at hp;exact hnzl p (List.mem_append_right _ hp) x hpx)
   (fun o F x hn hx=>by
    obtain ⟨k,p,c1,c2,rfl,_⟩:=inl' o F hn;exact P.sep.lt k p x c2 hx)
   (fun x hx=>by
    obtain ⟨q,hq,hqx⟩:=hx;rw [List.append_nil] at hq;obtain ⟨j,hj⟩:=lrAt q hq;exact P.sep.lt _ q x hj hqx)
   hZ1 (fun x hx=>by
    rcases hZf x hx with h' | h' | ⟨q,hq,hqx⟩
    ·exact .inl h'
    ·exact .inr (.inl h')
    ·obtain ⟨k,hk⟩:=bH hq;exact .inr (.inr (n3 k q x hk hqx))) hZlt
   (by
    cases hb:outs.any zfk with
    | true =>
     cases hfl:fl with
     | false=>left; simp only [zhd,if_true,Bool.false_eq_true,if_false]; rw [b4]
     | true =>
      right; right;refine ⟨b4,fun o sz es e=>qcy,fun o hn sz es hs => ?_⟩;have hs:zgb (st1.S o)=some (.row sz es):=hs;refine yub hpb ?_ (.inl ((n1 o).mp hn)) sz es (yp8 hs);have:=hout;rw [hfl] at this;simp only [Bool.true_and,Bool.or_eq_true,Bool.not_eq_true',not_or,Bool.not_eq_false] at this;exact this.2
    | false =>
     right; left;refine ⟨by simp only [zhd,Bool.false_eq_true,if_false]; exact b4,fun o hn => ?_⟩;obtain ⟨F',hF⟩:=Option.isSome_iff_exists.mp hn;obtain ⟨k,p,p',t,_,_,_,_,_,c6,c7,hf⟩:=n2 o F' hF;rcases hf with ⟨sz,es,es',f1,f2,f3,f4,s,e,f5⟩ | ⟨cs0,cs',f1,f2,f3,f4,f5⟩ | ⟨sz,es,f1,f2,f3,f5⟩
     rotate_left 2
     ·exfalso
      have:=List.any_eq_false.mp hb _ (bF f5);exact this rfl
     ·exfalso
      have:=List.any_eq_false.mp hb _ (bF f5);exact this rfl
     ·exact ⟨⟨cs0,f1⟩,fun x hx=>f5 x ((c6 x).mp hx)⟩)
  have hdis:Dis (lr++[]):=by
   rw [List.append_nil];intro i j p q x hp hq hpx hqx;have:=P.sep.dis (l'.length+i) (l'.length+j) p q x (by rw [bO (by omega)]; simpa using hp) (by rw [bO (by omega)]; simpa using hq) hpx hqx;omega
  obtain ⟨g2,s2,⟨r1,r2⟩,go2,_⟩:=yo8 (Zc:=Z') (m:=[]) s1 L1 S1 hdis (fun e x hx=>hZ1' e x hx) htk P.rets;refine ⟨g2,s2,?_,go1.trans go2,fun k hk hno=>P.old k hk fun p hp hpx => ?_⟩
  ·rw [P.val];exact qez r1 r2
  ·obtain ⟨i,hi⟩:=bH hp;obtain ⟨o,c1,c2,c3⟩:=hpf i p k hi hpx;refine hno o ?_ c2 c3;have h1:=hone o c1;have h2:0<((zep args).filter fun y=>decide (y=o)).length:=by omega
   obtain ⟨y,hy⟩:=List.exists_mem_of_length_pos h2;obtain ⟨h3,h4⟩:=List.mem_filter.mp hy;simp only [decide_eq_true_eq] at h4;rw [<- h4]; exact h3
end Go.Pe
namespace Go.Pe
open Go
variable {st:St} {d:Sub} {C:Ctx} {w:World} {g:Gh}
theorem ymx {α:Type} {x y:Option α} {d:α} (h:zgw x y some=some d):x=some d\/(x=none/\y=some d):=by
 cases x with
 | none=>exact .inr ⟨rfl,h⟩
 | some a=>exact .inl h
def zla (st:St) (d:Sub):Prop:=st.S d.o=some (.row d.sz d.es)/\zbe d.es d.i d.j=some (d.s2,d.es2)
theorem qgl {c:PV} (h:zf6 st c=some d):zla st d:=by
 cases c with
 | ref o p ep lo len =>
  cases p with
  | none=>cases h
  | some q =>
   obtain ⟨i,j⟩:=q;simp only [zf6] at h;cases hS:st.S o with
   | none=>rw [hS] at h; simp [ziz] at h
   | some ob =>
    rw [hS] at h;cases ob with
    | row sz es =>
     simp only [ziz] at h;split at h
     ·obtain ⟨r,hr,h⟩:=bA h;split at h
      ·cases h; exact ⟨hS,hr⟩
      ·cases h
     ·cases h
    | rowF=>simp [ziz] at h
    | box=>simp [ziz] at h
    | shadow=>simp [ziz] at h
 | _=>simp [zf6] at h
theorem ycn {st:St} {d:Sub} : ∀ {cs:List PV},zhj st cs=some d->zla st d
 | [],h=>by cases h
 | c::cs,h=>by
  rcases ymx h with h | ⟨_,h⟩
  ·exact qgl h
  ·exact ycn h
theorem ybg {st:St} {d:Sub} : ∀ {ms:List Bool} {args:List (List Nat×PV)},zeq st ms args=some d->zla st d
 | true::ms,q::xs,h=>by
  simp only [zeq] at h;rcases ymx h with h | ⟨_,h⟩
  ·exact ycn h
  ·exact ybg h
 | false::ms,_::xs,h=>ybg (ms:=ms) (args:=xs) h
 | [],xs,h=>by cases xs <;> cases h
 | true::_,[],h=>by cases h
 | false::_,[],h=>by cases h
theorem z9l {es:List (List PV)} {i j:Nat} {cs:List PV} (h:es[i]?=some cs) (c:PV):zb4 es i j c=es.set i (cs.set j c):=by
 simp only [zb4,h]
theorem yrg {a:Act} (h:SR C a w g st) (hd:zla st d) :
  ∃ (g':Gh) (v:Value),za0 w st.S g.hv d.o (some (d.i,d.j))=some v/\SR C a w g' (zcf st d)/\zaq w g st w g' (zcf st d)/\g'.hv st.nx=v:=by
 obtain ⟨hS,hsub⟩:=hd;obtain ⟨cs,hi,hj⟩:=zjd hsub;obtain ⟨g1,G,v,h1,h2,h3,s1,L1,go1,sh1,_⟩:=h.takeSub (zaz.none C w g st) hS hi hj;have hn:d.o<st.nx:=by
  rcases Nat.lt_or_ge d.o st.nx with e | e
  ·exact e
  ·have:=h.rel.nxt d.o e; rw [hS] at this; cases this
 obtain ⟨s2,go2⟩:=s1.add (w':=w) (X:=fun x=>False\/G x) (F0:=G) L1 (fun _ _ _=>rfl) (Nat.le_refl _) rfl rfl rfl (fun x hx => .inl (.inr hx)) (o := .row d.s2 d.es2) (v:=v) rfl (sh1 (za5 v)) (fun x hx => .inl hx) (fun _ _ _=>rfl) (fun _=>h2);have e:zcf st d=zav { st with S:=upd st.S d.o (some (.row d.sz (d.es.set d.i (cs.set d.j .undef)))),ep:=st.ep+1 } (.row d.s2 d.es2):=by
  rw [zcf,z9l hi]; rfl
 refine ⟨za3 g1 st.nx G v,v,h1,?_,?_,?_⟩
 ·rw [e]; exact s2
 ·rw [e]; exact go1.trans go2
 ·simp [za3]
theorem ycp {w:World} {g g':Gh} {st:St} {d:Sub} (hd:zla st d) (hg:zaq w g st w g' (zcf st d)) {v:Value} (hv:za0 w st.S g.hv d.o (some (d.i,d.j))=some v) (hn:g'.hv st.nx=v) {c:PV} {u:Value} (h:zbc w g st c u):zbc w g' (zcf st d) (zgy d st.nx st.ep c) u:=by
 obtain ⟨hS,hsub⟩:=hd;cases c with
 | ref o p ep lo len =>
  simp only [zgy];split
  ·rename_i hc;obtain ⟨rfl,rfl,rfl⟩:=hc;obtain ⟨q0,q1,q2,q3⟩:=h;obtain ⟨hh,e1,e2,e3⟩:=q3 d.s2 d.es2 (by rw [hS]; simp only [zfo,if_true]; exact hsub);rw [hv] at e1; cases e1;refine ⟨q0,Nat.lt_succ_self _,Nat.le_refl _,fun sz es hr => ?_⟩;have hSn:(zcf st d).S st.nx=some (.row d.s2 d.es2):=by
    have:d.o<st.nx:=q1;simp only [zcf,zas,if_true]
   rw [hSn] at hr;simp only [zjt,bC,Prod.mk.injEq] at hr;obtain ⟨rfl,rfl⟩:=hr;exact ⟨v,by simp only [za0,hn],e2,e3⟩
  ·exact zbc.goes hg h
 | _=>exact zbc.goes hg h
theorem qbf {g g':Gh} (hd:zla st d) (hg:zaq w g st w g' (zcf st d)) {v:Value} (hv:za0 w st.S g.hv d.o (some (d.i,d.j))=some v) (hn:g'.hv st.nx=v) {c:PV} {u:Value} (h:zap w g st c u):zap w g' (zcf st d) (zh0 d st.nx st.ep c) u:=by
 cases c with
 | agg cs =>
  obtain ⟨us,rfl,hl,hr⟩:=h;refine ⟨us,rfl,by simpa using hl,fun k c hk => ?_⟩;simp only [List.getElem?_map,bB] at hk;obtain ⟨c0,h0,rfl⟩:=hk;obtain ⟨u,hu,hc⟩:=hr k c0 h0;exact ⟨u,hu,ycp hd hg hv hn hc⟩
 | fn f cs=>exact zap.goes hg h
 | tup vs=>exact zap.goes hg h
 | ref o p ep lo len =>
  have:=ycp hd hg hv hn (c := .ref o p ep lo len) h;simp only [zh0];exact zap.c this
 | undef=>trivial
 | v x=>exact h
 | e0=>exact h
 | sl sz es=>exact zap.goes hg h
 | own=>exact h
 | bx=>exact h
 | ptr o p e i j=>exact zap.goes hg h
 | fptr cs j=>exact zap.goes hg h
theorem qap {g g':Gh} (hd:zla st d) (hg:zaq w g st w g' (zcf st d)) {v:Value} (hv:za0 w st.S g.hv d.o (some (d.i,d.j))=some v) (hn:g'.hv st.nx=v) {args:List (List Nat×PV)} {us:List Value} (h:ze6 w g st args us):ze6 w g' (zcf st d) (zk8 d st.nx st.ep args) us:=by
 refine ⟨by simpa [zk8] using h.1,fun k q hk => ?_⟩;simp only [zk8,List.getElem?_map,bB] at hk;obtain ⟨q0,h0,rfl⟩:=hk;obtain ⟨u,hu,hr⟩:=h.2 k q0 h0;exact ⟨u,hu,qbf hd hg hv hn hr⟩
theorem qcb {α:Type} {cs:List α} {k:Nat} {x:α} (h:cs[k]?=some x):zbf cs k [x]=cs:=by
 have hk:k<cs.length:=(bD h).1;apply List.ext_getElem?;intro i;rw [zdh (by simp; omega)]
 by_cases e1:i<k
 ·rw [if_pos e1]
 ·rw [if_neg e1]
  by_cases e2:i=k
  ·subst e2; simp [h]
  ·rw [if_neg (by simp; omega)]
theorem qay {cs:List PV} {j:Nat} (h:j<cs.length) (c:PV):cs.set j c=over cs j [c]:=by
 apply List.ext_getElem?;intro k;rw [zvd,zdh (by simp; omega),List.getElem?_set]
 by_cases e1:j=k
 ·subst e1; simp [h]
 ·rw [if_neg e1]
  by_cases e2:k<j
  ·rw [if_pos e2]
  ·rw [if_neg e2,if_neg (by simp; omega)]
theorem SR.putSub {a:Act} (h:SR C a w g st) {o n i j sz s:Nat} {es es2:List (List PV)} (hne:n≠o) (hS:st.S o=some (.row sz es)) (hN:st.S n=some (.row s es2)) (hi:i<es.length) (hj:j<sz)
  {b off k cap:Nat} (hv:g.hv o = .slice (some ⟨b,off,none⟩) k cap) (hc:w.cell? ⟨b,off+(i*sz+j),none⟩=some (g.hv n)) :
  ∃ g',SR C a w g' { st with S:=upd (upd st.S n none) o (some (.row sz (zb4 es i j (.own s es2)))),ep:=st.ep+1 }/\zaq w g st w g' { st with S:=upd (upd st.S n none) o (some (.row sz (zb4 es i j (.own s es2)))),ep:=st.ep+1 }:=by
 have hln:live (st.S n)=true:=by rw [hN]; rfl
 have hob:zal w (g.F o) (.own sz es) (g.hv o):=h.rel.ob o _ hS;have hon:zal w (g.F n) (.own s es2) (g.hv n):=h.rel.ob n _ hN;obtain ⟨s1,L1,go1,_⟩:=h.drop (zaz.none C w g st) hln (by rw [hN]; intro cs e; cases e);obtain ⟨cs,hcs⟩ : ∃ cs,es[i]?=some cs:=⟨_,bG hi⟩;rw [hv] at hob;obtain ⟨hk,hkc,hcl,b',off',cur,t,ha,hF,hb,hsz,_⟩:=hob.at hcs;cases ha;have hcur:cur.toList[off+(i*sz+j)]?=some (g.hv n):=by
  rw [cell_of_row _ _ _ _ _ _ hb] at hc;simpa using hc
 have hsep : ∀ x,g.F o x->¬ (False\/g.F n x):=by
  intro x hx hx';rcases hx' with e | e
  ·exact e
  ·exact hne (h.rel.sep n o x hln (by rw [hS]; rfl) e hx)
 have hjl:j<cs.length:=by omega
 have hcells:zbi w (fun x=>False\/g.F n x) [.own s es2] [g.hv n] (fun k x=>k=0/\g.F n x):=(zbi.single hon).mono fun x hx => .inr hx;have hw:=zal.write (w:=w) (w':=w) hob hcs (j:=j) (ys:=[.own s es2]) (vs:=[g.hv n]) (by simp; omega) hcells hsep hb (by rw [qcb hcur]; simpa using hb) (fun _ _=>rfl);rw [<- qay hjl,<- hv] at hw;obtain ⟨s2,go2⟩:=s1.upd1 (w':=w) (X:=fun x=>False\/g.F n x) L1 (o:=o) (b:=b) (ep':=st.ep+1) (ob := .row sz es) (ob' := .row sz (es.set i (cs.set j (.own s es2)))) (by simp [Ne.symm hne,hS]) rfl rfl hF (fun _ _=>rfl) rfl rfl rfl rfl (.inr rfl)
  (fun p e he sz' es' hr=>by
   cases p with
   | none =>
    simp only [zjt,bC,Prod.mk.injEq] at hr;obtain ⟨rfl,rfl⟩:=hr;exact ⟨es,rfl,by simp,rfl⟩
   | some q =>
    obtain ⟨i2,j2⟩:=q;have he':e<=st.ep:=he;simp only [zfo] at hr;rw [if_neg (by omega)] at hr; cases hr)
  (fun cs' e=>by cases e) (fun _=>hw)
 rw [z9l hcs];exact ⟨_,s2,go1.trans go2⟩
theorem qf8 {a:Act} (h:SR C a w g st) {modes:Nat->List Bool} {R:zak} {f:Nat} (hR:zyk C.P R f) {args:List (List Nat×PV)} {us:List Value} (hrep:ze6 w g st args us) {r:PV×St} (hc:zdy modes R st f args=some r) :
  Calls C.P f us.toArray w fun e w'=>match e with
   | .returned v => ∃ g',SR C a w' g' r.2/\zap w' g' r.2 r.1 v
   | _=>False:=by
 simp only [zdy,zgw] at hc;split at hc
 case h_2 =>
  refine (yqn h hR hrep hc).mono fun e w' he => ?_;cases e with
  | returned v=>obtain ⟨g',s',r',_⟩:=he; exact ⟨g',s',r'⟩
  | panicked=>exact he.elim
  | outgrown=>exact he.elim
 case h_1 d hd =>
  have hat:=ybg hd;simp only [zj8] at hc;split at hc
  ·cases hc
  rename_i hno;obtain ⟨q,hq,hc⟩:=bA hc;simp only [bB] at hc;obtain ⟨s,hs,rfl⟩:=hc;obtain ⟨g1,v,hv,s1,go1,hvn⟩:=yrg h hat;refine (yqn s1 hR (qap hat go1 hv hvn hrep) hq).mono fun e w' he => ?_;cases e with
  | panicked=>exact he.elim
  | outgrown=>exact he.elim
  | returned vr =>
   obtain ⟨g2,s2,r2,go2,hfr⟩:=he;obtain ⟨hS,hsub⟩:=hat;obtain ⟨cs,hi,hj⟩:=zjd hsub;have hil:d.i<d.es.length:=(bD hi).1;have hlt:d.o<st.nx:=by
    rcases Nat.lt_or_ge d.o st.nx with e | e
    ·exact e
    ·have:=h.rel.nxt d.o e; rw [hS] at this; cases this
   have hne:st.nx≠d.o:=by omega
   have hS1:(zcf st d).S d.o=some (.row d.sz (zb4 d.es d.i d.j .undef)):=by simp [zcf,Ne.symm hne]
   have hN1:(zcf st d).S st.nx=some (.row d.s2 d.es2):=by simp [zcf]
   simp only [zpq,zpr] at hs;split at hs
   case h_2=>cases hs
   rename_i s3 es3 sz3 es4 hN2 hS2;cases hs;obtain ⟨es5,k1,k2,k3⟩:=go2.row d.o (by simp [zcf]; omega) none 0 (Nat.zero_le _) sz3 es4 (by rw [hS2]; rfl);rw [hS1] at k1;simp only [zjt,bC,Prod.mk.injEq] at k1;obtain ⟨rfl,rfl⟩:=k1;simp only [za0,bC] at k3;obtain ⟨es6,m1,m2,m3⟩:=go2.row st.nx (by simp [zcf]) none 0 (Nat.zero_le _) s3 es3 (by rw [hN2]; rfl);simp only [za0,bC] at m3;obtain ⟨es7,n1,n2,n3⟩:=go1.row d.o hlt none 0 (Nat.zero_le _) d.sz _ (by rw [hS1]; rfl);simp only [za0,bC] at n3;have hob1:zal w (g1.F d.o) (.own d.sz (zb4 d.es d.i d.j .undef)) (g1.hv d.o):=s1.rel.ob d.o _ hS1;have hob0:zal w (g.F d.o) (.own d.sz d.es) (g.hv d.o):=h.rel.ob d.o _ hS;simp only [za0,hS] at hv;split at hv
   case h_2=>cases hv
   rename_i sz0 es0 a0 n0 cap0 e0 hv0;cases e0;rw [hv0] at n3;have hi1:(zb4 d.es d.i d.j .undef)[d.i]?=some (cs.set d.j .undef):=by
    rw [z9l hi]; simp [hil]
   rw [n3] at hob1;obtain ⟨_,_,hcl,b,off,cur,t,ea,hF,hb,_⟩:=hob1.at hi1;cases ea;have hjl:d.j<d.sz:=by
    have:=(bD hj).1;simp only [List.length_set] at hcl;omega
   have hbk:w'.heap[b]?=w.heap[b]?:=by
    refine hfr b (s1.rel.lt d.o b (by rw [hS1]; rfl) hF) fun o ho hl hFo => ?_;have:=s1.rel.sep o d.o b hl (by rw [hS1]; rfl) hFo hF;exact hno (List.any_eq_true.mpr ⟨o,ho,by simp [this]⟩)
   have hlen:d.i<es4.length:=by
    rw [<- k2,z9l hi]; simpa using hil
   obtain ⟨g3,s4,go4⟩:=s2.putSub (n:=st.nx) (o:=d.o) hne hS2 hN2 hlen hjl (b:=b) (off:=off) (by rw [k3,n3]) (by
    rw [m3,hvn,World.cell?_of_block (w:=w) hbk]; exact hv)
   exact ⟨g3,s4,zap.goes go4 r2⟩
theorem yrd : ∀ {args:List (List Nat×PV)} {xs:List Value} {ts:List PV},zc1 st [] args=some (xs.map PV.v,ts)->args.map (fun q=>q.2)=xs.map PV.v/\ts=[]
 | [],xs,ts,h=>by
  simp only [zc1,bC,Prod.mk.injEq] at h;exact ⟨h.1,h.2.symm⟩
 | (szs,x)::args,xs,ts,h=>by
  simp only [zc1] at h;obtain ⟨y,hy,h⟩:=bA h;obtain ⟨⟨ys,ts'⟩,hq,h⟩:=bA h;simp only [bC,Prod.mk.injEq] at h;obtain ⟨h1,rfl⟩:=h;cases xs with
  | nil=>cases h1
  | cons v xs =>
   simp only [List.map_cons,List.cons.injEq] at h1;obtain ⟨rfl,rfl⟩:=h1;obtain ⟨h2,h3⟩:=yrd hq;refine ⟨?_,h3⟩;simp only [List.map_cons,h2,List.cons.injEq,and_true];cases x with
   | v x=>simp only [zcx,zcg,bC] at hy; exact hy
   | agg cs=>simp [zcx] at hy
   | fn f cs=>simp [zcx] at hy
   | ptr o p ep i j =>
    simp only [zcx,zcg] at hy;unfold zjz at hy;split at hy
    ·split at hy
     ·cases hy
     ·cases hy
    ·cases hy
   | ref o p ep lo len=>simp [zcx,zcg] at hy
   | _=>simp [zcx,zcg] at hy
theorem ytc (st:St) (z:Bool) : ∀ ys:List Value,zf3 st z (ys.map PV.v)=some (ys.map PV.v,st)
 | []=>rfl
 | y::ys=>by simp only [List.map_cons,zf3,zfu,zdo,Option.bind_some,ytc st z ys]
theorem qat (ys:List Value):zap w g st (zpz (ys.map PV.v)) (zja ys):=by
 have gen:zap w g st (.tup (ys.map PV.v)) (.tuple ys.toArray):=by
  refine ⟨ys.toArray,rfl,by simp,fun k c hk => ?_⟩;simp only [List.getElem?_map,bB] at hk;obtain ⟨y,hy,rfl⟩:=hk;exact ⟨y,by simpa using hy,rfl⟩
 match ys with
 | []=>exact gen
 | [y]=>exact rfl
 | _::_::_=>exact gen
theorem qed {P:Program} {modes:Nat->List Bool} {R:zak} {f:Nat} (hm:modes f=[]) (hR : ∀ args r,R f args=some r->Imm P f args r) {args:List (List Nat×PV)} {us:List Value} (hrep:ze6 w g st args us) {r:PV×St} (hc:zdy modes R st f args=some r) :
  ∃ v,(callFunc f us.toArray).run P w = .ok (.value v) w/\r.2=st/\zap w g st r.1 v:=by
 have hf:zeq st (modes f) args=none:=by rw [hm]; cases args <;> rfl
 rw [zdy,hf] at hc;simp only [zgw,zfm,hm] at hc;obtain ⟨⟨as,ts⟩,ha,hc⟩:=bA hc;simp only [zhb] at hc;split at hc
 case isFalse=>cases hc
 obtain ⟨⟨rets,outs⟩,hq,hc⟩:=bA hc;obtain ⟨xs,ys,h1,h2,h3⟩:=hR _ _ hq;subst h1;cases h2;obtain ⟨h4,rfl⟩:=yrd ha;simp only [List.any_nil,List.all_nil,Bool.not_true,Bool.and_false,Bool.or_false,Bool.false_eq_true,if_false,ze2,Option.bind_some,zhd,ytc,Option.map_some,bC] at hc;subst hc;have hu:us=xs:=by
  apply List.ext_getElem?;intro k;have hl:us.length=xs.length:=by rw [hrep.1]; have:=congrArg List.length h4; simpa using this
  rcases Nat.lt_or_ge k us.length with hk | hk
  ·have hka:k<args.length:=by rw [<- hrep.1]; exact hk
   obtain ⟨u,hu,hr⟩:=hrep.2 k _ (bG hka);have h5:=congrArg (fun l=>l[k]?) h4;simp only [List.getElem?_map,bG hka,Option.map_some] at h5;rw [bG (by omega),Option.map_some,bC] at h5;rw [h5] at hr;have:u=xs[k]:=hr;rw [hu,this,bG]
  ·rw [List.getElem?_eq_none hk,List.getElem?_eq_none (by omega)]
 subst hu;exact ⟨_,h3 w,rfl,qat ys⟩
theorem qha {es:List (List PV)} {i j i' j':Nat} {c:PV} (h:(i',j')≠(i,j)):zbe (zb4 es i j c) i' j'=zbe es i' j':=by
 unfold zb4;cases hi:es[i]? with
 | none=>rfl
 | some cs =>
  simp only [zbe]
  by_cases e:i'=i
  ·subst e;have hj : ¬ j=j':=fun e=>h (by rw [e]);have hlt:=(bD hi).1;rw [List.getElem?_set_self hlt,hi];simp only [List.getElem?_set_ne hj]
  ·rw [List.getElem?_set_ne (fun e'=>e e'.symm)]
theorem ym1 {w:World} {g g':Gh} {st:St} {d:Sub} (hd:zla st d) (hg:zaq w g st w g' (zcf st d)) {v:Value} (hv:za0 w st.S g.hv d.o (some (d.i,d.j))=some v) (hn:g'.hv st.nx=v) {c:PV} {u:Value} (h:zbc w g st c u):zbc w g' (zcf st d) (zlh d st.nx st.ep c) u:=by
 cases c with
 | ref o p ep lo len =>
  cases p with
  | none=>exact zbc.goes hg h
  | some q =>
   simp only [zlh];split
   ·rename_i hc;obtain ⟨rfl,rfl⟩:=hc;split
    ·rename_i hq;subst hq;have e:zgy d st.nx st.ep (.ref d.o (some (d.i,d.j)) st.ep lo len) = .ref st.nx none (st.ep+1) lo len:=by simp [zgy]
     rw [<- e];exact ycp hd hg hv hn h
    ·rename_i hq;obtain ⟨hS,hsub⟩:=hd;obtain ⟨q0,q1,q2,q3⟩:=h;have hne : ¬ d.o=st.nx:=Nat.ne_of_lt q1;have hS1:(zcf st d).S d.o=some (.row d.sz (zb4 d.es d.i d.j .undef)):=by simp [zcf,hne]
     refine ⟨q0,Nat.lt_succ_of_lt q1,Nat.le_refl _,fun sz es hr => ?_⟩;obtain ⟨i',j'⟩:=q;rw [hS1] at hr;have hr2:zbe d.es i' j'=some (sz,es):=by
      rw [<- qha (c := .undef) hq];simpa [zcf] using hr
     obtain ⟨hh,e1,e2,e3⟩:=q3 sz es (by rw [hS]; simp only [zfo,if_true]; exact hr2);refine ⟨hh,?_,e2,e3⟩;have hhv:g'.hv d.o=g.hv d.o:=by
      obtain ⟨_,_,_,k⟩:=hg.row d.o q1 none 0 (Nat.zero_le _) d.sz (zb4 d.es d.i d.j .undef) (by rw [hS1]; rfl);simpa [za0] using k
     simp only [za0,hS1,hhv];simp only [za0,hS] at e1
     revert e1
     generalize g.hv d.o=X;cases X with
     | slice a _ _=>cases a <;> exact id
     | _=>exact id
   ·exact zbc.goes hg h
 | _=>exact zbc.goes hg h
theorem qbt {g g':Gh} (hd:zla st d) (hg:zaq w g st w g' (zcf st d)) {v:Value} (hv:za0 w st.S g.hv d.o (some (d.i,d.j))=some v) (hn:g'.hv st.nx=v) {c:PV} {u:Value} (h:zap w g st c u):zap w g' (zcf st d) (zvv d st.nx st.ep c) u:=by
 cases c with
 | agg cs =>
  obtain ⟨us,rfl,hl,hr⟩:=h;refine ⟨us,rfl,by simpa using hl,fun k c hk => ?_⟩;simp only [List.getElem?_map,bB] at hk;obtain ⟨c0,h0,rfl⟩:=hk;obtain ⟨u,hu,hc⟩:=hr k c0 h0;exact ⟨u,hu,ym1 hd hg hv hn hc⟩
 | fn f cs=>exact zap.goes hg h
 | tup vs=>exact zap.goes hg h
 | ref o p ep lo len =>
  have:=ym1 hd hg hv hn (c := .ref o p ep lo len) h;simp only [zvv];exact zap.c this
 | undef=>trivial
 | v x=>exact h
 | e0=>exact h
 | sl sz es=>exact zap.goes hg h
 | own=>exact h
 | bx=>exact h
 | ptr o p e i j=>exact zap.goes hg h
 | fptr cs j=>exact zap.goes hg h
theorem yrz {a:Act} : ∀ (n:Nat) {g:Gh} {st:St} {xs:List (List Nat×PV)} {us:List Value},SR C a w g st->ze6 w g st xs us->∃ g',SR C a w g' (zjo n st xs).1/\ze6 w g' (zjo n st xs).1 (zjo n st xs).2 us
 | 0,g,st,xs,us,h,hr=>⟨g,h,hr⟩
 | n+1,g,st,xs,us,h,hr=>by
  rw [zjo];cases hd:zhj st (xs.flatMap fun x=>cellsOf x.2) with
  | none=>exact ⟨g,h,hr⟩
  | some d =>
   have hat:=ycn hd;obtain ⟨g1,v,hv,s1,go1,hvn⟩:=yrg h hat;refine yrz n s1 ⟨by simpa using hr.1,fun k q hk => ?_⟩;simp only [List.getElem?_map,bB] at hk;obtain ⟨q0,h0,rfl⟩:=hk;obtain ⟨u,hu,hq⟩:=hr.2 k q0 h0;exact ⟨u,hu,qbt hat go1 hv hvn hq⟩
theorem yo6 {P:Program} {vars:List Nat} {nt:Nat} {w:World} {Z:Nat->Prop} {l:List Hd} {a:Act} {w':World} {g:Gh} {st:St} (h:SR (zgn P vars nt w Z l) a w' g st) {fn:Func} {ifn:IFn} (hc:zjq P vars fn.results.toList fn.resultTypes.toList=some (zm4 ifn.results)) {ys os:List PV} (hf:zf8 ifn l.length st=some (ys,os)) :
  ∃ us lr,∃ g':Gh,(results fn a.tmps).run P w' = .ok (zja us) w'/\zp9 w Z l ys os (zja us) w' g'.Z ((List.range l.length).map fun k=>(g'.F k,g'.hv k)) lr us:=by
 simp only [zf8] at hf;obtain ⟨xs,h1,hf⟩:=bA hf;obtain ⟨us,run,rl⟩:=qf4 (C:=zgn P vars nt w Z l) h hc h1;split at hf
 ·obtain ⟨g',s',r'⟩:=yrz 2 h rl;obtain ⟨lr,hp⟩:=yst s' r' hf;exact ⟨us,lr,g',run,hp⟩
 ·obtain ⟨lr,hp⟩:=yst h rl hf;exact ⟨us,lr,g,run,hp⟩
end Go.Pe
namespace Go.Pe
open Go
variable {C:Ctx} {w:World} {g:Gh} {st:St} {R:zak} {f:Nat} {r:PV×St}
theorem yd6 {a:Act} (h:SR C a w g st) : ∀ {xs:List Operand} {ts:List TypeId} {l:List (List Nat×Opd)},zjs C.P C.vars xs ts=some l->ze6 w g st (l.map fun q=>(q.1,q.2.get st)) (xs.map a.eval)
 | [],[],l,hc=>by simp only [zjs,bC] at hc; subst hc; exact ⟨rfl,by simp⟩
 | x::xs,t::ts,l,hc=>by
  simp only [zjs] at hc;obtain ⟨y,hy,hc⟩:=bA hc;simp only [bB] at hc;obtain ⟨l',hl,rfl⟩:=hc;have ih:=yd6 h hl;refine ⟨by simp [ih.1],fun k q hk => ?_⟩;cases k with
  | zero=>simp at hk; subst hk; exact ⟨a.eval x,by simp,h.opd hy⟩
  | succ k =>
   simp only [List.map_cons,List.getElem?_cons_succ] at hk ⊢;exact ih.2 k q hk
 | [],_::_,_,hc=>by simp [zjs] at hc
 | _::_,[],_,hc=>by simp [zjs] at hc
theorem ys1 {P:Program} {modes:Nat->List Bool} (hR:zyk P R f) {args:List (List Nat×PV)} (hc:zfm modes R st f args=some r):zva P f:=by
 simp only [zfm] at hc;obtain ⟨q,ha,hc⟩:=bA hc;generalize decide (args.length<(modes f).length)=fl at hc;simp only [zhb] at hc;split at hc
 ·obtain ⟨q2,h2,hc⟩:=bA hc;exact (hR _ q2 h2).1
 ·cases hc
theorem qhk {P:Program} {modes:Nat->List Bool} (hR:zyk P R f) {args:List (List Nat×PV)} (hc:zdy modes R st f args=some r):zva P f:=by
 simp only [zdy,zgw] at hc;split at hc
 ·rename_i d hd;simp only [zj8] at hc;split at hc
  ·cases hc
  ·obtain ⟨q,h1,_⟩:=bA hc;exact ys1 hR h1
 ·exact ys1 hR hc
theorem yn2 {a:Act} (h:SR C a w g st) {modes:Nat->List Bool} (hR:zhk C.P modes R) {o:Oper} {args:List (List Nat×PV)} {us:List Value} (hrep:ze6 w g st args us) (hc:zdy modes R st f args=some r) (hrun:(execOp a.eval o).run C.P w=(callFunc f us.toArray).run C.P w):zat C o a w r.1 r.2:=by
 rcases hR f with hs | ⟨hm,hs⟩
 ·intro K Q hK;unfold Oper.wp;rw [hrun,qhk hs hc,Oper.upon_enter];refine (qf8 h hs hrep hc).mono fun e w' he => ?_;cases e with
  | returned v =>
   obtain ⟨g',s',r'⟩:=he;exact hK v w' g' s' r'
  | panicked=>exact he.elim
  | outgrown=>exact he.elim
 ·obtain ⟨v,h1,h2,h3⟩:=qed hm hs hrep hc;rw [h2];exact zat.value (hrun.trans h1) h h3
theorem qdm {a:Act} (h:SR C a w g st) {modes:Nat->List Bool} (hR:zhk C.P modes R) {o:Oper} {c:Call} (ho:o.op = .call c) (hf:c.callee = .value (.func f)) {l:List (List Nat×Opd)} (hl:zjs C.P C.vars c.args.toList c.argTypes.toList=some l) (hc:zdy modes R st f (l.map fun q=>(q.1,q.2.get st))=some r):zat C o a w r.1 r.2:=by
 refine yn2 h hR (yd6 h hl) hc ?_;have e:(c.args.toList.map a.eval).toArray=c.args.map a.eval:=by rw [<- Array.toList_map,Array.toArray_toList]
 rw [e];simp [execOp,ho,resolve,hf,Act.eval,Deferred.ofValue,invoke]
theorem qd1 {a:Act} (h:SR C a w g st) {modes:Nat->List Bool} (hR:zhk C.P modes R) {o:Oper} {c:Call} (ho:o.op = .call c) {q:Operand} (hf:c.callee = .value q) {q':Opd} (hq:zan C.vars q=some q') {l:List (List Nat×Opd)} (hl:zjs C.P C.vars c.args.toList c.argTypes.toList=some l) (hc:zpm modes R st (l.map fun q=>(q.1,q.2.get st)) (q'.get st)=some r):zat C o a w r.1 r.2:=by
 have hv:=h.opd hq;generalize q'.get st=X at hv hc;cases X with
 | fn f caps =>
  simp only [zpm] at hc;obtain ⟨us,hu,hr⟩:=hv;have ha:=yd6 h hl;have hrep:ze6 w g st ((l.map fun q=>(q.1,q.2.get st))++caps.map fun c=>([],c)) (c.args.toList.map a.eval++us.toList):=by
   refine ⟨by rw [List.length_append,List.length_append,ha.1,hr.1]; simp,fun k p hk => ?_⟩;have hlen:=ha.1
   by_cases e:k<(l.map fun q=>(q.1,q.2.get st)).length
   ·rw [List.getElem?_append_left e] at hk;rw [List.getElem?_append_left (by omega)];exact ha.2 k p hk
   ·rw [bO (by omega)] at hk;rw [bO (by omega),hlen];simp only [List.getElem?_map,bB] at hk;obtain ⟨c',hc',rfl⟩:=hk;obtain ⟨u,hu,hrc⟩:=hr.2 _ c' hc';exact ⟨u,hu,zap.c hrc⟩
  refine yn2 h hR hrep hc ?_;have e:(c.args.toList.map a.eval++us.toList).toArray=c.args.map a.eval++us:=by
   rw [<- Array.toList_map,<- Array.toList_append,Array.toArray_toList]
  rw [e];simp [execOp,ho,resolve,hf,hu,Deferred.ofValue,invoke]
 | _=>simp [zpm] at hc
end Go.Pe
namespace Go.Pe
open Go
theorem qg3 {C:Ctx} {a:Act} {w:World} {g:Gh} {st:St} (h:SR C a w g st) {modes:Nat->List Bool} {R:zak} {o:Oper} {op:BinOp} {t yt:TypeId} {x y:Operand} (ho:o.op = .binOp op t x y yt) {x' y':Opd} (hx:zan C.vars x=some x') (hy:zan C.vars y=some y') {io:IOp} (hb:zzc C.P op t x' y'=some io) {r:PV×St} (he:zaj modes R st io=some r):zat C o a w r.1 r.2:=by
 have bin:io = .bin op x' y'->zat C o a w r.1 r.2:=by
  rintro rfl;simp only [zaj,bB] at he;obtain ⟨q,hq,rfl⟩:=he;exact qcd h ho hx hy hq
 unfold zzc at hb;split at hb
 ·rename_i hu;split at hb
  ·rename_i hop;cases hb;simp only [zaj,bB] at he;obtain ⟨q,hq,rfl⟩:=he;exact yr9 h ho hx hy hop (.inl ⟨hu,rfl⟩) hq
  ·cases hb
 ·rename_i fs hu;split at hb
  ·rename_i hop;simp only [Bool.and_eq_true,Bool.not_eq_true'] at hop;obtain ⟨ks,hk,hb⟩:=bA hb;split at hb
   ·rename_i h2;cases hb;simp only [zaj,bB] at he;obtain ⟨q,hq,rfl⟩:=he;exact yr9 h ho hx hy hop.1 (.inr ⟨⟨fs,hu⟩,hop.2,hk,h2⟩) hq
   ·cases hb
  ·cases hb
 ·exact bin (by simpa using hb.symm)
 ·exact bin (by simpa using hb.symm)
 ·cases hb
theorem qfk {C:Ctx} {a:Act} {w:World} {g:Gh} {st:St} (h:SR C a w g st) {modes:Nat->List Bool} {R:zak} (hR:zhk C.P modes R) {o:Oper} {c:Call} (ho:o.op = .call c) {io:IOp} (hc:zbv C.P C.vars (.call c)=some io) {r:PV×St} (he:zaj modes R st io=some r):zat C o a w r.1 r.2:=by
 simp only [zbv] at hc;split at hc
 ·rename_i f hf;simp only [bB] at hc;obtain ⟨l,hl,rfl⟩:=hc;simp only [zaj] at he;exact qdm h hR ho hf hl he
 ·rename_i q _ hf;obtain ⟨q',hq,hc⟩:=bA hc;simp only [bB] at hc;obtain ⟨l,hl,rfl⟩:=hc;simp only [zaj] at he;exact qd1 h hR ho hf hq hl he
 ·rename_i hf;split at hc
  ·rename_i x t hx ht;split at hc
   ·rename_i e hu;simp only [bB] at hc;obtain ⟨x',hx',rfl⟩:=hc;simp only [zaj,bB] at he;obtain ⟨n,hn,rfl⟩:=he;exact qgw h ho hf hx ht hu hx' hn
   ·rename_i hu;simp only [bB] at hc;obtain ⟨x',hx',rfl⟩:=hc;simp only [zaj,bB] at he;obtain ⟨n,hn,rfl⟩:=he;exact qgs h ho hf hx ht hu hx' hn
   ·cases hc
  ·cases hc
 ·rename_i hf;split at hc
  ·rename_i x y t u hx ht;split at hc
   ·rename_i e ue hu hu2;obtain ⟨i,hi,hc⟩:=bA hc;obtain ⟨x',hx',hc⟩:=bA hc;obtain ⟨y',hy',hc⟩:=bA hc;split at hc
    ·rename_i hcond;cases hc;simp only [zaj] at he;exact qgm h ho hf hx ht hu hu2 hi hcond.1 hcond.2.2 hx' hy' he
    ·cases hc
   ·rename_i e hu hu2;obtain ⟨i,hi,hc⟩:=bA hc;obtain ⟨x',hx',hc⟩:=bA hc;obtain ⟨y',hy',hc⟩:=bA hc;split at hc
    ·rename_i hcond;cases hc;simp only [zaj] at he;obtain ⟨q,hq,he⟩:=bA he;exact qip h ho hf hx ht hu hu2 hi hcond.1 hcond.2.1 hcond.2.2 hx' hy' hq he
    ·cases hc
   ·cases hc
  ·cases hc
 ·rename_i hf;split at hc
  ·rename_i x y hx;obtain ⟨x',hx',hc⟩:=bA hc;simp only [bB] at hc;obtain ⟨y',hy',rfl⟩:=hc;simp only [zaj,bB] at he;obtain ⟨q,hq,rfl⟩:=he;exact yov h ho (big:=true) hf hx hx' hy' hq
  ·cases hc
 ·rename_i hf;split at hc
  ·rename_i x y hx;obtain ⟨x',hx',hc⟩:=bA hc;simp only [bB] at hc;obtain ⟨y',hy',rfl⟩:=hc;simp only [zaj,bB] at he;obtain ⟨q,hq,rfl⟩:=he;exact yov h ho (big:=false) hf hx hx' hy' hq
  ·cases hc
 ·cases hc
theorem yc9 {C:Ctx} {a:Act} {w:World} {g:Gh} {st:St} (h:SR C a w g st) {modes:Nat->List Bool} {R:zak} (hR:zhk C.P modes R) {o:Oper} {io:IOp} (hc:zbv C.P C.vars o.op=some io) {r:PV×St} (he:zaj modes R st io=some r):zat C o a w r.1 r.2:=by
 generalize hop:o.op=q at hc;cases q with
 | move x =>
  simp only [zbv,bB] at hc;obtain ⟨x',hx,rfl⟩:=hc;simp only [zaj,bC] at he;subst he;exact yn5 h (.inl hop) hx
 | assign x =>
  simp only [zbv,bB] at hc;obtain ⟨x',hx,rfl⟩:=hc;simp only [zaj,bC] at he;subst he;exact yn5 h (.inr hop) hx
 | pick c x y =>
  simp only [zbv] at hc;obtain ⟨c',hcc,hc⟩:=bA hc;obtain ⟨x',hx,hc⟩:=bA hc;simp only [bB] at hc;obtain ⟨y',hy,rfl⟩:=hc;simp only [zaj,bB] at he;obtain ⟨t,ht,rfl⟩:=he;exact qa1 h hop hcc hx hy ht
 | alloc t =>
  simp only [zbv,bB] at hc;obtain ⟨z,hz,rfl⟩:=hc;simp only [zaj,bC] at he;subst he;exact qgd h hop hz
 | box t x =>
  simp only [zbv,bB] at hc;obtain ⟨x',hx,rfl⟩:=hc;simp only [zaj] at he;split at he
  ·rename_i hb;simp only [bC] at he;subst he;exact qdz h hop hx hb
  ·cases he
 | build t parts =>
  simp only [zbv] at hc;split at hc
  ·rename_i fs hu;obtain ⟨z,hz,hc⟩:=bA hc;obtain ⟨pl,hpl,hc⟩:=bA hc;simp only [bB] at hc;obtain ⟨ps,hps,rfl⟩:=hc;simp only [zaj,bB] at he;obtain ⟨cs,hcs,rfl⟩:=he;exact qgj h hop hu hz hpl hps hcs
  ·cases hc
 | buildSlice t n parts =>
  simp only [zbv] at hc;split at hc
  ·rename_i e hu;obtain ⟨s,hs,hc⟩:=bA hc;obtain ⟨z,hz,hc⟩:=bA hc;obtain ⟨ps,hps,hc⟩:=bA hc;split at hc
   ·rename_i hcond;cases hc;exact qb9 h hop hu hs hz hps hcond.1 hcond.2.1 (by simp only [zaj] at he ⊢; exact he)
   ·cases hc
  ·cases hc
 | load t x =>
  simp only [zbv] at hc;obtain ⟨ag,hag,hc⟩:=bA hc;obtain ⟨s,hs,hc⟩:=bA hc;obtain ⟨x',hx,hc⟩:=bA hc;split at hc
  ·cases hc;simp only [zaj] at he;obtain ⟨ds,hds,he⟩:=bA he;simp only [bB] at he;obtain ⟨q,hq,rfl⟩:=he;exact qbz h hop hag hs hx hds hq
  ·cases hc
 | store t x y =>
  simp only [zbv] at hc;obtain ⟨l,hl,hc⟩:=bA hc;obtain ⟨x',hx,hc⟩:=bA hc;simp only [bB] at hc;obtain ⟨y',hy,rfl⟩:=hc;simp only [zaj,bB] at he;obtain ⟨st',hst,rfl⟩:=he;exact qh0 h hop (ysk hl) hx hy hst
 | nilCheck x =>
  simp only [zbv,bB] at hc;obtain ⟨x',hx,rfl⟩:=hc;simp only [zaj,bB] at he;obtain ⟨q,hq,rfl⟩:=he;exact qe1 h hop hx hq
 | binOp op t x y yt =>
  simp only [zbv] at hc;obtain ⟨x',hx,hc⟩:=bA hc;obtain ⟨y',hy,hc⟩:=bA hc;exact qg3 h hop hx hy hc he
 | unOp op t x =>
  simp only [zbv,bB] at hc;obtain ⟨x',hx,rfl⟩:=hc;simp only [zaj,bB] at he;obtain ⟨q,hq,rfl⟩:=he;exact qaf h hop hx hq
 | convert src dst x =>
  simp only [zbv] at hc;split at hc
  ·rename_i k0 k h0 h1;simp only [bB] at hc;obtain ⟨x',hx,rfl⟩:=hc;simp only [zaj,bB] at he;obtain ⟨n,hn,rfl⟩:=he;exact qau h hop h0 h1 hx hn
  ·rename_i e h0 h1;split at hc
   ·rename_i he8;simp only [bB] at hc;obtain ⟨x',hx,rfl⟩:=hc;simp only [zaj] at he;obtain ⟨q,hq,he⟩:=bA he;simp only [bB] at he;obtain ⟨l,hl,rfl⟩:=he;exact qf0 h hop h0 h1 he8 hx hq hl
   ·cases hc
  ·cases hc
 | makeFunc fn first caps =>
  cases fn with
  | func f =>
   simp only [zbv] at hc;split at hc
   ·rename_i hf;simp only [bB] at hc;obtain ⟨cs,hcs,rfl⟩:=hc;simp only [zaj] at he;split at he
    ·rename_i hcell;simp only [bC] at he;subst he;exact qgr h hop hf hcs hcell
    ·cases he
   ·cases hc
  | _=>simp [zbv] at hc
 | makeSlice t l c =>
  simp only [zbv] at hc;split at hc
  ·rename_i e hu;obtain ⟨i,hi,hc⟩:=bA hc;obtain ⟨z,hz,hc⟩:=bA hc;obtain ⟨l',hl,hc⟩:=bA hc;obtain ⟨c',hcc,hc⟩:=bA hc;split at hc
   ·rename_i hcond;cases hc;simp only [zaj] at he;obtain ⟨n,hn,he⟩:=bA he;obtain ⟨m,hm,he⟩:=bA he;split at he
    ·rename_i hnm;simp only [bC] at he;subst he;exact qf9 h hop hu hi hz hcond.1 hl hcc hn hm hnm.1 hnm.2
    ·cases he
   ·cases hc
  ·cases hc
 | slice t x lo hi mx =>
  simp only [zbv] at hc;split at hc
  ·rename_i e hu;obtain ⟨s,hs,hc⟩:=bA hc;obtain ⟨x',hx,hc⟩:=bA hc;obtain ⟨lo',hlo,hc⟩:=bA hc;obtain ⟨hi',hhi,hc⟩:=bA hc;simp only [bB] at hc;obtain ⟨mx',hmx,rfl⟩:=hc;simp only [zaj] at he;obtain ⟨l,hl,he⟩:=bA he;obtain ⟨hh,hhh,he⟩:=bA he;obtain ⟨m,hm,he⟩:=bA he;simp only [bB] at he;obtain ⟨q,hq,rfl⟩:=he;exact qe8 h hop hu hs hx hlo hhi hmx hl hhh hm hq
  ·rename_i hu;split at hc
   ·rename_i hmx;obtain ⟨x',hx,hc⟩:=bA hc;obtain ⟨lo',hlo,hc⟩:=bA hc;simp only [bB] at hc;obtain ⟨hi',hhi,rfl⟩:=hc;simp only [zaj] at he;obtain ⟨q,hq,he⟩:=bA he;obtain ⟨l,hl,he⟩:=bA he;obtain ⟨hh,hhh,he⟩:=bA he;simp only [bB] at he;obtain ⟨r',hr',rfl⟩:=he;have:mx=none:=by simpa using hmx
    subst this;exact qgg h hop hu hx hlo hhi hl hhh hq hr'
   ·cases hc
  ·cases hc
 | fieldAddr s x f =>
  simp only [zbv] at hc;split at hc
  ·rename_i fs hu;obtain ⟨fd,hfd,hc⟩:=bA hc;obtain ⟨z,hz,hc⟩:=bA hc;obtain ⟨x',hx,hc⟩:=bA hc;split at hc
   ·rename_i hz0;cases hc;simp only [zaj,bB] at he;obtain ⟨q,hq,rfl⟩:=he;exact qcj h hop hu hfd hz hz0 hx hq
   ·cases hc
  ·cases hc
 | indexAddr t x i =>
  simp only [zbv] at hc;split at hc
  ·rename_i e hu;obtain ⟨s,hs,hc⟩:=bA hc;obtain ⟨x',hx,hc⟩:=bA hc;simp only [bB] at hc;obtain ⟨i',hi,rfl⟩:=hc;simp only [zaj] at he;obtain ⟨k,hk,he⟩:=bA he;simp only [bB] at he;obtain ⟨q,hq,rfl⟩:=he;exact qh6 h hop hu hs hx hi hk hq
  ·cases hc
 | index t x i =>
  simp only [zbv] at hc;split at hc
  ·rename_i hu;obtain ⟨x',hx,hc⟩:=bA hc;simp only [bB] at hc;obtain ⟨i',hi,rfl⟩:=hc;simp only [zaj] at he;obtain ⟨q,hq,he⟩:=bA he;obtain ⟨k,hk,he⟩:=bA he;simp only [bB] at he;obtain ⟨b,hb,rfl⟩:=he;exact qct h hop hu hx hi hq hk hb
  ·cases hc
 | extract x i =>
  simp only [zbv,bB] at hc;obtain ⟨x',hx,rfl⟩:=hc;simp only [zaj,bB] at he;obtain ⟨q,hq,rfl⟩:=he;exact qd7 h hop hx hq
 | call c=>exact qfk h hR hop hc he
 | _=>simp [zbv] at hc
end Go.Pe
namespace Go.Pe
open Go
def St.en (st:St) (V E:Nat->PV):St := { st with V:=V,E:=E }
def enP {α:Type} (V E:Nat->PV) (r:α×St):α×St:=(r.1,r.2.en V E)
section
variable (st:St) (V E:Nat->PV)
theorem qg0 (o:Nat) (ob:Option Ob) (p:Option (Nat×Nat)) (lo len:Nat):zgd (st.en V E) o ob p lo len=(zgd st o ob p lo len).map (enP V E):=by
 unfold zgd;split
 ·split <;> rfl
 ·rfl
theorem qda (sz:Nat) (c:PV):zfp (st.en V E) sz c=(zfp st sz c).map (enP V E):=by
 cases c with
 | v x=>simp only [ycl]; split <;> rfl
 | ref o p e lo len=>exact qg0 st V E o (st.S o) p lo len
 | _=>rfl
end
theorem ybp (V E:Nat->PV) : ∀ (szs:List Nat) (cs:List PV) (st:St),zdt (st.en V E) szs cs=(zdt st szs cs).map (enP V E)
 | [],[],st=>rfl
 | sz::szs,c::cs,st=>by
  simp only [ybz];rw [qda];cases zfp st sz c with
  | none=>rfl
  | some r =>
   simp only [Option.map_some,Option.bind_some,enP];rw [ybp V E szs cs r.2];cases zdt r.2 szs cs <;> rfl
 | [],_::_,_=>rfl
 | _::_,[],_=>rfl
theorem qit (V E:Nat->PV) (st:St) (o i j:Nat) (ys:List PV) (ob:Option Ob):zi7 (st.en V E) o i j ys ob=(zi7 st o i j ys ob).map (fun s=>s.en V E):=by
 unfold zi7;split
 ·rename_i sz es;cases es[i]? with
  | none=>rfl
  | some cs=>simp only [Option.bind_some]; split <;> rfl
 ·rfl
theorem qeb (V E:Nat->PV) (st:St) (szs:List Nat) (xs:List PV) (o:Nat) (ob:Option Ob) (p:Option (Nat×Nat)) (ep i j:Nat):zfs (st.en V E) szs xs o ob p ep i j=(zfs st szs xs o ob p ep i j).map (fun s=>s.en V E):=by
 unfold zfs;split
 ·split <;> rfl
 ·rename_i s es;cases zju xs with
  | some d =>
   simp only [zym]
   by_cases c:d.1=o/\d.2.1=(i,j)/\d.2.2.1=st.ep
   ·rw [if_pos c,if_pos (show d.1=o/\d.2.1=(i,j)/\d.2.2.1=(st.en V E).ep from c)];cases zbe es i j with
    | none=>rfl
    | some r=>simp only [Option.bind_some]; split <;> rfl
   ·rw [if_neg c,if_neg (show ¬ (d.1=o/\d.2.1=(i,j)/\d.2.2.1=(st.en V E).ep) from c)]; rfl
  | none =>
   simp only;rw [ybp];cases zdt st szs xs with
   | none=>rfl
   | some r=>exact qit V E r.2 o i j r.1 (r.2.S o)
 ·rename_i sz es a b;split
  ·rename_i c;rw [if_pos (show ep=st.ep/\xs.all ze1=true from c)];cases zbe es a b with
   | none=>rfl
   | some q =>
    simp only [Option.bind_some];cases q.2[i]? with
    | none=>rfl
    | some cs=>simp only [Option.bind_some]; split <;> rfl
  ·rename_i c;rw [if_neg (show ¬ (ep=st.ep/\xs.all ze1=true) from c)]; rfl
 ·rename_i sz es;cases zfd szs xs with
  | none=>rfl
  | some ys =>
   simp only [Option.bind_some];cases es[i]? with
   | none=>rfl
   | some cs=>simp only [Option.bind_some]; split <;> rfl
 ·rfl
theorem qg1 (V E:Nat->PV) (st:St) (szs:List Nat) (a x:PV):storeAt (st.en V E) szs a x=(storeAt st szs a x).map (fun s=>s.en V E):=by
 simp only [storeAt];cases a with
 | ptr o p ep i j =>
  simp only [zvk];split
  ·exact qeb V E st szs (cellsOf x) o (st.S o) p ep i j
  ·rfl
 | _=>rfl
theorem ycr (V E:Nat->PV) (z:List PV) : ∀ (xs:List (Nat×PV)) (st:St) (es:List (List PV)),zdj (st.en V E) z es xs=(zdj st z es xs).map (enP V E)
 | [],st,es=>rfl
 | (i,x)::xs,st,es=>by
  simp only [zdj];rw [ybp];cases zdt st (z.map zpl) (cellsOf x) with
  | none=>rfl
  | some q =>
   simp only [Option.map_some,Option.bind_some,enP];split
   ·exact ycr V E z xs q.2 _
   ·rfl
theorem yo2 (V E:Nat->PV) (st:St) (sz:Nat) (x:PV):zgl (st.en V E) sz x=(zgl st sz x).map (fun r=>(r.1,r.2.1,r.2.2.en V E)):=by
 cases x with
 | ref o p ep lo len =>
  simp only [zgl];show zgr (st.en V E) sz o (st.S o) p ep lo len=_;unfold zgr;split
  ·split <;> rfl
  ·rename_i s es i j heq;split
   ·rename_i c;rw [if_pos (show _=st.ep from c)];cases zbe es i j with
    | none=>rfl
    | some r=>simp only [Option.bind_some]; split <;> rfl
   ·rename_i c;rw [if_neg (show ¬ _=st.ep from c)]; rfl
  ·split <;> rfl
  ·rfl
 | _=>rfl
theorem qa5 (V E:Nat->PV) (st:St) (sz:Nat) (x:PV):zgh (st.en V E) sz x=(zgh st sz x).map (fun r=>(r.1,r.2.1,r.2.2.en V E)):=by
 cases x with
 | sl s es=>simp only [zgh]; split <;> rfl
 | ref o p ep lo len =>
  simp only [zgh];show (zfx st o p ep).bind _=_;cases zfx st o p ep with
  | none=>rfl
  | some r =>
   simp only [Option.bind_some];split
   ·split
    ·rfl
    ·show zhm (st.en V E) o (st.S o) p lo len=_;unfold zhm;split
     ·split <;> rfl
     ·rfl
     ·rfl
   ·rfl
 | _=>rfl
theorem yon (V E:Nat->PV) (st:St) (sz:Nat) (es:List (List PV)) (b:Bool) (m:Option Bool):zhh (st.en V E) sz es b m=(zhh st sz es b m).map (enP V E):=by
 cases b <;> cases m <;> first | rfl | (rename_i q; cases q <;> rfl)
theorem qcl (V E:Nat->PV) (st:St) (bytes sz:Nat) (s x:PV):zll (st.en V E) bytes sz s x=(zll st bytes sz s x).map (enP V E):=by
 simp only [zll];rw [qa5];cases zgh st sz x with
 | none=>rfl
 | some m =>
  simp only [Option.map_some,Option.bind_some];rw [yo2];cases zgl m.2.2 sz s with
  | none=>rfl
  | some b =>
   simp only [Option.map_some,Option.bind_some];split
   ·exact yon V E b.2.2 sz _ _ _
   ·rfl
theorem qf6 (V E:Nat->PV) (st:St) (s:PV) (t:ByteArray):appS (st.en V E) s t=(appS st s t).map (enP V E):=by
 simp only [appS];rw [yo2];cases zgl st 1 s with
 | none=>rfl
 | some b =>
  simp only [Option.map_some,Option.bind_some];split
  ·exact yon V E b.2.2 1 _ _ _
  ·rfl
theorem ycs (V E:Nat->PV) (st:St) (sz:Nat) (c:PV):zcg (st.en V E) sz c=zcg st sz c:=by cases c <;> rfl
theorem z8w (V E:Nat->PV) (st:St) : ∀ (szs:List Nat) (cs:List PV),ze7 (st.en V E) szs cs=ze7 st szs cs
 | _,[]=>by cases ‹List Nat› <;> rfl
 | [],c::cs=>by simp only [ze7]; rw [ycs,z8w V E st [] cs]
 | sz::szs,c::cs=>by simp only [ze7]; rw [ycs,z8w V E st szs cs]
theorem ync (V E:Nat->PV) (st:St) (szs:List Nat) (c:PV):zcx (st.en V E) szs c=zcx st szs c:=by
 cases c with
 | agg cs=>simp only [zcx,z8w]
 | fn f cs=>simp only [zcx,z8w]
 | _=>simp only [zcx,ycs]
theorem ycg (V E:Nat->PV) (st:St) (sz:Nat) (c:PV):zdr (st.en V E) sz c=zdr st sz c:=by
 cases c with
 | ref o p e lo len=>cases p <;> rfl
 | _=>rfl
theorem yem (V E:Nat->PV) (st:St) : ∀ (szs:List Nat) (cs:List PV),zg0 (st.en V E) szs cs=zg0 st szs cs
 | _,[]=>by cases ‹List Nat› <;> rfl
 | [],c::cs=>by simp only [zg0]; rw [ycg,yem V E st [] cs]
 | sz::szs,c::cs=>by simp only [zg0]; rw [ycg,yem V E st szs cs]
theorem qe6 (V E:Nat->PV) (st:St) (szs:List Nat) (c:PV):zf4 (st.en V E) szs c=zf4 st szs c:=by
 cases c with
 | agg cs=>simp only [zf4,yem]
 | _=>simp only [zf4,ycg]
theorem ycv (V E:Nat->PV) (st:St) : ∀ (ms:List Bool) (xs:List (List Nat×PV)),zc1 (st.en V E) ms xs=zc1 st ms xs
 | _,[]=>by cases ‹List Bool› <;> rfl
 | [],(szs,x)::xs=>by simp only [zc1]; rw [ync,ycv V E st [] xs]
 | m::ms,(szs,x)::xs=>by simp only [zc1]; rw [ync,qe6,ycv V E st ms xs]
theorem qbi (V E:Nat->PV) (st:St) (t o:PV):zc6 (st.en V E) t o=(zc6 st t o).map (fun s=>s.en V E):=by
 unfold zc6;split
 ·split <;> rfl
 ·rfl
 ·rename_i o p e lo len;show zpk (st.en V E) o (st.S o)=_;unfold zpk;split <;> rfl
 ·rename_i o p e lo len s es';show putRow (st.en V E) o len s es' (st.S o) p=_;unfold putRow;split
  ·split <;> rfl
  ·rfl
 ·rename_i o p e i j cs';show zpx (st.en V E) o cs' (st.S o)=_;unfold zpx;split
  ·split <;> rfl
  ·rfl
 ·rfl
theorem yts (V E:Nat->PV) : ∀ (ts os:List PV) (st:St),ze2 (st.en V E) ts os=(ze2 st ts os).map (fun s=>s.en V E)
 | [],[],st=>rfl
 | t::ts,o::os,st=>by
  simp only [ze2];rw [qbi];cases zc6 st t o with
  | none=>rfl
  | some s=>simp only [Option.map_some,Option.bind_some]; exact yts V E ts os s
 | [],_::_,_=>rfl
 | _::_,[],_=>rfl
theorem yqp (V E:Nat->PV) (st:St) (z:Bool) (c:PV):zdo (st.en V E) z c=(zdo st z c).map (enP V E):=by
 cases c with
 | sl sz es=>simp only [zdo]; split <;> rfl
 | bx cs=>simp only [zdo]; split <;> rfl
 | _=>rfl
theorem ypu (V E:Nat->PV) (z:Bool) : ∀ (cs:List PV) (st:St),zgz (st.en V E) z cs=(zgz st z cs).map (enP V E)
 | [],st=>rfl
 | c::cs,st=>by
  simp only [zgz];rw [yqp];cases zdo st z c with
  | none=>rfl
  | some r =>
   simp only [Option.map_some,Option.bind_some,enP];rw [ypu V E z cs r.2];cases zgz r.2 z cs <;> rfl
theorem qec (V E:Nat->PV) (st:St) (z:Bool) (c:PV):zfu (st.en V E) z c=(zfu st z c).map (enP V E):=by
 cases c with
 | agg cs=>simp only [zfu]; rw [ypu]; cases zgz st z cs <;> rfl
 | _=>simp only [zfu,yqp]
theorem ytg (V E:Nat->PV) (z:Bool) : ∀ (cs:List PV) (st:St),zf3 (st.en V E) z cs=(zf3 st z cs).map (enP V E)
 | [],st=>rfl
 | c::cs,st=>by
  simp only [zf3];rw [qec];cases zfu st z c with
  | none=>rfl
  | some r =>
   simp only [Option.map_some,Option.bind_some,enP];rw [ytg V E z cs r.2];cases zf3 r.2 z cs <;> rfl
theorem yuf (V E:Nat->PV) (st:St) : ∀ os:List Nat,ziv (st.en V E) os=ziv st os
 | []=>rfl
 | o::os=>by simp only [ziv]; rw [yuf V E st os]; rfl
theorem qdn (V E:Nat->PV) (R:zak) (st:St) (f:Nat) (args:List (List Nat×PV)) (a:List PV×List PV) (fl:Bool):zhb fl R (st.en V E) f args a=(zhb fl R st f args a).map (enP V E):=by
 simp only [zhb];rw [yuf];split
 ·cases R f a.1 with
  | none=>rfl
  | some r =>
   simp only [Option.bind_some];split
   ·rfl
   ·rw [yts];cases ze2 st a.2 r.2 with
    | none=>rfl
    | some s =>
     simp only [Option.map_some,Option.bind_some];have e:zhd fl (r.2.any zfk) (s.en V E)=(zhd fl (r.2.any zfk) s).en V E:=by cases r.2.any zfk <;> cases fl <;> rfl
     rw [e,ytg];cases zf3 (zhd fl (r.2.any zfk) s) (zhw args a.2) r.1 <;> rfl
 ·rfl
theorem yug (V E:Nat->PV) (modes:Nat->List Bool) (R:zak) (st:St) (f:Nat) (args:List (List Nat×PV)):zfm modes R (st.en V E) f args=(zfm modes R st f args).map (enP V E):=by
 simp only [zfm];rw [ycv];cases zc1 st (modes f) args with
 | none=>rfl
 | some a=>exact qdn V E R st f args a _
theorem qfx (V E:Nat->PV) (st:St) (c:PV):zf6 (st.en V E) c=zf6 st c:=by
 cases c with
 | ref o p ep lo len=>cases p <;> rfl
 | _=>rfl
theorem yr4 (V E:Nat->PV) (st:St) : ∀ cs:List PV,zhj (st.en V E) cs=zhj st cs
 | []=>rfl
 | c::cs=>by simp only [zhj]; rw [qfx,yr4 V E st cs]
theorem ybb (V E:Nat->PV) (st:St) : ∀ (ms:List Bool) (args:List (List Nat×PV)),zeq (st.en V E) ms args=zeq st ms args
 | true::ms,q::xs=>by simp only [zeq]; rw [yr4,ybb V E st ms xs]
 | false::ms,_::xs=>by simp only [zeq]; rw [ybb V E st ms xs]
 | [],xs=>by cases xs <;> rfl
 | true::_,[]=>rfl
 | false::_,[]=>rfl
theorem qgu (V E:Nat->PV) (st:St) (n:Nat) (d:Sub):zpq (st.en V E) n d=(zpq st n d).map (fun s=>s.en V E):=by
 show zpr (st.en V E) n d.o d.i d.j (st.S n) (st.S d.o)=(zpr st n d.o d.i d.j (st.S n) (st.S d.o)).map _;unfold zpr;split <;> rfl
theorem ypv (V E:Nat->PV) (modes:Nat->List Bool) (R:zak) (st:St) (f:Nat) (args:List (List Nat×PV)):zdy modes R (st.en V E) f args=(zdy modes R st f args).map (enP V E):=by
 simp only [zdy];rw [ybb];cases zeq st (modes f) args with
 | none=>exact yug V E modes R st f args
 | some d =>
  show zj8 modes R (st.en V E) f args d=(zj8 modes R st f args d).map (enP V E);simp only [zj8];have e1:(st.en V E).nx=st.nx:=rfl;have e2:(st.en V E).ep=st.ep:=rfl;have e3:zcf (st.en V E) d=(zcf st d).en V E:=rfl;rw [e1,e2,e3];split
  ·rfl
  ·rw [yug];cases zfm modes R (zcf st d) f (zk8 d st.nx st.ep args) with
   | none=>rfl
   | some r =>
    simp only [Option.map_some,Option.bind_some,enP];rw [qgu];cases zpq r.2 st.nx d <;> rfl
end Go.Pe
namespace Go.Pe
open Go
theorem zyr (V E:Nat->PV) (st:St) (x:Option Opd) (h : ∀ y∈zp5 x,y.get (st.en V E)=y.get st):zbs (st.en V E) x=zbs st x:=by
 cases x with
 | none=>rfl
 | some y=>simp only [zbs]; rw [h y (by simp [zp5])]
theorem qef (V E:Nat->PV) (st:St) (l:List (Nat×PV)):zdd (st.en V E) l=zdd st l:=by
 unfold zdd;split <;> rfl
theorem qdf (V E:Nat->PV) (st:St) (l:List (Nat×PV)):zdi (st.en V E) l=(zdi st l).en V E:=by
 unfold zdi;split
 ·show Option.elim (zlk st.ep _ _ _ _ _ (st.S _)) _ _=_;cases zlk st.ep _ _ _ _ _ (st.S _) <;> rfl
 ·rfl
theorem qf2 (V E:Nat->PV) (modes:Nat->List Bool) (R:zak) (st:St) (o:IOp) (h : ∀ y∈o.opds,y.get (st.en V E)=y.get st):zaj modes R (st.en V E) o=(zaj modes R st o).map (enP V E):=by
 cases o with
 | mv x=>simp only [zaj]; rw [h x (by simp [IOp.opds])]; rfl
 | pick c a b =>
  simp only [zaj]; rw [h c (by simp [IOp.opds]),h a (by simp [IOp.opds]),h b (by simp [IOp.opds])];cases zg8 (c.get st) <;> rfl
 | alloc z=>rfl
 | box x=>simp only [zaj]; rw [h x (by simp [IOp.opds])]; split <;> rfl
 | build z ps =>
  simp only [zaj];have e:(ps.map fun q=>(q.1,q.2.1,q.2.2.get (st.en V E)))=ps.map fun q=>(q.1,q.2.1,q.2.2.get st):=by
   apply List.map_congr_left;intro q hq;rw [h q.2.2 (by simp only [IOp.opds,List.mem_map]; exact ⟨q,hq,rfl⟩)]
  rw [e];cases zhl z _ <;> rfl
 | bslice n sz z ps =>
  simp only [zaj];have e:zb8 (st.en V E) ps=zb8 st ps:=by
   apply List.map_congr_left;intro q hq;rw [h q.2 (by simp only [IOp.opds,List.mem_map]; exact ⟨q,hq,rfl⟩)]
  rw [e,qef,qdf];split
  ·cases zi4 z _ _ <;> rfl
  ·rw [ycr];cases zdj (zdi st _) z _ _ <;> rfl
 | allocL z=>rfl
 | mvL x=>simp only [zaj]; rw [h x (by simp [IOp.opds])]; rfl
 | bsliceL n sz z ps =>
  simp only [zaj];have e:zb8 (st.en V E) ps=zb8 st ps:=by
   apply List.map_congr_left;intro q hq;rw [h q.2 (by simp only [IOp.opds,List.mem_map]; exact ⟨q,hq,rfl⟩)]
  rw [e,ycr];cases zdj st z (List.replicate n z) (zb8 st ps) <;> rfl
 | load ag sz a =>
  simp only [zaj]; rw [h a (by simp [IOp.opds])];have e:Pe.loadCells (st.en V E) sz (a.get st)=Pe.loadCells st sz (a.get st):=by cases a.get st <;> rfl
  rw [e];cases Pe.loadCells st sz (a.get st) with
  | none=>rfl
  | some cs=>simp only [Option.bind_some]; cases zlf ag cs <;> rfl
 | store szs a x =>
  simp only [zaj]; rw [h a (by simp [IOp.opds]),h x (by simp [IOp.opds]),qg1];cases storeAt st szs (a.get st) (x.get st) <;> rfl
 | nilc x =>
  simp only [zaj]; rw [h x (by simp [IOp.opds])];have e:zi3 (st.en V E) (x.get st)=zi3 st (x.get st):=by cases x.get st <;> rfl
  rw [e];cases zi3 st (x.get st) <;> rfl
 | bin op x y =>
  simp only [zaj]; rw [h x (by simp [IOp.opds]),h y (by simp [IOp.opds])];cases zm3 op (x.get st) (y.get st) <;> rfl
 | eqb n ks x y =>
  simp only [zaj]; rw [h x (by simp [IOp.opds]),h y (by simp [IOp.opds])];cases eqP ks (x.get st) (y.get st) <;> rfl
 | un op x =>
  simp only [zaj]; rw [h x (by simp [IOp.opds])];cases unP op (x.get st) <;> rfl
 | convI k x =>
  simp only [zaj]; rw [h x (by simp [IOp.opds])];cases zhy (x.get st) <;> rfl
 | toS x =>
  simp only [zaj]; rw [h x (by simp [IOp.opds])];have e:zfw (st.en V E) (x.get st)=zfw st (x.get st):=by cases x.get st <;> rfl
  rw [e];cases zfw st (x.get st) with
  | none=>rfl
  | some r=>simp only [Option.bind_some]; cases zk6 r.2 <;> rfl
 | mkfn f caps =>
  simp only [zaj];have e:caps.map (Opd.get (st.en V E))=caps.map (Opd.get st):=List.map_congr_left fun y hy=>h y hy;rw [e];split <;> rfl
 | mksl b sz z l c =>
  simp only [zaj]; rw [h l (by simp [IOp.opds]),h c (by simp [IOp.opds])];cases zb2 (l.get st) with
  | none=>rfl
  | some n =>
   simp only [Option.bind_some];cases zb2 (c.get st) with
   | none=>rfl
   | some m=>simp only [Option.bind_some]; split <;> rfl
 | slice sz x lo hi mx =>
  simp only [zaj];rw [h x (by simp [IOp.opds]),zyr V E st lo (fun y hy=>h y (by simp [IOp.opds,hy])),zyr V E st hi (fun y hy=>h y (by simp [IOp.opds,hy])),zyr V E st mx (fun y hy=>h y (by simp [IOp.opds,hy]))];cases zbs st lo with
  | none=>rfl
  | some l =>
   simp only [Option.bind_some];cases zbs st hi with
   | none=>rfl
   | some hh =>
    simp only [Option.bind_some];cases zbs st mx with
    | none=>rfl
    | some m =>
     simp only [Option.bind_some];have e:zlm (st.en V E) sz (x.get st) l hh m=zlm st sz (x.get st) l hh m:=by
      cases m <;> cases x.get st <;> rfl
     rw [e];cases zlm st sz (x.get st) l hh m <;> rfl
 | sliceS x lo hi =>
  simp only [zaj];rw [h x (by simp [IOp.opds]),zyr V E st lo (fun y hy=>h y (by simp [IOp.opds,hy])),zyr V E st hi (fun y hy=>h y (by simp [IOp.opds,hy]))];cases zc5 (x.get st) with
  | none=>rfl
  | some s =>
   simp only [Option.bind_some];cases zbs st lo with
   | none=>rfl
   | some l =>
    simp only [Option.bind_some];cases zbs st hi with
    | none=>rfl
    | some hh=>simp only [Option.bind_some]; cases Pe.sliceS s l hh <;> rfl
 | faddr off x =>
  simp only [zaj]; rw [h x (by simp [IOp.opds])];have e:zjf (st.en V E) off (x.get st)=zjf st off (x.get st):=by cases x.get st <;> rfl
  rw [e];cases zjf st off (x.get st) <;> rfl
 | iaddr sz x i =>
  simp only [zaj]; rw [h x (by simp [IOp.opds]),h i (by simp [IOp.opds])];cases zb2 (i.get st) with
  | none=>rfl
  | some k =>
   simp only [Option.bind_some];have e:iaddr (st.en V E) sz k (x.get st)=iaddr st sz k (x.get st):=by cases x.get st <;> rfl
   rw [e];cases iaddr st sz k (x.get st) <;> rfl
 | idx x i =>
  simp only [zaj]; rw [h x (by simp [IOp.opds]),h i (by simp [IOp.opds])];cases zc5 (x.get st) with
  | none=>rfl
  | some s =>
   simp only [Option.bind_some];cases zb2 (i.get st) with
   | none=>rfl
   | some k=>simp only [Option.bind_some]; cases s[k]? <;> rfl
 | ext i x =>
  simp only [zaj]; rw [h x (by simp [IOp.opds])];cases zmv i (x.get st) <;> rfl
 | call f args =>
  simp only [zaj];have e:(args.map fun q=>(q.1,q.2.get (st.en V E)))=args.map fun q=>(q.1,q.2.get st):=by
   apply List.map_congr_left;intro q hq;rw [h q.2 (by simp only [IOp.opds,List.mem_map]; exact ⟨q,hq,rfl⟩)]
  rw [e,ypv]
 | callv g args =>
  simp only [zaj];have e:(args.map fun q=>(q.1,q.2.get (st.en V E)))=args.map fun q=>(q.1,q.2.get st):=by
   apply List.map_congr_left;intro q hq;rw [h q.2 (by simp only [IOp.opds,List.mem_cons,List.mem_map]; exact .inr ⟨q,hq,rfl⟩)]
  rw [e,h g (by simp [IOp.opds])];cases g.get st with
  | fn f caps=>exact ypv V E modes R st f _
  | _=>rfl
 | len x =>
  simp only [zaj]; rw [h x (by simp [IOp.opds])];have e:lenOf (st.en V E) (x.get st)=lenOf st (x.get st):=by cases x.get st <;> rfl
  rw [e];cases lenOf st (x.get st) <;> rfl
 | lenS x =>
  simp only [zaj]; rw [h x (by simp [IOp.opds])];cases zc5 (x.get st) <;> rfl
 | app b sz s x =>
  simp only [zaj]; rw [h s (by simp [IOp.opds]),h x (by simp [IOp.opds]),qcl]
 | appS s x =>
  simp only [zaj]; rw [h s (by simp [IOp.opds]),h x (by simp [IOp.opds])];cases zc5 (x.get st) with
  | none=>rfl
  | some t=>simp only [Option.bind_some]; exact qf6 V E st (s.get st) t
 | mx b x y =>
  simp only [zaj]; rw [h x (by simp [IOp.opds]),h y (by simp [IOp.opds])];cases mxP b (x.get st) (y.get st) <;> rfl
theorem qfd {modes:Nat->List Bool} {R:zak} {st:St} {o:IOp} (hq:quiet o=true) {r:PV×St} (h:zaj modes R st o=some r):r.2=st:=by
 cases o with
 | alloc | box | bslice | allocL | mvL | bsliceL | store | mksl | call | callv | app | appS=>cases hq
 | mv x=>simp only [zaj,bC] at h; rw [<- h]
 | mkfn f caps=>simp only [zaj] at h; split at h; cases h; rfl; cases h
 | load ag sz a =>
  simp only [zaj] at h;obtain ⟨_,_,h⟩:=bA h;simp only [bB] at h;obtain ⟨_,_,rfl⟩:=h; rfl
 | toS x =>
  simp only [zaj] at h;obtain ⟨_,_,h⟩:=bA h;simp only [bB] at h;obtain ⟨_,_,rfl⟩:=h; rfl
 | iaddr sz x i =>
  simp only [zaj] at h;obtain ⟨_,_,h⟩:=bA h;simp only [bB] at h;obtain ⟨_,_,rfl⟩:=h; rfl
 | slice sz x lo hi mx =>
  simp only [zaj] at h;obtain ⟨_,_,h⟩:=bA h;obtain ⟨_,_,h⟩:=bA h;obtain ⟨_,_,h⟩:=bA h;simp only [bB] at h;obtain ⟨_,_,rfl⟩:=h; rfl
 | sliceS x lo hi =>
  simp only [zaj] at h;obtain ⟨_,_,h⟩:=bA h;obtain ⟨_,_,h⟩:=bA h;obtain ⟨_,_,h⟩:=bA h;simp only [bB] at h;obtain ⟨_,_,rfl⟩:=h; rfl
 | idx x i =>
  simp only [zaj] at h;obtain ⟨_,_,h⟩:=bA h;obtain ⟨_,_,h⟩:=bA h;simp only [bB] at h;obtain ⟨_,_,rfl⟩:=h; rfl
 | _ =>
  simp only [zaj,bB] at h;obtain ⟨_,_,rfl⟩:=h; rfl
theorem qbr (V E:Nat->PV) (st:St) (g:Option (Opd×Bool)) (h : ∀ y∈zvr g,y.get (st.en V E)=y.get st):zc7 (st.en V E) g=zc7 st g:=by
 cases g with
 | none=>rfl
 | some q=>obtain ⟨y,want⟩:=q; simp only [zc7]; rw [h y (by simp [zvr])]
theorem zyw (V E:Nat->PV) (modes:Nat->List Bool) (R:zak) (st:St) (o:zac) (h : ∀ y∈o.opds,y.get (st.en V E)=y.get st):evG modes R (st.en V E) o=(evG modes R st o).map (enP V E):=by
 unfold evG;rw [qbr V E st o.guard (fun y hy=>h y (by simp [zac.opds,hy]))];cases zc7 st o.guard with
 | none=>rfl
 | some t =>
  cases t with
  | true=>simp only [Option.bind_some,if_true]; exact qf2 V E modes R st o.op (fun y hy=>h y (by simp [zac.opds,hy]))
  | false=>rfl
theorem ytt {modes:Nat->List Bool} {R:zak} {st:St} {o:zac} (hq:quiet o.op=true) {r:PV×St} (h:evG modes R st o=some r):r.2=st:=by
 unfold evG at h;obtain ⟨t,_,h⟩:=bA h;cases t with
 | true=>exact qfd hq h
 | false=>cases h; rfl
end Go.Pe
namespace Go.Pe
open Go
variable {R:zak} {st:St}
inductive zdx (modes:Nat->List Bool) (R:zak):List (zac×Nat×Nat)->List (zac×PV×Nat)->List St->St->St->List (PV×St)->Prop
 | nil {todo:List (zac×PV×Nat)} {past:List St} {st:St}:zdx modes R [] todo past st st []
 | quiet {o:zac} {b w:Nat} {os:List (zac×Nat×Nat)} {todo:List (zac×PV×Nat)} {past:List St} {st f:St} {x:PV} {tr:List (PV×St)} (hq:Pe.quiet o.op=true) (he:evG modes R st o=some (x,st)) (hc:za4 st.V st.E o x b past)
   (t:zdx modes R os (if w=0 then todo else (o,x,w)::todo) past (st.put o.dst x) f tr):zdx modes R ((o,b,w)::os) todo past st f ((x,st)::tr)
 | loud {o:zac} {b w:Nat} {os:List (zac×Nat×Nat)} {todo:List (zac×PV×Nat)} {past:List St} {st s' f:St} {x:PV} {tr:List (PV×St)} (hq:Pe.quiet o.op=false) (he:evG modes R st o=some (x,s')) (hc:zcl s' todo)
   (t:zdx modes R os (zdf todo) (st::past) (s'.put o.dst x) f tr):zdx modes R ((o,b,w)::os) todo past st f ((x,st)::tr)
theorem yef {modes:Nat->List Bool} : ∀ {l:List (zac×Nat×Nat)} {todo:List (zac×PV×Nat)} {past:List St} {st f:St},evD modes R l todo past st=some f->∃ tr,zdx modes R l todo past st f tr
 | [],todo,past,st,f,h=>by
  simp only [evD,bC] at h;subst h;exact ⟨[],.nil⟩
 | (o,b,w)::os,todo,past,st,f,h=>by
  simp only [evD] at h;obtain ⟨⟨x,s'⟩,hx,h⟩:=bA h;split at h
  ·rename_i hq;have hs:=ytt hq hx;simp only at hs;subst hs;split at h
   ·rename_i hc;obtain ⟨tr,ht⟩:=yef h;exact ⟨_,.quiet hq hx hc ht⟩
   ·cases h
  ·rename_i hq;split at h
   ·rename_i hc;obtain ⟨tr,ht⟩:=yef h;exact ⟨_,.loud (by simpa using hq) hx hc ht⟩
   ·cases h
def zbt:List (zac×Nat×Nat)->List (PV×St)->St->List St
 | (o,_,_)::os,(_,s)::tr,f=>if quiet o.op then zbt os tr f else s::zbt os tr f
 | _,_,f=>[f]
def zna (s s':St):Prop:=s.S=s'.S/\s.nx=s'.nx/\s.ep=s'.ep
theorem zna.en {s s':St} (h:zna s s') (V E:Nat->PV):s.en V E=s'.en V E:=by
 obtain ⟨h1,h2,h3⟩:=h;cases s; cases s';simp only at h1 h2 h3;subst h1; subst h2; subst h3; rfl
theorem zjp (st:St) (d:Option Dst) (x:PV):zna (st.put d x) st:=by
 cases d with
 | none=>exact ⟨rfl,rfl,rfl⟩
 | some d=>cases d <;> exact ⟨rfl,rfl,rfl⟩
theorem zna.trans {a b c:St} (h:zna a b) (k:zna b c):zna a c:=⟨h.1.trans k.1,h.2.1.trans k.2.1,h.2.2.trans k.2.2⟩
theorem z8j {modes:Nat->List Bool} {l:List (zac×Nat×Nat)} {todo:List (zac×PV×Nat)} {past:List St} {st f:St} {tr:List (PV×St)} (h:zdx modes R l todo past st f tr) : ∃ m,(zbt l tr f)[0]?=some m/\zna m st:=by
 induction h with
 | nil=>exact ⟨_,rfl,rfl,rfl,rfl⟩
 | quiet hq he hc t ih =>
  obtain ⟨m,h1,h2⟩:=ih;refine ⟨m,?_,h2.trans (zjp _ _ _)⟩;simp only [zbt,hq,if_true]; exact h1
 | loud hq he hc t ih=>exact ⟨_,by simp [zbt,hq],rfl,rfl,rfl⟩
theorem z9h {modes:Nat->List Bool} {o:zac} {r:PV×St} (h:evG modes R st o=some r):r.2.V=st.V/\r.2.E=st.E:=by
 have:=zyw st.V st.E modes R st o (fun _ _=>rfl);have e:st.en st.V st.E=st:=rfl;rw [e,h] at this;simp only [Option.map_some,bC] at this;rw [this]; exact ⟨rfl,rfl⟩
def Dst.opd:Dst->Opd
 | .V k => .V k
 | .E k => .E k
def NoW (l:List (zac×Nat×Nat)) (o:zac):Prop := ∀ q∈l,∀ d,q.1.dst=some d->d.opd ∉ o.opds
theorem zj5 {d:Option Dst} {x:PV} {y:Opd} (h : ∀ d',d=some d'->d'.opd≠y):y.get (st.put d x)=y.get st:=by
 cases d with
 | none=>rfl
 | some d =>
  have hne:=h d rfl;cases d with
  | V k =>
   cases y with
   | V j=>simp only [Opd.get,qb1,zas]; rw [if_neg (fun e=>hne (by rw [e]; rfl))]
   | E j=>rfl
   | C x=>rfl
  | E k =>
   cases y with
   | V j=>rfl
   | E j=>simp only [Opd.get,qhg,zas]; rw [if_neg (fun e=>hne (by rw [e]; rfl))]
   | C x=>rfl
theorem zh9 {s s':St} (hV:s.V=s'.V) (hE:s.E=s'.E) (y:Opd):y.get s=y.get s':=by
 cases y with
 | V k=>simp only [Opd.get,hV]
 | E k=>simp only [Opd.get,hE]
 | C x=>rfl
theorem z9c {modes:Nat->List Bool} {l:List (zac×Nat×Nat)} {todo:List (zac×PV×Nat)} {past:List St} {st f:St} {tr:List (PV×St)} (h:zdx modes R l todo past st f tr) : ∀ (o:zac),NoW l o->∀ y∈o.opds,y.get f=y.get st:=by
 induction h with
 | nil=>intro o _ y _; rfl
 | quiet hq he hc t ih =>
  intro o hn y hy;rw [ih o (fun q hq=>hn q (List.mem_cons_of_mem _ hq)) y hy];exact zj5 fun d' hd e=>hn _ List.mem_cons_self d' hd (e ▸ hy)
 | loud hq he hc t ih =>
  intro o hn y hy;rw [ih o (fun q hq=>hn q (List.mem_cons_of_mem _ hq)) y hy];rw [zj5 fun d' hd e=>hn _ List.mem_cons_self d' hd (e ▸ hy)];obtain ⟨h1,h2⟩:=z9h he;exact zh9 h1 h2 y
end Go.Pe
namespace Go.Pe
open Go
variable {o:zac} {st:St} {todo:List (zac×PV×Nat)} {l:List (zac×Nat×Nat)}
theorem yc5 {m s s':St} (h : ∀ y∈o.opds,y.get s=y.get s'):yv (m.en s.V s.E) o=yv (m.en s'.V s'.E) o:=by
 have e:m.en s.V s.E=(m.en s'.V s'.E).en s.V s.E:=rfl;have h' : ∀ y∈o.opds,y.get ((m.en s'.V s'.E).en s.V s.E)=y.get (m.en s'.V s'.E):=by
  intro y hy;exact (zh9 (s:=(m.en s'.V s'.E).en s.V s.E) (s':=s) rfl rfl y).trans ((h y hy).trans (zh9 (s:=s') (s':=m.en s'.V s'.E) rfl rfl y))
 unfold yv;rw [e,zyw s.V s.E _ _ (m.en s'.V s'.E) o h'];cases evG _ _ (m.en s'.V s'.E) o <;> rfl
theorem ybs (h:quiet o.op=true) (modes:Nat->List Bool) (R:zak) (st:St):evG modes R st o=evG (fun _=>[]) (fun _ _=>none) st o:=by
 have e:zaj modes R st o.op=zaj (fun _=>[]) (fun _ _=>none) st o.op:=by
  generalize o.op=p at h;cases p <;> first | rfl | cases h
 unfold evG;rw [e]
theorem yup {V E:Nat->PV} {o:zac} {x:PV} : ∀ {b:Nat} {past:List St} {q:Nat} {m:St},za4 V E o x b past->q<b->past[q]?=some m->yv (m.en V E) o=some x
 | 0,_,_,_,_,h,_=>by omega
 | b+1,[],q,m,_,_,h=>by simp at h
 | b+1,p::past,0,m,hc,_,h=>by
  simp at h; subst h;exact hc.1
 | b+1,p::past,q+1,m,hc,hq,h=>yup hc.2 (Nat.lt_of_succ_lt_succ hq) (by simpa using h)
theorem qbq {x:PV} {n:Nat}:zcl st todo->(o,x,n+1)∈todo->yv st o=some x:=by
 induction todo with
 | nil=>intro _ h; simp at h
 | cons q r ih =>
  obtain ⟨o',x',k⟩:=q;intro h hm;cases k with
  | zero =>
   simp only [zcl] at h;rcases List.mem_cons.mp hm with e | e
   ·simp at e
   ·exact ih h e
  | succ k =>
   simp only [zcl] at h;rcases List.mem_cons.mp hm with e | e
   ·simp only [Prod.mk.injEq] at e;rw [e.1,e.2.1]; exact h.1
   ·exact ih h.2 e
theorem qar {x:PV} {n:Nat}:(o,x,n+1)∈todo->(o,x,n)∈zdf todo:=by
 induction todo with
 | nil=>intro h; simp at h
 | cons q r ih =>
  obtain ⟨o',x',k⟩:=q;intro hm;cases k with
  | zero =>
   simp only [zdf];rcases List.mem_cons.mp hm with e | e
   ·simp at e
   ·exact ih e
  | succ k =>
   simp only [zdf];rcases List.mem_cons.mp hm with e | e
   ·simp only [Prod.mk.injEq] at e;obtain ⟨e1,e2,e3⟩:=e;have:n=k:=by omega
    rw [e1,e2,this]; exact List.mem_cons_self
   ·exact List.mem_cons_of_mem _ (ih e)
def lc:List (zac×Nat×Nat)->Nat->Nat
 | _,0=>0
 | [],_+1=>0
 | (o,_,_)::os,i+1=>(if quiet o.op then 0 else 1)+lc os i
theorem zp0 {q:zac×Nat×Nat} (h:NoW (q::l) o):NoW l o:=fun p hp=>h p (List.mem_cons_of_mem _ hp)
theorem qdp {modes:Nat->List Bool} {R:zak} {past:List St} {st f:St} {tr:List (PV×St)} (h:zdx modes R l todo past st f tr) :
  ∀ (i:Nat) (o:zac) (b w:Nat) (x:PV) (s:St),l[i]?=some (o,b,w)->tr[i]?=some (x,s)->quiet o.op=true->NoW (l.drop i) o->∀ (t:Nat) (m:St),(past.reverse++zbt l tr f)[t]?=some m->past.length+lc l i<=t+b->t<past.length+lc l i->yv (m.en f.V f.E) o=some x:=by
 induction h with
 | nil=>intro i o b w x s hl; simp at hl
 | quiet hq he hc t ih =>
  rename_i o0 b0 w0 os todo past st f x0 tr;intro i o b w x s hl ht hqo hn k m hm h1 h2;cases i with
  | zero =>
   simp at hl ht;obtain ⟨rfl,rfl,rfl⟩:=hl;obtain ⟨rfl,rfl⟩:=ht;simp only [lc,Nat.add_zero] at h1 h2;rw [List.getElem?_append_left (by simpa using h2),List.getElem?_reverse h2] at hm;have:=yup hc (by omega) hm;rw [<- this];refine yc5 fun y hy => ?_;have hg:=z9c t o0 (zp0 hn) y hy;rw [hg];exact zj5 fun d' hd e=>hn _ List.mem_cons_self d' hd (e ▸ hy)
  | succ i =>
   simp only [List.getElem?_cons_succ] at hl ht;refine ih i o b w x s hl ht hqo (by simpa using hn) k m ?_ ?_ ?_
   ·simpa [zbt,hq] using hm
   ·simpa [lc,hq] using h1
   ·simpa [lc,hq] using h2
 | loud hq he hc t ih =>
  rename_i o0 b0 w0 os todo past st s' f x0 tr;intro i o b w x s hl ht hqo hn k m hm h1 h2;cases i with
  | zero =>
   simp at hl;obtain ⟨rfl,rfl,rfl⟩:=hl;rw [hq] at hqo; cases hqo
  | succ i =>
   simp only [List.getElem?_cons_succ] at hl ht;have e1:lc ((o0,b0,w0)::os) (i+1)=1+lc os i:=by simp [lc,hq]
   rw [e1] at h1 h2;refine ih i o b w x s hl ht hqo (by simpa using hn) k m ?_ ?_ ?_
   ·have:zbt ((o0,b0,w0)::os) ((x0,st)::tr) f=st::zbt os tr f:=by simp [zbt,hq]
    rw [this] at hm;simpa using hm
   ·simp only [List.length_cons]; omega
   ·simp only [List.length_cons]; omega
theorem qdx {modes:Nat->List Bool} {R:zak} {past:List St} {st f:St} {tr:List (PV×St)} (h:zdx modes R l todo past st f tr) :
  (∀ (o:zac) (x:PV) (n:Nat),(o,x,n)∈todo->NoW l o->∀ (t:Nat) (m:St),(zbt l tr f)[t]?=some m->1<=t->t<=n->yv (m.en f.V f.E) o=some x) /\
  ∀ (i:Nat) (o:zac) (b w:Nat) (x:PV) (s:St),l[i]?=some (o,b,w)->tr[i]?=some (x,s)->quiet o.op=true->NoW (l.drop i) o->∀ (t:Nat) (m:St),(zbt l tr f)[t]?=some m->lc l i<t->t<=lc l i+w->yv (m.en f.V f.E) o=some x:=by
 induction h with
 | nil =>
  refine ⟨fun o x n _ _ t m hm h1 _ => ?_,fun i o b w x s hl=>by simp at hl⟩;rw [List.getElem?_eq_none (by simp [zbt]; omega)] at hm; cases hm
 | quiet hq he hc t ih =>
  rename_i o0 b0 w0 os todo past st f x0 tr;have es:zbt ((o0,b0,w0)::os) ((x0,st)::tr) f=zbt os tr f:=by simp [zbt,hq]
  refine ⟨fun o x n hm hn k m hk h1 h2 => ?_,fun i o b w x s hl ht hqo hn k m hk h1 h2 => ?_⟩
  ·rw [es] at hk;exact ih.1 o x n (by split; exact hm; exact List.mem_cons_of_mem _ hm) (zp0 hn) k m hk h1 h2
  ·rw [es] at hk;cases i with
   | zero =>
    simp at hl ht;obtain ⟨rfl,rfl,rfl⟩:=hl;obtain ⟨rfl,rfl⟩:=ht;simp only [lc,Nat.zero_add] at h1 h2;exact ih.1 o0 x0 w0 (by rw [if_neg (by omega)]; exact List.mem_cons_self) (zp0 hn) k m hk (by omega) h2
   | succ i =>
    simp only [List.getElem?_cons_succ] at hl ht;have e1:lc ((o0,b0,w0)::os) (i+1)=lc os i:=by simp [lc,hq]
    rw [e1] at h1 h2;exact ih.2 i o b w x s hl ht hqo (by simpa using hn) k m hk h1 h2
 | loud hq he hc t ih =>
  rename_i o0 b0 w0 os todo past st s' f x0 tr;have es:zbt ((o0,b0,w0)::os) ((x0,st)::tr) f=st::zbt os tr f:=by simp [zbt,hq]
  refine ⟨fun o x n hm hn k m hk h1 h2 => ?_,fun i o b w x s hl ht hqo hn k m hk h1 h2 => ?_⟩
  ·rw [es] at hk;obtain ⟨n,rfl⟩ : ∃ n',n=n'+1:=⟨n-1,by omega⟩;obtain ⟨k,rfl⟩ : ∃ k',k=k'+1:=⟨k-1,by omega⟩;simp only [List.getElem?_cons_succ] at hk;cases k with
   | zero =>
    obtain ⟨m0,h3,h4⟩:=z8j t;rw [h3] at hk;have hmm:m0=m:=Option.some.inj hk;subst hmm;have h5:=qbq hc hm;have e2:m0.en f.V f.E=s'.en f.V f.E:=(h4.trans (zjp s' o0.dst x0)).en _ _;rw [e2,<- h5];have e3:s'=s'.en s'.V s'.E:=rfl
    conv=>rhs; rw [e3]
    refine yc5 fun y hy => ?_;rw [z9c t o (zp0 hn) y hy];exact zj5 fun d' hd e=>hn _ List.mem_cons_self d' hd (e ▸ hy)
   | succ k=>exact ih.1 o x n (qar hm) (zp0 hn) (k+1) m hk (by omega) (by omega)
  ·rw [es] at hk;cases i with
   | zero =>
    simp at hl;obtain ⟨rfl,rfl,rfl⟩:=hl;rw [hq] at hqo; cases hqo
   | succ i =>
    simp only [List.getElem?_cons_succ] at hl ht;have e1:lc ((o0,b0,w0)::os) (i+1)=1+lc os i:=by simp [lc,hq]
    rw [e1] at h1 h2;obtain ⟨k,rfl⟩ : ∃ k',k=k'+1:=⟨k-1,by omega⟩;simp only [List.getElem?_cons_succ] at hk;exact ih.2 i o b w x s hl ht hqo (by simpa using hn) k m hk (by omega) (by omega)
theorem qbl {modes:Nat->List Bool} {R:zak} {past:List St} {st f:St} {tr:List (PV×St)} (h:zdx modes R l todo past st f tr) :
  ∀ (i:Nat) (o:zac) (b w:Nat),l[i]?=some (o,b,w)->NoW (l.drop i) o->∃ (x:PV) (s m:St),tr[i]?=some (x,s)/\(zbt l tr f)[lc l i]?=some m /\
   (quiet o.op=true->evG modes R (m.en f.V f.E) o=some (x,m.en f.V f.E)) /\
   (quiet o.op=false->∃ m',(zbt l tr f)[lc l i+1]?=some m'/\evG modes R (m.en f.V f.E) o=some (x,m'.en f.V f.E)):=by
 induction h with
 | nil=>intro i o b w hl; simp at hl
 | quiet hq he hc t ih =>
  rename_i o0 b0 w0 os todo past st f x0 tr;have es:zbt ((o0,b0,w0)::os) ((x0,st)::tr) f=zbt os tr f:=by simp [zbt,hq]
  intro i o b w hl hn;rw [es];cases i with
  | zero =>
   simp at hl;obtain ⟨rfl,rfl,rfl⟩:=hl;obtain ⟨m,h1,h2⟩:=z8j t;refine ⟨x0,st,m,rfl,by simpa [lc] using h1,fun _ => ?_,fun e=>by rw [hq] at e; cases e⟩;have e2:m.en f.V f.E=st.en f.V f.E:=(h2.trans (zjp st o0.dst x0)).en _ _;rw [e2,zyw f.V f.E modes R st o0 (fun y hy => ?_),he]
   ·rfl
   ·refine (zh9 (s:=st.en f.V f.E) (s':=f) rfl rfl y).trans ?_;rw [z9c t o0 (zp0 hn) y hy];exact zj5 fun d' hd e=>hn _ List.mem_cons_self d' hd (e ▸ hy)
  | succ i =>
   simp only [List.getElem?_cons_succ] at hl;have e1:lc ((o0,b0,w0)::os) (i+1)=lc os i:=by simp [lc,hq]
   rw [e1];simpa using ih i o b w hl (by simpa using hn)
 | loud hq he hc t ih =>
  rename_i o0 b0 w0 os todo past st s' f x0 tr;have es:zbt ((o0,b0,w0)::os) ((x0,st)::tr) f=st::zbt os tr f:=by simp [zbt,hq]
  intro i o b w hl hn;rw [es];cases i with
  | zero =>
   simp at hl;obtain ⟨rfl,rfl,rfl⟩:=hl;obtain ⟨m,h1,h2⟩:=z8j t;refine ⟨x0,st,st,rfl,by simp [lc],(fun e=>by rw [hq] at e; cases e),fun _=>⟨m,by simpa [lc] using h1,?_⟩⟩;have e2:m.en f.V f.E=s'.en f.V f.E:=(h2.trans (zjp s' o0.dst x0)).en _ _;rw [e2,zyw f.V f.E modes R st o0 (fun y hy => ?_),he]
   ·rfl
   ·refine (zh9 (s:=st.en f.V f.E) (s':=f) rfl rfl y).trans ?_;rw [z9c t o0 (zp0 hn) y hy,zj5 fun d' hd e=>hn _ List.mem_cons_self d' hd (e ▸ hy)];obtain ⟨h3,h4⟩:=z9h he;exact zh9 h3 h4 y
  | succ i =>
   simp only [List.getElem?_cons_succ] at hl;have e1:lc ((o0,b0,w0)::os) (i+1)=1+lc os i:=by simp [lc,hq]
   rw [e1];obtain ⟨x,s,m,h1,h2,h3,h4⟩:=ih i o b w hl (by simpa using hn);refine ⟨x,s,m,by simpa using h1,by rw [Nat.add_comm]; simpa using h2,h3,fun e => ?_⟩;obtain ⟨m',h5,h6⟩:=h4 e;exact ⟨m',by rw [show 1+lc os i+1=(lc os i+1)+1 by omega]; simpa using h5,h6⟩
end Go.Pe
namespace Go.Pe
open Go
theorem qaz {o:IOp} (h:zgm o=true):quiet o=true:=by cases o <;> first | rfl | cases h
theorem qag {s s':St} (hV:s.V=s'.V) (hE:s.E=s'.E) (x:Option Opd):zbs s x=zbs s' x:=by
 cases x with
 | none=>rfl
 | some y=>simp only [zbs,zh9 hV hE y]
def yo (st:St) (o:IOp):Option PV:=(zaj (fun _=>[]) (fun _ _=>none) st o).map Prod.fst
theorem qeg {o:IOp} (h:zgm o=true) (m m':St) (V E:Nat->PV):yo (m.en V E) o=yo (m'.en V E) o:=by
 have g : ∀ y:Opd,y.get (m.en V E)=y.get (m'.en V E):=fun y=>zh9 rfl rfl y;have gi : ∀ y:Option Opd,zbs (m.en V E) y=zbs (m'.en V E) y:=fun y=>qag rfl rfl y;cases o with
 | build z ps=>simp only [yo,zaj,g]; cases zhl z _ <;> rfl
 | mkfn f caps =>
  have e:caps.map (Opd.get (m.en V E))=caps.map (Opd.get (m'.en V E)):=List.map_congr_left fun y _=>g y;simp only [yo,zaj,e]; split <;> rfl
 | mv x=>simp only [yo,zaj,g]; rfl
 | pick c a b=>simp only [yo,zaj,g]; cases zg8 (c.get (m'.en V E)) <;> rfl
 | bin op x y=>simp only [yo,zaj,g]; cases zm3 op _ _ <;> rfl
 | eqb n ks x y=>simp only [yo,zaj,g]; cases eqP ks _ _ <;> rfl
 | un op x=>simp only [yo,zaj,g]; cases unP op _ <;> rfl
 | convI k x=>simp only [yo,zaj,g]; cases zhy _ <;> rfl
 | sliceS x lo hi =>
  simp only [yo,zaj,g,gi];cases zc5 _ with
  | none=>rfl
  | some s =>
   simp only [Option.bind_some];cases zbs (m'.en V E) lo with
   | none=>rfl
   | some l =>
    simp only [Option.bind_some];cases zbs (m'.en V E) hi with
    | none=>rfl
    | some hh=>simp only [Option.bind_some]; cases Pe.sliceS s l hh <;> rfl
 | idx x i =>
  simp only [yo,zaj,g];cases zc5 _ with
  | none=>rfl
  | some s =>
   simp only [Option.bind_some];cases zb2 (i.get (m'.en V E)) with
   | none=>rfl
   | some k=>simp only [Option.bind_some]; cases s[k]? <;> rfl
 | ext i x=>simp only [yo,zaj,g]; cases zmv i _ <;> rfl
 | lenS x=>simp only [yo,zaj,g]; cases zc5 _ <;> rfl
 | mx b x y=>simp only [yo,zaj,g]; cases mxP b _ _ <;> rfl
 | _=>cases h
theorem ysy (st:St) (o:zac):yv st o=(zc7 st o.guard).bind fun t=>if t then yo st o.op else some (.v Go.undef):=by
 unfold yv yo evG;cases zc7 st o.guard with
 | none=>rfl
 | some t=>cases t <;> rfl
theorem qfn {o:zac} (h:zgm o.op=true) {s s':St} (hy : ∀ y∈o.opds,y.get s=y.get s'):yv s o=yv s' o:=by
 have e1:yv s o=yv (s'.en s.V s.E) o:=by
  have e0:s=s.en s.V s.E:=rfl;rw [ysy,ysy,e0];have eg:zc7 (s.en s.V s.E) o.guard=zc7 (s'.en s.V s.E) o.guard:=by
   cases o.guard with
   | none=>rfl
   | some q=>obtain ⟨y,want⟩:=q; simp only [zc7]; rw [zh9 (s:=s.en s.V s.E) (s':=s'.en s.V s.E) rfl rfl y]
  rw [eg,qeg h s s' s.V s.E];rfl
 rw [e1];have e2:yv (s'.en s.V s.E) o=yv (s'.en s'.V s'.E) o:=yc5 hy;rw [e2]; rfl
theorem yra {modes:Nat->List Bool} {R:zak} {st:St} {o:zac} {x:PV} (hq:quiet o.op=true) (h:yv st o=some x):evG modes R st o=some (x,st):=by
 rw [ybs hq modes R st];unfold yv at h;simp only [bB] at h;obtain ⟨r,hr,rfl⟩:=h;have:=ytt hq hr;rw [hr]
 congr 1
 exact Prod.ext rfl this
end Go.Pe
namespace Go.Pe
open Go
variable {l:List (zac×Nat×Nat)} {f st:St} {R:zak} {todo:List (zac×PV×Nat)} {past:List St} {tr:List (PV×St)}
def za7 (l:List (zac×Nat×Nat)) (j:Nat):Bool:=match l[j]? with
 | some (o,_,_) => !quiet o.op
 | none=>false
theorem z9t : ∀ (l:List (zac×Nat×Nat)) (i:Nat),lc l i=(List.range i).countP (za7 l)
 | l,0=>by cases l <;> rfl
 | [],i+1=>by
  have:(List.range (i+1)).countP (za7 [])=0:=List.countP_eq_zero.mpr fun j _=>by simp [za7]
  rw [this]; rfl
 | (o,b,w)::os,i+1=>by
  rw [List.range_succ_eq_map,List.countP_cons,List.countP_map];have e:(za7 ((o,b,w)::os) ∘ Nat.succ)=za7 os:=by funext j; simp [za7]
  rw [e,<- z9t os i];simp only [lc];have e2:za7 ((o,b,w)::os) 0 = !quiet o.op:=rfl;rw [e2];cases quiet o.op <;> simp <;> omega
def Lz (l:List (zac×Nat×Nat)) (j:Nat):Bool:=match l[j]? with
 | some (o,_,_)=>zeu o.op
 | none=>false
def Ln (l:List (zac×Nat×Nat)) (j:Nat):Bool:=za7 l j && !Lz l j
structure DOk (C:Ctx) (md:Region.Mode) (ops:Array Oper) (l:List (zac×Nat×Nat)) (pre:Nat->Nat->Bool):Prop where
 len:l.length=ops.size
 cmp : ∀ (i:Nat) (o:Oper) (q:zac×Nat×Nat),ops[i]?=some o->l[i]?=some q->zy4 C.vars ops o.guard=some q.1.guard/\(∃ io,zbv C.P C.vars o.op=some io/\(q.1.op=(if zeu q.1.op then zgj io else io)\/∃ y,io = .mv y/\q.1.op = .mvL y))/\zi5 C.vars C.nt o.dst=some q.1.dst
 lt : ∀ i j,pre i j=true->j<i
 dst : ∀ (i j:Nat) (p q:zac×Nat×Nat) (d d':Dst),l[i]?=some p->l[j]?=some q->p.1.dst=some d->q.1.dst=some d'->d.opd=d'.opd->i=j
 opd : ∀ (i j:Nat) (p q:zac×Nat×Nat) (d:Dst),l[i]?=some p->l[j]?=some q->q.1.dst=some d->d.opd∈p.1.opds->pre i j=true\/(zgm p.1.op=true/\pre j i=true)
 chain : ∀ i j,za7 l i=true->Ln l j=true->i<j->pre j i=true
 lzU : ∀ j,Lz l j=true->∃ k,j<k/\Ln l k=true
 lzP : ∀ i j,Lz l j=true->pre i j=true->Lz l i=false/\(za7 l i=true\/∃ k,j<k/\Ln l k=true/\pre i k=true)
 edge : ∀ i j,pre i j=true->∃ o e,ops[i]?=some o/\e∈o.after/\Region.binds md e=true/\(e.on=j\/pre e.on j=true)
 prog : ∀ listed:Array Bool,listed.size=ops.size->Region.ready md ops listed=[]->∀ j,j<ops.size->listed.getD j false=true
 back : ∀ (i:Nat) (o:zac) (b w:Nat),l[i]?=some (o,b,w)->quiet o.op=true->zgm o.op=true \/
  ∀ A:Nat->Bool,(∀ j,pre i j=true->A j=true)->(∀ j,A j=true->pre j i=false)->(∀ j,A j=true->Lz l j=true->∃ k,j<k/\Ln l k=true/\pre k i=false) ->
   lc l i<=(List.range l.length).countP (fun j=>za7 l j && A j)+b/\(List.range l.length).countP (fun j=>za7 l j && A j)<=lc l i+w
noncomputable def VD (l:List (zac×Nat×Nat)) (D:Nat->Bool) (V0 V:Nat->PV):Nat->PV :=
 open Classical in fun k=>if ∃ (j:Nat) (q:zac×Nat×Nat),l[j]?=some q/\q.1.dst=some (.V k)/\D j=false then V0 k else V k
noncomputable def ED (l:List (zac×Nat×Nat)) (D:Nat->Bool) (E0 E:Nat->PV):Nat->PV :=
 open Classical in fun k=>if ∃ (j:Nat) (q:zac×Nat×Nat),l[j]?=some q/\q.1.dst=some (.E k)/\D j=false then E0 k else E k
def Wrt (l:List (zac×Nat×Nat)) (j:Nat) (y:Opd):Prop := ∃ (q:zac×Nat×Nat) (d:Dst),l[j]?=some q/\q.1.dst=some d/\d.opd=y
noncomputable abbrev mD (l:List (zac×Nat×Nat)) (D:Nat->Bool) (st0 f m:St):St:=m.en (VD l D st0.V f.V) (ED l D st0.E f.E)
theorem zyi {D:Nat->Bool} {st0 f m:St} {y:Opd} (h : ∀ j,Wrt l j y->D j=true):y.get (mD l D st0 f m)=y.get f:=by
 cases y with
 | V k =>
  show VD l D st0.V f.V k=f.V k;unfold VD;rw [if_neg];rintro ⟨j,q,h1,h2,h3⟩;rw [h j ⟨q,_,h1,h2,rfl⟩] at h3; cases h3
 | E k =>
  show ED l D st0.E f.E k=f.E k;unfold ED;rw [if_neg];rintro ⟨j,q,h1,h2,h3⟩;rw [h j ⟨q,_,h1,h2,rfl⟩] at h3; cases h3
 | C x=>rfl
theorem ybn {l:List (zac×Nat×Nat)} {D:Nat->Bool} {st0 f m:St} {y:Opd} {j:Nat} (h:Wrt l j y) (hd:D j=false):y.get (mD l D st0 f m)=y.get st0:=by
 obtain ⟨q,d,h1,h2,h3⟩:=h;cases y with
 | V k =>
  show VD l D st0.V f.V k=st0.V k;unfold VD;rw [if_pos];cases d with
  | V k'=>cases h3; exact ⟨j,q,h1,h2,hd⟩
  | E k'=>cases h3
 | E k =>
  show ED l D st0.E f.E k=st0.E k;unfold ED;rw [if_pos];cases d with
  | E k'=>cases h3; exact ⟨j,q,h1,h2,hd⟩
  | V k'=>cases h3
 | C x=>cases d <;> cases h3
theorem DOk.noW {C:Ctx} {md:Region.Mode} {ops:Array Oper} {pre:Nat->Nat->Bool} (h:DOk C md ops l pre) {i:Nat} {q:zac×Nat×Nat} (hi:l[i]?=some q) (hq:zgm q.1.op=false):NoW (l.drop i) q.1:=by
 intro p hp d hd hm;obtain ⟨k,hk⟩:=bH hp;rw [List.getElem?_drop] at hk;rcases h.opd i (i+k) q p d hi hk hd hm with h1 | ⟨h1,_⟩
 ·have:=h.lt _ _ h1;omega
 ·rw [hq] at h1; cases h1
theorem qic {modes:Nat->List Bool} (h:zdx modes R l todo past st f tr):(zbt l tr f)[lc l l.length]?=some f:=by
 induction h with
 | nil=>rfl
 | quiet hq he hc t ih=>simp only [zbt,hq,if_true,lc,List.length_cons,Nat.zero_add]; exact ih
 | loud hq he hc t ih =>
  rename_i o b w os todo past st s' f x tr;have e1:lc ((o,b,w)::os) (os.length+1)=lc os os.length+1:=by simp [lc,hq]; omega
  simp only [zbt,hq,Bool.false_eq_true,if_false,List.length_cons];rw [e1,List.getElem?_cons_succ]; exact ih
theorem zvb {modes:Nat->List Bool} (h:zdx modes R l todo past st f tr) : ∀ y:Opd,(∀ q∈l,∀ d,q.1.dst=some d->d.opd≠y)->y.get f=y.get st:=by
 induction h with
 | nil=>intro y _; rfl
 | quiet hq he hc t ih =>
  intro y hy;rw [ih y fun q hq=>hy q (List.mem_cons_of_mem _ hq)];exact zj5 fun d' hd=>hy _ List.mem_cons_self d' hd
 | loud hq he hc t ih =>
  intro y hy;rw [ih y fun q hq=>hy q (List.mem_cons_of_mem _ hq),zj5 fun d' hd=>hy _ List.mem_cons_self d' hd];obtain ⟨h1,h2⟩:=z9h he;exact zh9 h1 h2 y
theorem yuq {modes:Nat->List Bool} (h:zdx modes R l todo past st f tr) :
  (∀ (i j:Nat) (p q:zac×Nat×Nat) (d d':Dst),l[i]?=some p->l[j]?=some q->p.1.dst=some d->q.1.dst=some d'->d.opd=d'.opd->i=j) ->
  ∀ (i:Nat) (q:zac×Nat×Nat) (d:Dst) (x:PV) (s:St),l[i]?=some q->tr[i]?=some (x,s)->q.1.dst=some d->d.opd.get f=x:=by
 have own : ∀ (st:St) (d:Dst) (x:PV),d.opd.get (st.put (some d) x)=x:=by
  intro st d x; cases d <;> simp [Dst.opd]
 induction h with
 | nil=>intro _ i q d x s hl; simp at hl
 | quiet hq he hc t ih =>
  intro hd i q d x s hl ht hq';cases i with
  | zero =>
   simp at hl ht;subst hl;obtain ⟨rfl,rfl⟩:=ht;simp only at hq';rw [zvb t d.opd fun p hp d' hd' e=>by
    obtain ⟨k,hk⟩:=bH hp;have:=hd (k+1) 0 p _ d' d (by simpa using hk) rfl hd' hq' e;omega]
   rw [hq']; exact own _ d _
  | succ i =>
   simp only [List.getElem?_cons_succ] at hl ht;exact ih (fun i j p q d d' h1 h2 h3 h4 h5=>by have:=hd (i+1) (j+1) p q d d' (by simpa using h1) (by simpa using h2) h3 h4 h5; omega) i q d x s hl ht hq'
 | loud hq he hc t ih =>
  intro hd i q d x s hl ht hq';cases i with
  | zero =>
   simp at hl ht;subst hl;obtain ⟨rfl,rfl⟩:=ht;simp only at hq';rw [zvb t d.opd fun p hp d' hd' e=>by
    obtain ⟨k,hk⟩:=bH hp;have:=hd (k+1) 0 p _ d' d (by simpa using hk) rfl hd' hq' e;omega]
   rw [hq']; exact own _ d _
  | succ i =>
   simp only [List.getElem?_cons_succ] at hl ht;exact ih (fun i j p q d d' h1 h2 h3 h4 h5=>by have:=hd (i+1) (j+1) p q d d' (by simpa using h1) (by simpa using h2) h3 h4 h5; omega) i q d x s hl ht hq'
theorem yoz {modes:Nat->List Bool} (h:zdx modes R l todo past st f tr) :
  ∀ (i:Nat) (o:zac) (b w:Nat),l[i]?=some (o,b,w)->∃ (x:PV) (s s':St),tr[i]?=some (x,s)/\evG modes R s o=some (x,s') /\
   (∀ y:Opd,(∀ j,Wrt l j y->i<=j)->y.get s=y.get st)/\(∀ y:Opd,(∀ j,Wrt l j y->j<i)->y.get s=y.get f):=by
 induction h with
 | nil=>intro i o b w hl; simp at hl
 | quiet hq he hc t ih =>
  rename_i o0 b0 w0 os todo past st f x0 tr;intro i o b w hl;cases i with
  | zero =>
   simp at hl;obtain ⟨rfl,rfl,rfl⟩:=hl;refine ⟨x0,st,st,rfl,he,fun _ _=>rfl,fun y hy => ?_⟩;have hno : ∀ j,¬ Wrt ((o0,b0,w0)::os) j y:=fun j hj=>by have:=hy j hj; omega
   have h1:=zvb (zdx.quiet hq he hc t) y fun q hq d hd e=>by
    obtain ⟨j,hj⟩:=bH hq;exact hno j ⟨q,d,hj,hd,e⟩
   exact h1.symm
  | succ i =>
   simp only [List.getElem?_cons_succ] at hl;obtain ⟨x,s,s',h1,h2,h3,h4⟩:=ih i o b w hl;refine ⟨x,s,s',by simpa using h1,h2,fun y hy => ?_,fun y hy=>h4 y fun j hj => ?_⟩
   ·rw [h3 y fun j hj=>by
     have:=hy (j+1) (by obtain ⟨q,d,a,b,c⟩:=hj; exact ⟨q,d,by simpa using a,b,c⟩);omega]
    exact zj5 fun d' hd e=>by
     have:=hy 0 ⟨_,d',rfl,hd,e⟩;omega
   ·have:=hy (j+1) (by obtain ⟨q,d,a,b,c⟩:=hj; exact ⟨q,d,by simpa using a,b,c⟩);omega
 | loud hq he hc t ih =>
  rename_i o0 b0 w0 os todo past st s0 f x0 tr;intro i o b w hl;cases i with
  | zero =>
   simp at hl;obtain ⟨rfl,rfl,rfl⟩:=hl;refine ⟨x0,st,s0,rfl,he,fun _ _=>rfl,fun y hy => ?_⟩;have hno : ∀ j,¬ Wrt ((o0,b0,w0)::os) j y:=fun j hj=>by have:=hy j hj; omega
   have h1:=zvb (zdx.loud hq he hc t) y fun q hq d hd e=>by
    obtain ⟨j,hj⟩:=bH hq;exact hno j ⟨q,d,hj,hd,e⟩
   exact h1.symm
  | succ i =>
   simp only [List.getElem?_cons_succ] at hl;obtain ⟨x,s,s',h1,h2,h3,h4⟩:=ih i o b w hl;refine ⟨x,s,s',by simpa using h1,h2,fun y hy => ?_,fun y hy=>h4 y fun j hj => ?_⟩
   ·rw [h3 y fun j hj=>by
     have:=hy (j+1) (by obtain ⟨q,d,a,b,c⟩:=hj; exact ⟨q,d,by simpa using a,b,c⟩);omega]
    rw [zj5 fun d' hd e=>by
     have:=hy 0 ⟨_,d',rfl,hd,e⟩;omega]
    obtain ⟨h5,h6⟩:=z9h he;exact zh9 h5 h6 y
   ·have:=hy (j+1) (by obtain ⟨q,d,a,b,c⟩:=hj; exact ⟨q,d,by simpa using a,b,c⟩);omega
end Go.Pe
namespace Go.Pe
open Go
theorem yu8 {p q:Nat->Bool} (h : ∀ j,p j=true->q j=true) (n:Nat):(List.range n).countP p<=(List.range n).countP q :=
 List.countP_mono_left fun j _=>h j
theorem qg8 {C:Ctx} {md:Region.Mode} {ops:Array Oper} {l:List (zac×Nat×Nat)} {pre:Nat->Nat->Bool} (hk:DOk C md ops l pre) {modes:Nat->List Bool} {R:zak} {st0 f:St} {tr:List (PV×St)} (hrun:zdx modes R l [] [] st0 f tr) {i:Nat} {o:zac} {b w:Nat} (hi:l[i]?=some (o,b,w)) (hnp:zgm o.op=false) {D:Nat->Bool} (hpre : ∀ j,pre i j=true->D j=true) (hup : ∀ j,D j=true->pre j i=false) (hlz:quiet o.op=true->∀ j,D j=true->Lz l j=true->∃ k,j<k/\Ln l k=true/\pre k i=false) (hln:quiet o.op=false->∀ j,za7 l j=true->(D j=true↔j<i)) {m:St}
  (hm:(zbt l tr f)[(List.range l.length).countP fun j=>za7 l j && D j]?=some m) :
  ∃ (x:PV) (s:St),tr[i]?=some (x,s)/\((quiet o.op=true/\evG modes R (m.en f.V f.E) o=some (x,m.en f.V f.E)) \/
   (quiet o.op=false/\∃ m',(zbt l tr f)[((List.range l.length).countP fun j=>za7 l j && D j)+1]?=some m'/\evG modes R (m.en f.V f.E) o=some (x,m'.en f.V f.E))):=by
 have hn:=hk.noW hi hnp;obtain ⟨x,s,m0,h1,h2,h3,h4⟩:=qbl hrun i o b w hi hn;refine ⟨x,s,h1,?_⟩;have hlt:i<l.length:=(bD hi).1;cases hq:quiet o.op with
 | true =>
  refine .inl ⟨rfl,?_⟩;have hyv0:yv (m0.en f.V f.E) o=some x:=by
   have:=h3 hq;rw [ybs hq] at this;simp only [yv,this,Option.map_some]
  refine yra hq ?_;rcases hk.back i o b w hi hq with hp | hbw
  ·rw [hnp] at hp; cases hp
  ·obtain ⟨hb,hw⟩:=hbw D hpre hup (hlz hq);generalize hT:(List.range l.length).countP (fun j=>za7 l j && D j)=T at hm hb hw;rcases Nat.lt_trichotomy T (lc l i) with ht | ht | ht
   ·exact qdp hrun i o b w x s hi h1 hq hn T m (by simpa using hm) (by simp; omega) (by simpa using ht)
   ·subst ht;rw [h2] at hm;have:m0=m:=Option.some.inj hm;subst this; exact hyv0
   ·exact (qdx hrun).2 i o b w x s hi h1 hq hn T m hm ht (by omega)
 | false =>
  refine .inr ⟨rfl,?_⟩;have hil:i<l.length:=(bD hi).1;have e:(List.range l.length).countP (fun j=>za7 l j && D j)=lc l i:=by
   rw [z9t];obtain ⟨n,hn'⟩ : ∃ n,l.length=i+n:=⟨l.length-i,by omega⟩;rw [hn',List.range_add,List.countP_append];have z:((List.range n).map fun x=>i+x).countP (fun j=>za7 l j && D j)=0:=by
    refine List.countP_eq_zero.mpr fun j hj => ?_;obtain ⟨k,_,rfl⟩:=List.mem_map.mp hj;intro hc;simp only [Bool.and_eq_true] at hc;have:=(hln hq _ hc.1).mp hc.2;omega
   rw [z,Nat.add_zero];refine List.countP_congr fun j hj => ?_;have hji:j<i:=List.mem_range.mp hj;simp only [Bool.and_eq_true];exact ⟨fun h=>h.1,fun h=>⟨h,(hln hq j h).mpr hji⟩⟩
  rw [e] at hm ⊢;rw [h2] at hm;have:m0=m:=Option.some.inj hm;subst this;exact h4 hq
theorem ypp {C:Ctx} {md:Region.Mode} {ops:Array Oper} {l:List (zac×Nat×Nat)} {pre:Nat->Nat->Bool} (hk:DOk C md ops l pre) {modes:Nat->List Bool} {R:zak} {st0 s0 f:St} {tr:List (PV×St)} (hrun:zdx modes R l [] [] st0 f tr) {i:Nat} {o:zac} {b w:Nat} (hi:l[i]?=some (o,b,w)) {D:Nat->Bool} (hs0 : ∀ (y:Opd) (j:Nat),Wrt l j y->pre j i=true->D j=false->y.get s0=y.get st0) (hpre : ∀ j,pre i j=true->D j=true) (hup : ∀ j,D j=true->pre j i=false) (hlz:quiet o.op=true->∀ j,D j=true->Lz l j=true->∃ k,j<k/\Ln l k=true/\pre k i=false) (hln:quiet o.op=false->∀ j,za7 l j=true->(D j=true↔j<i)) {m:St}
  (hm:(zbt l tr f)[(List.range l.length).countP fun j=>za7 l j && D j]?=some m) :
  ∃ (x:PV) (s:St),tr[i]?=some (x,s)/\((quiet o.op=true/\evG modes R (mD l D s0 f m) o=some (x,mD l D s0 f m)) \/
   (quiet o.op=false/\∃ m',(zbt l tr f)[((List.range l.length).countP fun j=>za7 l j && D j)+1]?=some m'/\evG modes R (mD l D s0 f m) o=some (x,mD l D s0 f m'))):=by
 cases hp:zgm o.op with
 | true =>
  obtain ⟨x,s,s',h1,h2,h3,h4⟩:=yoz hrun i o b w hi;have hq:=qaz hp;refine ⟨x,s,h1,.inl ⟨hq,yra hq ?_⟩⟩;have hys:yv s o=some x:=by
   rw [ybs hq] at h2;simp only [yv,h2,Option.map_some]
  rw [<- hys];refine qfn hp fun y hy => ?_
  by_cases hw : ∃ j,Wrt l j y
  ·obtain ⟨j,q,d,hj,hd,he⟩:=hw;have uniq : ∀ j',Wrt l j' y->j'=j:=by
    rintro j' ⟨q',d',hj',hd',he'⟩;exact hk.dst j' j q' q d' d hj' hj hd' hd (he'.trans he.symm)
   rcases hk.opd i j _ q d hi hj hd (by rw [he]; exact hy) with h5 | ⟨_,h5⟩
   ·rw [zyi fun j' hj'=>by rw [uniq j' hj']; exact hpre j h5];exact (h4 y fun j' hj'=>by rw [uniq j' hj']; exact hk.lt _ _ h5).symm
   ·have hDj:D j=false:=by
     cases hx:D j with
     | false=>rfl
     | true=>rw [hup j hx] at h5; cases h5
    rw [ybn ⟨q,d,hj,hd,he⟩ hDj,hs0 y j ⟨q,d,hj,hd,he⟩ h5 hDj];exact (h3 y fun j' hj'=>by rw [uniq j' hj']; exact Nat.le_of_lt (hk.lt _ _ h5)).symm
  ·have hno : ∀ j,¬ Wrt l j y:=fun j hj=>hw ⟨j,hj⟩;rw [zyi fun j hj=>(hno j hj).elim];exact (h4 y fun j hj=>(hno j hj).elim).symm
 | false =>
  obtain ⟨x,s,h1,h2⟩:=qg8 hk hrun hi hp hpre hup hlz hln hm;have hget : ∀ y∈o.opds,y.get ((m.en f.V f.E).en (VD l D s0.V f.V) (ED l D s0.E f.E))=y.get (m.en f.V f.E):=by
   intro y hy;have e1:y.get ((m.en f.V f.E).en (VD l D s0.V f.V) (ED l D s0.E f.E))=y.get (mD l D s0 f m):=rfl;rw [e1,zyi fun j ⟨q,d,hj,hd,he⟩=>by
    rcases hk.opd i j _ q d hi hj hd (by rw [he]; exact hy) with h5 | ⟨h5,_⟩
    ·exact hpre j h5
    ·rw [hp] at h5; cases h5]
   exact zh9 rfl rfl y
  have hev:=zyw (VD l D s0.V f.V) (ED l D s0.E f.E) modes R (m.en f.V f.E) o hget;refine ⟨x,s,h1,?_⟩;rcases h2 with ⟨hq,he⟩ | ⟨hq,m',hm',he⟩
  ·rw [he] at hev;exact .inl ⟨hq,hev⟩
  ·rw [he] at hev;exact .inr ⟨hq,m',hm',hev⟩
end Go.Pe
namespace Go.Pe
open Go
variable {w:World} {st st':St} {X:Nat->Prop} {b:Nat}
def Ctx.now (C:Ctx) (w:World) (g:Gh) (X:Nat->Prop):Ctx := { C with w0:=w,Z0:=g.Z,io:=fun x=>g.K x/\¬ X x,hv0:=g.hv }
def Gh.now (g:Gh) (w:World) (X:Nat->Prop):Gh := { g with K:=fun x=>w.heap.size<=x\/(g.K x/\¬ X x) }
theorem SR.known {w:World} {g g':Gh} {st:St} (r:Rel w g st) (hZ:g'.Z=g.Z) (hF:g'.F=g.F) (hh:g'.hv=g.hv) (hs : ∀ o sz es,st.S o=some (.shadow sz es st.ep)->∃ Y:Nat->Prop,zam w Y (.sl sz es) (g.hv o)/\(∀ x,Y x->x<w.heap.size)/\(∀ o' x,live (st.S o')=true->za5 (g.hv o')=some x->¬ Y x)/\∀ x,Y x->g'.K x):Rel w g' st/\zaq w g st w g' st:=by
 obtain ⟨Z,K,F,hv⟩:=g;obtain ⟨Z',K',F',hv'⟩:=g';simp only at hZ hF hh;subst hZ hF hh;have go:zaq w ⟨Z',K,F',hv'⟩ st w ⟨Z',K',F',hv'⟩ st:=⟨Nat.le_refl _,Nat.le_refl _,fun o _ p e _ sz es' hr=>⟨es',hr,rfl,rfl⟩,fun o _ cs' hb=>⟨⟨cs',hb⟩,rfl⟩,fun _ h=>h,fun _ _=>rfl⟩;refine ⟨⟨fun o b hb => ?_,r.sep,r.nz,r.lt,r.zlt,r.nxt,fun o sz es e ho=>⟨(r.shd o sz es e ho).1,fun he => ?_⟩⟩,go⟩
 ·have:=r.ob o b hb;cases b with
  | row=>exact this
  | rowF=>exact this
  | box cs=>obtain ⟨b,cur,t,h1,h2,h3,h4,h5⟩:=this; exact ⟨b,cur,t,h1,h2,h3,h4.goes go,h5⟩
  | shadow=>exact this
 ·subst he; exact hs o sz es ho
theorem SR.now {C:Ctx} {a:Act} {g:Gh} (h:SR C a w g st) (hX:zaz C w g st X) (hS:ShX w g st X):SR (C.now w g X) a w (g.now w X) st:=by
 obtain ⟨r,go⟩:=SR.known h.rel (g':=g.now w X) rfl rfl rfl fun o sz es hs=>let ⟨Y,y1,yk,y2,y3,y4⟩:=hS o sz es hs; ⟨Y,y1,y2,y3,fun x hx => .inr ⟨yk x hx,fun hx'=>y4 x hx' hx⟩⟩;exact ⟨r,fun k hk=>(h.tv k hk).goes go,fun k hk=>(h.te k hk).goes go,h.nt,h.df,rfl,rfl,rfl,Nat.le_refl _,fun _ _ _=>rfl,fun o x hl hf => .inr ⟨(h.kk x).mpr (h.own o x hl hf),fun hx=>hX.sep o x hl hf hx⟩,fun _ hx => .inl hx,fun _ hx=>hx,fun _ _=>rfl,h.n0,fun _=>Iff.rfl⟩
theorem SR.thenNow {C:Ctx} {a a':Act} {w w':World} {g g':Gh} (h:SR C a w g st) (hX:zaz C w g st X) (k:SR (C.now w g X) a' w' g' st') :
  ∃ g2,SR C a' w' g2 st'/\zaq w' g' st' w' g2 st'/\(∀ x,X x->w'.heap[x]?=w.heap[x]?)/\zaz C w' g2 st' X/\ShX w' g2 st' X:=by
 have kn : ∀ x,w.heap.size<=x\/(g.K x/\¬ X x)->C.w0.heap.size<=x\/C.io x:=fun x hx=>by
  rcases hx with hx | hx
  ·exact .inl (bJ h.size hx)
  ·exact (h.kk x).mp hx.1
 have no : ∀ x,w.heap.size<=x\/(g.K x/\¬ X x)->¬ X x:=fun x hx hX'=>by
  rcases hx with hx | hx
  ·have:=hX.lt x hX'; omega
  ·exact hx.2 hX'
 obtain ⟨r,go⟩:=SR.known k.rel (g' := { g' with K:=g.K }) rfl rfl rfl fun o sz es hs=>let ⟨Y,y1,y2,y3,yk⟩:=(k.rel.shd o sz es _ hs).2 rfl; ⟨Y,y1,y2,y3,fun x hx=>(h.kk x).mpr (kn x ((k.kk x).mp (yk x hx)))⟩;refine ⟨_,⟨r,fun i hi=>(k.tv i hi).goes go,fun i hi=>(k.te i hi).goes go,k.nt,k.df,k.os.trans h.os,k.tape.trans h.tape,k.output.trans h.output,bJ h.size k.size,fun x hx hio => ?_,fun o x hl hf=>kn x (k.own o x hl hf),fun x hx => ?_,fun x hx=>k.z0 x (h.z0 x hx),fun o ho=>(k.hv o ho).trans (h.hv o ho),k.n0,h.kk⟩,go,fun x hx=>k.old x (hX.lt x hx) fun hh=>hh.2 hx,⟨fun o x hl hf=>no x (k.own o x hl hf),fun x hx hz => ?_,fun x hx=>Nat.lt_of_lt_of_le (hX.lt x hx) k.size,fun x hx=>hX.own x hx⟩,fun o sz es hs => ?_⟩
 ·refine (k.old x (Nat.lt_of_lt_of_le hx h.size) fun hh => ?_).trans (h.old x hx hio);rcases (h.kk x).mp hh.1 with h3 | h3
  ·omega
  ·exact hio h3
 ·rcases k.zin x hx with h1 | h1
  ·exact h.zin x h1
  ·exact .inr (kn x h1)
 ·rcases k.zin x hz with h1 | h1
  ·exact hX.nz x hx h1
  ·exact no x h1 hx
 ·obtain ⟨Y,y1,y2,y3,yk⟩:=(k.rel.shd o sz es _ hs).2 rfl;exact ⟨Y,y1,fun x hx=>(h.kk x).mpr (kn x ((k.kk x).mp (yk x hx))),y2,y3,fun x hx hy=>no x ((k.kk x).mp (yk x hy)) hx⟩
theorem ShX.mem {g:Gh} {X Y:Nat->Prop} (h:ShX w g st X) (hS:st'.S=st.S) (he:st'.ep=st.ep) (hX : ∀ x,Y x->X x):ShX w g st' Y:=fun o sz es hs=>by
 rw [hS,he] at hs;obtain ⟨V,y1,yk,y2,y3,y4⟩:=h o sz es hs;exact ⟨V,y1,yk,y2,fun o' x hl=>y3 o' x (by rw [<- hS]; exact hl),fun x hx=>y4 x (hX x hx)⟩
theorem ShX.bo {g:Gh} (h:ShX w g st X) (hb:X b):ShB w g st (some b):=fun o sz es hs =>
 let ⟨Y,y1,yk,y2,y3,y4⟩:=h o sz es hs; ⟨Y,y1,yk,y2,y3,fun x hx=>by cases hx; exact y4 b hb⟩
theorem ShX.addNew {g:Gh} {X F:Nat->Prop} (h:ShX w g st X) (hb:X b) {ob:Ob} (hl:live (some ob)=true) {v:Value} (hv : ∀ x,za5 v=some x->x=b):ShX w (za3 g st.nx F v) (zav st ob) (fun x=>X x/\x≠b):=fun o sz es hs=>by
 by_cases e:o=st.nx
 ·subst e;simp only [zav,zas,if_true,bC] at hs;subst hs; cases hl
 ·simp only [zav,zas,if_neg e] at hs;obtain ⟨Y,y1,yk,y2,y3,y4⟩:=h o sz es hs;refine ⟨Y,by simpa [za3,e] using y1,yk,y2,fun o' x hlo hbl => ?_,fun x hx=>y4 x hx.1⟩
  by_cases e1:o'=st.nx
  ·subst e1;rw [hv x (by simpa [za3] using hbl)];exact y4 b hb
  ·exact y3 o' x (by simpa [zav,e1] using hlo) (by simpa [za3,e1] using hbl)
theorem SR.grow {C:Ctx} {a:Act} {w w':World} {g:Gh} (h:SR C a w g st) {ob:Obj} (hh:w'.heap=w.heap.push ob) (os:w'.os=w.os) (tape:w'.tape=w.tape) (output:w'.output=w.output) :
  SR C a w' g st/\zaz C w' g st (fun x=>x=w.heap.size)/\(∀ X,zaz C w g st X->zaz C w' g st X)/\w'.heap[w.heap.size]?=some ob/\(∀ x,x<w.heap.size->w'.heap[x]?=w.heap[x]?):=by
 have r:=h.rel;have hw : ∀ x,x<w.heap.size->w'.heap[x]?=w.heap[x]?:=fun x hx=>by rw [hh,Array.getElem?_push]; rw [if_neg (by omega)]
 have hsz:w'.heap.size=w.heap.size+1:=by rw [hh]; simp
 have oldw : ∀ o x,live (st.S o)=true->g.F o x->w'.heap[x]?=w.heap[x]?:=fun o x hl hf=>hw x (r.lt o x hl hf);have zw : ∀ x,g.Z x->w'.heap[x]?=w.heap[x]?:=fun x hx=>hw x (r.zlt x hx);have go:zaq w g st w' g st:=by
  refine ⟨Nat.le_refl _,Nat.le_refl _,fun o ho p e he sz es' hr=>⟨es',hr,rfl,?_⟩,fun o ho cs' hb=>⟨⟨cs',hb⟩,rfl⟩,fun _ h=>h,zw⟩;cases p with
  | none=>rfl
  | some q =>
   simp only [za0];split
   ·rename_i sz2 es2 a2 n2 cap2 hs2 hv2;have hob:zal w (g.F o) (.own sz2 es2) (g.hv o):=r.ob o _ hs2;rw [hv2] at hob;refine World.cell?_of_block (w:=w) ?_;cases es2 with
    | nil =>
     rw [hs2] at hr;simp [zax,zbe] at hr
    | cons e es2 =>
     obtain ⟨_,_,_,b,off,cur,t,ha,hF,_⟩:=hob.at (i:=0) (cs:=e) (by simp);cases ha;exact oldw o b (by rw [hs2]; rfl) hF
   ·rfl
 have rel:Rel w' g st:=by
  refine ⟨fun o b hb => ?_,r.sep,r.nz,fun o x hl hf=>by have:=r.lt o x hl hf; omega,fun x hx=>by have:=r.zlt x hx; omega,r.nxt,fun o sz es e hs=>⟨(r.shd o sz es e hs).1,fun he => ?_⟩⟩
  ·have old:=r.ob o b hb;cases b with
   | row sz es=>exact zal.congr old (fun x hx=>oldw o x (by rw [hb]; rfl) hx)
   | rowF sz es =>
    have old':zcj w g.Z (g.F o) sz es (g.hv o):=old;refine (⟨?_⟩:zcj w' g.Z (g.F o) sz es (g.hv o));rcases old'.ok with h1 | ⟨b,off,cap,cur,t,us,h1,h2,h3,h4,h5,h6,h7⟩
    ·exact .inl h1
    ·exact .inr ⟨b,off,cap,cur,t,us,h1,h2,h3,h4,by rw [oldw o b (by rw [hb]; rfl) h2]; exact h5,h6,fun k d hd=>⟨(h7 k d hd).1,zam.congr zw (h7 k d hd).2.1,(h7 k d hd).2.2⟩⟩
   | box cs =>
    obtain ⟨b,cur,t,h1,h2,h3,h4,h5⟩:=old;exact ⟨b,cur,t,h1,h2,by rw [oldw o b (by rw [hb]; rfl) h2]; exact h3,h4.goes go,h5⟩
   | shadow=>trivial
  ·obtain ⟨Y,h1,h2,h3⟩:=(r.shd o sz es e hs).2 he;exact ⟨Y,zam.congr (fun x hx=>hw x (h2 x hx)) h1,fun x hx=>by have:=h2 x hx; omega,h3⟩
 refine ⟨h.step go rel rfl rfl os tape output (by omega) (fun k hk _=>hw k (by have:=h.size; omega)) h.own (fun x hx => .inl hx) (fun _ _=>rfl),⟨fun o x hl hf hx => ?_,fun x hx hz => ?_,fun x hx=>by omega,fun x hx => .inl (by rw [hx]; exact h.size)⟩,fun X hX=>⟨hX.sep,hX.nz,fun x hx=>by have:=hX.lt x hx; omega,hX.own⟩,by rw [hh]; simp,hw⟩
 ·have:=r.lt o x hl hf; omega
 ·have:=r.zlt x hz; omega
def ZC (c:PV) (u:Value):Prop:=(c = .v u/\okV u=true)\/(c = .e0/\∃ q,u = .slice q 0 0)
theorem yp6 : ∀ {xs:List Value} {cs:List PV},xs.mapM zqg=some cs->PW (fun _=>ZC) cs xs
 | [],cs,h=>by
  simp at h;subst h;exact ⟨rfl,fun k c hc=>by simp at hc⟩
 | x::xs,cs,h=>by
  rw [List.mapM_cons] at h;obtain ⟨c,hc,h⟩:=bA h;obtain ⟨ds,hds,h⟩:=bA h;simp at h;subst h;obtain ⟨h1,h2⟩:=yp6 hds;refine ⟨by simp [h1],fun k d hd => ?_⟩;cases k with
  | zero =>
   simp at hd;subst hd;refine ⟨x,by simp,?_⟩;unfold zqg at hc;split at hc
   ·cases hc; exact .inr ⟨rfl,none,rfl⟩
   ·split at hc
    ·rename_i hk; cases hc; exact .inl ⟨rfl,hk⟩
    ·cases hc
  | succ k=>simp at hd; obtain ⟨u,hu,hr⟩:=h2 k d hd; exact ⟨u,by simpa using hu,hr⟩
theorem qhe {w:World} {g:Gh} {st:St} {cs:List PV} {us:List Value} (h:PW (fun _=>ZC) cs us):zb1 w g st cs us/\∀ u∈us,u.oneCell'=true:=by
 refine ⟨⟨h.1,fun k c hc => ?_⟩,fun u hu => ?_⟩
 ·obtain ⟨u,hu,hz⟩:=h.2 k c hc;refine ⟨u,hu,?_⟩;rcases hz with ⟨rfl,_⟩ | ⟨rfl,q,rfl⟩
  ·exact rfl
  ·exact ⟨q,rfl⟩
 ·obtain ⟨k,hk⟩:=bH hu;have hlt:k<cs.length:=by rw [<- h.1]; exact (bD hk).1
  obtain ⟨u',hu',hz⟩:=h.2 k _ (bG hlt);rw [hk] at hu'; cases hu';rcases hz with ⟨_,h1⟩ | ⟨_,q,rfl⟩
  ·exact zx9 h1
  ·rfl
theorem SR.takeBox {C:Ctx} {a:Act} {g:Gh} (h:SR C a w g st) (hX:zaz C w g st X) (hS:ShX w g st X) (hb:X b) {cells:Array Value} {t:TypeId} (hc:w.heap[b]?=some (.cells cells t (0,0))) {z:List PV} (hz:PW (fun _=>ZC) z cells.toList) :
  ∃ g',SR C a w g' (zca st z).2/\zap w g' (zca st z).2 (zca st z).1 (.pointer (some ⟨b,0,none⟩))/\zaz C w g' (zca st z).2 (fun x=>X x/\x≠b)/\ShX w g' (zca st z).2 (fun x=>X x/\x≠b):=by
 have hbl : ∀ x,za5 (.pointer (some ⟨b,0,none⟩))=some x->x=b:=fun x hx=>by simpa [za5] using hx.symm
 obtain ⟨s2,go2⟩:=h.add (w':=w) (X:=X) (F0:=fun x=>x=b) hX (fun _ _ _=>rfl) (Nat.le_refl _) rfl rfl rfl (fun x hx => .inl (by rw [hx]; exact hb)) (o := .box z) (v := .pointer (some ⟨b,0,none⟩)) rfl (hS.bo hb) (fun x hx => .inl (by rw [hbl x hx])) (fun _ _ _=>rfl)
  (fun go=>by obtain ⟨h1,h2⟩:=qhe (w:=w) (g:=za3 g st.nx (fun x=>x=b) (.pointer (some ⟨b,0,none⟩))) (st:=zav st (.box z)) hz; exact ⟨b,cells,t,rfl,rfl,hc,h1,h2⟩)
 refine ⟨_,s2,?_,?_,hS.addNew hb rfl hbl⟩
 ·refine zap.c ⟨Nat.lt_succ_self _,Nat.le_refl _,fun cs hcs _ _=>⟨b,by simp [za3,zca],rfl⟩,fun sz es hr=>by simp [zca,zax] at hr⟩
 ·refine ⟨fun o x hl hf hx => ?_,fun x hx=>hX.nz x hx.1,fun x hx=>hX.lt x hx.1,fun x hx=>hX.own x hx.1⟩;simp only [za3,zca,zas] at hl hf
  by_cases e:o=st.nx
  ·rw [if_pos e] at hf; exact hx.2 hf
  ·rw [if_neg e] at hf hl; exact hX.sep o x hl hf hx.1
theorem zaz.mem {C:Ctx} {g:Gh} {X Y:Nat->Prop} (h:zaz C w g st X) (hS:st'.S=st.S) (hX : ∀ x,Y x->X x):zaz C w g st' Y :=
 ⟨fun o x hl hf hx=>h.sep o x (by rw [<- hS]; exact hl) hf (hX x hx),fun x hx=>h.nz x (hX x hx),fun x hx=>h.lt x (hX x hx),fun x hx=>h.own x (hX x hx)⟩
theorem qfv {g:Gh} (r:Rel w g st) {o x:Nat} (hl:live (st.S o)=true) (hb:za5 (g.hv o)=some x):g.F o x:=by
 cases hS:st.S o with
 | none=>rw [hS] at hl; cases hl
 | some ob =>
  have h:=r.ob o ob hS;cases ob with
  | row sz es=>exact ypx h hb
  | rowF sz es =>
   rcases zcj.ok h with ⟨⟨a,e⟩,_⟩ | ⟨b,off,cap,cur,t,us,e,hF,_⟩
   ·rw [e] at hb; cases a <;> simp [za5] at hb
   ·rw [e] at hb;simp only [za5] at hb;split at hb
    ·cases hb
    ·cases hb; exact hF
  | box cs =>
   obtain ⟨b,cur,t,h1,h2,_⟩:=h;rw [h1] at hb;simp only [za5,bC] at hb;rw [<- hb]; exact h2
  | shadow=>rw [hS] at hl; cases hl
def Mvd (st st':St):Prop:=st'.ep=st.ep/\∀ o,st'.S o=st.S o\/∃ s es,st.S o=some (.row s es)/\st'.S o=some (.shadow s es st.ep)
theorem Mvd.refl (st:St):Mvd st st:=⟨rfl,fun _ => .inl rfl⟩
theorem Mvd.trans {a b c:St} (h:Mvd a b) (k:Mvd b c):Mvd a c:=by
 refine ⟨k.1.trans h.1,fun o => ?_⟩;rcases k.2 o with e | ⟨s,es,e1,e2⟩
 ·rw [e]; exact h.2 o
 ·rcases h.2 o with e | ⟨s',es',_,e4⟩
  ·exact .inr ⟨s,es,by rw [<- e]; exact e1,by rw [e2,h.1]⟩
  ·rw [e4] at e1; cases e1
theorem qcv {sz:Nat} {c:PV} {r:PV×St} (h:zfp st sz c=some r):Mvd st r.2:=by
 cases c with
 | v x =>
  simp only [zfp] at h;split at h
  ·cases h; exact Mvd.refl st
  ·cases h
 | e0=>simp only [zfp,bC] at h; subst h; exact Mvd.refl st
 | ref o p e lo len =>
  simp only [zfp] at h;cases hS:st.S o with
  | none=>rw [hS] at h; cases p <;> simp [zgd] at h
  | some ob =>
   rw [hS] at h;cases ob with
   | row s es =>
    cases p with
    | some q=>simp [zgd] at h
    | none =>
     simp only [zgd] at h;split at h
     ·cases h;refine ⟨rfl,fun o' => ?_⟩
      by_cases e:o'=o
      ·subst e; exact .inr ⟨s,es,hS,by simp⟩
      ·exact .inl (by simp [e])
     ·cases h
   | _=>cases p <;> simp [zgd] at h
 | _=>simp [zfp] at h
theorem yoq : ∀ {szs:List Nat} {cs:List PV} {st:St} {r:List PV×St},zdt st szs cs=some r->Mvd st r.2/\cs.length=szs.length
 | [],[],st,r,h=>by simp only [zdt,bC] at h; subst h; exact ⟨Mvd.refl st,rfl⟩
 | sz::szs,c::cs,st,r,h=>by
  simp only [zdt] at h;obtain ⟨q,h1,h⟩:=bA h;obtain ⟨q2,h2,h⟩:=bA h;cases h;obtain ⟨k1,k2⟩:=yoq h2;exact ⟨(qcv h1).trans k1,by simp [k2]⟩
 | [],c::cs,_,_,h=>by simp [zdt] at h
 | sz::szs,[],_,_,h=>by simp [zdt] at h
theorem yd1 {z:List PV} : ∀ {xs:List (Nat×PV)} {st:St} {es:List (List PV)} {r:List (List PV)×St},zdj st z es xs=some r->Mvd st r.2/\∀ q∈xs,q.1<es.length/\(cellsOf q.2).length=z.length/\(cellsOf q.2).all zc2=true
 | [],st,es,r,h=>by simp only [zdj,bC] at h; subst h; exact ⟨Mvd.refl st,by simp⟩
 | (i,x)::xs,st,es,r,h=>by
  simp only [zdj] at h;obtain ⟨q,h1,h⟩:=bA h;split at h
  ·rename_i hi;obtain ⟨k1,k2⟩:=yd1 h;obtain ⟨k3,k4⟩:=yoq h1;refine ⟨k3.trans k1,fun p hp => ?_⟩;rcases List.mem_cons.mp hp with rfl | hp
   ·exact ⟨hi,by simpa using k4,zyh h1⟩
   ·have:=k2 p hp; simpa using this
  ·cases h
theorem yt5 {w:World} {g:Gh} {st:St} {sz n:Nat} : ∀ {xs:List (Nat×PV)} {vs:List (Nat×Value)} {cells:Array Value},Two (zj1 w g st) xs vs->(∀ q∈xs,q.1<n/\(cellsOf q.2).length=sz/\(cellsOf q.2).all zc2=true)->cells.size=n*sz->∃ c',Instr.fill (fun i=>some (i*sz,sz)) cells vs=some c'
 | [],vs,cells,ht,_,_=>by cases ht; exact ⟨cells,rfl⟩
 | (i,x)::xs,vs,cells,ht,hx,hc=>by
  cases ht with
  | cons hq ht =>
   rename_i r vs;obtain ⟨i',u⟩:=r;obtain ⟨rfl,hr⟩:=hq;obtain ⟨h1,h2,h3⟩:=hx (i,x) (by simp);have hl:=(zjg hr h3).1.1;have hu:u.cells.size=sz:=by rw [<- h2,<- hl]; simp
   have hb:i*sz+sz<=n*sz:=by
    have:(i+1)*sz<=n*sz:=Nat.mul_le_mul_right _ h1;rw [Nat.add_mul] at this; omega
   have hi:(i:Nat)=(i,x).1:=rfl;rw [zx6 (off:=i*sz) (s:=sz) rfl hu (by rw [hc]; exact hb)];refine yt5 ht (fun q hq=>hx q (by simp [hq])) ?_;simp only [List.size_toArray];rw [zj7 (by simp [hu,hc]; exact hb)];simpa using hc
theorem yno {C:Ctx} {a:Act} {w:World} {g:Gh} {z:List PV} {sz:Nat} {A:Nat->Prop} (hz:z.length=sz) : ∀ {xs:List (Nat×PV)} {vs:List (Nat×Value)} {st st':St} {es es':List (List PV)} {cells:Array Value} {X:Nat->Prop} {G:Nat->Nat->Prop},
  SR C a w g st->zaz C w g st (fun x=>A x\/X x)->(∀ x,X x->¬ A x)->zbi w X es.flatten cells.toList G->(∀ e∈es,e.length=sz)->Two (zj1 w g st) xs vs->zdj st z es xs=some (es',st') ->
  ∃ (Y:Nat->Prop) (H:Nat->Nat->Prop) (cells':Array Value),SR C a w g st'/\zaz C w g st' (fun x=>A x\/Y x)/\(∀ x,Y x->¬ A x)/\zbi w Y es'.flatten cells'.toList H/\(∀ e∈es',e.length=sz)/\es'.length=es.length/\Instr.fill (fun i=>some (i*sz,sz)) cells vs=some cells'
 | [],vs,st,st',es,es',cells,X,G,h,hX,hd,hc,hs,ht,hf=>by
  cases ht;simp only [zdj,bC,Prod.mk.injEq] at hf;obtain ⟨rfl,rfl⟩:=hf;exact ⟨X,G,cells,h,hX,hd,hc,hs,rfl,rfl⟩
 | (i,x)::xs,vs,st,st',es,es',cells,X,G,h,hX,hd,hc,hs,ht,hf=>by
  cases ht with
  | cons hq ht =>
   rename_i r vs;obtain ⟨i',u⟩:=r;obtain ⟨rfl,hx⟩:=hq;simp only [zdj] at hf;obtain ⟨⟨ds,st1⟩,h1,hf⟩:=bA hf;split at hf
   ·rename_i hi;obtain ⟨hrc,_⟩:=zjg hx (zyh h1);obtain ⟨Y,H,s1,l1,c1,d1,go1,e1⟩:=z79 h hX hrc h1;have e1':ds.length=sz:=by simpa [hz] using e1
    have hfl:=zcz hs;have hle:i*sz+ds.length<=es.flatten.length:=by
     rw [hfl,e1'];have:(i+1)*sz<=es.length*sz:=Nat.mul_le_mul_right _ hi;rw [Nat.add_mul] at this; omega
    have ca:=hc.over c1 (fun x hy hx=>d1 x hy (.inr hx)) hle;rw [<- z8f hs hi e1'] at ca;have ht':Two (zj1 w g st1) xs vs:=ht.mono fun p q hpq=>⟨hpq.1,hpq.2.goes go1⟩;have l1':zaz C w g st1 (fun x=>A x\/(X x\/Y x)):=⟨fun o x hl hf hx=>l1.sep o x hl hf (by rcases hx with h | h | h; exact .inl (.inl h); exact .inl (.inr h); exact .inr h),fun x hx=>l1.nz x (by rcases hx with h | h | h; exact .inl (.inl h); exact .inl (.inr h); exact .inr h),fun x hx=>l1.lt x (by rcases hx with h | h | h; exact .inl (.inl h); exact .inl (.inr h); exact .inr h),fun x hx=>l1.own x (by rcases hx with h | h | h; exact .inl (.inl h); exact .inl (.inr h); exact .inr h)⟩;obtain ⟨Y2,H2,cells2,s2,l2,d2,c2,hs2,hl2,hf2⟩:=yno hz (cells:=(zbf cells.toList (i*sz) u.cells.toList).toArray) s1 l1' (fun x hx=>by rcases hx with h | h; exact hd x h; exact fun ha=>d1 x h (.inl ha)) (by simpa using ca) (z89 hs e1') ht' hf;refine ⟨Y2,H2,cells2,s2,l2,d2,c2,hs2,by simpa using hl2,?_⟩;have hul:=c1.len;have hcl:=hc.len;rw [zx6 (off:=i*sz) (s:=sz) rfl (by simp at hul; omega) (by rw [Array.length_toList] at hcl; omega)];exact hf2
   ·cases hf
theorem SR.takeRow {C:Ctx} {a:Act} {g:Gh} (h:SR C a w g st) (hX:zaz C w g st X) (hS:ShX w g st X) (hb:X b) {cells:Array Value} {t:TypeId} (hc:w.heap[b]?=some (.cells cells t (0,0))) {sz n:Nat} {z:List PV} (hz:z.length=sz) {zs:Array Value} (hzs:zbi w (fun _=>False) (List.replicate n z).flatten zs.toList (fun _ _=>False))
  {xs:List (Nat×PV)} {vs:List (Nat×Value)} (ht:Two (zj1 w g st) xs vs) (hfl:Instr.fill (fun i=>some (i*sz,sz)) zs vs=some cells) {es:List (List PV)} (hf:zdj st z (List.replicate n z) xs=some (es,st')) :
  ∃ g',SR C a w g' (newRow st' sz es).2/\zap w g' (newRow st' sz es).2 (newRow st' sz es).1 (.slice (some ⟨b,0,none⟩) n n)/\zaz C w g' (newRow st' sz es).2 (fun x=>X x/\x≠b)/\ShX w g' (newRow st' sz es).2 (fun x=>X x/\x≠b):=by
 have hmv:=(yd1 hf).1;obtain ⟨Y,H,cells',s2,l2,d2,c2,hs2,hl2,hf2⟩:=yno (A:=X) hz h (hX.mem rfl fun x hx=>hx.elim id False.elim) (fun _ h=>h.elim) hzs (zjm hz) ht hf;rw [hfl] at hf2;cases hf2;have hn:es.length=n:=by simpa using hl2
 subst hn;have hrow:zal w (fun x=>x=b\/Y x) (.own sz es) (.slice (some ⟨b,0,none⟩) es.length es.length):=by
  refine .row (us:=fun k=>cells.toList.getD k default) (G:=H) rfl (.inl rfl) (fun k x hx=>⟨.inr (c2.inX k x hx),fun e=>d2 x (c2.inX k x hx) (e ▸ hb)⟩) c2.dis hs2 (Nat.le_refl _) hc ?_ (fun k d hd => ?_) (fun k d hd => ?_)
  ·have:=c2.len;rw [zcz hs2] at this;simp at this; omega
  ·obtain ⟨u,hu,_⟩:=c2.rep k d hd;simp only [List.getD_eq_getElem?_getD,hu,Option.getD_some,Nat.zero_add];simpa using hu
  ·obtain ⟨u,hu,hr⟩:=c2.rep k d hd;simpa [List.getD_eq_getElem?_getD,hu] using hr
 have hlv : ∀ o',live (st'.S o')=true->st'.S o'=st.S o':=fun o' hl'=>by
  rcases hmv.2 o' with e | ⟨_,_,_,e4⟩
  ·exact e
  ·rw [e4] at hl'; cases hl'
 have hsh:ShX w g st' X:=by
  intro o s es' hS';rcases hmv.2 o with e | ⟨s',es2,e1,e2⟩
  ·rw [e,hmv.1] at hS';obtain ⟨V,y1,yk,y2,y3,y4⟩:=hS o s es' hS';exact ⟨V,y1,yk,y2,fun o' x hl'=>y3 o' x (by rw [<- hlv o' hl']; exact hl'),y4⟩
  ·rw [e2] at hS';simp only [bC,Ob.shadow.injEq] at hS';obtain ⟨rfl,rfl,_⟩:=hS';have r:=h.rel;have hl:live (st.S o)=true:=by rw [e1]; rfl
   refine ⟨g.F o,((show zal w (g.F o) (.own s' es2) (g.hv o) from r.ob o _ e1).toZ).sl_own,fun x hx=>(h.kk x).mpr (h.own o x hl hx),fun x hx=>r.lt o x hl hx,fun o' x hl' hb' hx => ?_,fun x hx hF=>hX.sep o x hl hF hx⟩;have hk:=hlv o' hl';rw [hk] at hl';have:=r.sep o o' x hl hl' hx (qfv r hl' hb');subst this;rw [e2,e1] at hk; cases hk
 have hbl : ∀ x,za5 (.slice (some ⟨b,0,none⟩) es.length es.length)=some x->x=b:=fun x hx=>by
  simp only [za5] at hx;split at hx
  ·cases hx
  ·cases hx; rfl
 obtain ⟨s3,go3⟩:=s2.add (w':=w) (X:=fun x=>X x\/Y x) (F0:=fun x=>x=b\/Y x) l2 (fun _ _ _=>rfl) (Nat.le_refl _) rfl rfl rfl (fun x hx => .inl (hx.elim (fun e => .inl (e ▸ hb)) .inr)) (o := .row sz es) (v := .slice (some ⟨b,0,none⟩) es.length es.length) rfl (hsh.bo hb) (fun x hx => .inl (by rw [hbl x hx])) (fun _ _ _=>rfl) (fun _=>hrow);refine ⟨_,s3,zap.c (zvo (.inl rfl) (zdw.self hrow)),?_,hsh.addNew hb rfl hbl⟩;refine ⟨fun o x hl hf hx => ?_,fun x hx=>l2.nz x (.inl hx.1),fun x hx=>l2.lt x (.inl hx.1),fun x hx=>l2.own x (.inl hx.1)⟩;simp only [za3,newRow,zas] at hl hf
 by_cases e:o=st'.nx
 ·rw [if_pos e] at hf;rcases hf with hf | hf
  ·exact hx.2 hf
  ·exact d2 x hf hx.1
 ·rw [if_neg e] at hf hl; exact l2.sep o x hl hf (.inl hx.1)
end Go.Pe
namespace Go.Pe
open Go
variable {i k j:Nat} {l:List (zac×Nat×Nat)} {D:Nat->Bool} {u:Value}
theorem yrf {vars:List Nat} (k:Nat):zan vars (.tmp k)=some (if vars.contains k then .V k else .E k):=rfl
theorem z9i {C:Ctx} {a:Act} {w:World} {g:Gh} {st:St} (h:SR C a w g st) {ops:Array Oper} {o:Oper} {ig:Option (Opd×Bool)} (hg:zy4 C.vars ops o.guard=some ig) {t:Bool} (ht:zc7 st ig=some t):Region.wanted o (yielded ops a.tmps)=t:=by
 unfold Region.wanted;cases hgd:o.guard with
 | none =>
  rw [hgd] at hg;simp only [zy4,bC] at hg;subst hg;simpa [zc7] using ht
 | some q =>
  obtain ⟨j,want⟩:=q;rw [hgd] at hg;simp only [zy4,bB] at hg;obtain ⟨k,hk,rfl⟩:=hg;simp only [zc7] at ht;have hr:=h.opd (yrf (vars:=C.vars) k);simp only [Act.eval] at hr;unfold ziw at ht;simp only [yielded,hk,Option.bind_some];split at ht
  ·rename_i b hb;rw [hb] at hr;have hv:a.tmps.getD k Go.undef = .bool b:=hr;have hx:a.tmps[k]?=some (.bool b):=by
    rw [Array.getD_eq_getD_getElem?] at hv;cases hx:a.tmps[k]? with
    | none=>rw [hx] at hv; simp [Go.undef] at hv
    | some x=>rw [hx] at hv; simp at hv; rw [hv]
   simp only [hx];cases ht;cases b <;> cases want <;> rfl
  ·rename_i x hnb hb;rw [hb] at hr;have hv:a.tmps.getD k Go.undef=x:=hr;cases ht;have hno : ∀ b,a.tmps[k]?≠some (.bool b):=by
    intro b hx;rw [Array.getD_eq_getD_getElem?,hx] at hv;exact hnb b (by rw [<- hv]; simpa using hb)
   split
   ·rename_i b hx; exact (hno b hx).elim
   ·rfl
  ·cases ht
theorem yea {n i:Nat} (hi:i<n) {D D':Nat->Bool} (hd:D i=false) (hD : ∀ j,D' j=if j=i then true else D j) {p:Nat->Bool}:(List.range n).countP (fun j=>p j && D' j)=(List.range n).countP (fun j=>p j && D j)+(if p i then 1 else 0):=by
 obtain ⟨m,rfl⟩ : ∃ m,n=i+1+m:=⟨n-(i+1),by omega⟩;rw [List.range_add,List.countP_append,List.countP_append,List.range_succ,List.countP_append,List.countP_append];have a:(List.range i).countP (fun j=>p j && D' j)=(List.range i).countP (fun j=>p j && D j):=List.countP_congr fun j hj=>by
  have:j≠i:=Nat.ne_of_lt (List.mem_range.mp hj);rw [hD,if_neg this]
 have b:((List.range m).map fun x=>i+1+x).countP (fun j=>p j && D' j)=((List.range m).map fun x=>i+1+x).countP (fun j=>p j && D j):=List.countP_congr fun j hj=>by
  obtain ⟨k,_,rfl⟩:=List.mem_map.mp hj;rw [hD,if_neg (by omega)]
 rw [a,b];have c:[i].countP (fun j=>p j && D' j)=if p i then 1 else 0:=by simp [hD]
 have d:[i].countP (fun j=>p j && D j)=0:=by simp [hd]
 rw [c,d]; omega
def ycz:IOp->Nat->Value
 | .allocL _,b => .pointer (some ⟨b,0,none⟩)
 | .bsliceL n _ _ _,b => .slice (some ⟨b,0,none⟩) n n
 | _,_=>undef
def LzC (C:Ctx) (a:Act) (o:Oper) (cells:Array Value):IOp->Prop
 | .allocL z=>PW (fun _=>ZC) z cells.toList
 | .bsliceL n sz z ps => ∃ (t:TypeId) (parts:Array (Nat×Operand)) (zs:Array Value),o.op = .buildSlice t n parts/\zjr C.vars parts.toList=some ps/\z.length=sz/\(∀ w,zbi w (fun _=>False) (List.replicate n z).flatten zs.toList (fun _ _=>False))/\Instr.fill (fun i=>some (i*sz,sz)) zs (parts.toList.map fun q=>(q.1,a.eval q.2))=some cells
 | _=>False
def zu5 (C:Ctx) (f:St) (a:Act) (w:World) (o:Oper) (io:zac) (blk:Option Nat):Prop :=
 (zc7 f io.guard=some false/\blk=none/\∀ k,o.dst=some k->a.tmps.getD k undef=undef) \/
  (zc7 f io.guard=some true/\∃ b cells t,blk=some b/\w.heap[b]?=some (.cells cells t (0,0))/\LzC C a o cells io.op/\∀ k,o.dst=some k->a.tmps.getD k undef=ycz io.op b)
structure zza (C:Ctx) (ops:Array Oper) (l:List (zac×Nat×Nat)) (f:St) (Pn:Nat->Bool) (a:Act) (w:World) (g:Gh) (st:St) (blk:Nat->Option Nat):Prop where
 sh:ShX w g st (fun x => ∃ j,Pn j=true/\blk j=some x)
 loose:zaz C w g st (fun x => ∃ j,Pn j=true/\blk j=some x)
 inj : ∀ j j' x,Pn j=true->Pn j'=true->blk j=some x->blk j'=some x->j=j'
 at_ : ∀ (j:Nat) (o:Oper) (q:zac×Nat×Nat),Pn j=true->ops[j]?=some o->l[j]?=some q->zu5 C f a w o q.1 (blk j)
def AD (l:List (zac×Nat×Nat)) (D:Nat->Bool) (j:Nat):Bool:=D j && (!Lz l j || (List.range l.length).any fun k=>decide (j<k) && Ln l k && D k)
def PD (l:List (zac×Nat×Nat)) (D:Nat->Bool) (j:Nat):Bool:=D j && !AD l D j
noncomputable def VP (l:List (zac×Nat×Nat)) (Pn:Nat->Bool) (V:Nat->PV):Nat->PV :=
 open Classical in fun k=>if ∃ (j:Nat) (q:zac×Nat×Nat),l[j]?=some q/\q.1.dst=some (.V k)/\Pn j=true then .undef else V k
noncomputable def EP (l:List (zac×Nat×Nat)) (Pn:Nat->Bool) (E:Nat->PV):Nat->PV :=
 open Classical in fun k=>if ∃ (j:Nat) (q:zac×Nat×Nat),l[j]?=some q/\q.1.dst=some (.E k)/\Pn j=true then .undef else E k
noncomputable def za2 (l:List (zac×Nat×Nat)) (Pn:Nat->Bool) (st:St):St:=st.en (VP l Pn st.V) (EP l Pn st.E)
structure JD (C:Ctx) (ops:Array Oper) (l:List (zac×Nat×Nat)) (pre:Nat->Nat->Bool) (st0 f:St) (tr:List (PV×St)) (listed:Array Bool) (a:Act) (w:World):Prop where
 size:listed.size=l.length
 closed : ∀ i j,listed.getD i false=true->pre i j=true->listed.getD j false=true
 st : ∃ g m blk,(zbt l tr f)[(List.range l.length).countP fun j=>za7 l j && AD l (fun j=>listed.getD j false) j]?=some m /\
  SR C a w g (mD l (AD l fun j=>listed.getD j false) (za2 l (PD l fun j=>listed.getD j false) st0) f m) /\
  zza C ops l f (PD l fun j=>listed.getD j false) a w g (mD l (AD l fun j=>listed.getD j false) (za2 l (PD l fun j=>listed.getD j false) st0) f m) blk
theorem qfi {listed:Array Bool} (hi:i<listed.size) (j:Nat):(listed.setIfInBounds i true).getD j false=if j=i then true else listed.getD j false:=by
 simp only [Array.getD_eq_getD_getElem?,Array.getElem?_setIfInBounds]
 by_cases e:i=j
 ·subst e; simp [hi]
 ·rw [if_neg e,if_neg fun x=>e x.symm]
theorem yb5 {V0 V:Nat->PV} (h : ∀ (j:Nat) (q:zac×Nat×Nat),l[j]?=some q->q.1.dst=some (.V k)->D j=true):VD l D V0 V k=V k:=by
 unfold VD;rw [if_neg];rintro ⟨j,q,h1,h2,h3⟩;rw [h j q h1 h2] at h3; cases h3
theorem ydx {V0 V:Nat->PV} (h : ∀ (j:Nat) (q:zac×Nat×Nat),l[j]?=some q->q.1.dst=some (.E k)->D j=true):ED l D V0 V k=V k:=by
 unfold ED;rw [if_neg];rintro ⟨j,q,h1,h2,h3⟩;rw [h j q h1 h2] at h3; cases h3
theorem ysj (hdst : ∀ (i j:Nat) (p q:zac×Nat×Nat) (d d':Dst),l[i]?=some p->l[j]?=some q->p.1.dst=some d->q.1.dst=some d'->d.opd=d'.opd->i=j)
  {q:zac×Nat×Nat} (hi:l[i]?=some q) {st0 f m:St} {x:PV} (hx : ∀ d,q.1.dst=some d->d.opd.get f=x) {D D':Nat->Bool} (hD : ∀ j,D' j=if j=i then true else D j) (hd:D i=false) :
  (mD l D st0 f m).put q.1.dst x=mD l D' st0 f m:=by
 have other : ∀ (y:Dst),(∀ d,q.1.dst=some d->d.opd≠y.opd)->((∃ (j:Nat) (q:zac×Nat×Nat),l[j]?=some q/\q.1.dst=some y/\D j=false)↔∃ (j:Nat) (q:zac×Nat×Nat),l[j]?=some q/\q.1.dst=some y/\D' j=false):=by
  intro y hy;constructor
  ·rintro ⟨j,p,h1,h2,h3⟩;refine ⟨j,p,h1,h2,?_⟩;have:j≠i:=by
    rintro rfl;rw [hi] at h1; cases h1;exact hy y h2 rfl
   rw [hD,if_neg this]; exact h3
  ·rintro ⟨j,p,h1,h2,h3⟩;refine ⟨j,p,h1,h2,?_⟩;rw [hD] at h3;split at h3
   ·cases h3
   ·exact h3
 have eV : ∀ k,(∀ d,q.1.dst=some d->d.opd ≠ .V k)->VD l D st0.V f.V k=VD l D' st0.V f.V k:=by
  intro k hk;unfold VD
  by_cases c : ∃ (j:Nat) (q:zac×Nat×Nat),l[j]?=some q/\q.1.dst=some (.V k)/\D j=false
  ·rw [if_pos c,if_pos ((other (.V k) hk).mp c)]
  ·rw [if_neg c,if_neg fun c'=>c ((other (.V k) hk).mpr c')]
 have eE : ∀ k,(∀ d,q.1.dst=some d->d.opd ≠ .E k)->ED l D st0.E f.E k=ED l D' st0.E f.E k:=by
  intro k hk;unfold ED
  by_cases c : ∃ (j:Nat) (q:zac×Nat×Nat),l[j]?=some q/\q.1.dst=some (.E k)/\D j=false
  ·rw [if_pos c,if_pos ((other (.E k) hk).mp c)]
  ·rw [if_neg c,if_neg fun c'=>c ((other (.E k) hk).mpr c')]
 cases hq:q.1.dst with
 | none =>
  have h1:VD l D st0.V f.V=VD l D' st0.V f.V:=funext fun k=>eV k (by simp [hq]);have h2:ED l D st0.E f.E=ED l D' st0.E f.E:=funext fun k=>eE k (by simp [hq]);unfold mD; rw [h1,h2]; rfl
 | some d =>
  cases d with
  | V k0 =>
   have h2:ED l D st0.E f.E=ED l D' st0.E f.E:=funext fun k=>eE k (by intro d hd; rw [hq] at hd; cases hd; simp [Dst.opd]);have h1:upd (VD l D st0.V f.V) k0 x=VD l D' st0.V f.V:=by
    funext k
    unfold upd;split
    ·rename_i e; subst e;have:=hx _ hq;simp only [Dst.opd,Opd.get] at this;rw [yb5,this];intro j p h3 h4;have:=hdst i j q p _ _ hi h3 hq h4 rfl;rw [hD,if_pos this.symm]
    ·rename_i e;exact eV k (by intro d hd; rw [hq] at hd; cases hd; simp only [Dst.opd]; intro h; cases h; exact e rfl)
   unfold mD;rw [h2];show ({ m with V:=upd (VD l D st0.V f.V) k0 x,E:=ED l D' st0.E f.E }:St)=_;rw [h1]; rfl
  | E k0 =>
   have h2:VD l D st0.V f.V=VD l D' st0.V f.V:=funext fun k=>eV k (by intro d hd; rw [hq] at hd; cases hd; simp [Dst.opd]);have h1:upd (ED l D st0.E f.E) k0 x=ED l D' st0.E f.E:=by
    funext k
    unfold upd;split
    ·rename_i e; subst e;have:=hx _ hq;simp only [Dst.opd,Opd.get] at this;rw [ydx,this];intro j p h3 h4;have:=hdst i j q p _ _ hi h3 hq h4 rfl;rw [hD,if_pos this.symm]
    ·rename_i e;exact eE k (by intro d hd; rw [hq] at hd; cases hd; simp only [Dst.opd]; intro h; cases h; exact e rfl)
   unfold mD;rw [h2];show ({ m with V:=VD l D' st0.V f.V,E:=upd (ED l D st0.E f.E) k0 x }:St)=_;rw [h1]; rfl
theorem zde:AD l D j=true↔D j=true/\(Lz l j=true->∃ k,j<k/\Ln l k=true/\D k=true):=by
 unfold AD;simp only [Bool.and_eq_true,Bool.or_eq_true,Bool.not_eq_true',List.any_eq_true,List.mem_range,decide_eq_true_eq];constructor
 ·rintro ⟨h1,h2⟩;refine ⟨h1,fun hl => ?_⟩;rcases h2 with h2 | ⟨k,_,⟨h3,h4⟩,h5⟩
  ·rw [hl] at h2; cases h2
  ·exact ⟨k,h3,h4,h5⟩
 ·rintro ⟨h1,h2⟩;refine ⟨h1,?_⟩;cases hl:Lz l j with
  | false=>exact .inl rfl
  | true =>
   obtain ⟨k,h3,h4,h5⟩:=h2 hl;refine .inr ⟨k,?_,⟨h3,h4⟩,h5⟩;unfold Ln za7 at h4;cases hx:l[k]? with
   | none=>rw [hx] at h4; simp at h4
   | some q=>exact (bD hx).1
theorem z9u (h:Lz l j=true):za7 l j=true:=by
 unfold Lz at h;unfold za7;split at h
 ·rename_i o b w hq;simp only [Bool.not_eq_true'];cases ho:o.op <;> rw [ho] at h <;> first | rfl | cases h
 ·cases h
theorem zi0:Ln l j=true↔za7 l j=true/\Lz l j=false:=by
 unfold Ln; simp only [Bool.and_eq_true,Bool.not_eq_true']
theorem zps {Pn:Nat->Bool} {st:St} {y:Opd} (h : ∀ j,Wrt l j y->Pn j=false):y.get (za2 l Pn st)=y.get st:=by
 cases y with
 | V k =>
  show VP l Pn st.V k=st.V k;unfold VP;rw [if_neg];rintro ⟨j,q,h1,h2,h3⟩;rw [h j ⟨q,_,h1,h2,rfl⟩] at h3; cases h3
 | E k =>
  show EP l Pn st.E k=st.E k;unfold EP;rw [if_neg];rintro ⟨j,q,h1,h2,h3⟩;rw [h j ⟨q,_,h1,h2,rfl⟩] at h3; cases h3
 | C x=>rfl
theorem zu6 {l:List (zac×Nat×Nat)} {Pn:Nat->Bool} {st:St} {y:Opd} {j:Nat} (hw:Wrt l j y) (h:Pn j=true):y.get (za2 l Pn st) = .undef:=by
 obtain ⟨q,d,h1,h2,h3⟩:=hw;subst h3;cases d with
 | V k =>
  show VP l Pn st.V k = .undef;unfold VP;rw [if_pos ⟨j,q,h1,h2,h⟩]
 | E k =>
  show EP l Pn st.E k = .undef;unfold EP;rw [if_pos ⟨j,q,h1,h2,h⟩]
theorem qg5 {A:Nat->Bool} {s0 s0' f m:St} (h : ∀ (y:Opd) (j:Nat),Wrt l j y->A j=false->y.get s0=y.get s0'):mD l A s0 f m=mD l A s0' f m:=by
 have hV:VD l A s0.V f.V=VD l A s0'.V f.V:=by
  funext k
  unfold VD;split
  ·rename_i c;obtain ⟨j,q,h1,h2,h3⟩:=c;exact h (.V k) j ⟨q,_,h1,h2,rfl⟩ h3
  ·rfl
 have hE:ED l A s0.E f.E=ED l A s0'.E f.E:=by
  funext k
  unfold ED;split
  ·rename_i c;obtain ⟨j,q,h1,h2,h3⟩:=c;exact h (.E k) j ⟨q,_,h1,h2,rfl⟩ h3
  ·rfl
 unfold mD;rw [hV,hE]
section
variable {C:Ctx} {md:Region.Mode} {ops:Array Oper} {l:List (zac×Nat×Nat)} {pre:Nat->Nat->Bool}
theorem DOk.wrt (hk:DOk C md ops l pre) {j j':Nat} {y:Opd} (h:Wrt l j y) (h':Wrt l j' y):j=j':=by
 obtain ⟨q,d,h1,h2,h3⟩:=h;obtain ⟨q',d',h1',h2',h3'⟩:=h';exact hk.dst j j' q q' d d' h1 h1' h2 h2' (h3.trans h3'.symm)
theorem DOk.reads (hk:DOk C md ops l pre) {q:zac×Nat×Nat} (hi:l[i]?=some q) (hp:zgm q.1.op=false) {y:Opd} (hy:y∈q.1.opds) (hw:Wrt l j y):pre i j=true:=by
 obtain ⟨p,d,h1,h2,h3⟩:=hw;rcases hk.opd i j q p d hi h1 h2 (by rw [h3]; exact hy) with h | ⟨h,_⟩
 ·exact h
 ·rw [hp] at h; cases h
theorem yqa {o:IOp} (h:zeu o=true):zgm o=false/\quiet o=false:=by cases o <;> first | exact ⟨rfl,rfl⟩ | cases h
theorem yrq {q:zac×Nat×Nat} (hi:l[i]?=some q):Lz l i=zeu q.1.op:=by simp [Lz,hi]
theorem qfe {a:Act} (hu:a.tmps.getD k undef=u) (hk:k<a.tmps.size):a.put (some k) u=a:=by
 have e:a.tmps.setIfInBounds k u=a.tmps:=by
  apply Array.ext_getElem?;intro i;rw [Array.getElem?_setIfInBounds];split
  ·rename_i e;subst e;rw [Array.getD_eq_getD_getElem?,Array.getElem?_eq_getElem hk] at hu;rw [Array.getElem?_eq_getElem hk,<- hu];simp
  ·rfl
 simp only [Act.put,e]
theorem ynb {a:Act} {k k':Nat} (h:k≠k'):(a.put (some k) u).tmps.getD k' undef=a.tmps.getD k' undef:=by
 simp only [Act.put,Array.getD_eq_getD_getElem?,Array.getElem?_setIfInBounds];rw [if_neg h]
def ydm (o:Oper) (d:Option Tmp):Prop := ∀ (t:TypeId) (n:Nat) (parts:Array (Nat×Operand)),o.op = .buildSlice t n parts->∀ q∈parts.toList,∀ k,q.2 = .tmp k->d≠some k
theorem LzC.other {C:Ctx} {a:Act} {o:Oper} {cells:Array Value} {io:IOp} (h:LzC C a o cells io) {d:Option Tmp} (hn:ydm o d):LzC C (a.put d u) o cells io:=by
 cases io with
 | allocL z=>exact h
 | bsliceL n sz z ps =>
  obtain ⟨t,parts,zs,h1,h2,h3,h4,h5⟩:=h;refine ⟨t,parts,zs,h1,h2,h3,h4,?_⟩;rw [<- h5]
  congr 1
  apply List.map_congr_left;intro q hq;have hk:=hn t n parts h1 q hq;have:(a.put d u).eval q.2=a.eval q.2:=by
   cases hq2:q.2 with
   | tmp k =>
    cases d with
    | none=>rfl
    | some k'=>exact ynb (fun e=>hk k hq2 (by rw [e]))
   | _=>cases d <;> rfl
  rw [this]
 | _=>exact h
theorem zu5.other {C:Ctx} {f:St} {a:Act} {w w':World} {o:Oper} {io:zac} {blk:Option Nat} (h:zu5 C f a w o io blk) (hw : ∀ b,blk=some b->w'.heap[b]?=w.heap[b]?) {d:Option Tmp} (hd : ∀ k k',d=some k->o.dst=some k'->k≠k') (hn:ydm o d):zu5 C f (a.put d u) w' o io blk:=by
 have hp : ∀ k',o.dst=some k'->(a.put d u).tmps.getD k' undef=a.tmps.getD k' undef:=by
  intro k' hk';cases d with
  | none=>rfl
  | some k=>exact ynb (hd k k' rfl hk')
 rcases h with ⟨h1,h2,h3⟩ | ⟨h1,b,cells,t,h2,h3,h4,h5⟩
 ·exact .inl ⟨h1,h2,fun k hk=>by rw [hp k hk]; exact h3 k hk⟩
 ·exact .inr ⟨h1,b,cells,t,h2,by rw [hw b h2]; exact h3,h4.other hn,fun k hk=>by rw [hp k hk]; exact h5 k hk⟩
theorem DOk.tmps (hk:DOk C md ops l pre) {o o':Oper} (ho:ops[i]?=some o) (ho':ops[j]?=some o') (hne:i≠j) : ∀ k k',o.dst=some k->o'.dst=some k'->k≠k':=by
 rintro k k' h1 h2 rfl;have hil:i<l.length:=by rw [hk.len]; exact (Array.getElem?_eq_some_iff.mp ho).1
 have hjl:j<l.length:=by rw [hk.len]; exact (Array.getElem?_eq_some_iff.mp ho').1
 obtain ⟨_,_,d1⟩:=hk.cmp i o _ ho (bG hil);obtain ⟨_,_,d2⟩:=hk.cmp j o' _ ho' (bG hjl);rw [h1] at d1;rw [h2] at d2;simp only [zi5] at d1 d2;split at d1
 ·rename_i hlt;rw [if_pos hlt] at d2;have e1:=Option.some.inj d1;have e2:=Option.some.inj d2;exact hne (hk.dst i j _ _ _ _ (bG hil) (bG hjl) e1.symm e2.symm rfl)
 ·cases d1
end
end Go.Pe
