/- What the evaluator answers,the function answers in the model,wherever it is called (z73),if each compact text is its function (zlg); no other condition. -/
import Derived.Below
import Derived.ArgAppend
import Derived.Laws.Tables
import Derived.Laws.StructEq
import Derived.Laws.BytesString
import Derived.Laws.CopyRow
import Derived.Laws.MakeOwn
import Derived.Orders
import Derived.WalkKit
import Derived.ProofKit
import Derived.OpenShut
import Derived.ChangeOld
import Derived.Carry
import Derived.SizedLaws
import Derived.Laws.Externs
import Derived.Lib.SliceRun
import Derived.Sort.Grow
import Derived.Lib.SlicesCompact
import Derived.Test.YtpcphbbcnmhcnaaGreatEvB1
set_option linter.all false
namespace Go.Pe
open Go
variable {t:TypeId} {o:Oper}
def Sg (C:Ctx) (ops:Array Oper) (l:List (zac×Nat×Nat)) (st0 f:St) (tr:List (PV×St)) (D A:Nat->Bool) (a:Act) (w:World):Prop :=
 ∃ g m blk,(zbt l tr f)[(List.range l.length).countP fun j=>za7 l j && A j]?=some m /\
  SR C a w g (mD l A (za2 l (fun j=>D j && !A j) st0) f m)/\zza C ops l f (fun j=>D j && !A j) a w g (mD l A (za2 l (fun j=>D j && !A j) st0) f m) blk
def At (l:List (zac×Nat×Nat)) (D:Nat->Bool) (t j:Nat):Bool:=AD l D j || (Lz l j && decide (j<t))
theorem zgx {l:List (zac×Nat×Nat)} {D:Nat->Bool} {t j:Nat}:At l D t j=true↔AD l D j=true\/(Lz l j=true/\j<t):=by
 unfold At; simp only [Bool.or_eq_true,Bool.and_eq_true,decide_eq_true_eq]
section
variable {C:Ctx} {md:Region.Mode} {ops:Array Oper} {l:List (zac×Nat×Nat)} {pre:Nat->Nat->Bool} {modes:Nat->List Bool} {R:zak} {st0 f:St} {tr:List (PV×St)} {D:Nat->Bool} {a:Act} {w:World}
theorem qcr {t:Nat} (hd:D t=true) (h:AD l D t=false):Lz l t=true/\∀ k,t<k->Ln l k=true->D k=false:=by
 have h' : ¬ (D t=true/\(Lz l t=true->∃ k,t<k/\Ln l k=true/\D k=true)):=fun e=>by rw [zde.mpr e] at h; cases h
 have h1 : ¬ (Lz l t=true->∃ k,t<k/\Ln l k=true/\D k=true):=fun e=>h' ⟨hd,e⟩;refine ⟨?_,fun k hk hl => ?_⟩
 ·cases hz:Lz l t with
  | true=>rfl
  | false=>exact (h1 fun e=>by rw [hz] at e; cases e).elim
 ·cases hD:D k with
  | false=>rfl
  | true=>exact (h1 fun _=>⟨k,hk,hl,hD⟩).elim
theorem qel (hk:DOk C md ops l pre) (hrun:zdx modes R l [] [] st0 f tr) (hcl : ∀ i j,D i=true->pre i j=true->D j=true) {t:Nat} (hz:Lz l t=true) (hd:D t=true) (hn:AD l D t=false) (hline : ∀ j,Ln l j=true->j<t->D j=true)
  (h:Sg C ops l st0 f tr D (At l D t) a w):Sg C ops l st0 f tr D (At l D (t+1)) a w:=by
 obtain ⟨g,m,blk,hm,hs,hp⟩:=h;have hLt:=z9u hz;have hil:t<l.length:=by
  unfold Lz at hz;cases hx:l[t]? with
  | none=>rw [hx] at hz; cases hz
  | some q=>exact (bD hx).1
 obtain ⟨q,hq⟩ : ∃ q,l[t]?=some q:=⟨_,bG hil⟩;obtain ⟨io,b0,w0⟩:=q;obtain ⟨o,ho⟩ : ∃ o,ops[t]?=some o:=⟨_,Array.getElem?_eq_getElem (by rw [<- hk.len]; exact hil)⟩;have hlzi:zeu io.op=true:=by rw [yrq hq] at hz; exact hz
 obtain ⟨hnp,hnq⟩:=yqa hlzi;have hafter:=(qcr hd hn).2;have hAt:At l D t t=false:=by
  cases e:At l D t t with
  | false=>rfl
  | true =>
   rcases zgx.mp e with e | ⟨_,e⟩
   ·rw [hn] at e; cases e
   ·omega
 have noafter : ∀ j,pre j t=true->D j=false:=by
  intro j hj;cases hDj:D j with
  | false=>rfl
  | true =>
   obtain ⟨h1,h2⟩:=hk.lzP j t hz hj;rcases h2 with h2 | ⟨k,h3,h4,h5⟩
   ·have:=hafter j (hk.lt _ _ hj) (zi0.mpr ⟨h2,h1⟩);rw [hDj] at this; cases this
   ·have:=hafter k h3 h4;rw [hcl j k hDj h5] at this; cases this
 have hpre : ∀ j,pre t j=true->At l D t j=true:=by
  intro j hj;have hDj:=hcl t j hd hj;refine zgx.mpr (.inl (zde.mpr ⟨hDj,fun hzj => ?_⟩));have:=(hk.lzP t j hzj hj).1;rw [hz] at this; cases this
 have hup : ∀ j,At l D t j=true->pre j t=false:=by
  intro j hj;cases hp:pre j t with
  | false=>rfl
  | true =>
   have hDj:=noafter j hp;rcases zgx.mp hj with e | ⟨e,_⟩
   ·rw [(zde.mp e).1] at hDj; cases hDj
   ·have:=(hk.lzP j t hz hp).1;rw [e] at this; cases this
 have hln : ∀ j,za7 l j=true->(At l D t j=true↔j<t):=by
  intro j hj;constructor
  ·intro ea;rcases zgx.mp ea with eb | ⟨_,eb⟩
   ·obtain ⟨e1,e2⟩:=zde.mp eb;rcases Nat.lt_trichotomy j t with h1 | h1 | h1
    ·exact h1
    ·subst h1; rw [hn] at eb; cases eb
    ·cases hzj:Lz l j with
     | false =>
      have:=hafter j h1 (zi0.mpr ⟨hj,hzj⟩);rw [e1] at this; cases this
     | true =>
      obtain ⟨k,e3,e4,e5⟩:=e2 hzj;have:=hafter k (by omega) e4;rw [e5] at this; cases this
   ·exact eb
  ·intro e;cases hzj:Lz l j with
   | true=>exact zgx.mpr (.inr ⟨hzj,e⟩)
   | false=>exact zgx.mpr (.inl (zde.mpr ⟨hline j (zi0.mpr ⟨hj,hzj⟩) e,fun e=>by rw [hzj] at e; cases e⟩))
 have hs0 : ∀ (y:Opd) (j:Nat),Wrt l j y->pre j t=true->At l D t j=false->y.get (za2 l (fun j=>D j && !At l D t j) st0)=y.get st0:=by
  intro y j hw hp _;refine zps fun j' hw' => ?_;have:=hk.wrt hw hw';subst this;rw [noafter j hp]; rfl
 obtain ⟨x,s,htr,hstep⟩:=ypp hk hrun hq (D:=At l D t) hs0 hpre hup (fun e=>by rw [hnq] at e; cases e) (fun _=>hln) hm;obtain ⟨_,m',hm',hev⟩:quiet io.op=false/\∃ m',(zbt l tr f)[((List.range l.length).countP fun j=>za7 l j && At l D t j)+1]?=some m'/\evG modes R (mD l (At l D t) (za2 l (fun j=>D j && !At l D t j) st0) f m) io=some (x,mD l (At l D t) (za2 l (fun j=>D j && !At l D t j) st0) f m'):=by
  rcases hstep with ⟨e,_⟩ | e
  ·rw [hnq] at e; cases e
  ·exact e
 have hD : ∀ j,At l D (t+1) j=if j=t then true else At l D t j:=by
  intro j
  by_cases e:j=t
  ·subst e; rw [if_pos rfl]; exact zgx.mpr (.inr ⟨hz,by omega⟩)
  ·rw [if_neg e];unfold At
   congr 2
   exact decide_eq_decide.mpr (by omega)
 have hxd : ∀ d,io.dst=some d->d.opd.get f=x:=fun d hd=>yuq hrun hk.dst t _ d x s hq htr hd;have hput : ∀ m':St,(mD l (At l D t) (za2 l (fun j=>D j && !At l D t j) st0) f m').put io.dst x=mD l (At l D (t+1)) (za2 l (fun j=>D j && !At l D (t+1) j) st0) f m':=by
  intro m';rw [ysj hk.dst hq hxd hD hAt];refine qg5 fun y j hw hj => ?_;have hjt:j≠t:=by rintro rfl; rw [hD,if_pos rfl] at hj; cases hj
  have e : ∀ P P':Nat->Bool,P j=P' j->y.get (za2 l P st0)=y.get (za2 l P' st0):=by
   intro P P' hPP;cases hP:P j with
   | true=>rw [zu6 hw hP,zu6 hw (by rw [<- hPP]; exact hP)]
   | false=>rw [zps fun j' hw'=>by rw [<- hk.wrt hw hw']; exact hP,zps fun j' hw'=>by rw [<- hk.wrt hw hw',<- hPP]; exact hP]
  refine e _ _ ?_;simp only [hD j,if_neg hjt]
 have hcnt:(List.range l.length).countP (fun j=>za7 l j && At l D (t+1) j)=(List.range l.length).countP (fun j=>za7 l j && At l D t j)+1:=by
  rw [yea (p:=za7 l) hil hAt hD,hLt]; rfl
 have hPn : ∀ j,(D j && !At l D (t+1) j)=true->(D j && !At l D t j)=true/\j≠t:=by
  intro j hj;simp only [Bool.and_eq_true,Bool.not_eq_true'] at hj ⊢;obtain ⟨h1,h2⟩:=hj;have hjt:j≠t:=by rintro rfl; rw [hD,if_pos rfl] at h2; cases h2
  rw [hD,if_neg hjt] at h2;exact ⟨⟨h1,h2⟩,hjt⟩
 have hPt:(D t && !At l D t t)=true:=by simp [hd,hAt]
 obtain ⟨_,_,hdst⟩:=hk.cmp t o _ ho hq;have hgf : ∀ y∈io.opds,y.get (mD l (At l D t) (za2 l (fun j=>D j && !At l D t j) st0) f m)=y.get f:=by
  intro y hy;exact zyi fun j hw=>hpre j (hk.reads hq hnp hy hw)
 have hguard:zc7 (mD l (At l D t) (za2 l (fun j=>D j && !At l D t j) st0) f m) io.guard=zc7 f io.guard:=by
  cases hg:io.guard with
  | none=>rfl
  | some yq =>
   obtain ⟨y,want⟩:=yq;simp only [zc7];rw [hgf y (by simp [zac.opds,zvr,hg])]
 have hself : ∀ u,(∀ k,o.dst=some k->a.tmps.getD k undef=u)->a.put o.dst u=a:=by
  intro u hu;cases hdk:o.dst with
  | none=>rfl
  | some k =>
   refine qfe (hu k hdk) ?_;rw [hdk] at hdst;simp only [zi5] at hdst;split at hdst
   ·rename_i hlt; exact Nat.lt_of_lt_of_le hlt hs.nt
   ·cases hdst
 have keep : ∀ {g':Gh} {st':St} (blk':Nat->Option Nat),(∀ j,j≠t->blk' j=blk j)->zaz C w g' st' (fun x => ∃ j,(D j && !At l D (t+1) j)=true/\blk' j=some x)->ShX w g' st' (fun x => ∃ j,(D j && !At l D (t+1) j)=true/\blk' j=some x)->zza C ops l f (fun j=>D j && !At l D (t+1) j) a w g' st' blk':=by
  intro g' st' blk' hb hL hSh;refine ⟨hSh,hL,fun j j' x h1 h2 h3 h4 => ?_,fun j o' q' h1 h2 h3 => ?_⟩
  ·obtain ⟨e1,e2⟩:=hPn j h1;obtain ⟨e3,e4⟩:=hPn j' h2;exact hp.inj j j' x e1 e3 (by rw [<- hb j e2]; exact h3) (by rw [<- hb j' e4]; exact h4)
  ·obtain ⟨e1,e2⟩:=hPn j h1;rw [hb j e2];exact hp.at_ j o' q' e1 h2 h3
 have hpt:=hp.at_ t o _ hPt ho hq;unfold evG at hev;rw [hguard] at hev;rcases hpt with ⟨h1,h2,h3⟩ | ⟨h1,b,cells,ty,h2,h3,h4,h5⟩
 ·rw [h1] at hev;simp only [Option.bind_some,Bool.false_eq_true,if_false,bC,Prod.mk.injEq] at hev;obtain ⟨hx,hmm⟩:=hev;have hs':SR C (a.put o.dst undef) w g ((mD l (At l D t) (za2 l (fun j=>D j && !At l D t j) st0) f m).put io.dst x):=hs.put (by rw [<- hx]; exact (show zap w g _ (.v Go.undef) Go.undef from rfl)) hdst;rw [hself undef h3,hmm,hput] at hs';have e:(mD l (At l D (t+1)) (za2 l (fun j=>D j && !At l D (t+1) j) st0) f m').S=(mD l (At l D t) (za2 l (fun j=>D j && !At l D t j) st0) f m).S:=by
   rw [hmm]; rfl
  refine ⟨g,m',blk,by rw [hcnt]; exact hm',hs',keep blk (fun _ _=>rfl) ?_ ?_⟩
  ·exact hp.loose.mem e fun x hx=>by obtain ⟨j,h6,h7⟩:=hx; exact ⟨j,(hPn j h6).1,h7⟩
  ·exact hp.sh.mem e (by rw [hmm]; rfl) fun x hx=>by obtain ⟨j,h6,h7⟩:=hx; exact ⟨j,(hPn j h6).1,h7⟩
 ·rw [h1] at hev;simp only [Option.bind_some,if_true] at hev;have hXb : ∃ j,(D j && !At l D t j)=true/\blk j=some b:=⟨t,hPt,h2⟩;have fin : ∀ {g':Gh} {st':St},st'=mD l (At l D t) (za2 l (fun j=>D j && !At l D t j) st0) f m'->SR C a w g' st'->zap w g' st' x (ycz io.op b)->zaz C w g' st' (fun y=>(∃ j,(D j && !At l D t j)=true/\blk j=some y)/\y≠b)->ShX w g' st' (fun y=>(∃ j,(D j && !At l D t j)=true/\blk j=some y)/\y≠b)->Sg C ops l st0 f tr D (At l D (t+1)) a w:=by
   intro g' st' he hs1 hr hL hSh;subst he;have hs':=hs1.put hr hdst;rw [hself _ h5,hput] at hs';have sub : ∀ x,(∃ j,(D j && !At l D (t+1) j)=true/\blk j=some x)->(∃ j,(D j && !At l D t j)=true/\blk j=some x)/\x≠b:=by
    rintro x ⟨j,h6,h7⟩;refine ⟨⟨j,(hPn j h6).1,h7⟩,?_⟩;rintro rfl;exact (hPn j h6).2 (hp.inj j t x (hPn j h6).1 hPt h7 h2)
   exact ⟨g',m',blk,by rw [hcnt]; exact hm',hs',keep blk (fun _ _=>rfl) (hL.mem rfl sub) (hSh.mem rfl rfl sub)⟩
  cases hop:io.op with
  | allocL z =>
   rw [hop] at hev h4 fin;simp only [zaj,bC] at hev;obtain ⟨g',s1,r1,L1,S1⟩:=hs.takeBox hp.loose hp.sh (b:=b) hXb h3 h4;have hx1:_=x:=congrArg Prod.fst hev;exact fin (congrArg Prod.snd hev) s1 (by rw [<- hx1]; exact r1) L1 S1
  | bsliceL n sz z ps =>
   rw [hop] at hev h4 fin;obtain ⟨ty2,parts,zs,e1,e2,e3,e4,e5⟩:=h4;simp only [zaj,bB] at hev;obtain ⟨⟨es,st'⟩,hf,hev⟩:=hev;obtain ⟨g',s1,r1,L1,S1⟩:=hs.takeRow hp.loose hp.sh (b:=b) hXb h3 e3 (e4 w) (z7z hs e2) e5 hf;have hx1:_=x:=congrArg Prod.fst hev;exact fin (congrArg Prod.snd hev) s1 (by rw [<- hx1]; exact r1) L1 S1
  | _=>rw [hop] at hlzi; cases hlzi
theorem yrn (hk:DOk C md ops l pre) (hrun:zdx modes R l [] [] st0 f tr) (hcl : ∀ i j,D i=true->pre i j=true->D j=true) {i:Nat} (hline : ∀ j,za7 l j=true->j<i->D j=true) (h:Sg C ops l st0 f tr D (AD l D) a w) : ∀ t,t<=i->Sg C ops l st0 f tr D (At l D t) a w
 | 0,_=>by
  have e:At l D 0=AD l D:=by funext j; simp [At]
  rw [e]; exact h
 | t+1,ht=>by
  have ih:=yrn hk hrun hcl hline h t (by omega)
  by_cases hc:Lz l t=true/\AD l D t=false
  ·exact qel hk hrun hcl hc.1 (hline t (z9u hc.1) (by omega)) hc.2 (fun j hj hjt=>hline j (zi0.mp hj).1 (by omega)) ih
  ·have e:At l D (t+1)=At l D t:=by
    funext j
    by_cases e:j=t
    ·subst e;unfold At;cases hA:AD l D j with
     | true=>rfl
     | false =>
      have:Lz l j=false:=by
       cases hz:Lz l j with
       | false=>rfl
       | true=>exact (hc ⟨hz,hA⟩).elim
      simp [this]
    ·unfold At
     congr 2
     exact decide_eq_decide.mpr (by omega)
   rw [e]; exact ih
theorem qhh {z:List PV} (hz:zpw C.P t=some z) (ho:o.op = .alloc t) (a:Act) (w:World) :
  ∃ cells,(execOp a.eval o).run C.P w = .ok (.value (.pointer (some ⟨w.heap.size,0,none⟩))) (w.alloc (.cells cells t (0,0)))/\PW (fun _=>ZC) z cells.toList:=by
 obtain ⟨i,zv,hi,hzv,hm⟩:=yc6 hz;refine ⟨zv.cells,?_,yp6 hm⟩;simp [execOp,ho,Instr.alloc,zeroValue,typeInfo,hi,hzv,newVar]; try rfl
theorem qcc {a:Act} {w:World} {g:Gh} {st:St} (h:SR C a w g st) {t e:TypeId} {n:Nat} {parts:Array (Nat×Operand)} (ho:o.op = .buildSlice t n parts) (ht:C.P.underlying t=some (.slice e)) {s:Nat} (hs:zds C.P e=some s) {z:List PV} (hz:zqj C.P e=some z) {ps:List (Nat×Opd)} (hp:zjr C.vars parts.toList=some ps) (hsm:n*s<=16777216) (hzl:z.length=s)
  (hf : ∀ q∈zb8 st ps,q.1<n/\(cellsOf q.2).length=s/\(cellsOf q.2).all zc2=true) :
  ∃ cells,(execOp a.eval o).run C.P w = .ok (.value (.slice (some ⟨w.heap.size,0,none⟩) n n)) (w.alloc (.cells cells e (0,0)))/\LzC C a o cells (.bsliceL n s z ps):=by
 obtain ⟨i,zv,hi,hzv,hrep⟩:=yeh hz;have hsi:i.size=s:=by simpa [zds,hi] using hs
 subst hsi;have hmk:(madeCells zv.cells (n*i.size)).toList.take (n*i.size)=(madeCells zv.cells (n*i.size)).toList:=by
  apply List.take_of_length_le; simp [size_madeCells]
 have hcl : ∀ w,zbi w (fun _=>False) (List.replicate n z).flatten (madeCells zv.cells (n*i.size)).toList (fun _ _=>False):=fun w=>by
  have:=yb9 (n:=n) (m:=n) (hrep w) hzl (Nat.le_refl _);rw [hmk] at this; exact this
 have hif:(if n*i.size=0 then #[] else madeCells zv.cells (n*i.size))=madeCells zv.cells (n*i.size):=by
  split
  ·rename_i e; rw [e]; exact (Array.eq_empty_of_size_eq_zero (size_madeCells _ _)).symm
  ·rfl
 obtain ⟨cells,hc⟩:=yt5 (n:=n) (z7z h hp) hf (cells:=madeCells zv.cells (n*i.size)) (size_madeCells _ _);have run:=yqy (P:=C.P) w (t:=t) (e:=e) (len:=n) (parts:=parts.map fun (i,x)=>(i,a.eval x)) (cells:=cells) ht hi hzv hsm (by rw [hif]; simpa using hc);refine ⟨cells,?_,t,parts,_,ho,hp,hzl,hcl,hc⟩;simp only [execOp,ho,Sem.run_bind,run,Result.andThen_ok,Sem.run_pure]
def zgt (x:Option IOp):Prop := ∀ io,x=some io->zeu (zgj io)=false
theorem zgt.none:zgt Option.none:=fun _ h=>by cases h
theorem zgt.some {io:IOp} (h:zeu (zgj io)=false):zgt (Option.some io):=fun _ e=>by cases e; exact h
theorem zgt.bind {α:Type} {x:Option α} {k:α->Option IOp} (h : ∀ a,zgt (k a)):zgt (x.bind k):=fun io e=>by
 obtain ⟨a,_,e⟩:=bA e;exact h a io e
theorem zgt.map {α:Type} {x:Option α} {k:α->IOp} (h : ∀ a,zeu (zgj (k a))=false):zgt (x.map k):=fun io e=>by
 obtain ⟨a,_,rfl⟩:=bB.mp e;exact h a
theorem qhm {vars:List Nat} {o:Op} {io:IOp} (h1 : ∀ t,o ≠ .alloc t) (h2 : ∀ t n ps,o ≠ .buildSlice t n ps) (h:zbv C.P vars o=some io):zeu (zgj io)=false:=by
 revert h
 suffices hh:zgt (zbv C.P vars o) from fun h=>hh io h
 cases o with
 | alloc t=>exact (h1 t rfl).elim
 | buildSlice t n ps=>exact (h2 t n ps rfl).elim
 | _ =>
  simp only [zbv,zzc]
  repeat' first
   | exact zgt.none
   | exact zgt.some rfl
   | exact zgt.map fun _=>rfl
   | refine zgt.bind fun _ => ?_
   | (rename_i heq; cases heq; done)
   | split
theorem yny {vars:List Nat} : ∀ {parts:List (Nat×Operand)} {ps:List (Nat×Opd)},zjr vars parts=some ps->∀ q∈parts,∃ y,zan vars q.2=some y/\y∈ps.map fun p=>p.2
 | [],ps,_,q,hq=>by cases hq
 | p::parts,ps,h,q,hq=>by
  simp only [zjr] at h;obtain ⟨y,hy,h⟩:=bA h;simp only [bB] at h;obtain ⟨ps',h2,rfl⟩:=h;rcases List.mem_cons.mp hq with rfl | hq
  ·exact ⟨y,hy,by simp⟩
  ·obtain ⟨y',h3,h4⟩:=yny h2 q hq;exact ⟨y',h3,List.mem_cons_of_mem _ h4⟩
theorem qf5 {P:Program} {vars:List Nat} {n:Nat} {parts:Array (Nat×Operand)} {y:Opd} (h:zbv P vars (.buildSlice t n parts)=some (.mv y)):False:=by
 simp only [zbv] at h;split at h
 ·obtain ⟨sz,_,h⟩:=bA h;obtain ⟨z,_,h⟩:=bA h;obtain ⟨ps,_,h⟩:=bA h;split at h <;> cases h
 ·cases h
theorem DOk.uses (hk:DOk C md ops l pre) {i j:Nat} {o o':Oper} (ho:ops[i]?=some o) (ho':ops[j]?=some o') {n:Nat} {parts:Array (Nat×Operand)} (hop:o'.op = .buildSlice t n parts) {e:Nat×Operand} (he:e∈parts.toList) {k:Nat} (hek:e.2 = .tmp k) (hd:o.dst=some k):pre j i=true:=by
 have hil:i<l.length:=by rw [hk.len]; exact (Array.getElem?_eq_some_iff.mp ho).1
 have hjl:j<l.length:=by rw [hk.len]; exact (Array.getElem?_eq_some_iff.mp ho').1
 obtain ⟨qi,hqi⟩ : ∃ q,l[i]?=some q:=⟨_,bG hil⟩;obtain ⟨qj,hqj⟩ : ∃ q,l[j]?=some q:=⟨_,bG hjl⟩;obtain ⟨_,_,d1⟩:=hk.cmp i o _ ho hqi;obtain ⟨_,⟨io,c1,c2⟩,_⟩:=hk.cmp j o' _ ho' hqj;rw [hd] at d1;simp only [zi5] at d1;rw [hop] at c1
 replace c2:qj.1.op=if zeu qj.1.op then zgj io else io:=by
  rcases c2 with c2 | ⟨y,e,_⟩
  ·exact c2
  ·rw [e] at c1; exact (qf5 c1).elim
 simp only [zbv] at c1;split at c1
 ·obtain ⟨sz,_,c1⟩:=bA c1;obtain ⟨z,_,c1⟩:=bA c1;obtain ⟨ps,hps,c1⟩:=bA c1;split at c1
  ·cases c1;obtain ⟨y,hy,hym⟩:=yny hps e he;rw [hek,yrf] at hy;cases hy;have hm:(if C.vars.contains k then Opd.V k else Opd.E k)∈qj.1.opds/\zgm qj.1.op=false:=by
    have h2:qj.1.op = .bsliceL n sz z ps\/qj.1.op = .bslice n sz z ps:=by
     cases hz:zeu qj.1.op with
     | true=>rw [hz,if_pos rfl] at c2; exact .inl c2
     | false=>rw [hz,if_neg (by simp)] at c2; exact .inr c2
    unfold zac.opds;rcases h2 with h2 | h2
    ·rw [h2]; exact ⟨List.mem_append_right _ hym,rfl⟩
    ·rw [h2]; exact ⟨List.mem_append_right _ hym,rfl⟩
   split at d1
   ·have d2:=Option.some.inj d1;refine hk.reads hqj hm.2 hm.1 ⟨qi,_,hqi,d2.symm,?_⟩;split <;> rfl
   ·cases d1
  ·cases c1
 ·cases c1
theorem yus (hk:DOk C md ops l pre) {Pn:Nat->Bool} {g:Gh} {st:St} {blk:Nat->Option Nat} {a:Act} {w:World} (hp:zza C ops l f Pn a w g st blk) {i:Nat} (ho:ops[i]?=some o) (hi:Pn i=false) {w':World} (hw : ∀ b,(∃ j,Pn j=true/\blk j=some b)->w'.heap[b]?=w.heap[b]?) (hup : ∀ j,Pn j=true->pre j i=false) {u:Value} :
  ∀ (j:Nat) (o':Oper) (q:zac×Nat×Nat),Pn j=true->ops[j]?=some o'->l[j]?=some q->zu5 C f (a.put o.dst u) w' o' q.1 (blk j):=by
 intro j o' q hj ho' hq;have hne:i≠j:=by rintro rfl; rw [hi] at hj; cases hj
 refine (hp.at_ j o' q hj ho' hq).other (fun b hb=>hw b ⟨j,hj,hb⟩) (fun k k' h1 h2=>hk.tmps ho ho' hne k k' h1 h2) ?_;intro t n parts hop e he k hek hdk;have:=hk.uses ho ho' hop he hek hdk;rw [hup j hj] at this; cases this
theorem qba (hk:DOk C md ops l pre) (hR:zhk C.P modes R) (hrun:zdx modes R l [] [] st0 f tr) {Q:Exit->Act->World->Prop} (hQ : ∀ a w g,SR C a w g f->Q .normal a w) :
  ∀ (fuel:Nat) (listed:Array Bool) (a:Act) (w:World),(List.range l.length).countP (fun j=>listed.getD j false)+fuel=l.length->JD C ops l pre st0 f tr listed a w->wpAny C.P md ops Q fuel listed a w:=by
 have fin : ∀ (listed:Array Bool) (a:Act) (w:World),JD C ops l pre st0 f tr listed a w->Region.ready md ops listed=[]->Q .normal a w:=by
  intro listed a w hJ hr;obtain ⟨g,m,blk,hm,hs,_⟩:=hJ.st;have all : ∀ j,j<l.length->listed.getD j false=true:=by
   intro j hj;exact hk.prog listed (by rw [hJ.size,hk.len]) hr j (by rw [<- hk.len]; exact hj)
  have lnl : ∀ k,Ln l k=true->k<l.length:=by
   intro k h;unfold Ln za7 at h;cases hx:l[k]? with
   | none=>rw [hx] at h; simp at h
   | some q=>exact (bD hx).1
  have allA : ∀ j,j<l.length->AD l (fun j=>listed.getD j false) j=true:=fun j hj=>zde.mpr ⟨all j hj,fun hz=>by
   obtain ⟨k,h1,h2⟩:=hk.lzU j hz;exact ⟨k,h1,h2,all k (lnl k h2)⟩⟩
  have e1:(List.range l.length).countP (fun j=>za7 l j && AD l (fun j=>listed.getD j false) j)=lc l l.length:=by
   rw [z9t];exact List.countP_congr fun j hj=>by rw [allA j (List.mem_range.mp hj),Bool.and_true]
  rw [e1,qic hrun] at hm;cases hm;have hV:VD l (AD l fun j=>listed.getD j false) (za2 l (PD l fun j=>listed.getD j false) st0).V f.V=f.V:=funext fun k=>yb5 fun j q h1 _=>allA j (bD h1).1;have hE:ED l (AD l fun j=>listed.getD j false) (za2 l (PD l fun j=>listed.getD j false) st0).E f.E=f.E:=funext fun k=>ydx fun j q h1 _=>allA j (bD h1).1;unfold mD at hs;rw [hV,hE] at hs;exact hQ a w g hs
 intro fuel
 induction fuel with
 | zero =>
  intro listed a w hc hJ;have hr:Region.ready md ops listed=[]:=by
   rw [List.eq_nil_iff_forall_not_mem];intro i hi;obtain ⟨h0,o,ho,_⟩:=mem_ready.mp hi;have hil:i<l.length:=by rw [hk.len]; exact (Array.getElem?_eq_some_iff.mp ho).1
   have:(List.range l.length).countP (fun j=>listed.getD j false)=(List.range l.length).length:=by simpa using hc
   have:=List.countP_eq_length.mp this i (List.mem_range.mpr hil);rw [Array.getD_eq_getD_getElem?] at h0 this;cases hx:listed[i]? with
   | none=>rw [hx] at this; simp at this
   | some b=>rw [hx] at h0 this; simp at h0 this; rw [h0] at this; cases this
  exact ⟨hr,fin listed a w hJ hr⟩
 | succ fuel ih =>
  intro listed a w hc hJ;refine ⟨fin listed a w hJ,fun i hi => ?_⟩;obtain ⟨h0,o,ho,hafter⟩:=mem_ready.mp hi;have hil:i<l.length:=by rw [hk.len]; exact (Array.getElem?_eq_some_iff.mp ho).1
  have his:i<listed.size:=by rw [hJ.size]; exact hil
  have hnd:listed.getD i false=false:=by
   rw [Array.getD_eq_getD_getElem?] at h0 ⊢;rw [Array.getElem?_eq_getElem his] at h0 ⊢;simpa using h0
  obtain ⟨q,hq⟩ : ∃ q,l[i]?=some q:=⟨_,bG hil⟩;obtain ⟨io,b,wf⟩:=q;obtain ⟨hg,⟨cio,hcmp,hcio⟩,hdst⟩:=hk.cmp i o _ ho hq;simp only at hcio;have hpreD : ∀ j,pre i j=true->listed.getD j false=true:=by
   intro j hj;obtain ⟨o',e,ho',he,hb,hon⟩:=hk.edge i j hj;rw [ho] at ho'; cases ho';have:=hafter e he hb;rcases hon with rfl | h
   ·exact this
   ·exact hJ.closed _ _ this h
  have hupD : ∀ j,listed.getD j false=true->pre j i=false:=by
   intro j hj;cases hp:pre j i with
   | false=>rfl
   | true=>have:=hJ.closed _ _ hj hp; rw [hnd] at this; cases this
  have hD' : ∀ j,(listed.setIfInBounds i true).getD j false=if j=i then true else listed.getD j false:=qfi his
  have hcnt:(List.range l.length).countP (fun j=>(listed.setIfInBounds i true).getD j false)+fuel=l.length:=by
   have:=yea (p:=fun _=>true) hil hnd hD';simp only [Bool.true_and,if_true] at this;rw [this]; omega
  have hclosed : ∀ i' j,(listed.setIfInBounds i true).getD i' false=true->pre i' j=true->(listed.setIfInBounds i true).getD j false=true:=by
   intro i' j h1 h2;rw [hD'] at h1 ⊢;split
   ·rfl
   ·split at h1
    ·rename_i e; subst e; exact hpreD j h2
    ·exact hJ.closed _ _ h1 h2
  have hLd:za7 l i = !quiet io.op:=by simp [za7,hq]
  have hLz:Lz l i=zeu io.op:=yrq hq;have hsg:Sg C ops l st0 f tr (fun j=>listed.getD j false) (AD l fun j=>listed.getD j false) a w:=hJ.st;unfold wpOp;rw [ho];show if Region.wanted o (yielded ops a.tmps)=true then Oper.wp C.P o a w (wpAny C.P md ops Q fuel (listed.setIfInBounds i true)) Q\/(o.asks C.P a w/\LetsOut Q) else wpAny C.P md ops Q fuel (listed.setIfInBounds i true) (a.put o.dst undef) w
  cases hz:zeu io.op with
  | true =>
   obtain ⟨hnp,hnq⟩:=yqa hz;rw [hz] at hLz;have hcio:io.op=zgj cio:=by
    rcases hcio with h | ⟨y,_,e⟩
    ·rw [hz,if_pos rfl] at h; exact h
    ·rw [e] at hz; cases hz
   obtain ⟨g,m,blk,hm,hs,hp⟩:=hsg;have hs:SR C a w g (mD l (AD l fun j=>listed.getD j false) (za2 l (PD l fun j=>listed.getD j false) st0) f m):=hs;have hp:zza C ops l f (PD l fun j=>listed.getD j false) a w g (mD l (AD l fun j=>listed.getD j false) (za2 l (PD l fun j=>listed.getD j false) st0) f m) blk:=hp;have hLnf:Ln l i=false:=by
    cases e:Ln l i with
    | false=>rfl
    | true=>rw [(zi0.mp e).2] at hLz; cases hLz
   have eA:AD l (fun j=>(listed.setIfInBounds i true).getD j false)=AD l fun j=>listed.getD j false:=by
    funext j
    have key : ∀ k,Ln l k=true->(listed.setIfInBounds i true).getD k false=listed.getD k false:=by
     intro k hk';rw [hD',if_neg (by rintro rfl; rw [hLnf] at hk'; cases hk')]
    have eqv:AD l (fun j=>(listed.setIfInBounds i true).getD j false) j=true↔AD l (fun j=>listed.getD j false) j=true:=by
     rw [zde,zde]
     by_cases e:j=i
     ·subst e;constructor
      ·rintro ⟨_,h2⟩;obtain ⟨k,h3,h4,h5⟩:=h2 hLz;rw [key k h4] at h5;have:=hupD k h5;rw [hk.chain j k (z9u hLz) h4 h3] at this; cases this
      ·rintro ⟨h1,_⟩;rw [hnd] at h1; cases h1
     ·rw [hD',if_neg e];constructor
      ·rintro ⟨h1,h2⟩;exact ⟨h1,fun h=>by obtain ⟨k,h3,h4,h5⟩:=h2 h; exact ⟨k,h3,h4,by rw [<- key k h4]; exact h5⟩⟩
      ·rintro ⟨h1,h2⟩;exact ⟨h1,fun h=>by obtain ⟨k,h3,h4,h5⟩:=h2 h; exact ⟨k,h3,h4,by rw [key k h4]; exact h5⟩⟩
    cases h1:AD l (fun j=>(listed.setIfInBounds i true).getD j false) j <;> cases h2:AD l (fun j=>listed.getD j false) j <;> simp_all
   have eP : ∀ j,PD l (fun j=>(listed.setIfInBounds i true).getD j false) j=if j=i then true else PD l (fun j=>listed.getD j false) j:=by
    intro j;unfold PD;rw [eA];show ((listed.setIfInBounds i true).getD j false && !AD l (fun j=>listed.getD j false) j)=_;rw [hD'];split
    ·rename_i e;subst e;have:AD l (fun j=>listed.getD j false) j=false:=by
      cases h1:AD l (fun j=>listed.getD j false) j with
      | false=>rfl
      | true=>have:=(zde.mp h1).1; rw [hnd] at this; cases this
     rw [this]; rfl
    ·rfl
   have hPi:PD l (fun j=>listed.getD j false) i=false:=by
    unfold PD;show (listed.getD i false && _)=false;rw [hnd]; rfl
   have hAi:AD l (fun j=>listed.getD j false) i=false:=by
    cases h1:AD l (fun j=>listed.getD j false) i with
    | false=>rfl
    | true=>have:=(zde.mp h1).1; rw [hnd] at this; cases this
   have hgf : ∀ y∈io.opds,y.get (mD l (AD l fun j=>listed.getD j false) (za2 l (PD l fun j=>listed.getD j false) st0) f m)=y.get f:=by
    intro y hy;refine zyi fun j hw => ?_;have hp':=hk.reads hq hnp hy hw;refine zde.mpr ⟨hpreD j hp',fun hzj => ?_⟩;have:=(hk.lzP i j hzj hp').1;rw [hLz] at this; cases this
   have hguard:zc7 (mD l (AD l fun j=>listed.getD j false) (za2 l (PD l fun j=>listed.getD j false) st0) f m) io.guard=zc7 f io.guard:=by
    cases hgg:io.guard with
    | none=>rfl
    | some yq =>
     obtain ⟨y,want⟩:=yq;simp only [zc7];rw [hgf y (by simp [zac.opds,zvr,hgg])]
   obtain ⟨x,s,s',_,hev,_,hys⟩:=yoz hrun i io b wf hq;have hysf : ∀ y∈io.opds,y.get s=y.get f:=fun y hy=>hys y fun j hw=>hk.lt _ _ (hk.reads hq hnp hy hw);have hguards:zc7 s io.guard=zc7 f io.guard:=by
    cases hgg:io.guard with
    | none=>rfl
    | some yq =>
     obtain ⟨y,want⟩:=yq;simp only [zc7];rw [hysf y (by simp [zac.opds,zvr,hgg])]
   unfold evG at hev;obtain ⟨t,ht,hev⟩:=bA hev;rw [hguards] at ht;have hw:=z9i hs hg (by rw [hguard]; exact ht);have hst:(mD l (AD l fun j=>listed.getD j false) (za2 l (PD l fun j=>listed.getD j false) st0) f m).put io.dst .undef=mD l (AD l fun j=>(listed.setIfInBounds i true).getD j false) (za2 l (PD l fun j=>(listed.setIfInBounds i true).getD j false) st0) f m:=by
    rw [eA];have same : ∀ y:Opd,(∀ d,io.dst=some d->d.opd≠y)->y.get (za2 l (PD l fun j=>listed.getD j false) st0)=y.get (za2 l (PD l fun j=>(listed.setIfInBounds i true).getD j false) st0):=by
     intro y hy
     by_cases c : ∃ j,Wrt l j y/\PD l (fun j=>listed.getD j false) j=true
     ·obtain ⟨j,h1,h2⟩:=c;rw [zu6 h1 h2,zu6 h1 (by rw [eP]; split <;> first | rfl | exact h2)]
     ·have c1 : ∀ j,Wrt l j y->PD l (fun j=>listed.getD j false) j=false:=by
       intro j hj;cases e:PD l (fun j=>listed.getD j false) j with
       | false=>rfl
       | true=>exact (c ⟨j,hj,e⟩).elim
      rw [zps c1,zps fun j hj => ?_];rw [eP,if_neg]
      ·exact c1 j hj
      ·rintro rfl;obtain ⟨q',d,h1,h2,h3⟩:=hj;rw [hq] at h1; cases h1;exact hy d h2 h3
    have gV : ∀ k,(∀ d,io.dst=some d->d.opd ≠ .V k)->VD l (AD l fun j=>listed.getD j false) (za2 l (PD l fun j=>listed.getD j false) st0).V f.V k=VD l (AD l fun j=>listed.getD j false) (za2 l (PD l fun j=>(listed.setIfInBounds i true).getD j false) st0).V f.V k:=by
     intro k hk';unfold VD;split
     ·exact same (.V k) hk'
     ·rfl
    have gE : ∀ k,(∀ d,io.dst=some d->d.opd ≠ .E k)->ED l (AD l fun j=>listed.getD j false) (za2 l (PD l fun j=>listed.getD j false) st0).E f.E k=ED l (AD l fun j=>listed.getD j false) (za2 l (PD l fun j=>(listed.setIfInBounds i true).getD j false) st0).E f.E k:=by
     intro k hk';unfold ED;split
     ·exact same (.E k) hk'
     ·rfl
    cases hdd:io.dst with
    | none =>
     have h1:=funext fun k=>gV k (by simp [hdd]);have h2:=funext fun k=>gE k (by simp [hdd]);unfold mD; rw [h1,h2]; rfl
    | some d =>
     cases d with
     | V k0 =>
      have h2:=funext fun k=>gE k (by intro d hd; rw [hdd] at hd; cases hd; simp [Dst.opd]);have h1:upd (VD l (AD l fun j=>listed.getD j false) (za2 l (PD l fun j=>listed.getD j false) st0).V f.V) k0 .undef=VD l (AD l fun j=>listed.getD j false) (za2 l (PD l fun j=>(listed.setIfInBounds i true).getD j false) st0).V f.V:=by
       funext k
       unfold upd;split
       ·rename_i e; subst e;have hwr:Wrt l i (.V k):=⟨_,_,hq,hdd,rfl⟩;have h3:=zu6 (st:=st0) hwr (Pn:=PD l fun j=>(listed.setIfInBounds i true).getD j false) (by rw [eP,if_pos rfl]);have h4:=ybn (D:=AD l fun j=>listed.getD j false) (st0:=za2 l (PD l fun j=>(listed.setIfInBounds i true).getD j false) st0) (f:=f) (m:=m) hwr hAi;exact ((h4.trans h3)).symm
       ·rename_i e;exact gV k (by intro d hd; rw [hdd] at hd; cases hd; simp only [Dst.opd]; intro h; cases h; exact e rfl)
      unfold mD;show ({ m with V:=upd (VD l (AD l fun j=>listed.getD j false) (za2 l (PD l fun j=>listed.getD j false) st0).V f.V) k0 .undef,E:=ED l (AD l fun j=>listed.getD j false) (za2 l (PD l fun j=>listed.getD j false) st0).E f.E }:St)=_;rw [h1,h2]; rfl
     | E k0 =>
      have h2:=funext fun k=>gV k (by intro d hd; rw [hdd] at hd; cases hd; simp [Dst.opd]);have h1:upd (ED l (AD l fun j=>listed.getD j false) (za2 l (PD l fun j=>listed.getD j false) st0).E f.E) k0 .undef=ED l (AD l fun j=>listed.getD j false) (za2 l (PD l fun j=>(listed.setIfInBounds i true).getD j false) st0).E f.E:=by
       funext k
       unfold upd;split
       ·rename_i e; subst e;have hwr:Wrt l i (.E k):=⟨_,_,hq,hdd,rfl⟩;have h3:=zu6 (st:=st0) hwr (Pn:=PD l fun j=>(listed.setIfInBounds i true).getD j false) (by rw [eP,if_pos rfl]);have h4:=ybn (D:=AD l fun j=>listed.getD j false) (st0:=za2 l (PD l fun j=>(listed.setIfInBounds i true).getD j false) st0) (f:=f) (m:=m) hwr hAi;exact ((h4.trans h3)).symm
       ·rename_i e;exact gE k (by intro d hd; rw [hdd] at hd; cases hd; simp only [Dst.opd]; intro h; cases h; exact e rfl)
      unfold mD;show ({ m with V:=VD l (AD l fun j=>listed.getD j false) (za2 l (PD l fun j=>listed.getD j false) st0).V f.V,E:=upd (ED l (AD l fun j=>listed.getD j false) (za2 l (PD l fun j=>listed.getD j false) st0).E f.E) k0 .undef }:St)=_;rw [h1,h2]; rfl
   have next : ∀ (u:Value) (w':World) (ob:Option Nat),SR C a w' g (mD l (AD l fun j=>listed.getD j false) (za2 l (PD l fun j=>listed.getD j false) st0) f m)->(∀ x,x<w.heap.size->w'.heap[x]?=w.heap[x]?) ->
     (∀ x,ob=some x->w.heap.size<=x)->w.heap.size<=w'.heap.size->zaz C w' g (mD l (AD l fun j=>listed.getD j false) (za2 l (PD l fun j=>listed.getD j false) st0) f m) (fun x=>(∃ j,PD l (fun j=>listed.getD j false) j=true/\blk j=some x)\/ob=some x)->zu5 C f (a.put o.dst u) w' o io ob ->
     wpAny C.P md ops Q fuel (listed.setIfInBounds i true) (a.put o.dst u) w':=by
    intro u w' ob hs' hw' hob hsz hL hpa;refine ih _ _ _ hcnt ⟨by simpa using hJ.size,hclosed,g,m,fun j=>if j=i then ob else blk j,by rw [eA]; exact hm,?_,?_⟩
    ·rw [<- hst]; exact hs'.put (x := .undef) (u:=u) trivial hdst
    ·have hSh:ShX w' g (mD l (AD l fun j=>listed.getD j false) (za2 l (PD l fun j=>listed.getD j false) st0) f m) (fun x=>(∃ j,PD l (fun j=>listed.getD j false) j=true/\blk j=some x)\/ob=some x):=fun o sz es hso=>by
      obtain ⟨Y,y1,yk,y2,y3,y4⟩:=hp.sh o sz es hso;refine ⟨Y,zam.congr (fun x hx=>hw' x (y2 x hx)) y1,yk,fun x hx=>Nat.lt_of_lt_of_le (y2 x hx) hsz,y3,fun x hx hy => ?_⟩;rcases hx with hx | hx
      ·exact y4 x hx hy
      ·have:=y2 x hy; have:=hob x hx; omega
     have sub : ∀ x,(∃ j,PD l (fun j=>(listed.setIfInBounds i true).getD j false) j=true/\(if j=i then ob else blk j)=some x)->(∃ j,PD l (fun j=>listed.getD j false) j=true/\blk j=some x)\/ob=some x:=by
      rintro x ⟨j,h1,h2⟩;rw [eP] at h1
      by_cases e:j=i
      ·rw [if_pos e] at h2; exact .inr h2
      ·rw [if_neg e] at h1 h2; exact .inl ⟨j,h1,h2⟩
     refine ⟨hSh.mem (by rw [<- hst]; exact (zjp _ _ _).1) (by rw [<- hst]; exact (zjp _ _ _).2.2) sub,hL.mem (by rw [<- hst]; exact (zjp _ _ _).1) sub,fun j j' x h1 h2 h3 h4 => ?_,fun j o' q' h1 h2 h3 => ?_⟩
     ·rw [eP] at h1 h2;have old : ∀ j,PD l (fun j=>listed.getD j false) j=true->blk j=some x->x<w.heap.size:=fun j e1 e2=>hp.loose.lt x ⟨j,e1,e2⟩
      by_cases e:j=i <;> by_cases e':j'=i
      ·rw [e,e']
      ·rw [if_pos e] at h3; rw [if_neg e'] at h2 h4;have:=old j' h2 h4; have:=hob x h3; omega
      ·rw [if_neg e] at h1 h3; rw [if_pos e'] at h4;have:=old j h1 h3; have:=hob x h4; omega
      ·rw [if_neg e] at h1 h3; rw [if_neg e'] at h2 h4;exact hp.inj j j' x h1 h2 h3 h4
     ·by_cases e:j=i
      ·subst e;rw [ho] at h2; cases h2;rw [hq] at h3; cases h3;rw [if_pos rfl]; exact hpa
      ·rw [eP,if_neg e] at h1;rw [if_neg e];exact yus hk hp ho hPi (fun b hb=>hw' b (hp.loose.lt b hb)) (fun j hj=>hupD j (by unfold PD at hj; simp only [Bool.and_eq_true] at hj; exact hj.1)) j o' q' h1 h2 h3
   cases t with
   | false =>
    rw [if_neg (by rw [hw]; simp)];refine next undef w none hs (fun _ _=>rfl) (fun x e=>by cases e) (Nat.le_refl _) (hp.loose.mem rfl fun x hx=>by rcases hx with h | h; exact h; cases h) (.inl ⟨ht,rfl,fun k hk' => ?_⟩)
    rw [hk'] at hdst ⊢;simp only [zi5] at hdst;split at hdst
    ·rename_i hlt;simp only [Act.put,Array.getD_eq_getD_getElem?,Array.getElem?_setIfInBounds];simp [Nat.lt_of_lt_of_le hlt hs.nt]
    ·cases hdst
   | true =>
    rw [if_pos hw];simp only [if_true] at hev;have dstv : ∀ (u:Value) k,o.dst=some k->(a.put o.dst u).tmps.getD k undef=u:=by
     intro u k hk';rw [hk'] at hdst ⊢;simp only [zi5] at hdst;split at hdst
     ·rename_i hlt;simp only [Act.put,Array.getD_eq_getD_getElem?,Array.getElem?_setIfInBounds];simp [Nat.lt_of_lt_of_le hlt hs.nt]
     ·cases hdst
    have go : ∀ (u:Value) (cells:Array Value) (ty:TypeId),(execOp a.eval o).run C.P w = .ok (.value u) (w.alloc (.cells cells ty (0,0)))->u=ycz io.op w.heap.size->LzC C a o cells io.op->ydm o o.dst->Oper.wp C.P o a w (wpAny C.P md ops Q fuel (listed.setIfInBounds i true)) Q:=by
     intro u cells ty hr hu hl hnu;unfold Oper.wp;rw [hr,Oper.upon_value];obtain ⟨s1,L1,L2,h1,h2⟩:=hs.grow (w':=w.alloc (.cells cells ty (0,0))) (ob := .cells cells ty (0,0)) rfl rfl rfl rfl;refine next u _ (some w.heap.size) s1 h2 (fun x e=>by cases e; exact Nat.le_refl _) (by show w.heap.size<=(w.heap.push _).size; rw [Array.size_push]; exact Nat.le_succ _) ?_ (.inr ⟨ht,w.heap.size,cells,ty,rfl,h1,hl.other hnu,fun k hk'=>by rw [dstv u k hk',hu]⟩)
     have L3:=L2 _ hp.loose;refine ⟨fun o x hl hf hx => ?_,fun x hx => ?_,fun x hx => ?_,fun x hx => ?_⟩
     ·rcases hx with hx | hx
      ·exact L3.sep o x hl hf hx
      ·exact L1.sep o x hl hf (by cases hx; rfl)
     ·rcases hx with hx | hx
      ·exact L3.nz x hx
      ·exact L1.nz x (by cases hx; rfl)
     ·rcases hx with hx | hx
      ·exact L3.lt x hx
      ·exact L1.lt x (by cases hx; rfl)
     ·rcases hx with hx | hx
      ·exact L3.own x hx
      ·exact L1.own x (by cases hx; rfl)
    refine .inl ?_;cases hop:o.op with
    | alloc ty =>
     rw [hop] at hcmp;simp only [zbv,bB] at hcmp;obtain ⟨z,hzb,rfl⟩:=hcmp;obtain ⟨cells,h1,h2⟩:=qhh hzb hop a w;exact go _ cells ty h1 (by rw [hcio]; rfl) (by rw [hcio]; exact h2) (by intro t n parts e; rw [hop] at e; cases e)
    | buildSlice ty n parts =>
     rw [hop] at hcmp;simp only [zbv] at hcmp;split at hcmp
     ·rename_i e hu;obtain ⟨sz,hsz,hcmp⟩:=bA hcmp;obtain ⟨z,hzr,hcmp⟩:=bA hcmp;obtain ⟨ps,hps,hcmp⟩:=bA hcmp;split at hcmp
      ·rename_i hcond;cases hcmp;rw [hcio] at hev;simp only [zgj,zaj] at hev;have hgp:zb8 s ps=zb8 f ps:=by
        apply List.map_congr_left;intro q hq';rw [hysf q.2 (by simp only [zac.opds,hcio,zgj,IOp.opds]; exact List.mem_append_right _ (List.mem_map.mpr ⟨q,hq',rfl⟩))]
       have hgm:zb8 (mD l (AD l fun j=>listed.getD j false) (za2 l (PD l fun j=>listed.getD j false) st0) f m) ps=zb8 f ps:=by
        apply List.map_congr_left;intro q hq';rw [hgf q.2 (by simp only [zac.opds,hcio,zgj,IOp.opds]; exact List.mem_append_right _ (List.mem_map.mpr ⟨q,hq',rfl⟩))]
       rw [hgp] at hev;simp only [bB] at hev;obtain ⟨⟨es,st'⟩,hes,_⟩:=hev;have hsh:=(yd1 hes).2;obtain ⟨cells,h1,h2⟩:=qcc hs hop hu hsz hzr hps hcond.1 hcond.2.1 (by rw [hgm]; intro q hq'; have:=hsh q hq'; simpa [hcond.2.1] using this);refine go _ cells e h1 (by rw [hcio]; rfl) (by rw [hcio]; exact h2) ?_;intro t n' parts' e' q' hq' k hk1 hk2;have:=hk.uses ho ho e' hq' hk1 hk2;have:=hk.lt _ _ this;omega
      ·cases hcmp
     ·cases hcmp
    | _ =>
     have:=qhm (by rw [hop]; intro t e; cases e) (by rw [hop]; intro t n ps e; cases e) hcmp;rw [hcio,this] at hz; cases hz
  | false =>
   rw [hz] at hLz;have same : ∀ m R st,zaj m R st io.op=zaj m R st cio:=by
    intro m R st;rcases hcio with h | ⟨y,e1,e2⟩
    ·rw [hz] at h;simp only [Bool.false_eq_true,if_false] at h;rw [h]
    ·rw [e1,e2]; rfl
   obtain ⟨A,hA,hAi,hsA,hpre,hupA,hlzA,hlnA⟩ : ∃ A:Nat->Bool,(∀ j,AD l (fun j=>(listed.setIfInBounds i true).getD j false) j=if j=i then true else A j)/\A i=false/\Sg C ops l st0 f tr (fun j=>listed.getD j false) A a w /\
     (∀ j,pre i j=true->A j=true)/\(∀ j,A j=true->pre j i=false)/\(quiet io.op=true->∀ j,A j=true->Lz l j=true->∃ k,j<k/\Ln l k=true/\pre k i=false)/\(quiet io.op=false->∀ j,za7 l j=true->(A j=true↔j<i)):=by
    have hAi:AD l (fun j=>listed.getD j false) i=false:=by
     cases h1:AD l (fun j=>listed.getD j false) i with
     | false=>rfl
     | true=>have:=(zde.mp h1).1; rw [hnd] at this; cases this
    cases hqt:quiet io.op with
    | true =>
     have hLnf:Ln l i=false:=by
      cases e:Ln l i with
      | false=>rfl
      | true=>have:=(zi0.mp e).1; rw [hLd,hqt] at this; cases this
     refine ⟨AD l fun j=>listed.getD j false,fun j => ?_,hAi,hsg,fun j hj=>zde.mpr ⟨hpreD j hj,fun hzj => ?_⟩,fun j hj=>hupD j (zde.mp hj).1,fun _ j hj hzj => ?_,fun e=>by cases e⟩
     ·have key : ∀ k,Ln l k=true->(listed.setIfInBounds i true).getD k false=listed.getD k false:=by
       intro k hk';rw [hD',if_neg (by rintro rfl; rw [hLnf] at hk'; cases hk')]
      have eqv:AD l (fun j=>(listed.setIfInBounds i true).getD j false) j=true↔(if j=i then true else AD l (fun j=>listed.getD j false) j)=true:=by
       by_cases e:j=i
       ·rw [if_pos e,zde];exact ⟨fun _=>rfl,fun _=>⟨by rw [hD',if_pos e],fun h=>by rw [e,hLz] at h; cases h⟩⟩
       ·rw [if_neg e,zde,zde,hD',if_neg e];constructor
        ·rintro ⟨h1,h2⟩;exact ⟨h1,fun h=>by obtain ⟨k,h3,h4,h5⟩:=h2 h; exact ⟨k,h3,h4,by rw [<- key k h4]; exact h5⟩⟩
        ·rintro ⟨h1,h2⟩;exact ⟨h1,fun h=>by obtain ⟨k,h3,h4,h5⟩:=h2 h; exact ⟨k,h3,h4,by rw [key k h4]; exact h5⟩⟩
      exact Bool.eq_iff_iff.mpr eqv
     ·obtain ⟨_,h2⟩:=hk.lzP i j hzj hj;rcases h2 with h2 | ⟨k,h3,h4,h5⟩
      ·rw [hLd,hqt] at h2; cases h2
      ·exact ⟨k,h3,h4,hpreD k h5⟩
     ·obtain ⟨k,h3,h4,h5⟩:=(zde.mp hj).2 hzj;exact ⟨k,h3,h4,hupD k h5⟩
    | false =>
     have hLn:Ln l i=true:=zi0.mpr ⟨by rw [hLd,hqt]; rfl,hLz⟩;have hline : ∀ j,za7 l j=true->j<i->listed.getD j false=true:=fun j hj hji=>hpreD j (hk.chain j i hj hLn hji);have hat : ∀ j,za7 l j=true->(At l (fun j=>listed.getD j false) i j=true↔j<i):=by
      intro j hj;constructor
      ·intro ea;rcases zgx.mp ea with eb | ⟨_,eb⟩
       ·obtain ⟨e1,e2⟩:=zde.mp eb;rcases Nat.lt_trichotomy j i with h1 | h1 | h1
        ·exact h1
        ·subst h1; rw [hnd] at e1; cases e1
        ·cases hzj:Lz l j with
         | false =>
          have:=hupD j e1;rw [hk.chain i j (zi0.mp hLn).1 (zi0.mpr ⟨hj,hzj⟩) h1] at this; cases this
         | true =>
          obtain ⟨k,e3,e4,e5⟩:=e2 hzj;have:=hupD k e5;rw [hk.chain i k (zi0.mp hLn).1 e4 (by omega)] at this; cases this
       ·exact eb
      ·intro e;cases hzj:Lz l j with
       | true=>exact zgx.mpr (.inr ⟨hzj,e⟩)
       | false=>exact zgx.mpr (.inl (zde.mpr ⟨hline j hj e,fun e=>by rw [hzj] at e; cases e⟩))
     refine ⟨At l (fun j=>listed.getD j false) i,fun j => ?_,?_,yrn hk hrun hJ.closed hline hsg i (Nat.le_refl _),fun j hj => ?_,fun j hj => ?_,(fun e=>by cases e),fun _=>hat⟩
     ·refine Bool.eq_iff_iff.mpr ?_
      by_cases e:j=i
      ·rw [if_pos e,zde];exact ⟨fun _=>rfl,fun _=>⟨by rw [hD',if_pos e],fun h=>by rw [e,hLz] at h; cases h⟩⟩
      ·rw [if_neg e,zde,zgx,zde,hD',if_neg e];constructor
       ·rintro ⟨h1,h2⟩;cases hzj:Lz l j with
        | false=>exact .inl ⟨h1,fun e=>by cases e⟩
        | true =>
         obtain ⟨k,h3,h4,h5⟩:=h2 hzj;rw [hD'] at h5
         by_cases ek:k=i
         ·subst ek; exact .inr ⟨rfl,h3⟩
         ·rw [if_neg ek] at h5; exact .inl ⟨h1,fun _=>⟨k,h3,h4,h5⟩⟩
       ·rintro (⟨h1,h2⟩ | ⟨h1,h2⟩)
        ·exact ⟨h1,fun h=>by obtain ⟨k,h3,h4,h5⟩:=h2 h; exact ⟨k,h3,h4,by rw [hD']; split <;> first | rfl | exact h5⟩⟩
        ·exact ⟨hline j (z9u h1) h2,fun _=>⟨i,h2,hLn,by rw [hD',if_pos rfl]⟩⟩
     ·cases e:At l (fun j=>listed.getD j false) i i with
      | false=>rfl
      | true=>have:=(hat i (zi0.mp hLn).1).mp e; omega
     ·cases hzj:Lz l j with
      | false=>exact zgx.mpr (.inl (zde.mpr ⟨hpreD j hj,fun e=>by rw [hzj] at e; cases e⟩))
      | true=>exact zgx.mpr (.inr ⟨hzj,hk.lt _ _ hj⟩)
     ·rcases zgx.mp hj with e | ⟨e1,e2⟩
      ·exact hupD j (zde.mp e).1
      ·cases hp:pre j i with
       | false=>rfl
       | true=>have:=hk.lt _ _ hp; omega
   obtain ⟨g,m,blk,hm,hs,hp⟩:=hsA;have hAf:AD l (fun j=>(listed.setIfInBounds i true).getD j false)=fun j=>if j=i then true else A j:=funext hA
   have hPf:PD l (fun j=>(listed.setIfInBounds i true).getD j false)=fun j=>listed.getD j false && !A j:=by
    funext j
    unfold PD;rw [hA];show ((listed.setIfInBounds i true).getD j false && !if j=i then true else A j)=_;rw [hD']
    by_cases e:j=i
    ·rw [if_pos e,if_pos e,e,hnd]; rfl
    ·rw [if_neg e,if_neg e]
   have hs0 : ∀ (y:Opd) (j:Nat),Wrt l j y->pre j i=true->A j=false->y.get (za2 l (fun j=>listed.getD j false && !A j) st0)=y.get st0:=by
    intro y j hw hpj _;refine zps fun j' hw' => ?_;have:=hk.wrt hw hw';subst this;have hDj:listed.getD j false=false:=by
     cases e:listed.getD j false with
     | false=>rfl
     | true=>have:=hupD j e; rw [hpj] at this; cases this
    rw [hDj]; rfl
   obtain ⟨x,s,htr,hstep⟩:=ypp hk hrun hq (D:=A) hs0 hpre hupA hlzA hlnA hm;have hxd : ∀ d,io.dst=some d->d.opd.get f=x:=fun d hd=>yuq hrun hk.dst i _ d x s hq htr hd;have hput : ∀ m':St,(mD l A (za2 l (fun j=>listed.getD j false && !A j) st0) f m').put io.dst x=mD l (AD l fun j=>(listed.setIfInBounds i true).getD j false) (za2 l (PD l fun j=>(listed.setIfInBounds i true).getD j false) st0) f m':=by
    intro m';rw [hPf];exact ysj hk.dst hq hxd hA hAi
   have hPi:(listed.getD i false && !A i)=false:=by rw [hnd]; rfl
   have next : ∀ (m':St) (u:Value) (w':World) (g':Gh),(zbt l tr f)[(List.range l.length).countP fun j=>za7 l j && AD l (fun j=>(listed.setIfInBounds i true).getD j false) j]?=some m'->SR C a w' g' (mD l A (za2 l (fun j=>listed.getD j false && !A j) st0) f m')->zap w' g' (mD l A (za2 l (fun j=>listed.getD j false && !A j) st0) f m') x u ->
     (∀ b,(∃ j,(listed.getD j false && !A j)=true/\blk j=some b)->w'.heap[b]?=w.heap[b]?)->zaz C w' g' (mD l A (za2 l (fun j=>listed.getD j false && !A j) st0) f m') (fun x => ∃ j,(listed.getD j false && !A j)=true/\blk j=some x)->ShX w' g' (mD l A (za2 l (fun j=>listed.getD j false && !A j) st0) f m') (fun x => ∃ j,(listed.getD j false && !A j)=true/\blk j=some x) ->
     wpAny C.P md ops Q fuel (listed.setIfInBounds i true) (a.put o.dst u) w':=by
    intro m' u w' g' hm' hs' hv hb hL hSh;refine ih _ _ _ hcnt ⟨by simpa using hJ.size,hclosed,g',m',blk,hm',?_,?_⟩
    ·rw [<- hput m']; exact hs'.put hv hdst
    ·refine ⟨?_,?_,?_,?_⟩
     ·exact hSh.mem (by rw [<- hput m']; exact (zjp _ _ _).1) (by rw [<- hput m']; exact (zjp _ _ _).2.2) fun x hx=>by rw [hPf] at hx; exact hx
     ·exact hL.mem (by rw [<- hput m']; exact (zjp _ _ _).1) fun x hx=>by rw [hPf] at hx; exact hx
     ·rw [hPf]; exact hp.inj
     ·rw [hPf]; exact yus hk hp ho hPi hb (fun j hj=>hupD j (by simp only [Bool.and_eq_true] at hj; exact hj.1))
   have step : ∀ m':St,evG modes R (mD l A (za2 l (fun j=>listed.getD j false && !A j) st0) f m) io=some (x,mD l A (za2 l (fun j=>listed.getD j false && !A j) st0) f m')->(zbt l tr f)[(List.range l.length).countP fun j=>za7 l j && AD l (fun j=>(listed.setIfInBounds i true).getD j false) j]?=some m' ->
     if Region.wanted o (yielded ops a.tmps)=true then Oper.wp C.P o a w (wpAny C.P md ops Q fuel (listed.setIfInBounds i true)) Q\/(o.asks C.P a w/\LetsOut Q) else wpAny C.P md ops Q fuel (listed.setIfInBounds i true) (a.put o.dst undef) w:=by
    intro m' hev hm';unfold evG at hev;obtain ⟨t,ht,hev⟩:=bA hev;have hw:=z9i hs hg ht;cases t with
    | true =>
     simp only [if_true] at hev;rw [if_pos hw];refine .inl (yc9 (C:=C.now w g fun x => ∃ j,(listed.getD j false && !A j)=true/\blk j=some x) (hs.now hp.loose hp.sh) hR hcmp (by rw [<- same]; exact hev) _ _ fun u w' g' hs' hv => ?_);obtain ⟨g2,k1,go,k2,k3,k4⟩:=hs.thenNow hp.loose hs';exact next m' u w' g2 hm' k1 (hv.goes go) k2 k3 k4
    | false =>
     simp only [Bool.false_eq_true,if_false,bC,Prod.mk.injEq] at hev;rw [if_neg (by rw [hw]; simp)];obtain ⟨hx,hmm⟩:=hev;have hL:=hp.loose;have hSh:=hp.sh;rw [hmm] at hs hL hSh;refine next m' _ w g hm' hs ?_ (fun _ _=>rfl) hL hSh
     rw [<- hx]; exact (show zap w g _ (.v Go.undef) Go.undef from rfl)
   have hcl:(List.range l.length).countP (fun j=>za7 l j && AD l (fun j=>(listed.setIfInBounds i true).getD j false) j)=(List.range l.length).countP (fun j=>za7 l j && A j)+(if za7 l i then 1 else 0):=yea (p:=za7 l) hil hAi hA;rcases hstep with ⟨hqt,he⟩ | ⟨hqt,m',hm',he⟩
   ·refine step m he ?_;rw [hcl,hLd,hqt]; simpa using hm
   ·refine step m' he ?_;rw [hcl,hLd,hqt]; simpa using hm'
theorem qhz (hk:DOk C md ops l pre) (hrun:zdx modes R l [] [] st0 f tr) {a:Act} {w:World} {g:Gh} (h:SR C a w g st0):JD C ops l pre st0 f tr (Array.replicate ops.size false) a w:=by
 have hf : ∀ j,(Array.replicate ops.size false).getD j false=false:=by
  intro j;simp only [Array.getD_eq_getD_getElem?,Array.getElem?_replicate];split <;> rfl
 have hA : ∀ j,AD l (fun j=>(Array.replicate ops.size false).getD j false) j=false:=by
  intro j;cases e:AD l (fun j=>(Array.replicate ops.size false).getD j false) j with
  | false=>rfl
  | true=>have:=(zde.mp e).1; rw [hf] at this; cases this
 have hP : ∀ j,PD l (fun j=>(Array.replicate ops.size false).getD j false) j=false:=by
  intro j;unfold PD;show ((Array.replicate ops.size false).getD j false && _)=false;rw [hf]; rfl
 refine ⟨by simp [hk.len],fun i j h1 => ?_,g,?_⟩
 ·rw [hf] at h1; cases h1
 ·obtain ⟨m,h1,h2⟩:=z8j hrun;have hSR:SR C a w g (mD l (AD l fun j=>(Array.replicate ops.size false).getD j false) (za2 l (PD l fun j=>(Array.replicate ops.size false).getD j false) st0) f m):=by
   have hy : ∀ y:Opd,y.get (za2 l (PD l fun j=>(Array.replicate ops.size false).getD j false) st0)=y.get st0:=fun y=>zps fun j _=>hP j;have hV:VD l (AD l fun j=>(Array.replicate ops.size false).getD j false) (za2 l (PD l fun j=>(Array.replicate ops.size false).getD j false) st0).V f.V=st0.V:=by
    funext k
    have hyk:(za2 l (PD l fun j=>(Array.replicate ops.size false).getD j false) st0).V k=st0.V k:=hy (.V k)
    by_cases c : ∃ (j:Nat) (q:zac×Nat×Nat),l[j]?=some q/\q.1.dst=some (.V k)
    ·obtain ⟨j,q,h3,h4⟩:=c;unfold VD;rw [if_pos ⟨j,q,h3,h4,hA j⟩]; exact hyk
    ·rw [yb5 fun j q h3 h4=>(c ⟨j,q,h3,h4⟩).elim];exact zvb hrun (.V k) fun q hq d hd e=>c (by
      obtain ⟨j,hj⟩:=bH hq;refine ⟨j,q,hj,?_⟩;cases d with
      | V k'=>cases e; exact hd
      | E k'=>cases e)
   have hE:ED l (AD l fun j=>(Array.replicate ops.size false).getD j false) (za2 l (PD l fun j=>(Array.replicate ops.size false).getD j false) st0).E f.E=st0.E:=by
    funext k
    have hyk:(za2 l (PD l fun j=>(Array.replicate ops.size false).getD j false) st0).E k=st0.E k:=hy (.E k)
    by_cases c : ∃ (j:Nat) (q:zac×Nat×Nat),l[j]?=some q/\q.1.dst=some (.E k)
    ·obtain ⟨j,q,h3,h4⟩:=c;unfold ED;rw [if_pos ⟨j,q,h3,h4,hA j⟩]; exact hyk
    ·rw [ydx fun j q h3 h4=>(c ⟨j,q,h3,h4⟩).elim];exact zvb hrun (.E k) fun q hq d hd e=>c (by
      obtain ⟨j,hj⟩:=bH hq;refine ⟨j,q,hj,?_⟩;cases d with
      | E k'=>cases e; exact hd
      | V k'=>cases e)
   unfold mD;rw [hV,hE,h2.en];exact h
  refine ⟨m,fun _=>none,?_,hSR,⟨fun o sz es hs=>let ⟨Y,h1,hk,h2,h3,_⟩:=hSR.rel.shB o sz es hs; ⟨Y,h1,hk,h2,h3,fun x ⟨_,_,e⟩=>by cases e⟩,⟨?_,?_,?_,?_⟩,?_,?_⟩⟩
  rotate_left 1
  ·rintro o x _ _ ⟨j,e,_⟩; rw [hP] at e; cases e
  ·rintro x ⟨j,e,_⟩; rw [hP] at e; cases e
  ·rintro x ⟨j,e,_⟩; rw [hP] at e; cases e
  ·rintro x ⟨j,e,_⟩; rw [hP] at e; cases e
  ·intro j j' x e; rw [hP] at e; cases e
  ·intro j o q e; rw [hP] at e; cases e
  ·have:(List.range l.length).countP (fun j=>za7 l j && AD l (fun j=>(Array.replicate ops.size false).getD j false) j)=0:=List.countP_eq_zero.mpr fun j _=>by rw [hA]; simp
   rw [this]; exact h1
end
end Go.Pe
namespace Go.Pe
open Go
variable {i:Nat} {l':Array Bool}
theorem qgb {ord:List Nat} : ∀ {i j:Nat},i∈ord->j∈ord->ord.idxOf i=ord.idxOf j->i=j:=by
 intro i j hi hj e;have h1:=List.getElem_idxOf (List.idxOf_lt_length_of_mem hi);have h2:=List.getElem_idxOf (List.idxOf_lt_length_of_mem hj);rw [<- h1,<- h2];simp only [e]
structure Prm (ops:Array Oper) (ord:List Nat):Prop where
 len:ord.length=ops.size
 all : ∀ i,i<ops.size->i∈ord
 lt : ∀ i∈ord,i<ops.size
 idx : ∀ k,k<ops.size->ord.idxOf (ord.getD k 0)=k
theorem qce {ops:Array Oper} {ord:List Nat} (h:z7x ops.size ord=true):Prm ops ord:=by
 unfold z7x at h;simp only [Bool.and_eq_true,beq_iff_eq,List.all_eq_true,List.mem_range,List.contains_iff_mem,decide_eq_true_eq] at h;exact ⟨h.1.1.1,h.1.1.2,h.1.2,h.2⟩
section
variable {P:Program} {ops:Array Oper} {ord:List Nat} {md:Region.Mode} {Q:Exit->Act->World->Prop}
theorem Prm.pos_lt (H:Prm ops ord) (hi:i<ops.size):ord.idxOf i<ops.size:=by
 rw [<- H.len]; exact List.idxOf_lt_length_of_mem (H.all i hi)
theorem Prm.size (H:Prm ops ord):(zge ops ord).size=ops.size:=by simp [zge,H.len]
theorem Prm.get (H:Prm ops ord) {o:Oper} (h:ops[i]?=some o):(zge ops ord)[ord.idxOf i]?=some (z9f ord o):=by
 have hi:i<ops.size:=(Array.getElem?_eq_some_iff.mp h).1;have hp:ord.idxOf i<ord.length:=List.idxOf_lt_length_of_mem (H.all i hi);have hg:ord[ord.idxOf i]?=some i:=by rw [bG hp,List.getElem_idxOf hp]
 unfold zge;rw [List.getElem?_toArray,List.getElem?_map,hg];simp only [Option.map_some,Array.getD_eq_getD_getElem?,h,Option.getD_some]
theorem Prm.none (H:Prm ops ord) (h:ops[i]?=none):(zge ops ord)[ord.idxOf i]?=none:=by
 have hi:ops.size<=i:=Array.getElem?_eq_none_iff.mp h;have hn:i ∉ ord:=fun hm=>by have:=H.lt i hm; omega
 rw [Array.getElem?_eq_none_iff,H.size,List.idxOf_eq_length hn,H.len];exact Nat.le_refl _
structure Lst (ops:Array Oper) (ord:List Nat) (l l':Array Bool):Prop where
 s:l.size=ops.size
 s':l'.size=ops.size
 g : ∀ i,l'[ord.idxOf i]?=l[i]?
theorem Lst.set (H:Prm ops ord) {l l':Array Bool} (h:Lst ops ord l l') (hi:i<ops.size):Lst ops ord (l.setIfInBounds i true) (l'.setIfInBounds (ord.idxOf i) true):=by
 refine ⟨by simp [h.s],by simp [h.s'],fun j => ?_⟩;rw [Array.getElem?_setIfInBounds,Array.getElem?_setIfInBounds,h.s,h.s',if_pos (H.pos_lt hi),if_pos hi]
 by_cases e:i=j
 ·subst e; simp
 ·rw [if_neg e,if_neg fun e2=>e ?_,h.g j]
  by_cases hj:j<ops.size
  ·exact qgb (H.all i hi) (H.all j hj) e2
  ·have h1:=H.pos_lt hi;rw [e2,List.idxOf_eq_length fun hm=>hj (H.lt j hm),H.len] at h1;omega
theorem Lst.get {l l':Array Bool} (h:Lst ops ord l l') (i:Nat) (d:Bool):l'.getD (ord.idxOf i) d=l.getD i d:=by
 rw [Array.getD_eq_getD_getElem?,Array.getD_eq_getD_getElem?,h.g i]
theorem yes (H:Prm ops ord) {l l':Array Bool} (h:Lst ops ord l l'):i∈Region.ready md ops l↔ord.idxOf i∈Region.ready md (zge ops ord) l':=by
 rw [mem_ready,mem_ready,h.get];refine and_congr Iff.rfl ⟨fun ⟨o,h1,h2⟩=>⟨_,H.get h1,fun e he hb => ?_⟩,fun ⟨o',h1,h2⟩ => ?_⟩
 ·obtain ⟨e',h3,rfl⟩:=Array.mem_map.mp he;show l'.getD (ord.idxOf e'.on) false=true;rw [h.get];exact h2 e' h3 hb
 ·cases ho:ops[i]? with
  | none=>rw [H.none ho] at h1; cases h1
  | some o =>
   rw [H.get ho] at h1;cases h1;refine ⟨o,rfl,fun e he hb => ?_⟩;have:=h2 (yo5 ord e) (Array.mem_map.mpr ⟨e,he,rfl⟩) hb;rw [<- h.get];exact this
theorem qcq (H:Prm ops ord) {k:Nat} (h:k∈Region.ready md (zge ops ord) l') : ∃ i,i<ops.size/\k=ord.idxOf i:=by
 obtain ⟨_,o,ho,_⟩:=mem_ready.mp h;have hk:=(Array.getElem?_eq_some_iff.mp ho).1;rw [H.size] at hk;refine ⟨ord.getD k 0,H.lt _ ?_,(H.idx k hk).symm⟩;have hl:k<ord.length:=by rw [H.len]; exact hk
 rw [List.getD_eq_getElem?_getD,bG hl];exact List.getElem_mem hl
theorem qht (H:Prm ops ord) {K:Act->World->Prop} {a:Act} {w:World} (h:wpOp P (zge ops ord) Q (ord.idxOf i) K a w):wpOp P ops Q i K a w:=by
 have hy : ∀ o:Oper,Region.wanted (z9f ord o) (yielded (zge ops ord) a.tmps)=Region.wanted o (yielded ops a.tmps):=by
  intro o;unfold Region.wanted z9f;cases o.guard with
  | none=>rfl
  | some g =>
   simp only [Option.map_some];unfold yielded;cases hg:ops[g.1]? with
   | none=>rw [H.none hg]
   | some o'=>rw [H.get hg]; rfl
 unfold wpOp at *;cases ho:ops[i]? with
 | none=>rw [H.none ho] at h; exact h
 | some o =>
  rw [H.get ho] at h;simp only [hy] at h ⊢;exact h
theorem qex (H:Prm ops ord) : ∀ (fuel:Nat) {l l':Array Bool} (a:Act) (w:World),Lst ops ord l l'->wpAny P md (zge ops ord) Q fuel l' a w->wpAny P md ops Q fuel l a w:=by
 have none_of : ∀ {l l':Array Bool},Lst ops ord l l'->Region.ready md (zge ops ord) l'=[]->Region.ready md ops l=[]:=fun hl h=>List.eq_nil_iff_forall_not_mem.mpr fun i hi=>by
  have:=(yes H hl).mp hi;rw [h] at this; cases this
 intro fuel
 induction fuel with
 | zero=>intro l l' a w hl h; exact ⟨none_of hl h.1,h.2⟩
 | succ fuel ih =>
  intro l l' a w hl h;refine ⟨fun h0=>h.1 (List.eq_nil_iff_forall_not_mem.mpr fun k hk => ?_),fun i hi => ?_⟩
  ·obtain ⟨i,_,rfl⟩:=qcq H hk;have:=(yes H hl).mpr hk;rw [h0] at this; cases this
  ·have hi':i<ops.size:=by
    obtain ⟨_,o,ho,_⟩:=mem_ready.mp hi;exact (Array.getElem?_eq_some_iff.mp ho).1
   exact wpOp_mono (fun a w=>ih a w (hl.set H hi')) (qht H (h.2 _ ((yes H hl).mp hi)))
end
theorem qdk {P:Program} {ops:Array Oper} {ord:List Nat} {md:Region.Mode} {Q:Exit->Act->World->Prop} (hp:z7x ops.size ord=true) {a:Act} {w:World} (h:wpAny P md (zge ops ord) Q (zge ops ord).size (Array.replicate (zge ops ord).size false) a w):wpAny P md ops Q ops.size (Array.replicate ops.size false) a w:=by
 have H:=qce hp;rw [H.size] at h;refine qex H ops.size a w ⟨by simp,by simp,fun i => ?_⟩ h;rw [Array.getElem?_replicate,Array.getElem?_replicate]
 by_cases hi:i<ops.size
 ·rw [if_pos hi,if_pos (H.pos_lt hi)]
 ·rw [if_neg hi,if_neg ?_];rw [List.idxOf_eq_length fun hm=>hi (H.lt i hm),H.len];omega
end Go.Pe
namespace Go.Pe
open Go
variable {ms:List Nat} {j i:Nat} {ops:Array Oper} {ios:List zac}
theorem ybr : ∀ {es:List Edge},(znd ms es).testBit j=true->∃ e∈es,Region.binds .any e=true/\(e.on=j\/(ms.getD e.on 0).testBit j=true)
 | [],h=>by simp [znd] at h
 | e::es,h=>by
  simp only [znd] at h;split at h
  ·rename_i hb;simp only [Nat.testBit_or,Bool.or_eq_true] at h;rcases h with (h | h) | h
   ·rw [Nat.testBit_two_pow] at h;exact ⟨e,List.mem_cons_self,hb,.inl (by simpa using h)⟩
   ·exact ⟨e,List.mem_cons_self,hb,.inr h⟩
   ·obtain ⟨e',h1,h2,h3⟩:=ybr h;exact ⟨e',List.mem_cons_of_mem _ h1,h2,h3⟩
  ·obtain ⟨e',h1,h2,h3⟩:=ybr h;exact ⟨e',List.mem_cons_of_mem _ h1,h2,h3⟩
theorem yd4 : ∀ {os:List Oper} {ms:List Nat} {k v:Nat},ms[k]?=some v->(zb7 os ms)[k]?=some v
 | [],_,_,_,h=>h
 | o::os,ms,k,v,h=>by
  simp only [zb7];refine yd4 ?_;rw [List.getElem?_append_left (bD h).1]; exact h
theorem yt8 : ∀ (os:List Oper) (ms:List Nat),(zb7 os ms).length=ms.length+os.length
 | [],_=>rfl
 | o::os,ms=>by simp only [zb7,yt8 os,List.length_append,List.length_cons,List.length_nil]; omega
theorem yq0 : ∀ {os:List Oper} {ms:List Nat} {k:Nat} {o:Oper},os[k]?=some o->∃ ms':List Nat,(∀ (j v:Nat),ms'[j]?=some v->(zb7 os ms)[j]?=some v)/\(zb7 os ms)[ms.length+k]?=some (znd ms' o.after.toList)
 | [],_,_,_,h=>by simp at h
 | o0::os,ms,0,o,h=>by
  simp only [List.getElem?_cons_zero,bC] at h;subst h;refine ⟨ms,fun j v hj=>yd4 hj,?_⟩;simp only [zb7];exact yd4 (by simp)
 | o0::os,ms,k+1,o,h=>by
  simp only [List.getElem?_cons_succ] at h;obtain ⟨ms',h1,h2⟩:=yq0 (ms:=ms++[znd ms o0.after.toList]) h;refine ⟨ms',h1,?_⟩;simp only [zb7];rw [<- h2]; congr 1; simp; omega
theorem yrv {ops:List Oper} (h:ze5 (zb7 ops []) i j=true) : ∃ o e,ops[i]?=some o/\e∈o.after.toList/\Region.binds .any e=true/\(e.on=j\/ze5 (zb7 ops []) e.on j=true):=by
 unfold ze5 at h;have hi:i<ops.length:=by
  rw [List.getD_eq_getElem?_getD] at h;cases hx:(zb7 ops [])[i]? with
  | none=>rw [hx] at h; simp at h
  | some v=>have:=(bD hx).1; rw [yt8] at this; simpa using this
 obtain ⟨ms',h1,h2⟩:=yq0 (ms:=[]) (bG hi);simp only [List.length_nil,Nat.zero_add] at h2;rw [List.getD_eq_getElem?_getD,h2] at h;simp only [Option.getD_some] at h;obtain ⟨e,he,hb,hon⟩:=ybr h;refine ⟨ops[i],e,bG hi,he,hb,?_⟩;rcases hon with hon | hon
 ·exact .inl hon
 ·refine .inr ?_;unfold ze5;rw [List.getD_eq_getElem?_getD] at hon ⊢;cases hx:ms'[e.on]? with
  | none=>rw [hx] at hon; simp at hon
  | some v=>rw [h1 _ _ hx]; rw [hx] at hon; exact hon
theorem yuc {α:Type} {f:α->Option Nat} : ∀ {l:List α},zev (l.filterMap f)=true->∀ {i j:Nat} {p q:α} {c:Nat},l[i]?=some p->l[j]?=some q->f p=some c->f q=some c->i=j
 | [],_,i,j,p,q,c,h,_,_,_=>by simp at h
 | x::l,hn,i,j,p,q,c,hi,hj,hp,hq=>by
  have notin : ∀ {c:Nat} {y:α},f x=some c->y∈l->f y=some c->False:=by
   intro c y hx hy hy';rw [List.filterMap_cons_some hx] at hn;simp only [zev,Bool.and_eq_true,Bool.not_eq_true',List.any_eq_false] at hn;exact hn.1 c (List.mem_filterMap.mpr ⟨y,hy,hy'⟩) (by simp)
  have tl:zev (l.filterMap f)=true:=by
   cases hx:f x with
   | none=>rw [List.filterMap_cons_none hx] at hn; exact hn
   | some c=>rw [List.filterMap_cons_some hx] at hn; simp only [zev,Bool.and_eq_true] at hn; exact hn.2
  cases i with
  | zero =>
   simp only [List.getElem?_cons_zero,bC] at hi;subst hi;cases j with
   | zero=>rfl
   | succ j=>simp only [List.getElem?_cons_succ] at hj; exact (notin hp (bF hj) hq).elim
  | succ i =>
   simp only [List.getElem?_cons_succ] at hi;cases j with
   | zero =>
    simp only [List.getElem?_cons_zero,bC] at hj;subst hj;exact (notin hq (bF hi) hp).elim
   | succ j =>
    simp only [List.getElem?_cons_succ] at hj;exact congrArg Nat.succ (yuc tl hi hj hp hq)
theorem ydi {d:Dst}:d.opd.code=some d.code:=by cases d <;> rfl
theorem z9e {md:Region.Mode} {rk:Nat->Nat} (h:zpv md rk ops.toList=true) {listed:Array Bool} (hs:listed.size=ops.size) (hr:Region.ready md ops listed=[]) : ∀ j,j<ops.size->listed.getD j false=true:=by
 have key : ∀ r j,rk j<r->j<ops.size->listed.getD j false=true:=by
  intro r
  induction r with
  | zero=>intro j hj; omega
  | succ r ih =>
   intro j hj hlt;cases hx:listed.getD j false with
   | true=>rfl
   | false =>
    have:j∈Region.ready md ops listed:=by
     refine mem_ready.mpr ⟨?_,ops[j],Array.getElem?_eq_getElem hlt,fun e he hb => ?_⟩
     ·rw [Array.getD_eq_getD_getElem?,Array.getElem?_eq_getElem (by omega)] at hx ⊢;simpa using hx
     ·unfold zpv at h;rw [List.all_eq_true] at h;have h1:=h (ops[j],j) (List.mem_zipIdx_iff_getElem?.mpr (by simp [Array.getElem?_toList]));rw [List.all_eq_true] at h1;have h2:=h1 e (by simpa using he);rw [hb] at h2;simp only [Bool.not_true,Bool.false_or,Bool.and_eq_true,decide_eq_true_eq] at h2;exact ih _ (by omega) (by simpa using h2.1)
    rw [hr] at this;simp at this
 exact fun j hj=>key (rk j+1) j (by omega) hj
theorem yq1 {md md':Region.Mode} {rk:Nat->Nat} {ops:List Oper} (hle : ∀ o∈ops,∀ e∈o.after.toList,Region.binds md' e=true->Region.binds md e=true) (h:zpv md rk ops=true):zpv md' rk ops=true:=by
 unfold zpv at h ⊢;rw [List.all_eq_true] at h ⊢;intro q hq;have h1:=h q hq;rw [List.all_eq_true] at h1 ⊢;intro e he;have h2:=h1 e he;simp only [Bool.or_eq_true,Bool.not_eq_true'] at h2 ⊢;rcases h2 with h2 | h2
 ·refine .inl ?_;cases hx:Region.binds md' e with
  | false=>rfl
  | true =>
   have hmem:q.1∈ops:=by
    have:=List.mem_zipIdx_iff_getElem?.mp hq;exact bF this
   rw [hle q.1 hmem e he hx] at h2; cases h2
 ·exact .inr h2
theorem yob {e:Edge} (h:Region.binds .any e=true) (md:Region.Mode):Region.binds md e=true:=by
 unfold Region.binds at h ⊢;split at h <;> simp_all
theorem yrx {P:Program} {vars:List Nat} {nt:Nat} : ∀ {os:List Oper} {ios:List zac},zis P vars nt ops os=some ios->ios.length=os.length/\∀ (i:Nat) (o:Oper) (io:zac),os[i]?=some o->ios[i]?=some io->zvh P vars nt ops o=some io
 | [],ios,h=>by
  simp only [zis,bC] at h;subst h;exact ⟨rfl,fun i o io h=>by simp at h⟩
 | o::os,ios,h=>by
  simp only [zis] at h;obtain ⟨x,h1,h2⟩:=bA h;simp only [bB] at h2;obtain ⟨xs,h3,rfl⟩:=h2;obtain ⟨h4,h5⟩:=yrx h3;refine ⟨by simp [h4],fun i o' io hi hio => ?_⟩;cases i with
  | zero=>simp at hi hio; subst hi; subst hio; exact h1
  | succ i=>simp at hi hio; exact h5 i o' io hi hio
theorem zjv {q:zac×Nat×Nat}:(bws ms ios)[i]?=some q↔∃ o,ios[i]?=some o/\q=(o,bOf ms ios o i,wOf ms ios o i):=by
 unfold bws;simp only [List.getElem?_map,List.getElem?_zipIdx,Option.map_map,Nat.zero_add];cases ios[i]? with
 | none=>simp
 | some o=>simp [eq_comm]
theorem ynv (j:Nat):za7 (bws ms ios) j=zey ios j:=by
 unfold za7 zey;cases hx:ios[j]? with
 | none =>
  have:(bws ms ios)[j]?=none:=by
   cases hy:(bws ms ios)[j]? with
   | none=>rfl
   | some q=>obtain ⟨o,ho,_⟩:=zjv.mp hy; rw [hx] at ho; cases ho
  rw [this]
 | some o=>rw [zjv.mpr ⟨o,hx,rfl⟩]
theorem yq6:(bws ms ios).length=ios.length:=by simp [bws]
def NoL (x:Option IOp):Prop := ∀ io,x=some io->zeu io=false
theorem NoL.none:NoL Option.none:=fun _ h=>by cases h
theorem NoL.some {io:IOp} (h:zeu io=false):NoL (Option.some io):=fun _ e=>by cases e; exact h
theorem NoL.bind {α:Type} {x:Option α} {k:α->Option IOp} (h : ∀ a,NoL (k a)):NoL (x.bind k):=fun io e=>by
 obtain ⟨a,_,e⟩:=bA e;exact h a io e
theorem NoL.map {α:Type} {x:Option α} {k:α->IOp} (h : ∀ a,zeu (k a)=false):NoL (x.map k):=fun io e=>by
 obtain ⟨a,_,rfl⟩:=bB.mp e;exact h a
theorem qcf {P:Program} {vars:List Nat} {o:Op} {io:IOp} (h:zbv P vars o=some io):zeu io=false:=by
 revert h
 suffices hh:NoL (zbv P vars o) from fun h=>hh io h
 cases o with
 | _ =>
  simp only [zbv,zzc]
  repeat' first
   | exact NoL.none
   | exact NoL.some rfl
   | exact NoL.map fun _=>rfl
   | refine NoL.bind fun _ => ?_
   | (rename_i heq; cases heq; done)
   | split
theorem qbw {x:zac}:(z76 ms ios)[i]?=some x↔∃ o,ios[i]?=some o/\x=if z7y o.op && (List.range i).any (fun j=>zey ios j && !ze5 ms i j) then { o with op:=zgj o.op } else o:=by
 unfold z76;rw [List.getElem?_map,List.getElem?_zipIdx,Option.map_map];cases ios[i]? with
 | none=>simp
 | some o =>
  simp only [Option.map_some,Function.comp,Nat.zero_add,bC];constructor
  ·intro h; exact ⟨o,rfl,h.symm⟩
  ·rintro ⟨o',e,h⟩; cases e; exact h.symm
theorem ypg {o:IOp} (h:z7y o=true):zeu (zgj o)=true:=by cases o <;> first | rfl | cases h
theorem yoh (j:Nat):Lz (bws ms ios) j=lzB ios j:=by
 unfold Lz lzB;cases hx:ios[j]? with
 | none =>
  have:(bws ms ios)[j]?=none:=by
   cases hy:(bws ms ios)[j]? with
   | none=>rfl
   | some q=>obtain ⟨o,ho,_⟩:=zjv.mp hy; rw [hx] at ho; cases ho
  rw [this]
 | some o=>rw [zjv.mpr ⟨o,hx,rfl⟩]
theorem qh5 (j:Nat):Ln (bws ms ios) j=zk2 ios j:=by
 unfold Ln zk2;rw [ynv,yoh]
theorem yo0 (h:zey ios j=true):j<ios.length:=by
 unfold zey at h;cases hx:ios[j]? with
 | none=>rw [hx] at h; cases h
 | some o=>exact (bD hx).1
theorem yun (h:lzB ios j=true):j<ios.length:=by
 unfold lzB at h;cases hx:ios[j]? with
 | none=>rw [hx] at h; cases h
 | some o=>exact (bD hx).1
theorem qhb {b:Bool} {x:zac} (h:(z8s b ms ios)[i]?=some x) : ∃ o,ios[i]?=some o/\x.guard=o.guard/\x.dst=o.dst/\(x.op=o.op\/∃ y,o.op = .mv y/\x.op = .mvL y):=by
 unfold z8s at h;rw [List.getElem?_map] at h;simp only [bB] at h;obtain ⟨q,h1,rfl⟩:=h;have h2:=List.mem_zipIdx_iff_getElem?.mp (bF h1);have h3:ios.zipIdx[i]?=(ios[i]?).map fun o=>(o,i):=by simp
 rw [h3] at h1;simp only [bB] at h1;obtain ⟨o,h4,rfl⟩:=h1;refine ⟨o,h4,?_⟩;split
 ·refine ⟨rfl,rfl,?_⟩;simp only;cases e:o.op with
  | mv y=>exact .inr ⟨y,rfl,rfl⟩
  | _=>exact .inl rfl
 ·exact ⟨rfl,rfl,.inl rfl⟩
theorem qf1 {C:Ctx} {ops:Array Oper} {ios0:List zac} (hc:zis C.P C.vars C.nt ops ops.toList=some ios0) {b:Bool} {rk:Nat->Nat} (hk:dOk rk ops.toList (zji b (zb7 ops.toList []) ios0) (zb7 ops.toList [])=true) (md:Region.Mode):DOk C md ops (bws (zb7 ops.toList []) (zji b (zb7 ops.toList []) ios0)) (ze5 (zb7 ops.toList [])):=by
 unfold dOk at hk;simp only [Bool.and_eq_true] at hk;obtain ⟨⟨⟨⟨⟨⟨hlt,hnd⟩,hop⟩,hch⟩,hlk⟩,htx⟩,hgc⟩:=hk;obtain ⟨hlen0,hget⟩:=yrx hc;have hlz : ∀ (i:Nat) (x:zac),(zji b (zb7 ops.toList []) ios0)[i]?=some x->∃ o,ios0[i]?=some o/\x.guard=o.guard/\x.dst=o.dst/\(x.op=o.op\/(z7y o.op=true/\x.op=zgj o.op)\/∃ y,o.op = .mv y/\x.op = .mvL y):=by
  intro i x' hx';obtain ⟨x,hx,e1,e2,e3⟩:=qhb hx';obtain ⟨o,h1,h2⟩:=qbw.mp hx;refine ⟨o,h1,?_⟩;split at h2
  ·rename_i hcd;subst h2;simp only [Bool.and_eq_true] at hcd;refine ⟨e1,e2,.inr (.inl ⟨hcd.1,?_⟩)⟩;rcases e3 with e3 | ⟨y,e3,_⟩
   ·exact e3
   ·have e4:zgj o.op = .mv y:=e3;have:=ypg hcd.1;rw [e4] at this; cases this
  ·subst h2;refine ⟨e1,e2,?_⟩;rcases e3 with e3 | e3
   ·exact .inl e3
   ·exact .inr (.inr e3)
 generalize hios:zji b (zb7 ops.toList []) ios0=ios at hlz hnd hop hch hlk htx hgc ⊢;have hlen:ios.length=ops.toList.length:=by rw [<- hlen0,<- hios]; simp [zji,z8s,z76]
 have hL:za7 (bws (zb7 ops.toList []) ios)=zey ios:=funext ynv;have hLn:Ln (bws (zb7 ops.toList []) ios)=zk2 ios:=funext qh5;have hLZ:Lz (bws (zb7 ops.toList []) ios)=lzB ios:=funext yoh;refine ⟨by rw [yq6,hlen]; simp,?_,?_,?_,?_,?_,?_,?_,?_,?_,?_⟩
 ·intro i o q hi hq;obtain ⟨x,hx,rfl⟩:=zjv.mp hq;obtain ⟨io,hio,hg,hdd,hoo⟩:=hlz i x hx;have h1:=hget i o io (by rw [Array.getElem?_toList]; exact hi) hio;simp only [zvh] at h1;obtain ⟨iop,h3,h1⟩:=bA h1;obtain ⟨d,h4,h1⟩:=bA h1;simp only [bB] at h1;obtain ⟨ig,h5,rfl⟩:=h1;refine ⟨by rw [hg]; exact h5,⟨iop,h3,?_⟩,by rw [hdd]; exact h4⟩;rcases hoo with e | ⟨e1,e⟩ | e
  ·rw [e,qcf h3]; exact .inl rfl
  ·rw [e,ypg e1]; exact .inl rfl
  ·exact .inr e
 ·intro i j hij;unfold ze5 at hij;rw [List.all_eq_true] at hlt
  by_cases hi:i<(zb7 ops.toList []).length
  ·have:=hlt i (List.mem_range.mpr hi);simp only [decide_eq_true_eq] at this;refine Nat.lt_of_not_le fun hle => ?_;rw [Nat.testBit_lt_two_pow (Nat.lt_of_lt_of_le this (Nat.pow_le_pow_right (by omega) hle))] at hij;cases hij
  ·rw [List.getD_eq_getElem?_getD,List.getElem?_eq_none (by omega)] at hij;simp at hij
 ·intro i j p q d d' hp hq hd hd' he;obtain ⟨o,ho,rfl⟩:=zjv.mp hp;obtain ⟨o',ho',rfl⟩:=zjv.mp hq;simp only at hd hd';refine yuc hnd (c:=d.code) ho ho' (by simp [zx8,hd]) ?_;have:d.code=d'.code:=by
   have:=congrArg Opd.code he;rw [ydi,ydi] at this;exact Option.some.inj this
  simp [zx8,hd',this]
 ·intro i j p q d hp hq hd hm;obtain ⟨o,ho,rfl⟩:=zjv.mp hp;obtain ⟨o',ho',rfl⟩:=zjv.mp hq;simp only at hd hm;unfold ynf at hop;rw [List.all_eq_true] at hop;have h1:=hop (o,i) (List.mem_zipIdx_iff_getElem?.mpr ho);rw [List.all_eq_true] at h1;have h2:=h1 _ hm;rw [ydi] at h2;simp only at h2;rw [List.all_eq_true] at h2;have h3:=h2 (o',j) (List.mem_zipIdx_iff_getElem?.mpr ho');simp only [zx8,hd,Option.map_some,beq_self_eq_true,Bool.not_true,Bool.false_or,Bool.or_eq_true,Bool.and_eq_true] at h3;exact h3
 ·intro i j hi hj hij;rw [hL] at hi;rw [hLn] at hj;unfold ysf at hch;rw [List.all_eq_true] at hch;have hjl:j<ios.length:=yo0 (by unfold zk2 at hj; simp only [Bool.and_eq_true] at hj; exact hj.1);have h1:=hch j (List.mem_range.mpr hjl);rw [hj] at h1;simp only [Bool.not_true,Bool.false_or] at h1;rw [List.all_eq_true] at h1;have h2:=h1 i (List.mem_range.mpr hij);rw [hi] at h2;simpa using h2
 ·intro j hj;rw [hLZ] at hj;unfold ydo at hlk;rw [List.all_eq_true] at hlk;have h1:=hlk j (List.mem_range.mpr (yun hj));rw [hj] at h1;simp only [Bool.not_true,Bool.false_or,Bool.and_eq_true,List.any_eq_true,decide_eq_true_eq] at h1;obtain ⟨⟨k,_,h2,h3⟩,_⟩:=h1;exact ⟨k,h2,by rw [hLn]; exact h3⟩
 ·intro i j hj hij;rw [hLZ] at hj;unfold ydo at hlk;rw [List.all_eq_true] at hlk;have h1:=hlk j (List.mem_range.mpr (yun hj));rw [hj] at h1;simp only [Bool.not_true,Bool.false_or,Bool.and_eq_true] at h1;obtain ⟨_,h1⟩:=h1;rw [List.all_eq_true] at h1;obtain ⟨o,e,h2,_⟩:=yrv hij;have hil:i<ios.length:=by rw [hlen]; exact (bD h2).1
  have h3:=h1 i (List.mem_range.mpr hil);rw [hij] at h3;simp only [Bool.not_true,Bool.false_or,Bool.and_eq_true,Bool.not_eq_true',Bool.or_eq_true,List.any_eq_true,decide_eq_true_eq] at h3;obtain ⟨h4,h5⟩:=h3;refine ⟨by rw [hLZ]; exact h4,?_⟩;rcases h5 with h5 | ⟨k,_,⟨h6,h7⟩,h8⟩
  ·exact .inl (by rw [hL]; exact h5)
  ·exact .inr ⟨k,h6,by rw [hLn]; exact h7,h8⟩
 ·intro i j hij;obtain ⟨o,e,h1,h2,h3,h4⟩:=yrv hij;exact ⟨o,e,by rw [<- Array.getElem?_toList]; exact h1,by simpa using h2,yob h3 md,h4⟩
 ·intro listed hs hr;cases md with
  | text=>exact z9e htx hs hr
  | any=>exact z9e (yq1 (fun o _ e _ hb=>yob hb .text) htx) hs hr
  | gc =>
   simp only [Bool.or_eq_true,Bool.not_eq_true'] at hgc;rcases hgc with hgc | hgc
   ·refine z9e (yq1 (fun o ho e he hb => ?_) htx) hs hr;unfold yqq at hgc;rw [List.any_eq_false] at hgc;have h1:=hgc o ho;simp only [Bool.not_eq_true,List.any_eq_false] at h1;have h2:=h1 e he;unfold yqk at h2;unfold Region.binds at hb ⊢;split <;> simp_all
   ·exact z9e hgc hs hr
 ·intro i o b w hi hq;obtain ⟨o',ho,he⟩:=zjv.mp hi;cases he;cases hp:zgm o.op with
  | true=>exact .inl rfl
  | false =>
   refine .inr fun A hA1 hA2 hA3 => ?_;rw [z9t,hL,yq6];unfold bOf wOf;rw [hq,hp];simp only [Bool.not_false,Bool.and_self,if_true];have g1:(List.range ios.length).countP (fun j=>zey ios j && ze5 (zb7 ops.toList []) i j)<=(List.range ios.length).countP (fun j=>zey ios j && A j):=yu8 (fun j hj=>by
    simp only [Bool.and_eq_true] at hj ⊢; exact ⟨hj.1,hA1 j hj.2⟩) _
   have g2:(List.range ios.length).countP (fun j=>zey ios j && A j)<=(List.range ios.length).countP (fun j=>zey ios j && upB (zb7 ops.toList []) ios i j):=yu8 (fun j hj=>by
    simp only [Bool.and_eq_true] at hj ⊢;refine ⟨hj.1,?_⟩;unfold upB;simp only [Bool.and_eq_true,Bool.not_eq_true',Bool.or_eq_true,List.any_eq_true,decide_eq_true_eq];refine ⟨hA2 j hj.2,?_⟩;cases hz:lzB ios j with
    | false=>exact .inl rfl
    | true =>
     obtain ⟨k,h1,h2,h3⟩:=hA3 j hj.2 (by rw [hLZ]; exact hz);rw [hLn] at h2;exact .inr ⟨k,List.mem_range.mpr (yo0 (by unfold zk2 at h2; simp only [Bool.and_eq_true] at h2; exact h2.1)),⟨h1,h2⟩,h3⟩) _
   omega
theorem SR.drew {C:Ctx} {a:Act} {w:World} {g:Gh} {st:St} (h:SR C a w g st) {n:Nat}:SR C a { w with drawn:=n } g st:=by
 have hg:zaq w g st { w with drawn:=n } g st:=⟨Nat.le_refl _,Nat.le_refl _,fun _ _ _ _ _ _ es' h=>⟨es',h,rfl,rfl⟩,fun _ _ cs' h=>⟨⟨cs',h⟩,rfl⟩,fun _ h=>h,fun _ _=>rfl⟩;have r:=h.rel;refine ⟨⟨fun o b hb => ?_,r.sep,r.nz,r.lt,r.zlt,r.nxt,fun o sz es e ho=>⟨(r.shd o sz es e ho).1,fun he => ?_⟩⟩,fun k hk=>(h.tv k hk).goes hg,fun k hk=>(h.te k hk).goes hg,h.nt,h.df,h.os,h.tape,h.output,h.size,h.old,h.own,h.zin,h.z0,h.hv,h.n0,h.kk⟩
 ·have:=r.ob o b hb;cases b with
  | row sz es=>exact zal.congr this fun _ _=>rfl
  | rowF sz es =>
   have h0:zcj w g.Z (g.F o) sz es (g.hv o):=this;refine (⟨?_⟩:zcj { w with drawn:=n } g.Z (g.F o) sz es (g.hv o));rcases h0.ok with h1 | ⟨b,off,cap,cur,t,us,h1,h2,h3,h4,h5,h6,h7⟩
   ·exact .inl h1
   ·exact .inr ⟨b,off,cap,cur,t,us,h1,h2,h3,h4,h5,h6,fun k d hd=>⟨(h7 k d hd).1,zam.congr (w:=w) (w' := { w with drawn:=n }) (fun _ _=>rfl) (h7 k d hd).2.1,(h7 k d hd).2.2⟩⟩
  | box cs=>obtain ⟨b,cur,t,h1,h2,h3,h4,h5⟩:=this; exact ⟨b,cur,t,h1,h2,h3,h4.goes hg,h5⟩
  | shadow=>exact this
 ·obtain ⟨Y,h1,h2,h3⟩:=(r.shd o sz es e ho).2 he;exact ⟨Y,zam.congr (w:=w) (w' := { w with drawn:=n }) (fun _ _=>rfl) h1,h2,h3⟩
theorem qf7 {C:Ctx} {modes:Nat->List Bool} {R:zak} (hR:zhk C.P modes R) {b:Bool} {rk:Nat->Nat} (hc:zis C.P C.vars C.nt ops ops.toList=some ios) (hk:dOk rk ops.toList (zji b (zb7 ops.toList []) ios) (zb7 ops.toList [])=true) {st0 f:St} (hev:evD modes R (bws (zb7 ops.toList []) (zji b (zb7 ops.toList []) ios)) [] [] st0=some f) {a:Act} {w:World} {g:Gh} (h:SR C a w g st0) {Q:Exit->Act->World->Prop} (hQ : ∀ a w g,SR C a w g f->Q .normal a w) (md:Region.Mode):wpAny C.P md ops Q ops.size (Array.replicate ops.size false) a w:=by
 obtain ⟨tr,hrun⟩:=yef hev;have hd:=qf1 (C:=C) hc hk md;refine qba hd hR hrun hQ ops.size _ a _ ?_ (qhz hd hrun h);have e:(List.range (bws (zb7 ops.toList []) (zji b (zb7 ops.toList []) ios)).length).countP (fun j=>(Array.replicate ops.size false).getD j false)=0:=List.countP_eq_zero.mpr fun j _=>by
  simp only [Array.getD_eq_getD_getElem?,Array.getElem?_replicate];split <;> simp
 rw [e,hd.len]; omega
theorem qfl {C:Ctx} {modes:Nat->List Bool} {R:zak} (hR:zhk C.P modes R) {id:Nat} {ic:IC} (hc:ycm C.P C.vars C.nt ops=some ic) {n:Nat} {st0:St} {r:Ex×St} (hev:evC modes R n ic st0=some r) {a:Act} {w:World} {g:Gh} (h:SR C a w g st0) {Q:Exit->Act->World->Prop} (hQ:r.1 = .normal->∀ a w g,SR C a w g r.2->Q .normal a w):(Code.region id ops true).wp C.P Q a w:=by
 have one : ∀ {b:Bool} {rk:Nat->Nat} {os:Array Oper},z86 C.P C.vars C.nt b rk os=some ic->∀ md,wpAny C.P md os Q os.size (Array.replicate os.size false) a { w with drawn:=w.drawn+1 }:=by
  intro b rk os hc;unfold z86 at hc;obtain ⟨ios,h1,hc⟩:=bA hc;split at hc
  ·rename_i hk;cases hc;simp only [evC,bB] at hev;obtain ⟨st',h2,rfl⟩:=hev;exact qf7 hR h1 hk h2 h.clear.drew (hQ rfl)
  ·cases hc
 have all : ∀ md,wpAny C.P md ops Q ops.size (Array.replicate ops.size false) a { w with drawn:=w.drawn+1 }:=by
  unfold ycm at hc;split at hc
  ·rename_i y hy;cases hc;exact one hy
  ·split at hc
   ·rename_i hp;exact fun md=>qdk hp (one hc md)
   ·cases hc
 refine wp_region_draw fun t => ?_;unfold Region.schedule;split
 ·exact wpAny_sound ops.size t _ a _ (all .any)
 ·split
  ·exact wpAny_sound ops.size _ _ a _ (all .text)
  ·exact wpAny_sound ops.size _ _ a _ (all .gc)
end Go.Pe
namespace Go.Pe
open Go
theorem ycd {C:Ctx} {modes:Nat->List Bool} {R:zak} (hR:zhk C.P modes R) {ops:Array Oper} {Q:Exit->Act->World->Prop} : ∀ {os:List Oper} {ios:List zac} {i:Nat} {a:Act} {w:World} {g:Gh} {st st':St},ops.toList.drop i=os->zis C.P C.vars C.nt ops os=some ios->zdq modes R ios st=some st'->SR C a w g st->(∀ a' w' g',SR C a' w' g' st'->Q .normal a' w')->wpOps C.P ops Q (List.range' i os.length) a w
 | [],ios,i,a,w,g,st,st',hd,hc,he,h,hQ=>by
  simp only [zis,bC] at hc;subst hc;simp only [zdq,bC] at he;subst he;exact hQ a w g h
 | o::os,ios,i,a,w,g,st,st',hd,hc,he,h,hQ=>by
  simp only [zis] at hc;obtain ⟨io,h1,hc⟩:=bA hc;simp only [bB] at hc;obtain ⟨ios',h2,rfl⟩:=hc;simp only [zvh] at h1;obtain ⟨iop,h3,h1⟩:=bA h1;obtain ⟨d,h4,h1⟩:=bA h1;simp only [bB] at h1;obtain ⟨ig,h5,rfl⟩:=h1;simp only [zdq] at he;obtain ⟨t,ht,he⟩:=bA he;have hoi:ops[i]?=some o:=by
   have:=congrArg (fun l=>l[0]?) hd;simpa [List.getElem?_drop] using this
  have hd':ops.toList.drop (i+1)=os:=by
   have:=congrArg List.tail hd;simpa [List.tail_drop] using this
  have hw:=z9i h h5 ht;rw [List.length_cons,List.range'_succ];simp only [wpOps,hoi];cases t with
  | true =>
   simp only [if_true] at he;obtain ⟨r,hr,he⟩:=bA he;rw [if_pos hw];refine .inl (yc9 h hR h3 hr _ _ fun u w' g' hs hv => ?_);exact ycd hR hd' h2 he (hs.put hv h4) hQ
  | false =>
   simp only [Bool.false_eq_true,if_false] at he;rw [if_neg (by rw [hw]; simp)];exact ycd hR hd' h2 he (h.put (x := .v Go.undef) (show zap w g st (.v Go.undef) Go.undef from rfl) h4) hQ
def ycu:Ex->Exit
 | .normal => .normal
 | .exit id => .exit id
 | .ret => .ret
def yod (C:Ctx) (r:Ex×St):Exit->Act->World->Prop:=fun e a w=>e=ycu r.1/\∃ g,SR C a w g r.2
theorem qc7 {P:Program} {c:Code} {Q:Exit->Act->World->Prop} (J:Nat->Act->World->Prop) (h0 : ∀ a w,¬ J 0 a w) (round : ∀ k a w,J (k+1) a w->c.wp P (Exit.then (J k) Q) a w) {k:Nat} {a:Act} {w:World} (h:J k a w):(Code.loop c).wp P Q a w:=by
 intro b k' cs;have key : ∀ n a w,J n a w->∃ e a' w',Q e a' w'/\Arrives P (lone (b.at a (.code c :: .inLoop c::k')) cs w) b k' cs e a' w':=by
  intro n
  induction n with
  | zero=>intro a w h; exact (h0 a w h).elim
  | succ n ih =>
   intro a w hI;obtain ⟨e,a1,w1,hq,harr⟩:=round n a w hI b (.inLoop c::k') cs;cases e with
   | normal =>
    obtain ⟨e2,a2,w2,hq2,harr2⟩:=ih a1 w1 hq;exact ⟨e2,a2,w2,hq2,.of_steps (Steps.trans harr (.one step_inLoop)) harr2⟩
   | exit id=>exact ⟨_,a1,w1,hq,.pass (x := .inLoop c) rfl (fun _ _ => .inl (by simp)) harr⟩
   | goto l=>exact ⟨_,a1,w1,hq,.pass (x := .inLoop c) rfl (fun _ _ => .inl (by simp)) harr⟩
   | ret=>exact ⟨_,a1,w1,hq,.pass (x := .inLoop c) rfl (fun _ _ => .inl (by simp)) harr⟩
   | panic ch=>exact ⟨_,a1,w1,hq,.pass (x := .inLoop c) rfl (fun _ _ => .inl (by simp)) harr⟩
   | outgrown=>exact ⟨_,a1,w1,hq,.pass (x := .inLoop c) rfl (fun _ _ => .inl (by simp)) harr⟩
 obtain ⟨e,a',w',hq,harr⟩:=key _ a w h;exact ⟨e,a',w',hq,.of_steps (.one step_loop) harr⟩
theorem z80 {C:Ctx} {modes:Nat->List Bool} {R:zak} (hR:zhk C.P modes R) : ∀ (n:Nat) (c:Code) (ic:IC) (a:Act) (w:World) (g:Gh) (st:St) (r:Ex×St),zer C.P C.vars C.nt c=some ic->evC modes R n ic st=some r->SR C a w g st->c.wp C.P (yod C r) a w:=by
 intro n c
 induction c with
 | skip =>
  intro ic a w g st r hc he h;simp only [zer,bC] at hc;subst hc;simp only [evC,bC] at he;subst he;exact wp_skip ⟨rfl,g,h⟩
 | region id ops draw =>
  intro ic a w g st r hc he h;simp only [zer] at hc;split at hc
  ·rename_i hdr;subst hdr;exact qfl hR hc he h fun e a' w' g' h'=>⟨by rw [e]; rfl,g',h'⟩
  ·rename_i hdr;have hdr':draw=false:=by simpa using hdr
   subst hdr';simp only [bB] at hc;obtain ⟨ios,h1,rfl⟩:=hc;simp only [evC,bB] at he;obtain ⟨st',h2,rfl⟩:=he;refine wp_region ?_;have:=ycd (Q:=yod C (.normal,st')) hR (i:=0) (by simp) h1 h2 h.clear (fun a' w' g' h'=>⟨rfl,g',h'⟩);rw [List.range_eq_range'];simpa using this
 | seq x y ihx ihy =>
  intro ic a w g st r hc he h;simp only [zer] at hc;obtain ⟨ix,h1,hc⟩:=bA hc;simp only [bB] at hc;obtain ⟨iy,h2,rfl⟩:=hc;simp only [evC] at he;obtain ⟨⟨e,s⟩,h3,he⟩:=bA he;refine wp_seq (wp_mono (ihx ix a w g st _ h1 h3 h) fun e' a' w' hq => ?_);obtain ⟨rfl,g',hs⟩:=hq;cases e with
  | normal=>exact ihy iy a' w' g' s r h2 he hs
  | exit id=>cases he; exact ⟨rfl,g',hs⟩
  | ret=>cases he; exact ⟨rfl,g',hs⟩
 | cond c x y ihx ihy =>
  intro ic a w g st r hc he h;simp only [zer] at hc;obtain ⟨c',h0,hc⟩:=bA hc;obtain ⟨ix,h1,hc⟩:=bA hc;simp only [bB] at hc;obtain ⟨iy,h2,rfl⟩:=hc;simp only [evC] at he;obtain ⟨t,ht,he⟩:=bA he;have hv:=h.opd h0;rw [ytm ht] at hv;have hcv:a.eval c = .bool t:=hv.v;refine wp_cond hcv ?_;cases t with
  | true=>exact ihx ix a w g st r h1 he h
  | false=>exact ihy iy a w g st r h2 (by simpa using he) h
 | block id c ih =>
  intro ic a w g st r hc he h;simp only [zer,bB] at hc;obtain ⟨ic',h1,rfl⟩:=hc;simp only [evC,bB] at he;obtain ⟨⟨e,s⟩,h2,rfl⟩:=he;refine wp_block (wp_mono (ih ic' a w g st _ h1 h2 h) fun e' a' w' hq => ?_);obtain ⟨rfl,g',hs⟩:=hq;cases e with
  | normal=>exact ⟨rfl,g',hs⟩
  | exit i =>
   simp only [ycu,Exit.inBlock,Ex.out]
   by_cases e1:i=id
   ·rw [if_pos e1,if_pos e1]; exact ⟨rfl,g',hs⟩
   ·rw [if_neg e1,if_neg e1]; exact ⟨rfl,g',hs⟩
  | ret=>exact ⟨rfl,g',hs⟩
 | loop c ih =>
  intro ic a w g st r hc he h;simp only [zer,bB] at hc;obtain ⟨ic',h1,rfl⟩:=hc;simp only [evC] at he;refine qc7 (fun k a w => ∃ g st,SR C a w g st/\zed (evC modes R n ic') k st=some r) (fun a w ⟨g,st,_,h0⟩=>by simp [zed] at h0) (fun k a w ⟨g1,st1,hs1,hit⟩ => ?_) ⟨g,st,h,he⟩;simp only [zed] at hit;obtain ⟨⟨e,s⟩,h2,hit⟩:=bA hit;refine wp_mono (ih ic' a w g1 st1 _ h1 h2 hs1) fun e' a' w' hq => ?_;obtain ⟨rfl,g',hs⟩:=hq;cases e with
  | normal=>exact ⟨g',s,hs,hit⟩
  | exit id=>cases hit; exact ⟨rfl,g',hs⟩
  | ret=>cases hit; exact ⟨rfl,g',hs⟩
 | exit id =>
  intro ic a w g st r hc he h;simp only [zer,bC] at hc;subst hc;simp only [evC,bC] at he;subst he;exact wp_exit ⟨rfl,g,h⟩
 | ret =>
  intro ic a w g st r hc he h;simp only [zer,bC] at hc;subst hc;simp only [evC,bC] at he;subst he;exact wp_ret ⟨rfl,g,h⟩
 | _ =>
  intros
  rename_i hc _ _;simp [zer] at hc
end Go.Pe
namespace Go.Pe
open Go
variable {P:Program}
structure zyx (P:Program) (f:Nat) (fn:IFn) (func:Func) (c:Code) (vars:List Nat):Prop where
 at_:P.funcs[f]?=some func
 body:func.body=some c
 name : (func.name == "runtime.NumGoroutine") = false
 code:zer P vars func.ntmps c=some fn.body
 rvs:zjq P vars func.results.toList func.resultTypes.toList=some (zm4 fn.results)
def zgi (P:Program) (f:Nat):Fun->Prop
 | .code fn => ∃ func c vars,zyx P f fn func c vars
 | .known _ g => ∀ args r,g args=some r->zva P f/\z8l P f args r.1 r.2
 | .ext g => ∀ xs ys,g xs=some ys->∀ w,(callFunc f xs.toArray).run P w = .ok (.value (zja ys)) w
def zlg (P:Program) (T:zci):Prop := ∀ f F,T f=some F->zgi P f F
theorem zyx.callable {f:Nat} {fn:IFn} {func:Func} {c:Code} {vars:List Nat} (h:zyx P f fn func c vars):zva P f:=by
 intro vals w;have hn:=h.name;simp at hn;simp [callFunc,h.at_,h.body,hn]
theorem yo3 {f:Nat} {fn:IFn} {func:Func} {c:Code} {vars:List Nat} (h:zyx P f fn func c vars) {modes:Nat->List Bool} {R:zak} (hR:zhk P modes R) {n:Nat} {args:List PV} {r:List PV×List PV} (hr:zqd modes R n fn args=some r):z8l P f args r.1 r.2:=by
 intro w Z vals l hm hS;simp only [zqd] at hr;obtain ⟨st,hst,hr⟩:=bA hr;obtain ⟨⟨e,s⟩,hev,hr⟩:=bA hr;obtain ⟨hsr,hnx⟩:=yri (P:=P) (vars:=vars) (nt:=func.ntmps) hm hS hst;have hw:=z80 (C:=zgn P vars func.ntmps w Z l) hR n c fn.body _ w _ st (e,s) h.code hev hsr;refine calls_of_wp h.at_ h.body (wp_mono hw fun e' a' w' hq => ?_);obtain ⟨rfl,g',hs⟩:=hq;rw [hnx] at hr;have fin:zf8 fn l.length s=some r->a'.defers=[]/\∃ v,(results func a'.tmps).run P w' = .ok v w'/\∃ Z' l' lr us,zp9 w Z l r.1 r.2 v w' Z' l' lr us:=by
  intro hf;obtain ⟨us,lr,g2,h1,h2⟩:=yo6 hs (fn:=func) (ifn:=fn) h.rvs hf;exact ⟨hs.df,_,h1,_,_,lr,us,h2⟩
 cases e with
 | normal=>exact fin hr
 | exit id=>cases hr
 | ret=>exact fin hr
theorem yuu : ∀ {args:List PV} {xs:List Value},zmy args=some xs->args=xs.map PV.v
 | [],xs,h=>by simp only [zmy,bC] at h; subst h; rfl
 | c::cs,xs,h=>by
  cases c with
  | v x =>
   simp only [zmy,bB] at h;obtain ⟨ys,hy,rfl⟩:=h;rw [yuu hy]; rfl
  | _=>simp [zmy] at h
theorem yeq {T:zci} (h:zlg P T) : ∀ n,zhk P (zad T) (run T n)
 | 0=>fun f => .inl fun args r hr=>by cases hr
 | n+1=>fun f=>by
  cases hF:T f with
  | none=>exact .inl fun args r hr=>by simp only [run,hF] at hr; cases hr
  | some F =>
   have he:=h f F hF;cases F with
   | code fn =>
    refine .inl fun args r hr => ?_;simp only [run,hF,Option.bind_some] at hr;obtain ⟨func,c,vars,hfn⟩:=he;exact ⟨hfn.callable,yo3 hfn (yeq h n) hr⟩
   | known m g =>
    refine .inl fun args r hr => ?_;simp only [run,hF,Option.bind_some] at hr;exact he args r hr
   | ext g =>
    refine .inr ⟨by simp only [zad,hF,Option.map_some,Fun.modes,Option.getD_some],fun args r hr => ?_⟩;simp only [run,hF,Option.bind_some,yec] at hr;obtain ⟨xs,hx,hr⟩:=bA hr;simp only [bB] at hr;obtain ⟨ys,hy,rfl⟩:=hr;exact ⟨xs,ys,yuu hx,rfl,he xs ys hy⟩
theorem z73 {T:zci} (h:zlg P T) {f:Nat} {fn:IFn} (hf:T f=some (.code fn)) {args:List PV} {r:List PV×List PV} (hr:RUN T f args=some r):z8l P f args r.1 r.2:=by
 obtain ⟨n,hn⟩:=zy2.mp hr;rcases yeq h n f with hs | ⟨_,hs⟩
 ·exact (hs args r hn).2
 ·cases n with
  | zero=>cases hn
  | succ n =>
   simp only [run,hf,Option.bind_some] at hn;obtain ⟨func,c,vars,hfn⟩:=(show ∃ func c vars,zyx P f fn func c vars from h f _ hf);exact yo3 hfn (yeq h n) hn
theorem qgx {l:List (Nat×Fun)} (h : ∀ q∈l,zgi P q.1 q.2):zlg P (fun f=>(l.find? fun q=>q.1 == f).map fun q=>q.2):=by
 intro f F hF;simp only [bB] at hF;obtain ⟨q,hq,rfl⟩:=hF;have h1:=List.find?_some hq;simp only [beq_iff_eq] at h1;rw [<- h1];exact h q (List.mem_of_find?_eq_some hq)
end Go.Pe
namespace Go.Pe
open Go
inductive TY where
 | int (k:IntKind)
 | bool
 | str
 | sl (e:List TY)
 | rs (e:List TY)
def zhf (p:List PV->Prop) (k:Nat):Nat->PV->Prop
 | 0,c=>c = .sl k []
 | n+1,c => ∃ es,c = .sl k es/\es.length<=maxLen/\∀ cs∈es,∃ a x,cs=a++[x]/\p a/\zhf p k n x
theorem zhf.up {p:List PV->Prop} {k:Nat} : ∀ {n:Nat} {c:PV},zhf p k n c->zhf p k (n+1) c
 | 0,c,h=>⟨[],h,Nat.zero_le _,by simp⟩
 | n+1,c,h=>by
  obtain ⟨es,h1,h2,h3⟩:=h;refine ⟨es,h1,h2,fun cs hcs => ?_⟩;obtain ⟨a,x,h4,h5,h6⟩:=h3 cs hcs;exact ⟨a,x,h4,h5,zhf.up h6⟩
theorem zhf.nil {p:List PV->Prop} {k:Nat} : ∀ {n:Nat},zhf p k n (.sl k [])
 | 0=>rfl
 | _+1=>⟨[],rfl,Nat.zero_le _,by simp⟩
theorem zhf.sl {p:List PV->Prop} {k:Nat} : ∀ {n:Nat} {c:PV},zhf p k n c->∃ es,c = .sl k es
 | 0,_,h=>⟨[],h⟩
 | _+1,_,h=>⟨h.choose,h.choose_spec.1⟩
mutual
def Shp:TY->PV->Prop
 | .int k,c => ∃ n,c = .v (.int k n)/\(Lit.int k n).wf=true
 | .bool,c => ∃ b,c = .v (.bool b)
 | .str,c => ∃ s:ByteArray,c = .v (.string s)/\s.size<=maxLen
 | .sl e,c => ∃ es,c = .sl e.length es/\es.length<=maxLen/\∀ cs∈es,zce e cs
 | .rs e,c => ∃ n,zhf (zce e) (e.length+1) n c
def zce:List TY->List PV->Prop
 | [],cs=>cs=[]
 | t::ts,cs => ∃ c r,cs=c::r/\Shp t c/\zce ts r
end
def zvi (f:TypeId->Option (List TY)) (P:Program):Nat->List Field->Option (List TY)
 | _,[]=>some []
 | off,fd::fs=>if fd.offset=off then (f fd.type).bind fun l=>if P.cellsOf fd.type=l.length then (zvi f P (off+l.length) fs).map (l ++ ·) else none else none
def yd9 (f:TypeId->Option (List TY)) (P:Program) (t e:TypeId):Option (List TY):=match P.underlying e with
 | some (.struct fs)=>match fs.toList.getLast? with
  | some fd=>if fd.type=t then (zvi f P 0 fs.toList.dropLast).bind fun l=>if fd.offset=l.length/\P.cellsOf t=1/\P.cellsOf e=l.length+1 then some l else none else none
  | none=>none
 | _=>none
def zqe (P:Program):Nat->TypeId->Option (List TY)
 | 0,_=>none
 | n+1,t=>match P.underlying t with
  | some .bool=>some [.bool]
  | some (.int k)=>some [.int k]
  | some .string=>some [.str]
  | some (.slice e)=>match yd9 (zqe P n) P t e with
   | some l=>some [.rs l]
   | none=>(zqe P n e).bind fun l=>if P.cellsOf e=l.length/\0<l.length then some [.sl l] else none
  | some (.struct fs)=>(zvi (zqe P n) P 0 fs.toList).bind fun l=>if P.cellsOf t=l.length then some l else none
  | _=>none
inductive zdn {α β:Type} (R:α->β->Prop):List α->List β->Prop
 | nil:zdn R [] []
 | cons {a:α} {b:β} {as:List α} {bs:List β} (h:R a b) (t:zdn R as bs):zdn R (a::as) (b::bs)
theorem zdn.len {α β:Type} {R:α->β->Prop} {as:List α} {bs:List β} (h:zdn R as bs):as.length=bs.length:=by
 induction h with
 | nil=>rfl
 | cons _ _ ih=>simp [ih]
theorem zdn.get {α β:Type} {R:α->β->Prop} {as:List α} {bs:List β} (h:zdn R as bs) : ∀ {k:Nat} {a:α},as[k]?=some a->∃ b,bs[k]?=some b/\R a b:=by
 induction h with
 | nil=>intro k a hk; simp at hk
 | cons h _ ih =>
  intro k a hk;cases k with
  | zero=>simp at hk; subst hk; exact ⟨_,by simp,h⟩
  | succ k=>simp at hk; obtain ⟨b,hb,hr⟩:=ih hk; exact ⟨b,by simpa using hb,hr⟩
theorem zdn.append {α β:Type} {R:α->β->Prop} {as as':List α} {bs bs':List β} (h:zdn R as bs) (h':zdn R as' bs'):zdn R (as++as') (bs++bs'):=by
 induction h with
 | nil=>exact h'
 | cons h _ ih=>exact .cons h ih
theorem zce.len : ∀ {ts:List TY} {cs:List PV},zce ts cs->cs.length=ts.length
 | [],_,h=>by simp [zce] at h; subst h; rfl
 | t::ts,cs,h=>by
  simp only [zce] at h;obtain ⟨c,r,rfl,_,h⟩:=h;simp [zce.len h]
theorem zce.append : ∀ {ts ts':List TY} {cs cs':List PV},zce ts cs->zce ts' cs'->zce (ts++ts') (cs++cs')
 | [],_,_,_,h,h'=>by simp [zce] at h; subst h; exact h'
 | t::ts,ts',cs,cs',h,h'=>by
  simp only [zce] at h;obtain ⟨c,r,rfl,h1,h⟩:=h;exact ⟨c,r++cs',rfl,h1,zce.append h h'⟩
def zeh (w:World):Nat->Prop:=fun b=>b<w.heap.size
theorem qhd {w:World} {a:Addr} {v:Value} (h:w.cell? a=some v):a.block<w.heap.size/\a.spot=none:=by
 unfold World.cell? at h;split at h
 ·rename_i c t f hb;split at h
  ·cases h
  ·rename_i hs;exact ⟨(Array.getElem?_eq_some_iff.mp hb).1,by simpa using hs⟩
 ·cases h
section
variable {H:Type} {enc:TypeId×Value->H} {P:Program} {w:World}
theorem yoa {e:TypeId} {L:Nat} {es:List (List PV)} {a:Addr} {len cap:Nat} (hcl:P.cellsOf e=L) (hpos:0<L) (h1:es.length=len) (hle:len<=cap) (h2 : ∀ (i:Nat) (cs:List PV),es[i]?=some cs->cs.length=L/\∃ vs,w.cells? 0 (a.add (i*P.cellsOf e)) (P.cellsOf e)=some vs/\zdn (zam w (zeh w)) cs vs):zam w (zeh w) (.sl L es) (.slice (some a) len cap):=by
 have hsl : ∀ cs∈es,cs.length=L:=by
  intro cs hcs;obtain ⟨i,hi⟩:=bH hcs;exact (h2 i cs hi).1
 have cellAt : ∀ (k:Nat) (d:PV),es.flatten[k]?=some d->∃ v,w.cell? (a.add k)=some v/\zam w (zeh w) d v:=by
  intro k d hk;obtain ⟨i,j,cs,h3,h4,rfl,h5,h6⟩:=z8g hsl hk;obtain ⟨_,vs,h7,h8⟩:=h2 i cs h3;obtain ⟨v,h9,h10⟩:=h8.get h4;simp only [World.cells?,Nat.zero_le,if_true] at h7;have h11:=mapM_some_get h7 j j (by simp [hcl,h5]);rw [h9] at h11;refine ⟨v,?_,h10⟩;rw [<- h11,hcl,Addr.add_add]
 cases hes:es.flatten with
 | nil =>
  by_cases he:es=[]
  ·subst he;simp at h1; subst h1;exact .nil rfl
  ·
   have h0:L=0:=by
    cases es with
    | nil=>exact (he rfl).elim
    | cons e0 es =>
     have:=hsl e0 (by simp);simp at hes;rw [hes.1] at this; simpa using this.symm
   omega
 | cons d0 ds =>
  obtain ⟨v0,h3,_⟩:=cellAt 0 d0 (by rw [hes]; rfl);obtain ⟨hb,hsp⟩:=qhd h3;have ha:a=⟨a.block,a.off,none⟩:=by
   cases a;simp [Addr.add] at hsp;simp [hsp]
  have hadd : ∀ k,a.add k=⟨a.block,a.off+k,none⟩:=by
   intro k;unfold Addr.add;split
   ·rename_i hk; subst hk; exact ha
   ·rfl
  have hb':a.block<w.heap.size:=by simpa [Addr.add] using hb
  rw [ha];refine .row rfl h1.symm hb' hsl hle (us:=fun k=>(w.cell? (a.add k)).getD Go.undef) (fun k d hk => ?_) (fun k d hk => ?_)
  ·obtain ⟨v,h4,_⟩:=cellAt k d hk;rw [<- hadd k,h4]; rfl
  ·obtain ⟨v,h4,h5⟩:=cellAt k d hk;rw [h4]; exact h5
theorem ynh {α:Type} {Q:Nat->α->Prop} : ∀ (n:Nat),(∀ i,i<n->∃ c,Q i c)->∃ es:List α,es.length=n/\∀ (i:Nat) (c:α),es[i]?=some c->Q i c
 | 0,_=>⟨[],rfl,by simp⟩
 | n+1,h=>by
  obtain ⟨es,h1,h2⟩:=ynh n (fun i hi=>h i (by omega));obtain ⟨c,hc⟩:=h n (by omega);refine ⟨es++[c],by simp [h1],fun i d hd => ?_⟩
  by_cases hi:i<n
  ·rw [List.getElem?_append_left (by omega)] at hd;exact h2 i d hd
  ·rw [bO (by omega)] at hd;obtain rfl:i=n:=by
    have:=(bD hd).1;simp at this; omega
   simp [h1] at hd;subst hd;exact hc
theorem yn9 {f:TypeId->Option (List TY)} {cs:List Value} {n:Nat} (hf : ∀ (t:TypeId) (tys:List TY),f t=some tys->∀ (fuel:Nat) (cs:List Value) (x:DataW H×List MemPlace),DataW.trod enc P w 0 (fun _=>true) true fuel t cs=some x->∃ pvs,zce tys pvs/\zdn (zam w (zeh w)) pvs cs) : ∀ (fl:List Field) (off:Nat) (l:List TY),zvi f P off fl=some l->(∀ f∈fl,∃ y,DataW.trod enc P w 0 (fun _=>true) true n f.type ((cs.drop f.offset).take (P.cellsOf f.type))=some y) ->
  ∃ pvs,zce l pvs/\zdn (zam w (zeh w)) pvs ((cs.drop off).take l.length):=by
 intro fl
 induction fl with
 | nil =>
  intro off l h _;simp only [zvi,bC] at h;subst h;exact ⟨[],rfl,by simp; exact .nil⟩
 | cons fd fl ih =>
  intro off l h hall;simp only [zvi] at h;split at h
  ·rename_i hoff;obtain ⟨lf,h1,h⟩:=bA h;split at h
   ·rename_i hc;simp only [bB] at h;obtain ⟨lr,h2,rfl⟩:=h;obtain ⟨y,hy⟩:=hall fd (by simp);obtain ⟨p1,h3,h4⟩:=hf fd.type lf h1 _ _ _ hy;obtain ⟨p2,h5,h6⟩:=ih (off+lf.length) lr h2 (fun f hf=>hall f (by simp [hf]));refine ⟨p1++p2,h3.append h5,?_⟩;rw [List.length_append,List.take_add,List.drop_drop];rw [hoff,hc] at h4;exact h4.append h6
   ·cases h
  ·cases h
theorem qbp {f:TypeId->Option (List TY)} (hf : ∀ (t:TypeId) (tys:List TY),f t=some tys->∀ (fuel:Nat) (cs:List Value) (x:DataW H×List MemPlace),DataW.trod enc P w 0 (fun _=>true) true fuel t cs=some x->∃ pvs,zce tys pvs/\zdn (zam w (zeh w)) pvs cs) {t e:TypeId} {l:List TY} (ht:P.underlying t=some (.slice e)) (hr:yd9 f P t e=some l) (fuel:Nat) : ∀ (cs:List Value) (x:DataW H×List MemPlace),DataW.trod enc P w 0 (fun _=>true) true fuel t cs=some x->∃ c,zhf (zce l) (l.length+1) fuel c/\zdn (zam w (zeh w)) [c] cs:=by
 induction fuel using Nat.strongRecOn with
 | ind fuel ih =>
 intro cs x hx;unfold yd9 at hr;split at hr
 ·rename_i fs hse;split at hr
  ·rename_i fd hfd;split at hr
   ·rename_i hty;obtain ⟨l',h1,hr⟩:=bA hr;split at hr
    ·rename_i hc;obtain ⟨hoff,hct,hce⟩:=hc;cases hr;rcases DataW.trod_slice ht hx with ⟨rfl,_⟩ | ⟨a,len,cap,elems,rest,n,hfu,rfl,_,_,hle,hm,hel,helem,_,_⟩
     ·exact ⟨.sl (l.length+1) [],zhf.nil,.cons (.nil rfl) .nil⟩
     ·subst hfu;obtain ⟨es,e1,e2⟩:=ynh (Q:=fun i cs=>(∃ p q,cs=p++[q]/\zce l p/\zhf (zce l) (l.length+1) n q)/\∃ vs,w.cells? 0 (a.add (i*P.cellsOf e)) (P.cellsOf e)=some vs/\zdn (zam w (zeh w)) cs vs) len (fun k hk=>by
       have h3:=helem k hk;obtain ⟨y,hy⟩ : ∃ y,elems[k]?=some y:=⟨_,bG (by omega)⟩;rw [hy] at h3;obtain ⟨vs,h4,h5⟩:=bA h3;obtain ⟨xs,n',hn',_,hlen,hxl,hff⟩:=DataW.trod_struct hse h5;subst hn';have hall : ∀ g∈fs.toList,∃ y,DataW.trod enc P w 0 (fun _=>true) true n' g.type ((vs.drop g.offset).take (P.cellsOf g.type))=some y:=fun g hg=>by
        obtain ⟨i,hi⟩:=bH hg;have h6:=hff i g (by simpa using hi);have hlt:i<xs.length:=by
         have:=(bD hi).1;rw [hxl]; simpa using this
        exact ⟨xs[i],by rw [h6]; exact bG hlt⟩
       obtain ⟨p,p1,p2⟩:=yn9 hf fs.toList.dropLast 0 l h1 (fun g hg=>hall g ((List.dropLast_sublist _).subset hg));obtain ⟨y',hy'⟩:=hall fd (List.mem_of_getLast? hfd);rw [hty,hoff,hct] at hy';obtain ⟨q,q1,q2⟩:=ih n' (by omega) _ _ hy';refine ⟨p++[q],⟨p,q,rfl,p1,q1.up⟩,vs,h4,?_⟩;have h7:=p2.append q2;rw [List.drop_zero,<- List.take_add] at h7;rw [List.take_of_length_le (by omega)] at h7;exact h7)
      refine ⟨.sl (l.length+1) es,⟨es,rfl,by omega,fun cs hcs => ?_⟩,.cons (yoa hce (by omega) e1 hle fun i cs hi=>⟨?_,(e2 i cs hi).2⟩) .nil⟩
      ·obtain ⟨i,hi⟩:=bH hcs;exact (e2 i cs hi).1
      ·obtain ⟨⟨p,q,rfl,p1,_⟩,_⟩:=e2 i cs hi;simp [p1.len]
    ·cases hr
   ·cases hr
  ·cases hr
 ·cases hr
theorem z8e : ∀ (m:Nat) (t:TypeId) (tys:List TY),zqe P m t=some tys->∀ (fuel:Nat) (cs:List Value) (x:DataW H×List MemPlace),DataW.trod enc P w 0 (fun _=>true) true fuel t cs=some x ->
  ∃ pvs,zce tys pvs/\zdn (zam w (zeh w)) pvs cs
 | 0,_,_,h=>by cases h
 | m+1,t,tys,h=>by
  intro fuel cs x hx;simp only [zqe] at h;split at h
  ·rename_i ht;cases h;obtain ⟨b,rfl,_⟩:=DataW.trod_bool ht hx;exact ⟨[.v (.bool b)],⟨_,[],rfl,⟨b,rfl⟩,rfl⟩,.cons (.v rfl) .nil⟩
  ·rename_i k ht;cases h;obtain ⟨n,rfl,_,hw⟩:=DataW.trod_int ht hx;exact ⟨[.v (.int k n)],⟨_,[],rfl,⟨n,rfl,hw⟩,rfl⟩,.cons (.v rfl) .nil⟩
  ·rename_i ht;cases h;obtain ⟨s,rfl,_,hs⟩:=DataW.trod_string ht hx;exact ⟨[.v (.string s)],⟨_,[],rfl,⟨s,rfl,hs⟩,rfl⟩,.cons (.v rfl) .nil⟩
  ·rename_i e ht;split at h
   ·rename_i l hr;cases h;obtain ⟨c,h1,h2⟩:=qbp (z8e m) ht hr fuel cs x hx;exact ⟨[c],⟨c,[],rfl,⟨fuel,h1⟩,rfl⟩,h2⟩
   obtain ⟨l,hl,h⟩:=bA h;split at h
   ·rename_i hcl0;obtain ⟨hcl,hpos⟩:=hcl0;cases h;rcases DataW.trod_slice ht hx with ⟨rfl,_⟩ | ⟨a,len,cap,elems,rest,n,_,rfl,_,_,hle,hm,hel,helem,_,_⟩
    ·exact ⟨[.sl l.length []],⟨_,[],rfl,⟨[],rfl,Nat.zero_le _,by simp⟩,rfl⟩,.cons (.nil rfl) .nil⟩
    ·have build : ∀ k,k<=len->∃ es:List (List PV),es.length=k/\∀ (i:Nat) (cs:List PV),es[i]?=some cs->zce l cs/\∃ vs,w.cells? 0 (a.add (i*P.cellsOf e)) (P.cellsOf e)=some vs/\zdn (zam w (zeh w)) cs vs:=by
      intro k
      induction k with
      | zero=>intro _; exact ⟨[],rfl,by simp⟩
      | succ k ih =>
       intro hk;obtain ⟨es,h1,h2⟩:=ih (by omega);have h3:=helem k (by omega);obtain ⟨y,hy⟩ : ∃ y,elems[k]?=some y:=⟨_,bG (by omega)⟩;rw [hy] at h3;obtain ⟨vs,h4,h5⟩:=bA h3;obtain ⟨pvs,h6,h7⟩:=z8e m e l hl _ _ _ h5;refine ⟨es++[pvs],by simp [h1],fun i cs hi => ?_⟩
       by_cases hik:i<k
       ·rw [List.getElem?_append_left (by omega)] at hi;exact h2 i cs hi
       ·rw [bO (by omega)] at hi;obtain rfl:i=k:=by
         have:=(bD hi).1;simp at this; omega
        simp [h1] at hi;subst hi;exact ⟨h6,vs,h4,h7⟩
     obtain ⟨es,h1,h2⟩:=build len (Nat.le_refl _);refine ⟨[.sl l.length es],⟨_,[],rfl,⟨es,rfl,by omega,fun cs hcs => ?_⟩,rfl⟩,.cons (yoa hcl hpos h1 hle fun i cs hi=>⟨(h2 i cs hi).1.len,(h2 i cs hi).2⟩) .nil⟩;obtain ⟨i,hi⟩:=bH hcs;exact (h2 i cs hi).1
   ·cases h
  ·rename_i fs ht;obtain ⟨l,hl,h⟩:=bA h;split at h
   ·rename_i hcl;cases h;obtain ⟨xs,n,_,_,hlen,hxl,hf⟩:=DataW.trod_struct ht hx;obtain ⟨pvs,h1,h2⟩:=yn9 (cs:=cs) (n:=n) (z8e m) fs.toList 0 tys hl (fun f hmem=>by
     obtain ⟨i,hi⟩:=bH hmem;have h3:=hf i f (by simpa using hi);have hlt:i<xs.length:=by
      have:=(bD hi).1;rw [hxl]; simpa using this
     exact ⟨xs[i],by rw [h3]; exact bG hlt⟩)
    refine ⟨pvs,h1,?_⟩;rw [List.drop_zero,List.take_of_length_le (by omega)] at h2;exact h2
   ·cases h
  ·cases h
def zm6 (ag:Bool) (tys:List TY) (c:PV):Prop:=if ag then ∃ cs,c = .agg cs/\zce tys cs else zce tys [c]
def yds (P:Program) (t:TypeId):Option (Bool×List TY):=(zqe P 8 t).bind fun l=>(zft P t).bind fun ag=>if ag || l.length == 1 then some (ag,l) else none
def zvq (P:Program):List TypeId->Option (List (Bool×List TY))
 | []=>some []
 | t::ts=>(yds P t).bind fun x=>(zvq P ts).map (x :: ·)
theorem zam.plain {Z:Nat->Prop} {x u:Value} (h:zam w Z (.v x) u):u=x:=by
 cases h with
 | v h=>rfl
 | nil h=>cases h
 | row h=>cases h
theorem ytb {c:PV} {t:TY} {u:Value} (hs:Shp t c) (h:zam w (zeh w) c u):InC w (zeh w) c u []:=by
 cases t with
 | int k=>obtain ⟨n,rfl,_⟩:=hs; exact ⟨h.plain,rfl⟩
 | bool=>obtain ⟨n,rfl⟩:=hs; exact ⟨h.plain,rfl⟩
 | str=>obtain ⟨n,rfl,_⟩:=hs; exact ⟨h.plain,rfl⟩
 | sl e=>obtain ⟨n,rfl,_⟩:=hs; exact ⟨h,rfl⟩
 | rs e=>obtain ⟨n,hs⟩:=hs; obtain ⟨es,rfl⟩:=hs.sl; exact ⟨h,rfl⟩
theorem ytw : ∀ {ts:List TY} {cs:List PV} {us:List Value},zce ts cs->zdn (zam w (zeh w)) cs us->zdz (InC w (zeh w)) cs us []
 | [],cs,us,hs,h=>by simp [zce] at hs; subst hs; cases h; exact .nil
 | t::ts,cs,us,hs,h=>by
  obtain ⟨c,r,rfl,h1,h2⟩:=hs;cases h with
  | cons h3 h4=>exact .cons (l:=[]) (ytb h1 h3) (ytw h2 h4)
theorem qh2 {c:PV} {t:TY} {u:Value} (hs:Shp t c) (h:zam w (zeh w) c u):InA w (zeh w) c u []:=by
 have:=ytb hs h;cases t with
 | int k=>obtain ⟨n,rfl,_⟩:=hs; exact this
 | bool=>obtain ⟨n,rfl⟩:=hs; exact this
 | str=>obtain ⟨n,rfl,_⟩:=hs; exact this
 | sl e=>obtain ⟨n,rfl,_⟩:=hs; exact this
 | rs e=>obtain ⟨n,hs⟩:=hs; obtain ⟨es,rfl⟩:=hs.sl; exact this
theorem qfy {t:TypeId} {ag:Bool} {tys:List TY} (hp:yds P t=some (ag,tys)) {zdc:Nat} {v:Value} {d:DataW H} {ps:List MemPlace} (hok:Value.okWide P w .any zdc t v) (h:DataW.Trod enc P w 0 (fun _=>true) true t v d ps) :
  ∃ c,zm6 ag tys c/\InA w (zeh w) c v []:=by
 unfold yds at hp;obtain ⟨l,h1,hp⟩:=bA hp;obtain ⟨g,h2,hp⟩:=bA hp;split at hp
 ·rename_i hg;cases hp;obtain ⟨fuel,hf⟩:=h;obtain ⟨pvs,h3,h4⟩:=z8e 8 t tys h1 fuel _ _ hf;unfold zft at h2;simp only [bB] at h2;obtain ⟨desc,hd,hg2⟩:=h2;unfold Value.okWide at hok;rw [hd] at hok;cases ag with
  | true =>
   have : ∃ cs,v = .agg cs:=by
    cases desc with
    | struct fs=>obtain ⟨cs,rfl,_⟩:=hok; exact ⟨cs,rfl⟩
    | array n e=>obtain ⟨cs,rfl,_⟩:=hok; exact ⟨cs,rfl⟩
    | _=>cases hg2
   obtain ⟨cs,rfl⟩:=this;exact ⟨.agg pvs,⟨pvs,rfl,h3⟩,cs,rfl,ytw h3 h4⟩
  | false =>
   simp only [Bool.false_or,beq_iff_eq] at hg;obtain ⟨t0,rfl⟩ : ∃ t0,tys=[t0]:=by
    match tys,hg with
    | [t0],_=>exact ⟨t0,rfl⟩
   obtain ⟨c,r,rfl,h5,h6⟩:=h3;simp only [zce] at h6;subst h6;have hv:v.cells = #[v]:=by
    cases desc with
    | struct fs=>cases hg2
    | array n e=>cases hg2
    | bool=>cases v <;> first | rfl | simp [Cell.okWide,Cell.ok,hd] at hok
    | int k=>cases v <;> first | rfl | simp [Cell.okWide,Cell.ok,hd] at hok
    | string=>cases v <;> first | rfl | simp [Cell.okWide,Cell.ok,hd] at hok
    | slice e=>cases v <;> first | rfl | simp [Cell.okWide,Cell.ok,hd] at hok
    | _=>simp [zqe,hd] at h1
   rw [hv] at h4;cases h4 with
   | cons h7 _=>exact ⟨c,⟨c,[],rfl,h5,rfl⟩,qh2 h5 h7⟩
 ·cases hp
theorem yu6 {zdc:Nat} : ∀ {ts:List TypeId} {ptys:List (Bool×List TY)} {vs:List Value} {ds:List (DataW H)} {ps:List MemPlace},zvq P ts=some ptys->(∀ (j:Nat) t v,ts[j]?=some t->vs[j]?=some v->Value.okWide P w .any zdc t v)->DataW.TrodAll enc P w 0 (fun _=>true) true ts vs ds ps ->
  ∃ pvs,zdn (fun p c=>zm6 p.1 p.2 c) ptys pvs/\zdz (InA w (zeh w)) pvs vs []/\ds.length=ts.length
 | [],ptys,vs,ds,ps,hp,_,h=>by
  simp only [zvq,bC] at hp;subst hp;obtain ⟨rfl,rfl,rfl⟩:=ChangeShapes.trodAll_nil h;exact ⟨[],.nil,.nil,rfl⟩
 | t::ts,ptys,vs,ds,ps,hp,hok,h=>by
  simp only [zvq] at hp;obtain ⟨⟨ag,tys⟩,h1,hp⟩:=bA hp;simp only [bB] at hp;obtain ⟨r,h2,rfl⟩:=hp;obtain ⟨v,vs',d,ds',p,q,rfl,rfl,rfl,h3,h4⟩:=ChangeShapes.trodAll_cons h;obtain ⟨c,h5,h6⟩:=qfy h1 (hok 0 t v rfl rfl) h3;obtain ⟨pvs,h7,h8,h9⟩:=yu6 h2 (fun j t v hj hv=>hok (j+1) t v (by simpa using hj) (by simpa using hv)) h4;exact ⟨c::pvs,.cons h5 h7,.cons (l:=[]) h6 h8,by simp [h9]⟩
theorem yn7 (hl:laidOutB P=true) {W W':World} (hb:RowKit.Below W.heap.size W W') : ∀ {ts:List TypeId} {vs:List Value} {ds:List (DataW H)} {ps:List MemPlace},(∀ t∈ts,P.readableRec t=true/\t<P.types.size)->DataW.TrodAll enc P W 0 (fun _=>true) true ts vs ds ps ->
  DataW.TrodAll enc P W' 0 (fun b=>decide (b<W.heap.size)) true ts vs ds ps
 | [],vs,ds,ps,_,h=>by
  obtain ⟨rfl,rfl,rfl⟩:=ChangeShapes.trodAll_nil h;rfl
 | t::ts,vs,ds,ps,hr,h=>by
  obtain ⟨v,vs',d,ds',p,q,rfl,rfl,rfl,h3,h4⟩:=ChangeShapes.trodAll_cons h;have h3k:=h3;obtain ⟨m,hm⟩:=h3k;refine ⟨p,q,RowKit.Below.trod hl (hr t (by simp)).1 (hr t (by simp)).2 h3 hb (fun x hx=>DataW.trod_lt m _ _ _ hm x hx),yn7 hl hb (fun t ht=>hr t (by simp [ht])) h4,rfl⟩
end
theorem qhl {H:Type} {enc:TypeId×Value->H} {P:Program} {T:zci} (hT:zlg P T) {f:Nat} {fn0:IFn} (hT0:T f=some (.code fn0)) {fn:Func} {s:ChangeSpec} {t0:TypeId} {ptys:List (Bool×List TY)}
  (hl:laidOutB P=true) (hvars:s.vars=[]) (hspec : ∀ ds:List (DataW H),ds.length=fn.params.size->s.fn H ds = { results:=[.lit (.bool true)],args:=ds })
  (hres:fn.resultTypes = #[t0]) (ht0:P.underlying t0=some .bool) (hpt:zvq P fn.params.toList=some ptys) (hrd : ∀ t∈fn.params.toList,P.readableRec t=true/\t<P.types.size)
  (hrun : ∀ pvs,zdn (fun p c=>zm6 p.1 p.2 c) ptys pvs->RUN T f pvs=some ([.v (.bool true)],[]))
  {W:World} {zdc:Nat} {args:Array Value} {ds gs:List (DataW H)} {before:List MemPlace} (hval : ∀ (j:Nat) t v,fn.params[j]?=some t->args[j]?=some v->Value.okWide P W .any zdc t v)
  (hW:DataW.Whole enc P fn.params.toList s.vars false W args.toList ds gs before) :
  Calls P f args W fun e W' => ∃ v,e = .returned v/\s.post enc P fn false true false false W args v W':=by
 have hW':=hW;obtain ⟨p,q,hA,hV,rfl,hfz,hnd⟩:=hW;rw [hvars] at hV;obtain ⟨rfl,rfl⟩:=ChangeShapes.trodVars_none hV;obtain ⟨pvs,h1,h2,h3⟩:=yu6 hpt (fun j t v hj hv=>hval j t v (by simpa using hj) (by simpa using hv)) hA;have hm:=z73 hT hT0 (hrun pvs h1);have hsep:Sep W (zeh W) []:=⟨fun x hx=>hx,by simp,by simp,by simp⟩;refine (hm W (zeh W) args [] h2 hsep).mono fun e W' he => ?_;cases e with
 | panicked c=>exact he.elim
 | outgrown=>exact he.elim
 | returned v =>
  obtain ⟨Z',l',lr,us,hp⟩:=he;have hbel:RowKit.Below W.heap.size W W':=⟨hp.os,hp.tape,hp.output,hp.size,fun k hk=>hp.old k hk (by simp)⟩;have hv:v = .bool true:=by
   have h5:=hp.rets;have h6:=hp.val;cases h5 with
   | cons h7 h8 =>
    cases h8;obtain ⟨rfl,_⟩:=h7;exact h6
  subst hv;refine ⟨_,rfl,ds,[],_,[],p,[],hW',?_,?_,?_,hbel.frame _,fun h=>by cases h⟩
  ·rw [List.append_nil,hspec ds (by rw [h3]; simp),hres];exact ChangeShapes.trodAll_mk1 (RowKit.shut_bool ht0 true)
  ·rw [List.append_nil,hspec ds (by rw [h3]; simp)];exact yn7 hl hbel hrd hA
  ·rw [hvars,List.append_nil,hspec ds (by rw [h3]; simp)];rfl
theorem qee {H:Type} {enc:TypeId×Value->H} {C:Checked} {T:zci} (hT:zlg C.prog T) {f:Nat} {fn0:IFn} (hT0:T f=some (.code fn0)) {fn:Func} {s:ChangeSpec} {conds:List PathCond} {t0:TypeId} {ptys:List (Bool×List TY)} {os:Os} (started:os.Started)
  (own:ownKnob C.prog.godebug=none) (noInit:C.prog.inits.idxOf? f=none) (hfn:C.prog.funcs[f]?=some fn)
  (witness : ∃ (w:World) (tape:Tape) (i:Input),w.os=os/\(w.forCall tape i).Shaped C.prog/\i.vars=[]/\Input.okWide C.prog (w.forCall tape i) .any w.heap.size f i /\
   s.pre6 enc C.prog fn conds false (w.forCall tape i).memory i.args/\({}:Assume).holds C.prog (lone (Frame.enter C.prog f i.args .normal) [] (w.forCall tape i)))
  (hl:laidOutB C.prog=true) (hvars:s.vars=[]) (hspec : ∀ ds:List (DataW H),ds.length=fn.params.size->s.fn H ds = { results:=[.lit (.bool true)],args:=ds })
  (hres:fn.resultTypes = #[t0]) (ht0:C.prog.underlying t0=some .bool) (hpt:zvq C.prog fn.params.toList=some ptys) (hrd : ∀ t∈fn.params.toList,C.prog.readableRec t=true/\t<C.prog.types.size)
  (hrun : ∀ pvs,zdn (fun p c=>zm6 p.1 p.2 c) ptys pvs->RUN T f pvs=some ([.v (.bool true)],[])) :
  ReturnsInHanded {} C os f .any (s.pre6 enc C.prog fn conds false) (s.post enc C.prog fn false true false false) :=
 returnsInHanded_of_change_sized (C:=C) own started noInit hfn witness fun _ _ _ _ _ _ hval hW _ _ _=>qhl hT hT0 hl hvars hspec hres ht0 hpt hrd hrun hval hW
end Go.Pe
namespace Go.Pe
open Go
def yto:Array Value->Sem Value:=fun args=>do
 let (x, y, b) <- Extern.MathBitsCarry.three "Sub64" args
 pure (Extern.MathBitsCarry.pair ((x+Extern.MathBitsCarry.m64-y-b) % Extern.MathBitsCarry.m64) (if x<y+b then 1 else 0))
theorem qey {P:Program} (x y b:Nat) (hb:b<=1) (w:World) :
  (yto #[.int .u64 x,.int .u64 y,.int .u64 b]).run P w =
   .ok (.tuple #[.int .u64 (((x+18446744073709551616-y-b) % 18446744073709551616:Nat):Int),.int .u64 ((if x<y+b then 1 else 0:Nat):Int)]) w:=by
 have:b=0\/b=1:=by omega
 rcases this with rfl | rfl <;> rfl
theorem qg2 {P : Program} {f : Nat} {fn : Func} (hf : P.funcs[f]? = some fn) (hname : (fn.name == "runtime.NumGoroutine") = false) (hb : fn.body.isNone = true) (hn : Extern.findNext fn = none) (he : Extern.find fn = some add64Entry) : zgi P f (.ext zvc) := by
 intro xs ys h w;unfold zvc at h;split at h
 ·rename_i x y c;split at h
  ·rename_i hc;cases h;rw [run_callFunc_extern hf hname hb hn he,run_add64 x y c hc.1 hc.2.1 hc.2.2.1 hc.2.2.2];rfl
  ·cases h
 ·cases h
theorem qci {P : Program} {f : Nat} {fn : Func} (hf : P.funcs[f]? = some fn) (hname : (fn.name == "runtime.NumGoroutine") = false) (hb : fn.body.isNone = true) (hn : Extern.findNext fn = none) (he : Extern.find fn = some yto) : zgi P f (.ext zu8) := by
 intro xs ys h w;unfold zu8 at h;split at h
 ·rename_i x y c;split at h
  ·rename_i hc;cases h;obtain ⟨h1,h2,h3,h4,h5,h6⟩:=hc;obtain ⟨X,rfl⟩:=Int.eq_ofNat_of_zero_le h1;obtain ⟨Y,rfl⟩:=Int.eq_ofNat_of_zero_le h2;obtain ⟨B,rfl⟩:=Int.eq_ofNat_of_zero_le h5;rw [run_callFunc_extern hf hname hb hn he,qey X Y B (by omega)];simp only [Result.andThen,zja,List.toArray]
   congr 5
   ·congr 1; omega
   ·split <;> split <;> first | rfl | (exfalso; omega)
  ·cases h
 ·cases h
end Go.Pe
namespace Go.Pe
open Go
theorem z87 {P:Program}:zhk P (fun _=>[]) (fun _ _=>none):=fun _ => .inl fun _ _ h=>by cases h
def slU:Option TypeDesc->Bool
 | some (.slice _)=>true
 | _=>false
theorem qe7 {x:Option TypeDesc} (h:slU x=true) : ∃ e,x=some (.slice e):=by
 unfold slU at h;split at h
 ·exact ⟨_,rfl⟩
 ·cases h
theorem yde {P:Program} {f:Nat} {func:Func} {c0 cA cB:Code} {rid:Nat} {o1 o2:Oper} {tq x y:Operand} {t yt:TypeId} {vars:List Nat} {sz by_:Nat} {z:List PV}
  (h1:P.funcs[f]?=some func) (h3:func.body=some (.seq c0 (.seq (.seq (.region rid #[o1,o2] false) (.cond tq cA .skip)) cB)))
  (q2 : o2.op = .binOp .eql t x y yt) (qy : y = .const (.slice none 0 0)) (h2 : (func.name == "runtime.NumGoroutine") = false)
  (k0:zer P vars func.ntmps c0=some (.reg [oV 2 (.mv (.C .e0))]))
  (kA:zer P vars func.ntmps cA=some (.seq (.reg [oV 2 (.mv (.C .e0))]) .ret))
  (kB:zer P vars func.ntmps cB=some (.seq (.reg [oE 5 (.bslice 0 sz z []),oE 6 (.mv (.V 0)),oE 7 (.app by_ sz (.E 5) (.E 6)),oV 2 (.mv (.E 7))]) .ret))
  (kr:zjq P vars func.results.toList func.resultTypes.toList=some [.tmp [sz] 2])
  (q1:zvh P vars func.ntmps #[o1,o2] o1=some (oE 3 (.mv (.V 0)))) (q2g:o2.guard=none) (qd:zi5 vars func.ntmps o2.dst=some (some (.E 4)))
  (qx:zan vars x=some (.E 3)) (qt:slU (P.underlying t)=true) (qq:zan vars tq=some (.E 4)) :
  zgi P f (.known [] (zic sz by_)):=by
 obtain ⟨e,qt⟩:=qe7 qt;intro args r hr;obtain ⟨es,rfl,hv,hroom,rfl⟩ : ∃ es,args=[.sl sz es]/\zch es=true/\zag by_ es.length=true/\r=([.own sz es],[]):=by
  unfold zic at hr;split at hr
  ·split at hr
   ·rename_i s es h;cases hr;exact ⟨es,by rw [h.1],h.2.1,h.2.2,rfl⟩
   ·cases hr
  ·cases hr
 refine ⟨fun vals w=>by
  simp at h2;simp [callFunc,h1,h3,h2],?_⟩
 intro w Z vals l hm hS;have hst:zkz [.sl sz es]=some { st0 with V:=fun k=>[PV.sl sz es].getD k .undef }:=rfl;obtain ⟨hsr,hnx⟩:=yri (P:=P) (vars:=vars) (nt:=func.ntmps) hm hS hst;have hl:l.length=0:=hnx.symm;refine calls_of_wp h1 h3 ?_;have he0:evC (fun _=>[]) (fun _ _=>none) 1 (.reg [oV 2 (.mv (.C .e0))]) { st0 with V:=fun k=>[PV.sl sz es].getD k .undef }=some (.normal,{ st0 with V:=upd (fun k=>[PV.sl sz es].getD k .undef) 2 .e0 }):=rfl;refine wp_seq (wp_mono (z80 (C:=zgn P vars func.ntmps w Z l) z87 1 c0 _ _ w _ _ _ k0 he0 hsr) fun e' a' w' hq => ?_);obtain ⟨rfl,g',hs⟩:=hq;simp only [ycu,Exit.then];refine wp_seq (wp_seq (wp_region ?_));obtain ⟨S0,hS0⟩ : ∃ S0:St,S0 = { st0 with V:=upd (fun k=>[PV.sl sz es].getD k .undef) 2 .e0 }:=⟨_,rfl⟩;have hs0:SR (zgn P vars func.ntmps w Z l) a' w' g' { S0 with E:=fun _ => .undef }:=by rw [hS0]; exact hs.clear
 show wpOps P #[o1,o2] _ [0,1] a' w';simp only [zvh] at q1;obtain ⟨iop,j1,q1⟩:=bA q1;obtain ⟨d,j2,q1⟩:=bA q1;simp only [bB] at q1;obtain ⟨ig,j3,q1⟩:=q1;cases q1;have hw:=z9i hs0 (ops := #[o1,o2]) j3 (t:=true) rfl;simp only [wpOps,List.getElem?_toArray,List.getElem?_cons_zero];rw [if_pos hw];have hV0:S0.V 0 = .sl sz es:=by rw [hS0]; rfl
 refine .inl (yc9 hs0 (z87 (P:=P)) j1 (r:=(.sl sz es,{ S0 with E:=fun _ => .undef })) (by show some (S0.V 0,_)=_; rw [hV0]) _ _ fun u1 w1 g1 hs1 hv1 => ?_);have hs1:=hs1.put hv1 j2;have hx:=hs1.opd qx;obtain ⟨p,cap,hu,hle⟩:=zam.len (show zam w1 g1.Z (.sl sz es) _ from hx) rfl;simp only [wpOps,List.getElem?_toArray,List.getElem?_cons_succ,List.getElem?_cons_zero];have hw2:Region.wanted o2 (yielded #[o1,o2] (a'.put o1.dst u1).tmps)=true:=by unfold Region.wanted; rw [q2g]
 rw [if_pos hw2];have hop:zat (zgn P vars func.ntmps w Z l) o2 (a'.put o1.dst u1) w1 (.v (.bool p.isNone)) ({ S0 with E:=fun _ => .undef }.put (some (.E 3)) (.sl sz es)):=by
  refine zat.value (u := .bool p.isNone) ?_ hs1 rfl;have e1:(do eqGuard .eql t x y ((a'.put o1.dst u1).eval x) ((a'.put o1.dst u1).eval y); binOp .eql t ((a'.put o1.dst u1).eval x) ((a'.put o1.dst u1).eval y):Sem Value).run P w1 = .ok (.bool p.isNone) w1:=by
   have hy:(a'.put o1.dst u1).eval y = .slice none 0 0:=by rw [qy]; rfl
   rw [hu,hy];simp [eqGuard,Lib.run_eql_slice_nil w1 t e p es.length cap 0 0 qt]
  simp only [execOp,q2];rw [Sem.run_bind];have e2:=e1;show Result.andThen _ _=_;rw [show (zgn P vars func.ntmps w Z l).P=P from rfl,e2]; rfl
 refine .inl (hop _ _ fun u2 w2 g2 hs2 hv2 => ?_);have hs2:=hs2.put hv2 qd;have hq:=hs2.opd qq;generalize hb:p.isNone=b at *;have hq:zap w2 g2 _ (.v (.bool b)) _:=hq;have hl0:l=[]:=List.eq_nil_of_length_eq_zero hl;have fin : ∀ (a3:Act) (w3:World) (g3:Gh) (s3:St),SR (zgn P vars func.ntmps w Z l) a3 w3 g3 s3->zf8 ⟨[],[.tmp [sz] 2],.skip⟩ l.length s3=some ([.own sz es],[])->bodyPost P func (fun e w'=>match e with
   | .returned v => ∃ Z' l' lr us,zp9 w Z l [.own sz es] [] v w' Z' l' lr us
   | _=>False) .ret a3 w3:=by
  intro a3 w3 g3 s3 h4 hf;obtain ⟨us,lr,g9,e1,e2⟩:=yo6 h4 (fn:=func) (ifn:=⟨[],[.tmp [sz] 2],.skip⟩) kr hf;exact ⟨h4.df,_,e1,_,_,lr,us,e2⟩
 show (Code.cond tq cA .skip).wp P _ _ _;refine wp_cond hq.v ?_;subst hl0;cases b with
 | true =>
  have hes:es=[]:=by
   cases es with
   | nil=>rfl
   | cons c cs =>
    exfalso
    have h5:=(show zam w1 g1.Z (.sl sz (c::cs)) _ from hx);rw [hu] at h5;obtain ⟨_,b',off,_,h6,_⟩:=zam.cell h5 rfl (i:=0) (cs:=c) rfl;subst h6;cases hb
  subst hes;have heA : ∃ s3,evC (fun _=>[]) (fun _ _=>none) 1 (.seq (.reg [oV 2 (.mv (.C .e0))]) .ret) (({ S0 with E:=fun _ => .undef }.put (some (.E 3)) (.sl sz [])).put (some (.E 4)) (.v (.bool true)))=some (.ret,s3)/\zf8 ⟨[],[.tmp [sz] 2],.skip⟩ 0 s3=some ([.own sz []],[]):=by
   subst hS0;refine ⟨_,rfl,?_⟩;simp [st0]
  obtain ⟨s3,heA,hfA⟩:=heA;refine wp_mono (z80 (C:=zgn P vars func.ntmps w Z []) z87 1 cA _ _ w2 _ _ _ kA heA hs2) fun e3 a3 w3 hq3 => ?_;obtain ⟨rfl,g3,h3'⟩:=hq3;exact fin a3 w3 g3 s3 h3' hfA
 | false =>
  have heB : ∃ s3,evC (fun _=>[]) (fun _ _=>none) 1 (.seq (.reg [oE 5 (.bslice 0 sz z []),oE 6 (.mv (.V 0)),oE 7 (.app by_ sz (.E 5) (.E 6)),oV 2 (.mv (.E 7))]) .ret) (({ S0 with E:=fun _ => .undef }.put (some (.E 3)) (.sl sz es)).put (some (.E 4)) (.v (.bool false)))=some (.ret,s3)/\zf8 ⟨[],[.tmp [sz] 2],.skip⟩ 0 s3=some ([.own sz es],[]):=by
   subst hS0;cases h:evC (fun _=>[]) (fun _ _=>none) 1 (.seq (.reg [oE 5 (.bslice 0 sz z []),oE 6 (.mv (.V 0)),oE 7 (.app by_ sz (.E 5) (.E 6)),oV 2 (.mv (.E 7))]) .ret) (({ { st0 with V:=upd (fun k=>[PV.sl sz es].getD k .undef) 2 .e0 } with E:=fun _ => .undef }.put (some (.E 3)) (.sl sz es)).put (some (.E 4)) (.v (.bool false))) with
   | none =>
    exfalso
    simp [evC,zdq,zc7,Ex.go,st0,hv,hroom] at h
   | some r =>
    obtain ⟨e3,s3⟩:=r;simp [evC,zdq,zc7,Ex.go,st0,hv,hroom] at h;obtain ⟨rfl,rfl⟩:=h;refine ⟨_,rfl,?_⟩;simp
  obtain ⟨s3,heB,hfB⟩:=heB;refine wp_skip ?_;show cB.wp P _ _ _;refine wp_mono (z80 (C:=zgn P vars func.ntmps w Z []) z87 1 cB _ _ w2 _ _ _ kB heB hs2) fun e3 a3 w3 hq3 => ?_;obtain ⟨rfl,g3,h3'⟩:=hq3;exact fin a3 w3 g3 s3 h3' hfB
end Go.Pe
namespace Go.Pe
open Go
abbrev qax (P:Program) (f:Nat):Prop := ∀ (blk off cap:Nat) (zs:List Int) (w:World),Go.Sort.Holds (Value.int .i64) w blk off zs.toArray->blk<w.heap.size->zs.length<4611686018427387904 ->
 Calls P f #[.slice (some ⟨blk,off,none⟩) zs.length cap] w fun e w'=>e = .returned (.tuple #[])/\∃ n os,w'=Go.Sort.grow (Go.Sort.putRow (Value.int .i64) (Go.Sort.ahead w n) blk off (zs.mergeSort fun x y=>decide (x<=y)).toArray) os
abbrev SortNone (P:Program) (f:Nat):Prop := ∀ (p:Option Addr) (cap:Nat) (w:World),Calls P f #[.slice p 0 cap] w fun e w'=>e = .returned (.tuple #[])/\w'=w
abbrev qb5 (P:Program) (f:Nat):Prop := ∀ (blk off cap:Nat) (zs:List Int) (w:World),Go.Sort.Holds (Value.int .i64) w blk off zs.toArray->zs.length<=9223372036854775807->zs.length<=cap ->
 Calls P f #[.slice (some ⟨blk,off,none⟩) zs.length cap] w fun e w'=>e = .returned (.slice (some ⟨blk,off,none⟩) (Lib.compact zs).length cap)/\∃ q,w'=Go.Sort.putRow (Value.int .i64) (Go.Sort.ahead w q) blk off (Lib.compact zs++List.replicate (zs.length-(Lib.compact zs).length) 0).toArray
abbrev qb8 (P:Program) (f:Nat):Prop := ∀ (p:Option Addr) (cap:Nat) (w:World),Calls P f #[.slice p 0 cap] w fun e w'=>e = .returned (.slice p 0 cap)/\w'=w
theorem yed (l:List Int):(zct l).flatten=l.map fun n => .v (.int .i64 n):=by
 induction l with
 | nil=>rfl
 | cons n l ih=>simp only [zct,List.map_cons,List.flatten_cons] at ih ⊢; rw [ih]; rfl
theorem qaq (off:Nat) (d:Array Int) (c:Array Value) (k:Nat) (hk:k<d.size) (hc:off+k<c.size):(Go.Sort.putCells (Value.int .i64) off d c)[off+k]?=some (.int .i64 d[k]!):=by
 unfold Go.Sort.putCells;rw [Array.getElem?_mapIdx,Array.getElem?_eq_getElem hc,Option.map_some,if_pos (by omega)];have:off+k-off=k:=by omega
 rw [this]
theorem ybd (w:World) (n b off:Nat) (d:Array Int) {cur:Array Value} {t:TypeId} {fr:Nat×Nat} (hb:w.heap[b]?=some (.cells cur t fr)):(Go.Sort.putRow (Value.int .i64) (Go.Sort.ahead w n) b off d).heap[b]?=some (.cells (Go.Sort.putCells (Value.int .i64) off d cur) t fr)/\∀ k,k≠b->(Go.Sort.putRow (Value.int .i64) (Go.Sort.ahead w n) b off d).heap[k]?=w.heap[k]?:=by
 unfold Go.Sort.putRow Go.Sort.mapBlock;simp only [Go.Sort.heap_ahead,Array.getElem?_modify];refine ⟨by simp [hb,Go.Sort.onCells],fun k hk=>by rw [if_neg (fun h=>hk h.symm)]⟩
theorem yrs {w:World} {F:Nat->Prop} {zs:List Int} {u:Value} (h:zal w F (.own 1 (zct zs)) u) (h0:zs≠[]) : ∃ (b off cap:Nat) (cur:Array Value) (t:TypeId),u = .slice (some ⟨b,off,none⟩) zs.length cap/\F b/\zs.length<=cap/\w.heap[b]?=some (.cells cur t (0,0))/\off+cap<=cur.size/\Go.Sort.Holds (Value.int .i64) w b off zs.toArray:=by
 generalize he:zct zs=es at h;cases h with
 | nil=>exact absurd (by cases zs with | nil=>rfl | cons=>cases he) h0
 | row hn hF hG hd hs hcap hb hsz hc hr =>
  subst he;rename_i b off cap n cur t us G;have hlen:(zct zs).length=zs.length:=by simp [zct]
  subst hn;refine ⟨b,off,cap,cur,t,by rw [hlen],hF,by omega,hb,by omega,fun j hj => ?_⟩;have hj':j<zs.length:=by simpa using hj
  have e1:(zct zs).flatten[j]?=some (.v (.int .i64 zs[j])):=by rw [yed]; simp [hj']
  have e2:=hc j _ e1;have e3:=hr j _ e1;have e4:us j = .int .i64 zs[j]:=by
   generalize us j=y at e3;cases e3; rfl
  refine ⟨?_,?_⟩
  ·unfold World.cell?;simp only [hb,Option.isSome_none,Bool.false_eq_true,if_false];rw [e2,e4];simp [hj']
  ·unfold World.frozen?;simp only [hb];simp
theorem yp1 {w w':World} {F:Nat->Prop} {zs:List Int} {d:Array Int} {b off cap m n:Nat} {cur:Array Value} {t:TypeId} (hF:F b) (hb:w.heap[b]?=some (.cells cur t (0,0))) (hsz:off+cap<=cur.size) (hw:w'.heap[b]?=(Go.Sort.putRow (Value.int .i64) (Go.Sort.ahead w n) b off d).heap[b]?) (hm:m=zs.length) (hcap:m<=cap) (hd : ∀ k,k<zs.length->k<d.size/\zs[k]?=some d[k]!):zal w' F (.own 1 (zct zs)) (.slice (some ⟨b,off,none⟩) m cap):=by
 have hb':=(ybd w n b off d hb).1;rw [<- hw] at hb';refine .row (us:=fun k => .int .i64 d[k]!) (G:=fun _ _=>False) (by simp [zct,hm]) hF (fun k x h=>h.elim) (fun k k' x h=>h.elim) (fun e he => ?_) hcap hb' (by unfold Go.Sort.putCells; simp; omega) (fun k c hk => ?_) (fun k c hk => ?_)
 ·unfold zct at he;obtain ⟨x,_,rfl⟩:=List.mem_map.mp he;rfl
 ·rw [yed] at hk;have hk':k<zs.length:=by have:=(bD hk).1; simpa using this
  exact qaq off d cur k (hd k hk').1 (by omega)
 ·rw [yed] at hk;have hk':k<zs.length:=by have:=(bD hk).1; simpa using this
  rw [List.getElem?_map,(hd k hk').2] at hk;simp only [Option.map_some,bC] at hk;subst hk;exact .v rfl
theorem yut {w:World} {Z:Nat->Prop} {es:List (List PV)} {vals:List Value} {l:List Hd} (h:zdz (InA w Z) [.own 1 es] vals l) : ∃ (u:Value) (F:Nat->Prop),vals=[u]/\l=[(F,u)]/\zal w F (.own 1 es) u:=by
 cases h with
 | cons h t =>
  cases t;obtain ⟨F,rfl,h⟩:=(h:InC w Z (.own 1 es) _ _);exact ⟨_,F,rfl,by simp,h⟩
theorem yuj {P : Program} {f : Nat} {func : Func} {c : Code} (h1 : P.funcs[f]? = some func) (h3 : func.body = some c) (h2 : (func.name == "runtime.NumGoroutine") = false) : zva P f := fun vals w => by
 simp at h2;simp [callFunc,h1,h3,h2]
theorem qdc {w:World} {Z:Nat->Prop} {F:Nat->Prop} {u:Value} {es:List (List PV)} (hS:Sep w Z [(F,u)]) (h:zal w F (.own 1 es) u):zp9 w Z [(F,u)] [] [.own 1 es] (.tuple #[]) w Z [(F,u)] [] []:=by
 refine ⟨rfl,rfl,rfl,Nat.le_refl _,fun k _ _=>rfl,rfl,fun k p p' h1 h2=>by rw [h1] at h2; cases h2; rfl,rfl,fun k c p' hk hk' => ?_,rfl,.nil,by simpa using hS,fun p hp x hx => .inl ⟨p,by simpa using hp,hx⟩,fun x hx => .inl hx,fun x hx=>hx⟩;cases k with
 | zero=>simp at hk hk'; subst hk hk'; exact h
 | succ k=>simp at hk
theorem qdv {P : Program} {f : Nat} {func : Func} {c : Code} (h1 : P.funcs[f]? = some func) (h3 : func.body = some c) (h2 : (func.name == "runtime.NumGoroutine") = false) (hS : qax P f) (hN : SortNone P f) : zgi P f (.known [true] zp6) := by
 intro args r hr;obtain ⟨zs,rfl,hl,rfl⟩ : ∃ zs,args=[.own 1 (zct zs)]/\zs.length<4611686018427387904/\r=([],[.own 1 (zct (zit zs))]):=by
  unfold zp6 at hr;split at hr
  ·obtain ⟨l,e1,hr⟩:=bA hr;split at hr
   ·rename_i hl;cases hr;exact ⟨l,by rw [yex e1],hl,rfl⟩
   ·cases hr
  ·cases hr
 refine ⟨yuj h1 h3 h2,fun w Z vals l hm hSep => ?_⟩;obtain ⟨u,F,hv,rfl,hR⟩:=yut hm;have hv:vals = #[u]:=by have:=congrArg List.toArray hv; simpa using this
 subst hv;have hlen:(zit zs).length=zs.length:=by unfold zit; exact List.length_mergeSort _
 by_cases h0:zs=[]
 ·subst h0;have e0:zit []=[]:=List.eq_nil_of_length_eq_zero (by rw [hlen]; rfl);rw [e0];obtain ⟨a,n,cap,rfl⟩:=hR.is_slice;have hn:n=0:=by
   cases hR with
   | nil=>rfl
   | row hn=>simpa [zct] using hn
  subst hn;refine (hN a cap w).mono fun e w' he => ?_;obtain ⟨rfl,rfl⟩:=he;exact ⟨Z,_,[],[],qdc hSep hR⟩
 ·obtain ⟨b,off,cap,cur,t,rfl,hF,hcap,hb,hsz,hH⟩:=yrs hR h0;have hbl:b<w.heap.size:=(Array.getElem?_eq_some_iff.mp hb).1;refine (hS b off cap zs w hH hbl hl).mono fun e w' he => ?_;obtain ⟨rfl,n,os,rfl⟩:=he;have hszz:(Go.Sort.putRow (Value.int .i64) (Go.Sort.ahead w n) b off (zs.mergeSort fun x y=>decide (x<=y)).toArray).heap.size=w.heap.size:=by simp
  have hat : ∀ k,k<w.heap.size->(Go.Sort.grow (Go.Sort.putRow (Value.int .i64) (Go.Sort.ahead w n) b off (zs.mergeSort fun x y=>decide (x<=y)).toArray) os).heap[k]?=(Go.Sort.putRow (Value.int .i64) (Go.Sort.ahead w n) b off (zs.mergeSort fun x y=>decide (x<=y)).toArray).heap[k]?:=fun k hk=>Go.Sort.heap_grow_old _ _ (by rw [hszz]; exact hk);have hrow:zal (Go.Sort.grow (Go.Sort.putRow (Value.int .i64) (Go.Sort.ahead w n) b off (zs.mergeSort fun x y=>decide (x<=y)).toArray) os) F (.own 1 (zct (zit zs))) (.slice (some ⟨b,off,none⟩) zs.length cap):=by
   refine yp1 (n:=n) (d:=(zs.mergeSort fun x y=>decide (x<=y)).toArray) hF hb hsz (hat b hbl) hlen.symm hcap (fun k hk => ?_);have hk':k<(zs.mergeSort fun x y=>decide (x<=y)).length:=hk;exact ⟨by simpa using hk',by unfold zit; rw [bG hk']; simp [bG hk']⟩
  refine ⟨Z,_,[],[],rfl,rfl,rfl,?_,fun k hk hno => ?_,rfl,fun k p p' h1 h2=>by rw [h1] at h2; cases h2; rfl,rfl,fun k c p' hk hk' => ?_,rfl,.nil,?_,fun p hp x hx => .inl ⟨p,by simpa using hp,hx⟩,fun x hx => .inl hx,fun x hx=>hx⟩
  ·rw [Go.Sort.size_grow,hszz]; omega
  ·rw [hat k hk];refine (ybd w n b off _ hb).2 k (fun e => ?_);have h9:=hno (F,Value.slice (some ⟨b,off,none⟩) zs.length cap) (by simp);subst e;exact h9 hF
  ·cases k with
   | zero=>simp at hk hk'; subst hk hk'; exact hrow
   | succ k=>simp at hk
  ·have hs2:=hSep;refine ⟨fun x hx => ?_,fun k p x hk hx => ?_,fun k p x hk hx => ?_,fun i j p q x hi hj => ?_⟩
   ·have:=hs2.zlt x hx; rw [Go.Sort.size_grow,hszz]; omega
   ·have:=hs2.lt k p x (by simpa using hk) hx; rw [Go.Sort.size_grow,hszz]; omega
   ·exact hs2.nz k p x (by simpa using hk) hx
   ·exact hs2.dis i j p q x (by simpa using hi) (by simpa using hj)
theorem qia (w:World) (n b off:Nat) (d:Array Int):(Go.Sort.putRow (Value.int .i64) (Go.Sort.ahead w n) b off d).os=w.os/\(Go.Sort.putRow (Value.int .i64) (Go.Sort.ahead w n) b off d).tape=w.tape/\(Go.Sort.putRow (Value.int .i64) (Go.Sort.ahead w n) b off d).output=w.output/\(Go.Sort.putRow (Value.int .i64) (Go.Sort.ahead w n) b off d).heap.size=w.heap.size:=⟨rfl,rfl,rfl,by simp⟩
theorem qiq (zs:List Int):(Lib.compact zs).length<=zs.length:=by
 unfold Lib.compact Lib.compactUpTo;rw [List.length_map];exact bJ (List.length_filter_le _ _) (by simp)
theorem qb0 {P : Program} {f : Nat} {func : Func} {c : Code} (h1 : P.funcs[f]? = some func) (h3 : func.body = some c) (h2 : (func.name == "runtime.NumGoroutine") = false) (hS : qb5 P f) (hN : qb8 P f) : zgi P f (.known [true] zp2) := by
 intro args r hr;obtain ⟨zs,rfl,hl,rfl⟩ : ∃ zs,args=[.own 1 (zct zs)]/\zs.length<4611686018427387904/\r=([.own 1 (zct (Lib.compact zs))],[.undef]):=by
  unfold zp2 at hr;split at hr
  ·obtain ⟨l,e1,hr⟩:=bA hr;split at hr
   ·rename_i hl;cases hr;exact ⟨l,by rw [yex e1],hl,rfl⟩
   ·cases hr
  ·cases hr
 refine ⟨yuj h1 h3 h2,fun w Z vals l hm hSep => ?_⟩;obtain ⟨u,F,hv,rfl,hR⟩:=yut hm;have hv:vals = #[u]:=by have:=congrArg List.toArray hv; simpa using this
 subst hv;have hlen:=qiq zs;have fin : ∀ (w':World) (u':Value),w'.os=w.os->w'.tape=w.tape->w'.output=w.output->w'.heap.size=w.heap.size->(∀ k,k<w.heap.size->¬ F k->w'.heap[k]?=w.heap[k]?)->zal w' F (.own 1 (zct (Lib.compact zs))) u'->∃ Z' l' lr us,zp9 w Z [(F,u)] [.own 1 (zct (Lib.compact zs))] [.undef] u' w' Z' l' lr us:=by
  intro w' u' g1 g2 g3 g4 g5 g6;refine ⟨Z,[(fun _=>False,u)],[(F,u')],[u'],g1,g2,g3,by omega,fun k hk hno=>g5 k hk (hno (F,u) (by simp)),rfl,fun k p p' h1 h2 => ?_,rfl,fun k c p' hk hk' => ?_,rfl,?_,?_,fun p hp x hx => ?_,fun x hx => .inl hx,fun x hx=>hx⟩
  ·cases k with
   | zero=>simp at h1 h2; subst h1 h2; rfl
   | succ k=>simp at h1
  ·cases k with
   | zero=>simp at hk hk'; subst hk hk'; exact fun x h=>h
   | succ k=>simp at hk
  ·have:zdz (InA w' Z) [.own 1 (zct (Lib.compact zs))] [u'] ([(F,u')]++[]) := .cons (show InC w' Z (.own 1 _) u' _ from ⟨F,rfl,g6⟩) .nil;simpa using this
  ·refine ⟨fun x hx => ?_,fun k p x hk hx => ?_,fun k p x hk hx => ?_,fun i j p q x hi hj hpx hqx => ?_⟩
   ·have:=hSep.zlt x hx; omega
   ·rcases k with _ | _ | k
    ·simp at hk; subst hk; exact hx.elim
    ·simp at hk; subst hk;have:=hSep.lt 0 (F,u) x rfl hx; omega
    ·simp at hk
   ·rcases k with _ | _ | k
    ·simp at hk; subst hk; exact hx.elim
    ·simp at hk; subst hk;exact hSep.nz 0 (F,u) x rfl hx
    ·simp at hk
   ·rcases i with _ | _ | i
    ·simp at hi; subst hi; exact hpx.elim
    ·rcases j with _ | _ | j
     ·simp at hj; subst hj; exact hqx.elim
     ·rfl
     ·simp at hj
    ·simp at hi
  ·simp only [List.cons_append,List.nil_append,List.mem_cons,List.not_mem_nil,or_false] at hp;rcases hp with rfl | rfl
   ·exact hx.elim
   ·exact .inl ⟨(F,u),by simp,hx⟩
 by_cases h0:zs=[]
 ·subst h0;have e0:Lib.compact ([]:List Int)=[]:=List.eq_nil_of_length_eq_zero (by have:=hlen; simpa using this);obtain ⟨a,n,cap,rfl⟩:=hR.is_slice;have hn:n=0:=by
   cases hR with
   | nil=>rfl
   | row hn=>simpa [zct] using hn
  subst hn;refine (hN a cap w).mono fun e w' he => ?_;obtain ⟨rfl,rfl⟩:=he;exact fin _ _ rfl rfl rfl rfl (fun _ _ _=>rfl) (by rw [e0]; exact hR)
 ·obtain ⟨b,off,cap,cur,t,rfl,hF,hcap,hb,hsz,hH⟩:=yrs hR h0;refine (hS b off cap zs w hH (by omega) hcap).mono fun e w' he => ?_;obtain ⟨rfl,n,rfl⟩:=he;generalize hD:(Lib.compact zs++List.replicate (zs.length-(Lib.compact zs).length) 0).toArray=D;obtain ⟨r1,r2,r3,r4⟩:=qia w n b off D;refine fin (Go.Sort.putRow (Value.int .i64) (Go.Sort.ahead w n) b off D) (.slice (some ⟨b,off,none⟩) (Lib.compact zs).length cap) r1 r2 r3 r4 (fun k hk hf=>(ybd w n b off D hb).2 k (fun e=>hf (by rw [e]; exact hF))) ?_;refine yp1 (n:=n) (d:=D) hF hb hsz rfl rfl (by omega) (fun k hk => ?_);have hk2:k<(Lib.compact zs++List.replicate (zs.length-(Lib.compact zs).length) (0:Int)).length:=by simp; omega
  subst hD;refine ⟨by simpa using hk2,?_⟩;rw [bG hk];simp [List.getElem?_append_left hk,bG hk]
end Go.Pe
