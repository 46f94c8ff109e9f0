/- What the evaluator answers,the function answers in the model,wherever it is called (z1p),if each compact text is its function (zjr); no other condition. -/
import Derived.Below
import Derived.ArgAppend
import Derived.Laws.Tables
import Derived.Laws.StructEq
import Derived.Laws.BytesString
import Derived.Laws.CopyRow
import Derived.Laws.MakeOwn
import Derived.Orders
import Derived.WalkKit
import Derived.ProofKit
import Derived.OpenShut
import Derived.ChangeOld
import Derived.Carry
import Derived.SizedLaws
import Derived.Laws.Externs
import Derived.Lib.SliceRun
import Derived.Sort.Grow
import Derived.Lib.SlicesCompact
import Derived.Test.YtadpenaldhkjcaaGreatEvB1
set_option linter.all false
namespace Go.Pe
open Go
def Sg (C:Ctx) (ops:Array Oper) (l:List (zab×Nat×Nat)) (st0 f:St) (tr:List (PV×St)) (D A:Nat→Bool) (a:Act) (w:World):Prop :=
 ∃ g m blk,(zbs l tr f)[(List.range l.length).countP fun j=>zba l j && A j]?=some m ∧
  SR C a w g (mD l A (za1 l (fun j=>D j && !A j) st0) f m)∧zum C ops l f (fun j=>D j && !A j) a w g (mD l A (za1 l (fun j=>D j && !A j) st0) f m) blk
theorem zaw.mem {C:Ctx} {w:World} {g:Gh} {st st':St} {X Y:Nat→Prop} (h:zaw C w g st X) (hS:st'.S=st.S) (hX : ∀ x,Y x→X x):zaw C w g st' Y :=
 ⟨fun o x hl hf hx=>h.sep o x (by rw [← hS]; exact hl) hf (hX x hx),fun x hx=>h.nz x (hX x hx),fun x hx=>h.lt x (hX x hx),fun x hx=>h.own x (hX x hx)⟩
def At (l:List (zab×Nat×Nat)) (D:Nat→Bool) (t j:Nat):Bool:=AD l D j || (Lz l j && decide (j<t))
theorem zgb {l:List (zab×Nat×Nat)} {D:Nat→Bool} {t j:Nat}:At l D t j=true↔AD l D j=true∨(Lz l j=true∧j<t):=by
 unfold At; simp only [Bool.or_eq_true,Bool.and_eq_true,decide_eq_true_eq]
section
variable {C:Ctx} {md:Region.Mode} {ops:Array Oper} {l:List (zab×Nat×Nat)} {pre:Nat→Nat→Bool} {modes:Nat→List Bool} {R:zaj} {st0 f:St} {tr:List (PV×St)} {D:Nat→Bool} {a:Act} {w:World}
theorem yxc {t:Nat} (hd:D t=true) (h:AD l D t=false):Lz l t=true∧∀ k,t<k→Ln l k=true→D k=false:=by
 have h' : ¬ (D t=true∧(Lz l t=true→∃ k,t<k∧Ln l k=true∧D k=true)):=fun e=>by rw [zc9.mpr e] at h; cases h
 have h1 : ¬ (Lz l t=true→∃ k,t<k∧Ln l k=true∧D k=true):=fun e=>h' ⟨hd,e⟩
 refine ⟨?_,fun k hk hl => ?_⟩
 ·cases hz:Lz l t with
  | true=>rfl
  | false=>exact (h1 fun e=>by rw [hz] at e; cases e).elim
 ·cases hD:D k with
  | false=>rfl
  | true=>exact (h1 fun _=>⟨k,hk,hl,hD⟩).elim
theorem y0z (hk:DOk C md ops l pre) (hrun:zdv modes R l [] [] st0 f tr) (hcl : ∀ i j,D i=true→pre i j=true→D j=true) {t:Nat} (hz:Lz l t=true) (hd:D t=true) (hn:AD l D t=false) (hline : ∀ j,Ln l j=true→j<t→D j=true)
  (h:Sg C ops l st0 f tr D (At l D t) a w):Sg C ops l st0 f tr D (At l D (t+1)) a w:=by
 obtain ⟨g,m,blk,hm,hs,hp⟩:=h
 have hLt:=z22 hz
 have hil:t<l.length:=by
  unfold Lz at hz
  cases hx:l[t]? with
  | none=>rw [hx] at hz; cases hz
  | some q=>exact (List.getElem?_eq_some_iff.mp hx).1
 obtain ⟨q,hq⟩ : ∃ q,l[t]?=some q:=⟨_,List.getElem?_eq_getElem hil⟩
 obtain ⟨io,b0,w0⟩:=q
 obtain ⟨o,ho⟩ : ∃ o,ops[t]?=some o:=⟨_,Array.getElem?_eq_getElem (by rw [← hk.len]; exact hil)⟩
 have hlzi:zfk io.op=true:=by rw [yjw hq] at hz; exact hz
 obtain ⟨hnp,hnq⟩:=yhw hlzi
 have hafter:=(yxc hd hn).2
 have hAt:At l D t t=false:=by
  cases e:At l D t t with
  | false=>rfl
  | true =>
   rcases zgb.mp e with e | ⟨_,e⟩
   ·rw [hn] at e; cases e
   ·omega
 have noafter : ∀ j,pre j t=true→D j=false:=by
  intro j hj
  cases hDj:D j with
  | false=>rfl
  | true =>
   obtain ⟨h1,h2⟩:=hk.lzP j t hz hj
   rcases h2 with h2 | ⟨k,h3,h4,h5⟩
   ·have:=hafter j (hk.lt _ _ hj) (zh3.mpr ⟨h2,h1⟩)
    rw [hDj] at this; cases this
   ·have:=hafter k h3 h4
    rw [hcl j k hDj h5] at this; cases this
 have hpre : ∀ j,pre t j=true→At l D t j=true:=by
  intro j hj
  have hDj:=hcl t j hd hj
  refine zgb.mpr (.inl (zc9.mpr ⟨hDj,fun hzj => ?_⟩))
  have:=(hk.lzP t j hzj hj).1
  rw [hz] at this; cases this
 have hup : ∀ j,At l D t j=true→pre j t=false:=by
  intro j hj
  cases hp:pre j t with
  | false=>rfl
  | true =>
   have hDj:=noafter j hp
   rcases zgb.mp hj with e | ⟨e,_⟩
   ·rw [(zc9.mp e).1] at hDj; cases hDj
   ·have:=(hk.lzP j t hz hp).1
    rw [e] at this; cases this
 have hln : ∀ j,zba l j=true→(At l D t j=true↔j<t):=by
  intro j hj
  constructor
  ·intro ea
   rcases zgb.mp ea with eb | ⟨_,eb⟩
   ·obtain ⟨e1,e2⟩:=zc9.mp eb
    rcases Nat.lt_trichotomy j t with h1 | h1 | h1
    ·exact h1
    ·subst h1; rw [hn] at eb; cases eb
    ·cases hzj:Lz l j with
     | false =>
      have:=hafter j h1 (zh3.mpr ⟨hj,hzj⟩)
      rw [e1] at this; cases this
     | true =>
      obtain ⟨k,e3,e4,e5⟩:=e2 hzj
      have:=hafter k (by omega) e4
      rw [e5] at this; cases this
   ·exact eb
  ·intro e
   cases hzj:Lz l j with
   | true=>exact zgb.mpr (.inr ⟨hzj,e⟩)
   | false=>exact zgb.mpr (.inl (zc9.mpr ⟨hline j (zh3.mpr ⟨hj,hzj⟩) e,fun e=>by rw [hzj] at e; cases e⟩))
 have hs0 : ∀ (y:Opd) (j:Nat),Wrt l j y→pre j t=true→At l D t j=false→y.get (za1 l (fun j=>D j && !At l D t j) st0)=y.get st0:=by
  intro y j hw hp _
  refine zoe fun j' hw' => ?_
  have:=hk.wrt hw hw'
  subst this
  rw [noafter j hp]; rfl
 obtain ⟨x,s,htr,hstep⟩:=ygx hk hrun hq (D:=At l D t) hs0 hpre hup (fun e=>by rw [hnq] at e; cases e) (fun _=>hln) hm
 obtain ⟨_,m',hm',hev⟩:quiet io.op=false∧∃ m',(zbs l tr f)[((List.range l.length).countP fun j=>zba l j && At l D t j)+1]?=some m'∧evG modes R (mD l (At l D t) (za1 l (fun j=>D j && !At l D t j) st0) f m) io=some (x,mD l (At l D t) (za1 l (fun j=>D j && !At l D t j) st0) f m'):=by
  rcases hstep with ⟨e,_⟩ | e
  ·rw [hnq] at e; cases e
  ·exact e
 have hD : ∀ j,At l D (t+1) j=if j=t then true else At l D t j:=by
  intro j
  by_cases e:j=t
  ·subst e; rw [if_pos rfl]; exact zgb.mpr (.inr ⟨hz,by omega⟩)
  ·rw [if_neg e]
   unfold At
   congr 2
   exact decide_eq_decide.mpr (by omega)
 have hxd : ∀ d,io.dst=some d→d.opd.get f=x:=fun d hd=>yhk hrun hk.dst t _ d x s hq htr hd
 have hput : ∀ m':St,(mD l (At l D t) (za1 l (fun j=>D j && !At l D t j) st0) f m').put io.dst x=mD l (At l D (t+1)) (za1 l (fun j=>D j && !At l D (t+1) j) st0) f m':=by
  intro m'
  rw [yg3 hk.dst hq hxd hD hAt]
  refine y0s fun y j hw hj => ?_
  have hjt:j≠t:=by rintro rfl; rw [hD,if_pos rfl] at hj; cases hj
  have e : ∀ P P':Nat→Bool,P j=P' j→y.get (za1 l P st0)=y.get (za1 l P' st0):=by
   intro P P' hPP
   cases hP:P j with
   | true=>rw [zsa hw hP,zsa hw (by rw [← hPP]; exact hP)]
   | false=>rw [zoe fun j' hw'=>by rw [← hk.wrt hw hw']; exact hP,zoe fun j' hw'=>by rw [← hk.wrt hw hw',← hPP]; exact hP]
  refine e _ _ ?_
  simp only [hD j,if_neg hjt]
 have hcnt:(List.range l.length).countP (fun j=>zba l j && At l D (t+1) j)=(List.range l.length).countP (fun j=>zba l j && At l D t j)+1:=by
  rw [z5l (p:=zba l) hil hAt hD,hLt]; rfl
 have hPn : ∀ j,(D j && !At l D (t+1) j)=true→(D j && !At l D t j)=true∧j≠t:=by
  intro j hj
  simp only [Bool.and_eq_true,Bool.not_eq_true'] at hj ⊢
  obtain ⟨h1,h2⟩:=hj
  have hjt:j≠t:=by rintro rfl; rw [hD,if_pos rfl] at h2; cases h2
  rw [hD,if_neg hjt] at h2
  exact ⟨⟨h1,h2⟩,hjt⟩
 have hPt:(D t && !At l D t t)=true:=by simp [hd,hAt]
 obtain ⟨_,_,hdst⟩:=hk.cmp t o _ ho hq
 have hgf : ∀ y∈io.opds,y.get (mD l (At l D t) (za1 l (fun j=>D j && !At l D t j) st0) f m)=y.get f:=by
  intro y hy
  exact zu3 fun j hw=>hpre j (hk.reads hq hnp hy hw)
 have hguard:zc5 (mD l (At l D t) (za1 l (fun j=>D j && !At l D t j) st0) f m) io.guard=zc5 f io.guard:=by
  cases hg:io.guard with
  | none=>rfl
  | some yq =>
   obtain ⟨y,want⟩:=yq
   simp only [zc5]
   rw [hgf y (by simp [zab.opds,zrt,hg])]
 have hself : ∀ u,(∀ k,o.dst=some k→a.tmps.getD k undef=u)→a.put o.dst u=a:=by
  intro u hu
  cases hdk:o.dst with
  | none=>rfl
  | some k =>
   refine y15 (hu k hdk) ?_
   rw [hdk] at hdst
   simp only [zjq] at hdst
   split at hdst
   ·rename_i hlt; exact Nat.lt_of_lt_of_le hlt hs.nt
   ·cases hdst
 have keep : ∀ {g':Gh} {st':St} (blk':Nat→Option Nat),(∀ j,j≠t→blk' j=blk j)→zaw C w g' st' (fun x => ∃ j,(D j && !At l D (t+1) j)=true∧blk' j=some x)→zum C ops l f (fun j=>D j && !At l D (t+1) j) a w g' st' blk':=by
  intro g' st' blk' hb hL
  refine ⟨hL,fun j j' x h1 h2 h3 h4 => ?_,fun j o' q' h1 h2 h3 => ?_⟩
  ·obtain ⟨e1,e2⟩:=hPn j h1
   obtain ⟨e3,e4⟩:=hPn j' h2
   exact hp.inj j j' x e1 e3 (by rw [← hb j e2]; exact h3) (by rw [← hb j' e4]; exact h4)
  ·obtain ⟨e1,e2⟩:=hPn j h1
   rw [hb j e2]
   exact hp.at_ j o' q' e1 h2 h3
 have hpt:=hp.at_ t o _ hPt ho hq
 unfold evG at hev
 rw [hguard] at hev
 rcases hpt with ⟨h1,h2,h3⟩ | ⟨h1,b,cells,ty,h2,h3,h4,h5⟩
 ·rw [h1] at hev
  simp only [Option.bind_some,Bool.false_eq_true,if_false,Option.some.injEq,Prod.mk.injEq] at hev
  obtain ⟨hx,hmm⟩:=hev
  have hs':SR C (a.put o.dst undef) w g ((mD l (At l D t) (za1 l (fun j=>D j && !At l D t j) st0) f m).put io.dst x):=hs.put (by rw [← hx]; exact (show zaq w g _ (.v Go.undef) Go.undef from rfl)) hdst
  rw [hself undef h3,hmm,hput] at hs'
  have e:(mD l (At l D (t+1)) (za1 l (fun j=>D j && !At l D (t+1) j) st0) f m').S=(mD l (At l D t) (za1 l (fun j=>D j && !At l D t j) st0) f m).S:=by
   rw [hmm]; rfl
  refine ⟨g,m',blk,by rw [hcnt]; exact hm',hs',keep blk (fun _ _=>rfl) ?_⟩
  exact hp.loose.mem e fun x hx=>by obtain ⟨j,h6,h7⟩:=hx; exact ⟨j,(hPn j h6).1,h7⟩
 ·rw [h1] at hev
  simp only [Option.bind_some,if_true] at hev
  have hXb : ∃ j,(D j && !At l D t j)=true∧blk j=some b:=⟨t,hPt,h2⟩
  have fin : ∀ {g':Gh} {st':St},st'=mD l (At l D t) (za1 l (fun j=>D j && !At l D t j) st0) f m'→SR C a w g' st'→zaq w g' st' x (z6r io.op b)→zaw C w g' st' (fun y=>(∃ j,(D j && !At l D t j)=true∧blk j=some y)∧y≠b)→Sg C ops l st0 f tr D (At l D (t+1)) a w:=by
   intro g' st' he hs1 hr hL
   subst he
   have hs':=hs1.put hr hdst
   rw [hself _ h5,hput] at hs'
   refine ⟨g',m',blk,by rw [hcnt]; exact hm',hs',keep blk (fun _ _=>rfl) ?_⟩
   refine hL.mem rfl fun x hx => ?_
   obtain ⟨j,h6,h7⟩:=hx
   refine ⟨⟨j,(hPn j h6).1,h7⟩,?_⟩
   rintro rfl
   exact (hPn j h6).2 (hp.inj j t x (hPn j h6).1 hPt h7 h2)
  cases hop:io.op with
  | allocL z =>
   rw [hop] at hev h4 fin
   simp only [zah,Option.some.injEq] at hev
   obtain ⟨g',s1,r1,L1⟩:=hs.takeBox hp.loose (b:=b) hXb h3 h4
   have hx1:_=x:=congrArg Prod.fst hev
   exact fin (congrArg Prod.snd hev) s1 (by rw [← hx1]; exact r1) L1
  | bsliceL n sz z ps =>
   rw [hop] at hev h4 fin
   obtain ⟨es,e1,e2,e3,e4,e5⟩:=h4
   have hgp:zbx (mD l (At l D t) (za1 l (fun j=>D j && !At l D t j) st0) f m) ps=zbx f ps:=by
    apply List.map_congr_left
    intro q hq'
    rw [hgf q.2 (by simp only [zab.opds,hop,IOp.opds]; exact List.mem_append_right _ (List.mem_map.mpr ⟨q,hq',rfl⟩))]
   simp only [zah,hgp,e1,Option.bind_some,e2,if_true,Option.some.injEq] at hev
   obtain ⟨g',s1,r1,L1⟩:=hs.takeRow hp.loose (b:=b) hXb h3 e3 e4 e2 e5
   have hx1:_=x:=congrArg Prod.fst hev
   exact fin (congrArg Prod.snd hev) s1 (by rw [← hx1]; exact r1) L1
  | _=>rw [hop] at hlzi; cases hlzi
theorem ydc (hk:DOk C md ops l pre) (hrun:zdv modes R l [] [] st0 f tr) (hcl : ∀ i j,D i=true→pre i j=true→D j=true) {i:Nat} (hline : ∀ j,zba l j=true→j<i→D j=true) (h:Sg C ops l st0 f tr D (AD l D) a w) : ∀ t,t≤i→Sg C ops l st0 f tr D (At l D t) a w
 | 0,_=>by
  have e:At l D 0=AD l D:=by funext j; simp [At]
  rw [e]; exact h
 | t+1,ht=>by
  have ih:=ydc hk hrun hcl hline h t (by omega)
  by_cases hc:Lz l t=true∧AD l D t=false
  ·exact y0z hk hrun hcl hc.1 (hline t (z22 hc.1) (by omega)) hc.2 (fun j hj hjt=>hline j (zh3.mp hj).1 (by omega)) ih
  ·have e:At l D (t+1)=At l D t:=by
    funext j
    by_cases e:j=t
    ·subst e
     unfold At
     cases hA:AD l D j with
     | true=>rfl
     | false =>
      have:Lz l j=false:=by
       cases hz:Lz l j with
       | false=>rfl
       | true=>exact (hc ⟨hz,hA⟩).elim
      simp [this]
    ·unfold At
     congr 2
     exact decide_eq_decide.mpr (by omega)
   rw [e]; exact ih
theorem yy9 {t:TypeId} {z:List PV} (hz:zn4 C.P t=some z) {o:Oper} (ho:o.op = .alloc t) (a:Act) (w:World) :
  ∃ cells,(execOp a.eval o).run C.P w = .ok (.value (.pointer (some ⟨w.heap.size,0,none⟩))) (w.alloc (.cells cells t (0,0)))∧PW (fun _=>ZC) z cells.toList:=by
 obtain ⟨i,zv,hi,hzv,hm⟩:=z50 hz
 refine ⟨zv.cells,?_,yc4 hm⟩
 simp [execOp,ho,Instr.alloc,zeroValue,typeInfo,hi,hzv,newVar]; try rfl
theorem y1a {a:Act} {w:World} {g:Gh} {st:St} (h:SR C a w g st) {o:Oper} {t e:TypeId} {n:Nat} {parts:Array (Nat×Operand)} (ho:o.op = .buildSlice t n parts) (ht:C.P.underlying t=some (.slice e)) {s:Nat} (hs:zdh C.P e=some s) {z:List PV} (hz:zon C.P e=some z) {ps:List (Nat×Opd)} (hp:zop C.vars parts.toList=some ps) (hsm:n*s≤16777216) (hzl:z.length=s)
  {es:List (List PV)} (hf:zgl z (List.replicate n z) (zbx st ps)=some es) (hpl:zlw es=true) :
  ∃ cells,(execOp a.eval o).run C.P w = .ok (.value (.slice (some ⟨w.heap.size,0,none⟩) n n)) (w.alloc (.cells cells e (0,0)))∧es.length=n∧(∀ r∈es,r.length=s)∧PW (fun _ c u=>c = .v u) es.flatten cells.toList:=by
 obtain ⟨i,zv,hi,hzv,hrep⟩:=z65 hz
 have hsi:i.size=s:=by simpa [zdh,hi] using hs
 subst hsi
 have ht2:=z4s h hp
 have hcl:=z6k (n:=n) (m:=n) (hrep w) hzl (Nat.le_refl _)
 have hmk:(madeCells zv.cells (n*i.size)).toList.take (n*i.size)=(madeCells zv.cells (n*i.size)).toList:=by
  apply List.take_of_length_le; simp [size_madeCells]
 rw [hmk] at hcl
 have hif:(if n*i.size=0 then #[] else madeCells zv.cells (n*i.size))=madeCells zv.cells (n*i.size):=by
  split
  ·rename_i e; rw [e]; exact (Array.eq_empty_of_size_eq_zero (size_madeCells _ _)).symm
  ·rfl
 have run:=fun cells hcells=>ygg (P:=C.P) w (t:=t) (e:=e) (len:=n) (parts:=parts.map fun (i,x)=>(i,a.eval x)) (cells:=cells) ht hi hzv hsm (by rw [hif]; simpa using hcells)
 obtain ⟨Y,H,cells,s1,l1,c1,hs1,hl1,hf1⟩:=z61 hzl h (zaw.none C w g st) hcl (zis hzl) ht2 (ygw (st:=st) hf)
 have hn:es.length=n:=by simpa using hl1
 refine ⟨cells,?_,hn,hs1,c1.len,fun k d hd => ?_⟩
 ·simp only [execOp,ho,Sem.run_bind,run cells hf1,Result.andThen_ok,Sem.run_pure]
 ·obtain ⟨u,hu,hr⟩:=c1.rep k d hd
  refine ⟨u,hu,?_⟩
  have:=yc8 hpl hd
  cases hr with
  | v _=>rfl
  | _=>simp [zcs] at this
def zgf (x:Option IOp):Prop := ∀ io,x=some io→zfk (zhj io)=false
theorem zgf.none:zgf Option.none:=fun _ h=>by cases h
theorem zgf.some {io:IOp} (h:zfk (zhj io)=false):zgf (Option.some io):=fun _ e=>by cases e; exact h
theorem zgf.bind {α:Type} {x:Option α} {k:α→Option IOp} (h : ∀ a,zgf (k a)):zgf (x.bind k):=fun io e=>by
 obtain ⟨a,_,e⟩:=Option.bind_eq_some_iff.mp e
 exact h a io e
theorem zgf.map {α:Type} {x:Option α} {k:α→IOp} (h : ∀ a,zfk (zhj (k a))=false):zgf (x.map k):=fun io e=>by
 obtain ⟨a,_,rfl⟩:=Option.map_eq_some_iff.mp e
 exact h a
theorem ywz {vars:List Nat} {o:Op} {io:IOp} (h1 : ∀ t,o ≠ .alloc t) (h2 : ∀ t n ps,o ≠ .buildSlice t n ps) (h:zb4 C.P vars o=some io):zfk (zhj io)=false:=by
 revert h
 suffices hh:zgf (zb4 C.P vars o) from fun h=>hh io h
 cases o with
 | alloc t=>exact (h1 t rfl).elim
 | buildSlice t n ps=>exact (h2 t n ps rfl).elim
 | _ =>
  simp only [zb4,zvh]
  repeat' first
   | exact zgf.none
   | exact zgf.some rfl
   | exact zgf.map fun _=>rfl
   | refine zgf.bind fun _ => ?_
   | (rename_i heq; cases heq; done)
   | split
theorem ykk (hk:DOk C md ops l pre) {Pn:Nat→Bool} {g:Gh} {st:St} {blk:Nat→Option Nat} {a:Act} {w:World} (hp:zum C ops l f Pn a w g st blk) {i:Nat} {o:Oper} (ho:ops[i]?=some o) (hi:Pn i=false) {w':World} (hw : ∀ b,(∃ j,Pn j=true∧blk j=some b)→w'.heap[b]?=w.heap[b]?) {u:Value} :
  ∀ (j:Nat) (o':Oper) (q:zab×Nat×Nat),Pn j=true→ops[j]?=some o'→l[j]?=some q→zru f (a.put o.dst u) w' o' q.1 (blk j):=by
 intro j o' q hj ho' hq
 have hne:i≠j:=by rintro rfl; rw [hi] at hj; cases hj
 exact (hp.at_ j o' q hj ho' hq).other (fun b hb=>hw b ⟨j,hj,hb⟩) fun k k' h1 h2=>hk.tmps ho ho' hne k k' h1 h2
theorem y0l (hk:DOk C md ops l pre) (hR:zh2 C.P modes R) (hrun:zdv modes R l [] [] st0 f tr) {Q:Exit→Act→World→Prop} (hQ : ∀ a w g,SR C a w g f→Q .normal a w) :
  ∀ (fuel:Nat) (listed:Array Bool) (a:Act) (w:World),(List.range l.length).countP (fun j=>listed.getD j false)+fuel=l.length→JD C ops l pre st0 f tr listed a w→wpAny C.P md ops Q fuel listed a w:=by
 have fin : ∀ (listed:Array Bool) (a:Act) (w:World),JD C ops l pre st0 f tr listed a w→Region.ready md ops listed=[]→Q .normal a w:=by
  intro listed a w hJ hr
  obtain ⟨g,m,blk,hm,hs,_⟩:=hJ.st
  have all : ∀ j,j<l.length→listed.getD j false=true:=by
   intro j hj
   exact hk.prog listed (by rw [hJ.size,hk.len]) hr j (by rw [← hk.len]; exact hj)
  have lnl : ∀ k,Ln l k=true→k<l.length:=by
   intro k h
   unfold Ln zba at h
   cases hx:l[k]? with
   | none=>rw [hx] at h; simp at h
   | some q=>exact (List.getElem?_eq_some_iff.mp hx).1
  have allA : ∀ j,j<l.length→AD l (fun j=>listed.getD j false) j=true:=fun j hj=>zc9.mpr ⟨all j hj,fun hz=>by
   obtain ⟨k,h1,h2⟩:=hk.lzU j hz
   exact ⟨k,h1,h2,all k (lnl k h2)⟩⟩
  have e1:(List.range l.length).countP (fun j=>zba l j && AD l (fun j=>listed.getD j false) j)=lc l l.length:=by
   rw [z1y]
   exact List.countP_congr fun j hj=>by rw [allA j (List.mem_range.mp hj),Bool.and_true]
  rw [e1,y0u hrun] at hm
  cases hm
  have hV:VD l (AD l fun j=>listed.getD j false) (za1 l (PD l fun j=>listed.getD j false) st0).V f.V=f.V:=funext fun k=>z47 fun j q h1 _=>allA j (List.getElem?_eq_some_iff.mp h1).1
  have hE:ED l (AD l fun j=>listed.getD j false) (za1 l (PD l fun j=>listed.getD j false) st0).E f.E=f.E:=funext fun k=>z4v fun j q h1 _=>allA j (List.getElem?_eq_some_iff.mp h1).1
  unfold mD at hs
  rw [hV,hE] at hs
  exact hQ a w g hs
 intro fuel
 induction fuel with
 | zero =>
  intro listed a w hc hJ
  have hr:Region.ready md ops listed=[]:=by
   rw [List.eq_nil_iff_forall_not_mem]
   intro i hi
   obtain ⟨h0,o,ho,_⟩:=mem_ready.mp hi
   have hil:i<l.length:=by rw [hk.len]; exact (Array.getElem?_eq_some_iff.mp ho).1
   have:(List.range l.length).countP (fun j=>listed.getD j false)=(List.range l.length).length:=by simpa using hc
   have:=List.countP_eq_length.mp this i (List.mem_range.mpr hil)
   rw [Array.getD_eq_getD_getElem?] at h0 this
   cases hx:listed[i]? with
   | none=>rw [hx] at this; simp at this
   | some b=>rw [hx] at h0 this; simp at h0 this; rw [h0] at this; cases this
  exact ⟨hr,fin listed a w hJ hr⟩
 | succ fuel ih =>
  intro listed a w hc hJ
  refine ⟨fin listed a w hJ,fun i hi => ?_⟩
  obtain ⟨h0,o,ho,hafter⟩:=mem_ready.mp hi
  have hil:i<l.length:=by rw [hk.len]; exact (Array.getElem?_eq_some_iff.mp ho).1
  have his:i<listed.size:=by rw [hJ.size]; exact hil
  have hnd:listed.getD i false=false:=by
   rw [Array.getD_eq_getD_getElem?] at h0 ⊢
   rw [Array.getElem?_eq_getElem his] at h0 ⊢
   simpa using h0
  obtain ⟨q,hq⟩ : ∃ q,l[i]?=some q:=⟨_,List.getElem?_eq_getElem hil⟩
  obtain ⟨io,b,wf⟩:=q
  obtain ⟨hg,⟨cio,hcmp,hcio⟩,hdst⟩:=hk.cmp i o _ ho hq
  simp only at hcio
  have hpreD : ∀ j,pre i j=true→listed.getD j false=true:=by
   intro j hj
   obtain ⟨o',e,ho',he,hb,hon⟩:=hk.edge i j hj
   rw [ho] at ho'; cases ho'
   have:=hafter e he hb
   rcases hon with rfl | h
   ·exact this
   ·exact hJ.closed _ _ this h
  have hupD : ∀ j,listed.getD j false=true→pre j i=false:=by
   intro j hj
   cases hp:pre j i with
   | false=>rfl
   | true=>have:=hJ.closed _ _ hj hp; rw [hnd] at this; cases this
  have hD' : ∀ j,(listed.setIfInBounds i true).getD j false=if j=i then true else listed.getD j false:=yz3 his
  have hcnt:(List.range l.length).countP (fun j=>(listed.setIfInBounds i true).getD j false)+fuel=l.length:=by
   have:=z5l (p:=fun _=>true) hil hnd hD'
   simp only [Bool.true_and,if_true] at this
   rw [this]; omega
  have hclosed : ∀ i' j,(listed.setIfInBounds i true).getD i' false=true→pre i' j=true→(listed.setIfInBounds i true).getD j false=true:=by
   intro i' j h1 h2
   rw [hD'] at h1 ⊢
   split
   ·rfl
   ·split at h1
    ·rename_i e; subst e; exact hpreD j h2
    ·exact hJ.closed _ _ h1 h2
  have hLd:zba l i = !quiet io.op:=by simp [zba,hq]
  have hLz:Lz l i=zfk io.op:=yjw hq
  have hsg:Sg C ops l st0 f tr (fun j=>listed.getD j false) (AD l fun j=>listed.getD j false) a w:=hJ.st
  unfold wpOp
  rw [ho]
  show if Region.wanted o (yielded ops a.tmps)=true then Oper.wp C.P o a w (wpAny C.P md ops Q fuel (listed.setIfInBounds i true)) Q∨(o.asks C.P a w∧LetsOut Q) else wpAny C.P md ops Q fuel (listed.setIfInBounds i true) (a.put o.dst undef) w
  cases hz:zfk io.op with
  | true =>
   obtain ⟨hnp,hnq⟩:=yhw hz
   rw [hz] at hLz hcio
   simp only [if_true] at hcio
   obtain ⟨g,m,blk,hm,hs,hp⟩:=hsg
   have hs:SR C a w g (mD l (AD l fun j=>listed.getD j false) (za1 l (PD l fun j=>listed.getD j false) st0) f m):=hs
   have hp:zum C ops l f (PD l fun j=>listed.getD j false) a w g (mD l (AD l fun j=>listed.getD j false) (za1 l (PD l fun j=>listed.getD j false) st0) f m) blk:=hp
   have hLnf:Ln l i=false:=by
    cases e:Ln l i with
    | false=>rfl
    | true=>rw [(zh3.mp e).2] at hLz; cases hLz
   have eA:AD l (fun j=>(listed.setIfInBounds i true).getD j false)=AD l fun j=>listed.getD j false:=by
    funext j
    have key : ∀ k,Ln l k=true→(listed.setIfInBounds i true).getD k false=listed.getD k false:=by
     intro k hk'
     rw [hD',if_neg (by rintro rfl; rw [hLnf] at hk'; cases hk')]
    have eqv:AD l (fun j=>(listed.setIfInBounds i true).getD j false) j=true↔AD l (fun j=>listed.getD j false) j=true:=by
     rw [zc9,zc9]
     by_cases e:j=i
     ·subst e
      constructor
      ·rintro ⟨_,h2⟩
       obtain ⟨k,h3,h4,h5⟩:=h2 hLz
       rw [key k h4] at h5
       have:=hupD k h5
       rw [hk.chain j k (z22 hLz) h4 h3] at this; cases this
      ·rintro ⟨h1,_⟩
       rw [hnd] at h1; cases h1
     ·rw [hD',if_neg e]
      constructor
      ·rintro ⟨h1,h2⟩
       exact ⟨h1,fun h=>by obtain ⟨k,h3,h4,h5⟩:=h2 h; exact ⟨k,h3,h4,by rw [← key k h4]; exact h5⟩⟩
      ·rintro ⟨h1,h2⟩
       exact ⟨h1,fun h=>by obtain ⟨k,h3,h4,h5⟩:=h2 h; exact ⟨k,h3,h4,by rw [key k h4]; exact h5⟩⟩
    cases h1:AD l (fun j=>(listed.setIfInBounds i true).getD j false) j <;> cases h2:AD l (fun j=>listed.getD j false) j <;> simp_all
   have eP : ∀ j,PD l (fun j=>(listed.setIfInBounds i true).getD j false) j=if j=i then true else PD l (fun j=>listed.getD j false) j:=by
    intro j
    unfold PD
    rw [eA]
    show ((listed.setIfInBounds i true).getD j false && !AD l (fun j=>listed.getD j false) j)=_
    rw [hD']
    split
    ·rename_i e
     subst e
     have:AD l (fun j=>listed.getD j false) j=false:=by
      cases h1:AD l (fun j=>listed.getD j false) j with
      | false=>rfl
      | true=>have:=(zc9.mp h1).1; rw [hnd] at this; cases this
     rw [this]; rfl
    ·rfl
   have hPi:PD l (fun j=>listed.getD j false) i=false:=by
    unfold PD
    show (listed.getD i false && _)=false
    rw [hnd]; rfl
   have hAi:AD l (fun j=>listed.getD j false) i=false:=by
    cases h1:AD l (fun j=>listed.getD j false) i with
    | false=>rfl
    | true=>have:=(zc9.mp h1).1; rw [hnd] at this; cases this
   have hgf : ∀ y∈io.opds,y.get (mD l (AD l fun j=>listed.getD j false) (za1 l (PD l fun j=>listed.getD j false) st0) f m)=y.get f:=by
    intro y hy
    refine zu3 fun j hw => ?_
    have hp':=hk.reads hq hnp hy hw
    refine zc9.mpr ⟨hpreD j hp',fun hzj => ?_⟩
    have:=(hk.lzP i j hzj hp').1
    rw [hLz] at this; cases this
   have hguard:zc5 (mD l (AD l fun j=>listed.getD j false) (za1 l (PD l fun j=>listed.getD j false) st0) f m) io.guard=zc5 f io.guard:=by
    cases hgg:io.guard with
    | none=>rfl
    | some yq =>
     obtain ⟨y,want⟩:=yq
     simp only [zc5]
     rw [hgf y (by simp [zab.opds,zrt,hgg])]
   obtain ⟨x,s,s',_,hev,_,hys⟩:=ydt hrun i io b wf hq
   have hysf : ∀ y∈io.opds,y.get s=y.get f:=fun y hy=>hys y fun j hw=>hk.lt _ _ (hk.reads hq hnp hy hw)
   have hguards:zc5 s io.guard=zc5 f io.guard:=by
    cases hgg:io.guard with
    | none=>rfl
    | some yq =>
     obtain ⟨y,want⟩:=yq
     simp only [zc5]
     rw [hysf y (by simp [zab.opds,zrt,hgg])]
   unfold evG at hev
   obtain ⟨t,ht,hev⟩:=Option.bind_eq_some_iff.mp hev
   rw [hguards] at ht
   have hw:=z4m hs hg (by rw [hguard]; exact ht)
   have hst:(mD l (AD l fun j=>listed.getD j false) (za1 l (PD l fun j=>listed.getD j false) st0) f m).put io.dst .undef=mD l (AD l fun j=>(listed.setIfInBounds i true).getD j false) (za1 l (PD l fun j=>(listed.setIfInBounds i true).getD j false) st0) f m:=by
    rw [eA]
    have same : ∀ y:Opd,(∀ d,io.dst=some d→d.opd≠y)→y.get (za1 l (PD l fun j=>listed.getD j false) st0)=y.get (za1 l (PD l fun j=>(listed.setIfInBounds i true).getD j false) st0):=by
     intro y hy
     by_cases c : ∃ j,Wrt l j y∧PD l (fun j=>listed.getD j false) j=true
     ·obtain ⟨j,h1,h2⟩:=c
      rw [zsa h1 h2,zsa h1 (by rw [eP]; split <;> first | rfl | exact h2)]
     ·have c1 : ∀ j,Wrt l j y→PD l (fun j=>listed.getD j false) j=false:=by
       intro j hj
       cases e:PD l (fun j=>listed.getD j false) j with
       | false=>rfl
       | true=>exact (c ⟨j,hj,e⟩).elim
      rw [zoe c1,zoe fun j hj => ?_]
      rw [eP,if_neg]
      ·exact c1 j hj
      ·rintro rfl
       obtain ⟨q',d,h1,h2,h3⟩:=hj
       rw [hq] at h1; cases h1
       exact hy d h2 h3
    have gV : ∀ k,(∀ d,io.dst=some d→d.opd ≠ .V k)→VD l (AD l fun j=>listed.getD j false) (za1 l (PD l fun j=>listed.getD j false) st0).V f.V k=VD l (AD l fun j=>listed.getD j false) (za1 l (PD l fun j=>(listed.setIfInBounds i true).getD j false) st0).V f.V k:=by
     intro k hk'
     unfold VD
     split
     ·exact same (.V k) hk'
     ·rfl
    have gE : ∀ k,(∀ d,io.dst=some d→d.opd ≠ .E k)→ED l (AD l fun j=>listed.getD j false) (za1 l (PD l fun j=>listed.getD j false) st0).E f.E k=ED l (AD l fun j=>listed.getD j false) (za1 l (PD l fun j=>(listed.setIfInBounds i true).getD j false) st0).E f.E k:=by
     intro k hk'
     unfold ED
     split
     ·exact same (.E k) hk'
     ·rfl
    cases hdd:io.dst with
    | none =>
     have h1:=funext fun k=>gV k (by simp [hdd])
     have h2:=funext fun k=>gE k (by simp [hdd])
     unfold mD; rw [h1,h2]; rfl
    | some d =>
     cases d with
     | V k0 =>
      have h2:=funext fun k=>gE k (by intro d hd; rw [hdd] at hd; cases hd; simp [Dst.opd])
      have h1:upd (VD l (AD l fun j=>listed.getD j false) (za1 l (PD l fun j=>listed.getD j false) st0).V f.V) k0 .undef=VD l (AD l fun j=>listed.getD j false) (za1 l (PD l fun j=>(listed.setIfInBounds i true).getD j false) st0).V f.V:=by
       funext k
       unfold upd
       split
       ·rename_i e; subst e
        have hwr:Wrt l i (.V k):=⟨_,_,hq,hdd,rfl⟩
        have h3:=zsa (st:=st0) hwr (Pn:=PD l fun j=>(listed.setIfInBounds i true).getD j false) (by rw [eP,if_pos rfl])
        have h4:=z5t (D:=AD l fun j=>listed.getD j false) (st0:=za1 l (PD l fun j=>(listed.setIfInBounds i true).getD j false) st0) (f:=f) (m:=m) hwr hAi
        exact ((h4.trans h3)).symm
       ·rename_i e
        exact gV k (by intro d hd; rw [hdd] at hd; cases hd; simp only [Dst.opd]; intro h; cases h; exact e rfl)
      unfold mD
      show ({ m with V:=upd (VD l (AD l fun j=>listed.getD j false) (za1 l (PD l fun j=>listed.getD j false) st0).V f.V) k0 .undef,E:=ED l (AD l fun j=>listed.getD j false) (za1 l (PD l fun j=>listed.getD j false) st0).E f.E }:St)=_
      rw [h1,h2]; rfl
     | E k0 =>
      have h2:=funext fun k=>gV k (by intro d hd; rw [hdd] at hd; cases hd; simp [Dst.opd])
      have h1:upd (ED l (AD l fun j=>listed.getD j false) (za1 l (PD l fun j=>listed.getD j false) st0).E f.E) k0 .undef=ED l (AD l fun j=>listed.getD j false) (za1 l (PD l fun j=>(listed.setIfInBounds i true).getD j false) st0).E f.E:=by
       funext k
       unfold upd
       split
       ·rename_i e; subst e
        have hwr:Wrt l i (.E k):=⟨_,_,hq,hdd,rfl⟩
        have h3:=zsa (st:=st0) hwr (Pn:=PD l fun j=>(listed.setIfInBounds i true).getD j false) (by rw [eP,if_pos rfl])
        have h4:=z5t (D:=AD l fun j=>listed.getD j false) (st0:=za1 l (PD l fun j=>(listed.setIfInBounds i true).getD j false) st0) (f:=f) (m:=m) hwr hAi
        exact ((h4.trans h3)).symm
       ·rename_i e
        exact gE k (by intro d hd; rw [hdd] at hd; cases hd; simp only [Dst.opd]; intro h; cases h; exact e rfl)
      unfold mD
      show ({ m with V:=VD l (AD l fun j=>listed.getD j false) (za1 l (PD l fun j=>listed.getD j false) st0).V f.V,E:=upd (ED l (AD l fun j=>listed.getD j false) (za1 l (PD l fun j=>listed.getD j false) st0).E f.E) k0 .undef }:St)=_
      rw [h1,h2]; rfl
   have next : ∀ (u:Value) (w':World) (ob:Option Nat),SR C a w' g (mD l (AD l fun j=>listed.getD j false) (za1 l (PD l fun j=>listed.getD j false) st0) f m)→(∀ x,x<w.heap.size→w'.heap[x]?=w.heap[x]?) →
     (∀ x,ob=some x→w.heap.size≤x)→zaw C w' g (mD l (AD l fun j=>listed.getD j false) (za1 l (PD l fun j=>listed.getD j false) st0) f m) (fun x=>(∃ j,PD l (fun j=>listed.getD j false) j=true∧blk j=some x)∨ob=some x)→zru f (a.put o.dst u) w' o io ob →
     wpAny C.P md ops Q fuel (listed.setIfInBounds i true) (a.put o.dst u) w':=by
    intro u w' ob hs' hw' hob hL hpa
    refine ih _ _ _ hcnt ⟨by simpa using hJ.size,hclosed,g,m,fun j=>if j=i then ob else blk j,by rw [eA]; exact hm,?_,?_⟩
    ·rw [← hst]; exact hs'.put (x := .undef) (u:=u) trivial hdst
    ·refine ⟨hL.mem (by rw [← hst]; exact (zr4 _ _ _).1) fun x hx => ?_,fun j j' x h1 h2 h3 h4 => ?_,fun j o' q' h1 h2 h3 => ?_⟩
     ·obtain ⟨j,h1,h2⟩:=hx
      rw [eP] at h1
      by_cases e:j=i
      ·rw [if_pos e] at h2; exact .inr h2
      ·rw [if_neg e] at h1 h2; exact .inl ⟨j,h1,h2⟩
     ·rw [eP] at h1 h2
      have old : ∀ j,PD l (fun j=>listed.getD j false) j=true→blk j=some x→x<w.heap.size:=fun j e1 e2=>hp.loose.lt x ⟨j,e1,e2⟩
      by_cases e:j=i <;> by_cases e':j'=i
      ·rw [e,e']
      ·rw [if_pos e] at h3; rw [if_neg e'] at h2 h4
       have:=old j' h2 h4; have:=hob x h3; omega
      ·rw [if_neg e] at h1 h3; rw [if_pos e'] at h4
       have:=old j h1 h3; have:=hob x h4; omega
      ·rw [if_neg e] at h1 h3; rw [if_neg e'] at h2 h4
       exact hp.inj j j' x h1 h2 h3 h4
     ·by_cases e:j=i
      ·subst e
       rw [ho] at h2; cases h2
       rw [hq] at h3; cases h3
       rw [if_pos rfl]; exact hpa
      ·rw [eP,if_neg e] at h1
       rw [if_neg e]
       exact ykk hk hp ho hPi (fun b hb=>hw' b (hp.loose.lt b hb)) j o' q' h1 h2 h3
   cases t with
   | false =>
    rw [if_neg (by rw [hw]; simp)]
    refine next undef w none hs (fun _ _=>rfl) (fun x e=>by cases e) (hp.loose.mem rfl fun x hx=>by rcases hx with h | h; exact h; cases h) (.inl ⟨ht,rfl,fun k hk' => ?_⟩)
    rw [hk'] at hdst ⊢
    simp only [zjq] at hdst
    split at hdst
    ·rename_i hlt
     simp only [Act.put,Array.getD_eq_getD_getElem?,Array.getElem?_setIfInBounds]
     simp [Nat.lt_of_lt_of_le hlt hs.nt]
    ·cases hdst
   | true =>
    rw [if_pos hw]
    simp only [if_true] at hev
    have dstv : ∀ (u:Value) k,o.dst=some k→(a.put o.dst u).tmps.getD k undef=u:=by
     intro u k hk'
     rw [hk'] at hdst ⊢
     simp only [zjq] at hdst
     split at hdst
     ·rename_i hlt
      simp only [Act.put,Array.getD_eq_getD_getElem?,Array.getElem?_setIfInBounds]
      simp [Nat.lt_of_lt_of_le hlt hs.nt]
     ·cases hdst
    have go : ∀ (u:Value) (cells:Array Value) (ty:TypeId),(execOp a.eval o).run C.P w = .ok (.value u) (w.alloc (.cells cells ty (0,0)))→u=z6r io.op w.heap.size→LzC f cells io.op→Oper.wp C.P o a w (wpAny C.P md ops Q fuel (listed.setIfInBounds i true)) Q:=by
     intro u cells ty hr hu hl
     unfold Oper.wp
     rw [hr,Oper.upon_value]
     obtain ⟨s1,L1,L2,h1,h2⟩:=hs.grow (w':=w.alloc (.cells cells ty (0,0))) (ob := .cells cells ty (0,0)) rfl rfl rfl rfl
     refine next u _ (some w.heap.size) s1 h2 (fun x e=>by cases e; exact Nat.le_refl _) ?_ (.inr ⟨ht,w.heap.size,cells,ty,rfl,h1,hl,fun k hk'=>by rw [dstv u k hk',hu]⟩)
     have L3:=L2 _ hp.loose
     refine ⟨fun o x hl hf hx => ?_,fun x hx => ?_,fun x hx => ?_,fun x hx => ?_⟩
     ·rcases hx with hx | hx
      ·exact L3.sep o x hl hf hx
      ·exact L1.sep o x hl hf (by cases hx; rfl)
     ·rcases hx with hx | hx
      ·exact L3.nz x hx
      ·exact L1.nz x (by cases hx; rfl)
     ·rcases hx with hx | hx
      ·exact L3.lt x hx
      ·exact L1.lt x (by cases hx; rfl)
     ·rcases hx with hx | hx
      ·exact L3.own x hx
      ·exact L1.own x (by cases hx; rfl)
    refine .inl ?_
    cases hop:o.op with
    | alloc ty =>
     rw [hop] at hcmp
     simp only [zb4,Option.map_eq_some_iff] at hcmp
     obtain ⟨z,hzb,rfl⟩:=hcmp
     obtain ⟨cells,h1,h2⟩:=yy9 hzb hop a w
     exact go _ cells ty h1 (by rw [hcio]; rfl) (by rw [hcio]; exact h2)
    | buildSlice ty n parts =>
     rw [hop] at hcmp
     simp only [zb4] at hcmp
     split at hcmp
     ·rename_i e hu
      obtain ⟨sz,hsz,hcmp⟩:=Option.bind_eq_some_iff.mp hcmp
      obtain ⟨z,hzr,hcmp⟩:=Option.bind_eq_some_iff.mp hcmp
      obtain ⟨ps,hps,hcmp⟩:=Option.bind_eq_some_iff.mp hcmp
      split at hcmp
      ·rename_i hcond
       cases hcmp
       rw [hcio] at hev
       simp only [zhj,zah] at hev
       have hgp:zbx s ps=zbx f ps:=by
        apply List.map_congr_left
        intro q hq'
        rw [hysf q.2 (by simp only [zab.opds,hcio,zhj,IOp.opds]; exact List.mem_append_right _ (List.mem_map.mpr ⟨q,hq',rfl⟩))]
       have hgm:zbx (mD l (AD l fun j=>listed.getD j false) (za1 l (PD l fun j=>listed.getD j false) st0) f m) ps=zbx f ps:=by
        apply List.map_congr_left
        intro q hq'
        rw [hgf q.2 (by simp only [zab.opds,hcio,zhj,IOp.opds]; exact List.mem_append_right _ (List.mem_map.mpr ⟨q,hq',rfl⟩))]
       rw [hgp] at hev
       obtain ⟨es,hes,hev⟩:=Option.bind_eq_some_iff.mp hev
       split at hev
       ·rename_i hpl
        obtain ⟨cells,h1,h2,h3,h4⟩:=y1a hs hop hu hsz hzr hps hcond.1 hcond.2.1 (by rw [hgm]; exact hes) hpl
        exact go _ cells e h1 (by rw [hcio]; rfl) (by rw [hcio]; exact ⟨es,hes,hpl,h2,h3,h4⟩)
       ·cases hev
      ·cases hcmp
     ·cases hcmp
    | _ =>
     have:=ywz (by rw [hop]; intro t e; cases e) (by rw [hop]; intro t n ps e; cases e) hcmp
     rw [hcio,this] at hz; cases hz
  | false =>
   rw [hz] at hLz hcio
   simp only [Bool.false_eq_true,if_false] at hcio
   subst hcio
   obtain ⟨A,hA,hAi,hsA,hpre,hupA,hlzA,hlnA⟩ : ∃ A:Nat→Bool,(∀ j,AD l (fun j=>(listed.setIfInBounds i true).getD j false) j=if j=i then true else A j)∧A i=false∧Sg C ops l st0 f tr (fun j=>listed.getD j false) A a w ∧
     (∀ j,pre i j=true→A j=true)∧(∀ j,A j=true→pre j i=false)∧(quiet io.op=true→∀ j,A j=true→Lz l j=true→∃ k,j<k∧Ln l k=true∧pre k i=false)∧(quiet io.op=false→∀ j,zba l j=true→(A j=true↔j<i)):=by
    have hAi:AD l (fun j=>listed.getD j false) i=false:=by
     cases h1:AD l (fun j=>listed.getD j false) i with
     | false=>rfl
     | true=>have:=(zc9.mp h1).1; rw [hnd] at this; cases this
    cases hqt:quiet io.op with
    | true =>
     have hLnf:Ln l i=false:=by
      cases e:Ln l i with
      | false=>rfl
      | true=>have:=(zh3.mp e).1; rw [hLd,hqt] at this; cases this
     refine ⟨AD l fun j=>listed.getD j false,fun j => ?_,hAi,hsg,fun j hj=>zc9.mpr ⟨hpreD j hj,fun hzj => ?_⟩,fun j hj=>hupD j (zc9.mp hj).1,fun _ j hj hzj => ?_,fun e=>by cases e⟩
     ·have key : ∀ k,Ln l k=true→(listed.setIfInBounds i true).getD k false=listed.getD k false:=by
       intro k hk'
       rw [hD',if_neg (by rintro rfl; rw [hLnf] at hk'; cases hk')]
      have eqv:AD l (fun j=>(listed.setIfInBounds i true).getD j false) j=true↔(if j=i then true else AD l (fun j=>listed.getD j false) j)=true:=by
       by_cases e:j=i
       ·rw [if_pos e,zc9]
        exact ⟨fun _=>rfl,fun _=>⟨by rw [hD',if_pos e],fun h=>by rw [e,hLz] at h; cases h⟩⟩
       ·rw [if_neg e,zc9,zc9,hD',if_neg e]
        constructor
        ·rintro ⟨h1,h2⟩
         exact ⟨h1,fun h=>by obtain ⟨k,h3,h4,h5⟩:=h2 h; exact ⟨k,h3,h4,by rw [← key k h4]; exact h5⟩⟩
        ·rintro ⟨h1,h2⟩
         exact ⟨h1,fun h=>by obtain ⟨k,h3,h4,h5⟩:=h2 h; exact ⟨k,h3,h4,by rw [key k h4]; exact h5⟩⟩
      exact Bool.eq_iff_iff.mpr eqv
     ·obtain ⟨_,h2⟩:=hk.lzP i j hzj hj
      rcases h2 with h2 | ⟨k,h3,h4,h5⟩
      ·rw [hLd,hqt] at h2; cases h2
      ·exact ⟨k,h3,h4,hpreD k h5⟩
     ·obtain ⟨k,h3,h4,h5⟩:=(zc9.mp hj).2 hzj
      exact ⟨k,h3,h4,hupD k h5⟩
    | false =>
     have hLn:Ln l i=true:=zh3.mpr ⟨by rw [hLd,hqt]; rfl,hLz⟩
     have hline : ∀ j,zba l j=true→j<i→listed.getD j false=true:=fun j hj hji=>hpreD j (hk.chain j i hj hLn hji)
     have hat : ∀ j,zba l j=true→(At l (fun j=>listed.getD j false) i j=true↔j<i):=by
      intro j hj
      constructor
      ·intro ea
       rcases zgb.mp ea with eb | ⟨_,eb⟩
       ·obtain ⟨e1,e2⟩:=zc9.mp eb
        rcases Nat.lt_trichotomy j i with h1 | h1 | h1
        ·exact h1
        ·subst h1; rw [hnd] at e1; cases e1
        ·cases hzj:Lz l j with
         | false =>
          have:=hupD j e1
          rw [hk.chain i j (zh3.mp hLn).1 (zh3.mpr ⟨hj,hzj⟩) h1] at this; cases this
         | true =>
          obtain ⟨k,e3,e4,e5⟩:=e2 hzj
          have:=hupD k e5
          rw [hk.chain i k (zh3.mp hLn).1 e4 (by omega)] at this; cases this
       ·exact eb
      ·intro e
       cases hzj:Lz l j with
       | true=>exact zgb.mpr (.inr ⟨hzj,e⟩)
       | false=>exact zgb.mpr (.inl (zc9.mpr ⟨hline j hj e,fun e=>by rw [hzj] at e; cases e⟩))
     refine ⟨At l (fun j=>listed.getD j false) i,fun j => ?_,?_,ydc hk hrun hJ.closed hline hsg i (Nat.le_refl _),fun j hj => ?_,fun j hj => ?_,(fun e=>by cases e),fun _=>hat⟩
     ·refine Bool.eq_iff_iff.mpr ?_
      by_cases e:j=i
      ·rw [if_pos e,zc9]
       exact ⟨fun _=>rfl,fun _=>⟨by rw [hD',if_pos e],fun h=>by rw [e,hLz] at h; cases h⟩⟩
      ·rw [if_neg e,zc9,zgb,zc9,hD',if_neg e]
       constructor
       ·rintro ⟨h1,h2⟩
        cases hzj:Lz l j with
        | false=>exact .inl ⟨h1,fun e=>by cases e⟩
        | true =>
         obtain ⟨k,h3,h4,h5⟩:=h2 hzj
         rw [hD'] at h5
         by_cases ek:k=i
         ·subst ek; exact .inr ⟨rfl,h3⟩
         ·rw [if_neg ek] at h5; exact .inl ⟨h1,fun _=>⟨k,h3,h4,h5⟩⟩
       ·rintro (⟨h1,h2⟩ | ⟨h1,h2⟩)
        ·exact ⟨h1,fun h=>by obtain ⟨k,h3,h4,h5⟩:=h2 h; exact ⟨k,h3,h4,by rw [hD']; split <;> first | rfl | exact h5⟩⟩
        ·exact ⟨hline j (z22 h1) h2,fun _=>⟨i,h2,hLn,by rw [hD',if_pos rfl]⟩⟩
     ·cases e:At l (fun j=>listed.getD j false) i i with
      | false=>rfl
      | true=>have:=(hat i (zh3.mp hLn).1).mp e; omega
     ·cases hzj:Lz l j with
      | false=>exact zgb.mpr (.inl (zc9.mpr ⟨hpreD j hj,fun e=>by rw [hzj] at e; cases e⟩))
      | true=>exact zgb.mpr (.inr ⟨hzj,hk.lt _ _ hj⟩)
     ·rcases zgb.mp hj with e | ⟨e1,e2⟩
      ·exact hupD j (zc9.mp e).1
      ·cases hp:pre j i with
       | false=>rfl
       | true=>have:=hk.lt _ _ hp; omega
   obtain ⟨g,m,blk,hm,hs,hp⟩:=hsA
   have hAf:AD l (fun j=>(listed.setIfInBounds i true).getD j false)=fun j=>if j=i then true else A j:=funext hA
   have hPf:PD l (fun j=>(listed.setIfInBounds i true).getD j false)=fun j=>listed.getD j false && !A j:=by
    funext j
    unfold PD
    rw [hA]
    show ((listed.setIfInBounds i true).getD j false && !if j=i then true else A j)=_
    rw [hD']
    by_cases e:j=i
    ·rw [if_pos e,if_pos e,e,hnd]; rfl
    ·rw [if_neg e,if_neg e]
   have hs0 : ∀ (y:Opd) (j:Nat),Wrt l j y→pre j i=true→A j=false→y.get (za1 l (fun j=>listed.getD j false && !A j) st0)=y.get st0:=by
    intro y j hw hpj _
    refine zoe fun j' hw' => ?_
    have:=hk.wrt hw hw'
    subst this
    have hDj:listed.getD j false=false:=by
     cases e:listed.getD j false with
     | false=>rfl
     | true=>have:=hupD j e; rw [hpj] at this; cases this
    rw [hDj]; rfl
   obtain ⟨x,s,htr,hstep⟩:=ygx hk hrun hq (D:=A) hs0 hpre hupA hlzA hlnA hm
   have hxd : ∀ d,io.dst=some d→d.opd.get f=x:=fun d hd=>yhk hrun hk.dst i _ d x s hq htr hd
   have hput : ∀ m':St,(mD l A (za1 l (fun j=>listed.getD j false && !A j) st0) f m').put io.dst x=mD l (AD l fun j=>(listed.setIfInBounds i true).getD j false) (za1 l (PD l fun j=>(listed.setIfInBounds i true).getD j false) st0) f m':=by
    intro m'
    rw [hPf]
    exact yg3 hk.dst hq hxd hA hAi
   have hPi:(listed.getD i false && !A i)=false:=by rw [hnd]; rfl
   have next : ∀ (m':St) (u:Value) (w':World) (g':Gh),(zbs l tr f)[(List.range l.length).countP fun j=>zba l j && AD l (fun j=>(listed.setIfInBounds i true).getD j false) j]?=some m'→SR C a w' g' (mD l A (za1 l (fun j=>listed.getD j false && !A j) st0) f m')→zaq w' g' (mD l A (za1 l (fun j=>listed.getD j false && !A j) st0) f m') x u →
     (∀ b,(∃ j,(listed.getD j false && !A j)=true∧blk j=some b)→w'.heap[b]?=w.heap[b]?)→zaw C w' g' (mD l A (za1 l (fun j=>listed.getD j false && !A j) st0) f m') (fun x => ∃ j,(listed.getD j false && !A j)=true∧blk j=some x) →
     wpAny C.P md ops Q fuel (listed.setIfInBounds i true) (a.put o.dst u) w':=by
    intro m' u w' g' hm' hs' hv hb hL
    refine ih _ _ _ hcnt ⟨by simpa using hJ.size,hclosed,g',m',blk,hm',?_,?_⟩
    ·rw [← hput m']; exact hs'.put hv hdst
    ·refine ⟨?_,?_,?_⟩
     ·exact hL.mem (by rw [← hput m']; exact (zr4 _ _ _).1) fun x hx=>by rw [hPf] at hx; exact hx
     ·rw [hPf]; exact hp.inj
     ·rw [hPf]; exact ykk hk hp ho hPi hb
   have step : ∀ m':St,evG modes R (mD l A (za1 l (fun j=>listed.getD j false && !A j) st0) f m) io=some (x,mD l A (za1 l (fun j=>listed.getD j false && !A j) st0) f m')→(zbs l tr f)[(List.range l.length).countP fun j=>zba l j && AD l (fun j=>(listed.setIfInBounds i true).getD j false) j]?=some m' →
     if Region.wanted o (yielded ops a.tmps)=true then Oper.wp C.P o a w (wpAny C.P md ops Q fuel (listed.setIfInBounds i true)) Q∨(o.asks C.P a w∧LetsOut Q) else wpAny C.P md ops Q fuel (listed.setIfInBounds i true) (a.put o.dst undef) w:=by
    intro m' hev hm'
    unfold evG at hev
    obtain ⟨t,ht,hev⟩:=Option.bind_eq_some_iff.mp hev
    have hw:=z4m hs hg ht
    cases t with
    | true =>
     simp only [if_true] at hev
     rw [if_pos hw]
     refine .inl (yc6 (C:=C.now w g (mD l A (za1 l (fun j=>listed.getD j false && !A j) st0) f m)) hs.now hR hcmp hev _ _ fun u w' g' hs' hv => ?_)
     obtain ⟨k1,k2,k3⟩:=hs.thenNow hs'
     exact next m' u w' g' hm' k1 hv (fun b hb=>k2 b (hp.loose.lt b hb) fun o' hl hf=>hp.loose.sep o' b hl hf hb) (k3 _ hp.loose)
    | false =>
     simp only [Bool.false_eq_true,if_false,Option.some.injEq,Prod.mk.injEq] at hev
     rw [if_neg (by rw [hw]; simp)]
     obtain ⟨hx,hmm⟩:=hev
     have hL:=hp.loose
     rw [hmm] at hs hL
     refine next m' _ w g hm' hs ?_ (fun _ _=>rfl) hL
     rw [← hx]; exact (show zaq w g _ (.v Go.undef) Go.undef from rfl)
   have hcl:(List.range l.length).countP (fun j=>zba l j && AD l (fun j=>(listed.setIfInBounds i true).getD j false) j)=(List.range l.length).countP (fun j=>zba l j && A j)+(if zba l i then 1 else 0):=z5l (p:=zba l) hil hAi hA
   rcases hstep with ⟨hqt,he⟩ | ⟨hqt,m',hm',he⟩
   ·refine step m he ?_
    rw [hcl,hLd,hqt]; simpa using hm
   ·refine step m' he ?_
    rw [hcl,hLd,hqt]; simpa using hm'
theorem y1v (hk:DOk C md ops l pre) (hrun:zdv modes R l [] [] st0 f tr) {a:Act} {w:World} {g:Gh} (h:SR C a w g st0):JD C ops l pre st0 f tr (Array.replicate ops.size false) a w:=by
 have hf : ∀ j,(Array.replicate ops.size false).getD j false=false:=by
  intro j
  simp only [Array.getD_eq_getD_getElem?,Array.getElem?_replicate]
  split <;> rfl
 have hA : ∀ j,AD l (fun j=>(Array.replicate ops.size false).getD j false) j=false:=by
  intro j
  cases e:AD l (fun j=>(Array.replicate ops.size false).getD j false) j with
  | false=>rfl
  | true=>have:=(zc9.mp e).1; rw [hf] at this; cases this
 have hP : ∀ j,PD l (fun j=>(Array.replicate ops.size false).getD j false) j=false:=by
  intro j
  unfold PD
  show ((Array.replicate ops.size false).getD j false && _)=false
  rw [hf]; rfl
 refine ⟨by simp [hk.len],fun i j h1 => ?_,g,?_⟩
 ·rw [hf] at h1; cases h1
 ·obtain ⟨m,h1,h2⟩:=z2z hrun
  refine ⟨m,fun _=>none,?_,?_,⟨⟨?_,?_,?_,?_⟩,?_,?_⟩⟩
  rotate_left 2
  ·rintro o x _ _ ⟨j,e,_⟩; rw [hP] at e; cases e
  ·rintro x ⟨j,e,_⟩; rw [hP] at e; cases e
  ·rintro x ⟨j,e,_⟩; rw [hP] at e; cases e
  ·rintro x ⟨j,e,_⟩; rw [hP] at e; cases e
  ·intro j j' x e; rw [hP] at e; cases e
  ·intro j o q e; rw [hP] at e; cases e
  ·have:(List.range l.length).countP (fun j=>zba l j && AD l (fun j=>(Array.replicate ops.size false).getD j false) j)=0:=List.countP_eq_zero.mpr fun j _=>by rw [hA]; simp
   rw [this]; exact h1
  ·have hy : ∀ y:Opd,y.get (za1 l (PD l fun j=>(Array.replicate ops.size false).getD j false) st0)=y.get st0:=fun y=>zoe fun j _=>hP j
   have hV:VD l (AD l fun j=>(Array.replicate ops.size false).getD j false) (za1 l (PD l fun j=>(Array.replicate ops.size false).getD j false) st0).V f.V=st0.V:=by
    funext k
    have hyk:(za1 l (PD l fun j=>(Array.replicate ops.size false).getD j false) st0).V k=st0.V k:=hy (.V k)
    by_cases c : ∃ (j:Nat) (q:zab×Nat×Nat),l[j]?=some q∧q.1.dst=some (.V k)
    ·obtain ⟨j,q,h3,h4⟩:=c
     unfold VD
     rw [if_pos ⟨j,q,h3,h4,hA j⟩]; exact hyk
    ·rw [z47 fun j q h3 h4=>(c ⟨j,q,h3,h4⟩).elim]
     exact zrv hrun (.V k) fun q hq d hd e=>c (by
      obtain ⟨j,hj⟩:=List.getElem?_of_mem hq
      refine ⟨j,q,hj,?_⟩
      cases d with
      | V k'=>cases e; exact hd
      | E k'=>cases e)
   have hE:ED l (AD l fun j=>(Array.replicate ops.size false).getD j false) (za1 l (PD l fun j=>(Array.replicate ops.size false).getD j false) st0).E f.E=st0.E:=by
    funext k
    have hyk:(za1 l (PD l fun j=>(Array.replicate ops.size false).getD j false) st0).E k=st0.E k:=hy (.E k)
    by_cases c : ∃ (j:Nat) (q:zab×Nat×Nat),l[j]?=some q∧q.1.dst=some (.E k)
    ·obtain ⟨j,q,h3,h4⟩:=c
     unfold ED
     rw [if_pos ⟨j,q,h3,h4,hA j⟩]; exact hyk
    ·rw [z4v fun j q h3 h4=>(c ⟨j,q,h3,h4⟩).elim]
     exact zrv hrun (.E k) fun q hq d hd e=>c (by
      obtain ⟨j,hj⟩:=List.getElem?_of_mem hq
      refine ⟨j,q,hj,?_⟩
      cases d with
      | E k'=>cases e; exact hd
      | V k'=>cases e)
   unfold mD
   rw [hV,hE,h2.en]
   exact h
end
end Go.Pe
namespace Go.Pe
open Go
theorem z6e {ms:List Nat} {j:Nat} : ∀ {es:List Edge},(zlh ms es).testBit j=true→∃ e∈es,Region.binds .any e=true∧(e.on=j∨(ms.getD e.on 0).testBit j=true)
 | [],h=>by simp [zlh] at h
 | e::es,h=>by
  simp only [zlh] at h
  split at h
  ·rename_i hb
   simp only [Nat.testBit_or,Bool.or_eq_true] at h
   rcases h with (h | h) | h
   ·rw [Nat.testBit_two_pow] at h
    exact ⟨e,List.mem_cons_self,hb,.inl (by simpa using h)⟩
   ·exact ⟨e,List.mem_cons_self,hb,.inr h⟩
   ·obtain ⟨e',h1,h2,h3⟩:=z6e h
    exact ⟨e',List.mem_cons_of_mem _ h1,h2,h3⟩
  ·obtain ⟨e',h1,h2,h3⟩:=z6e h
   exact ⟨e',List.mem_cons_of_mem _ h1,h2,h3⟩
theorem z67 : ∀ {os:List Oper} {ms:List Nat} {k v:Nat},ms[k]?=some v→(zb2 os ms)[k]?=some v
 | [],_,_,_,h=>h
 | o::os,ms,k,v,h=>by
  simp only [zb2]
  refine z67 ?_
  rw [List.getElem?_append_left (List.getElem?_eq_some_iff.mp h).1]; exact h
theorem yfx : ∀ (os:List Oper) (ms:List Nat),(zb2 os ms).length=ms.length+os.length
 | [],_=>rfl
 | o::os,ms=>by simp only [zb2,yfx os,List.length_append,List.length_cons,List.length_nil]; omega
theorem yjy : ∀ {os:List Oper} {ms:List Nat} {k:Nat} {o:Oper},os[k]?=some o→∃ ms':List Nat,(∀ (j v:Nat),ms'[j]?=some v→(zb2 os ms)[j]?=some v)∧(zb2 os ms)[ms.length+k]?=some (zlh ms' o.after.toList)
 | [],_,_,_,h=>by simp at h
 | o0::os,ms,0,o,h=>by
  simp only [List.getElem?_cons_zero,Option.some.injEq] at h
  subst h
  refine ⟨ms,fun j v hj=>z67 hj,?_⟩
  simp only [zb2]
  exact z67 (by simp)
 | o0::os,ms,k+1,o,h=>by
  simp only [List.getElem?_cons_succ] at h
  obtain ⟨ms',h1,h2⟩:=yjy (ms:=ms++[zlh ms o0.after.toList]) h
  refine ⟨ms',h1,?_⟩
  simp only [zb2]
  rw [← h2]; congr 1; simp; omega
theorem ydo {ops:List Oper} {i j:Nat} (h:zfi (zb2 ops []) i j=true) : ∃ o e,ops[i]?=some o∧e∈o.after.toList∧Region.binds .any e=true∧(e.on=j∨zfi (zb2 ops []) e.on j=true):=by
 unfold zfi at h
 have hi:i<ops.length:=by
  rw [List.getD_eq_getElem?_getD] at h
  cases hx:(zb2 ops [])[i]? with
  | none=>rw [hx] at h; simp at h
  | some v=>have:=(List.getElem?_eq_some_iff.mp hx).1; rw [yfx] at this; simpa using this
 obtain ⟨ms',h1,h2⟩:=yjy (ms:=[]) (List.getElem?_eq_getElem hi)
 simp only [List.length_nil,Nat.zero_add] at h2
 rw [List.getD_eq_getElem?_getD,h2] at h
 simp only [Option.getD_some] at h
 obtain ⟨e,he,hb,hon⟩:=z6e h
 refine ⟨ops[i],e,List.getElem?_eq_getElem hi,he,hb,?_⟩
 rcases hon with hon | hon
 ·exact .inl hon
 ·refine .inr ?_
  unfold zfi
  rw [List.getD_eq_getElem?_getD] at hon ⊢
  cases hx:ms'[e.on]? with
  | none=>rw [hx] at hon; simp at hon
  | some v=>rw [h1 _ _ hx]; rw [hx] at hon; exact hon
theorem ye3 {α:Type} {f:α→Option Nat} : ∀ {l:List α},zeq (l.filterMap f)=true→∀ {i j:Nat} {p q:α} {c:Nat},l[i]?=some p→l[j]?=some q→f p=some c→f q=some c→i=j
 | [],_,i,j,p,q,c,h,_,_,_=>by simp at h
 | x::l,hn,i,j,p,q,c,hi,hj,hp,hq=>by
  have notin : ∀ {c:Nat} {y:α},f x=some c→y∈l→f y=some c→False:=by
   intro c y hx hy hy'
   rw [List.filterMap_cons_some hx] at hn
   simp only [zeq,Bool.and_eq_true,Bool.not_eq_true',List.any_eq_false] at hn
   exact hn.1 c (List.mem_filterMap.mpr ⟨y,hy,hy'⟩) (by simp)
  have tl:zeq (l.filterMap f)=true:=by
   cases hx:f x with
   | none=>rw [List.filterMap_cons_none hx] at hn; exact hn
   | some c=>rw [List.filterMap_cons_some hx] at hn; simp only [zeq,Bool.and_eq_true] at hn; exact hn.2
  cases i with
  | zero =>
   simp only [List.getElem?_cons_zero,Option.some.injEq] at hi
   subst hi
   cases j with
   | zero=>rfl
   | succ j=>simp only [List.getElem?_cons_succ] at hj; exact (notin hp (List.mem_of_getElem? hj) hq).elim
  | succ i =>
   simp only [List.getElem?_cons_succ] at hi
   cases j with
   | zero =>
    simp only [List.getElem?_cons_zero,Option.some.injEq] at hj
    subst hj
    exact (notin hq (List.mem_of_getElem? hi) hp).elim
   | succ j =>
    simp only [List.getElem?_cons_succ] at hj
    exact congrArg Nat.succ (ye3 tl hi hj hp hq)
theorem z6o {d:Dst}:d.opd.code=some d.code:=by cases d <;> rfl
theorem z2l {md:Region.Mode} {rk:Nat→Nat} {ops:Array Oper} (h:zn5 md rk ops.toList=true) {listed:Array Bool} (hs:listed.size=ops.size) (hr:Region.ready md ops listed=[]) : ∀ j,j<ops.size→listed.getD j false=true:=by
 have key : ∀ r j,rk j<r→j<ops.size→listed.getD j false=true:=by
  intro r
  induction r with
  | zero=>intro j hj; omega
  | succ r ih =>
   intro j hj hlt
   cases hx:listed.getD j false with
   | true=>rfl
   | false =>
    have:j∈Region.ready md ops listed:=by
     refine mem_ready.mpr ⟨?_,ops[j],Array.getElem?_eq_getElem hlt,fun e he hb => ?_⟩
     ·rw [Array.getD_eq_getD_getElem?,Array.getElem?_eq_getElem (by omega)] at hx ⊢
      simpa using hx
     ·unfold zn5 at h
      rw [List.all_eq_true] at h
      have h1:=h (ops[j],j) (List.mem_zipIdx_iff_getElem?.mpr (by simp [Array.getElem?_toList]))
      rw [List.all_eq_true] at h1
      have h2:=h1 e (by simpa using he)
      rw [hb] at h2
      simp only [Bool.not_true,Bool.false_or,Bool.and_eq_true,decide_eq_true_eq] at h2
      exact ih _ (by omega) (by simpa using h2.1)
    rw [hr] at this
    simp at this
 exact fun j hj=>key (rk j+1) j (by omega) hj
theorem yjc {md md':Region.Mode} {rk:Nat→Nat} {ops:List Oper} (hle : ∀ o∈ops,∀ e∈o.after.toList,Region.binds md' e=true→Region.binds md e=true) (h:zn5 md rk ops=true):zn5 md' rk ops=true:=by
 unfold zn5 at h ⊢
 rw [List.all_eq_true] at h ⊢
 intro q hq
 have h1:=h q hq
 rw [List.all_eq_true] at h1 ⊢
 intro e he
 have h2:=h1 e he
 simp only [Bool.or_eq_true,Bool.not_eq_true'] at h2 ⊢
 rcases h2 with h2 | h2
 ·refine .inl ?_
  cases hx:Region.binds md' e with
  | false=>rfl
  | true =>
   have hmem:q.1∈ops:=by
    have:=List.mem_zipIdx_iff_getElem?.mp hq
    exact List.mem_of_getElem? this
   rw [hle q.1 hmem e he hx] at h2; cases h2
 ·exact .inr h2
theorem yf6 {e:Edge} (h:Region.binds .any e=true) (md:Region.Mode):Region.binds md e=true:=by
 unfold Region.binds at h ⊢
 split at h <;> simp_all
theorem yho {P:Program} {vars:List Nat} {nt:Nat} {ops:Array Oper} : ∀ {os:List Oper} {ios:List zab},zie P vars nt ops os=some ios→ios.length=os.length∧∀ (i:Nat) (o:Oper) (io:zab),os[i]?=some o→ios[i]?=some io→z2t P vars nt ops o=some io
 | [],ios,h=>by
  simp only [zie,Option.some.injEq] at h
  subst h
  exact ⟨rfl,fun i o io h=>by simp at h⟩
 | o::os,ios,h=>by
  simp only [zie] at h
  obtain ⟨x,h1,h2⟩:=Option.bind_eq_some_iff.mp h
  simp only [Option.map_eq_some_iff] at h2
  obtain ⟨xs,h3,rfl⟩:=h2
  obtain ⟨h4,h5⟩:=yho h3
  refine ⟨by simp [h4],fun i o' io hi hio => ?_⟩
  cases i with
  | zero=>simp at hi hio; subst hi; subst hio; exact h1
  | succ i=>simp at hi hio; exact h5 i o' io hi hio
theorem zi3 {ms:List Nat} {ios:List zab} {i:Nat} {q:zab×Nat×Nat}:(bws ms ios)[i]?=some q↔∃ o,ios[i]?=some o∧q=(o,bOf ms ios o i,wOf ms ios o i):=by
 unfold bws
 simp only [List.getElem?_map,List.getElem?_zipIdx,Option.map_map,Nat.zero_add]
 cases ios[i]? with
 | none=>simp
 | some o=>simp [eq_comm]
theorem yji {ms:List Nat} {ios:List zab} (j:Nat):zba (bws ms ios) j=zey ios j:=by
 unfold zba zey
 cases hx:ios[j]? with
 | none =>
  have:(bws ms ios)[j]?=none:=by
   cases hy:(bws ms ios)[j]? with
   | none=>rfl
   | some q=>obtain ⟨o,ho,_⟩:=zi3.mp hy; rw [hx] at ho; cases ho
  rw [this]
 | some o=>rw [zi3.mpr ⟨o,hx,rfl⟩]
theorem yfm {ms:List Nat} {ios:List zab}:(bws ms ios).length=ios.length:=by simp [bws]
def NoL (x:Option IOp):Prop := ∀ io,x=some io→zfk io=false
theorem NoL.none:NoL Option.none:=fun _ h=>by cases h
theorem NoL.some {io:IOp} (h:zfk io=false):NoL (Option.some io):=fun _ e=>by cases e; exact h
theorem NoL.bind {α:Type} {x:Option α} {k:α→Option IOp} (h : ∀ a,NoL (k a)):NoL (x.bind k):=fun io e=>by
 obtain ⟨a,_,e⟩:=Option.bind_eq_some_iff.mp e
 exact h a io e
theorem NoL.map {α:Type} {x:Option α} {k:α→IOp} (h : ∀ a,zfk (k a)=false):NoL (x.map k):=fun io e=>by
 obtain ⟨a,_,rfl⟩:=Option.map_eq_some_iff.mp e
 exact h a
theorem yw5 {P:Program} {vars:List Nat} {o:Op} {io:IOp} (h:zb4 P vars o=some io):zfk io=false:=by
 revert h
 suffices hh:NoL (zb4 P vars o) from fun h=>hh io h
 cases o with
 | _ =>
  simp only [zb4,zvh]
  repeat' first
   | exact NoL.none
   | exact NoL.some rfl
   | exact NoL.map fun _=>rfl
   | refine NoL.bind fun _ => ?_
   | (rename_i heq; cases heq; done)
   | split
theorem y27 {ms:List Nat} {ios:List zab} {i:Nat} {x:zab}:(zg8 ms ios)[i]?=some x↔∃ o,ios[i]?=some o∧x=if z2c o.op && (List.range i).any (fun j=>zey ios j && !zfi ms i j) then { o with op:=zhj o.op } else o:=by
 unfold zg8
 rw [List.getElem?_map,List.getElem?_zipIdx,Option.map_map]
 cases ios[i]? with
 | none=>simp
 | some o =>
  simp only [Option.map_some,Function.comp,Nat.zero_add,Option.some.injEq]
  constructor
  ·intro h; exact ⟨o,rfl,h.symm⟩
  ·rintro ⟨o',e,h⟩; cases e; exact h.symm
theorem y1y {o:IOp} (h:z2c o=true):zfk (zhj o)=true:=by cases o <;> first | rfl | cases h
theorem yhi {ms:List Nat} {ios:List zab} (j:Nat):Lz (bws ms ios) j=lzB ios j:=by
 unfold Lz lzB
 cases hx:ios[j]? with
 | none =>
  have:(bws ms ios)[j]?=none:=by
   cases hy:(bws ms ios)[j]? with
   | none=>rfl
   | some q=>obtain ⟨o,ho,_⟩:=zi3.mp hy; rw [hx] at ho; cases ho
  rw [this]
 | some o=>rw [zi3.mpr ⟨o,hx,rfl⟩]
theorem yz9 {ms:List Nat} {ios:List zab} (j:Nat):Ln (bws ms ios) j=zj5 ios j:=by
 unfold Ln zj5
 rw [yji,yhi]
theorem yhc {ios:List zab} {j:Nat} (h:zey ios j=true):j<ios.length:=by
 unfold zey at h
 cases hx:ios[j]? with
 | none=>rw [hx] at h; cases h
 | some o=>exact (List.getElem?_eq_some_iff.mp hx).1
theorem yhs {ios:List zab} {j:Nat} (h:lzB ios j=true):j<ios.length:=by
 unfold lzB at h
 cases hx:ios[j]? with
 | none=>rw [hx] at h; cases h
 | some o=>exact (List.getElem?_eq_some_iff.mp hx).1
theorem yyx {C:Ctx} {ops:Array Oper} {ios0:List zab} (hc:zie C.P C.vars C.nt ops ops.toList=some ios0) (hk:dOk ops.toList (zg8 (zb2 ops.toList []) ios0) (zb2 ops.toList [])=true) (md:Region.Mode):DOk C md ops (bws (zb2 ops.toList []) (zg8 (zb2 ops.toList []) ios0)) (zfi (zb2 ops.toList [])):=by
 unfold dOk at hk
 simp only [Bool.and_eq_true] at hk
 obtain ⟨⟨⟨⟨⟨⟨hlt,hnd⟩,hop⟩,hch⟩,hlk⟩,htx⟩,hgc⟩:=hk
 obtain ⟨hlen0,hget⟩:=yho hc
 have hlz : ∀ (i:Nat) (x:zab),(zg8 (zb2 ops.toList []) ios0)[i]?=some x→∃ o,ios0[i]?=some o∧x.guard=o.guard∧x.dst=o.dst∧(x.op=o.op∨(z2c o.op=true∧x.op=zhj o.op)):=by
  intro i x hx
  obtain ⟨o,h1,h2⟩:=y27.mp hx
  refine ⟨o,h1,?_⟩
  split at h2
  ·rename_i hcd
   subst h2
   simp only [Bool.and_eq_true] at hcd
   exact ⟨rfl,rfl,.inr ⟨hcd.1,rfl⟩⟩
  ·subst h2; exact ⟨rfl,rfl,.inl rfl⟩
 generalize hios:zg8 (zb2 ops.toList []) ios0=ios at hlz hnd hop hch hlk htx hgc ⊢
 have hlen:ios.length=ops.toList.length:=by rw [← hlen0,← hios]; simp [zg8]
 have hL:zba (bws (zb2 ops.toList []) ios)=zey ios:=funext yji
 have hLn:Ln (bws (zb2 ops.toList []) ios)=zj5 ios:=funext yz9
 have hLZ:Lz (bws (zb2 ops.toList []) ios)=lzB ios:=funext yhi
 refine ⟨by rw [yfm,hlen]; simp,?_,?_,?_,?_,?_,?_,?_,?_,?_,?_⟩
 ·intro i o q hi hq
  obtain ⟨x,hx,rfl⟩:=zi3.mp hq
  obtain ⟨io,hio,hg,hdd,hoo⟩:=hlz i x hx
  have h1:=hget i o io (by rw [Array.getElem?_toList]; exact hi) hio
  simp only [z2t] at h1
  obtain ⟨iop,h3,h1⟩:=Option.bind_eq_some_iff.mp h1
  obtain ⟨d,h4,h1⟩:=Option.bind_eq_some_iff.mp h1
  simp only [Option.map_eq_some_iff] at h1
  obtain ⟨ig,h5,rfl⟩:=h1
  refine ⟨by rw [hg]; exact h5,⟨iop,h3,?_⟩,by rw [hdd]; exact h4⟩
  rcases hoo with e | ⟨e1,e⟩
  ·rw [e,yw5 h3]; rfl
  ·rw [e,y1y e1]; rfl
 ·intro i j hij
  unfold zfi at hij
  rw [List.all_eq_true] at hlt
  by_cases hi:i<(zb2 ops.toList []).length
  ·have:=hlt i (List.mem_range.mpr hi)
   simp only [decide_eq_true_eq] at this
   refine Nat.lt_of_not_le fun hle => ?_
   rw [Nat.testBit_lt_two_pow (Nat.lt_of_lt_of_le this (Nat.pow_le_pow_right (by omega) hle))] at hij
   cases hij
  ·rw [List.getD_eq_getElem?_getD,List.getElem?_eq_none (by omega)] at hij
   simp at hij
 ·intro i j p q d d' hp hq hd hd' he
  obtain ⟨o,ho,rfl⟩:=zi3.mp hp
  obtain ⟨o',ho',rfl⟩:=zi3.mp hq
  simp only at hd hd'
  refine ye3 hnd (c:=d.code) ho ho' (by simp [zvg,hd]) ?_
  have:d.code=d'.code:=by
   have:=congrArg Opd.code he
   rw [z6o,z6o] at this
   exact Option.some.inj this
  simp [zvg,hd',this]
 ·intro i j p q d hp hq hd hm
  obtain ⟨o,ho,rfl⟩:=zi3.mp hp
  obtain ⟨o',ho',rfl⟩:=zi3.mp hq
  simp only at hd hm
  unfold yh3 at hop
  rw [List.all_eq_true] at hop
  have h1:=hop (o,i) (List.mem_zipIdx_iff_getElem?.mpr ho)
  rw [List.all_eq_true] at h1
  have h2:=h1 _ hm
  rw [z6o] at h2
  simp only at h2
  rw [List.all_eq_true] at h2
  have h3:=h2 (o',j) (List.mem_zipIdx_iff_getElem?.mpr ho')
  simp only [zvg,hd,Option.map_some,beq_self_eq_true,Bool.not_true,Bool.false_or,Bool.or_eq_true,Bool.and_eq_true] at h3
  exact h3
 ·intro i j hi hj hij
  rw [hL] at hi
  rw [hLn] at hj
  unfold yka at hch
  rw [List.all_eq_true] at hch
  have hjl:j<ios.length:=yhc (by unfold zj5 at hj; simp only [Bool.and_eq_true] at hj; exact hj.1)
  have h1:=hch j (List.mem_range.mpr hjl)
  rw [hj] at h1
  simp only [Bool.not_true,Bool.false_or] at h1
  rw [List.all_eq_true] at h1
  have h2:=h1 i (List.mem_range.mpr hij)
  rw [hi] at h2
  simpa using h2
 ·intro j hj
  rw [hLZ] at hj
  unfold z6l at hlk
  rw [List.all_eq_true] at hlk
  have h1:=hlk j (List.mem_range.mpr (yhs hj))
  rw [hj] at h1
  simp only [Bool.not_true,Bool.false_or,Bool.and_eq_true,List.any_eq_true,decide_eq_true_eq] at h1
  obtain ⟨⟨k,_,h2,h3⟩,_⟩:=h1
  exact ⟨k,h2,by rw [hLn]; exact h3⟩
 ·intro i j hj hij
  rw [hLZ] at hj
  unfold z6l at hlk
  rw [List.all_eq_true] at hlk
  have h1:=hlk j (List.mem_range.mpr (yhs hj))
  rw [hj] at h1
  simp only [Bool.not_true,Bool.false_or,Bool.and_eq_true] at h1
  obtain ⟨_,h1⟩:=h1
  rw [List.all_eq_true] at h1
  obtain ⟨o,e,h2,_⟩:=ydo hij
  have hil:i<ios.length:=by rw [hlen]; exact (List.getElem?_eq_some_iff.mp h2).1
  have h3:=h1 i (List.mem_range.mpr hil)
  rw [hij] at h3
  simp only [Bool.not_true,Bool.false_or,Bool.and_eq_true,Bool.not_eq_true',Bool.or_eq_true,List.any_eq_true,decide_eq_true_eq] at h3
  obtain ⟨h4,h5⟩:=h3
  refine ⟨by rw [hLZ]; exact h4,?_⟩
  rcases h5 with h5 | ⟨k,_,⟨h6,h7⟩,h8⟩
  ·exact .inl (by rw [hL]; exact h5)
  ·exact .inr ⟨k,h6,by rw [hLn]; exact h7,h8⟩
 ·intro i j hij
  obtain ⟨o,e,h1,h2,h3,h4⟩:=ydo hij
  exact ⟨o,e,by rw [← Array.getElem?_toList]; exact h1,by simpa using h2,yf6 h3 md,h4⟩
 ·intro listed hs hr
  cases md with
  | text=>exact z2l htx hs hr
  | any=>exact z2l (yjc (fun o _ e _ hb=>yf6 hb .text) htx) hs hr
  | gc =>
   simp only [Bool.or_eq_true,Bool.not_eq_true'] at hgc
   rcases hgc with hgc | hgc
   ·refine z2l (yjc (fun o ho e he hb => ?_) htx) hs hr
    unfold yiq at hgc
    rw [List.any_eq_false] at hgc
    have h1:=hgc o ho
    simp only [Bool.not_eq_true,List.any_eq_false] at h1
    have h2:=h1 e he
    unfold yi6 at h2
    unfold Region.binds at hb ⊢
    split <;> simp_all
   ·exact z2l hgc hs hr
 ·intro i o b w hi hq
  obtain ⟨o',ho,he⟩:=zi3.mp hi
  cases he
  cases hp:zgg o.op with
  | true=>exact .inl rfl
  | false =>
   refine .inr fun A hA1 hA2 hA3 => ?_
   rw [z1y,hL,yfm]
   unfold bOf wOf
   rw [hq,hp]
   simp only [Bool.not_false,Bool.and_self,if_true]
   have g1:(List.range ios.length).countP (fun j=>zey ios j && zfi (zb2 ops.toList []) i j)≤(List.range ios.length).countP (fun j=>zey ios j && A j):=yd4 (fun j hj=>by
    simp only [Bool.and_eq_true] at hj ⊢; exact ⟨hj.1,hA1 j hj.2⟩) _
   have g2:(List.range ios.length).countP (fun j=>zey ios j && A j)≤(List.range ios.length).countP (fun j=>zey ios j && upB (zb2 ops.toList []) ios i j):=yd4 (fun j hj=>by
    simp only [Bool.and_eq_true] at hj ⊢
    refine ⟨hj.1,?_⟩
    unfold upB
    simp only [Bool.and_eq_true,Bool.not_eq_true',Bool.or_eq_true,List.any_eq_true,decide_eq_true_eq]
    refine ⟨hA2 j hj.2,?_⟩
    cases hz:lzB ios j with
    | false=>exact .inl rfl
    | true =>
     obtain ⟨k,h1,h2,h3⟩:=hA3 j hj.2 (by rw [hLZ]; exact hz)
     rw [hLn] at h2
     exact .inr ⟨k,List.mem_range.mpr (yhc (by unfold zj5 at h2; simp only [Bool.and_eq_true] at h2; exact h2.1)),⟨h1,h2⟩,h3⟩) _
   omega
theorem SR.drew {C:Ctx} {a:Act} {w:World} {g:Gh} {st:St} (h:SR C a w g st) {n:Nat}:SR C a { w with drawn:=n } g st:=by
 have hg:zap w g st { w with drawn:=n } g st:=⟨Nat.le_refl _,Nat.le_refl _,fun _ _ _ _ _ _ es' h=>⟨es',h,rfl,rfl⟩,fun _ _ cs' h=>⟨⟨cs',h⟩,rfl⟩,fun _ h=>h,fun _ _=>rfl⟩
 have r:=h.rel
 refine ⟨⟨fun o b hb => ?_,r.sep,r.nz,r.lt,r.zlt,r.nxt,fun o sz es e ho=>⟨(r.shd o sz es e ho).1,fun he => ?_⟩⟩,fun k hk=>(h.tv k hk).goes hg,fun k hk=>(h.te k hk).goes hg,h.nt,h.df,h.os,h.tape,h.output,h.size,h.old,h.own,h.zin,h.z0,h.hv,h.n0⟩
 ·have:=r.ob o b hb
  cases b with
  | row sz es=>exact zal.congr this fun _ _=>rfl
  | rowF sz es =>
   have h0:zcj w g.Z (g.F o) sz es (g.hv o):=this
   refine (⟨?_⟩:zcj { w with drawn:=n } g.Z (g.F o) sz es (g.hv o))
   rcases h0.ok with h1 | ⟨b,off,cap,cur,t,us,h1,h2,h3,h4,h5,h6,h7⟩
   ·exact .inl h1
   ·exact .inr ⟨b,off,cap,cur,t,us,h1,h2,h3,h4,h5,h6,fun k d hd=>⟨(h7 k d hd).1,zan.congr (w:=w) (w' := { w with drawn:=n }) (fun _ _=>rfl) (h7 k d hd).2.1,(h7 k d hd).2.2⟩⟩
  | box cs=>obtain ⟨b,cur,t,h1,h2,h3,h4,h5⟩:=this; exact ⟨b,cur,t,h1,h2,h3,h4.goes hg,h5⟩
  | shadow=>exact this
 ·obtain ⟨Y,h1,h2,h3⟩:=(r.shd o sz es e ho).2 he
  exact ⟨Y,zan.congr (w:=w) (w' := { w with drawn:=n }) (fun _ _=>rfl) h1,h2,h3⟩
theorem y0j {C:Ctx} {modes:Nat→List Bool} {R:zaj} (hR:zh2 C.P modes R) {id:Nat} {ops:Array Oper} {ios:List zab} (hc:zie C.P C.vars C.nt ops ops.toList=some ios) (hk:dOk ops.toList (zg8 (zb2 ops.toList []) ios) (zb2 ops.toList [])=true) {st0 f:St} (hev:evD modes R (bws (zb2 ops.toList []) (zg8 (zb2 ops.toList []) ios)) [] [] st0=some f) {a:Act} {w:World} {g:Gh} (h:SR C a w g st0) {Q:Exit→Act→World→Prop} (hQ : ∀ a w g,SR C a w g f→Q .normal a w):(Code.region id ops true).wp C.P Q a w:=by
 obtain ⟨tr,hrun⟩:=z4t hev
 have hs:SR C a { w with drawn:=w.drawn+1 } g st0:=h.drew
 have all : ∀ md t,wpOps C.P ops Q (Region.linearise md ops t) a { w with drawn:=w.drawn+1 }:=by
  intro md t
  have hd:=yyx (C:=C) hc hk md
  refine wpAny_sound ops.size t _ a _ (y0l hd hR hrun hQ ops.size _ a _ ?_ (y1v hd hrun hs))
  have e:(List.range (bws (zb2 ops.toList []) (zg8 (zb2 ops.toList []) ios)).length).countP (fun j=>(Array.replicate ops.size false).getD j false)=0:=List.countP_eq_zero.mpr fun j _=>by
   simp only [Array.getD_eq_getD_getElem?,Array.getElem?_replicate]
   split <;> simp
  rw [e,hd.len]; omega
 refine wp_region_draw fun t => ?_
 unfold Region.schedule
 split
 ·exact all .any t
 ·split
  ·exact all .text _
  ·exact all .gc _
end Go.Pe
namespace Go.Pe
open Go
theorem z5s {C:Ctx} {modes:Nat→List Bool} {R:zaj} (hR:zh2 C.P modes R) {ops:Array Oper} {Q:Exit→Act→World→Prop} : ∀ {os:List Oper} {ios:List zab} {i:Nat} {a:Act} {w:World} {g:Gh} {st st':St},ops.toList.drop i=os→zie C.P C.vars C.nt ops os=some ios→zd5 modes R ios st=some st'→SR C a w g st→(∀ a' w' g',SR C a' w' g' st'→Q .normal a' w')→wpOps C.P ops Q (List.range' i os.length) a w
 | [],ios,i,a,w,g,st,st',hd,hc,he,h,hQ=>by
  simp only [zie,Option.some.injEq] at hc
  subst hc
  simp only [zd5,Option.some.injEq] at he
  subst he
  exact hQ a w g h
 | o::os,ios,i,a,w,g,st,st',hd,hc,he,h,hQ=>by
  simp only [zie] at hc
  obtain ⟨io,h1,hc⟩:=Option.bind_eq_some_iff.mp hc
  simp only [Option.map_eq_some_iff] at hc
  obtain ⟨ios',h2,rfl⟩:=hc
  simp only [z2t] at h1
  obtain ⟨iop,h3,h1⟩:=Option.bind_eq_some_iff.mp h1
  obtain ⟨d,h4,h1⟩:=Option.bind_eq_some_iff.mp h1
  simp only [Option.map_eq_some_iff] at h1
  obtain ⟨ig,h5,rfl⟩:=h1
  simp only [zd5] at he
  obtain ⟨t,ht,he⟩:=Option.bind_eq_some_iff.mp he
  have hoi:ops[i]?=some o:=by
   have:=congrArg (fun l=>l[0]?) hd
   simpa [List.getElem?_drop] using this
  have hd':ops.toList.drop (i+1)=os:=by
   have:=congrArg List.tail hd
   simpa [List.tail_drop] using this
  have hw:=z4m h h5 ht
  rw [List.length_cons,List.range'_succ]
  simp only [wpOps,hoi]
  cases t with
  | true =>
   simp only [if_true] at he
   obtain ⟨r,hr,he⟩:=Option.bind_eq_some_iff.mp he
   rw [if_pos hw]
   refine .inl (yc6 h hR h3 hr _ _ fun u w' g' hs hv => ?_)
   exact z5s hR hd' h2 he (hs.put hv h4) hQ
  | false =>
   simp only [Bool.false_eq_true,if_false] at he
   rw [if_neg (by rw [hw]; simp)]
   exact z5s hR hd' h2 he (h.put (x := .v Go.undef) (show zaq w g st (.v Go.undef) Go.undef from rfl) h4) hQ
def yfr:Ex→Exit
 | .normal => .normal
 | .exit id => .exit id
 | .ret => .ret
def yh0 (C:Ctx) (r:Ex×St):Exit→Act→World→Prop:=fun e a w=>e=yfr r.1∧∃ g,SR C a w g r.2
theorem y1l {P:Program} {c:Code} {Q:Exit→Act→World→Prop} (J:Nat→Act→World→Prop) (h0 : ∀ a w,¬ J 0 a w) (round : ∀ k a w,J (k+1) a w→c.wp P (Exit.then (J k) Q) a w) {k:Nat} {a:Act} {w:World} (h:J k a w):(Code.loop c).wp P Q a w:=by
 intro b k' cs
 have key : ∀ n a w,J n a w→∃ e a' w',Q e a' w'∧Arrives P (lone (b.at a (.code c :: .inLoop c::k')) cs w) b k' cs e a' w':=by
  intro n
  induction n with
  | zero=>intro a w h; exact (h0 a w h).elim
  | succ n ih =>
   intro a w hI
   obtain ⟨e,a1,w1,hq,harr⟩:=round n a w hI b (.inLoop c::k') cs
   cases e with
   | normal =>
    obtain ⟨e2,a2,w2,hq2,harr2⟩:=ih a1 w1 hq
    exact ⟨e2,a2,w2,hq2,.of_steps (Steps.trans harr (.one step_inLoop)) harr2⟩
   | exit id=>exact ⟨_,a1,w1,hq,.pass (x := .inLoop c) rfl (fun _ _ => .inl (by simp)) harr⟩
   | goto l=>exact ⟨_,a1,w1,hq,.pass (x := .inLoop c) rfl (fun _ _ => .inl (by simp)) harr⟩
   | ret=>exact ⟨_,a1,w1,hq,.pass (x := .inLoop c) rfl (fun _ _ => .inl (by simp)) harr⟩
   | panic ch=>exact ⟨_,a1,w1,hq,.pass (x := .inLoop c) rfl (fun _ _ => .inl (by simp)) harr⟩
   | outgrown=>exact ⟨_,a1,w1,hq,.pass (x := .inLoop c) rfl (fun _ _ => .inl (by simp)) harr⟩
 obtain ⟨e,a',w',hq,harr⟩:=key _ a w h
 exact ⟨e,a',w',hq,.of_steps (.one step_loop) harr⟩
theorem yyj {C:Ctx} {modes:Nat→List Bool} {R:zaj} (hR:zh2 C.P modes R) : ∀ (n:Nat) (c:Code) (ic:IC) (a:Act) (w:World) (g:Gh) (st:St) (r:Ex×St),ze7 C.P C.vars C.nt c=some ic→evC modes R n ic st=some r→SR C a w g st→c.wp C.P (yh0 C r) a w:=by
 intro n c
 induction c with
 | skip =>
  intro ic a w g st r hc he h
  simp only [ze7,Option.some.injEq] at hc
  subst hc
  simp only [evC,Option.some.injEq] at he
  subst he
  exact wp_skip ⟨rfl,g,h⟩
 | region id ops draw =>
  intro ic a w g st r hc he h
  simp only [ze7] at hc
  split at hc
  ·rename_i hdr
   subst hdr
   unfold yil at hc
   obtain ⟨ios,h1,hc⟩:=Option.bind_eq_some_iff.mp hc
   split at hc
   ·rename_i hk
    cases hc
    simp only [evC,Option.map_eq_some_iff] at he
    obtain ⟨st',h2,rfl⟩:=he
    exact y0j hR h1 hk h2 h.clear fun a' w' g' h'=>⟨rfl,g',h'⟩
   ·cases hc
  ·rename_i hdr
   have hdr':draw=false:=by simpa using hdr
   subst hdr'
   simp only [Option.map_eq_some_iff] at hc
   obtain ⟨ios,h1,rfl⟩:=hc
   simp only [evC,Option.map_eq_some_iff] at he
   obtain ⟨st',h2,rfl⟩:=he
   refine wp_region ?_
   have:=z5s (Q:=yh0 C (.normal,st')) hR (i:=0) (by simp) h1 h2 h.clear (fun a' w' g' h'=>⟨rfl,g',h'⟩)
   rw [List.range_eq_range']
   simpa using this
 | seq x y ihx ihy =>
  intro ic a w g st r hc he h
  simp only [ze7] at hc
  obtain ⟨ix,h1,hc⟩:=Option.bind_eq_some_iff.mp hc
  simp only [Option.map_eq_some_iff] at hc
  obtain ⟨iy,h2,rfl⟩:=hc
  simp only [evC] at he
  obtain ⟨⟨e,s⟩,h3,he⟩:=Option.bind_eq_some_iff.mp he
  refine wp_seq (wp_mono (ihx ix a w g st _ h1 h3 h) fun e' a' w' hq => ?_)
  obtain ⟨rfl,g',hs⟩:=hq
  cases e with
  | normal=>exact ihy iy a' w' g' s r h2 he hs
  | exit id=>cases he; exact ⟨rfl,g',hs⟩
  | ret=>cases he; exact ⟨rfl,g',hs⟩
 | cond c x y ihx ihy =>
  intro ic a w g st r hc he h
  simp only [ze7] at hc
  obtain ⟨c',h0,hc⟩:=Option.bind_eq_some_iff.mp hc
  obtain ⟨ix,h1,hc⟩:=Option.bind_eq_some_iff.mp hc
  simp only [Option.map_eq_some_iff] at hc
  obtain ⟨iy,h2,rfl⟩:=hc
  simp only [evC] at he
  obtain ⟨t,ht,he⟩:=Option.bind_eq_some_iff.mp he
  have hv:=h.opd h0
  rw [yf9 ht] at hv
  have hcv:a.eval c = .bool t:=hv.v
  refine wp_cond hcv ?_
  cases t with
  | true=>exact ihx ix a w g st r h1 he h
  | false=>exact ihy iy a w g st r h2 (by simpa using he) h
 | block id c ih =>
  intro ic a w g st r hc he h
  simp only [ze7,Option.map_eq_some_iff] at hc
  obtain ⟨ic',h1,rfl⟩:=hc
  simp only [evC,Option.map_eq_some_iff] at he
  obtain ⟨⟨e,s⟩,h2,rfl⟩:=he
  refine wp_block (wp_mono (ih ic' a w g st _ h1 h2 h) fun e' a' w' hq => ?_)
  obtain ⟨rfl,g',hs⟩:=hq
  cases e with
  | normal=>exact ⟨rfl,g',hs⟩
  | exit i =>
   simp only [yfr,Exit.inBlock,Ex.out]
   by_cases e1:i=id
   ·rw [if_pos e1,if_pos e1]; exact ⟨rfl,g',hs⟩
   ·rw [if_neg e1,if_neg e1]; exact ⟨rfl,g',hs⟩
  | ret=>exact ⟨rfl,g',hs⟩
 | loop c ih =>
  intro ic a w g st r hc he h
  simp only [ze7,Option.map_eq_some_iff] at hc
  obtain ⟨ic',h1,rfl⟩:=hc
  simp only [evC] at he
  refine y1l (fun k a w => ∃ g st,SR C a w g st∧zec (evC modes R n ic') k st=some r) (fun a w ⟨g,st,_,h0⟩=>by simp [zec] at h0) (fun k a w ⟨g1,st1,hs1,hit⟩ => ?_) ⟨g,st,h,he⟩
  simp only [zec] at hit
  obtain ⟨⟨e,s⟩,h2,hit⟩:=Option.bind_eq_some_iff.mp hit
  refine wp_mono (ih ic' a w g1 st1 _ h1 h2 hs1) fun e' a' w' hq => ?_
  obtain ⟨rfl,g',hs⟩:=hq
  cases e with
  | normal=>exact ⟨g',s,hs,hit⟩
  | exit id=>cases hit; exact ⟨rfl,g',hs⟩
  | ret=>cases hit; exact ⟨rfl,g',hs⟩
 | exit id =>
  intro ic a w g st r hc he h
  simp only [ze7,Option.some.injEq] at hc
  subst hc
  simp only [evC,Option.some.injEq] at he
  subst he
  exact wp_exit ⟨rfl,g,h⟩
 | ret =>
  intro ic a w g st r hc he h
  simp only [ze7,Option.some.injEq] at hc
  subst hc
  simp only [evC,Option.some.injEq] at he
  subst he
  exact wp_ret ⟨rfl,g,h⟩
 | _ =>
  intros
  rename_i hc _ _
  simp [ze7] at hc
end Go.Pe
namespace Go.Pe
open Go
structure zvs (P:Program) (f:Nat) (fn:IFn) (func:Func) (c:Code) (vars:List Nat):Prop where
 at_:P.funcs[f]?=some func
 body:func.body=some c
 name : (func.name == "runtime.NumGoroutine") = false
 code:ze7 P vars func.ntmps c=some fn.body
 rvs:zj7 P vars func.results.toList func.resultTypes.toList=some fn.results
def zae (P:Program) (f:Nat):Fun→Prop
 | .code fn => ∃ func c vars,zvs P f fn func c vars
 | .known _ g => ∀ args r,g args=some r→zun P f∧z1q P f args r.1 r.2
 | .ext g => ∀ xs ys,g xs=some ys→∀ w,(callFunc f xs.toArray).run P w = .ok (.value (zix ys)) w
def zjr (P:Program) (T:zc2):Prop := ∀ f F,T f=some F→zae P f F
theorem zvs.callable {P:Program} {f:Nat} {fn:IFn} {func:Func} {c:Code} {vars:List Nat} (h:zvs P f fn func c vars):zun P f:=by
 intro vals w
 have hn:=h.name
 simp at hn
 simp [callFunc,h.at_,h.body,hn]
theorem yhf {P:Program} {f:Nat} {fn:IFn} {func:Func} {c:Code} {vars:List Nat} (h:zvs P f fn func c vars) {modes:Nat→List Bool} {R:zaj} (hR:zh2 P modes R) {n:Nat} {args:List PV} {r:List PV×List PV} (hr:zob modes R n fn args=some r):z1q P f args r.1 r.2:=by
 intro w Z vals l hm hS
 simp only [zob] at hr
 obtain ⟨st,hst,hr⟩:=Option.bind_eq_some_iff.mp hr
 obtain ⟨⟨e,s⟩,hev,hr⟩:=Option.bind_eq_some_iff.mp hr
 obtain ⟨hsr,hnx⟩:=yyl (P:=P) (vars:=vars) (nt:=func.ntmps) hm hS hst
 have hw:=yyj (C:=zoo P vars func.ntmps w Z l) hR n c fn.body _ w _ st (e,s) h.code hev hsr
 refine calls_of_wp h.at_ h.body (wp_mono hw fun e' a' w' hq => ?_)
 obtain ⟨rfl,g',hs⟩:=hq
 rw [hnx] at hr
 have fin:zgn fn l.length s=some r→a'.defers=[]∧∃ v,(results func a'.tmps).run P w' = .ok v w'∧∃ Z' l' lr us,z5g w Z l r.1 r.2 v w' Z' l' lr us:=by
  intro hf
  obtain ⟨us,lr,h1,h2⟩:=y0t hs (fn:=func) (ifn:=fn) h.rvs hf
  exact ⟨hs.df,_,h1,_,_,lr,us,h2⟩
 cases e with
 | normal=>exact fin hr
 | exit id=>cases hr
 | ret=>exact fin hr
theorem yff : ∀ {args:List PV} {xs:List Value},zls args=some xs→args=xs.map PV.v
 | [],xs,h=>by simp only [zls,Option.some.injEq] at h; subst h; rfl
 | c::cs,xs,h=>by
  cases c with
  | v x =>
   simp only [zls,Option.map_eq_some_iff] at h
   obtain ⟨ys,hy,rfl⟩:=h
   rw [yff hy]; rfl
  | _=>simp [zls] at h
theorem z5b {P:Program} {T:zc2} (h:zjr P T) : ∀ n,zh2 P (zad T) (run T n)
 | 0=>fun f => .inl fun args r hr=>by cases hr
 | n+1=>fun f=>by
  cases hF:T f with
  | none=>exact .inl fun args r hr=>by simp only [run,hF] at hr; cases hr
  | some F =>
   have he:=h f F hF
   cases F with
   | code fn =>
    refine .inl fun args r hr => ?_
    simp only [run,hF,Option.bind_some] at hr
    obtain ⟨func,c,vars,hfn⟩:=he
    exact ⟨hfn.callable,yhf hfn (z5b h n) hr⟩
   | known m g =>
    refine .inl fun args r hr => ?_
    simp only [run,hF,Option.bind_some] at hr
    exact he args r hr
   | ext g =>
    refine .inr ⟨by simp only [zad,hF,Option.map_some,Fun.modes,Option.getD_some],fun args r hr => ?_⟩
    simp only [run,hF,Option.bind_some,z6m] at hr
    obtain ⟨xs,hx,hr⟩:=Option.bind_eq_some_iff.mp hr
    simp only [Option.map_eq_some_iff] at hr
    obtain ⟨ys,hy,rfl⟩:=hr
    exact ⟨xs,ys,yff hx,rfl,he xs ys hy⟩
theorem z1p {P:Program} {T:zc2} (h:zjr P T) {f:Nat} {fn:IFn} (hf:T f=some (.code fn)) {args:List PV} {r:List PV×List PV} (hr:RUN T f args=some r):z1q P f args r.1 r.2:=by
 obtain ⟨n,hn⟩:=z3c.mp hr
 rcases z5b h n f with hs | ⟨_,hs⟩
 ·exact (hs args r hn).2
 ·cases n with
  | zero=>cases hn
  | succ n =>
   simp only [run,hf,Option.bind_some] at hn
   obtain ⟨func,c,vars,hfn⟩:=(show ∃ func c vars,zvs P f fn func c vars from h f _ hf)
   exact yhf hfn (z5b h n) hn
theorem yyq {P:Program} {l:List (Nat×Fun)} (h : ∀ q∈l,zae P q.1 q.2):zjr P (fun f=>(l.find? fun q=>q.1 == f).map fun q=>q.2):=by
 intro f F hF
 simp only [Option.map_eq_some_iff] at hF
 obtain ⟨q,hq,rfl⟩:=hF
 have h1:=List.find?_some hq
 simp only [beq_iff_eq] at h1
 rw [← h1]
 exact h q (List.mem_of_find?_eq_some hq)
end Go.Pe
namespace Go.Pe
open Go
inductive TY where
 | int (k:IntKind)
 | bool
 | str
 | sl (e:List TY)
 | rs (e:List TY)
def zgq (p:List PV→Prop) (k:Nat):Nat→PV→Prop
 | 0,c=>c = .sl k []
 | n+1,c => ∃ es,c = .sl k es∧es.length≤maxLen∧∀ cs∈es,∃ a x,cs=a++[x]∧p a∧zgq p k n x
theorem zgq.up {p:List PV→Prop} {k:Nat} : ∀ {n:Nat} {c:PV},zgq p k n c→zgq p k (n+1) c
 | 0,c,h=>⟨[],h,Nat.zero_le _,by simp⟩
 | n+1,c,h=>by
  obtain ⟨es,h1,h2,h3⟩:=h
  refine ⟨es,h1,h2,fun cs hcs => ?_⟩
  obtain ⟨a,x,h4,h5,h6⟩:=h3 cs hcs
  exact ⟨a,x,h4,h5,zgq.up h6⟩
theorem zgq.nil {p:List PV→Prop} {k:Nat} : ∀ {n:Nat},zgq p k n (.sl k [])
 | 0=>rfl
 | _+1=>⟨[],rfl,Nat.zero_le _,by simp⟩
theorem zgq.sl {p:List PV→Prop} {k:Nat} : ∀ {n:Nat} {c:PV},zgq p k n c→∃ es,c = .sl k es
 | 0,_,h=>⟨[],h⟩
 | _+1,_,h=>⟨h.choose,h.choose_spec.1⟩
mutual
def Shp:TY→PV→Prop
 | .int k,c => ∃ n,c = .v (.int k n)∧(Lit.int k n).wf=true
 | .bool,c => ∃ b,c = .v (.bool b)
 | .str,c => ∃ s:ByteArray,c = .v (.string s)∧s.size≤maxLen
 | .sl e,c => ∃ es,c = .sl e.length es∧es.length≤maxLen∧∀ cs∈es,zca e cs
 | .rs e,c => ∃ n,zgq (zca e) (e.length+1) n c
def zca:List TY→List PV→Prop
 | [],cs=>cs=[]
 | t::ts,cs => ∃ c r,cs=c::r∧Shp t c∧zca ts r
end
def zr9 (f:TypeId→Option (List TY)) (P:Program):Nat→List Field→Option (List TY)
 | _,[]=>some []
 | off,fd::fs=>if fd.offset=off then (f fd.type).bind fun l=>if P.cellsOf fd.type=l.length then (zr9 f P (off+l.length) fs).map (l ++ ·) else none else none
def z5r (f:TypeId→Option (List TY)) (P:Program) (t e:TypeId):Option (List TY):=match P.underlying e with
 | some (.struct fs)=>match fs.toList.getLast? with
  | some fd=>if fd.type=t then (zr9 f P 0 fs.toList.dropLast).bind fun l=>if fd.offset=l.length∧P.cellsOf t=1∧P.cellsOf e=l.length+1 then some l else none else none
  | none=>none
 | _=>none
def zok (P:Program):Nat→TypeId→Option (List TY)
 | 0,_=>none
 | n+1,t=>match P.underlying t with
  | some .bool=>some [.bool]
  | some (.int k)=>some [.int k]
  | some .string=>some [.str]
  | some (.slice e)=>match z5r (zok P n) P t e with
   | some l=>some [.rs l]
   | none=>(zok P n e).bind fun l=>if P.cellsOf e=l.length∧0<l.length then some [.sl l] else none
  | some (.struct fs)=>(zr9 (zok P n) P 0 fs.toList).bind fun l=>if P.cellsOf t=l.length then some l else none
  | _=>none
inductive zdo {α β:Type} (R:α→β→Prop):List α→List β→Prop
 | nil:zdo R [] []
 | cons {a:α} {b:β} {as:List α} {bs:List β} (h:R a b) (t:zdo R as bs):zdo R (a::as) (b::bs)
theorem zdo.len {α β:Type} {R:α→β→Prop} {as:List α} {bs:List β} (h:zdo R as bs):as.length=bs.length:=by
 induction h with
 | nil=>rfl
 | cons _ _ ih=>simp [ih]
theorem zdo.get {α β:Type} {R:α→β→Prop} {as:List α} {bs:List β} (h:zdo R as bs) : ∀ {k:Nat} {a:α},as[k]?=some a→∃ b,bs[k]?=some b∧R a b:=by
 induction h with
 | nil=>intro k a hk; simp at hk
 | cons h _ ih =>
  intro k a hk
  cases k with
  | zero=>simp at hk; subst hk; exact ⟨_,by simp,h⟩
  | succ k=>simp at hk; obtain ⟨b,hb,hr⟩:=ih hk; exact ⟨b,by simpa using hb,hr⟩
theorem zdo.append {α β:Type} {R:α→β→Prop} {as as':List α} {bs bs':List β} (h:zdo R as bs) (h':zdo R as' bs'):zdo R (as++as') (bs++bs'):=by
 induction h with
 | nil=>exact h'
 | cons h _ ih=>exact .cons h ih
theorem zca.len : ∀ {ts:List TY} {cs:List PV},zca ts cs→cs.length=ts.length
 | [],_,h=>by simp [zca] at h; subst h; rfl
 | t::ts,cs,h=>by
  simp only [zca] at h
  obtain ⟨c,r,rfl,_,h⟩:=h
  simp [zca.len h]
theorem zca.append : ∀ {ts ts':List TY} {cs cs':List PV},zca ts cs→zca ts' cs'→zca (ts++ts') (cs++cs')
 | [],_,_,_,h,h'=>by simp [zca] at h; subst h; exact h'
 | t::ts,ts',cs,cs',h,h'=>by
  simp only [zca] at h
  obtain ⟨c,r,rfl,h1,h⟩:=h
  exact ⟨c,r++cs',rfl,h1,zca.append h h'⟩
def zek (w:World):Nat→Prop:=fun b=>b<w.heap.size
theorem yy1 {w:World} {a:Addr} {v:Value} (h:w.cell? a=some v):a.block<w.heap.size∧a.spot=none:=by
 unfold World.cell? at h
 split at h
 ·rename_i c t f hb
  split at h
  ·cases h
  ·rename_i hs
   exact ⟨(Array.getElem?_eq_some_iff.mp hb).1,by simpa using hs⟩
 ·cases h
section
variable {H:Type} {enc:TypeId×Value→H} {P:Program} {w:World}
theorem yiw {e:TypeId} {L:Nat} {es:List (List PV)} {a:Addr} {len cap:Nat} (hcl:P.cellsOf e=L) (hpos:0<L) (h1:es.length=len) (hle:len≤cap) (h2 : ∀ (i:Nat) (cs:List PV),es[i]?=some cs→cs.length=L∧∃ vs,w.cells? 0 (a.add (i*P.cellsOf e)) (P.cellsOf e)=some vs∧zdo (zan w (zek w)) cs vs):zan w (zek w) (.sl L es) (.slice (some a) len cap):=by
 have hsl : ∀ cs∈es,cs.length=L:=by
  intro cs hcs
  obtain ⟨i,hi⟩:=List.getElem?_of_mem hcs
  exact (h2 i cs hi).1
 have cellAt : ∀ (k:Nat) (d:PV),es.flatten[k]?=some d→∃ v,w.cell? (a.add k)=some v∧zan w (zek w) d v:=by
  intro k d hk
  obtain ⟨i,j,cs,h3,h4,rfl,h5,h6⟩:=z3e hsl hk
  obtain ⟨_,vs,h7,h8⟩:=h2 i cs h3
  obtain ⟨v,h9,h10⟩:=h8.get h4
  simp only [World.cells?,Nat.zero_le,if_true] at h7
  have h11:=mapM_some_get h7 j j (by simp [hcl,h5])
  rw [h9] at h11
  refine ⟨v,?_,h10⟩
  rw [← h11,hcl,Addr.add_add]
 cases hes:es.flatten with
 | nil =>
  by_cases he:es=[]
  ·subst he
   simp at h1; subst h1
   exact .nil rfl
  ·
   have h0:L=0:=by
    cases es with
    | nil=>exact (he rfl).elim
    | cons e0 es =>
     have:=hsl e0 (by simp)
     simp at hes
     rw [hes.1] at this; simpa using this.symm
   omega
 | cons d0 ds =>
  obtain ⟨v0,h3,_⟩:=cellAt 0 d0 (by rw [hes]; rfl)
  obtain ⟨hb,hsp⟩:=yy1 h3
  have ha:a=⟨a.block,a.off,none⟩:=by
   cases a
   simp [Addr.add] at hsp
   simp [hsp]
  have hadd : ∀ k,a.add k=⟨a.block,a.off+k,none⟩:=by
   intro k
   unfold Addr.add
   split
   ·rename_i hk; subst hk; exact ha
   ·rfl
  have hb':a.block<w.heap.size:=by simpa [Addr.add] using hb
  rw [ha]
  refine .row rfl h1.symm hb' hsl hle (us:=fun k=>(w.cell? (a.add k)).getD Go.undef) (fun k d hk => ?_) (fun k d hk => ?_)
  ·obtain ⟨v,h4,_⟩:=cellAt k d hk
   rw [← hadd k,h4]; rfl
  ·obtain ⟨v,h4,h5⟩:=cellAt k d hk
   rw [h4]; exact h5
theorem yi0 {α:Type} {Q:Nat→α→Prop} : ∀ (n:Nat),(∀ i,i<n→∃ c,Q i c)→∃ es:List α,es.length=n∧∀ (i:Nat) (c:α),es[i]?=some c→Q i c
 | 0,_=>⟨[],rfl,by simp⟩
 | n+1,h=>by
  obtain ⟨es,h1,h2⟩:=yi0 n (fun i hi=>h i (by omega))
  obtain ⟨c,hc⟩:=h n (by omega)
  refine ⟨es++[c],by simp [h1],fun i d hd => ?_⟩
  by_cases hi:i<n
  ·rw [List.getElem?_append_left (by omega)] at hd
   exact h2 i d hd
  ·rw [List.getElem?_append_right (by omega)] at hd
   obtain rfl:i=n:=by
    have:=(List.getElem?_eq_some_iff.mp hd).1
    simp at this; omega
   simp [h1] at hd
   subst hd
   exact hc
theorem ygp {f:TypeId→Option (List TY)} {cs:List Value} {n:Nat} (hf : ∀ (t:TypeId) (tys:List TY),f t=some tys→∀ (fuel:Nat) (cs:List Value) (x:DataW H×List MemPlace),DataW.trod enc P w 0 (fun _=>true) true fuel t cs=some x→∃ pvs,zca tys pvs∧zdo (zan w (zek w)) pvs cs) : ∀ (fl:List Field) (off:Nat) (l:List TY),zr9 f P off fl=some l→(∀ f∈fl,∃ y,DataW.trod enc P w 0 (fun _=>true) true n f.type ((cs.drop f.offset).take (P.cellsOf f.type))=some y) →
  ∃ pvs,zca l pvs∧zdo (zan w (zek w)) pvs ((cs.drop off).take l.length):=by
 intro fl
 induction fl with
 | nil =>
  intro off l h _
  simp only [zr9,Option.some.injEq] at h
  subst h
  exact ⟨[],rfl,by simp; exact .nil⟩
 | cons fd fl ih =>
  intro off l h hall
  simp only [zr9] at h
  split at h
  ·rename_i hoff
   obtain ⟨lf,h1,h⟩:=Option.bind_eq_some_iff.mp h
   split at h
   ·rename_i hc
    simp only [Option.map_eq_some_iff] at h
    obtain ⟨lr,h2,rfl⟩:=h
    obtain ⟨y,hy⟩:=hall fd (by simp)
    obtain ⟨p1,h3,h4⟩:=hf fd.type lf h1 _ _ _ hy
    obtain ⟨p2,h5,h6⟩:=ih (off+lf.length) lr h2 (fun f hf=>hall f (by simp [hf]))
    refine ⟨p1++p2,h3.append h5,?_⟩
    rw [List.length_append,List.take_add,List.drop_drop]
    rw [hoff,hc] at h4
    exact h4.append h6
   ·cases h
  ·cases h
theorem yxt {f:TypeId→Option (List TY)} (hf : ∀ (t:TypeId) (tys:List TY),f t=some tys→∀ (fuel:Nat) (cs:List Value) (x:DataW H×List MemPlace),DataW.trod enc P w 0 (fun _=>true) true fuel t cs=some x→∃ pvs,zca tys pvs∧zdo (zan w (zek w)) pvs cs) {t e:TypeId} {l:List TY} (ht:P.underlying t=some (.slice e)) (hr:z5r f P t e=some l) (fuel:Nat) : ∀ (cs:List Value) (x:DataW H×List MemPlace),DataW.trod enc P w 0 (fun _=>true) true fuel t cs=some x→∃ c,zgq (zca l) (l.length+1) fuel c∧zdo (zan w (zek w)) [c] cs:=by
 induction fuel using Nat.strongRecOn with
 | ind fuel ih =>
 intro cs x hx
 unfold z5r at hr
 split at hr
 ·rename_i fs hse
  split at hr
  ·rename_i fd hfd
   split at hr
   ·rename_i hty
    obtain ⟨l',h1,hr⟩:=Option.bind_eq_some_iff.mp hr
    split at hr
    ·rename_i hc
     obtain ⟨hoff,hct,hce⟩:=hc
     cases hr
     rcases DataW.trod_slice ht hx with ⟨rfl,_⟩ | ⟨a,len,cap,elems,rest,n,hfu,rfl,_,_,hle,hm,hel,helem,_,_⟩
     ·exact ⟨.sl (l.length+1) [],zgq.nil,.cons (.nil rfl) .nil⟩
     ·subst hfu
      obtain ⟨es,e1,e2⟩:=yi0 (Q:=fun i cs=>(∃ p q,cs=p++[q]∧zca l p∧zgq (zca l) (l.length+1) n q)∧∃ vs,w.cells? 0 (a.add (i*P.cellsOf e)) (P.cellsOf e)=some vs∧zdo (zan w (zek w)) cs vs) len (fun k hk=>by
       have h3:=helem k hk
       obtain ⟨y,hy⟩ : ∃ y,elems[k]?=some y:=⟨_,List.getElem?_eq_getElem (by omega)⟩
       rw [hy] at h3
       obtain ⟨vs,h4,h5⟩:=Option.bind_eq_some_iff.mp h3
       obtain ⟨xs,n',hn',_,hlen,hxl,hff⟩:=DataW.trod_struct hse h5
       subst hn'
       have hall : ∀ g∈fs.toList,∃ y,DataW.trod enc P w 0 (fun _=>true) true n' g.type ((vs.drop g.offset).take (P.cellsOf g.type))=some y:=fun g hg=>by
        obtain ⟨i,hi⟩:=List.getElem?_of_mem hg
        have h6:=hff i g (by simpa using hi)
        have hlt:i<xs.length:=by
         have:=(List.getElem?_eq_some_iff.mp hi).1
         rw [hxl]; simpa using this
        exact ⟨xs[i],by rw [h6]; exact List.getElem?_eq_getElem hlt⟩
       obtain ⟨p,p1,p2⟩:=ygp hf fs.toList.dropLast 0 l h1 (fun g hg=>hall g ((List.dropLast_sublist _).subset hg))
       obtain ⟨y',hy'⟩:=hall fd (List.mem_of_getLast? hfd)
       rw [hty,hoff,hct] at hy'
       obtain ⟨q,q1,q2⟩:=ih n' (by omega) _ _ hy'
       refine ⟨p++[q],⟨p,q,rfl,p1,q1.up⟩,vs,h4,?_⟩
       have h7:=p2.append q2
       rw [List.drop_zero,← List.take_add] at h7
       rw [List.take_of_length_le (by omega)] at h7
       exact h7)
      refine ⟨.sl (l.length+1) es,⟨es,rfl,by omega,fun cs hcs => ?_⟩,.cons (yiw hce (by omega) e1 hle fun i cs hi=>⟨?_,(e2 i cs hi).2⟩) .nil⟩
      ·obtain ⟨i,hi⟩:=List.getElem?_of_mem hcs
       exact (e2 i cs hi).1
      ·obtain ⟨⟨p,q,rfl,p1,_⟩,_⟩:=e2 i cs hi
       simp [p1.len]
    ·cases hr
   ·cases hr
  ·cases hr
 ·cases hr
theorem z1o : ∀ (m:Nat) (t:TypeId) (tys:List TY),zok P m t=some tys→∀ (fuel:Nat) (cs:List Value) (x:DataW H×List MemPlace),DataW.trod enc P w 0 (fun _=>true) true fuel t cs=some x →
  ∃ pvs,zca tys pvs∧zdo (zan w (zek w)) pvs cs
 | 0,_,_,h=>by cases h
 | m+1,t,tys,h=>by
  intro fuel cs x hx
  simp only [zok] at h
  split at h
  ·rename_i ht
   cases h
   obtain ⟨b,rfl,_⟩:=DataW.trod_bool ht hx
   exact ⟨[.v (.bool b)],⟨_,[],rfl,⟨b,rfl⟩,rfl⟩,.cons (.v rfl) .nil⟩
  ·rename_i k ht
   cases h
   obtain ⟨n,rfl,_,hw⟩:=DataW.trod_int ht hx
   exact ⟨[.v (.int k n)],⟨_,[],rfl,⟨n,rfl,hw⟩,rfl⟩,.cons (.v rfl) .nil⟩
  ·rename_i ht
   cases h
   obtain ⟨s,rfl,_,hs⟩:=DataW.trod_string ht hx
   exact ⟨[.v (.string s)],⟨_,[],rfl,⟨s,rfl,hs⟩,rfl⟩,.cons (.v rfl) .nil⟩
  ·rename_i e ht
   split at h
   ·rename_i l hr
    cases h
    obtain ⟨c,h1,h2⟩:=yxt (z1o m) ht hr fuel cs x hx
    exact ⟨[c],⟨c,[],rfl,⟨fuel,h1⟩,rfl⟩,h2⟩
   obtain ⟨l,hl,h⟩:=Option.bind_eq_some_iff.mp h
   split at h
   ·rename_i hcl0
    obtain ⟨hcl,hpos⟩:=hcl0
    cases h
    rcases DataW.trod_slice ht hx with ⟨rfl,_⟩ | ⟨a,len,cap,elems,rest,n,_,rfl,_,_,hle,hm,hel,helem,_,_⟩
    ·exact ⟨[.sl l.length []],⟨_,[],rfl,⟨[],rfl,Nat.zero_le _,by simp⟩,rfl⟩,.cons (.nil rfl) .nil⟩
    ·have build : ∀ k,k≤len→∃ es:List (List PV),es.length=k∧∀ (i:Nat) (cs:List PV),es[i]?=some cs→zca l cs∧∃ vs,w.cells? 0 (a.add (i*P.cellsOf e)) (P.cellsOf e)=some vs∧zdo (zan w (zek w)) cs vs:=by
      intro k
      induction k with
      | zero=>intro _; exact ⟨[],rfl,by simp⟩
      | succ k ih =>
       intro hk
       obtain ⟨es,h1,h2⟩:=ih (by omega)
       have h3:=helem k (by omega)
       obtain ⟨y,hy⟩ : ∃ y,elems[k]?=some y:=⟨_,List.getElem?_eq_getElem (by omega)⟩
       rw [hy] at h3
       obtain ⟨vs,h4,h5⟩:=Option.bind_eq_some_iff.mp h3
       obtain ⟨pvs,h6,h7⟩:=z1o m e l hl _ _ _ h5
       refine ⟨es++[pvs],by simp [h1],fun i cs hi => ?_⟩
       by_cases hik:i<k
       ·rw [List.getElem?_append_left (by omega)] at hi
        exact h2 i cs hi
       ·rw [List.getElem?_append_right (by omega)] at hi
        obtain rfl:i=k:=by
         have:=(List.getElem?_eq_some_iff.mp hi).1
         simp at this; omega
        simp [h1] at hi
        subst hi
        exact ⟨h6,vs,h4,h7⟩
     obtain ⟨es,h1,h2⟩:=build len (Nat.le_refl _)
     refine ⟨[.sl l.length es],⟨_,[],rfl,⟨es,rfl,by omega,fun cs hcs => ?_⟩,rfl⟩,.cons (yiw hcl hpos h1 hle fun i cs hi=>⟨(h2 i cs hi).1.len,(h2 i cs hi).2⟩) .nil⟩
     obtain ⟨i,hi⟩:=List.getElem?_of_mem hcs
     exact (h2 i cs hi).1
   ·cases h
  ·rename_i fs ht
   obtain ⟨l,hl,h⟩:=Option.bind_eq_some_iff.mp h
   split at h
   ·rename_i hcl
    cases h
    obtain ⟨xs,n,_,_,hlen,hxl,hf⟩:=DataW.trod_struct ht hx
    obtain ⟨pvs,h1,h2⟩:=ygp (cs:=cs) (n:=n) (z1o m) fs.toList 0 tys hl (fun f hmem=>by
     obtain ⟨i,hi⟩:=List.getElem?_of_mem hmem
     have h3:=hf i f (by simpa using hi)
     have hlt:i<xs.length:=by
      have:=(List.getElem?_eq_some_iff.mp hi).1
      rw [hxl]; simpa using this
     exact ⟨xs[i],by rw [h3]; exact List.getElem?_eq_getElem hlt⟩)
    refine ⟨pvs,h1,?_⟩
    rw [List.drop_zero,List.take_of_length_le (by omega)] at h2
    exact h2
   ·cases h
  ·cases h
def zlj (ag:Bool) (tys:List TY) (c:PV):Prop:=if ag then ∃ cs,c = .agg cs∧zca tys cs else zca tys [c]
def z4n (P:Program) (t:TypeId):Option (Bool×List TY):=(zok P 8 t).bind fun l=>(ze6 P t).bind fun ag=>if ag || l.length == 1 then some (ag,l) else none
def zsj (P:Program):List TypeId→Option (List (Bool×List TY))
 | []=>some []
 | t::ts=>(z4n P t).bind fun x=>(zsj P ts).map (x :: ·)
theorem zan.plain {Z:Nat→Prop} {x u:Value} (h:zan w Z (.v x) u):u=x:=by
 cases h with
 | v h=>rfl
 | nil h=>cases h
 | row h=>cases h
theorem ye7 {c:PV} {t:TY} {u:Value} (hs:Shp t c) (h:zan w (zek w) c u):InC w (zek w) c u []:=by
 cases t with
 | int k=>obtain ⟨n,rfl,_⟩:=hs; exact ⟨h.plain,rfl⟩
 | bool=>obtain ⟨n,rfl⟩:=hs; exact ⟨h.plain,rfl⟩
 | str=>obtain ⟨n,rfl,_⟩:=hs; exact ⟨h.plain,rfl⟩
 | sl e=>obtain ⟨n,rfl,_⟩:=hs; exact ⟨h,rfl⟩
 | rs e=>obtain ⟨n,hs⟩:=hs; obtain ⟨es,rfl⟩:=hs.sl; exact ⟨h,rfl⟩
theorem ygn : ∀ {ts:List TY} {cs:List PV} {us:List Value},zca ts cs→zdo (zan w (zek w)) cs us→zea (InC w (zek w)) cs us []
 | [],cs,us,hs,h=>by simp [zca] at hs; subst hs; cases h; exact .nil
 | t::ts,cs,us,hs,h=>by
  obtain ⟨c,r,rfl,h1,h2⟩:=hs
  cases h with
  | cons h3 h4=>exact .cons (l:=[]) (ye7 h1 h3) (ygn h2 h4)
theorem y2u {c:PV} {t:TY} {u:Value} (hs:Shp t c) (h:zan w (zek w) c u):InA w (zek w) c u []:=by
 have:=ye7 hs h
 cases t with
 | int k=>obtain ⟨n,rfl,_⟩:=hs; exact this
 | bool=>obtain ⟨n,rfl⟩:=hs; exact this
 | str=>obtain ⟨n,rfl,_⟩:=hs; exact this
 | sl e=>obtain ⟨n,rfl,_⟩:=hs; exact this
 | rs e=>obtain ⟨n,hs⟩:=hs; obtain ⟨es,rfl⟩:=hs.sl; exact this
theorem y1k {t:TypeId} {ag:Bool} {tys:List TY} (hp:z4n P t=some (ag,tys)) {base:Nat} {v:Value} {d:DataW H} {ps:List MemPlace} (hok:Value.okWide P w .any base t v) (h:DataW.Trod enc P w 0 (fun _=>true) true t v d ps) :
  ∃ c,zlj ag tys c∧InA w (zek w) c v []:=by
 unfold z4n at hp
 obtain ⟨l,h1,hp⟩:=Option.bind_eq_some_iff.mp hp
 obtain ⟨g,h2,hp⟩:=Option.bind_eq_some_iff.mp hp
 split at hp
 ·rename_i hg
  cases hp
  obtain ⟨fuel,hf⟩:=h
  obtain ⟨pvs,h3,h4⟩:=z1o 8 t tys h1 fuel _ _ hf
  unfold ze6 at h2
  simp only [Option.map_eq_some_iff] at h2
  obtain ⟨desc,hd,hg2⟩:=h2
  unfold Value.okWide at hok
  rw [hd] at hok
  cases ag with
  | true =>
   have : ∃ cs,v = .agg cs:=by
    cases desc with
    | struct fs=>obtain ⟨cs,rfl,_⟩:=hok; exact ⟨cs,rfl⟩
    | array n e=>obtain ⟨cs,rfl,_⟩:=hok; exact ⟨cs,rfl⟩
    | _=>cases hg2
   obtain ⟨cs,rfl⟩:=this
   exact ⟨.agg pvs,⟨pvs,rfl,h3⟩,cs,rfl,ygn h3 h4⟩
  | false =>
   simp only [Bool.false_or,beq_iff_eq] at hg
   obtain ⟨t0,rfl⟩ : ∃ t0,tys=[t0]:=by
    match tys,hg with
    | [t0],_=>exact ⟨t0,rfl⟩
   obtain ⟨c,r,rfl,h5,h6⟩:=h3
   simp only [zca] at h6
   subst h6
   have hv:v.cells = #[v]:=by
    cases desc with
    | struct fs=>cases hg2
    | array n e=>cases hg2
    | bool=>cases v <;> first | rfl | simp [Cell.okWide,Cell.ok,hd] at hok
    | int k=>cases v <;> first | rfl | simp [Cell.okWide,Cell.ok,hd] at hok
    | string=>cases v <;> first | rfl | simp [Cell.okWide,Cell.ok,hd] at hok
    | slice e=>cases v <;> first | rfl | simp [Cell.okWide,Cell.ok,hd] at hok
    | _=>simp [zok,hd] at h1
   rw [hv] at h4
   cases h4 with
   | cons h7 _=>exact ⟨c,⟨c,[],rfl,h5,rfl⟩,y2u h5 h7⟩
 ·cases hp
theorem yi7 {base:Nat} : ∀ {ts:List TypeId} {ptys:List (Bool×List TY)} {vs:List Value} {ds:List (DataW H)} {ps:List MemPlace},zsj P ts=some ptys→(∀ (j:Nat) t v,ts[j]?=some t→vs[j]?=some v→Value.okWide P w .any base t v)→DataW.TrodAll enc P w 0 (fun _=>true) true ts vs ds ps →
  ∃ pvs,zdo (fun p c=>zlj p.1 p.2 c) ptys pvs∧zea (InA w (zek w)) pvs vs []∧ds.length=ts.length
 | [],ptys,vs,ds,ps,hp,_,h=>by
  simp only [zsj,Option.some.injEq] at hp
  subst hp
  obtain ⟨rfl,rfl,rfl⟩:=ChangeShapes.trodAll_nil h
  exact ⟨[],.nil,.nil,rfl⟩
 | t::ts,ptys,vs,ds,ps,hp,hok,h=>by
  simp only [zsj] at hp
  obtain ⟨⟨ag,tys⟩,h1,hp⟩:=Option.bind_eq_some_iff.mp hp
  simp only [Option.map_eq_some_iff] at hp
  obtain ⟨r,h2,rfl⟩:=hp
  obtain ⟨v,vs',d,ds',p,q,rfl,rfl,rfl,h3,h4⟩:=ChangeShapes.trodAll_cons h
  obtain ⟨c,h5,h6⟩:=y1k h1 (hok 0 t v rfl rfl) h3
  obtain ⟨pvs,h7,h8,h9⟩:=yi7 h2 (fun j t v hj hv=>hok (j+1) t v (by simpa using hj) (by simpa using hv)) h4
  exact ⟨c::pvs,.cons h5 h7,.cons (l:=[]) h6 h8,by simp [h9]⟩
theorem yex (hl:laidOutB P=true) {W W':World} (hb:RowKit.Below W.heap.size W W') : ∀ {ts:List TypeId} {vs:List Value} {ds:List (DataW H)} {ps:List MemPlace},(∀ t∈ts,P.readableRec t=true∧t<P.types.size)→DataW.TrodAll enc P W 0 (fun _=>true) true ts vs ds ps →
  DataW.TrodAll enc P W' 0 (fun b=>decide (b<W.heap.size)) true ts vs ds ps
 | [],vs,ds,ps,_,h=>by
  obtain ⟨rfl,rfl,rfl⟩:=ChangeShapes.trodAll_nil h
  rfl
 | t::ts,vs,ds,ps,hr,h=>by
  obtain ⟨v,vs',d,ds',p,q,rfl,rfl,rfl,h3,h4⟩:=ChangeShapes.trodAll_cons h
  have h3k:=h3
  obtain ⟨m,hm⟩:=h3k
  refine ⟨p,q,RowKit.Below.trod hl (hr t (by simp)).1 (hr t (by simp)).2 h3 hb (fun x hx=>DataW.trod_lt m _ _ _ hm x hx),yex hl hb (fun t ht=>hr t (by simp [ht])) h4,rfl⟩
end
theorem ywg {H:Type} {enc:TypeId×Value→H} {P:Program} {T:zc2} (hT:zjr P T) {f:Nat} {fn0:IFn} (hT0:T f=some (.code fn0)) {fn:Func} {s:ChangeSpec} {t0:TypeId} {ptys:List (Bool×List TY)}
  (hl:laidOutB P=true) (hvars:s.vars=[]) (hspec : ∀ ds:List (DataW H),ds.length=fn.params.size→s.fn H ds = { results:=[.lit (.bool true)],args:=ds })
  (hres:fn.resultTypes = #[t0]) (ht0:P.underlying t0=some .bool) (hpt:zsj P fn.params.toList=some ptys) (hrd : ∀ t∈fn.params.toList,P.readableRec t=true∧t<P.types.size)
  (hrun : ∀ pvs,zdo (fun p c=>zlj p.1 p.2 c) ptys pvs→RUN T f pvs=some ([.v (.bool true)],[]))
  {W:World} {base:Nat} {args:Array Value} {ds gs:List (DataW H)} {before:List MemPlace} (hval : ∀ (j:Nat) t v,fn.params[j]?=some t→args[j]?=some v→Value.okWide P W .any base t v)
  (hW:DataW.Whole enc P fn.params.toList s.vars false W args.toList ds gs before) :
  Calls P f args W fun e W' => ∃ v,e = .returned v∧s.post enc P fn false true false false W args v W':=by
 have hW':=hW
 obtain ⟨p,q,hA,hV,rfl,hfz,hnd⟩:=hW
 rw [hvars] at hV
 obtain ⟨rfl,rfl⟩:=ChangeShapes.trodVars_none hV
 obtain ⟨pvs,h1,h2,h3⟩:=yi7 hpt (fun j t v hj hv=>hval j t v (by simpa using hj) (by simpa using hv)) hA
 have hm:=z1p hT hT0 (hrun pvs h1)
 have hsep:Sep W (zek W) []:=⟨fun x hx=>hx,by simp,by simp,by simp⟩
 refine (hm W (zek W) args [] h2 hsep).mono fun e W' he => ?_
 cases e with
 | panicked c=>exact he.elim
 | outgrown=>exact he.elim
 | returned v =>
  obtain ⟨Z',l',lr,us,hp⟩:=he
  have hbel:RowKit.Below W.heap.size W W':=⟨hp.os,hp.tape,hp.output,hp.size,fun k hk=>hp.old k hk (by simp)⟩
  have hv:v = .bool true:=by
   have h5:=hp.rets
   have h6:=hp.val
   cases h5 with
   | cons h7 h8 =>
    cases h8
    obtain ⟨rfl,_⟩:=h7
    exact h6
  subst hv
  refine ⟨_,rfl,ds,[],_,[],p,[],hW',?_,?_,?_,hbel.frame _,fun h=>by cases h⟩
  ·rw [List.append_nil,hspec ds (by rw [h3]; simp),hres]
   exact ChangeShapes.trodAll_mk1 (RowKit.shut_bool ht0 true)
  ·rw [List.append_nil,hspec ds (by rw [h3]; simp)]
   exact yex hl hbel hrd hA
  ·rw [hvars,List.append_nil,hspec ds (by rw [h3]; simp)]
   rfl
theorem yz2 {H:Type} {enc:TypeId×Value→H} {C:Checked} {T:zc2} (hT:zjr C.prog T) {f:Nat} {fn0:IFn} (hT0:T f=some (.code fn0)) {fn:Func} {s:ChangeSpec} {conds:List PathCond} {t0:TypeId} {ptys:List (Bool×List TY)} {os:Os} (started:os.Started)
  (own:ownKnob C.prog.godebug=none) (noInit:C.prog.inits.idxOf? f=none) (hfn:C.prog.funcs[f]?=some fn)
  (witness : ∃ (w:World) (tape:Tape) (i:Input),w.os=os∧(w.forCall tape i).Shaped C.prog∧i.vars=[]∧Input.okWide C.prog (w.forCall tape i) .any w.heap.size f i ∧
   s.pre6 enc C.prog fn conds false (w.forCall tape i).memory i.args∧({}:Assume).holds C.prog (lone (Frame.enter C.prog f i.args .normal) [] (w.forCall tape i)))
  (hl:laidOutB C.prog=true) (hvars:s.vars=[]) (hspec : ∀ ds:List (DataW H),ds.length=fn.params.size→s.fn H ds = { results:=[.lit (.bool true)],args:=ds })
  (hres:fn.resultTypes = #[t0]) (ht0:C.prog.underlying t0=some .bool) (hpt:zsj C.prog fn.params.toList=some ptys) (hrd : ∀ t∈fn.params.toList,C.prog.readableRec t=true∧t<C.prog.types.size)
  (hrun : ∀ pvs,zdo (fun p c=>zlj p.1 p.2 c) ptys pvs→RUN T f pvs=some ([.v (.bool true)],[])) :
  ReturnsInHanded {} C os f .any (s.pre6 enc C.prog fn conds false) (s.post enc C.prog fn false true false false) :=
 returnsInHanded_of_change_sized (C:=C) own started noInit hfn witness fun _ _ _ _ _ _ hval hW _ _ _=>ywg hT hT0 hl hvars hspec hres ht0 hpt hrd hrun hval hW
end Go.Pe
namespace Go.Pe
open Go
def yeh:Array Value→Sem Value:=fun args=>do
 let (x, y, b) ← Extern.MathBitsCarry.three "Sub64" args
 pure (Extern.MathBitsCarry.pair ((x+Extern.MathBitsCarry.m64-y-b) % Extern.MathBitsCarry.m64) (if x<y+b then 1 else 0))
theorem y0p {P:Program} (x y b:Nat) (hb:b≤1) (w:World) :
  (yeh #[.int .u64 x,.int .u64 y,.int .u64 b]).run P w =
   .ok (.tuple #[.int .u64 (((x+18446744073709551616-y-b) % 18446744073709551616:Nat):Int),.int .u64 ((if x<y+b then 1 else 0:Nat):Int)]) w:=by
 have:b=0∨b=1:=by omega
 rcases this with rfl | rfl <;> rfl
theorem yxv {P : Program} {f : Nat} {fn : Func} (hf : P.funcs[f]? = some fn) (hname : (fn.name == "runtime.NumGoroutine") = false) (hb : fn.body.isNone = true) (hn : Extern.findNext fn = none) (he : Extern.find fn = some add64Entry) : zae P f (.ext zro) := by
 intro xs ys h w
 unfold zro at h
 split at h
 ·rename_i x y c
  split at h
  ·rename_i hc
   cases h
   rw [run_callFunc_extern hf hname hb hn he,run_add64 x y c hc.1 hc.2.1 hc.2.2.1 hc.2.2.2]
   rfl
  ·cases h
 ·cases h
theorem yzs {P : Program} {f : Nat} {fn : Func} (hf : P.funcs[f]? = some fn) (hname : (fn.name == "runtime.NumGoroutine") = false) (hb : fn.body.isNone = true) (hn : Extern.findNext fn = none) (he : Extern.find fn = some yeh) : zae P f (.ext zrn) := by
 intro xs ys h w
 unfold zrn at h
 split at h
 ·rename_i x y c
  split at h
  ·rename_i hc
   cases h
   obtain ⟨h1,h2,h3,h4,h5,h6⟩:=hc
   obtain ⟨X,rfl⟩:=Int.eq_ofNat_of_zero_le h1
   obtain ⟨Y,rfl⟩:=Int.eq_ofNat_of_zero_le h2
   obtain ⟨B,rfl⟩:=Int.eq_ofNat_of_zero_le h5
   rw [run_callFunc_extern hf hname hb hn he,y0p X Y B (by omega)]
   simp only [Result.andThen,zix,List.toArray]
   congr 5
   ·congr 1; omega
   ·split <;> split <;> first | rfl | (exfalso; omega)
  ·cases h
 ·cases h
end Go.Pe
namespace Go.Pe
open Go
def slU:Option TypeDesc→Bool
 | some (.slice _)=>true
 | _=>false
end Go.Pe
namespace Go.Pe
open Go
abbrev qlr (P:Program) (f:Nat):Prop := ∀ (blk off cap:Nat) (zs:List Int) (w:World),Go.Sort.Holds (Value.int .i64) w blk off zs.toArray→blk<w.heap.size→zs.length<4611686018427387904 →
 Calls P f #[.slice (some ⟨blk,off,none⟩) zs.length cap] w fun e w'=>e = .returned (.tuple #[])∧∃ n os,w'=Go.Sort.grow (Go.Sort.putRow (Value.int .i64) (Go.Sort.ahead w n) blk off (zs.mergeSort fun x y=>decide (x≤y)).toArray) os
abbrev y9b (P:Program) (f:Nat):Prop := ∀ (p:Option Addr) (cap:Nat) (w:World),Calls P f #[.slice p 0 cap] w fun e w'=>e = .returned (.tuple #[])∧w'=w
abbrev qb5 (P:Program) (f:Nat):Prop := ∀ (blk off cap:Nat) (zs:List Int) (w:World),Go.Sort.Holds (Value.int .i64) w blk off zs.toArray→zs.length≤9223372036854775807→zs.length≤cap →
 Calls P f #[.slice (some ⟨blk,off,none⟩) zs.length cap] w fun e w'=>e = .returned (.slice (some ⟨blk,off,none⟩) (Lib.compact zs).length cap)∧∃ q,w'=Go.Sort.putRow (Value.int .i64) (Go.Sort.ahead w q) blk off (Lib.compact zs++List.replicate (zs.length-(Lib.compact zs).length) 0).toArray
abbrev qn2 (P:Program) (f:Nat):Prop := ∀ (p:Option Addr) (cap:Nat) (w:World),Calls P f #[.slice p 0 cap] w fun e w'=>e = .returned (.slice p 0 cap)∧w'=w
end Go.Pe
