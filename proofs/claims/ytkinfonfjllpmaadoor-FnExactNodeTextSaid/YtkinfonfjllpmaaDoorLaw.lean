/- The card of FnExactNodeText: for every input that the row lets in the call returns true,and what came in reads as it did; the row lists three tables of the library,and the card ties them to the text; no further condition. -/
import Derived.Test.YtkinfonfjllpmaaDoorCards
import Derived.Test.YtkinfonfjllpmaaDoorTie
import Derived.Test.YtkinfonfjllpmaaDoorOk
import Derived.Test.YtkinfonfjllpmaaDoorC0
import Derived.WalkKit
import Derived.ProofKit
import Derived.OpenShut
import Derived.Deep.DeepHandedRow
import Derived.Lib.LaidTab
import Derived.Stop.LaidErr
set_option linter.all false
namespace Go.Proofs.YtkinfonfjllpmaaDoor.fnExactNodeText
open Go Go.Pe
theorem own:ownKnob Tryd.prog.godebug=none:=by kernel_rfl
theorem zoi : Tryd.prog.globalNamed "internal/strconv.uint64pow10" = some 0 := by kernel_rfl
theorem zwk:(Tryd.prog.globals[0]?).map (·.type)=some 42:=by kernel_rfl
theorem zwv:Tryd.prog.underlying 42=some (.array 20 35):=by kernel_rfl
theorem z1a:Tryd.prog.underlying 35=some (.int .u64):=by kernel_rfl
theorem zz8:Tryd.prog.cellsOf 35=1:=by kernel_rfl
theorem zzi:Tryd.prog.cellsOf 42=20:=by kernel_rfl
theorem datum:(Rows.laid_internal_strconv_uint64pow10:DataW Unit)=Lib.tabData .u64 Lib.pow10Tab:=by kernel_rfl
theorem zk6 {W : World} (h : laidMetH Tryd.prog Rows.fnExactNodeTextRow.laid W) : Lib.TabIs Tryd.prog W "internal/strconv.uint64pow10" .u64 Lib.pow10Tab := by
 have h1 : laidMet Tryd.prog [("math/bits.deBruijn32tab", Rows.laid_math_bits_deBruijn32tab), ("math/bits.deBruijn64tab", Rows.laid_math_bits_deBruijn64tab), ("internal/strconv.uint64pow10", Rows.laid_internal_strconv_uint64pow10)] W := h
 have h2:=h1.tail.tail
 rw [datum] at h2
 exact Lib.tabIs_of_head zoi zwk zwv z1a zz8 zzi h2
theorem zp5 (H:Type) (enc:TypeId×Value→H) (W:World) (base:Nat) (args:Array Value) (ds gs:List (DataW H)) (before:List MemPlace)
  (hval : ∀ (j:Nat) t v,Tryd.f3.params[j]?=some t→args[j]?=some v→Value.okWide Tryd.prog W .any base t v)
  (hW:DataW.Whole enc Tryd.prog Tryd.f3.params.toList Rows.fnExactNodeTextSpec.vars false W args.toList ds gs before) (hL:laidMetH Tryd.prog Rows.fnExactNodeTextRow.laid W) :
  Calls Tryd.prog 3 args W fun e W' => ∃ v,e = .returned v∧Rows.fnExactNodeTextSpec.post enc Tryd.prog Tryd.f3 false true false false W args v W' :=
 z0r (ptys:=[(true,[.int .i64,.int .i64,.int .i64,.int .i64,.int .i64])]) zoy (zlu)
  (by kernel_rfl) rfl (fun ds h=>by match ds,h with | [d0],_=>rfl) rfl rfl (by kernel_rfl) (zu7 (by kernel_rfl))
  (fun pvs hp=>by
   obtain ⟨x,rfl,h1⟩:=zyo hp
   obtain ⟨a,b,c,d,e,rfl,ha,hb,hc,hd,he⟩:=zxs h1
   exact zy4 a b c d e ha hb hc hd he)
  (Tbl.of zoi (zk6 hL)) hval hW
def zlf:Value := .agg #[.int .i64 0,.int .i64 0,.int .i64 0,.int .i64 0,.int .i64 0]
def cells:DataW Unit→Array Value
 | .agg ds=>(ds.map fun | .lit l=>(match l with | .int k n=>Value.int k n | _=>Go.undef) | _=>Go.undef).toArray
 | _ => #[]
noncomputable def fill (b:Nat) (d:DataW Unit) (w:World):World :=
 { w with heap:=w.heap.modify b fun
   | .cells _ t frozen => .cells (cells d) t frozen
   | o=>o }
noncomputable def zmm (os:Os):World :=
 fill 0 Rows.laid_internal_strconv_uint64pow10 (fill 1 Rows.laid_math_bits_deBruijn32tab (fill 2 Rows.laid_math_bits_deBruijn64tab (World.holding Tryd.prog os ⟨#[],#[],[]⟩)))
theorem zyn (os:Os):laidMet Tryd.prog Rows.fnExactNodeTextRow.laid ((zmm os).forCall (fun _ _=>0) ⟨#[],#[zlf],[]⟩).memory :=
 laidMet_of_run' 8 (by kernel_rfl) (by kernel_rfl)
theorem reads (os:Os) {H:Type} (enc:TypeId×Value→H) : ∃ places,DataW.whole enc Tryd.prog ((zmm os).forCall (fun _ _=>0) ⟨#[],#[zlf],[]⟩).memory Tryd.f3.params.toList Rows.fnExactNodeTextSpec.vars false #[zlf].toList 8=some ([.agg [.lit (.int .i64 0),.lit (.int .i64 0),.lit (.int .i64 0),.lit (.int .i64 0),.lit (.int .i64 0)]],[],places) :=
 ⟨[],by kernel_rfl⟩
set_option maxRecDepth 100000 in
theorem lifted (os:Os) (started:os.Started) (H:Type) (enc:TypeId×Value→H) (F:Stop.Interp) :
  ReturnsInHanded {} Tryd.checked os 3 .any ((OpenSpec.ofChange Rows.fnExactNodeTextSpec).preRow enc Tryd.prog Tryd.f3 Rows.fnExactNodeTextRow.domain false Rows.fnExactNodeTextRow.laid) (((OpenSpec.ofChange Rows.fnExactNodeTextSpec).at F).post enc Tryd.prog Tryd.f3 false true false false):=by
 obtain ⟨places,hx⟩:=reads os enc
 refine returnsInHanded_of_row (C:=Tryd.checked) (s:=OpenSpec.ofChange Rows.fnExactNodeTextSpec) own started (by kernel_rfl) Tryd.func3
  (witness_row_at (enc:=enc) (C:=Tryd.checked) false (zmm os) #[zlf] rfl (by kernel_rfl) (by kernel_rfl) (by kernel_rfl)
   (OpenSpec.preRow_of_cond 8 hx (by kernel_rfl) (fun k hk=>by cases hk) (by kernel_rfl) (zyn os))) ?_
 intro W base args ds gs before hval hW _ _ _ hL _ _
 exact zp5 H enc W base args ds gs before hval hW hL
theorem zum:Rows.FnExactNodeTextSaid :=
 OpenClaim.holds_of_cond 3 Tryd.f3 rfl rfl rfl rfl rfl rfl rfl ⟨rfl,rfl,rfl,rfl,rfl⟩ rfl rfl rfl rfl rfl (by kernel_rfl) Tryd.func3 (by kernel_rfl)
  (of_decide_eq_true (by kernel_rfl)) (by unfold Func.isWrapper; first | (rw [if_pos (by decide +kernel)]; kernel_rfl) | (rw [if_neg (by decide +kernel)]; exact ⟨rfl,rfl⟩))
  (fun os started H enc _ F=>by rw [OpenClaim.pre_eq_preRow]; exact lifted os started H enc F)
theorem plain (f : FuncId) (fn : Func) (hf : Tryd.pinned.checked.prog.funcNamed "loop.example/g00500/laws.FnExactNodeText" = some f) (hfn : Tryd.pinned.checked.prog.funcs[f]? = some fn) :
  false=Tryd.pinned.checked.prog.looks []∧∀ (j:Nat) t,fn.params[j]?=some t→Tryd.pinned.checked.prog.wantsStandIn t=false:=by
 obtain rfl : f = 3 := Option.some.inj ((show Tryd.prog.funcNamed "loop.example/g00500/laws.FnExactNodeText" = some 3 by kernel_rfl).symm.trans hf) |>.symm
 obtain rfl:fn=Tryd.f3:=(Option.some.inj (Tryd.func3.symm.trans hfn)).symm
 refine ⟨by kernel_rfl,fun j t ht => ?_⟩
 rw [Tryd.params3] at ht
 obtain rfl:t=23:=by simpa using Array.mem_of_getElem? ht
 exact (show Tryd.prog.wantsStandIn 23=false by kernel_rfl)
theorem card:Rows.FnExactNodeTextCardSaid :=
 Claim7.holds_tied_plain_at .later [] _ _ _ _ zum (fun _ h=>by cases h) (by kernel_rfl) (fun _ h=>by cases h) fnExactNodeText_row_tie rfl ⟨rfl,rfl⟩ (by kernel_rfl) rfl plain (by kernel_rfl)
end Go.Proofs.YtkinfonfjllpmaaDoor.fnExactNodeText
namespace Go.Proofs.YtkinfonfjllpmaaDoor
theorem fnExactNodeText_holds:Rows.FnExactNodeTextCardSaid:=fnExactNodeText.card
#print axioms fnExactNodeText_holds
end Go.Proofs.YtkinfonfjllpmaaDoor
