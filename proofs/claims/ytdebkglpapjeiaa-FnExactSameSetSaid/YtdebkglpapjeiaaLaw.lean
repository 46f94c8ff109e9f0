/- The law: for every input that the row lets in the call returns true,and what came in reads as it did; no condition beyond the row. -/
import Derived.Test.YtdebkglpapjeiaaRows
import Derived.Test.YtdebkglpapjeiaaOk
import Derived.Test.YtdebkglpapjeiaaC0
import Derived.WalkKit
import Derived.ProofKit
import Derived.OpenShut
import Derived.ShutString
import Derived.ChangeOld
import Derived.Below
import Derived.SizedLaws
set_option linter.all false
namespace Go.Proofs.Ytdebkglpapjeiaa.fnExactSameSet
open Go Go.Pe
theorem own:ownKnob Try.prog.godebug=none:=by kernel_rfl
set_option maxRecDepth 100000 in
theorem lifted (os:Os) (started:os.Started) (H:Type) (enc:TypeId×Value→H) :
  ReturnsInHanded {} Try.checked os 3 .any (Rows.fnExactSameSetSpec.pre6 enc Try.prog Try.f3 Rows.fnExactSameSetRow.domain false) (Rows.fnExactSameSetSpec.post enc Try.prog Try.f3 false true false false) :=
 zyt (C:=Try.checked) (ptys:=[(true,[.int .i64,.int .i64,.int .i64,.rs [.int .i64,.int .i64,.int .i64]]),(true,[.int .i64,.int .i64,.int .i64,.rs [.int .i64,.int .i64,.int .i64]])]) zse (zih) started own (by kernel_rfl) Try.func3
  (ChangeSpec.witness6 (enc:=enc) (C:=Try.checked) false ⟨#[],#[.agg #[.int .i64 0,.int .i64 0,.int .i64 0,.slice none 0 0],.agg #[.int .i64 0,.int .i64 0,.int .i64 0,.slice none 0 0]],[]⟩ 8 (by kernel_rfl) (by kernel_rfl) (by kernel_rfl) (by kernel_rfl))
  (by kernel_rfl) rfl (fun ds h=>by match ds,h with | [d0,d1],_=>rfl) rfl rfl (by kernel_rfl) (zwy (by kernel_rfl))
  (fun pvs hp=>by
   obtain ⟨a,b,rfl,h1,h2⟩:=ztc hp
   obtain ⟨s,rfl,hs⟩:=zr4 h1
   obtain ⟨t,rfl,ht⟩:=zr4 h2
   exact zub s t hs ht)
theorem over:Rows.fnExactSameSetRow.holds Try.pinned (OpenSpec.ofChange Rows.fnExactSameSetSpec) :=
 OpenClaim.holds_of_wide 3 Try.f3 rfl rfl rfl rfl rfl rfl rfl ⟨rfl,rfl,rfl,rfl,rfl⟩ rfl rfl rfl rfl rfl (by kernel_rfl) Try.func3 (by kernel_rfl)
  (of_decide_eq_true (by kernel_rfl)) (by unfold Func.isWrapper; first | (rw [if_pos (by decide +kernel)]; kernel_rfl) | (rw [if_neg (by decide +kernel)]; exact ⟨rfl,rfl⟩))
  (fun os started H enc _=>lifted os started H enc)
end Go.Proofs.Ytdebkglpapjeiaa.fnExactSameSet
namespace Go.Proofs.Ytdebkglpapjeiaa
theorem fnExactSameSet_holds:Rows.FnExactSameSetSaid:=fnExactSameSet.over
#print axioms fnExactSameSet_holds
end Go.Proofs.Ytdebkglpapjeiaa
