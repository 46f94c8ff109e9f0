/- The law: for every input that the row lets in the call returns true,and what came in reads as it did; no condition beyond the row. -/
import Derived.Test.YtdebkglpapjeiaaRows
import Derived.Test.YtdebkglpapjeiaaOk
import Derived.Test.YtdebkglpapjeiaaC0
import Derived.WalkKit
import Derived.ProofKit
import Derived.OpenShut
import Derived.ShutString
import Derived.ChangeOld
import Derived.Below
import Derived.SizedLaws
set_option linter.all false
namespace Go.Proofs.Ytdebkglpapjeiaa.fnExactValuesIn
open Go Go.Pe
theorem own:ownKnob Try.prog.godebug=none:=by kernel_rfl
set_option maxRecDepth 100000 in
theorem lifted (os:Os) (started:os.Started) (H:Type) (enc:TypeId×Value→H) :
  ReturnsInHanded {} Try.checked os 5 .any (Rows.fnExactValuesInSpec.pre6 enc Try.prog Try.f5 Rows.fnExactValuesInRow.domain false) (Rows.fnExactValuesInSpec.post enc Try.prog Try.f5 false true false false) :=
 zyc (C:=Try.checked) (ptys:=[(true,[.sl [.int .i64,.int .i64,.int .i64,.int .i64,.int .i64]])]) zq4 (zli) started own (by kernel_rfl) Try.func5
  (ChangeSpec.witness6 (enc:=enc) (C:=Try.checked) false ⟨#[],#[.agg #[.slice none 0 0]],[]⟩ 8 (by kernel_rfl) (by kernel_rfl) (by kernel_rfl) (by kernel_rfl))
  (by kernel_rfl) rfl (fun ds h=>by match ds,h with | [d0],_=>rfl) rfl rfl (by kernel_rfl) (zyb (by kernel_rfl))
  (fun pvs hp=>by
   obtain ⟨a,rfl,h1⟩:=zzi hp
   obtain ⟨t,rfl,hl,_⟩:=zyh h1
   exact z07 t hl)
theorem over:Rows.fnExactValuesInRow.holds Try.pinned (OpenSpec.ofChange Rows.fnExactValuesInSpec) :=
 OpenClaim.holds_of_wide 5 Try.f5 rfl rfl rfl rfl rfl rfl rfl ⟨rfl,rfl,rfl,rfl,rfl⟩ rfl rfl rfl rfl rfl (by kernel_rfl) Try.func5 (by kernel_rfl)
  (of_decide_eq_true (by kernel_rfl)) (by unfold Func.isWrapper; first | (rw [if_pos (by decide +kernel)]; kernel_rfl) | (rw [if_neg (by decide +kernel)]; exact ⟨rfl,rfl⟩))
  (fun os started H enc _=>lifted os started H enc)
end Go.Proofs.Ytdebkglpapjeiaa.fnExactValuesIn
namespace Go.Proofs.Ytdebkglpapjeiaa
theorem fnExactValuesIn_holds:Rows.FnExactValuesInSaid:=fnExactValuesIn.over
#print axioms fnExactValuesIn_holds
end Go.Proofs.Ytdebkglpapjeiaa
