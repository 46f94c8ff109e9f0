/- The law: for every input that the row lets in the call returns true,and what came in reads as it did; no condition beyond the row. -/
import Derived.Test.YtadpenaldhkjcaaGreatRows
import Derived.Test.YtadpenaldhkjcaaGreatOk
import Derived.Test.YtadpenaldhkjcaaGreatC1
import Derived.WalkKit
import Derived.ProofKit
import Derived.OpenShut
import Derived.ShutString
import Derived.ChangeOld
import Derived.Below
import Derived.SizedLaws
set_option linter.all false
namespace Go.Proofs.YtadpenaldhkjcaaGreat.fnGrownPlain
open Go Go.Pe
theorem own:ownKnob Tryz.prog.godebug=none:=by kernel_rfl
set_option maxRecDepth 100000 in
theorem lifted (os:Os) (started:os.Started) (H:Type) (enc:TypeId×Value→H) :
  ReturnsInHanded {} Tryz.checked os 4 .any (Rows.fnGrownPlainSpec.pre6 enc Tryz.prog Tryz.f4 Rows.fnGrownPlainRow.domain false) (Rows.fnGrownPlainSpec.post enc Tryz.prog Tryz.f4 false true false false) :=
 yoz (C:=Tryz.checked) (ptys:=[(false,[.sl [.int .u8]])]) z83 (zqn) started own (by kernel_rfl) Tryz.func4
  (ChangeSpec.witness6 (enc:=enc) (C:=Tryz.checked) false ⟨#[],#[.slice none 0 0],[]⟩ 8 (by kernel_rfl) (by kernel_rfl) (by kernel_rfl) (by kernel_rfl))
  (by kernel_rfl) rfl (fun ds h=>by match ds,h with | [d0],_=>rfl) rfl rfl (by kernel_rfl) (yk8 (by kernel_rfl))
  (fun pvs hp=>by
   obtain ⟨a,rfl,h1⟩:=yps hp
   obtain ⟨B,rfl,hB⟩:=ypu h1
   exact yj2 B hB)
theorem over:Rows.fnGrownPlainRow.holds Tryz.pinned (OpenSpec.ofChange Rows.fnGrownPlainSpec) :=
 OpenClaim.holds_of_wide 4 Tryz.f4 rfl rfl rfl rfl rfl rfl rfl ⟨rfl,rfl,rfl,rfl,rfl⟩ rfl rfl rfl rfl rfl (by kernel_rfl) Tryz.func4 (by kernel_rfl)
  (of_decide_eq_true (by kernel_rfl)) (by unfold Func.isWrapper; first | (rw [if_pos (by decide +kernel)]; kernel_rfl) | (rw [if_neg (by decide +kernel)]; exact ⟨rfl,rfl⟩))
  (fun os started H enc _=>lifted os started H enc)
end Go.Proofs.YtadpenaldhkjcaaGreat.fnGrownPlain
namespace Go.Proofs.YtadpenaldhkjcaaGreat
theorem fnGrownPlain_holds:Rows.FnGrownPlainSaid:=fnGrownPlain.over
#print axioms fnGrownPlain_holds
end Go.Proofs.YtadpenaldhkjcaaGreat
