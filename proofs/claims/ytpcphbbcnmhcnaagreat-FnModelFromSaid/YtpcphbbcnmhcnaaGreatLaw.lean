/- The law: for every input that the row lets in the call returns true,and what came in reads as it did; no condition beyond the row. -/
import Derived.Test.YtpcphbbcnmhcnaaGreatRows
import Derived.Test.YtpcphbbcnmhcnaaGreatOk
import Derived.Test.YtpcphbbcnmhcnaaGreatC2
import Derived.WalkKit
import Derived.ProofKit
import Derived.OpenShut
import Derived.ShutString
import Derived.ChangeOld
import Derived.Below
import Derived.SizedLaws
set_option linter.all false
namespace Go.Proofs.YtpcphbbcnmhcnaaGreat.fnModelFrom
open Go Go.Pe
theorem own:ownKnob Tryz.prog.godebug=none:=by kernel_rfl
set_option maxRecDepth 100000 in
theorem lifted (os:Os) (started:os.Started) (H:Type) (enc:TypeId×Value→H) :
  ReturnsInHanded {} Tryz.checked os 4 .any (Rows.fnModelFromSpec.pre6 enc Tryz.prog Tryz.f4 Rows.fnModelFromRow.domain false) (Rows.fnModelFromSpec.post enc Tryz.prog Tryz.f4 false true false false) :=
 y7x (C:=Tryz.checked) (ptys:=[(false,[.sl [.int .u8]])]) ylw (zsj) started own (by kernel_rfl) Tryz.func4
  (ChangeSpec.witness6 (enc:=enc) (C:=Tryz.checked) false ⟨#[],#[.slice none 0 0],[]⟩ 8 (by kernel_rfl) (by kernel_rfl) (by kernel_rfl) (by kernel_rfl))
  (by kernel_rfl) rfl (fun ds h=>by match ds,h with | [d0],_=>rfl) rfl rfl (by kernel_rfl) (yz7 (by kernel_rfl))
  (fun pvs hp=>by
   obtain ⟨a,rfl,h1⟩:=y32 hp
   obtain ⟨B,rfl,hB⟩:=y1c h1
   exact y1i B hB)
theorem over:Rows.fnModelFromRow.holds Tryz.pinned (OpenSpec.ofChange Rows.fnModelFromSpec) :=
 OpenClaim.holds_of_wide 4 Tryz.f4 rfl rfl rfl rfl rfl rfl rfl ⟨rfl,rfl,rfl,rfl,rfl⟩ rfl rfl rfl rfl rfl (by kernel_rfl) Tryz.func4 (by kernel_rfl)
  (of_decide_eq_true (by kernel_rfl)) (by unfold Func.isWrapper; first | (rw [if_pos (by decide +kernel)]; kernel_rfl) | (rw [if_neg (by decide +kernel)]; exact ⟨rfl,rfl⟩))
  (fun os started H enc _=>lifted os started H enc)
end Go.Proofs.YtpcphbbcnmhcnaaGreat.fnModelFrom
namespace Go.Proofs.YtpcphbbcnmhcnaaGreat
theorem fnModelFrom_holds:Rows.FnModelFromSaid:=fnModelFrom.over
#print axioms fnModelFrom_holds
end Go.Proofs.YtpcphbbcnmhcnaaGreat
