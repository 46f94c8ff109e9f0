/- The law: for every input that the row lets in the call returns true,and what came in reads as it did; no condition beyond the row. -/
import Derived.Test.YtpcphbbcnmhcnaaGreatRows
import Derived.Test.YtpcphbbcnmhcnaaGreatOk
import Derived.Test.YtpcphbbcnmhcnaaGreatC1
import Derived.WalkKit
import Derived.ProofKit
import Derived.OpenShut
import Derived.ShutString
import Derived.ChangeOld
import Derived.Below
import Derived.SizedLaws
set_option linter.all false
namespace Go.Proofs.YtpcphbbcnmhcnaaGreat.fnRoundsOn
open Go Go.Pe
theorem own:ownKnob Tryz.prog.godebug=none:=by kernel_rfl
set_option maxRecDepth 100000 in
theorem lifted (os:Os) (started:os.Started) (H:Type) (enc:TypeId×Value→H) :
  ReturnsInHanded {} Tryz.checked os 3 .any (Rows.fnRoundsOnSpec.pre6 enc Tryz.prog Tryz.f3 Rows.fnRoundsOnRow.domain false) (Rows.fnRoundsOnSpec.post enc Tryz.prog Tryz.f3 false true false false) :=
 yra (C:=Tryz.checked) (ptys:=[(false,[.sl [.int .u8]])]) yd9 (zmy) started own (by kernel_rfl) Tryz.func3
  (ChangeSpec.witness6 (enc:=enc) (C:=Tryz.checked) false ⟨#[],#[.slice none 0 0],[]⟩ 8 (by kernel_rfl) (by kernel_rfl) (by kernel_rfl) (by kernel_rfl))
  (by kernel_rfl) rfl (fun ds h=>by match ds,h with | [d0],_=>rfl) rfl rfl (by kernel_rfl) (yxq (by kernel_rfl))
  (fun pvs hp=>by
   obtain ⟨a,rfl,h1⟩:=yrw hp
   obtain ⟨B,rfl,hB⟩:=yzx h1
   exact yyi B hB)
theorem over:Rows.fnRoundsOnRow.holds Tryz.pinned (OpenSpec.ofChange Rows.fnRoundsOnSpec) :=
 OpenClaim.holds_of_wide 3 Tryz.f3 rfl rfl rfl rfl rfl rfl rfl ⟨rfl,rfl,rfl,rfl,rfl⟩ rfl rfl rfl rfl rfl (by kernel_rfl) Tryz.func3 (by kernel_rfl)
  (of_decide_eq_true (by kernel_rfl)) (by unfold Func.isWrapper; first | (rw [if_pos (by decide +kernel)]; kernel_rfl) | (rw [if_neg (by decide +kernel)]; exact ⟨rfl,rfl⟩))
  (fun os started H enc _=>lifted os started H enc)
end Go.Proofs.YtpcphbbcnmhcnaaGreat.fnRoundsOn
namespace Go.Proofs.YtpcphbbcnmhcnaaGreat
theorem fnRoundsOn_holds:Rows.FnRoundsOnSaid:=fnRoundsOn.over
#print axioms fnRoundsOn_holds
end Go.Proofs.YtpcphbbcnmhcnaaGreat
