/- The law: for every input that the row lets in the call returns true,and what came in reads as it did; no condition beyond the row. -/
import Derived.Test.YtadpenaldhkjcaaGreatRows
import Derived.Test.YtadpenaldhkjcaaGreatOk
import Derived.Test.YtadpenaldhkjcaaGreatC2
import Derived.WalkKit
import Derived.ProofKit
import Derived.OpenShut
import Derived.ShutString
import Derived.ChangeOld
import Derived.Below
import Derived.SizedLaws
set_option linter.all false
namespace Go.Proofs.YtadpenaldhkjcaaGreat.fnSets
open Go Go.Pe
theorem own:ownKnob Tryz.prog.godebug=none:=by kernel_rfl
set_option maxRecDepth 100000 in
theorem lifted (os:Os) (started:os.Started) (H:Type) (enc:TypeId×Value→H) :
  ReturnsInHanded {} Tryz.checked os 6 .any (Rows.fnSetsSpec.pre6 enc Tryz.prog Tryz.f6 Rows.fnSetsRow.domain false) (Rows.fnSetsSpec.post enc Tryz.prog Tryz.f6 false true false false) :=
 yz2 (C:=Tryz.checked) (ptys:=[(false,[.sl [.int .u8]])]) yd7 (zud) started own (by kernel_rfl) Tryz.func6
  (ChangeSpec.witness6 (enc:=enc) (C:=Tryz.checked) false ⟨#[],#[.slice none 0 0],[]⟩ 8 (by kernel_rfl) (by kernel_rfl) (by kernel_rfl) (by kernel_rfl))
  (by kernel_rfl) rfl (fun ds h=>by match ds,h with | [d0],_=>rfl) rfl rfl (by kernel_rfl) (yyz (by kernel_rfl))
  (fun pvs hp=>by
   obtain ⟨a,rfl,h1⟩:=yx7 hp
   obtain ⟨B,rfl,hB⟩:=ywe h1
   exact yzc B hB)
theorem over:Rows.fnSetsRow.holds Tryz.pinned (OpenSpec.ofChange Rows.fnSetsSpec) :=
 OpenClaim.holds_of_wide 6 Tryz.f6 rfl rfl rfl rfl rfl rfl rfl ⟨rfl,rfl,rfl,rfl,rfl⟩ rfl rfl rfl rfl rfl (by kernel_rfl) Tryz.func6 (by kernel_rfl)
  (of_decide_eq_true (by kernel_rfl)) (by unfold Func.isWrapper; first | (rw [if_pos (by decide +kernel)]; kernel_rfl) | (rw [if_neg (by decide +kernel)]; exact ⟨rfl,rfl⟩))
  (fun os started H enc _=>lifted os started H enc)
end Go.Proofs.YtadpenaldhkjcaaGreat.fnSets
namespace Go.Proofs.YtadpenaldhkjcaaGreat
theorem fnSets_holds:Rows.FnSetsSaid:=fnSets.over
#print axioms fnSets_holds
end Go.Proofs.YtadpenaldhkjcaaGreat
