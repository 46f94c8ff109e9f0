/- The law: for every input that the row lets in the call returns true, and what came in reads as it did; no condition beyond the row. -/
import Derived.Test.YtoilifakgbifmaaRows
import Derived.Test.YtoilifakgbifmaaOk
import Derived.Test.YtoilifakgbifmaaC0
import Derived.WalkKit
import Derived.ProofKit
import Derived.OpenShut
import Derived.ShutString
import Derived.ChangeOld
import Derived.Below
import Derived.SizedLaws
set_option linter.all false
/-! The law FnNodeHists returns true: what the program answers at a grid, gradients and rows drawn from the bytes is what the law asks of NodeHists and TotalOf. -/
namespace Go.Proofs.Ytoilifakgbifmaa.fnNodeHists
open Go Go.Pe
theorem own : ownKnob Try.prog.godebug = none := by kernel_rfl
set_option maxRecDepth 100000 in
theorem lifted (os : Os) (started : os.Started) (H : Type) (enc : TypeId × Value → H) :
    ReturnsInHanded {} Try.checked os 12 .any (Rows.fnNodeHistsSpec.pre6 enc Try.prog Try.f12 Rows.fnNodeHistsRow.domain false) (Rows.fnNodeHistsSpec.post enc Try.prog Try.f12 false true false false) :=
  law_lifted (C := Try.checked) (ptys := [(false, [.sl [.int .u8]])]) table_ok (T_laws_FnNodeHists) started own (by kernel_rfl) Try.func12
    (ChangeSpec.witness6 (enc := enc) (C := Try.checked) false ⟨#[], #[.slice none 0 0], []⟩ 8 (by kernel_rfl) (by kernel_rfl) (by kernel_rfl) (by kernel_rfl))
    (by kernel_rfl) rfl (fun ds h => by match ds, h with | [d0], _ => rfl) rfl rfl (by kernel_rfl) (of_all (by kernel_rfl))
    (fun pvs hp => by
      obtain ⟨a, rfl, h1⟩ := args1 hp
      obtain ⟨B, rfl, hB⟩ := shp_bytes h1
      exact law_FnNodeHists B hB)
theorem over : Rows.fnNodeHistsRow.holds Try.pinned (OpenSpec.ofChange Rows.fnNodeHistsSpec) :=
  OpenClaim.holds_of_wide 12 Try.f12 rfl rfl rfl rfl rfl rfl rfl ⟨rfl, rfl, rfl, rfl, rfl⟩ rfl rfl rfl rfl rfl (by kernel_rfl) Try.func12 (by kernel_rfl)
    (of_decide_eq_true (by kernel_rfl)) (by unfold Func.isWrapper; first | (rw [if_pos (by decide +kernel)]; kernel_rfl) | (rw [if_neg (by decide +kernel)]; exact ⟨rfl, rfl⟩))
    (fun os started H enc _ => lifted os started H enc)
end Go.Proofs.Ytoilifakgbifmaa.fnNodeHists
namespace Go.Proofs.Ytoilifakgbifmaa
/-- The row. -/
theorem fnNodeHists_holds : Rows.FnNodeHistsSaid := fnNodeHists.over
#print axioms fnNodeHists_holds
end Go.Proofs.Ytoilifakgbifmaa
