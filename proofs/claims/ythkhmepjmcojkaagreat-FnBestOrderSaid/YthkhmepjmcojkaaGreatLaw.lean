/- The law: for every input that the row lets in the call returns true, and what came in reads as it did; no condition beyond the row. -/
import Derived.Test.YthkhmepjmcojkaaGreatRows
import Derived.Test.YthkhmepjmcojkaaGreatOk
import Derived.Test.YthkhmepjmcojkaaGreatC0
import Derived.WalkKit
import Derived.ProofKit
import Derived.OpenShut
import Derived.ShutString
import Derived.ChangeOld
import Derived.Below
import Derived.SizedLaws
set_option linter.all false
/-! The law FnBestOrder returns true: what the program answers at candidates drawn from the bytes, and at the same ones in the other order, is what the law asks of BestOf. -/
namespace Go.Proofs.YthkhmepjmcojkaaGreat.fnBestOrder
open Go Go.Pe
theorem own : ownKnob Tryz.prog.godebug = none := by kernel_rfl
set_option maxRecDepth 100000 in
theorem lifted (os : Os) (started : os.Started) (H : Type) (enc : TypeId × Value → H) :
    ReturnsInHanded {} Tryz.checked os 4 .any (Rows.fnBestOrderSpec.pre6 enc Tryz.prog Tryz.f4 Rows.fnBestOrderRow.domain false) (Rows.fnBestOrderSpec.post enc Tryz.prog Tryz.f4 false true false false) :=
  law_lifted (C := Tryz.checked) (ptys := [(false, [.sl [.int .u8]])]) table_ok (T_laws_FnBestOrder) started own (by kernel_rfl) Tryz.func4
    (ChangeSpec.witness6 (enc := enc) (C := Tryz.checked) false ⟨#[], #[.slice none 0 0], []⟩ 8 (by kernel_rfl) (by kernel_rfl) (by kernel_rfl) (by kernel_rfl))
    (by kernel_rfl) rfl (fun ds h => by match ds, h with | [d0], _ => rfl) rfl rfl (by kernel_rfl) (of_all (by kernel_rfl))
    (fun pvs hp => by
      obtain ⟨a, rfl, h1⟩ := args1 hp
      obtain ⟨B, rfl, hB⟩ := shp_bytes h1
      exact law_FnBestOrder B hB)
theorem over : Rows.fnBestOrderRow.holds Tryz.pinned (OpenSpec.ofChange Rows.fnBestOrderSpec) :=
  OpenClaim.holds_of_wide 4 Tryz.f4 rfl rfl rfl rfl rfl rfl rfl ⟨rfl, rfl, rfl, rfl, rfl⟩ rfl rfl rfl rfl rfl (by kernel_rfl) Tryz.func4 (by kernel_rfl)
    (of_decide_eq_true (by kernel_rfl)) (by unfold Func.isWrapper; first | (rw [if_pos (by decide +kernel)]; kernel_rfl) | (rw [if_neg (by decide +kernel)]; exact ⟨rfl, rfl⟩))
    (fun os started H enc _ => lifted os started H enc)
end Go.Proofs.YthkhmepjmcojkaaGreat.fnBestOrder
namespace Go.Proofs.YthkhmepjmcojkaaGreat
/-- The row. -/
theorem fnBestOrder_holds : Rows.FnBestOrderSaid := fnBestOrder.over
#print axioms fnBestOrder_holds
end Go.Proofs.YthkhmepjmcojkaaGreat
