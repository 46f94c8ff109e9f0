/- The law: for every input that the row lets in the call returns true, and what came in reads as it did; no condition beyond the row. -/
import Derived.Test.YtnioodedhoccaaaRows
import Derived.Test.YtnioodedhoccaaaOk
import Derived.Test.YtnioodedhoccaaaC0
import Derived.WalkKit
import Derived.ProofKit
import Derived.OpenShut
import Derived.ShutString
import Derived.ChangeOld
import Derived.Below
import Derived.SizedLaws
set_option linter.all false
/-! The law FnExactTreeOk returns true: the program's TreeOk returns what the reference's returns. -/
namespace Go.Proofs.Ytnioodedhoccaaa.fnExactTreeOk
open Go Go.Pe
theorem own : ownKnob Try.prog.godebug = none := by kernel_rfl
set_option maxRecDepth 100000 in
theorem lifted (os : Os) (started : os.Started) (H : Type) (enc : TypeId × Value → H) :
    ReturnsInHanded {} Try.checked os 13 .any (Rows.fnExactTreeOkSpec.pre6 enc Try.prog Try.f13 Rows.fnExactTreeOkRow.domain false) (Rows.fnExactTreeOkSpec.post enc Try.prog Try.f13 false true false false) :=
  law_lifted (C := Try.checked) (ptys := [(true, [.sl [.int .i64, .int .i64, .int .i64, .int .i64, .int .i64]]), (false, [.int .i64])]) table_ok started own (by kernel_rfl) Try.func13
    (ChangeSpec.witness6 (enc := enc) (C := Try.checked) false ⟨#[], #[.agg #[.slice none 0 0], .int .i64 0], []⟩ 8 (by kernel_rfl) (by kernel_rfl) (by kernel_rfl) (by kernel_rfl))
    (by kernel_rfl) rfl (fun ds h => by match ds, h with | [d0, d1], _ => rfl) rfl rfl (by kernel_rfl) (of_all (by kernel_rfl))
    (fun pvs hp => by
      obtain ⟨a, b, rfl, h1, h2⟩ := args2 hp
      obtain ⟨t, rfl, hl, _⟩ := shp_tree h1
      obtain ⟨k, rfl, _⟩ := shp_int h2
      exact law_FnExactTreeOk t k hl)
theorem over : Rows.fnExactTreeOkRow.holds Try.pinned (OpenSpec.ofChange Rows.fnExactTreeOkSpec) :=
  OpenClaim.holds_of_wide 13 Try.f13 rfl rfl rfl rfl rfl rfl rfl ⟨rfl, rfl, rfl, rfl, rfl⟩ rfl rfl rfl rfl rfl (by kernel_rfl) Try.func13 (by kernel_rfl)
    (of_decide_eq_true (by kernel_rfl)) (by unfold Func.isWrapper; first | (rw [if_pos (by decide +kernel)]; kernel_rfl) | (rw [if_neg (by decide +kernel)]; exact ⟨rfl, rfl⟩))
    (fun os started H enc _ => lifted os started H enc)
end Go.Proofs.Ytnioodedhoccaaa.fnExactTreeOk
namespace Go.Proofs.Ytnioodedhoccaaa
/-- The row. -/
theorem fnExactTreeOk_holds : Rows.FnExactTreeOkSaid := fnExactTreeOk.over
#print axioms fnExactTreeOk_holds
end Go.Proofs.Ytnioodedhoccaaa
