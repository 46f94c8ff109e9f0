/- The law: for every input that the row lets in the call returns true, and what came in reads as it did; no condition beyond the row. -/
import Derived.Test.YtnioodedhoccaaaRows
import Derived.Test.YtnioodedhoccaaaOk
import Derived.Test.YtnioodedhoccaaaC0
import Derived.WalkKit
import Derived.ProofKit
import Derived.OpenShut
import Derived.ShutString
import Derived.ChangeOld
import Derived.Below
import Derived.SizedLaws
set_option linter.all false
/-! The law FnExactTaskOk returns true: the program's TaskOk returns what the reference's returns. -/
namespace Go.Proofs.Ytnioodedhoccaaa.fnExactTaskOk
open Go Go.Pe
theorem own : ownKnob Try.prog.godebug = none := by kernel_rfl
set_option maxRecDepth 100000 in
theorem lifted (os : Os) (started : os.Started) (H : Type) (enc : TypeId × Value → H) :
    ReturnsInHanded {} Try.checked os 14 .any (Rows.fnExactTaskOkSpec.pre6 enc Try.prog Try.f14 Rows.fnExactTaskOkRow.domain false) (Rows.fnExactTaskOkSpec.post enc Try.prog Try.f14 false true false false) :=
  law_lifted (C := Try.checked) (ptys := [(true, [.sl [.sl [.int .i64]], .sl [.sl [.int .i64]]]), (false, [.sl [.int .i64]]), (true, [.int .i64, .int .i64, .int .i64, .int .i64, .int .i64, .int .i64, .int .i64, .sl [.int .i64]])]) table_ok started own (by kernel_rfl) Try.func14
    (ChangeSpec.witness6 (enc := enc) (C := Try.checked) false ⟨#[], #[.agg #[.slice none 0 0, .slice none 0 0], .slice none 0 0, .agg #[.int .i64 0, .int .i64 0, .int .i64 0, .int .i64 0, .int .i64 0, .int .i64 0, .int .i64 0, .slice none 0 0]], []⟩ 8 (by kernel_rfl) (by kernel_rfl) (by kernel_rfl) (by kernel_rfl))
    (by kernel_rfl) rfl (fun ds h => by match ds, h with | [d0, d1, d2], _ => rfl) rfl rfl (by kernel_rfl) (of_all (by kernel_rfl))
    (fun pvs hp => by
      obtain ⟨a, b, d, rfl, h1, h2, h3⟩ := args3 hp
      obtain ⟨c, v, rfl, hcl, hvl, hc, hv⟩ := shp_grid h1
      obtain ⟨lab, rfl, hlab, _⟩ := shp_ints h2
      obtain ⟨g, rfl, hg, _⟩ := shp_cfg h3
      exact law_FnExactTaskOk c v lab g hcl hvl hc hv hlab hg)
theorem over : Rows.fnExactTaskOkRow.holds Try.pinned (OpenSpec.ofChange Rows.fnExactTaskOkSpec) :=
  OpenClaim.holds_of_wide 14 Try.f14 rfl rfl rfl rfl rfl rfl rfl ⟨rfl, rfl, rfl, rfl, rfl⟩ rfl rfl rfl rfl rfl (by kernel_rfl) Try.func14 (by kernel_rfl)
    (of_decide_eq_true (by kernel_rfl)) (by unfold Func.isWrapper; first | (rw [if_pos (by decide +kernel)]; kernel_rfl) | (rw [if_neg (by decide +kernel)]; exact ⟨rfl, rfl⟩))
    (fun os started H enc _ => lifted os started H enc)
end Go.Proofs.Ytnioodedhoccaaa.fnExactTaskOk
namespace Go.Proofs.Ytnioodedhoccaaa
/-- The row. -/
theorem fnExactTaskOk_holds : Rows.FnExactTaskOkSaid := fnExactTaskOk.over
#print axioms fnExactTaskOk_holds
end Go.Proofs.Ytnioodedhoccaaa
