/- The law: for every input that the row lets in the call returns true, and what came in reads as it did; no condition beyond the row. -/
import Derived.Test.YtnioodedhoccaaaRows
import Derived.Test.YtnioodedhoccaaaOk
import Derived.Test.YtnioodedhoccaaaC0
import Derived.WalkKit
import Derived.ProofKit
import Derived.OpenShut
import Derived.ShutString
import Derived.ChangeOld
import Derived.Below
import Derived.SizedLaws
set_option linter.all false
/-! The law FnExactShrunk returns true: the program's Shrunk returns what the reference's returns. -/
namespace Go.Proofs.Ytnioodedhoccaaa.fnExactShrunk
open Go Go.Pe
theorem own : ownKnob Try.prog.godebug = none := by kernel_rfl
set_option maxRecDepth 100000 in
theorem lifted (os : Os) (started : os.Started) (H : Type) (enc : TypeId × Value → H) :
    ReturnsInHanded {} Try.checked os 5 .any (Rows.fnExactShrunkSpec.pre6 enc Try.prog Try.f5 Rows.fnExactShrunkRow.domain false) (Rows.fnExactShrunkSpec.post enc Try.prog Try.f5 false true false false) :=
  law_lifted (C := Try.checked) (ptys := [(false, [.int .i64]), (true, [.int .i64, .int .i64, .int .i64, .int .i64, .int .i64, .int .i64, .int .i64, .sl [.int .i64]])]) table_ok started own (by kernel_rfl) Try.func5
    (ChangeSpec.witness6 (enc := enc) (C := Try.checked) false ⟨#[], #[.int .i64 0, .agg #[.int .i64 0, .int .i64 0, .int .i64 0, .int .i64 0, .int .i64 0, .int .i64 0, .int .i64 0, .slice none 0 0]], []⟩ 8 (by kernel_rfl) (by kernel_rfl) (by kernel_rfl) (by kernel_rfl))
    (by kernel_rfl) rfl (fun ds h => by match ds, h with | [d0, d1], _ => rfl) rfl rfl (by kernel_rfl) (of_all (by kernel_rfl))
    (fun pvs hp => by
      obtain ⟨a, b, rfl, h1, h2⟩ := args2 hp
      obtain ⟨v, rfl, _⟩ := shp_int h1
      obtain ⟨c, rfl, hl, _⟩ := shp_cfg h2
      exact law_FnExactShrunk v c hl)
theorem over : Rows.fnExactShrunkRow.holds Try.pinned (OpenSpec.ofChange Rows.fnExactShrunkSpec) :=
  OpenClaim.holds_of_wide 5 Try.f5 rfl rfl rfl rfl rfl rfl rfl ⟨rfl, rfl, rfl, rfl, rfl⟩ rfl rfl rfl rfl rfl (by kernel_rfl) Try.func5 (by kernel_rfl)
    (of_decide_eq_true (by kernel_rfl)) (by unfold Func.isWrapper; first | (rw [if_pos (by decide +kernel)]; kernel_rfl) | (rw [if_neg (by decide +kernel)]; exact ⟨rfl, rfl⟩))
    (fun os started H enc _ => lifted os started H enc)
end Go.Proofs.Ytnioodedhoccaaa.fnExactShrunk
namespace Go.Proofs.Ytnioodedhoccaaa
/-- The row. -/
theorem fnExactShrunk_holds : Rows.FnExactShrunkSaid := fnExactShrunk.over
#print axioms fnExactShrunk_holds
end Go.Proofs.Ytnioodedhoccaaa
