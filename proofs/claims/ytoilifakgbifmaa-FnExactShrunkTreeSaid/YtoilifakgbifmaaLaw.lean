/- The law: for every input that the row lets in the call returns true, and what came in reads as it did; no condition beyond the row. -/
import Derived.Test.YtoilifakgbifmaaRows
import Derived.Test.YtoilifakgbifmaaOk
import Derived.Test.YtoilifakgbifmaaC0
import Derived.WalkKit
import Derived.ProofKit
import Derived.OpenShut
import Derived.ShutString
import Derived.ChangeOld
import Derived.Below
import Derived.SizedLaws
set_option linter.all false
/-! The law FnExactShrunkTree returns true: the program's ShrunkTree returns what the reference's returns. -/
namespace Go.Proofs.Ytoilifakgbifmaa.fnExactShrunkTree
open Go Go.Pe
theorem own : ownKnob Try.prog.godebug = none := by kernel_rfl
set_option maxRecDepth 100000 in
theorem lifted (os : Os) (started : os.Started) (H : Type) (enc : TypeId × Value → H) :
    ReturnsInHanded {} Try.checked os 4 .any (Rows.fnExactShrunkTreeSpec.pre6 enc Try.prog Try.f4 Rows.fnExactShrunkTreeRow.domain false) (Rows.fnExactShrunkTreeSpec.post enc Try.prog Try.f4 false true false false) :=
  law_lifted (C := Try.checked) (ptys := [(true, [.sl [.int .i64, .int .i64, .int .i64, .int .i64, .int .i64]]), (true, [.int .i64, .int .i64, .int .i64, .int .i64, .int .i64, .int .i64, .int .i64, .sl [.int .i64]])]) table_ok (T_laws_FnExactShrunkTree) started own (by kernel_rfl) Try.func4
    (ChangeSpec.witness6 (enc := enc) (C := Try.checked) false ⟨#[], #[.agg #[.slice none 0 0], .agg #[.int .i64 0, .int .i64 0, .int .i64 0, .int .i64 0, .int .i64 0, .int .i64 0, .int .i64 0, .slice none 0 0]], []⟩ 8 (by kernel_rfl) (by kernel_rfl) (by kernel_rfl) (by kernel_rfl))
    (by kernel_rfl) rfl (fun ds h => by match ds, h with | [d0, d1], _ => rfl) rfl rfl (by kernel_rfl) (of_all (by kernel_rfl))
    (fun pvs hp => by
      obtain ⟨a, b, rfl, h1, h2⟩ := args2 hp
      obtain ⟨t, rfl, ht, _⟩ := shp_tree h1
      obtain ⟨c, rfl, hc, _⟩ := shp_cfg h2
      exact law_FnExactShrunkTree t c ht hc)
theorem over : Rows.fnExactShrunkTreeRow.holds Try.pinned (OpenSpec.ofChange Rows.fnExactShrunkTreeSpec) :=
  OpenClaim.holds_of_wide 4 Try.f4 rfl rfl rfl rfl rfl rfl rfl ⟨rfl, rfl, rfl, rfl, rfl⟩ rfl rfl rfl rfl rfl (by kernel_rfl) Try.func4 (by kernel_rfl)
    (of_decide_eq_true (by kernel_rfl)) (by unfold Func.isWrapper; first | (rw [if_pos (by decide +kernel)]; kernel_rfl) | (rw [if_neg (by decide +kernel)]; exact ⟨rfl, rfl⟩))
    (fun os started H enc _ => lifted os started H enc)
end Go.Proofs.Ytoilifakgbifmaa.fnExactShrunkTree
namespace Go.Proofs.Ytoilifakgbifmaa
/-- The row. -/
theorem fnExactShrunkTree_holds : Rows.FnExactShrunkTreeSaid := fnExactShrunkTree.over
#print axioms fnExactShrunkTree_holds
end Go.Proofs.Ytoilifakgbifmaa
