/- The law: for every input that the row lets in the call returns true, and what came in reads as it did; no condition beyond the row. -/
import Derived.Test.YthjpnjnlhmkepaaRows
import Derived.Test.YthjpnjnlhmkepaaOk
import Derived.Test.YthjpnjnlhmkepaaC0
import Derived.WalkKit
import Derived.ProofKit
import Derived.OpenShut
import Derived.ShutString
import Derived.ChangeOld
import Derived.Below
import Derived.SizedLaws
set_option linter.all false
/-! The law FnExactRowsAt returns true: the program's RowsAt returns what the reference's returns. -/
namespace Go.Proofs.Ythjpnjnlhmkepaa.fnExactRowsAt
open Go Go.Pe
theorem own : ownKnob Try.prog.godebug = none := by kernel_rfl
set_option maxRecDepth 100000 in
theorem lifted (os : Os) (started : os.Started) (H : Type) (enc : TypeId × Value → H) :
    ReturnsInHanded {} Try.checked os 14 .any (Rows.fnExactRowsAtSpec.pre6 enc Try.prog Try.f14 Rows.fnExactRowsAtRow.domain false) (Rows.fnExactRowsAtSpec.post enc Try.prog Try.f14 false true false false) :=
  law_lifted (C := Try.checked) (ptys := [(true, [.sl [.int .i64, .int .i64, .int .i64, .int .i64, .int .i64]]), (false, [.int .i64]), (false, [.sl [.sl [.int .i64]]])]) table_ok (T_laws_FnExactRowsAt) started own (by kernel_rfl) Try.func14
    (ChangeSpec.witness6 (enc := enc) (C := Try.checked) false ⟨#[], #[.agg #[.slice none 0 0], .int .i64 0, .slice none 0 0], []⟩ 8 (by kernel_rfl) (by kernel_rfl) (by kernel_rfl) (by kernel_rfl))
    (by kernel_rfl) rfl (fun ds h => by match ds, h with | [d0, d1, d2], _ => rfl) rfl rfl (by kernel_rfl) (of_all (by kernel_rfl))
    (fun pvs hp => by
      obtain ⟨a, b, c, rfl, h1, h2, h3⟩ := args3 hp
      obtain ⟨t, rfl, hl, _⟩ := shp_tree h1
      obtain ⟨k, rfl, _⟩ := shp_int h2
      obtain ⟨L, rfl, hL, hr⟩ := shp_intss h3
      exact law_FnExactRowsAt t k L hl hL hr)
theorem over : Rows.fnExactRowsAtRow.holds Try.pinned (OpenSpec.ofChange Rows.fnExactRowsAtSpec) :=
  OpenClaim.holds_of_wide 14 Try.f14 rfl rfl rfl rfl rfl rfl rfl ⟨rfl, rfl, rfl, rfl, rfl⟩ rfl rfl rfl rfl rfl (by kernel_rfl) Try.func14 (by kernel_rfl)
    (of_decide_eq_true (by kernel_rfl)) (by unfold Func.isWrapper; first | (rw [if_pos (by decide +kernel)]; kernel_rfl) | (rw [if_neg (by decide +kernel)]; exact ⟨rfl, rfl⟩))
    (fun os started H enc _ => lifted os started H enc)
end Go.Proofs.Ythjpnjnlhmkepaa.fnExactRowsAt
namespace Go.Proofs.Ythjpnjnlhmkepaa
/-- The row. -/
theorem fnExactRowsAt_holds : Rows.FnExactRowsAtSaid := fnExactRowsAt.over
#print axioms fnExactRowsAt_holds
end Go.Proofs.Ythjpnjnlhmkepaa
