/- The law: for every input that the row lets in the call returns true, and what came in reads as it did; no condition beyond the row. -/
import Derived.Test.YtoilifakgbifmaaRows
import Derived.Test.YtoilifakgbifmaaOk
import Derived.Test.YtoilifakgbifmaaC0
import Derived.WalkKit
import Derived.ProofKit
import Derived.OpenShut
import Derived.ShutString
import Derived.ChangeOld
import Derived.Below
import Derived.SizedLaws
set_option linter.all false
/-! The law FnExactStateNew returns true: the program's StateNew returns what the reference's returns. -/
namespace Go.Proofs.Ytoilifakgbifmaa.fnExactStateNew
open Go Go.Pe
theorem own : ownKnob Try.prog.godebug = none := by kernel_rfl
set_option maxRecDepth 100000 in
theorem lifted (os : Os) (started : os.Started) (H : Type) (enc : TypeId × Value → H) :
    ReturnsInHanded {} Try.checked os 7 .any (Rows.fnExactStateNewSpec.pre6 enc Try.prog Try.f7 Rows.fnExactStateNewRow.domain false) (Rows.fnExactStateNewSpec.post enc Try.prog Try.f7 false true false false) :=
  law_lifted (C := Try.checked) (ptys := [(true, [.sl [.str], .str, .sl [.sl [.int .i64]], .sl [.int .i64]])]) table_ok (T_laws_FnExactStateNew) started own (by kernel_rfl) Try.func7
    (ChangeSpec.witness6 (enc := enc) (C := Try.checked) false ⟨#[], #[.agg #[.slice none 0 0, .string ⟨#[]⟩, .slice none 0 0, .slice none 0 0]], []⟩ 8 (by kernel_rfl) (by kernel_rfl) (by kernel_rfl) (by kernel_rfl))
    (by kernel_rfl) rfl (fun ds h => by match ds, h with | [d0], _ => rfl) rfl rfl (by kernel_rfl) (of_all (by kernel_rfl))
    (fun pvs hp => by
      obtain ⟨a, rfl, h1⟩ := args1 hp
      obtain ⟨t, rfl, ht, h4⟩ := shp_table h1
      exact law_FnExactStateNew t ht h4)
theorem over : Rows.fnExactStateNewRow.holds Try.pinned (OpenSpec.ofChange Rows.fnExactStateNewSpec) :=
  OpenClaim.holds_of_wide 7 Try.f7 rfl rfl rfl rfl rfl rfl rfl ⟨rfl, rfl, rfl, rfl, rfl⟩ rfl rfl rfl rfl rfl (by kernel_rfl) Try.func7 (by kernel_rfl)
    (of_decide_eq_true (by kernel_rfl)) (by unfold Func.isWrapper; first | (rw [if_pos (by decide +kernel)]; kernel_rfl) | (rw [if_neg (by decide +kernel)]; exact ⟨rfl, rfl⟩))
    (fun os started H enc _ => lifted os started H enc)
end Go.Proofs.Ytoilifakgbifmaa.fnExactStateNew
namespace Go.Proofs.Ytoilifakgbifmaa
/-- The row. -/
theorem fnExactStateNew_holds : Rows.FnExactStateNewSaid := fnExactStateNew.over
#print axioms fnExactStateNew_holds
end Go.Proofs.Ytoilifakgbifmaa
