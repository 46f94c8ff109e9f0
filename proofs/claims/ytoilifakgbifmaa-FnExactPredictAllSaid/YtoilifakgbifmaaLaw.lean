/- The law: for every input that the row lets in the call returns true, and what came in reads as it did; no condition beyond the row. -/
import Derived.Test.YtoilifakgbifmaaRows
import Derived.Test.YtoilifakgbifmaaOk
import Derived.Test.YtoilifakgbifmaaC0
import Derived.WalkKit
import Derived.ProofKit
import Derived.OpenShut
import Derived.ShutString
import Derived.ChangeOld
import Derived.Below
import Derived.SizedLaws
set_option linter.all false
/-! The law FnExactPredictAll returns true: the program's PredictAll returns what the reference's returns. -/
namespace Go.Proofs.Ytoilifakgbifmaa.fnExactPredictAll
open Go Go.Pe
theorem own : ownKnob Try.prog.godebug = none := by kernel_rfl
set_option maxRecDepth 100000 in
theorem lifted (os : Os) (started : os.Started) (H : Type) (enc : TypeId × Value → H) :
    ReturnsInHanded {} Try.checked os 11 .any (Rows.fnExactPredictAllSpec.pre6 enc Try.prog Try.f11 Rows.fnExactPredictAllRow.domain false) (Rows.fnExactPredictAllSpec.post enc Try.prog Try.f11 false true false false) :=
  law_lifted (C := Try.checked) (ptys := [(true, [.sl [.str], .sl [.int .i64], .int .i64, .sl [.sl [.int .i64, .int .i64, .int .i64, .int .i64, .int .i64]]]), (false, [.sl [.sl [.int .i64]]])]) table_ok (T_laws_FnExactPredictAll) started own (by kernel_rfl) Try.func11
    (ChangeSpec.witness6 (enc := enc) (C := Try.checked) false ⟨#[], #[.agg #[.slice none 0 0, .slice none 0 0, .int .i64 0, .slice none 0 0], .slice none 0 0], []⟩ 8 (by kernel_rfl) (by kernel_rfl) (by kernel_rfl) (by kernel_rfl))
    (by kernel_rfl) rfl (fun ds h => by match ds, h with | [d0, d1], _ => rfl) rfl rfl (by kernel_rfl) (of_all (by kernel_rfl))
    (fun pvs hp => by
      obtain ⟨a, b, rfl, h1, h2⟩ := args2 hp
      obtain ⟨m, rfl, hm, _⟩ := shp_model h1
      obtain ⟨L, rfl, hL, hr⟩ := shp_intss h2
      exact law_FnExactPredictAll m L hm hL hr)
theorem over : Rows.fnExactPredictAllRow.holds Try.pinned (OpenSpec.ofChange Rows.fnExactPredictAllSpec) :=
  OpenClaim.holds_of_wide 11 Try.f11 rfl rfl rfl rfl rfl rfl rfl ⟨rfl, rfl, rfl, rfl, rfl⟩ rfl rfl rfl rfl rfl (by kernel_rfl) Try.func11 (by kernel_rfl)
    (of_decide_eq_true (by kernel_rfl)) (by unfold Func.isWrapper; first | (rw [if_pos (by decide +kernel)]; kernel_rfl) | (rw [if_neg (by decide +kernel)]; exact ⟨rfl, rfl⟩))
    (fun os started H enc _ => lifted os started H enc)
end Go.Proofs.Ytoilifakgbifmaa.fnExactPredictAll
namespace Go.Proofs.Ytoilifakgbifmaa
/-- The row. -/
theorem fnExactPredictAll_holds : Rows.FnExactPredictAllSaid := fnExactPredictAll.over
#print axioms fnExactPredictAll_holds
end Go.Proofs.Ytoilifakgbifmaa
