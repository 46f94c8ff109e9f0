/- The law: for every input that the row lets in the call returns true, and what came in reads as it did; no condition beyond the row. -/
import Derived.Test.YtoilifakgbifmaaRows
import Derived.Test.YtoilifakgbifmaaOk
import Derived.Test.YtoilifakgbifmaaC0
import Derived.WalkKit
import Derived.ProofKit
import Derived.OpenShut
import Derived.ShutString
import Derived.ChangeOld
import Derived.Below
import Derived.SizedLaws
set_option linter.all false
/-! The law FnExactStateLoss returns true: the program's StateLoss returns what the reference's returns. -/
namespace Go.Proofs.Ytoilifakgbifmaa.fnExactStateLoss
open Go Go.Pe
theorem own : ownKnob Try.prog.godebug = none := by kernel_rfl
set_option maxRecDepth 100000 in
theorem lifted (os : Os) (started : os.Started) (H : Type) (enc : TypeId × Value → H) :
    ReturnsInHanded {} Try.checked os 8 .any (Rows.fnExactStateLossSpec.pre6 enc Try.prog Try.f8 Rows.fnExactStateLossRow.domain false) (Rows.fnExactStateLossSpec.post enc Try.prog Try.f8 false true false false) :=
  law_lifted (C := Try.checked) (ptys := [(true, [.sl [.str], .str, .sl [.sl [.int .i64]], .sl [.int .i64]]), (true, [.sl [.int .i64], .sl [.sl [.int .i64, .int .i64, .int .i64, .int .i64, .int .i64]]])]) table_ok (T_laws_FnExactStateLoss) started own (by kernel_rfl) Try.func8
    (ChangeSpec.witness6 (enc := enc) (C := Try.checked) false ⟨#[], #[.agg #[.slice none 0 0, .string ⟨#[]⟩, .slice none 0 0, .slice none 0 0], .agg #[.slice none 0 0, .slice none 0 0]], []⟩ 8 (by kernel_rfl) (by kernel_rfl) (by kernel_rfl) (by kernel_rfl))
    (by kernel_rfl) rfl (fun ds h => by match ds, h with | [d0, d1], _ => rfl) rfl rfl (by kernel_rfl) (of_all (by kernel_rfl))
    (fun pvs hp => by
      obtain ⟨a, b, rfl, h1, h2⟩ := args2 hp
      obtain ⟨t, rfl, ht, h3⟩ := shp_table h1
      obtain ⟨s, rfl, hs, h4⟩ := shp_state h2
      exact law_FnExactStateLoss t s ht hs h3 h4)
theorem over : Rows.fnExactStateLossRow.holds Try.pinned (OpenSpec.ofChange Rows.fnExactStateLossSpec) :=
  OpenClaim.holds_of_wide 8 Try.f8 rfl rfl rfl rfl rfl rfl rfl ⟨rfl, rfl, rfl, rfl, rfl⟩ rfl rfl rfl rfl rfl (by kernel_rfl) Try.func8 (by kernel_rfl)
    (of_decide_eq_true (by kernel_rfl)) (by unfold Func.isWrapper; first | (rw [if_pos (by decide +kernel)]; kernel_rfl) | (rw [if_neg (by decide +kernel)]; exact ⟨rfl, rfl⟩))
    (fun os started H enc _ => lifted os started H enc)
end Go.Proofs.Ytoilifakgbifmaa.fnExactStateLoss
namespace Go.Proofs.Ytoilifakgbifmaa
/-- The row. -/
theorem fnExactStateLoss_holds : Rows.FnExactStateLossSaid := fnExactStateLoss.over
#print axioms fnExactStateLoss_holds
end Go.Proofs.Ytoilifakgbifmaa
