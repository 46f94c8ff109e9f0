/- The law: for every input that the row lets in the call returns true, and what came in reads as it did; no condition beyond the row. -/
import Derived.Test.YtoilifakgbifmaaRows
import Derived.Test.YtoilifakgbifmaaOk
import Derived.Test.YtoilifakgbifmaaC0
import Derived.WalkKit
import Derived.ProofKit
import Derived.OpenShut
import Derived.ShutString
import Derived.ChangeOld
import Derived.Below
import Derived.SizedLaws
set_option linter.all false
/-! The law FnExactNodeHists returns true: the program's NodeHists returns what the reference's returns. -/
namespace Go.Proofs.Ytoilifakgbifmaa.fnExactNodeHists
open Go Go.Pe
theorem own : ownKnob Try.prog.godebug = none := by kernel_rfl
set_option maxRecDepth 100000 in
theorem lifted (os : Os) (started : os.Started) (H : Type) (enc : TypeId × Value → H) :
    ReturnsInHanded {} Try.checked os 5 .any (Rows.fnExactNodeHistsSpec.pre6 enc Try.prog Try.f5 Rows.fnExactNodeHistsRow.domain false) (Rows.fnExactNodeHistsSpec.post enc Try.prog Try.f5 false true false false) :=
  law_lifted (C := Try.checked) (ptys := [(true, [.sl [.sl [.int .i64]], .sl [.sl [.int .i64]]]), (false, [.sl [.int .i64]]), (false, [.sl [.int .i64]])]) table_ok (T_laws_FnExactNodeHists) started own (by kernel_rfl) Try.func5
    (ChangeSpec.witness6 (enc := enc) (C := Try.checked) false ⟨#[], #[.agg #[.slice none 0 0, .slice none 0 0], .slice none 0 0, .slice none 0 0], []⟩ 8 (by kernel_rfl) (by kernel_rfl) (by kernel_rfl) (by kernel_rfl))
    (by kernel_rfl) rfl (fun ds h => by match ds, h with | [d0, d1, d2], _ => rfl) rfl rfl (by kernel_rfl) (of_all (by kernel_rfl))
    (fun pvs hp => by
      obtain ⟨a, b, d, rfl, h1, h2, h3⟩ := args3 hp
      obtain ⟨c, v, rfl, hcl, hvl, hc, hv⟩ := shp_grid h1
      obtain ⟨g, rfl, hg, hgi⟩ := shp_ints h2
      obtain ⟨rows, rfl, hr, _⟩ := shp_ints h3
      exact law_FnExactNodeHists c v g rows hcl hvl hc hv hg hr hgi)
theorem over : Rows.fnExactNodeHistsRow.holds Try.pinned (OpenSpec.ofChange Rows.fnExactNodeHistsSpec) :=
  OpenClaim.holds_of_wide 5 Try.f5 rfl rfl rfl rfl rfl rfl rfl ⟨rfl, rfl, rfl, rfl, rfl⟩ rfl rfl rfl rfl rfl (by kernel_rfl) Try.func5 (by kernel_rfl)
    (of_decide_eq_true (by kernel_rfl)) (by unfold Func.isWrapper; first | (rw [if_pos (by decide +kernel)]; kernel_rfl) | (rw [if_neg (by decide +kernel)]; exact ⟨rfl, rfl⟩))
    (fun os started H enc _ => lifted os started H enc)
end Go.Proofs.Ytoilifakgbifmaa.fnExactNodeHists
namespace Go.Proofs.Ytoilifakgbifmaa
/-- The row. -/
theorem fnExactNodeHists_holds : Rows.FnExactNodeHistsSaid := fnExactNodeHists.over
#print axioms fnExactNodeHists_holds
end Go.Proofs.Ytoilifakgbifmaa
