/- The law: for every input that the row lets in the call returns true, and what came in reads as it did; no condition beyond the row. -/
import Derived.Test.YthkhmepjmcojkaaGreatRows
import Derived.Test.YthkhmepjmcojkaaGreatOk
import Derived.Test.YthkhmepjmcojkaaGreatC0
import Derived.WalkKit
import Derived.ProofKit
import Derived.OpenShut
import Derived.ShutString
import Derived.ChangeOld
import Derived.Below
import Derived.SizedLaws
set_option linter.all false
/-! The law FnExactModelFrom returns true: the program's ModelFrom returns what the reference's returns. -/
namespace Go.Proofs.YthkhmepjmcojkaaGreat.fnExactModelFrom
open Go Go.Pe
theorem own : ownKnob Tryz.prog.godebug = none := by kernel_rfl
set_option maxRecDepth 100000 in
theorem lifted (os : Os) (started : os.Started) (H : Type) (enc : TypeId × Value → H) :
    ReturnsInHanded {} Tryz.checked os 5 .any (Rows.fnExactModelFromSpec.pre6 enc Tryz.prog Tryz.f5 Rows.fnExactModelFromRow.domain false) (Rows.fnExactModelFromSpec.post enc Tryz.prog Tryz.f5 false true false false) :=
  law_lifted (C := Tryz.checked) (ptys := [(true, [.sl [.str], .str, .sl [.sl [.int .i64]], .sl [.int .i64]]), (true, [.int .i64, .int .i64, .int .i64, .int .i64, .int .i64, .int .i64, .int .i64, .sl [.int .i64]]), (true, [.sl [.int .i64], .sl [.sl [.int .i64, .int .i64, .int .i64, .int .i64, .int .i64]]])]) table_ok (T_laws_FnExactModelFrom) started own (by kernel_rfl) Tryz.func5
    (ChangeSpec.witness6 (enc := enc) (C := Tryz.checked) false ⟨#[], #[.agg #[.slice none 0 0, .string ⟨#[]⟩, .slice none 0 0, .slice none 0 0], .agg #[.int .i64 0, .int .i64 0, .int .i64 0, .int .i64 0, .int .i64 0, .int .i64 0, .int .i64 0, .slice none 0 0], .agg #[.slice none 0 0, .slice none 0 0]], []⟩ 8 (by kernel_rfl) (by kernel_rfl) (by kernel_rfl) (by kernel_rfl))
    (by kernel_rfl) rfl (fun ds h => by match ds, h with | [d0, d1, d2], _ => rfl) rfl rfl (by kernel_rfl) (of_all (by kernel_rfl))
    (fun pvs hp => by
      obtain ⟨a, b, d, rfl, h1, h2, h3⟩ := args3 hp
      obtain ⟨t, rfl, ht, h4⟩ := shp_table h1
      obtain ⟨c, rfl, hc, _⟩ := shp_cfg h2
      obtain ⟨s, rfl, hs, _⟩ := shp_state h3
      exact law_FnExactModelFrom t c s ht hc hs h4)
theorem over : Rows.fnExactModelFromRow.holds Tryz.pinned (OpenSpec.ofChange Rows.fnExactModelFromSpec) :=
  OpenClaim.holds_of_wide 5 Tryz.f5 rfl rfl rfl rfl rfl rfl rfl ⟨rfl, rfl, rfl, rfl, rfl⟩ rfl rfl rfl rfl rfl (by kernel_rfl) Tryz.func5 (by kernel_rfl)
    (of_decide_eq_true (by kernel_rfl)) (by unfold Func.isWrapper; first | (rw [if_pos (by decide +kernel)]; kernel_rfl) | (rw [if_neg (by decide +kernel)]; exact ⟨rfl, rfl⟩))
    (fun os started H enc _ => lifted os started H enc)
end Go.Proofs.YthkhmepjmcojkaaGreat.fnExactModelFrom
namespace Go.Proofs.YthkhmepjmcojkaaGreat
/-- The row. -/
theorem fnExactModelFrom_holds : Rows.FnExactModelFromSaid := fnExactModelFrom.over
#print axioms fnExactModelFrom_holds
end Go.Proofs.YthkhmepjmcojkaaGreat
