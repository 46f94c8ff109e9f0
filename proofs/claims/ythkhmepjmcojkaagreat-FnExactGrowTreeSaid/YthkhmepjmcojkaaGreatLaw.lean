/- The law: for every input that the row lets in the call returns true, and what came in reads as it did; no condition beyond the row. -/
import Derived.Test.YthkhmepjmcojkaaGreatRows
import Derived.Test.YthkhmepjmcojkaaGreatOk
import Derived.Test.YthkhmepjmcojkaaGreatC1
import Derived.WalkKit
import Derived.ProofKit
import Derived.OpenShut
import Derived.ShutString
import Derived.ChangeOld
import Derived.Below
import Derived.SizedLaws
set_option linter.all false
/-! The law FnExactGrowTree returns true: the program's GrowTree returns what the reference's returns. -/
namespace Go.Proofs.YthkhmepjmcojkaaGreat.fnExactGrowTree
open Go Go.Pe
theorem own : ownKnob Tryz.prog.godebug = none := by kernel_rfl
set_option maxRecDepth 100000 in
theorem lifted (os : Os) (started : os.Started) (H : Type) (enc : TypeId × Value → H) :
    ReturnsInHanded {} Tryz.checked os 9 .any (Rows.fnExactGrowTreeSpec.pre6 enc Tryz.prog Tryz.f9 Rows.fnExactGrowTreeRow.domain false) (Rows.fnExactGrowTreeSpec.post enc Tryz.prog Tryz.f9 false true false false) :=
  law_lifted (C := Tryz.checked) (ptys := [(true, [.sl [.sl [.int .i64]], .sl [.sl [.int .i64]]]), (false, [.sl [.int .i64]]), (true, [.int .i64, .int .i64, .int .i64, .int .i64, .int .i64, .int .i64, .int .i64, .sl [.int .i64]])]) table_ok (T_laws_FnExactGrowTree) started own (by kernel_rfl) Tryz.func9
    (ChangeSpec.witness6 (enc := enc) (C := Tryz.checked) false ⟨#[], #[.agg #[.slice none 0 0, .slice none 0 0], .slice none 0 0, .agg #[.int .i64 0, .int .i64 0, .int .i64 0, .int .i64 0, .int .i64 0, .int .i64 0, .int .i64 0, .slice none 0 0]], []⟩ 8 (by kernel_rfl) (by kernel_rfl) (by kernel_rfl) (by kernel_rfl))
    (by kernel_rfl) rfl (fun ds h => by match ds, h with | [d0, d1, d2], _ => rfl) rfl rfl (by kernel_rfl) (of_all (by kernel_rfl))
    (fun pvs hp => by
      obtain ⟨a, b, d, rfl, h1, h2, h3⟩ := args3 hp
      obtain ⟨c, v, rfl, hcl, hvl, hc, hv⟩ := shp_grid h1
      obtain ⟨g, rfl, hg, hgi⟩ := shp_ints h2
      obtain ⟨cfg, rfl, hcf, _⟩ := shp_cfg h3
      exact law_FnExactGrowTree c v g cfg hcl hvl hc hv hg hgi hcf)
theorem over : Rows.fnExactGrowTreeRow.holds Tryz.pinned (OpenSpec.ofChange Rows.fnExactGrowTreeSpec) :=
  OpenClaim.holds_of_wide 9 Tryz.f9 rfl rfl rfl rfl rfl rfl rfl ⟨rfl, rfl, rfl, rfl, rfl⟩ rfl rfl rfl rfl rfl (by kernel_rfl) Tryz.func9 (by kernel_rfl)
    (of_decide_eq_true (by kernel_rfl)) (by unfold Func.isWrapper; first | (rw [if_pos (by decide +kernel)]; kernel_rfl) | (rw [if_neg (by decide +kernel)]; exact ⟨rfl, rfl⟩))
    (fun os started H enc _ => lifted os started H enc)
end Go.Proofs.YthkhmepjmcojkaaGreat.fnExactGrowTree
namespace Go.Proofs.YthkhmepjmcojkaaGreat
/-- The row. -/
theorem fnExactGrowTree_holds : Rows.FnExactGrowTreeSaid := fnExactGrowTree.over
#print axioms fnExactGrowTree_holds
end Go.Proofs.YthkhmepjmcojkaaGreat
