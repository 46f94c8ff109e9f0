/- The law: for every input that the row lets in the call returns true, and what came in reads as it did; no condition beyond the row. -/
import Derived.Test.YthkhmepjmcojkaaGreatRows
import Derived.Test.YthkhmepjmcojkaaGreatOk
import Derived.Test.YthkhmepjmcojkaaGreatC0
import Derived.WalkKit
import Derived.ProofKit
import Derived.OpenShut
import Derived.ShutString
import Derived.ChangeOld
import Derived.Below
import Derived.SizedLaws
set_option linter.all false
/-! The law FnExactPartOf returns true: the program's PartOf returns what the reference's returns. -/
namespace Go.Proofs.YthkhmepjmcojkaaGreat.fnExactPartOf
open Go Go.Pe
theorem own : ownKnob Tryz.prog.godebug = none := by kernel_rfl
set_option maxRecDepth 100000 in
theorem lifted (os : Os) (started : os.Started) (H : Type) (enc : TypeId × Value → H) :
    ReturnsInHanded {} Tryz.checked os 7 .any (Rows.fnExactPartOfSpec.pre6 enc Tryz.prog Tryz.f7 Rows.fnExactPartOfRow.domain false) (Rows.fnExactPartOfSpec.post enc Tryz.prog Tryz.f7 false true false false) :=
  law_lifted (C := Tryz.checked) (ptys := [(true, [.sl [.sl [.int .i64]], .sl [.sl [.int .i64]]]), (false, [.sl [.int .i64]]), (true, [.int .i64, .int .i64, .int .i64, .int .i64, .int .i64, .int .i64, .int .i64, .sl [.int .i64]]), (false, [.sl [.int .i64]]), (true, [.int .i64, .int .i64])]) table_ok (T_laws_FnExactPartOf) started own (by kernel_rfl) Tryz.func7
    (ChangeSpec.witness6 (enc := enc) (C := Tryz.checked) false ⟨#[], #[.agg #[.slice none 0 0, .slice none 0 0], .slice none 0 0, .agg #[.int .i64 0, .int .i64 0, .int .i64 0, .int .i64 0, .int .i64 0, .int .i64 0, .int .i64 0, .slice none 0 0], .slice none 0 0, .agg #[.int .i64 0, .int .i64 0]], []⟩ 8 (by kernel_rfl) (by kernel_rfl) (by kernel_rfl) (by kernel_rfl))
    (by kernel_rfl) rfl (fun ds h => by match ds, h with | [d0, d1, d2, d3, d4], _ => rfl) rfl rfl (by kernel_rfl) (of_all (by kernel_rfl))
    (fun pvs hp => by
      obtain ⟨a, b, d, e, f, rfl, h1, h2, h3, h4, h5⟩ := args5 hp
      obtain ⟨c, v, rfl, hcl, hvl, hc, hv⟩ := shp_grid h1
      obtain ⟨g, rfl, hg, hgi⟩ := shp_ints h2
      obtain ⟨cfg, rfl, hcf, _⟩ := shp_cfg h3
      obtain ⟨rows, rfl, hr, _⟩ := shp_ints h4
      obtain ⟨bd, rfl⟩ := shp_bnd h5
      exact law_FnExactPartOf c v g cfg rows bd hcl hvl hc hv hg hr hgi hcf)
theorem over : Rows.fnExactPartOfRow.holds Tryz.pinned (OpenSpec.ofChange Rows.fnExactPartOfSpec) :=
  OpenClaim.holds_of_wide 7 Tryz.f7 rfl rfl rfl rfl rfl rfl rfl ⟨rfl, rfl, rfl, rfl, rfl⟩ rfl rfl rfl rfl rfl (by kernel_rfl) Tryz.func7 (by kernel_rfl)
    (of_decide_eq_true (by kernel_rfl)) (by unfold Func.isWrapper; first | (rw [if_pos (by decide +kernel)]; kernel_rfl) | (rw [if_neg (by decide +kernel)]; exact ⟨rfl, rfl⟩))
    (fun os started H enc _ => lifted os started H enc)
end Go.Proofs.YthkhmepjmcojkaaGreat.fnExactPartOf
namespace Go.Proofs.YthkhmepjmcojkaaGreat
/-- The row. -/
theorem fnExactPartOf_holds : Rows.FnExactPartOfSaid := fnExactPartOf.over
#print axioms fnExactPartOf_holds
end Go.Proofs.YthkhmepjmcojkaaGreat
