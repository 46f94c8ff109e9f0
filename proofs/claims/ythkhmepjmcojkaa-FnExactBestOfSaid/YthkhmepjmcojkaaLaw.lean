/- The law: for every input that the row lets in the call returns true, and what came in reads as it did; no condition beyond the row. -/
import Derived.Test.YthkhmepjmcojkaaRows
import Derived.Test.YthkhmepjmcojkaaOk
import Derived.Test.YthkhmepjmcojkaaC0
import Derived.WalkKit
import Derived.ProofKit
import Derived.OpenShut
import Derived.ShutString
import Derived.ChangeOld
import Derived.Below
import Derived.SizedLaws
set_option linter.all false
/-! The law FnExactBestOf returns true: the program's BestOf returns what the reference's returns. -/
namespace Go.Proofs.Ythkhmepjmcojkaa.fnExactBestOf
open Go Go.Pe
theorem own : ownKnob Try.prog.godebug = none := by kernel_rfl
set_option maxRecDepth 100000 in
theorem lifted (os : Os) (started : os.Started) (H : Type) (enc : TypeId × Value → H) :
    ReturnsInHanded {} Try.checked os 4 .any (Rows.fnExactBestOfSpec.pre6 enc Try.prog Try.f4 Rows.fnExactBestOfRow.domain false) (Rows.fnExactBestOfSpec.post enc Try.prog Try.f4 false true false false) :=
  law_lifted (C := Try.checked) (ptys := [(true, [.int .i64, .int .i64, .int .i64, .int .i64, .int .i64, .int .i64, .int .i64, .sl [.int .i64]]), (true, [.int .i64, .int .i64]), (false, [.sl [.int .i64, .int .i64, .int .i64, .int .i64, .int .i64, .int .i64]])]) table_ok (T_laws_FnExactBestOf) started own (by kernel_rfl) Try.func4
    (ChangeSpec.witness6 (enc := enc) (C := Try.checked) false ⟨#[], #[.agg #[.int .i64 0, .int .i64 0, .int .i64 0, .int .i64 0, .int .i64 0, .int .i64 0, .int .i64 0, .slice none 0 0], .agg #[.int .i64 0, .int .i64 0], .slice none 0 0], []⟩ 8 (by kernel_rfl) (by kernel_rfl) (by kernel_rfl) (by kernel_rfl))
    (by kernel_rfl) rfl (fun ds h => by match ds, h with | [d0, d1, d2], _ => rfl) rfl rfl (by kernel_rfl) (of_all (by kernel_rfl))
    (fun pvs hp => by
      obtain ⟨a, b, d, rfl, h1, h2, h3⟩ := args3 hp
      obtain ⟨c, rfl, hc, _⟩ := shp_cfg h1
      obtain ⟨bd, rfl⟩ := shp_bnd h2
      obtain ⟨l, rfl, hl, hi⟩ := shp_cnds h3
      exact law_FnExactBestOf c bd l hc hl hi)
theorem over : Rows.fnExactBestOfRow.holds Try.pinned (OpenSpec.ofChange Rows.fnExactBestOfSpec) :=
  OpenClaim.holds_of_wide 4 Try.f4 rfl rfl rfl rfl rfl rfl rfl ⟨rfl, rfl, rfl, rfl, rfl⟩ rfl rfl rfl rfl rfl (by kernel_rfl) Try.func4 (by kernel_rfl)
    (of_decide_eq_true (by kernel_rfl)) (by unfold Func.isWrapper; first | (rw [if_pos (by decide +kernel)]; kernel_rfl) | (rw [if_neg (by decide +kernel)]; exact ⟨rfl, rfl⟩))
    (fun os started H enc _ => lifted os started H enc)
end Go.Proofs.Ythkhmepjmcojkaa.fnExactBestOf
namespace Go.Proofs.Ythkhmepjmcojkaa
/-- The row. -/
theorem fnExactBestOf_holds : Rows.FnExactBestOfSaid := fnExactBestOf.over
#print axioms fnExactBestOf_holds
end Go.Proofs.Ythkhmepjmcojkaa
