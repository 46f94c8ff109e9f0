/- The law: for every input that the row lets in the call returns true, and what came in reads as it did; no condition beyond the row. -/
import Derived.Test.YtcpfnjbfkjkanaaRows
import Derived.Test.YtcpfnjbfkjkanaaOk
import Derived.Test.YtcpfnjbfkjkanaaC0
import Derived.WalkKit
import Derived.ProofKit
import Derived.OpenShut
import Derived.ShutString
import Derived.ChangeOld
import Derived.Below
import Derived.SizedLaws
set_option linter.all false
/-! The law FnExactSameTree returns true: the program's SameTree returns what the reference's returns. -/
namespace Go.Proofs.Ytcpfnjbfkjkanaa.fnExactSameTree
open Go Go.Pe
theorem own : ownKnob Try.prog.godebug = none := by kernel_rfl
set_option maxRecDepth 100000 in
theorem lifted (os : Os) (started : os.Started) (H : Type) (enc : TypeId × Value → H) :
    ReturnsInHanded {} Try.checked os 8 .any (Rows.fnExactSameTreeSpec.pre6 enc Try.prog Try.f8 Rows.fnExactSameTreeRow.domain false) (Rows.fnExactSameTreeSpec.post enc Try.prog Try.f8 false true false false) :=
  law_lifted (C := Try.checked) (ptys := [(true, [.sl [.int .i64, .int .i64, .int .i64, .int .i64, .int .i64]]), (true, [.sl [.int .i64, .int .i64, .int .i64, .int .i64, .int .i64]])]) table_ok (T_laws_FnExactSameTree) started own (by kernel_rfl) Try.func8
    (ChangeSpec.witness6 (enc := enc) (C := Try.checked) false ⟨#[], #[.agg #[.slice none 0 0], .agg #[.slice none 0 0]], []⟩ 8 (by kernel_rfl) (by kernel_rfl) (by kernel_rfl) (by kernel_rfl))
    (by kernel_rfl) rfl (fun ds h => by match ds, h with | [d0, d1], _ => rfl) rfl rfl (by kernel_rfl) (of_all (by kernel_rfl))
    (fun pvs hp => by
      obtain ⟨a, b, rfl, h1, h2⟩ := args2 hp
      obtain ⟨t, rfl, ht, _⟩ := shp_tree h1
      obtain ⟨u, rfl, hu, _⟩ := shp_tree h2
      exact law_FnExactSameTree t u ht hu)
theorem over : Rows.fnExactSameTreeRow.holds Try.pinned (OpenSpec.ofChange Rows.fnExactSameTreeSpec) :=
  OpenClaim.holds_of_wide 8 Try.f8 rfl rfl rfl rfl rfl rfl rfl ⟨rfl, rfl, rfl, rfl, rfl⟩ rfl rfl rfl rfl rfl (by kernel_rfl) Try.func8 (by kernel_rfl)
    (of_decide_eq_true (by kernel_rfl)) (by unfold Func.isWrapper; first | (rw [if_pos (by decide +kernel)]; kernel_rfl) | (rw [if_neg (by decide +kernel)]; exact ⟨rfl, rfl⟩))
    (fun os started H enc _ => lifted os started H enc)
end Go.Proofs.Ytcpfnjbfkjkanaa.fnExactSameTree
namespace Go.Proofs.Ytcpfnjbfkjkanaa
/-- The row. -/
theorem fnExactSameTree_holds : Rows.FnExactSameTreeSaid := fnExactSameTree.over
#print axioms fnExactSameTree_holds
end Go.Proofs.Ytcpfnjbfkjkanaa
