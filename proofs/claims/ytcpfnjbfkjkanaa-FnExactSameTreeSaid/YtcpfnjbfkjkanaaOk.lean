/- Each compact text is its function of the program (table_ok); no condition. -/
import Derived.Test.YtcpfnjbfkjkanaaRows
import Derived.Test.YtcpfnjbfkjkanaaK0
import Derived.Test.YtcpfnjbfkjkanaaEvB2
import Derived.KernelRfl
set_option linter.all false
namespace Go.Pe
open Go Go.Proofs
theorem ok_laws_FnExactSameTree : EntryOk Try.prog k_laws_FnExactSameTree (fnOf k_laws_FnExactSameTree_ic k_laws_FnExactSameTree_rv []) := ⟨_, _, k_laws_FnExactSameTree_vars, Try.func8, rfl, by kernel_rfl, by kernel_rfl, by kernel_rfl⟩
theorem ok_laws_eqTree : EntryOk Try.prog k_laws_eqTree (fnOf k_laws_eqTree_ic k_laws_eqTree_rv []) := ⟨_, _, k_laws_eqTree_vars, Try.func26, rfl, by kernel_rfl, by kernel_rfl, by kernel_rfl⟩
theorem ok_laws_szTree : EntryOk Try.prog k_laws_szTree (fnOf k_laws_szTree_ic k_laws_szTree_rv []) := ⟨_, _, k_laws_szTree_vars, Try.func29, rfl, by kernel_rfl, by kernel_rfl, by kernel_rfl⟩
theorem ok_spec_SameTree : EntryOk Try.prog k_spec_SameTree (fnOf k_spec_SameTree_ic k_spec_SameTree_rv []) := ⟨_, _, k_spec_SameTree_vars, Try.func30, rfl, by kernel_rfl, by kernel_rfl, by kernel_rfl⟩
theorem ok_laws_toTree : EntryOk Try.prog k_laws_toTree (fnOf k_laws_toTree_ic k_laws_toTree_rv []) := ⟨_, _, k_laws_toTree_vars, Try.func31, rfl, by kernel_rfl, by kernel_rfl, by kernel_rfl⟩
theorem ok_impl_SameTree : EntryOk Try.prog k_impl_SameTree (fnOf k_impl_SameTree_ic k_impl_SameTree_rv []) := ⟨_, _, k_impl_SameTree_vars, Try.func32, rfl, by kernel_rfl, by kernel_rfl, by kernel_rfl⟩
theorem ok_laws_eqNodeS : EntryOk Try.prog k_laws_eqNodeS (fnOf k_laws_eqNodeS_ic k_laws_eqNodeS_rv []) := ⟨_, _, k_laws_eqNodeS_vars, Try.func45, rfl, by kernel_rfl, by kernel_rfl, by kernel_rfl⟩
theorem ok_laws_szNodeS : EntryOk Try.prog k_laws_szNodeS (fnOf k_laws_szNodeS_ic k_laws_szNodeS_rv []) := ⟨_, _, k_laws_szNodeS_vars, Try.func48, rfl, by kernel_rfl, by kernel_rfl, by kernel_rfl⟩
theorem ok_laws_toNodeS : EntryOk Try.prog k_laws_toNodeS (fnOf k_laws_toNodeS_ic k_laws_toNodeS_rv []) := ⟨_, _, k_laws_toNodeS_vars, Try.func49, rfl, by kernel_rfl, by kernel_rfl, by kernel_rfl⟩
theorem ok_slices_Equal___impl_Node_impl_Node_ : EntryOk Try.prog k_slices_Equal___impl_Node_impl_Node_ (fnOf k_slices_Equal___impl_Node_impl_Node__ic k_slices_Equal___impl_Node_impl_Node__rv []) := ⟨_, _, k_slices_Equal___impl_Node_impl_Node__vars, Try.func50, rfl, by kernel_rfl, by kernel_rfl, by kernel_rfl⟩
theorem ok_laws_eqNode : EntryOk Try.prog k_laws_eqNode (fnOf k_laws_eqNode_ic k_laws_eqNode_rv []) := ⟨_, _, k_laws_eqNode_vars, Try.func51, rfl, by kernel_rfl, by kernel_rfl, by kernel_rfl⟩
theorem ok_laws_toNode : EntryOk Try.prog k_laws_toNode (fnOf k_laws_toNode_ic k_laws_toNode_rv []) := ⟨_, _, k_laws_toNode_vars, Try.func52, rfl, by kernel_rfl, by kernel_rfl, by kernel_rfl⟩
theorem table_ok : TableOk Try.prog T := by
  refine tableOk_of ?_
  simp only [tbl, List.forall_mem_cons, List.not_mem_nil, false_imp_iff, implies_true, and_true]
  exact ⟨ok_laws_FnExactSameTree, ok_laws_eqTree, ok_laws_szTree, ok_spec_SameTree, ok_laws_toTree, ok_impl_SameTree, ok_laws_eqNodeS, ok_laws_szNodeS, ok_laws_toNodeS, ok_slices_Equal___impl_Node_impl_Node_, ok_laws_eqNode, ok_laws_toNode⟩
end Go.Pe
