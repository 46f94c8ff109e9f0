/- Each compact text is its function of the program (table_ok); no condition. -/
import Derived.Test.YtnioodedhoccaaaRows
import Derived.Test.YtnioodedhoccaaaK0
import Derived.Test.YtnioodedhoccaaaEvB1
import Derived.KernelRfl
set_option linter.all false
namespace Go.Pe
open Go Go.Proofs
theorem ok_laws_FnExactEvalTree : EntryOk Try.prog k_laws_FnExactEvalTree (fnOf k_laws_FnExactEvalTree_ic k_laws_FnExactEvalTree_rv []) := ⟨_, _, k_laws_FnExactEvalTree_vars, Try.func8, rfl, by kernel_rfl, by kernel_rfl, by kernel_rfl⟩
theorem ok_laws_szTree : EntryOk Try.prog k_laws_szTree (fnOf k_laws_szTree_ic k_laws_szTree_rv []) := ⟨_, _, k_laws_szTree_vars, Try.func15, rfl, by kernel_rfl, by kernel_rfl, by kernel_rfl⟩
theorem ok_laws_toTree : EntryOk Try.prog k_laws_toTree (fnOf k_laws_toTree_ic k_laws_toTree_rv []) := ⟨_, _, k_laws_toTree_vars, Try.func17, rfl, by kernel_rfl, by kernel_rfl, by kernel_rfl⟩
theorem ok_laws_eqTree : EntryOk Try.prog k_laws_eqTree (fnOf k_laws_eqTree_ic k_laws_eqTree_rv []) := ⟨_, _, k_laws_eqTree_vars, Try.func19, rfl, by kernel_rfl, by kernel_rfl, by kernel_rfl⟩
theorem ok_laws_eqIntS : EntryOk Try.prog k_laws_eqIntS (fnOf k_laws_eqIntS_ic k_laws_eqIntS_rv []) := ⟨_, _, k_laws_eqIntS_vars, Try.func22, rfl, by kernel_rfl, by kernel_rfl, by kernel_rfl⟩
theorem ok_spec_RouteTo : EntryOk Try.prog k_spec_RouteTo (fnOf k_spec_RouteTo_ic k_spec_RouteTo_rv []) := ⟨_, _, k_spec_RouteTo_vars, Try.func33, rfl, by kernel_rfl, by kernel_rfl, by kernel_rfl⟩
theorem ok_laws_toIntS : EntryOk Try.prog k_laws_toIntS (fnOf k_laws_toIntS_ic k_laws_toIntS_rv []) := ⟨_, _, k_laws_toIntS_vars, Try.func34, rfl, by kernel_rfl, by kernel_rfl, by kernel_rfl⟩
theorem ok_impl_RouteTo : EntryOk Try.prog k_impl_RouteTo (fnOf k_impl_RouteTo_ic k_impl_RouteTo_rv []) := ⟨_, _, k_impl_RouteTo_vars, Try.func35, rfl, by kernel_rfl, by kernel_rfl, by kernel_rfl⟩
theorem ok_spec_EvalTree : EntryOk Try.prog k_spec_EvalTree (fnOf k_spec_EvalTree_ic k_spec_EvalTree_rv []) := ⟨_, _, k_spec_EvalTree_vars, Try.func36, rfl, by kernel_rfl, by kernel_rfl, by kernel_rfl⟩
theorem ok_impl_EvalTree : EntryOk Try.prog k_impl_EvalTree (fnOf k_impl_EvalTree_ic k_impl_EvalTree_rv []) := ⟨_, _, k_impl_EvalTree_vars, Try.func37, rfl, by kernel_rfl, by kernel_rfl, by kernel_rfl⟩
theorem ok_laws_szNodeS : EntryOk Try.prog k_laws_szNodeS (fnOf k_laws_szNodeS_ic k_laws_szNodeS_rv []) := ⟨_, _, k_laws_szNodeS_vars, Try.func59, rfl, by kernel_rfl, by kernel_rfl, by kernel_rfl⟩
theorem ok_spec_l1In : EntryOk Try.prog k_spec_l1In (fnOf k_spec_l1In_ic k_spec_l1In_rv []) := ⟨_, _, k_spec_l1In_vars, Try.func60, rfl, by kernel_rfl, by kernel_rfl, by kernel_rfl⟩
theorem ok_laws_toNodeS : EntryOk Try.prog k_laws_toNodeS (fnOf k_laws_toNodeS_ic k_laws_toNodeS_rv []) := ⟨_, _, k_laws_toNodeS_vars, Try.func62, rfl, by kernel_rfl, by kernel_rfl, by kernel_rfl⟩
theorem ok_laws_eqNodeS : EntryOk Try.prog k_laws_eqNodeS (fnOf k_laws_eqNodeS_ic k_laws_eqNodeS_rv []) := ⟨_, _, k_laws_eqNodeS_vars, Try.func64, rfl, by kernel_rfl, by kernel_rfl, by kernel_rfl⟩
theorem ok_spec_l17Inner : EntryOk Try.prog k_spec_l17Inner (fnOf k_spec_l17Inner_ic k_spec_l17Inner_rv []) := ⟨_, _, k_spec_l17Inner_vars, Try.func65, rfl, by kernel_rfl, by kernel_rfl, by kernel_rfl⟩
theorem ok_impl_isLeaf : EntryOk Try.prog k_impl_isLeaf (fnOf k_impl_isLeaf_ic k_impl_isLeaf_rv []) := ⟨_, _, k_impl_isLeaf_vars, Try.func66, rfl, by kernel_rfl, by kernel_rfl, by kernel_rfl⟩
theorem ok_spec_l18Way : EntryOk Try.prog k_spec_l18Way (fnOf k_spec_l18Way_ic k_spec_l18Way_rv []) := ⟨_, _, k_spec_l18Way_vars, Try.func76, rfl, by kernel_rfl, by kernel_rfl, by kernel_rfl⟩
theorem ok_impl_route : EntryOk Try.prog k_impl_route (fnOf k_impl_route_ic k_impl_route_rv []) := ⟨_, _, k_impl_route_vars, Try.func77, rfl, by kernel_rfl, by kernel_rfl, by kernel_rfl⟩
theorem ok_impl_within : EntryOk Try.prog k_impl_within (fnOf k_impl_within_ic k_impl_within_rv []) := ⟨_, _, k_impl_within_vars, Try.func89, rfl, by kernel_rfl, by kernel_rfl, by kernel_rfl⟩
theorem ok_laws_toNode : EntryOk Try.prog k_laws_toNode (fnOf k_laws_toNode_ic k_laws_toNode_rv []) := ⟨_, _, k_laws_toNode_vars, Try.func100, rfl, by kernel_rfl, by kernel_rfl, by kernel_rfl⟩
theorem ok_laws_eqNode : EntryOk Try.prog k_laws_eqNode (fnOf k_laws_eqNode_ic k_laws_eqNode_rv []) := ⟨_, _, k_laws_eqNode_vars, Try.func103, rfl, by kernel_rfl, by kernel_rfl, by kernel_rfl⟩
theorem table_ok : TableOk Try.prog T := by
  refine tableOk_of ?_
  simp only [tbl, List.forall_mem_cons, List.not_mem_nil, false_imp_iff, implies_true, and_true]
  exact ⟨ok_laws_FnExactEvalTree, ok_laws_szTree, ok_laws_toTree, ok_laws_eqTree, ok_laws_eqIntS, ok_spec_RouteTo, ok_laws_toIntS, ok_impl_RouteTo, ok_spec_EvalTree, ok_impl_EvalTree, ok_laws_szNodeS, ok_spec_l1In, ok_laws_toNodeS, ok_laws_eqNodeS, ok_spec_l17Inner, ok_impl_isLeaf, ok_spec_l18Way, ok_impl_route, ok_impl_within, ok_laws_toNode, ok_laws_eqNode⟩
end Go.Pe
