/- Each compact text is its function of the program (table_ok); no condition. -/
import Derived.Test.YtnioodedhoccaaaRows
import Derived.Test.YtnioodedhoccaaaK0
import Derived.Test.YtnioodedhoccaaaEvB1
import Derived.KernelRfl
set_option linter.all false
namespace Go.Pe
open Go Go.Proofs
theorem ok_laws_FnExactBoxOf : EntryOk Try.prog k_laws_FnExactBoxOf (fnOf k_laws_FnExactBoxOf_ic k_laws_FnExactBoxOf_rv []) := ⟨_, _, k_laws_FnExactBoxOf_vars, Try.func9, rfl, by kernel_rfl, by kernel_rfl, by kernel_rfl⟩
theorem ok_laws_szTree : EntryOk Try.prog k_laws_szTree (fnOf k_laws_szTree_ic k_laws_szTree_rv []) := ⟨_, _, k_laws_szTree_vars, Try.func15, rfl, by kernel_rfl, by kernel_rfl, by kernel_rfl⟩
theorem ok_spec_LevelOf : EntryOk Try.prog k_spec_LevelOf (fnOf k_spec_LevelOf_ic k_spec_LevelOf_rv []) := ⟨_, _, k_spec_LevelOf_vars, Try.func16, rfl, by kernel_rfl, by kernel_rfl, by kernel_rfl⟩
theorem ok_laws_toTree : EntryOk Try.prog k_laws_toTree (fnOf k_laws_toTree_ic k_laws_toTree_rv []) := ⟨_, _, k_laws_toTree_vars, Try.func17, rfl, by kernel_rfl, by kernel_rfl, by kernel_rfl⟩
theorem ok_laws_eqTree : EntryOk Try.prog k_laws_eqTree (fnOf k_laws_eqTree_ic k_laws_eqTree_rv []) := ⟨_, _, k_laws_eqTree_vars, Try.func19, rfl, by kernel_rfl, by kernel_rfl, by kernel_rfl⟩
theorem ok_spec_BoxOf : EntryOk Try.prog k_spec_BoxOf (fnOf k_spec_BoxOf_ic k_spec_BoxOf_rv []) := ⟨_, _, k_spec_BoxOf_vars, Try.func38, rfl, by kernel_rfl, by kernel_rfl, by kernel_rfl⟩
theorem ok_impl_BoxOf : EntryOk Try.prog k_impl_BoxOf (fnOf k_impl_BoxOf_ic k_impl_BoxOf_rv []) := ⟨_, _, k_impl_BoxOf_vars, Try.func39, rfl, by kernel_rfl, by kernel_rfl, by kernel_rfl⟩
theorem ok_spec_WayTo : EntryOk Try.prog k_spec_WayTo (fnOf k_spec_WayTo_ic k_spec_WayTo_rv []) := ⟨_, _, k_spec_WayTo_vars, Try.func40, rfl, by kernel_rfl, by kernel_rfl, by kernel_rfl⟩
theorem ok_laws_szNodeS : EntryOk Try.prog k_laws_szNodeS (fnOf k_laws_szNodeS_ic k_laws_szNodeS_rv []) := ⟨_, _, k_laws_szNodeS_vars, Try.func59, rfl, by kernel_rfl, by kernel_rfl, by kernel_rfl⟩
theorem ok_spec_l1In : EntryOk Try.prog k_spec_l1In (fnOf k_spec_l1In_ic k_spec_l1In_rv []) := ⟨_, _, k_spec_l1In_vars, Try.func60, rfl, by kernel_rfl, by kernel_rfl, by kernel_rfl⟩
theorem ok_spec_l17Up : EntryOk Try.prog k_spec_l17Up (fnOf k_spec_l17Up_ic k_spec_l17Up_rv []) := ⟨_, _, k_spec_l17Up_vars, Try.func61, rfl, by kernel_rfl, by kernel_rfl, by kernel_rfl⟩
theorem ok_laws_toNodeS : EntryOk Try.prog k_laws_toNodeS (fnOf k_laws_toNodeS_ic k_laws_toNodeS_rv []) := ⟨_, _, k_laws_toNodeS_vars, Try.func62, rfl, by kernel_rfl, by kernel_rfl, by kernel_rfl⟩
theorem ok_impl_wayTo : EntryOk Try.prog k_impl_wayTo (fnOf k_impl_wayTo_ic k_impl_wayTo_rv []) := ⟨_, _, k_impl_wayTo_vars, Try.func63, rfl, by kernel_rfl, by kernel_rfl, by kernel_rfl⟩
theorem ok_laws_eqNodeS : EntryOk Try.prog k_laws_eqNodeS (fnOf k_laws_eqNodeS_ic k_laws_eqNodeS_rv []) := ⟨_, _, k_laws_eqNodeS_vars, Try.func64, rfl, by kernel_rfl, by kernel_rfl, by kernel_rfl⟩
theorem ok_spec_l17Inner : EntryOk Try.prog k_spec_l17Inner (fnOf k_spec_l17Inner_ic k_spec_l17Inner_rv []) := ⟨_, _, k_spec_l17Inner_vars, Try.func65, rfl, by kernel_rfl, by kernel_rfl, by kernel_rfl⟩
theorem ok_impl_isLeaf : EntryOk Try.prog k_impl_isLeaf (fnOf k_impl_isLeaf_ic k_impl_isLeaf_rv []) := ⟨_, _, k_impl_isLeaf_vars, Try.func66, rfl, by kernel_rfl, by kernel_rfl, by kernel_rfl⟩
theorem ok_spec_l1Max : EntryOk Try.prog k_spec_l1Max (fnOf k_spec_l1Max_ic k_spec_l1Max_rv []) := ⟨_, _, k_spec_l1Max_vars, Try.func75, rfl, by kernel_rfl, by kernel_rfl, by kernel_rfl⟩
theorem ok_spec_l1Min : EntryOk Try.prog k_spec_l1Min (fnOf k_spec_l1Min_ic k_spec_l1Min_rv []) := ⟨_, _, k_spec_l1Min_vars, Try.func78, rfl, by kernel_rfl, by kernel_rfl, by kernel_rfl⟩
theorem ok_impl_within : EntryOk Try.prog k_impl_within (fnOf k_impl_within_ic k_impl_within_rv []) := ⟨_, _, k_impl_within_vars, Try.func89, rfl, by kernel_rfl, by kernel_rfl, by kernel_rfl⟩
theorem ok_laws_toNode : EntryOk Try.prog k_laws_toNode (fnOf k_laws_toNode_ic k_laws_toNode_rv []) := ⟨_, _, k_laws_toNode_vars, Try.func100, rfl, by kernel_rfl, by kernel_rfl, by kernel_rfl⟩
theorem ok_impl_parent : EntryOk Try.prog k_impl_parent (fnOf k_impl_parent_ic k_impl_parent_rv []) := ⟨_, _, k_impl_parent_vars, Try.func101, rfl, by kernel_rfl, by kernel_rfl, by kernel_rfl⟩
theorem ok_slices_Reverse___int_int_ : EntryOk Try.prog k_slices_Reverse___int_int_ (fnOf k_slices_Reverse___int_int__ic k_slices_Reverse___int_int__rv [true]) := ⟨_, _, k_slices_Reverse___int_int__vars, Try.func102, rfl, by kernel_rfl, by kernel_rfl, by kernel_rfl⟩
theorem ok_laws_eqNode : EntryOk Try.prog k_laws_eqNode (fnOf k_laws_eqNode_ic k_laws_eqNode_rv []) := ⟨_, _, k_laws_eqNode_vars, Try.func103, rfl, by kernel_rfl, by kernel_rfl, by kernel_rfl⟩
theorem ok_slices_IndexFunc___impl_Node_impl_Node_ : EntryOk Try.prog k_slices_IndexFunc___impl_Node_impl_Node_ (fnOf k_slices_IndexFunc___impl_Node_impl_Node__ic k_slices_IndexFunc___impl_Node_impl_Node__rv []) := ⟨_, _, k_slices_IndexFunc___impl_Node_impl_Node__vars, Try.func115, rfl, by kernel_rfl, by kernel_rfl, by kernel_rfl⟩
theorem ok_impl_parent_1 : EntryOk Try.prog k_impl_parent_1 (fnOf k_impl_parent_1_ic k_impl_parent_1_rv []) := ⟨_, _, k_impl_parent_1_vars, Try.func116, rfl, by kernel_rfl, by kernel_rfl, by kernel_rfl⟩
theorem table_ok : TableOk Try.prog T := by
  refine tableOk_of ?_
  simp only [tbl, List.forall_mem_cons, List.not_mem_nil, false_imp_iff, implies_true, and_true]
  exact ⟨ok_laws_FnExactBoxOf, ok_laws_szTree, ok_spec_LevelOf, ok_laws_toTree, ok_laws_eqTree, ok_spec_BoxOf, ok_impl_BoxOf, ok_spec_WayTo, ok_laws_szNodeS, ok_spec_l1In, ok_spec_l17Up, ok_laws_toNodeS, ok_impl_wayTo, ok_laws_eqNodeS, ok_spec_l17Inner, ok_impl_isLeaf, ok_spec_l1Max, ok_spec_l1Min, ok_impl_within, ok_laws_toNode, ok_impl_parent, ok_slices_Reverse___int_int_, ok_laws_eqNode, ok_slices_IndexFunc___impl_Node_impl_Node_, ok_impl_parent_1⟩
end Go.Pe
