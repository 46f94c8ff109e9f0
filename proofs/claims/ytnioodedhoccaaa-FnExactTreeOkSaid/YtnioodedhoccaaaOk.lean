/- Each compact text is its function of the program (table_ok); no condition. -/
import Derived.Test.YtnioodedhoccaaaRows
import Derived.Test.YtnioodedhoccaaaK0
import Derived.Test.YtnioodedhoccaaaEvB1
import Derived.KernelRfl
set_option linter.all false
namespace Go.Pe
open Go Go.Proofs
theorem ok_laws_FnExactTreeOk : EntryOk Try.prog k_laws_FnExactTreeOk (fnOf k_laws_FnExactTreeOk_ic k_laws_FnExactTreeOk_rv []) := ⟨_, _, k_laws_FnExactTreeOk_vars, Try.func13, rfl, by kernel_rfl, by kernel_rfl, by kernel_rfl⟩
theorem ok_laws_szTree : EntryOk Try.prog k_laws_szTree (fnOf k_laws_szTree_ic k_laws_szTree_rv []) := ⟨_, _, k_laws_szTree_vars, Try.func15, rfl, by kernel_rfl, by kernel_rfl, by kernel_rfl⟩
theorem ok_spec_LevelOf : EntryOk Try.prog k_spec_LevelOf (fnOf k_spec_LevelOf_ic k_spec_LevelOf_rv []) := ⟨_, _, k_spec_LevelOf_vars, Try.func16, rfl, by kernel_rfl, by kernel_rfl, by kernel_rfl⟩
theorem ok_laws_toTree : EntryOk Try.prog k_laws_toTree (fnOf k_laws_toTree_ic k_laws_toTree_rv []) := ⟨_, _, k_laws_toTree_vars, Try.func17, rfl, by kernel_rfl, by kernel_rfl, by kernel_rfl⟩
theorem ok_impl_LevelOf : EntryOk Try.prog k_impl_LevelOf (fnOf k_impl_LevelOf_ic k_impl_LevelOf_rv []) := ⟨_, _, k_impl_LevelOf_vars, Try.func18, rfl, by kernel_rfl, by kernel_rfl, by kernel_rfl⟩
theorem ok_laws_eqTree : EntryOk Try.prog k_laws_eqTree (fnOf k_laws_eqTree_ic k_laws_eqTree_rv []) := ⟨_, _, k_laws_eqTree_vars, Try.func19, rfl, by kernel_rfl, by kernel_rfl, by kernel_rfl⟩
theorem ok_spec_DepthOf : EntryOk Try.prog k_spec_DepthOf (fnOf k_spec_DepthOf_ic k_spec_DepthOf_rv []) := ⟨_, _, k_spec_DepthOf_vars, Try.func31, rfl, by kernel_rfl, by kernel_rfl, by kernel_rfl⟩
theorem ok_spec_TreeOk : EntryOk Try.prog k_spec_TreeOk (fnOf k_spec_TreeOk_ic k_spec_TreeOk_rv []) := ⟨_, _, k_spec_TreeOk_vars, Try.func52, rfl, by kernel_rfl, by kernel_rfl, by kernel_rfl⟩
theorem ok_impl_TreeOk : EntryOk Try.prog k_impl_TreeOk (fnOf k_impl_TreeOk_ic k_impl_TreeOk_rv []) := ⟨_, _, k_impl_TreeOk_vars, Try.func53, rfl, by kernel_rfl, by kernel_rfl, by kernel_rfl⟩
theorem ok_laws_szNodeS : EntryOk Try.prog k_laws_szNodeS (fnOf k_laws_szNodeS_ic k_laws_szNodeS_rv []) := ⟨_, _, k_laws_szNodeS_vars, Try.func59, rfl, by kernel_rfl, by kernel_rfl, by kernel_rfl⟩
theorem ok_spec_l1In : EntryOk Try.prog k_spec_l1In (fnOf k_spec_l1In_ic k_spec_l1In_rv []) := ⟨_, _, k_spec_l1In_vars, Try.func60, rfl, by kernel_rfl, by kernel_rfl, by kernel_rfl⟩
theorem ok_spec_l17Up : EntryOk Try.prog k_spec_l17Up (fnOf k_spec_l17Up_ic k_spec_l17Up_rv []) := ⟨_, _, k_spec_l17Up_vars, Try.func61, rfl, by kernel_rfl, by kernel_rfl, by kernel_rfl⟩
theorem ok_laws_toNodeS : EntryOk Try.prog k_laws_toNodeS (fnOf k_laws_toNodeS_ic k_laws_toNodeS_rv []) := ⟨_, _, k_laws_toNodeS_vars, Try.func62, rfl, by kernel_rfl, by kernel_rfl, by kernel_rfl⟩
theorem ok_impl_wayTo : EntryOk Try.prog k_impl_wayTo (fnOf k_impl_wayTo_ic k_impl_wayTo_rv []) := ⟨_, _, k_impl_wayTo_vars, Try.func63, rfl, by kernel_rfl, by kernel_rfl, by kernel_rfl⟩
theorem ok_laws_eqNodeS : EntryOk Try.prog k_laws_eqNodeS (fnOf k_laws_eqNodeS_ic k_laws_eqNodeS_rv []) := ⟨_, _, k_laws_eqNodeS_vars, Try.func64, rfl, by kernel_rfl, by kernel_rfl, by kernel_rfl⟩
theorem ok_spec_l17Inner : EntryOk Try.prog k_spec_l17Inner (fnOf k_spec_l17Inner_ic k_spec_l17Inner_rv []) := ⟨_, _, k_spec_l17Inner_vars, Try.func65, rfl, by kernel_rfl, by kernel_rfl, by kernel_rfl⟩
theorem ok_impl_isLeaf : EntryOk Try.prog k_impl_isLeaf (fnOf k_impl_isLeaf_ic k_impl_isLeaf_rv []) := ⟨_, _, k_impl_isLeaf_vars, Try.func66, rfl, by kernel_rfl, by kernel_rfl, by kernel_rfl⟩
theorem ok_spec_l14Leaf : EntryOk Try.prog k_spec_l14Leaf (fnOf k_spec_l14Leaf_ic k_spec_l14Leaf_rv []) := ⟨_, _, k_spec_l14Leaf_vars, Try.func70, rfl, by kernel_rfl, by kernel_rfl, by kernel_rfl⟩
theorem ok_impl_isLeafValue : EntryOk Try.prog k_impl_isLeafValue (fnOf k_impl_isLeafValue_ic k_impl_isLeafValue_rv []) := ⟨_, _, k_impl_isLeafValue_vars, Try.func73, rfl, by kernel_rfl, by kernel_rfl, by kernel_rfl⟩
theorem ok_spec_l1Max : EntryOk Try.prog k_spec_l1Max (fnOf k_spec_l1Max_ic k_spec_l1Max_rv []) := ⟨_, _, k_spec_l1Max_vars, Try.func75, rfl, by kernel_rfl, by kernel_rfl, by kernel_rfl⟩
theorem ok_spec_l17Shape : EntryOk Try.prog k_spec_l17Shape (fnOf k_spec_l17Shape_ic k_spec_l17Shape_rv []) := ⟨_, _, k_spec_l17Shape_vars, Try.func87, rfl, by kernel_rfl, by kernel_rfl, by kernel_rfl⟩
theorem ok_spec_l17Ways : EntryOk Try.prog k_spec_l17Ways (fnOf k_spec_l17Ways_ic k_spec_l17Ways_rv []) := ⟨_, _, k_spec_l17Ways_vars, Try.func88, rfl, by kernel_rfl, by kernel_rfl, by kernel_rfl⟩
theorem ok_impl_within : EntryOk Try.prog k_impl_within (fnOf k_impl_within_ic k_impl_within_rv []) := ⟨_, _, k_impl_within_vars, Try.func89, rfl, by kernel_rfl, by kernel_rfl, by kernel_rfl⟩
theorem ok_impl_shapeOk : EntryOk Try.prog k_impl_shapeOk (fnOf k_impl_shapeOk_ic k_impl_shapeOk_rv []) := ⟨_, _, k_impl_shapeOk_vars, Try.func90, rfl, by kernel_rfl, by kernel_rfl, by kernel_rfl⟩
theorem ok_laws_toNode : EntryOk Try.prog k_laws_toNode (fnOf k_laws_toNode_ic k_laws_toNode_rv []) := ⟨_, _, k_laws_toNode_vars, Try.func100, rfl, by kernel_rfl, by kernel_rfl, by kernel_rfl⟩
theorem ok_impl_parent : EntryOk Try.prog k_impl_parent (fnOf k_impl_parent_ic k_impl_parent_rv []) := ⟨_, _, k_impl_parent_vars, Try.func101, rfl, by kernel_rfl, by kernel_rfl, by kernel_rfl⟩
theorem ok_slices_Reverse___int_int_ : EntryOk Try.prog k_slices_Reverse___int_int_ (fnOf k_slices_Reverse___int_int__ic k_slices_Reverse___int_int__rv [true]) := ⟨_, _, k_slices_Reverse___int_int__vars, Try.func102, rfl, by kernel_rfl, by kernel_rfl, by kernel_rfl⟩
theorem ok_laws_eqNode : EntryOk Try.prog k_laws_eqNode (fnOf k_laws_eqNode_ic k_laws_eqNode_rv []) := ⟨_, _, k_laws_eqNode_vars, Try.func103, rfl, by kernel_rfl, by kernel_rfl, by kernel_rfl⟩
theorem ok_spec_l6Value : EntryOk Try.prog k_spec_l6Value (fnOf k_spec_l6Value_ic k_spec_l6Value_rv []) := ⟨_, _, k_spec_l6Value_vars, Try.func109, rfl, by kernel_rfl, by kernel_rfl, by kernel_rfl⟩
theorem ok_impl_isDecimal : EntryOk Try.prog k_impl_isDecimal (fnOf k_impl_isDecimal_ic k_impl_isDecimal_rv []) := ⟨_, _, k_impl_isDecimal_vars, Try.func110, rfl, by kernel_rfl, by kernel_rfl, by kernel_rfl⟩
theorem ok_slices_IndexFunc___impl_Node_impl_Node_ : EntryOk Try.prog k_slices_IndexFunc___impl_Node_impl_Node_ (fnOf k_slices_IndexFunc___impl_Node_impl_Node__ic k_slices_IndexFunc___impl_Node_impl_Node__rv []) := ⟨_, _, k_slices_IndexFunc___impl_Node_impl_Node__vars, Try.func115, rfl, by kernel_rfl, by kernel_rfl, by kernel_rfl⟩
theorem ok_impl_parent_1 : EntryOk Try.prog k_impl_parent_1 (fnOf k_impl_parent_1_ic k_impl_parent_1_rv []) := ⟨_, _, k_impl_parent_1_vars, Try.func116, rfl, by kernel_rfl, by kernel_rfl, by kernel_rfl⟩
theorem table_ok : TableOk Try.prog T := by
  refine tableOk_of ?_
  simp only [tbl, List.forall_mem_cons, List.not_mem_nil, false_imp_iff, implies_true, and_true]
  exact ⟨ok_laws_FnExactTreeOk, ok_laws_szTree, ok_spec_LevelOf, ok_laws_toTree, ok_impl_LevelOf, ok_laws_eqTree, ok_spec_DepthOf, ok_spec_TreeOk, ok_impl_TreeOk, ok_laws_szNodeS, ok_spec_l1In, ok_spec_l17Up, ok_laws_toNodeS, ok_impl_wayTo, ok_laws_eqNodeS, ok_spec_l17Inner, ok_impl_isLeaf, ok_spec_l14Leaf, ok_impl_isLeafValue, ok_spec_l1Max, ok_spec_l17Shape, ok_spec_l17Ways, ok_impl_within, ok_impl_shapeOk, ok_laws_toNode, ok_impl_parent, ok_slices_Reverse___int_int_, ok_laws_eqNode, ok_spec_l6Value, ok_impl_isDecimal, ok_slices_IndexFunc___impl_Node_impl_Node_, ok_impl_parent_1⟩
end Go.Pe
