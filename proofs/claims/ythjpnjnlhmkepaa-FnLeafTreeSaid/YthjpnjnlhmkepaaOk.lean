/- Each compact text is its function of the program (table_ok); no condition. -/
import Derived.Test.YthjpnjnlhmkepaaRows
import Derived.Test.YthjpnjnlhmkepaaK0
import Derived.Test.YthjpnjnlhmkepaaEvB1
import Derived.KernelRfl
set_option linter.all false
namespace Go.Pe
open Go Go.Proofs
theorem ok_laws_FnLeafTree : EntryOk Try.prog k_laws_FnLeafTree (fnOf k_laws_FnLeafTree_ic k_laws_FnLeafTree_rv []) := ⟨_, _, k_laws_FnLeafTree_vars, Try.func6, rfl, by kernel_rfl, by kernel_rfl, by kernel_rfl⟩
theorem ok_laws_big : EntryOk Try.prog k_laws_big (fnOf k_laws_big_ic k_laws_big_rv []) := ⟨_, _, k_laws_big_vars, Try.func15, rfl, by kernel_rfl, by kernel_rfl, by kernel_rfl⟩
theorem ok_spec_DrawOneLeaf : EntryOk Try.prog k_spec_DrawOneLeaf (fnOf k_spec_DrawOneLeaf_ic k_spec_DrawOneLeaf_rv []) := ⟨_, _, k_spec_DrawOneLeaf_vars, Try.func28, rfl, by kernel_rfl, by kernel_rfl, by kernel_rfl⟩
theorem ok_impl_OneLeaf : EntryOk Try.prog k_impl_OneLeaf (fnOf k_impl_OneLeaf_ic k_impl_OneLeaf_rv []) := ⟨_, _, k_impl_OneLeaf_vars, Try.func29, rfl, by kernel_rfl, by kernel_rfl, by kernel_rfl⟩
theorem ok_spec_SameTree : EntryOk Try.prog k_spec_SameTree (fnOf k_spec_SameTree_ic k_spec_SameTree_rv []) := ⟨_, _, k_spec_SameTree_vars, Try.func30, rfl, by kernel_rfl, by kernel_rfl, by kernel_rfl⟩
theorem ok_spec_OneLeaf : EntryOk Try.prog k_spec_OneLeaf (fnOf k_spec_OneLeaf_ic k_spec_OneLeaf_rv []) := ⟨_, _, k_spec_OneLeaf_vars, Try.func31, rfl, by kernel_rfl, by kernel_rfl, by kernel_rfl⟩
theorem ok_impl_TreeOk : EntryOk Try.prog k_impl_TreeOk (fnOf k_impl_TreeOk_ic k_impl_TreeOk_rv []) := ⟨_, _, k_impl_TreeOk_vars, Try.func32, rfl, by kernel_rfl, by kernel_rfl, by kernel_rfl⟩
theorem ok_laws_fits : EntryOk Try.prog k_laws_fits (fnOf k_laws_fits_ic k_laws_fits_rv []) := ⟨_, _, k_laws_fits_vars, Try.func33, rfl, by kernel_rfl, by kernel_rfl, by kernel_rfl⟩
theorem ok_impl_EvalTree : EntryOk Try.prog k_impl_EvalTree (fnOf k_impl_EvalTree_ic k_impl_EvalTree_rv []) := ⟨_, _, k_impl_EvalTree_vars, Try.func34, rfl, by kernel_rfl, by kernel_rfl, by kernel_rfl⟩
theorem ok_impl_DepthOf : EntryOk Try.prog k_impl_DepthOf (fnOf k_impl_DepthOf_ic k_impl_DepthOf_rv []) := ⟨_, _, k_impl_DepthOf_vars, Try.func35, rfl, by kernel_rfl, by kernel_rfl, by kernel_rfl⟩
theorem ok_impl_LeavesOf : EntryOk Try.prog k_impl_LeavesOf (fnOf k_impl_LeavesOf_ic k_impl_LeavesOf_rv []) := ⟨_, _, k_impl_LeavesOf_vars, Try.func36, rfl, by kernel_rfl, by kernel_rfl, by kernel_rfl⟩
theorem ok_impl_LevelOf : EntryOk Try.prog k_impl_LevelOf (fnOf k_impl_LevelOf_ic k_impl_LevelOf_rv []) := ⟨_, _, k_impl_LevelOf_vars, Try.func52, rfl, by kernel_rfl, by kernel_rfl, by kernel_rfl⟩
theorem ok_impl_RouteTo : EntryOk Try.prog k_impl_RouteTo (fnOf k_impl_RouteTo_ic k_impl_RouteTo_rv []) := ⟨_, _, k_impl_RouteTo_vars, Try.func62, rfl, by kernel_rfl, by kernel_rfl, by kernel_rfl⟩
theorem ok_spec_l1New : EntryOk Try.prog k_spec_l1New (fnOf k_spec_l1New_ic k_spec_l1New_rv []) := ⟨_, _, k_spec_l1New_vars, Try.func79, rfl, by kernel_rfl, by kernel_rfl, by kernel_rfl⟩
theorem ok_spec_l1PickInt : EntryOk Try.prog k_spec_l1PickInt (fnOf k_spec_l1PickInt_ic k_spec_l1PickInt_rv [true, true]) := ⟨_, _, k_spec_l1PickInt_vars, Try.func82, rfl, by kernel_rfl, by kernel_rfl, by kernel_rfl⟩
theorem ok_spec_l1Whole : EntryOk Try.prog k_spec_l1Whole (fnOf k_spec_l1Whole_ic k_spec_l1Whole_rv [true]) := ⟨_, _, k_spec_l1Whole_vars, Try.func83, rfl, by kernel_rfl, by kernel_rfl, by kernel_rfl⟩
theorem ok_impl_isLeafValue : EntryOk Try.prog k_impl_isLeafValue (fnOf k_impl_isLeafValue_ic k_impl_isLeafValue_rv []) := ⟨_, _, k_impl_isLeafValue_vars, Try.func89, rfl, by kernel_rfl, by kernel_rfl, by kernel_rfl⟩
theorem ok_impl_within : EntryOk Try.prog k_impl_within (fnOf k_impl_within_ic k_impl_within_rv []) := ⟨_, _, k_impl_within_vars, Try.func92, rfl, by kernel_rfl, by kernel_rfl, by kernel_rfl⟩
theorem ok_impl_shapeOk : EntryOk Try.prog k_impl_shapeOk (fnOf k_impl_shapeOk_ic k_impl_shapeOk_rv []) := ⟨_, _, k_impl_shapeOk_vars, Try.func93, rfl, by kernel_rfl, by kernel_rfl, by kernel_rfl⟩
theorem ok_impl_isLeaf : EntryOk Try.prog k_impl_isLeaf (fnOf k_impl_isLeaf_ic k_impl_isLeaf_rv []) := ⟨_, _, k_impl_isLeaf_vars, Try.func94, rfl, by kernel_rfl, by kernel_rfl, by kernel_rfl⟩
theorem ok_impl_wayTo : EntryOk Try.prog k_impl_wayTo (fnOf k_impl_wayTo_ic k_impl_wayTo_rv []) := ⟨_, _, k_impl_wayTo_vars, Try.func95, rfl, by kernel_rfl, by kernel_rfl, by kernel_rfl⟩
theorem ok_spec_l1Below : EntryOk Try.prog k_spec_l1Below (fnOf k_spec_l1Below_ic k_spec_l1Below_rv [true]) := ⟨_, _, k_spec_l1Below_vars, Try.func116, rfl, by kernel_rfl, by kernel_rfl, by kernel_rfl⟩
theorem ok_impl_route : EntryOk Try.prog k_impl_route (fnOf k_impl_route_ic k_impl_route_rv []) := ⟨_, _, k_impl_route_vars, Try.func119, rfl, by kernel_rfl, by kernel_rfl, by kernel_rfl⟩
theorem ok_spec_l1Byte : EntryOk Try.prog k_spec_l1Byte (fnOf k_spec_l1Byte_ic k_spec_l1Byte_rv [true]) := ⟨_, _, k_spec_l1Byte_vars, Try.func130, rfl, by kernel_rfl, by kernel_rfl, by kernel_rfl⟩
theorem ok_impl_isDecimal : EntryOk Try.prog k_impl_isDecimal (fnOf k_impl_isDecimal_ic k_impl_isDecimal_rv []) := ⟨_, _, k_impl_isDecimal_vars, Try.func138, rfl, by kernel_rfl, by kernel_rfl, by kernel_rfl⟩
theorem ok_impl_parent : EntryOk Try.prog k_impl_parent (fnOf k_impl_parent_ic k_impl_parent_rv []) := ⟨_, _, k_impl_parent_vars, Try.func139, rfl, by kernel_rfl, by kernel_rfl, by kernel_rfl⟩
theorem ok_slices_Reverse___int_int_ : EntryOk Try.prog k_slices_Reverse___int_int_ (fnOf k_slices_Reverse___int_int__ic k_slices_Reverse___int_int__rv [true]) := ⟨_, _, k_slices_Reverse___int_int__vars, Try.func140, rfl, by kernel_rfl, by kernel_rfl, by kernel_rfl⟩
theorem ok_slices_IndexFunc___impl_Node_impl_Node_ : EntryOk Try.prog k_slices_IndexFunc___impl_Node_impl_Node_ (fnOf k_slices_IndexFunc___impl_Node_impl_Node__ic k_slices_IndexFunc___impl_Node_impl_Node__rv []) := ⟨_, _, k_slices_IndexFunc___impl_Node_impl_Node__vars, Try.func156, rfl, by kernel_rfl, by kernel_rfl, by kernel_rfl⟩
theorem ok_impl_parent_1 : EntryOk Try.prog k_impl_parent_1 (fnOf k_impl_parent_1_ic k_impl_parent_1_rv []) := ⟨_, _, k_impl_parent_1_vars, Try.func157, rfl, by kernel_rfl, by kernel_rfl, by kernel_rfl⟩
theorem table_ok : TableOk Try.prog T := by
  refine tableOk_of ?_
  simp only [tbl, List.forall_mem_cons, List.not_mem_nil, false_imp_iff, implies_true, and_true]
  exact ⟨ok_laws_FnLeafTree, ok_laws_big, ok_spec_DrawOneLeaf, ok_impl_OneLeaf, ok_spec_SameTree, ok_spec_OneLeaf, ok_impl_TreeOk, ok_laws_fits, ok_impl_EvalTree, ok_impl_DepthOf, ok_impl_LeavesOf, ok_impl_LevelOf, ok_impl_RouteTo, ok_spec_l1New, ok_spec_l1PickInt, ok_spec_l1Whole, ok_impl_isLeafValue, ok_impl_within, ok_impl_shapeOk, ok_impl_isLeaf, ok_impl_wayTo, ok_spec_l1Below, ok_impl_route, ok_spec_l1Byte, ok_impl_isDecimal, ok_impl_parent, ok_slices_Reverse___int_int_, ok_slices_IndexFunc___impl_Node_impl_Node_, ok_impl_parent_1⟩
end Go.Pe
