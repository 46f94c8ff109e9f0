/- Each compact text is its function of the program (table_ok); no condition. -/
import Derived.Test.YthjpnjnlhmkepaaRows
import Derived.Test.YthjpnjnlhmkepaaK0
import Derived.Test.YthjpnjnlhmkepaaEvB2
import Derived.KernelRfl
set_option linter.all false
namespace Go.Pe
open Go Go.Proofs
theorem ok_laws_FnRoute : EntryOk Try.prog k_laws_FnRoute (fnOf k_laws_FnRoute_ic k_laws_FnRoute_rv []) := ⟨_, _, k_laws_FnRoute_vars, Try.func13, rfl, by kernel_rfl, by kernel_rfl, by kernel_rfl⟩
theorem ok_laws_big : EntryOk Try.prog k_laws_big (fnOf k_laws_big_ic k_laws_big_rv []) := ⟨_, _, k_laws_big_vars, Try.func15, rfl, by kernel_rfl, by kernel_rfl, by kernel_rfl⟩
theorem ok_spec_OneLeaf : EntryOk Try.prog k_spec_OneLeaf (fnOf k_spec_OneLeaf_ic k_spec_OneLeaf_rv []) := ⟨_, _, k_spec_OneLeaf_vars, Try.func31, rfl, by kernel_rfl, by kernel_rfl, by kernel_rfl⟩
theorem ok_impl_EvalTree : EntryOk Try.prog k_impl_EvalTree (fnOf k_impl_EvalTree_ic k_impl_EvalTree_rv []) := ⟨_, _, k_impl_EvalTree_vars, Try.func34, rfl, by kernel_rfl, by kernel_rfl, by kernel_rfl⟩
theorem ok_spec_WayTo : EntryOk Try.prog k_spec_WayTo (fnOf k_spec_WayTo_ic k_spec_WayTo_rv []) := ⟨_, _, k_spec_WayTo_vars, Try.func51, rfl, by kernel_rfl, by kernel_rfl, by kernel_rfl⟩
theorem ok_spec_TreeOk : EntryOk Try.prog k_spec_TreeOk (fnOf k_spec_TreeOk_ic k_spec_TreeOk_rv []) := ⟨_, _, k_spec_TreeOk_vars, Try.func54, rfl, by kernel_rfl, by kernel_rfl, by kernel_rfl⟩
theorem ok_spec_DepthOf : EntryOk Try.prog k_spec_DepthOf (fnOf k_spec_DepthOf_ic k_spec_DepthOf_rv []) := ⟨_, _, k_spec_DepthOf_vars, Try.func55, rfl, by kernel_rfl, by kernel_rfl, by kernel_rfl⟩
theorem ok_spec_DrawRouteTo : EntryOk Try.prog k_spec_DrawRouteTo (fnOf k_spec_DrawRouteTo_ic k_spec_DrawRouteTo_rv []) := ⟨_, _, k_spec_DrawRouteTo_vars, Try.func61, rfl, by kernel_rfl, by kernel_rfl, by kernel_rfl⟩
theorem ok_impl_RouteTo : EntryOk Try.prog k_impl_RouteTo (fnOf k_impl_RouteTo_ic k_impl_RouteTo_rv []) := ⟨_, _, k_impl_RouteTo_vars, Try.func62, rfl, by kernel_rfl, by kernel_rfl, by kernel_rfl⟩
theorem ok_spec_RouteTo : EntryOk Try.prog k_spec_RouteTo (fnOf k_spec_RouteTo_ic k_spec_RouteTo_rv []) := ⟨_, _, k_spec_RouteTo_vars, Try.func63, rfl, by kernel_rfl, by kernel_rfl, by kernel_rfl⟩
theorem ok_spec_LeavesOf : EntryOk Try.prog k_spec_LeavesOf (fnOf k_spec_LeavesOf_ic k_spec_LeavesOf_rv []) := ⟨_, _, k_spec_LeavesOf_vars, Try.func64, rfl, by kernel_rfl, by kernel_rfl, by kernel_rfl⟩
theorem ok_impl_BoxOf : EntryOk Try.prog k_impl_BoxOf (fnOf k_impl_BoxOf_ic k_impl_BoxOf_rv []) := ⟨_, _, k_impl_BoxOf_vars, Try.func65, rfl, by kernel_rfl, by kernel_rfl, by kernel_rfl⟩
theorem ok_spec_BoxOf : EntryOk Try.prog k_spec_BoxOf (fnOf k_spec_BoxOf_ic k_spec_BoxOf_rv []) := ⟨_, _, k_spec_BoxOf_vars, Try.func66, rfl, by kernel_rfl, by kernel_rfl, by kernel_rfl⟩
theorem ok_laws_has : EntryOk Try.prog k_laws_has (fnOf k_laws_has_ic k_laws_has_rv []) := ⟨_, _, k_laws_has_vars, Try.func67, rfl, by kernel_rfl, by kernel_rfl, by kernel_rfl⟩
theorem ok_spec_l1New : EntryOk Try.prog k_spec_l1New (fnOf k_spec_l1New_ic k_spec_l1New_rv []) := ⟨_, _, k_spec_l1New_vars, Try.func79, rfl, by kernel_rfl, by kernel_rfl, by kernel_rfl⟩
theorem ok_spec_l1PickInt : EntryOk Try.prog k_spec_l1PickInt (fnOf k_spec_l1PickInt_ic k_spec_l1PickInt_rv [true, true]) := ⟨_, _, k_spec_l1PickInt_vars, Try.func82, rfl, by kernel_rfl, by kernel_rfl, by kernel_rfl⟩
theorem ok_spec_l1Whole : EntryOk Try.prog k_spec_l1Whole (fnOf k_spec_l1Whole_ic k_spec_l1Whole_rv [true]) := ⟨_, _, k_spec_l1Whole_vars, Try.func83, rfl, by kernel_rfl, by kernel_rfl, by kernel_rfl⟩
theorem ok_spec_l1Once : EntryOk Try.prog k_spec_l1Once (fnOf k_spec_l1Once_ic k_spec_l1Once_rv [true]) := ⟨_, _, k_spec_l1Once_vars, Try.func84, rfl, by kernel_rfl, by kernel_rfl, by kernel_rfl⟩
theorem ok_spec_l14Leaf : EntryOk Try.prog k_spec_l14Leaf (fnOf k_spec_l14Leaf_ic k_spec_l14Leaf_rv []) := ⟨_, _, k_spec_l14Leaf_vars, Try.func91, rfl, by kernel_rfl, by kernel_rfl, by kernel_rfl⟩
theorem ok_impl_within : EntryOk Try.prog k_impl_within (fnOf k_impl_within_ic k_impl_within_rv []) := ⟨_, _, k_impl_within_vars, Try.func92, rfl, by kernel_rfl, by kernel_rfl, by kernel_rfl⟩
theorem ok_impl_isLeaf : EntryOk Try.prog k_impl_isLeaf (fnOf k_impl_isLeaf_ic k_impl_isLeaf_rv []) := ⟨_, _, k_impl_isLeaf_vars, Try.func94, rfl, by kernel_rfl, by kernel_rfl, by kernel_rfl⟩
theorem ok_impl_wayTo : EntryOk Try.prog k_impl_wayTo (fnOf k_impl_wayTo_ic k_impl_wayTo_rv []) := ⟨_, _, k_impl_wayTo_vars, Try.func95, rfl, by kernel_rfl, by kernel_rfl, by kernel_rfl⟩
theorem ok_spec_l1Max : EntryOk Try.prog k_spec_l1Max (fnOf k_spec_l1Max_ic k_spec_l1Max_rv []) := ⟨_, _, k_spec_l1Max_vars, Try.func105, rfl, by kernel_rfl, by kernel_rfl, by kernel_rfl⟩
theorem ok_spec_LevelOf : EntryOk Try.prog k_spec_LevelOf (fnOf k_spec_LevelOf_ic k_spec_LevelOf_rv []) := ⟨_, _, k_spec_LevelOf_vars, Try.func109, rfl, by kernel_rfl, by kernel_rfl, by kernel_rfl⟩
theorem ok_spec_l17Up : EntryOk Try.prog k_spec_l17Up (fnOf k_spec_l17Up_ic k_spec_l17Up_rv []) := ⟨_, _, k_spec_l17Up_vars, Try.func110, rfl, by kernel_rfl, by kernel_rfl, by kernel_rfl⟩
theorem ok_spec_l17Bent : EntryOk Try.prog k_spec_l17Bent (fnOf k_spec_l17Bent_ic k_spec_l17Bent_rv [true]) := ⟨_, _, k_spec_l17Bent_vars, Try.func111, rfl, by kernel_rfl, by kernel_rfl, by kernel_rfl⟩
theorem ok_spec_l1In : EntryOk Try.prog k_spec_l1In (fnOf k_spec_l1In_ic k_spec_l1In_rv []) := ⟨_, _, k_spec_l1In_vars, Try.func112, rfl, by kernel_rfl, by kernel_rfl, by kernel_rfl⟩
theorem ok_spec_l17Shape : EntryOk Try.prog k_spec_l17Shape (fnOf k_spec_l17Shape_ic k_spec_l17Shape_rv []) := ⟨_, _, k_spec_l17Shape_vars, Try.func113, rfl, by kernel_rfl, by kernel_rfl, by kernel_rfl⟩
theorem ok_spec_l17Ways : EntryOk Try.prog k_spec_l17Ways (fnOf k_spec_l17Ways_ic k_spec_l17Ways_rv []) := ⟨_, _, k_spec_l17Ways_vars, Try.func114, rfl, by kernel_rfl, by kernel_rfl, by kernel_rfl⟩
theorem ok_spec_l1Below : EntryOk Try.prog k_spec_l1Below (fnOf k_spec_l1Below_ic k_spec_l1Below_rv [true]) := ⟨_, _, k_spec_l1Below_vars, Try.func116, rfl, by kernel_rfl, by kernel_rfl, by kernel_rfl⟩
theorem ok_spec_l18Row : EntryOk Try.prog k_spec_l18Row (fnOf k_spec_l18Row_ic k_spec_l18Row_rv [true]) := ⟨_, _, k_spec_l18Row_vars, Try.func117, rfl, by kernel_rfl, by kernel_rfl, by kernel_rfl⟩
theorem ok_impl_route : EntryOk Try.prog k_impl_route (fnOf k_impl_route_ic k_impl_route_rv []) := ⟨_, _, k_impl_route_vars, Try.func119, rfl, by kernel_rfl, by kernel_rfl, by kernel_rfl⟩
theorem ok_spec_l18Way : EntryOk Try.prog k_spec_l18Way (fnOf k_spec_l18Way_ic k_spec_l18Way_rv []) := ⟨_, _, k_spec_l18Way_vars, Try.func120, rfl, by kernel_rfl, by kernel_rfl, by kernel_rfl⟩
theorem ok_spec_l17Inner : EntryOk Try.prog k_spec_l17Inner (fnOf k_spec_l17Inner_ic k_spec_l17Inner_rv []) := ⟨_, _, k_spec_l17Inner_vars, Try.func122, rfl, by kernel_rfl, by kernel_rfl, by kernel_rfl⟩
theorem ok_spec_l1Min : EntryOk Try.prog k_spec_l1Min (fnOf k_spec_l1Min_ic k_spec_l1Min_rv []) := ⟨_, _, k_spec_l1Min_vars, Try.func123, rfl, by kernel_rfl, by kernel_rfl, by kernel_rfl⟩
theorem ok_laws_times : EntryOk Try.prog k_laws_times (fnOf k_laws_times_ic k_laws_times_rv []) := ⟨_, _, k_laws_times_vars, Try.func124, rfl, by kernel_rfl, by kernel_rfl, by kernel_rfl⟩
theorem ok_spec_l1Byte : EntryOk Try.prog k_spec_l1Byte (fnOf k_spec_l1Byte_ic k_spec_l1Byte_rv [true]) := ⟨_, _, k_spec_l1Byte_vars, Try.func130, rfl, by kernel_rfl, by kernel_rfl, by kernel_rfl⟩
theorem ok_impl_parent : EntryOk Try.prog k_impl_parent (fnOf k_impl_parent_ic k_impl_parent_rv []) := ⟨_, _, k_impl_parent_vars, Try.func139, rfl, by kernel_rfl, by kernel_rfl, by kernel_rfl⟩
theorem ok_slices_Reverse___int_int_ : EntryOk Try.prog k_slices_Reverse___int_int_ (fnOf k_slices_Reverse___int_int__ic k_slices_Reverse___int_int__rv [true]) := ⟨_, _, k_slices_Reverse___int_int__vars, Try.func140, rfl, by kernel_rfl, by kernel_rfl, by kernel_rfl⟩
theorem ok_spec_l17Right : EntryOk Try.prog k_spec_l17Right (fnOf k_spec_l17Right_ic k_spec_l17Right_rv [true]) := ⟨_, _, k_spec_l17Right_vars, Try.func150, rfl, by kernel_rfl, by kernel_rfl, by kernel_rfl⟩
theorem ok_spec_l6Value : EntryOk Try.prog k_spec_l6Value (fnOf k_spec_l6Value_ic k_spec_l6Value_rv []) := ⟨_, _, k_spec_l6Value_vars, Try.func151, rfl, by kernel_rfl, by kernel_rfl, by kernel_rfl⟩
theorem ok_slices_IndexFunc___impl_Node_impl_Node_ : EntryOk Try.prog k_slices_IndexFunc___impl_Node_impl_Node_ (fnOf k_slices_IndexFunc___impl_Node_impl_Node__ic k_slices_IndexFunc___impl_Node_impl_Node__rv []) := ⟨_, _, k_slices_IndexFunc___impl_Node_impl_Node__vars, Try.func156, rfl, by kernel_rfl, by kernel_rfl, by kernel_rfl⟩
theorem ok_impl_parent_1 : EntryOk Try.prog k_impl_parent_1 (fnOf k_impl_parent_1_ic k_impl_parent_1_rv []) := ⟨_, _, k_impl_parent_1_vars, Try.func157, rfl, by kernel_rfl, by kernel_rfl, by kernel_rfl⟩
theorem ok_spec_l17Grown : EntryOk Try.prog k_spec_l17Grown (fnOf k_spec_l17Grown_ic k_spec_l17Grown_rv []) := ⟨_, _, k_spec_l17Grown_vars, Try.func160, rfl, by kernel_rfl, by kernel_rfl, by kernel_rfl⟩
theorem ok_spec_l17Levels : EntryOk Try.prog k_spec_l17Levels (fnOf k_spec_l17Levels_ic k_spec_l17Levels_rv []) := ⟨_, _, k_spec_l17Levels_vars, Try.func162, rfl, by kernel_rfl, by kernel_rfl, by kernel_rfl⟩
theorem table_ok : TableOk Try.prog T := by
  refine tableOk_of ?_
  simp only [tbl, List.forall_mem_cons, List.not_mem_nil, false_imp_iff, implies_true, and_true]
  exact ⟨ok_laws_FnRoute, ok_laws_big, ok_spec_OneLeaf, ok_impl_EvalTree, ok_spec_WayTo, ok_spec_TreeOk, ok_spec_DepthOf, ok_spec_DrawRouteTo, ok_impl_RouteTo, ok_spec_RouteTo, ok_spec_LeavesOf, ok_impl_BoxOf, ok_spec_BoxOf, ok_laws_has, ok_spec_l1New, ok_spec_l1PickInt, ok_spec_l1Whole, ok_spec_l1Once, ok_spec_l14Leaf, ok_impl_within, ok_impl_isLeaf, ok_impl_wayTo, ok_spec_l1Max, ok_spec_LevelOf, ok_spec_l17Up, ok_spec_l17Bent, ok_spec_l1In, ok_spec_l17Shape, ok_spec_l17Ways, ok_spec_l1Below, ok_spec_l18Row, ok_impl_route, ok_spec_l18Way, ok_spec_l17Inner, ok_spec_l1Min, ok_laws_times, ok_spec_l1Byte, ok_impl_parent, ok_slices_Reverse___int_int_, ok_spec_l17Right, ok_spec_l6Value, ok_slices_IndexFunc___impl_Node_impl_Node_, ok_impl_parent_1, ok_spec_l17Grown, ok_spec_l17Levels⟩
end Go.Pe
