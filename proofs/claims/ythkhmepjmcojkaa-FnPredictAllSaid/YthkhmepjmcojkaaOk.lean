/- Each compact text is its function of the program (table_ok); no condition. -/
import Derived.Test.YthkhmepjmcojkaaRows
import Derived.Test.YthkhmepjmcojkaaK0
import Derived.Test.YthkhmepjmcojkaaEvB2
import Derived.KernelRfl
set_option linter.all false
namespace Go.Pe
open Go Go.Proofs
theorem ok_laws_FnPredictAll : EntryOk Try.prog k_laws_FnPredictAll (fnOf k_laws_FnPredictAll_ic k_laws_FnPredictAll_rv []) := ⟨_, _, k_laws_FnPredictAll_vars, Try.func3, rfl, by kernel_rfl, by kernel_rfl, by kernel_rfl⟩
theorem ok_laws_big : EntryOk Try.prog k_laws_big (fnOf k_laws_big_ic k_laws_big_rv []) := ⟨_, _, k_laws_big_vars, Try.func6, rfl, by kernel_rfl, by kernel_rfl, by kernel_rfl⟩
theorem ok_spec_DrawPredictAll : EntryOk Try.prog k_spec_DrawPredictAll (fnOf k_spec_DrawPredictAll_ic k_spec_DrawPredictAll_rv []) := ⟨_, _, k_spec_DrawPredictAll_vars, Try.func7, rfl, by kernel_rfl, by kernel_rfl, by kernel_rfl⟩
theorem ok_impl_PredictAll : EntryOk Try.prog k_impl_PredictAll (fnOf k_impl_PredictAll_ic k_impl_PredictAll_rv []) := ⟨_, _, k_impl_PredictAll_vars, Try.func8, rfl, by kernel_rfl, by kernel_rfl, by kernel_rfl⟩
theorem ok_spec_PredictAll : EntryOk Try.prog k_spec_PredictAll (fnOf k_spec_PredictAll_ic k_spec_PredictAll_rv []) := ⟨_, _, k_spec_PredictAll_vars, Try.func9, rfl, by kernel_rfl, by kernel_rfl, by kernel_rfl⟩
theorem ok_impl_Predict : EntryOk Try.prog k_impl_Predict (fnOf k_impl_Predict_ic k_impl_Predict_rv []) := ⟨_, _, k_impl_Predict_vars, Try.func10, rfl, by kernel_rfl, by kernel_rfl, by kernel_rfl⟩
theorem ok_impl_RouteTo : EntryOk Try.prog k_impl_RouteTo (fnOf k_impl_RouteTo_ic k_impl_RouteTo_rv []) := ⟨_, _, k_impl_RouteTo_vars, Try.func29, rfl, by kernel_rfl, by kernel_rfl, by kernel_rfl⟩
theorem ok_spec_RouteTo : EntryOk Try.prog k_spec_RouteTo (fnOf k_spec_RouteTo_ic k_spec_RouteTo_rv []) := ⟨_, _, k_spec_RouteTo_vars, Try.func30, rfl, by kernel_rfl, by kernel_rfl, by kernel_rfl⟩
theorem ok_spec_TreeOk : EntryOk Try.prog k_spec_TreeOk (fnOf k_spec_TreeOk_ic k_spec_TreeOk_rv []) := ⟨_, _, k_spec_TreeOk_vars, Try.func31, rfl, by kernel_rfl, by kernel_rfl, by kernel_rfl⟩
theorem ok_impl_TreeOk : EntryOk Try.prog k_impl_TreeOk (fnOf k_impl_TreeOk_ic k_impl_TreeOk_rv []) := ⟨_, _, k_impl_TreeOk_vars, Try.func32, rfl, by kernel_rfl, by kernel_rfl, by kernel_rfl⟩
theorem ok_spec_l1New : EntryOk Try.prog k_spec_l1New (fnOf k_spec_l1New_ic k_spec_l1New_rv []) := ⟨_, _, k_spec_l1New_vars, Try.func33, rfl, by kernel_rfl, by kernel_rfl, by kernel_rfl⟩
theorem ok_spec_l24Bent : EntryOk Try.prog k_spec_l24Bent (fnOf k_spec_l24Bent_ic k_spec_l24Bent_rv [true]) := ⟨_, _, k_spec_l24Bent_vars, Try.func34, rfl, by kernel_rfl, by kernel_rfl, by kernel_rfl⟩
theorem ok_spec_l1Below : EntryOk Try.prog k_spec_l1Below (fnOf k_spec_l1Below_ic k_spec_l1Below_rv [true]) := ⟨_, _, k_spec_l1Below_vars, Try.func35, rfl, by kernel_rfl, by kernel_rfl, by kernel_rfl⟩
theorem ok_spec_l18Row : EntryOk Try.prog k_spec_l18Row (fnOf k_spec_l18Row_ic k_spec_l18Row_rv [true]) := ⟨_, _, k_spec_l18Row_vars, Try.func36, rfl, by kernel_rfl, by kernel_rfl, by kernel_rfl⟩
theorem ok_spec_l1Once : EntryOk Try.prog k_spec_l1Once (fnOf k_spec_l1Once_ic k_spec_l1Once_rv [true]) := ⟨_, _, k_spec_l1Once_vars, Try.func37, rfl, by kernel_rfl, by kernel_rfl, by kernel_rfl⟩
theorem ok_spec_Predict : EntryOk Try.prog k_spec_Predict (fnOf k_spec_Predict_ic k_spec_Predict_rv []) := ⟨_, _, k_spec_Predict_vars, Try.func38, rfl, by kernel_rfl, by kernel_rfl, by kernel_rfl⟩
theorem ok_impl_ModelOk : EntryOk Try.prog k_impl_ModelOk (fnOf k_impl_ModelOk_ic k_impl_ModelOk_rv []) := ⟨_, _, k_impl_ModelOk_vars, Try.func39, rfl, by kernel_rfl, by kernel_rfl, by kernel_rfl⟩
theorem ok_impl_EvalTree : EntryOk Try.prog k_impl_EvalTree (fnOf k_impl_EvalTree_ic k_impl_EvalTree_rv []) := ⟨_, _, k_impl_EvalTree_vars, Try.func40, rfl, by kernel_rfl, by kernel_rfl, by kernel_rfl⟩
theorem ok_spec_l17Bent : EntryOk Try.prog k_spec_l17Bent (fnOf k_spec_l17Bent_ic k_spec_l17Bent_rv [true]) := ⟨_, _, k_spec_l17Bent_vars, Try.func50, rfl, by kernel_rfl, by kernel_rfl, by kernel_rfl⟩
theorem ok_spec_l17Inner : EntryOk Try.prog k_spec_l17Inner (fnOf k_spec_l17Inner_ic k_spec_l17Inner_rv []) := ⟨_, _, k_spec_l17Inner_vars, Try.func56, rfl, by kernel_rfl, by kernel_rfl, by kernel_rfl⟩
theorem ok_spec_LeavesOf : EntryOk Try.prog k_spec_LeavesOf (fnOf k_spec_LeavesOf_ic k_spec_LeavesOf_rv []) := ⟨_, _, k_spec_LeavesOf_vars, Try.func59, rfl, by kernel_rfl, by kernel_rfl, by kernel_rfl⟩
theorem ok_impl_route : EntryOk Try.prog k_impl_route (fnOf k_impl_route_ic k_impl_route_rv []) := ⟨_, _, k_impl_route_vars, Try.func61, rfl, by kernel_rfl, by kernel_rfl, by kernel_rfl⟩
theorem ok_spec_l18Way : EntryOk Try.prog k_spec_l18Way (fnOf k_spec_l18Way_ic k_spec_l18Way_rv []) := ⟨_, _, k_spec_l18Way_vars, Try.func62, rfl, by kernel_rfl, by kernel_rfl, by kernel_rfl⟩
theorem ok_spec_l1In : EntryOk Try.prog k_spec_l1In (fnOf k_spec_l1In_ic k_spec_l1In_rv []) := ⟨_, _, k_spec_l1In_vars, Try.func63, rfl, by kernel_rfl, by kernel_rfl, by kernel_rfl⟩
theorem ok_spec_l17Shape : EntryOk Try.prog k_spec_l17Shape (fnOf k_spec_l17Shape_ic k_spec_l17Shape_rv []) := ⟨_, _, k_spec_l17Shape_vars, Try.func64, rfl, by kernel_rfl, by kernel_rfl, by kernel_rfl⟩
theorem ok_spec_DepthOf : EntryOk Try.prog k_spec_DepthOf (fnOf k_spec_DepthOf_ic k_spec_DepthOf_rv []) := ⟨_, _, k_spec_DepthOf_vars, Try.func65, rfl, by kernel_rfl, by kernel_rfl, by kernel_rfl⟩
theorem ok_spec_l17Ways : EntryOk Try.prog k_spec_l17Ways (fnOf k_spec_l17Ways_ic k_spec_l17Ways_rv []) := ⟨_, _, k_spec_l17Ways_vars, Try.func66, rfl, by kernel_rfl, by kernel_rfl, by kernel_rfl⟩
theorem ok_impl_within : EntryOk Try.prog k_impl_within (fnOf k_impl_within_ic k_impl_within_rv []) := ⟨_, _, k_impl_within_vars, Try.func67, rfl, by kernel_rfl, by kernel_rfl, by kernel_rfl⟩
theorem ok_impl_shapeOk : EntryOk Try.prog k_impl_shapeOk (fnOf k_impl_shapeOk_ic k_impl_shapeOk_rv []) := ⟨_, _, k_impl_shapeOk_vars, Try.func68, rfl, by kernel_rfl, by kernel_rfl, by kernel_rfl⟩
theorem ok_impl_isLeaf : EntryOk Try.prog k_impl_isLeaf (fnOf k_impl_isLeaf_ic k_impl_isLeaf_rv []) := ⟨_, _, k_impl_isLeaf_vars, Try.func69, rfl, by kernel_rfl, by kernel_rfl, by kernel_rfl⟩
theorem ok_impl_LevelOf : EntryOk Try.prog k_impl_LevelOf (fnOf k_impl_LevelOf_ic k_impl_LevelOf_rv []) := ⟨_, _, k_impl_LevelOf_vars, Try.func70, rfl, by kernel_rfl, by kernel_rfl, by kernel_rfl⟩
theorem ok_impl_wayTo : EntryOk Try.prog k_impl_wayTo (fnOf k_impl_wayTo_ic k_impl_wayTo_rv []) := ⟨_, _, k_impl_wayTo_vars, Try.func71, rfl, by kernel_rfl, by kernel_rfl, by kernel_rfl⟩
theorem ok_spec_l24Right : EntryOk Try.prog k_spec_l24Right (fnOf k_spec_l24Right_ic k_spec_l24Right_rv [true]) := ⟨_, _, k_spec_l24Right_vars, Try.func72, rfl, by kernel_rfl, by kernel_rfl, by kernel_rfl⟩
theorem ok_spec_l1Pick : EntryOk Try.prog k_spec_l1Pick (fnOf k_spec_l1Pick_ic k_spec_l1Pick_rv [true, true]) := ⟨_, _, k_spec_l1Pick_vars, Try.func73, rfl, by kernel_rfl, by kernel_rfl, by kernel_rfl⟩
theorem ok_spec_l1PickInt : EntryOk Try.prog k_spec_l1PickInt (fnOf k_spec_l1PickInt_ic k_spec_l1PickInt_rv [true, true]) := ⟨_, _, k_spec_l1PickInt_vars, Try.func74, rfl, by kernel_rfl, by kernel_rfl, by kernel_rfl⟩
theorem ok_spec_OneLeaf : EntryOk Try.prog k_spec_OneLeaf (fnOf k_spec_OneLeaf_ic k_spec_OneLeaf_rv []) := ⟨_, _, k_spec_OneLeaf_vars, Try.func75, rfl, by kernel_rfl, by kernel_rfl, by kernel_rfl⟩
theorem ok_spec_l1Byte : EntryOk Try.prog k_spec_l1Byte (fnOf k_spec_l1Byte_ic k_spec_l1Byte_rv [true]) := ⟨_, _, k_spec_l1Byte_vars, Try.func76, rfl, by kernel_rfl, by kernel_rfl, by kernel_rfl⟩
theorem ok_spec_l1Whole : EntryOk Try.prog k_spec_l1Whole (fnOf k_spec_l1Whole_ic k_spec_l1Whole_rv [true]) := ⟨_, _, k_spec_l1Whole_vars, Try.func77, rfl, by kernel_rfl, by kernel_rfl, by kernel_rfl⟩
theorem ok_spec_ModelOk : EntryOk Try.prog k_spec_ModelOk (fnOf k_spec_ModelOk_ic k_spec_ModelOk_rv []) := ⟨_, _, k_spec_ModelOk_vars, Try.func78, rfl, by kernel_rfl, by kernel_rfl, by kernel_rfl⟩
theorem ok_spec_EvalTree : EntryOk Try.prog k_spec_EvalTree (fnOf k_spec_EvalTree_ic k_spec_EvalTree_rv []) := ⟨_, _, k_spec_EvalTree_vars, Try.func79, rfl, by kernel_rfl, by kernel_rfl, by kernel_rfl⟩
theorem ok_impl_areNames : EntryOk Try.prog k_impl_areNames (fnOf k_impl_areNames_ic k_impl_areNames_rv []) := ⟨_, _, k_impl_areNames_vars, Try.func80, rfl, by kernel_rfl, by kernel_rfl, by kernel_rfl⟩
theorem ok_slices_ContainsFunc___int_int_ : EntryOk Try.prog k_slices_ContainsFunc___int_int_ (fnOf k_slices_ContainsFunc___int_int__ic k_slices_ContainsFunc___int_int__rv []) := ⟨_, _, k_slices_ContainsFunc___int_int__vars, Try.func81, rfl, by kernel_rfl, by kernel_rfl, by kernel_rfl⟩
theorem ok_impl_ModelOk_1 : EntryOk Try.prog k_impl_ModelOk_1 (fnOf k_impl_ModelOk_1_ic k_impl_ModelOk_1_rv []) := ⟨_, _, k_impl_ModelOk_1_vars, Try.func82, rfl, by kernel_rfl, by kernel_rfl, by kernel_rfl⟩
theorem ok_impl_isSign : EntryOk Try.prog k_impl_isSign (fnOf k_impl_isSign_ic k_impl_isSign_rv []) := ⟨_, _, k_impl_isSign_vars, Try.func83, rfl, by kernel_rfl, by kernel_rfl, by kernel_rfl⟩
theorem ok_impl_isDecimal : EntryOk Try.prog k_impl_isDecimal (fnOf k_impl_isDecimal_ic k_impl_isDecimal_rv []) := ⟨_, _, k_impl_isDecimal_vars, Try.func84, rfl, by kernel_rfl, by kernel_rfl, by kernel_rfl⟩
theorem ok_slices_ContainsFunc___impl_Tree_impl_Tree_ : EntryOk Try.prog k_slices_ContainsFunc___impl_Tree_impl_Tree_ (fnOf k_slices_ContainsFunc___impl_Tree_impl_Tree__ic k_slices_ContainsFunc___impl_Tree_impl_Tree__rv []) := ⟨_, _, k_slices_ContainsFunc___impl_Tree_impl_Tree__vars, Try.func85, rfl, by kernel_rfl, by kernel_rfl, by kernel_rfl⟩
theorem ok_impl_ModelOk_2 : EntryOk Try.prog k_impl_ModelOk_2 (fnOf k_impl_ModelOk_2_ic k_impl_ModelOk_2_rv []) := ⟨_, _, k_impl_ModelOk_2_vars, Try.func86, rfl, by kernel_rfl, by kernel_rfl, by kernel_rfl⟩
theorem ok_spec_l17Right : EntryOk Try.prog k_spec_l17Right (fnOf k_spec_l17Right_ic k_spec_l17Right_rv [true]) := ⟨_, _, k_spec_l17Right_vars, Try.func104, rfl, by kernel_rfl, by kernel_rfl, by kernel_rfl⟩
theorem ok_impl_isLeafValue : EntryOk Try.prog k_impl_isLeafValue (fnOf k_impl_isLeafValue_ic k_impl_isLeafValue_rv []) := ⟨_, _, k_impl_isLeafValue_vars, Try.func107, rfl, by kernel_rfl, by kernel_rfl, by kernel_rfl⟩
theorem ok_spec_l14Leaf : EntryOk Try.prog k_spec_l14Leaf (fnOf k_spec_l14Leaf_ic k_spec_l14Leaf_rv []) := ⟨_, _, k_spec_l14Leaf_vars, Try.func109, rfl, by kernel_rfl, by kernel_rfl, by kernel_rfl⟩
theorem ok_spec_l6Value : EntryOk Try.prog k_spec_l6Value (fnOf k_spec_l6Value_ic k_spec_l6Value_rv []) := ⟨_, _, k_spec_l6Value_vars, Try.func114, rfl, by kernel_rfl, by kernel_rfl, by kernel_rfl⟩
theorem ok_spec_l1Max : EntryOk Try.prog k_spec_l1Max (fnOf k_spec_l1Max_ic k_spec_l1Max_rv []) := ⟨_, _, k_spec_l1Max_vars, Try.func115, rfl, by kernel_rfl, by kernel_rfl, by kernel_rfl⟩
theorem ok_spec_LevelOf : EntryOk Try.prog k_spec_LevelOf (fnOf k_spec_LevelOf_ic k_spec_LevelOf_rv []) := ⟨_, _, k_spec_LevelOf_vars, Try.func116, rfl, by kernel_rfl, by kernel_rfl, by kernel_rfl⟩
theorem ok_spec_l17Up : EntryOk Try.prog k_spec_l17Up (fnOf k_spec_l17Up_ic k_spec_l17Up_rv []) := ⟨_, _, k_spec_l17Up_vars, Try.func117, rfl, by kernel_rfl, by kernel_rfl, by kernel_rfl⟩
theorem ok_impl_parent : EntryOk Try.prog k_impl_parent (fnOf k_impl_parent_ic k_impl_parent_rv []) := ⟨_, _, k_impl_parent_vars, Try.func118, rfl, by kernel_rfl, by kernel_rfl, by kernel_rfl⟩
theorem ok_slices_Reverse___int_int_ : EntryOk Try.prog k_slices_Reverse___int_int_ (fnOf k_slices_Reverse___int_int__ic k_slices_Reverse___int_int__rv [true]) := ⟨_, _, k_slices_Reverse___int_int__vars, Try.func119, rfl, by kernel_rfl, by kernel_rfl, by kernel_rfl⟩
theorem ok_spec_NameOk : EntryOk Try.prog k_spec_NameOk (fnOf k_spec_NameOk_ic k_spec_NameOk_rv []) := ⟨_, _, k_spec_NameOk_vars, Try.func120, rfl, by kernel_rfl, by kernel_rfl, by kernel_rfl⟩
theorem ok_spec_l9Has : EntryOk Try.prog k_spec_l9Has (fnOf k_spec_l9Has_ic k_spec_l9Has_rv []) := ⟨_, _, k_spec_l9Has_vars, Try.func121, rfl, by kernel_rfl, by kernel_rfl, by kernel_rfl⟩
theorem ok_impl_NameOk : EntryOk Try.prog k_impl_NameOk (fnOf k_impl_NameOk_ic k_impl_NameOk_rv []) := ⟨_, _, k_impl_NameOk_vars, Try.func122, rfl, by kernel_rfl, by kernel_rfl, by kernel_rfl⟩
theorem ok_slices_Contains___string_string_ : EntryOk Try.prog k_slices_Contains___string_string_ (fnOf k_slices_Contains___string_string__ic k_slices_Contains___string_string__rv []) := ⟨_, _, k_slices_Contains___string_string__vars, Try.func123, rfl, by kernel_rfl, by kernel_rfl, by kernel_rfl⟩
theorem ok_slices_IndexFunc___int_int_ : EntryOk Try.prog k_slices_IndexFunc___int_int_ (fnOf k_slices_IndexFunc___int_int__ic k_slices_IndexFunc___int_int__rv []) := ⟨_, _, k_slices_IndexFunc___int_int__vars, Try.func124, rfl, by kernel_rfl, by kernel_rfl, by kernel_rfl⟩
theorem ok_slices_IndexFunc___impl_Tree_impl_Tree_ : EntryOk Try.prog k_slices_IndexFunc___impl_Tree_impl_Tree_ (fnOf k_slices_IndexFunc___impl_Tree_impl_Tree__ic k_slices_IndexFunc___impl_Tree_impl_Tree__rv []) := ⟨_, _, k_slices_IndexFunc___impl_Tree_impl_Tree__vars, Try.func125, rfl, by kernel_rfl, by kernel_rfl, by kernel_rfl⟩
theorem ok_spec_l17Grown : EntryOk Try.prog k_spec_l17Grown (fnOf k_spec_l17Grown_ic k_spec_l17Grown_rv []) := ⟨_, _, k_spec_l17Grown_vars, Try.func144, rfl, by kernel_rfl, by kernel_rfl, by kernel_rfl⟩
theorem ok_slices_IndexFunc___impl_Node_impl_Node_ : EntryOk Try.prog k_slices_IndexFunc___impl_Node_impl_Node_ (fnOf k_slices_IndexFunc___impl_Node_impl_Node__ic k_slices_IndexFunc___impl_Node_impl_Node__rv []) := ⟨_, _, k_slices_IndexFunc___impl_Node_impl_Node__vars, Try.func147, rfl, by kernel_rfl, by kernel_rfl, by kernel_rfl⟩
theorem ok_impl_parent_1 : EntryOk Try.prog k_impl_parent_1 (fnOf k_impl_parent_1_ic k_impl_parent_1_rv []) := ⟨_, _, k_impl_parent_1_vars, Try.func148, rfl, by kernel_rfl, by kernel_rfl, by kernel_rfl⟩
theorem ok_slices_Index___string_string_ : EntryOk Try.prog k_slices_Index___string_string_ (fnOf k_slices_Index___string_string__ic k_slices_Index___string_string__rv []) := ⟨_, _, k_slices_Index___string_string__vars, Try.func149, rfl, by kernel_rfl, by kernel_rfl, by kernel_rfl⟩
theorem ok_spec_l17Levels : EntryOk Try.prog k_spec_l17Levels (fnOf k_spec_l17Levels_ic k_spec_l17Levels_rv []) := ⟨_, _, k_spec_l17Levels_vars, Try.func171, rfl, by kernel_rfl, by kernel_rfl, by kernel_rfl⟩
theorem table_ok : TableOk Try.prog T := by
  refine tableOk_of ?_
  simp only [tbl, List.forall_mem_cons, List.not_mem_nil, false_imp_iff, implies_true, and_true]
  exact ⟨ok_laws_FnPredictAll, ok_laws_big, ok_spec_DrawPredictAll, ok_impl_PredictAll, ok_spec_PredictAll, ok_impl_Predict, ok_impl_RouteTo, ok_spec_RouteTo, ok_spec_TreeOk, ok_impl_TreeOk, ok_spec_l1New, ok_spec_l24Bent, ok_spec_l1Below, ok_spec_l18Row, ok_spec_l1Once, ok_spec_Predict, ok_impl_ModelOk, ok_impl_EvalTree, ok_spec_l17Bent, ok_spec_l17Inner, ok_spec_LeavesOf, ok_impl_route, ok_spec_l18Way, ok_spec_l1In, ok_spec_l17Shape, ok_spec_DepthOf, ok_spec_l17Ways, ok_impl_within, ok_impl_shapeOk, ok_impl_isLeaf, ok_impl_LevelOf, ok_impl_wayTo, ok_spec_l24Right, ok_spec_l1Pick, ok_spec_l1PickInt, ok_spec_OneLeaf, ok_spec_l1Byte, ok_spec_l1Whole, ok_spec_ModelOk, ok_spec_EvalTree, ok_impl_areNames, ok_slices_ContainsFunc___int_int_, ok_impl_ModelOk_1, ok_impl_isSign, ok_impl_isDecimal, ok_slices_ContainsFunc___impl_Tree_impl_Tree_, ok_impl_ModelOk_2, ok_spec_l17Right, ok_impl_isLeafValue, ok_spec_l14Leaf, ok_spec_l6Value, ok_spec_l1Max, ok_spec_LevelOf, ok_spec_l17Up, ok_impl_parent, ok_slices_Reverse___int_int_, ok_spec_NameOk, ok_spec_l9Has, ok_impl_NameOk, ok_slices_Contains___string_string_, ok_slices_IndexFunc___int_int_, ok_slices_IndexFunc___impl_Tree_impl_Tree_, ok_spec_l17Grown, ok_slices_IndexFunc___impl_Node_impl_Node_, ok_impl_parent_1, ok_slices_Index___string_string_, ok_spec_l17Levels⟩
end Go.Pe
