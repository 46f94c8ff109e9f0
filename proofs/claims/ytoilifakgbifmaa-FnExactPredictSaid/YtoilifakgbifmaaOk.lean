/- Each compact text is its function of the program (table_ok); no condition. -/
import Derived.Test.YtoilifakgbifmaaRows
import Derived.Test.YtoilifakgbifmaaK0
import Derived.Test.YtoilifakgbifmaaEvB1
import Derived.KernelRfl
set_option linter.all false
namespace Go.Pe
open Go Go.Proofs
theorem ok_laws_FnExactPredict : EntryOk Try.prog k_laws_FnExactPredict (fnOf k_laws_FnExactPredict_ic k_laws_FnExactPredict_rv []) := ⟨_, _, k_laws_FnExactPredict_vars, Try.func9, rfl, by kernel_rfl, by kernel_rfl, by kernel_rfl⟩
theorem ok_laws_szModel : EntryOk Try.prog k_laws_szModel (fnOf k_laws_szModel_ic k_laws_szModel_rv []) := ⟨_, _, k_laws_szModel_vars, Try.func14, rfl, by kernel_rfl, by kernel_rfl, by kernel_rfl⟩
theorem ok_laws_toModel : EntryOk Try.prog k_laws_toModel (fnOf k_laws_toModel_ic k_laws_toModel_rv []) := ⟨_, _, k_laws_toModel_vars, Try.func16, rfl, by kernel_rfl, by kernel_rfl, by kernel_rfl⟩
theorem ok_laws_eqModel : EntryOk Try.prog k_laws_eqModel (fnOf k_laws_eqModel_ic k_laws_eqModel_rv []) := ⟨_, _, k_laws_eqModel_vars, Try.func18, rfl, by kernel_rfl, by kernel_rfl, by kernel_rfl⟩
theorem ok_laws_szTree : EntryOk Try.prog k_laws_szTree (fnOf k_laws_szTree_ic k_laws_szTree_rv []) := ⟨_, _, k_laws_szTree_vars, Try.func19, rfl, by kernel_rfl, by kernel_rfl, by kernel_rfl⟩
theorem ok_laws_toTree : EntryOk Try.prog k_laws_toTree (fnOf k_laws_toTree_ic k_laws_toTree_rv []) := ⟨_, _, k_laws_toTree_vars, Try.func22, rfl, by kernel_rfl, by kernel_rfl, by kernel_rfl⟩
theorem ok_laws_eqTree : EntryOk Try.prog k_laws_eqTree (fnOf k_laws_eqTree_ic k_laws_eqTree_rv []) := ⟨_, _, k_laws_eqTree_vars, Try.func25, rfl, by kernel_rfl, by kernel_rfl, by kernel_rfl⟩
theorem ok_laws_toIntS : EntryOk Try.prog k_laws_toIntS (fnOf k_laws_toIntS_ic k_laws_toIntS_rv []) := ⟨_, _, k_laws_toIntS_vars, Try.func33, rfl, by kernel_rfl, by kernel_rfl, by kernel_rfl⟩
theorem ok_laws_eqIntS : EntryOk Try.prog k_laws_eqIntS (fnOf k_laws_eqIntS_ic k_laws_eqIntS_rv []) := ⟨_, _, k_laws_eqIntS_vars, Try.func37, rfl, by kernel_rfl, by kernel_rfl, by kernel_rfl⟩
theorem ok_spec_ModelOk : EntryOk Try.prog k_spec_ModelOk (fnOf k_spec_ModelOk_ic k_spec_ModelOk_rv []) := ⟨_, _, k_spec_ModelOk_vars, Try.func42, rfl, by kernel_rfl, by kernel_rfl, by kernel_rfl⟩
theorem ok_impl_ModelOk : EntryOk Try.prog k_impl_ModelOk (fnOf k_impl_ModelOk_ic k_impl_ModelOk_rv []) := ⟨_, _, k_impl_ModelOk_vars, Try.func43, rfl, by kernel_rfl, by kernel_rfl, by kernel_rfl⟩
theorem ok_spec_Predict : EntryOk Try.prog k_spec_Predict (fnOf k_spec_Predict_ic k_spec_Predict_rv []) := ⟨_, _, k_spec_Predict_vars, Try.func58, rfl, by kernel_rfl, by kernel_rfl, by kernel_rfl⟩
theorem ok_impl_Predict : EntryOk Try.prog k_impl_Predict (fnOf k_impl_Predict_ic k_impl_Predict_rv []) := ⟨_, _, k_impl_Predict_vars, Try.func59, rfl, by kernel_rfl, by kernel_rfl, by kernel_rfl⟩
theorem ok_laws_szStringS : EntryOk Try.prog k_laws_szStringS (fnOf k_laws_szStringS_ic k_laws_szStringS_rv []) := ⟨_, _, k_laws_szStringS_vars, Try.func74, rfl, by kernel_rfl, by kernel_rfl, by kernel_rfl⟩
theorem ok_laws_szIntS : EntryOk Try.prog k_laws_szIntS (fnOf k_laws_szIntS_ic k_laws_szIntS_rv []) := ⟨_, _, k_laws_szIntS_vars, Try.func75, rfl, by kernel_rfl, by kernel_rfl, by kernel_rfl⟩
theorem ok_laws_szTreeS : EntryOk Try.prog k_laws_szTreeS (fnOf k_laws_szTreeS_ic k_laws_szTreeS_rv []) := ⟨_, _, k_laws_szTreeS_vars, Try.func76, rfl, by kernel_rfl, by kernel_rfl, by kernel_rfl⟩
theorem ok_laws_toStringS : EntryOk Try.prog k_laws_toStringS (fnOf k_laws_toStringS_ic k_laws_toStringS_rv []) := ⟨_, _, k_laws_toStringS_vars, Try.func80, rfl, by kernel_rfl, by kernel_rfl, by kernel_rfl⟩
theorem ok_laws_toTreeS : EntryOk Try.prog k_laws_toTreeS (fnOf k_laws_toTreeS_ic k_laws_toTreeS_rv []) := ⟨_, _, k_laws_toTreeS_vars, Try.func81, rfl, by kernel_rfl, by kernel_rfl, by kernel_rfl⟩
theorem ok_laws_eqStringS : EntryOk Try.prog k_laws_eqStringS (fnOf k_laws_eqStringS_ic k_laws_eqStringS_rv []) := ⟨_, _, k_laws_eqStringS_vars, Try.func86, rfl, by kernel_rfl, by kernel_rfl, by kernel_rfl⟩
theorem ok_laws_eqTreeS : EntryOk Try.prog k_laws_eqTreeS (fnOf k_laws_eqTreeS_ic k_laws_eqTreeS_rv []) := ⟨_, _, k_laws_eqTreeS_vars, Try.func87, rfl, by kernel_rfl, by kernel_rfl, by kernel_rfl⟩
theorem ok_laws_szNodeS : EntryOk Try.prog k_laws_szNodeS (fnOf k_laws_szNodeS_ic k_laws_szNodeS_rv []) := ⟨_, _, k_laws_szNodeS_vars, Try.func88, rfl, by kernel_rfl, by kernel_rfl, by kernel_rfl⟩
theorem ok_spec_l17Inner : EntryOk Try.prog k_spec_l17Inner (fnOf k_spec_l17Inner_ic k_spec_l17Inner_rv []) := ⟨_, _, k_spec_l17Inner_vars, Try.func90, rfl, by kernel_rfl, by kernel_rfl, by kernel_rfl⟩
theorem ok_laws_toNodeS : EntryOk Try.prog k_laws_toNodeS (fnOf k_laws_toNodeS_ic k_laws_toNodeS_rv []) := ⟨_, _, k_laws_toNodeS_vars, Try.func92, rfl, by kernel_rfl, by kernel_rfl, by kernel_rfl⟩
theorem ok_laws_eqNodeS : EntryOk Try.prog k_laws_eqNodeS (fnOf k_laws_eqNodeS_ic k_laws_eqNodeS_rv []) := ⟨_, _, k_laws_eqNodeS_vars, Try.func96, rfl, by kernel_rfl, by kernel_rfl, by kernel_rfl⟩
theorem ok_spec_l1In : EntryOk Try.prog k_spec_l1In (fnOf k_spec_l1In_ic k_spec_l1In_rv []) := ⟨_, _, k_spec_l1In_vars, Try.func106, rfl, by kernel_rfl, by kernel_rfl, by kernel_rfl⟩
theorem ok_spec_l6Value : EntryOk Try.prog k_spec_l6Value (fnOf k_spec_l6Value_ic k_spec_l6Value_rv []) := ⟨_, _, k_spec_l6Value_vars, Try.func107, rfl, by kernel_rfl, by kernel_rfl, by kernel_rfl⟩
theorem ok_spec_NameOk : EntryOk Try.prog k_spec_NameOk (fnOf k_spec_NameOk_ic k_spec_NameOk_rv []) := ⟨_, _, k_spec_NameOk_vars, Try.func108, rfl, by kernel_rfl, by kernel_rfl, by kernel_rfl⟩
theorem ok_spec_l9Has : EntryOk Try.prog k_spec_l9Has (fnOf k_spec_l9Has_ic k_spec_l9Has_rv []) := ⟨_, _, k_spec_l9Has_vars, Try.func109, rfl, by kernel_rfl, by kernel_rfl, by kernel_rfl⟩
theorem ok_spec_TreeOk : EntryOk Try.prog k_spec_TreeOk (fnOf k_spec_TreeOk_ic k_spec_TreeOk_rv []) := ⟨_, _, k_spec_TreeOk_vars, Try.func110, rfl, by kernel_rfl, by kernel_rfl, by kernel_rfl⟩
theorem ok_impl_within : EntryOk Try.prog k_impl_within (fnOf k_impl_within_ic k_impl_within_rv []) := ⟨_, _, k_impl_within_vars, Try.func111, rfl, by kernel_rfl, by kernel_rfl, by kernel_rfl⟩
theorem ok_impl_areNames : EntryOk Try.prog k_impl_areNames (fnOf k_impl_areNames_ic k_impl_areNames_rv []) := ⟨_, _, k_impl_areNames_vars, Try.func112, rfl, by kernel_rfl, by kernel_rfl, by kernel_rfl⟩
theorem ok_slices_ContainsFunc___int_int_ : EntryOk Try.prog k_slices_ContainsFunc___int_int_ (fnOf k_slices_ContainsFunc___int_int__ic k_slices_ContainsFunc___int_int__rv []) := ⟨_, _, k_slices_ContainsFunc___int_int__vars, Try.func113, rfl, by kernel_rfl, by kernel_rfl, by kernel_rfl⟩
theorem ok_impl_ModelOk_1 : EntryOk Try.prog k_impl_ModelOk_1 (fnOf k_impl_ModelOk_1_ic k_impl_ModelOk_1_rv []) := ⟨_, _, k_impl_ModelOk_1_vars, Try.func114, rfl, by kernel_rfl, by kernel_rfl, by kernel_rfl⟩
theorem ok_impl_isSign : EntryOk Try.prog k_impl_isSign (fnOf k_impl_isSign_ic k_impl_isSign_rv []) := ⟨_, _, k_impl_isSign_vars, Try.func115, rfl, by kernel_rfl, by kernel_rfl, by kernel_rfl⟩
theorem ok_impl_isDecimal : EntryOk Try.prog k_impl_isDecimal (fnOf k_impl_isDecimal_ic k_impl_isDecimal_rv []) := ⟨_, _, k_impl_isDecimal_vars, Try.func116, rfl, by kernel_rfl, by kernel_rfl, by kernel_rfl⟩
theorem ok_slices_ContainsFunc___impl_Tree_impl_Tree_ : EntryOk Try.prog k_slices_ContainsFunc___impl_Tree_impl_Tree_ (fnOf k_slices_ContainsFunc___impl_Tree_impl_Tree__ic k_slices_ContainsFunc___impl_Tree_impl_Tree__rv []) := ⟨_, _, k_slices_ContainsFunc___impl_Tree_impl_Tree__vars, Try.func117, rfl, by kernel_rfl, by kernel_rfl, by kernel_rfl⟩
theorem ok_impl_ModelOk_2 : EntryOk Try.prog k_impl_ModelOk_2 (fnOf k_impl_ModelOk_2_ic k_impl_ModelOk_2_rv []) := ⟨_, _, k_impl_ModelOk_2_vars, Try.func118, rfl, by kernel_rfl, by kernel_rfl, by kernel_rfl⟩
theorem ok_impl_TreeOk : EntryOk Try.prog k_impl_TreeOk (fnOf k_impl_TreeOk_ic k_impl_TreeOk_rv []) := ⟨_, _, k_impl_TreeOk_vars, Try.func119, rfl, by kernel_rfl, by kernel_rfl, by kernel_rfl⟩
theorem ok_spec_EvalTree : EntryOk Try.prog k_spec_EvalTree (fnOf k_spec_EvalTree_ic k_spec_EvalTree_rv []) := ⟨_, _, k_spec_EvalTree_vars, Try.func131, rfl, by kernel_rfl, by kernel_rfl, by kernel_rfl⟩
theorem ok_impl_EvalTree : EntryOk Try.prog k_impl_EvalTree (fnOf k_impl_EvalTree_ic k_impl_EvalTree_rv []) := ⟨_, _, k_impl_EvalTree_vars, Try.func132, rfl, by kernel_rfl, by kernel_rfl, by kernel_rfl⟩
theorem ok_spec_l14Leaf : EntryOk Try.prog k_spec_l14Leaf (fnOf k_spec_l14Leaf_ic k_spec_l14Leaf_rv []) := ⟨_, _, k_spec_l14Leaf_vars, Try.func147, rfl, by kernel_rfl, by kernel_rfl, by kernel_rfl⟩
theorem ok_laws_toNode : EntryOk Try.prog k_laws_toNode (fnOf k_laws_toNode_ic k_laws_toNode_rv []) := ⟨_, _, k_laws_toNode_vars, Try.func149, rfl, by kernel_rfl, by kernel_rfl, by kernel_rfl⟩
theorem ok_impl_isLeaf : EntryOk Try.prog k_impl_isLeaf (fnOf k_impl_isLeaf_ic k_impl_isLeaf_rv []) := ⟨_, _, k_impl_isLeaf_vars, Try.func151, rfl, by kernel_rfl, by kernel_rfl, by kernel_rfl⟩
theorem ok_impl_isLeafValue : EntryOk Try.prog k_impl_isLeafValue (fnOf k_impl_isLeafValue_ic k_impl_isLeafValue_rv []) := ⟨_, _, k_impl_isLeafValue_vars, Try.func153, rfl, by kernel_rfl, by kernel_rfl, by kernel_rfl⟩
theorem ok_laws_eqNode : EntryOk Try.prog k_laws_eqNode (fnOf k_laws_eqNode_ic k_laws_eqNode_rv []) := ⟨_, _, k_laws_eqNode_vars, Try.func155, rfl, by kernel_rfl, by kernel_rfl, by kernel_rfl⟩
theorem ok_spec_l17Shape : EntryOk Try.prog k_spec_l17Shape (fnOf k_spec_l17Shape_ic k_spec_l17Shape_rv []) := ⟨_, _, k_spec_l17Shape_vars, Try.func164, rfl, by kernel_rfl, by kernel_rfl, by kernel_rfl⟩
theorem ok_spec_DepthOf : EntryOk Try.prog k_spec_DepthOf (fnOf k_spec_DepthOf_ic k_spec_DepthOf_rv []) := ⟨_, _, k_spec_DepthOf_vars, Try.func165, rfl, by kernel_rfl, by kernel_rfl, by kernel_rfl⟩
theorem ok_spec_l17Ways : EntryOk Try.prog k_spec_l17Ways (fnOf k_spec_l17Ways_ic k_spec_l17Ways_rv []) := ⟨_, _, k_spec_l17Ways_vars, Try.func166, rfl, by kernel_rfl, by kernel_rfl, by kernel_rfl⟩
theorem ok_impl_NameOk : EntryOk Try.prog k_impl_NameOk (fnOf k_impl_NameOk_ic k_impl_NameOk_rv []) := ⟨_, _, k_impl_NameOk_vars, Try.func167, rfl, by kernel_rfl, by kernel_rfl, by kernel_rfl⟩
theorem ok_slices_Contains___string_string_ : EntryOk Try.prog k_slices_Contains___string_string_ (fnOf k_slices_Contains___string_string__ic k_slices_Contains___string_string__rv []) := ⟨_, _, k_slices_Contains___string_string__vars, Try.func168, rfl, by kernel_rfl, by kernel_rfl, by kernel_rfl⟩
theorem ok_slices_IndexFunc___int_int_ : EntryOk Try.prog k_slices_IndexFunc___int_int_ (fnOf k_slices_IndexFunc___int_int__ic k_slices_IndexFunc___int_int__rv []) := ⟨_, _, k_slices_IndexFunc___int_int__vars, Try.func169, rfl, by kernel_rfl, by kernel_rfl, by kernel_rfl⟩
theorem ok_slices_IndexFunc___impl_Tree_impl_Tree_ : EntryOk Try.prog k_slices_IndexFunc___impl_Tree_impl_Tree_ (fnOf k_slices_IndexFunc___impl_Tree_impl_Tree__ic k_slices_IndexFunc___impl_Tree_impl_Tree__rv []) := ⟨_, _, k_slices_IndexFunc___impl_Tree_impl_Tree__vars, Try.func170, rfl, by kernel_rfl, by kernel_rfl, by kernel_rfl⟩
theorem ok_impl_shapeOk : EntryOk Try.prog k_impl_shapeOk (fnOf k_impl_shapeOk_ic k_impl_shapeOk_rv []) := ⟨_, _, k_impl_shapeOk_vars, Try.func171, rfl, by kernel_rfl, by kernel_rfl, by kernel_rfl⟩
theorem ok_impl_LevelOf : EntryOk Try.prog k_impl_LevelOf (fnOf k_impl_LevelOf_ic k_impl_LevelOf_rv []) := ⟨_, _, k_impl_LevelOf_vars, Try.func172, rfl, by kernel_rfl, by kernel_rfl, by kernel_rfl⟩
theorem ok_impl_wayTo : EntryOk Try.prog k_impl_wayTo (fnOf k_impl_wayTo_ic k_impl_wayTo_rv []) := ⟨_, _, k_impl_wayTo_vars, Try.func173, rfl, by kernel_rfl, by kernel_rfl, by kernel_rfl⟩
theorem ok_spec_RouteTo : EntryOk Try.prog k_spec_RouteTo (fnOf k_spec_RouteTo_ic k_spec_RouteTo_rv []) := ⟨_, _, k_spec_RouteTo_vars, Try.func187, rfl, by kernel_rfl, by kernel_rfl, by kernel_rfl⟩
theorem ok_impl_RouteTo : EntryOk Try.prog k_impl_RouteTo (fnOf k_impl_RouteTo_ic k_impl_RouteTo_rv []) := ⟨_, _, k_impl_RouteTo_vars, Try.func188, rfl, by kernel_rfl, by kernel_rfl, by kernel_rfl⟩
theorem ok_spec_l1Max : EntryOk Try.prog k_spec_l1Max (fnOf k_spec_l1Max_ic k_spec_l1Max_rv []) := ⟨_, _, k_spec_l1Max_vars, Try.func208, rfl, by kernel_rfl, by kernel_rfl, by kernel_rfl⟩
theorem ok_spec_LevelOf : EntryOk Try.prog k_spec_LevelOf (fnOf k_spec_LevelOf_ic k_spec_LevelOf_rv []) := ⟨_, _, k_spec_LevelOf_vars, Try.func209, rfl, by kernel_rfl, by kernel_rfl, by kernel_rfl⟩
theorem ok_spec_l17Up : EntryOk Try.prog k_spec_l17Up (fnOf k_spec_l17Up_ic k_spec_l17Up_rv []) := ⟨_, _, k_spec_l17Up_vars, Try.func210, rfl, by kernel_rfl, by kernel_rfl, by kernel_rfl⟩
theorem ok_slices_Index___string_string_ : EntryOk Try.prog k_slices_Index___string_string_ (fnOf k_slices_Index___string_string__ic k_slices_Index___string_string__rv []) := ⟨_, _, k_slices_Index___string_string__vars, Try.func211, rfl, by kernel_rfl, by kernel_rfl, by kernel_rfl⟩
theorem ok_impl_parent : EntryOk Try.prog k_impl_parent (fnOf k_impl_parent_ic k_impl_parent_rv []) := ⟨_, _, k_impl_parent_vars, Try.func212, rfl, by kernel_rfl, by kernel_rfl, by kernel_rfl⟩
theorem ok_slices_Reverse___int_int_ : EntryOk Try.prog k_slices_Reverse___int_int_ (fnOf k_slices_Reverse___int_int__ic k_slices_Reverse___int_int__rv [true]) := ⟨_, _, k_slices_Reverse___int_int__vars, Try.func213, rfl, by kernel_rfl, by kernel_rfl, by kernel_rfl⟩
theorem ok_spec_l18Way : EntryOk Try.prog k_spec_l18Way (fnOf k_spec_l18Way_ic k_spec_l18Way_rv []) := ⟨_, _, k_spec_l18Way_vars, Try.func228, rfl, by kernel_rfl, by kernel_rfl, by kernel_rfl⟩
theorem ok_impl_route : EntryOk Try.prog k_impl_route (fnOf k_impl_route_ic k_impl_route_rv []) := ⟨_, _, k_impl_route_vars, Try.func229, rfl, by kernel_rfl, by kernel_rfl, by kernel_rfl⟩
theorem ok_slices_IndexFunc___impl_Node_impl_Node_ : EntryOk Try.prog k_slices_IndexFunc___impl_Node_impl_Node_ (fnOf k_slices_IndexFunc___impl_Node_impl_Node__ic k_slices_IndexFunc___impl_Node_impl_Node__rv []) := ⟨_, _, k_slices_IndexFunc___impl_Node_impl_Node__vars, Try.func236, rfl, by kernel_rfl, by kernel_rfl, by kernel_rfl⟩
theorem ok_impl_parent_1 : EntryOk Try.prog k_impl_parent_1 (fnOf k_impl_parent_1_ic k_impl_parent_1_rv []) := ⟨_, _, k_impl_parent_1_vars, Try.func237, rfl, by kernel_rfl, by kernel_rfl, by kernel_rfl⟩
theorem table_ok : TableOk Try.prog T := by
  refine tableOk_of ?_
  simp only [tbl, List.forall_mem_cons, List.not_mem_nil, false_imp_iff, implies_true, and_true]
  exact ⟨ok_laws_FnExactPredict, ok_laws_szModel, ok_laws_toModel, ok_laws_eqModel, ok_laws_szTree, ok_laws_toTree, ok_laws_eqTree, ok_laws_toIntS, ok_laws_eqIntS, ok_spec_ModelOk, ok_impl_ModelOk, ok_spec_Predict, ok_impl_Predict, ok_laws_szStringS, ok_laws_szIntS, ok_laws_szTreeS, ok_laws_toStringS, ok_laws_toTreeS, ok_laws_eqStringS, ok_laws_eqTreeS, ok_laws_szNodeS, ok_spec_l17Inner, ok_laws_toNodeS, ok_laws_eqNodeS, ok_spec_l1In, ok_spec_l6Value, ok_spec_NameOk, ok_spec_l9Has, ok_spec_TreeOk, ok_impl_within, ok_impl_areNames, ok_slices_ContainsFunc___int_int_, ok_impl_ModelOk_1, ok_impl_isSign, ok_impl_isDecimal, ok_slices_ContainsFunc___impl_Tree_impl_Tree_, ok_impl_ModelOk_2, ok_impl_TreeOk, ok_spec_EvalTree, ok_impl_EvalTree, ok_spec_l14Leaf, ok_laws_toNode, ok_impl_isLeaf, ok_impl_isLeafValue, ok_laws_eqNode, ok_spec_l17Shape, ok_spec_DepthOf, ok_spec_l17Ways, ok_impl_NameOk, ok_slices_Contains___string_string_, ok_slices_IndexFunc___int_int_, ok_slices_IndexFunc___impl_Tree_impl_Tree_, ok_impl_shapeOk, ok_impl_LevelOf, ok_impl_wayTo, ok_spec_RouteTo, ok_impl_RouteTo, ok_spec_l1Max, ok_spec_LevelOf, ok_spec_l17Up, ok_slices_Index___string_string_, ok_impl_parent, ok_slices_Reverse___int_int_, ok_spec_l18Way, ok_impl_route, ok_slices_IndexFunc___impl_Node_impl_Node_, ok_impl_parent_1⟩
end Go.Pe
