/- Each compact text is its function of the program (table_ok); no condition. -/
import Derived.Test.YtoilifakgbifmaaRows
import Derived.Test.YtoilifakgbifmaaK0
import Derived.Test.YtoilifakgbifmaaEvB2
import Derived.KernelRfl
set_option linter.all false
namespace Go.Pe
open Go Go.Proofs
theorem ok_laws_FnExactShrunkTree : EntryOk Try.prog k_laws_FnExactShrunkTree (fnOf k_laws_FnExactShrunkTree_ic k_laws_FnExactShrunkTree_rv []) := ⟨_, _, k_laws_FnExactShrunkTree_vars, Try.func4, rfl, by kernel_rfl, by kernel_rfl, by kernel_rfl⟩
theorem ok_laws_szTree : EntryOk Try.prog k_laws_szTree (fnOf k_laws_szTree_ic k_laws_szTree_rv []) := ⟨_, _, k_laws_szTree_vars, Try.func19, rfl, by kernel_rfl, by kernel_rfl, by kernel_rfl⟩
theorem ok_laws_szConfig : EntryOk Try.prog k_laws_szConfig (fnOf k_laws_szConfig_ic k_laws_szConfig_rv []) := ⟨_, _, k_laws_szConfig_vars, Try.func20, rfl, by kernel_rfl, by kernel_rfl, by kernel_rfl⟩
theorem ok_spec_ShrunkTree : EntryOk Try.prog k_spec_ShrunkTree (fnOf k_spec_ShrunkTree_ic k_spec_ShrunkTree_rv []) := ⟨_, _, k_spec_ShrunkTree_vars, Try.func21, rfl, by kernel_rfl, by kernel_rfl, by kernel_rfl⟩
theorem ok_laws_toTree : EntryOk Try.prog k_laws_toTree (fnOf k_laws_toTree_ic k_laws_toTree_rv []) := ⟨_, _, k_laws_toTree_vars, Try.func22, rfl, by kernel_rfl, by kernel_rfl, by kernel_rfl⟩
theorem ok_laws_toConfig : EntryOk Try.prog k_laws_toConfig (fnOf k_laws_toConfig_ic k_laws_toConfig_rv []) := ⟨_, _, k_laws_toConfig_vars, Try.func23, rfl, by kernel_rfl, by kernel_rfl, by kernel_rfl⟩
theorem ok_impl_ShrunkTree : EntryOk Try.prog k_impl_ShrunkTree (fnOf k_impl_ShrunkTree_ic k_impl_ShrunkTree_rv []) := ⟨_, _, k_impl_ShrunkTree_vars, Try.func24, rfl, by kernel_rfl, by kernel_rfl, by kernel_rfl⟩
theorem ok_laws_eqTree : EntryOk Try.prog k_laws_eqTree (fnOf k_laws_eqTree_ic k_laws_eqTree_rv []) := ⟨_, _, k_laws_eqTree_vars, Try.func25, rfl, by kernel_rfl, by kernel_rfl, by kernel_rfl⟩
theorem ok_laws_eqConfig : EntryOk Try.prog k_laws_eqConfig (fnOf k_laws_eqConfig_ic k_laws_eqConfig_rv []) := ⟨_, _, k_laws_eqConfig_vars, Try.func26, rfl, by kernel_rfl, by kernel_rfl, by kernel_rfl⟩
theorem ok_laws_markTree : EntryOk Try.prog k_laws_markTree (fnOf k_laws_markTree_ic k_laws_markTree_rv [true]) := ⟨_, _, k_laws_markTree_vars, Try.func27, rfl, by kernel_rfl, by kernel_rfl, by kernel_rfl⟩
theorem ok_laws_markConfig : EntryOk Try.prog k_laws_markConfig (fnOf k_laws_markConfig_ic k_laws_markConfig_rv [true]) := ⟨_, _, k_laws_markConfig_vars, Try.func28, rfl, by kernel_rfl, by kernel_rfl, by kernel_rfl⟩
theorem ok_laws_heldTree : EntryOk Try.prog k_laws_heldTree (fnOf k_laws_heldTree_ic k_laws_heldTree_rv []) := ⟨_, _, k_laws_heldTree_vars, Try.func29, rfl, by kernel_rfl, by kernel_rfl, by kernel_rfl⟩
theorem ok_laws_toIntS : EntryOk Try.prog k_laws_toIntS (fnOf k_laws_toIntS_ic k_laws_toIntS_rv []) := ⟨_, _, k_laws_toIntS_vars, Try.func33, rfl, by kernel_rfl, by kernel_rfl, by kernel_rfl⟩
theorem ok_laws_eqIntS : EntryOk Try.prog k_laws_eqIntS (fnOf k_laws_eqIntS_ic k_laws_eqIntS_rv []) := ⟨_, _, k_laws_eqIntS_vars, Try.func37, rfl, by kernel_rfl, by kernel_rfl, by kernel_rfl⟩
theorem ok_laws_markIntS : EntryOk Try.prog k_laws_markIntS (fnOf k_laws_markIntS_ic k_laws_markIntS_rv [true]) := ⟨_, _, k_laws_markIntS_vars, Try.func39, rfl, by kernel_rfl, by kernel_rfl, by kernel_rfl⟩
theorem ok_laws_szIntS : EntryOk Try.prog k_laws_szIntS (fnOf k_laws_szIntS_ic k_laws_szIntS_rv []) := ⟨_, _, k_laws_szIntS_vars, Try.func75, rfl, by kernel_rfl, by kernel_rfl, by kernel_rfl⟩
theorem ok_laws_szNodeS : EntryOk Try.prog k_laws_szNodeS (fnOf k_laws_szNodeS_ic k_laws_szNodeS_rv []) := ⟨_, _, k_laws_szNodeS_vars, Try.func88, rfl, by kernel_rfl, by kernel_rfl, by kernel_rfl⟩
theorem ok_spec_l17Copy : EntryOk Try.prog k_spec_l17Copy (fnOf k_spec_l17Copy_ic k_spec_l17Copy_rv []) := ⟨_, _, k_spec_l17Copy_vars, Try.func89, rfl, by kernel_rfl, by kernel_rfl, by kernel_rfl⟩
theorem ok_spec_l17Inner : EntryOk Try.prog k_spec_l17Inner (fnOf k_spec_l17Inner_ic k_spec_l17Inner_rv []) := ⟨_, _, k_spec_l17Inner_vars, Try.func90, rfl, by kernel_rfl, by kernel_rfl, by kernel_rfl⟩
theorem ok_spec_Shrunk : EntryOk Try.prog k_spec_Shrunk (fnOf k_spec_Shrunk_ic k_spec_Shrunk_rv []) := ⟨_, _, k_spec_Shrunk_vars, Try.func91, rfl, by kernel_rfl, by kernel_rfl, by kernel_rfl⟩
theorem ok_laws_toNodeS : EntryOk Try.prog k_laws_toNodeS (fnOf k_laws_toNodeS_ic k_laws_toNodeS_rv []) := ⟨_, _, k_laws_toNodeS_vars, Try.func92, rfl, by kernel_rfl, by kernel_rfl, by kernel_rfl⟩
theorem ok_impl_copyTree : EntryOk Try.prog k_impl_copyTree (fnOf k_impl_copyTree_ic k_impl_copyTree_rv []) := ⟨_, _, k_impl_copyTree_vars, Try.func93, rfl, by kernel_rfl, by kernel_rfl, by kernel_rfl⟩
theorem ok_impl_LeavesOf : EntryOk Try.prog k_impl_LeavesOf (fnOf k_impl_LeavesOf_ic k_impl_LeavesOf_rv []) := ⟨_, _, k_impl_LeavesOf_vars, Try.func94, rfl, by kernel_rfl, by kernel_rfl, by kernel_rfl⟩
theorem ok_impl_Shrunk : EntryOk Try.prog k_impl_Shrunk (fnOf k_impl_Shrunk_ic k_impl_Shrunk_rv []) := ⟨_, _, k_impl_Shrunk_vars, Try.func95, rfl, by kernel_rfl, by kernel_rfl, by kernel_rfl⟩
theorem ok_laws_eqNodeS : EntryOk Try.prog k_laws_eqNodeS (fnOf k_laws_eqNodeS_ic k_laws_eqNodeS_rv []) := ⟨_, _, k_laws_eqNodeS_vars, Try.func96, rfl, by kernel_rfl, by kernel_rfl, by kernel_rfl⟩
theorem ok_laws_markNodeS : EntryOk Try.prog k_laws_markNodeS (fnOf k_laws_markNodeS_ic k_laws_markNodeS_rv [true]) := ⟨_, _, k_laws_markNodeS_vars, Try.func97, rfl, by kernel_rfl, by kernel_rfl, by kernel_rfl⟩
theorem ok_laws_heldNodeS : EntryOk Try.prog k_laws_heldNodeS (fnOf k_laws_heldNodeS_ic k_laws_heldNodeS_rv []) := ⟨_, _, k_laws_heldNodeS_vars, Try.func98, rfl, by kernel_rfl, by kernel_rfl, by kernel_rfl⟩
theorem ok_spec_l1In : EntryOk Try.prog k_spec_l1In (fnOf k_spec_l1In_ic k_spec_l1In_rv []) := ⟨_, _, k_spec_l1In_vars, Try.func106, rfl, by kernel_rfl, by kernel_rfl, by kernel_rfl⟩
theorem ok_impl_within : EntryOk Try.prog k_impl_within (fnOf k_impl_within_ic k_impl_within_rv []) := ⟨_, _, k_impl_within_vars, Try.func111, rfl, by kernel_rfl, by kernel_rfl, by kernel_rfl⟩
theorem ok_slices_ContainsFunc___int_int_ : EntryOk Try.prog k_slices_ContainsFunc___int_int_ (fnOf k_slices_ContainsFunc___int_int__ic k_slices_ContainsFunc___int_int__rv []) := ⟨_, _, k_slices_ContainsFunc___int_int__vars, Try.func113, rfl, by kernel_rfl, by kernel_rfl, by kernel_rfl⟩
theorem ok_impl_isSign : EntryOk Try.prog k_impl_isSign (fnOf k_impl_isSign_ic k_impl_isSign_rv []) := ⟨_, _, k_impl_isSign_vars, Try.func115, rfl, by kernel_rfl, by kernel_rfl, by kernel_rfl⟩
theorem ok_spec_ConfigOk : EntryOk Try.prog k_spec_ConfigOk (fnOf k_spec_ConfigOk_ic k_spec_ConfigOk_rv []) := ⟨_, _, k_spec_ConfigOk_vars, Try.func146, rfl, by kernel_rfl, by kernel_rfl, by kernel_rfl⟩
theorem ok_spec_l14Leaf : EntryOk Try.prog k_spec_l14Leaf (fnOf k_spec_l14Leaf_ic k_spec_l14Leaf_rv []) := ⟨_, _, k_spec_l14Leaf_vars, Try.func147, rfl, by kernel_rfl, by kernel_rfl, by kernel_rfl⟩
theorem ok_spec_FloorDiv : EntryOk Try.prog k_spec_FloorDiv (fnOf k_spec_FloorDiv_ic k_spec_FloorDiv_rv []) := ⟨_, _, k_spec_FloorDiv_vars, Try.func148, rfl, by kernel_rfl, by kernel_rfl, by kernel_rfl⟩
theorem ok_laws_toNode : EntryOk Try.prog k_laws_toNode (fnOf k_laws_toNode_ic k_laws_toNode_rv []) := ⟨_, _, k_laws_toNode_vars, Try.func149, rfl, by kernel_rfl, by kernel_rfl, by kernel_rfl⟩
theorem ok_slices_Clone___impl_Node_impl_Node_ : EntryOk Try.prog k_slices_Clone___impl_Node_impl_Node_ (.known [] (cloneG 5 40)) := clone_ok (vars := [0, 2]) (z := [iv 0, iv 0, iv 0, iv 0, iv 0]) Try.func150 rfl rfl rfl (by kernel_rfl) (by kernel_rfl) (by kernel_rfl) (by kernel_rfl) (by kernel_rfl) (by kernel_rfl) rfl (by kernel_rfl) (by kernel_rfl) (by kernel_rfl) (by kernel_rfl)
theorem ok_impl_isLeaf : EntryOk Try.prog k_impl_isLeaf (fnOf k_impl_isLeaf_ic k_impl_isLeaf_rv []) := ⟨_, _, k_impl_isLeaf_vars, Try.func151, rfl, by kernel_rfl, by kernel_rfl, by kernel_rfl⟩
theorem ok_impl_ConfigOk : EntryOk Try.prog k_impl_ConfigOk (fnOf k_impl_ConfigOk_ic k_impl_ConfigOk_rv []) := ⟨_, _, k_impl_ConfigOk_vars, Try.func152, rfl, by kernel_rfl, by kernel_rfl, by kernel_rfl⟩
theorem ok_impl_isLeafValue : EntryOk Try.prog k_impl_isLeafValue (fnOf k_impl_isLeafValue_ic k_impl_isLeafValue_rv []) := ⟨_, _, k_impl_isLeafValue_vars, Try.func153, rfl, by kernel_rfl, by kernel_rfl, by kernel_rfl⟩
theorem ok_impl_FloorDiv : EntryOk Try.prog k_impl_FloorDiv (fnOf k_impl_FloorDiv_ic k_impl_FloorDiv_rv []) := ⟨_, _, k_impl_FloorDiv_vars, Try.func154, rfl, by kernel_rfl, by kernel_rfl, by kernel_rfl⟩
theorem ok_laws_eqNode : EntryOk Try.prog k_laws_eqNode (fnOf k_laws_eqNode_ic k_laws_eqNode_rv []) := ⟨_, _, k_laws_eqNode_vars, Try.func155, rfl, by kernel_rfl, by kernel_rfl, by kernel_rfl⟩
theorem ok_slices_IndexFunc___int_int_ : EntryOk Try.prog k_slices_IndexFunc___int_int_ (fnOf k_slices_IndexFunc___int_int__ic k_slices_IndexFunc___int_int__rv []) := ⟨_, _, k_slices_IndexFunc___int_int__vars, Try.func169, rfl, by kernel_rfl, by kernel_rfl, by kernel_rfl⟩
theorem ok_spec_l8Numbers : EntryOk Try.prog k_spec_l8Numbers (fnOf k_spec_l8Numbers_ic k_spec_l8Numbers_rv []) := ⟨_, _, k_spec_l8Numbers_vars, Try.func204, rfl, by kernel_rfl, by kernel_rfl, by kernel_rfl⟩
theorem ok_spec_l8Least : EntryOk Try.prog k_spec_l8Least (fnOf k_spec_l8Least_ic k_spec_l8Least_rv []) := ⟨_, _, k_spec_l8Least_vars, Try.func205, rfl, by kernel_rfl, by kernel_rfl, by kernel_rfl⟩
theorem ok_spec_l8Most : EntryOk Try.prog k_spec_l8Most (fnOf k_spec_l8Most_ic k_spec_l8Most_rv []) := ⟨_, _, k_spec_l8Most_vars, Try.func206, rfl, by kernel_rfl, by kernel_rfl, by kernel_rfl⟩
theorem ok_impl_ConfigOk_1 : EntryOk Try.prog k_impl_ConfigOk_1 (fnOf k_impl_ConfigOk_1_ic k_impl_ConfigOk_1_rv []) := ⟨_, _, k_impl_ConfigOk_1_vars, Try.func207, rfl, by kernel_rfl, by kernel_rfl, by kernel_rfl⟩
theorem table_ok : TableOk Try.prog T := by
  refine tableOk_of ?_
  simp only [tbl, List.forall_mem_cons, List.not_mem_nil, false_imp_iff, implies_true, and_true]
  exact ⟨ok_laws_FnExactShrunkTree, ok_laws_szTree, ok_laws_szConfig, ok_spec_ShrunkTree, ok_laws_toTree, ok_laws_toConfig, ok_impl_ShrunkTree, ok_laws_eqTree, ok_laws_eqConfig, ok_laws_markTree, ok_laws_markConfig, ok_laws_heldTree, ok_laws_toIntS, ok_laws_eqIntS, ok_laws_markIntS, ok_laws_szIntS, ok_laws_szNodeS, ok_spec_l17Copy, ok_spec_l17Inner, ok_spec_Shrunk, ok_laws_toNodeS, ok_impl_copyTree, ok_impl_LeavesOf, ok_impl_Shrunk, ok_laws_eqNodeS, ok_laws_markNodeS, ok_laws_heldNodeS, ok_spec_l1In, ok_impl_within, ok_slices_ContainsFunc___int_int_, ok_impl_isSign, ok_spec_ConfigOk, ok_spec_l14Leaf, ok_spec_FloorDiv, ok_laws_toNode, ok_slices_Clone___impl_Node_impl_Node_, ok_impl_isLeaf, ok_impl_ConfigOk, ok_impl_isLeafValue, ok_impl_FloorDiv, ok_laws_eqNode, ok_slices_IndexFunc___int_int_, ok_spec_l8Numbers, ok_spec_l8Least, ok_spec_l8Most, ok_impl_ConfigOk_1⟩
end Go.Pe
